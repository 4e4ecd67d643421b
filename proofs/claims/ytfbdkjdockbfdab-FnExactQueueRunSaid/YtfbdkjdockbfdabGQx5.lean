-- Written by this session's program hp.py (over the kit's printer) and out of its own hand texts. Not trusted: Lean checks it.
import Derived.Test.YtfbdkjdockbfdabGQx0
import Derived.Test.YtfbdkjdockbfdabGQx4
namespace Go.Proofs.Ytfbdkjdockbfdab.GQ
open Go.RowKit Go.Proofs.YtfbdkjdockbfdabW.PrintWords Go.Proofs.YtfbdkjdockbfdabW.PrintLast Go.Proofs.YtfbdkjdockbfdabW.PrintMore
attribute [local go_sem] max2_int min2_int max_two min_two max_three min_three max_four min_four   -- for this text's walks alone
set_option linter.unusedVariables false
set_option linter.unusedSimpArgs false

/-! ### impl_QueueOk: function 20 -/
open List renaming setIfInBounds_toArray → sA, set_cons_zero → sZ, set_cons_succ → sS
open Go.Proofs.YtfbdkjdockbfdabW.PrintWords.Aside0 renaming mk → AM
open Go.Proofs.YtfbdkjdockbfdabW.PrintWords renaming below_alloc → ba, pw_below_drewN → bn, below_drew1 → bd, below_set → bs, blk_drewN → kn, blk_drew → kd, blk_alloc → ka, blk_far → kf, blk_cell → kc, blk_frozen → kz, blk_below → kb, below_size → bz, below_step → bp, box_event → xe, gate_dst → gd
def impl_QueueOk.l0 : Nat → List (S51) → Int → Int → List (S51) → Int → Option (Bool)
  | 0, _, _, _, _, _ => none
  | k + 1, x6, x7, x8, x178000, x178001 => if x8 < x7 then (if 0 ≤ x8 then (if x8 < (x6.length : Int) then ((impl_in.f ((rd_T51 x6 x8).f0) 0 99).bind fun t181 => (if t181 = true then ((impl_in.f ((rd_T51 x6 x8).f1) 1 6).bind fun t182 => (if t182 = true then ((impl_in.f ((rd_T51 x6 x8).f2) 0 1000000).bind fun t183 => (if t183 = true then (if (rd_T51 x6 x8).f3 = true then (if ((rd_T51 x6 x8).f2) < x178001 then (some false) else (if x8 > 0 then (if 0 ≤ (wrap64 (x8 - 1)) then (if (wrap64 (x8 - 1)) < (x178000.length : Int) then (if ((rd_T51 x178000 (wrap64 (x8 - 1))).f0) ≥ ((rd_T51 x6 x8).f0) then (some false) else (impl_QueueOk.l0 k x6 x7 (wrap64 (x8 + 1)) x178000 x178001)) else (none)) else (none)) else (impl_QueueOk.l0 k x6 x7 (wrap64 (x8 + 1)) x178000 x178001))) else (if x8 > 0 then (if 0 ≤ (wrap64 (x8 - 1)) then (if (wrap64 (x8 - 1)) < (x178000.length : Int) then (if ((rd_T51 x178000 (wrap64 (x8 - 1))).f0) ≥ ((rd_T51 x6 x8).f0) then (some false) else (impl_QueueOk.l0 k x6 x7 (wrap64 (x8 + 1)) x178000 x178001)) else (none)) else (none)) else (impl_QueueOk.l0 k x6 x7 (wrap64 (x8 + 1)) x178000 x178001))) else (some false))) else (some false))) else (some false))) else (none)) else (none)) else (if (x178000.length : Int) ≤ 6 then ((impl_in.f x178001 0 1000000).bind fun t178 => (some t178)) else (some false))
def impl_QueueOk.f (k : Nat) (l0_0 : List (S51)) (a0_1 : Int) : Option (Bool) := impl_QueueOk.l0 k l0_0 (l0_0.length : Int) 0 l0_0 a0_1
theorem impl_QueueOk.mono_l : ∀ k, (∀ y0 y1 y2 y3 y4, LeO (impl_QueueOk.l0 k y0 y1 y2 y3 y4) (impl_QueueOk.l0 (k + 1) y0 y1 y2 y3 y4))
  | 0 => fun _ _ _ _ _ r h => by simp [impl_QueueOk.l0] at h
  | k + 1 => by
    have ih0 := impl_QueueOk.mono_l k
    · intro y0 y1 y2 y3 y4
      unfold impl_QueueOk.l0
      repeat' first
      | (with_reducible exact ih0 _ _ _ _ _)
      | (with_reducible exact LeO.refl _)
      | (with_reducible exact LeO.none _)
      | (with_reducible refine LeO.ite ?_ ?_)
      | (with_reducible refine LeO.bind ?_ (fun _ => ?_))
      | exact ih0 _ _ _ _ _
      | exact LeO.none _
      | refine LeO.ite ?_ ?_
      | refine LeO.bind ?_ (fun _ => ?_)
theorem impl_QueueOk.mono : ∀ a0 a1 k, LeO (impl_QueueOk.f k a0 a1) (impl_QueueOk.f (k + 1) a0 a1) := by
  intro a0 a1 k
  have ih0 := impl_QueueOk.mono_l k
  unfold impl_QueueOk.f
  repeat' first
      | (with_reducible exact ih0 _ _ _ _ _)
      | (with_reducible exact LeO.refl _)
      | (with_reducible exact LeO.none _)
      | (with_reducible refine LeO.ite ?_ ?_)
      | (with_reducible refine LeO.bind ?_ (fun _ => ?_))
      | exact ih0 _ _ _ _ _
      | exact LeO.none _
      | refine LeO.ite ?_ ?_
      | refine LeO.bind ?_ (fun _ => ?_)
def impl_QueueOk.T4 : Bool × List (List Nat × List Nat) := (true, [([], []), ([0], [0]), ([1], [1]), ([2], [2]), ([3, 2], [3]), ([4], [4]), ([5, 4], [4, 5]), ([6, 4, 4], [4, 6]), ([7, 4], [4, 7]), ([4, 8], [4, 8]), ([9, 7], [9]), ([10], [10]), ([11, 10], [10, 11]), ([12, 10, 10], [10, 12]), ([13, 10], [10, 13]), ([10, 14], [10, 14]), ([15, 13], [15]), ([16], [16]), ([17, 16], [16, 17]), ([18, 16, 16], [16, 18]), ([19], [19]), ([20, 19], [19, 20]), ([19], [19]), ([22, 19], [19, 22]), ([21, 23, 19], [19, 21, 23]), ([19, 24, 16], [16, 19, 24]), ([16, 25], [16, 25]), ([26, 19], [26]), ([27], [27]), ([28, 27], [27, 28]), ([29, 27, 27], [27, 29]), ([30], [30]), ([31, 30], [30, 31]), ([30], [30]), ([33, 30], [30, 33]), ([32, 34, 30], [30, 32, 34]), ([35, 30], [30, 35]), ([36, 30], [30, 36]), ([30], [30]), ([38, 30], [30, 38]), ([37, 39, 30], [30, 37, 39]), ([30, 40, 27], [27, 30, 40]), ([27, 41], [27, 41])])
def impl_QueueOk.B4 : List Nat := [0, 1, 3, 7, 15, 31, 63, 127, 255, 511, 1023, 2047, 4095, 8191, 16383, 32767, 65535, 131071, 262143, 524287, 1048575, 2097151, 1048575, 5242879, 16777215, 33554431, 67108863, 134217727, 268435455, 536870911, 1073741823, 2147483647, 4294967295, 2147483647, 10737418239, 34359738367, 68719476735, 137438953471, 2147483647, 277025390591, 1099511627775, 2199023255551, 4398046511103]
theorem impl_QueueOk.tab4 : rtab .any (opsOf Try.f20 4) = impl_QueueOk.T4 := by kernel_rfl
theorem impl_QueueOk.bits4 : waitsOk impl_QueueOk.T4.2 impl_QueueOk.B4 = true := by kernel_rfl
set_option maxHeartbeats 8000000 in
set_option maxRecDepth 100000 in
theorem impl_QueueOk.calls (k : Nat) (A0_0 : Option Addr) (c0_0 : Nat) (l0_0 : List (S51)) (a0_1 : Int) (r : Bool) (w : World) (hr0_0 : Kd.C k51 w A0_0 l0_0.length l0_0) (hc0_0 : l0_0.length ≤ c0_0) (h : impl_QueueOk.f k l0_0 a0_1 = some r) :
    Calls Try.prog 20 #[.agg #[.slice A0_0 l0_0.length c0_0, .int .i64 a0_1]] w fun e w' => e = .returned (.bool r) ∧ Below w.heap.size w w' := by
  have hu28 := Try.underlying28
  have hu51 := Try.underlying51
  have HR0_0 := AM hr0_0
  have HC0_0 := AM hc0_0
  clear hr0_0 hc0_0
  have HB := AM (Below.refl w.heap.size w)
  have H : (impl_QueueOk.l0 k l0_0 (l0_0.length : Int) 0 l0_0 a0_1) = some r := h
  clear h
  have H' := AM H
  clear H
  go_enter Try.func20, Try.ntmps20
  go_wp2_with (first | ((with_reducible refine gd (N := 1) rfl ?_); refine xe ?hg (N := 1) ?hd (cs := #[.slice A0_0 l0_0.length c0_0, .int .i64 a0_1]) (t := 28) ?hr ?_; (case hd => rfl); (case hg => rfl); (case hr => first | (go_simp; done) | (go_simp; rfl)); intro gb177 hg w2 hbox hb; have n0_ := AM (bp (lfB HB.out) hb); have n1_ := AM (hbox); have n2_ := AM ((by rw [hg]; exact (bz (lfB HB.out)) : w.heap.size ≤ gb177)); have n3_ := AM ((by rw [hg]; exact (bz (lfB HB.out)) : w.heap.size ≤ gb177)); clear HB; revert n0_ n1_ n2_ n3_; intro HB BK177 GW177 GE177; clear hb hbox hg; have hcz3_0 : w2.cell? ⟨gb177, 0, none⟩ = some (.slice A0_0 l0_0.length c0_0) := (kc BK177.out 0).trans rfl; have hcz3_1 : w2.cell? ⟨gb177, 1, none⟩ = some (.int .i64 a0_1) := (kc BK177.out 1).trans rfl; have hfz3_0 := kz BK177.out 0; have hfz3_1 := kz BK177.out 1))
  go_loopg [8] k (fun kq v8 w' => ∃ (x8_1 : Int), v8 = .int .i64 x8_1 ∧ Aside0 (impl_QueueOk.l0 kq l0_0 (l0_0.length : Int) x8_1 l0_0 a0_1 = some r) ∧ Aside0 (kq ≤ k) ∧ Aside0 (w'.heap[gb177]? = some (.cells #[(.slice A0_0 l0_0.length c0_0), .int .i64 a0_1] 28 (0, 0))) ∧ Aside0 (Below w.heap.size w w'))
  case atStart => exact ⟨(0), (by first | rfl | (simp; done) | (simp [*]; done)), H', ⟨Nat.le_refl _⟩, ⟨by (with_reducible repeat (first | refine kn ?_ _ | refine kd ?_ | refine ka ?_ _)); exact BK177.out⟩, ⟨by repeat (first | (with_reducible first | exact HB.out | apply ba | apply bn | apply bd | refine bs ?_ GE177.out) | exact HB.out)⟩⟩
  case round =>
    clear H'
    try clear hcz3_0
    try clear hcz3_1
    try clear hfz3_0
    try clear hfz3_1
    obtain ⟨x8_1, rfl, HA, HK1, BK177, HB⟩ := hrel
    cases gk with
    | zero => exact absurd HA.out (by simp [impl_QueueOk.l0])
    | succ k1 =>
      have H := HA.out
      clear HA
      simp only [impl_QueueOk.l0] at H
      by_cases c4 : x8_1 < (l0_0.length : Int)
      · rw [if_pos c4] at H
        have c4b0 : decide (x8_1 < (l0_0.length : Int)) = true := decide_eq_true c4
        clear c4
        by_cases c5 : 0 ≤ x8_1
        · rw [if_pos c5] at H
          have c5b0 : decide (0 ≤ x8_1) = true := decide_eq_true c5
          clear c5
          by_cases c6 : x8_1 < (l0_0.length : Int)
          · rw [if_pos c6] at H
            have c6b0 : decide (x8_1 < (l0_0.length : Int)) = true := decide_eq_true c6
            clear c6
            replace H := Option.bind_eq_some_iff.mp H
            obtain ⟨t181, A70, H⟩ := H
            replace H : (if t181 = true then ((impl_in.f ((rd_T51 l0_0 x8_1).f1) 1 6).bind fun t182 => (if t182 = true then ((impl_in.f ((rd_T51 l0_0 x8_1).f2) 0 1000000).bind fun t183 => (if t183 = true then (if (rd_T51 l0_0 x8_1).f3 = true then (if ((rd_T51 l0_0 x8_1).f2) < a0_1 then (some false) else (if x8_1 > 0 then (if 0 ≤ (wrap64 (x8_1 - 1)) then (if (wrap64 (x8_1 - 1)) < (l0_0.length : Int) then (if ((rd_T51 l0_0 (wrap64 (x8_1 - 1))).f0) ≥ ((rd_T51 l0_0 x8_1).f0) then (some false) else (impl_QueueOk.l0 k1 l0_0 (l0_0.length : Int) (wrap64 (x8_1 + 1)) l0_0 a0_1)) else (none)) else (none)) else (impl_QueueOk.l0 k1 l0_0 (l0_0.length : Int) (wrap64 (x8_1 + 1)) l0_0 a0_1))) else (if x8_1 > 0 then (if 0 ≤ (wrap64 (x8_1 - 1)) then (if (wrap64 (x8_1 - 1)) < (l0_0.length : Int) then (if ((rd_T51 l0_0 (wrap64 (x8_1 - 1))).f0) ≥ ((rd_T51 l0_0 x8_1).f0) then (some false) else (impl_QueueOk.l0 k1 l0_0 (l0_0.length : Int) (wrap64 (x8_1 + 1)) l0_0 a0_1)) else (none)) else (none)) else (impl_QueueOk.l0 k1 l0_0 (l0_0.length : Int) (wrap64 (x8_1 + 1)) l0_0 a0_1))) else (some false))) else (some false))) else (some false)) = some r := H
            have A7 := AM A70
            clear A70
            by_cases c8 : t181 = true
            · subst c8
              have H1 : ((impl_in.f ((rd_T51 l0_0 x8_1).f1) 1 6).bind fun t182 => (if t182 = true then ((impl_in.f ((rd_T51 l0_0 x8_1).f2) 0 1000000).bind fun t183 => (if t183 = true then (if (rd_T51 l0_0 x8_1).f3 = true then (if ((rd_T51 l0_0 x8_1).f2) < a0_1 then (some false) else (if x8_1 > 0 then (if 0 ≤ (wrap64 (x8_1 - 1)) then (if (wrap64 (x8_1 - 1)) < (l0_0.length : Int) then (if ((rd_T51 l0_0 (wrap64 (x8_1 - 1))).f0) ≥ ((rd_T51 l0_0 x8_1).f0) then (some false) else (impl_QueueOk.l0 k1 l0_0 (l0_0.length : Int) (wrap64 (x8_1 + 1)) l0_0 a0_1)) else (none)) else (none)) else (impl_QueueOk.l0 k1 l0_0 (l0_0.length : Int) (wrap64 (x8_1 + 1)) l0_0 a0_1))) else (if x8_1 > 0 then (if 0 ≤ (wrap64 (x8_1 - 1)) then (if (wrap64 (x8_1 - 1)) < (l0_0.length : Int) then (if ((rd_T51 l0_0 (wrap64 (x8_1 - 1))).f0) ≥ ((rd_T51 l0_0 x8_1).f0) then (some false) else (impl_QueueOk.l0 k1 l0_0 (l0_0.length : Int) (wrap64 (x8_1 + 1)) l0_0 a0_1)) else (none)) else (none)) else (impl_QueueOk.l0 k1 l0_0 (l0_0.length : Int) (wrap64 (x8_1 + 1)) l0_0 a0_1))) else (some false))) else (some false))) = some r := by rw [if_pos rfl] at H; exact H
              clear H
              have H := H1
              clear H1
              replace H := Option.bind_eq_some_iff.mp H
              obtain ⟨t182, A90, H⟩ := H
              replace H : (if t182 = true then ((impl_in.f ((rd_T51 l0_0 x8_1).f2) 0 1000000).bind fun t183 => (if t183 = true then (if (rd_T51 l0_0 x8_1).f3 = true then (if ((rd_T51 l0_0 x8_1).f2) < a0_1 then (some false) else (if x8_1 > 0 then (if 0 ≤ (wrap64 (x8_1 - 1)) then (if (wrap64 (x8_1 - 1)) < (l0_0.length : Int) then (if ((rd_T51 l0_0 (wrap64 (x8_1 - 1))).f0) ≥ ((rd_T51 l0_0 x8_1).f0) then (some false) else (impl_QueueOk.l0 k1 l0_0 (l0_0.length : Int) (wrap64 (x8_1 + 1)) l0_0 a0_1)) else (none)) else (none)) else (impl_QueueOk.l0 k1 l0_0 (l0_0.length : Int) (wrap64 (x8_1 + 1)) l0_0 a0_1))) else (if x8_1 > 0 then (if 0 ≤ (wrap64 (x8_1 - 1)) then (if (wrap64 (x8_1 - 1)) < (l0_0.length : Int) then (if ((rd_T51 l0_0 (wrap64 (x8_1 - 1))).f0) ≥ ((rd_T51 l0_0 x8_1).f0) then (some false) else (impl_QueueOk.l0 k1 l0_0 (l0_0.length : Int) (wrap64 (x8_1 + 1)) l0_0 a0_1)) else (none)) else (none)) else (impl_QueueOk.l0 k1 l0_0 (l0_0.length : Int) (wrap64 (x8_1 + 1)) l0_0 a0_1))) else (some false))) else (some false)) = some r := H
              have A9 := AM A90
              clear A90
              by_cases c10 : t182 = true
              · subst c10
                have H1 : ((impl_in.f ((rd_T51 l0_0 x8_1).f2) 0 1000000).bind fun t183 => (if t183 = true then (if (rd_T51 l0_0 x8_1).f3 = true then (if ((rd_T51 l0_0 x8_1).f2) < a0_1 then (some false) else (if x8_1 > 0 then (if 0 ≤ (wrap64 (x8_1 - 1)) then (if (wrap64 (x8_1 - 1)) < (l0_0.length : Int) then (if ((rd_T51 l0_0 (wrap64 (x8_1 - 1))).f0) ≥ ((rd_T51 l0_0 x8_1).f0) then (some false) else (impl_QueueOk.l0 k1 l0_0 (l0_0.length : Int) (wrap64 (x8_1 + 1)) l0_0 a0_1)) else (none)) else (none)) else (impl_QueueOk.l0 k1 l0_0 (l0_0.length : Int) (wrap64 (x8_1 + 1)) l0_0 a0_1))) else (if x8_1 > 0 then (if 0 ≤ (wrap64 (x8_1 - 1)) then (if (wrap64 (x8_1 - 1)) < (l0_0.length : Int) then (if ((rd_T51 l0_0 (wrap64 (x8_1 - 1))).f0) ≥ ((rd_T51 l0_0 x8_1).f0) then (some false) else (impl_QueueOk.l0 k1 l0_0 (l0_0.length : Int) (wrap64 (x8_1 + 1)) l0_0 a0_1)) else (none)) else (none)) else (impl_QueueOk.l0 k1 l0_0 (l0_0.length : Int) (wrap64 (x8_1 + 1)) l0_0 a0_1))) else (some false))) = some r := by rw [if_pos rfl] at H; exact H
                clear H
                have H := H1
                clear H1
                replace H := Option.bind_eq_some_iff.mp H
                obtain ⟨t183, A110, H⟩ := H
                replace H : (if t183 = true then (if (rd_T51 l0_0 x8_1).f3 = true then (if ((rd_T51 l0_0 x8_1).f2) < a0_1 then (some false) else (if x8_1 > 0 then (if 0 ≤ (wrap64 (x8_1 - 1)) then (if (wrap64 (x8_1 - 1)) < (l0_0.length : Int) then (if ((rd_T51 l0_0 (wrap64 (x8_1 - 1))).f0) ≥ ((rd_T51 l0_0 x8_1).f0) then (some false) else (impl_QueueOk.l0 k1 l0_0 (l0_0.length : Int) (wrap64 (x8_1 + 1)) l0_0 a0_1)) else (none)) else (none)) else (impl_QueueOk.l0 k1 l0_0 (l0_0.length : Int) (wrap64 (x8_1 + 1)) l0_0 a0_1))) else (if x8_1 > 0 then (if 0 ≤ (wrap64 (x8_1 - 1)) then (if (wrap64 (x8_1 - 1)) < (l0_0.length : Int) then (if ((rd_T51 l0_0 (wrap64 (x8_1 - 1))).f0) ≥ ((rd_T51 l0_0 x8_1).f0) then (some false) else (impl_QueueOk.l0 k1 l0_0 (l0_0.length : Int) (wrap64 (x8_1 + 1)) l0_0 a0_1)) else (none)) else (none)) else (impl_QueueOk.l0 k1 l0_0 (l0_0.length : Int) (wrap64 (x8_1 + 1)) l0_0 a0_1))) else (some false)) = some r := H
                have A11 := AM A110
                clear A110
                by_cases c12 : t183 = true
                · subst c12
                  have H1 : (if (rd_T51 l0_0 x8_1).f3 = true then (if ((rd_T51 l0_0 x8_1).f2) < a0_1 then (some false) else (if x8_1 > 0 then (if 0 ≤ (wrap64 (x8_1 - 1)) then (if (wrap64 (x8_1 - 1)) < (l0_0.length : Int) then (if ((rd_T51 l0_0 (wrap64 (x8_1 - 1))).f0) ≥ ((rd_T51 l0_0 x8_1).f0) then (some false) else (impl_QueueOk.l0 k1 l0_0 (l0_0.length : Int) (wrap64 (x8_1 + 1)) l0_0 a0_1)) else (none)) else (none)) else (impl_QueueOk.l0 k1 l0_0 (l0_0.length : Int) (wrap64 (x8_1 + 1)) l0_0 a0_1))) else (if x8_1 > 0 then (if 0 ≤ (wrap64 (x8_1 - 1)) then (if (wrap64 (x8_1 - 1)) < (l0_0.length : Int) then (if ((rd_T51 l0_0 (wrap64 (x8_1 - 1))).f0) ≥ ((rd_T51 l0_0 x8_1).f0) then (some false) else (impl_QueueOk.l0 k1 l0_0 (l0_0.length : Int) (wrap64 (x8_1 + 1)) l0_0 a0_1)) else (none)) else (none)) else (impl_QueueOk.l0 k1 l0_0 (l0_0.length : Int) (wrap64 (x8_1 + 1)) l0_0 a0_1))) = some r := by rw [if_pos rfl] at H; exact H
                  clear H
                  have H := H1
                  clear H1
                  obtain ⟨bq13, hbq13⟩ : ∃ b_ : Bool, b_ = ((rd_T51 l0_0 x8_1).f3) := ⟨_, rfl⟩
                  replace H : (if bq13 = true then (if ((rd_T51 l0_0 x8_1).f2) < a0_1 then (some false) else (if x8_1 > 0 then (if 0 ≤ (wrap64 (x8_1 - 1)) then (if (wrap64 (x8_1 - 1)) < (l0_0.length : Int) then (if ((rd_T51 l0_0 (wrap64 (x8_1 - 1))).f0) ≥ ((rd_T51 l0_0 x8_1).f0) then (some false) else (impl_QueueOk.l0 k1 l0_0 (l0_0.length : Int) (wrap64 (x8_1 + 1)) l0_0 a0_1)) else (none)) else (none)) else (impl_QueueOk.l0 k1 l0_0 (l0_0.length : Int) (wrap64 (x8_1 + 1)) l0_0 a0_1))) else (if x8_1 > 0 then (if 0 ≤ (wrap64 (x8_1 - 1)) then (if (wrap64 (x8_1 - 1)) < (l0_0.length : Int) then (if ((rd_T51 l0_0 (wrap64 (x8_1 - 1))).f0) ≥ ((rd_T51 l0_0 x8_1).f0) then (some false) else (impl_QueueOk.l0 k1 l0_0 (l0_0.length : Int) (wrap64 (x8_1 + 1)) l0_0 a0_1)) else (none)) else (none)) else (impl_QueueOk.l0 k1 l0_0 (l0_0.length : Int) (wrap64 (x8_1 + 1)) l0_0 a0_1))) = some r := by rw [← hbq13] at H; exact H
                  have Nbq13 := AM hbq13
                  clear hbq13
                  by_cases c14 : bq13 = true
                  · subst c14
                    have H1 : (if ((rd_T51 l0_0 x8_1).f2) < a0_1 then (some false) else (if x8_1 > 0 then (if 0 ≤ (wrap64 (x8_1 - 1)) then (if (wrap64 (x8_1 - 1)) < (l0_0.length : Int) then (if ((rd_T51 l0_0 (wrap64 (x8_1 - 1))).f0) ≥ ((rd_T51 l0_0 x8_1).f0) then (some false) else (impl_QueueOk.l0 k1 l0_0 (l0_0.length : Int) (wrap64 (x8_1 + 1)) l0_0 a0_1)) else (none)) else (none)) else (impl_QueueOk.l0 k1 l0_0 (l0_0.length : Int) (wrap64 (x8_1 + 1)) l0_0 a0_1))) = some r := by rw [if_pos rfl] at H; exact H
                    clear H
                    have H := H1
                    clear H1
                    by_cases c15 : ((rd_T51 l0_0 x8_1).f2) < a0_1
                    · rw [if_pos c15] at H
                      have c15b0 : decide (((rd_T51 l0_0 x8_1).f2) < a0_1) = true := decide_eq_true c15
                      clear c15
                      obtain rfl := Option.some.inj H
                      have p179 : 0 ≤ (x8_1 : Int) := of_decide_eq_true (by first | (with_reducible assumption) | assumption)
                      have q179 : x8_1 < (l0_0.length : Int) := of_decide_eq_true (by first | (with_reducible assumption) | assumption)
                      obtain ⟨ad179, e179, hx179_0, hx179_1, hx179_2, hx179_3⟩ := at_T51 HR0_0.out x8_1 p179 q179
                      (try rw [← Nbq13.out] at hx179_3)
                      cases e179
                      replace hx179_0 := (HB.out.cell (World.block_lt_of_cell? w _ hx179_0)).trans hx179_0
                      replace hx179_1 := (HB.out.cell (World.block_lt_of_cell? w _ hx179_1)).trans hx179_1
                      replace hx179_2 := (HB.out.cell (World.block_lt_of_cell? w _ hx179_2)).trans hx179_2
                      replace hx179_3 := (HB.out.cell (World.block_lt_of_cell? w _ hx179_3)).trans hx179_3
                      replace p179 := eq_true p179
                      replace q179 := eq_true q179
                      try go_wp2_with (first | ((with_reducible refine gd (N := 4) rfl ?_); refine xe ?hg (N := 4) ?hd (cs := #[.int .i64 0, .int .i64 0, .int .i64 0, .bool false]) (t := 51) ?hr ?_; (case hd => rfl); (case hg => rfl); (case hr => first | (go_simp; done) | (go_simp; rfl)); intro gb180 hg w16 hbox hb; have n0_ := AM (kb (g := gb177) (o := .cells #[.slice (some ad179) l0_0.length c0_0, .int .i64 a0_1] 28 (0, 0)) (lfK BK177.out) hb); have n1_ := AM (bp (by repeat (first | (with_reducible first | exact HB.out | apply ba | apply bn | apply bd | refine bs ?_ GE177.out) | exact HB.out)) hb); have n2_ := AM (hbox); have n3_ := AM ((by rw [hg]; exact (bz (by repeat (first | (with_reducible first | exact HB.out | apply ba | apply bn | apply bd | refine bs ?_ GE177.out) | exact HB.out))) : w.heap.size ≤ gb180)); have n4_ := AM ((by rw [hg]; exact (bz (by repeat (first | (with_reducible first | exact HB.out | apply ba | apply bn | apply bd | refine bs ?_ GE177.out) | exact HB.out))) : w.heap.size ≤ gb180)); have n5_ := AM ((by rw [hg]; exact Nat.ne_of_lt (blk_lt (g := gb177) (o := .cells #[.slice (some ad179) l0_0.length c0_0, .int .i64 a0_1] 28 (0, 0)) (lfK BK177.out)) : gb177 ≠ gb180)); have n6_ := AM ((by rw [hg]; exact Nat.ne_of_gt (blk_lt (g := gb177) (o := .cells #[.slice (some ad179) l0_0.length c0_0, .int .i64 a0_1] 28 (0, 0)) (lfK BK177.out)) : gb180 ≠ gb177)); clear BK177 HB; revert n0_ n1_ n2_ n3_ n4_ n5_ n6_; intro BK177 HB BK180 GW180 GE180 NB177_180 NB180_177; clear hb hbox hg; have hnb17 := NB180_177.out; have hnc17 := NB177_180.out; have hcz18_0 : w16.cell? ⟨gb180, 0, none⟩ = some (.int .i64 0) := (kc BK180.out 0).trans rfl; have hcz18_1 : w16.cell? ⟨gb180, 1, none⟩ = some (.int .i64 0) := (kc BK180.out 1).trans rfl; have hcz18_2 : w16.cell? ⟨gb180, 2, none⟩ = some (.int .i64 0) := (kc BK180.out 2).trans rfl; have hcz18_3 : w16.cell? ⟨gb180, 3, none⟩ = some (.bool false) := (kc BK180.out 3).trans rfl; have hfz18_0 := kz BK180.out 0; have hfz18_1 := kz BK180.out 1; have hfz18_2 := kz BK180.out 2; have hfz18_3 := kz BK180.out 3))
                      have n0_ : Aside0 (((((w16.setCell ⟨gb180, 0, none⟩ (.int .i64 ((rd_T51 l0_0 x8_1).f0))).setCell ⟨gb180, 1, none⟩ (.int .i64 ((rd_T51 l0_0 x8_1).f1))).setCell ⟨gb180, 2, none⟩ (.int .i64 ((rd_T51 l0_0 x8_1).f2))).setCell ⟨gb180, 3, none⟩ (.bool true)).heap[gb177]? = some (.cells #[.slice (some ad179) l0_0.length c0_0, .int .i64 a0_1] 28 (0, 0))) := ⟨by (with_reducible repeat (first | refine kn ?_ _ | refine kd ?_ | refine ka ?_ _)); refine kf ?_ NB177_180.out _; (with_reducible repeat (first | refine kn ?_ _ | refine kd ?_ | refine ka ?_ _)); refine kf ?_ NB177_180.out _; (with_reducible repeat (first | refine kn ?_ _ | refine kd ?_ | refine ka ?_ _)); refine kf ?_ NB177_180.out _; (with_reducible repeat (first | refine kn ?_ _ | refine kd ?_ | refine ka ?_ _)); refine kf ?_ NB177_180.out _; (with_reducible repeat (first | refine kn ?_ _ | refine kd ?_ | refine ka ?_ _)); exact BK177.out⟩
                      have n1_ : Aside0 (((((w16.setCell ⟨gb180, 0, none⟩ (.int .i64 ((rd_T51 l0_0 x8_1).f0))).setCell ⟨gb180, 1, none⟩ (.int .i64 ((rd_T51 l0_0 x8_1).f1))).setCell ⟨gb180, 2, none⟩ (.int .i64 ((rd_T51 l0_0 x8_1).f2))).setCell ⟨gb180, 3, none⟩ (.bool true)).heap[gb180]? = some (.cells #[.int .i64 ((rd_T51 l0_0 x8_1).f0), .int .i64 ((rd_T51 l0_0 x8_1).f1), .int .i64 ((rd_T51 l0_0 x8_1).f2), .bool true] 51 (0, 0))) := ⟨by (with_reducible repeat (first | refine kn ?_ _ | refine kd ?_ | refine ka ?_ _)); refine blk_put (cs := #[.int .i64 ((rd_T51 l0_0 x8_1).f0), .int .i64 ((rd_T51 l0_0 x8_1).f1), .int .i64 ((rd_T51 l0_0 x8_1).f2), .bool false]) ?_ 3 _ rfl; (with_reducible repeat (first | refine kn ?_ _ | refine kd ?_ | refine ka ?_ _)); refine blk_put (cs := #[.int .i64 ((rd_T51 l0_0 x8_1).f0), .int .i64 ((rd_T51 l0_0 x8_1).f1), .int .i64 0, .bool false]) ?_ 2 _ rfl; (with_reducible repeat (first | refine kn ?_ _ | refine kd ?_ | refine ka ?_ _)); refine blk_put (cs := #[.int .i64 ((rd_T51 l0_0 x8_1).f0), .int .i64 0, .int .i64 0, .bool false]) ?_ 1 _ rfl; (with_reducible repeat (first | refine kn ?_ _ | refine kd ?_ | refine ka ?_ _)); refine blk_put (cs := #[.int .i64 0, .int .i64 0, .int .i64 0, .bool false]) ?_ 0 _ rfl; (with_reducible repeat (first | refine kn ?_ _ | refine kd ?_ | refine ka ?_ _)); exact BK180.out⟩
                      have n2_ : Aside0 (Below w.heap.size w ((((w16.setCell ⟨gb180, 0, none⟩ (.int .i64 ((rd_T51 l0_0 x8_1).f0))).setCell ⟨gb180, 1, none⟩ (.int .i64 ((rd_T51 l0_0 x8_1).f1))).setCell ⟨gb180, 2, none⟩ (.int .i64 ((rd_T51 l0_0 x8_1).f2))).setCell ⟨gb180, 3, none⟩ (.bool true))) := ⟨by repeat (first | (with_reducible first | exact HB.out | apply ba | apply bn | apply bd | refine bs ?_ GE177.out | refine bs ?_ GE180.out) | exact HB.out)⟩
                      (try clear BK177)
                      (try clear BK180)
                      (try clear HB)
                      generalize ((((w16.setCell ⟨gb180, 0, none⟩ (.int .i64 ((rd_T51 l0_0 x8_1).f0))).setCell ⟨gb180, 1, none⟩ (.int .i64 ((rd_T51 l0_0 x8_1).f1))).setCell ⟨gb180, 2, none⟩ (.int .i64 ((rd_T51 l0_0 x8_1).f2))).setCell ⟨gb180, 3, none⟩ (.bool true)) = w19 at n0_ n1_ n2_ ⊢
                      revert n0_ n1_ n2_
                      intro BK177 BK180 HB
                      have n0_ := AM (kd BK177.out)
                      have n1_ := AM (kd BK180.out)
                      have n2_ := AM (bd HB.out)
                      clear BK177 BK180 HB
                      revert n0_ n1_ n2_
                      intro BK177 BK180 HB
                      refine start_ (n := 43) (S := fun w' => w'.cell? ⟨gb180, 0, none⟩ = some (.int .i64 ((rd_T51 l0_0 x8_1).f0)) ∧ w'.cell? ⟨gb180, 1, none⟩ = some (.int .i64 ((rd_T51 l0_0 x8_1).f1)) ∧ w'.cell? ⟨gb180, 2, none⟩ = some (.int .i64 ((rd_T51 l0_0 x8_1).f2)) ∧ w'.cell? ⟨gb180, 3, none⟩ = some (.bool true) ∧ w'.cell? ⟨gb177, 0, none⟩ = some (.slice (some ad179) l0_0.length c0_0) ∧ w'.cell? ⟨gb177, 1, none⟩ = some (.int .i64 a0_1)) (ds := []) (mB 43 0x0) (by kernel_rfl) rfl rfl ⟨(kc BK180.out 0).trans rfl, (kc BK180.out 1).trans rfl, (kc BK180.out 2).trans rfl, (kc BK180.out 3).trans rfl, (kc BK177.out 0).trans rfl, (kc BK177.out 1).trans rfl⟩ (fun hHeld => ?_); refine with_tabW impl_QueueOk.tab4 impl_QueueOk.bits4 (fun HT_ HW_ => ?_)
                      generalize w19.drew = w20 at BK177 BK180 HB hHeld ⊢
                      refine puY (v := ?_) (a' := ?_) 0 13 (mB 43 0x1) rfl rfl HT_.out (by kernel_rfl) (fun _ _ _ h => h) (by rfl) ?_ ?_ ?_; rotate_left; (focus intro w'; go_simp; with_reducible rfl); rotate_left; (focus simp only [Act.put, sA, sZ, sS, i64_w, i32_w]; rfl)
                      refine take_ (i := 1) (N := some 14) (v := ?_) (a' := ?_) (mB 43 0x3) rfl rfl (take_ofW HT_.out HW_.out (by kernel_rfl)) (fun _ _ _ h => h) (Or.inl ⟨by rfl, ?_⟩) hHeld ?_ ?_
                      rotate_left
                      · rintro w' ⟨s0, s1, s2, s3, s4, s5⟩; go_simp; with_reducible rfl
                      rotate_left
                      · simp only [Act.put, sA, sZ, sS, i64_w, i32_w]; rfl
                      refine one_ (i := 2) (N := some 15) (mB 43 0x7) rfl rfl (one_of HT_.out (by kernel_rfl)) (by decide) (fun K hK => ?_)
                      refine goes_ Try.func21 (by kernel_rfl) rfl #[.int .i64 ((rd_T51 l0_0 x8_1).f0), .int .i64 0, .int .i64 99] (by rfl) rfl rfl (by (try simp only [List.map_toArray, List.map_cons, List.map_nil]); first | done | rfl | (simp only [List.length_drop, List.length_take]; rfl)) ?_
                      with_reducible refine (impl_in.calls ((rd_T51 l0_0 x8_1).f0) 0 99 true _ A7.out).mono ?_
                      rintro e w' ⟨rfl, ⟨nd, rfl⟩⟩
                      refine ⟨_, rfl, ?_⟩
                      refine hK.out _ _ ⟨(kc BK180.out 0).trans rfl, (kc BK180.out 1).trans rfl, (kc BK180.out 2).trans rfl, (kc BK180.out 3).trans rfl, (kc BK177.out 0).trans rfl, (kc BK177.out 1).trans rfl⟩ (fun hHeld => ?_)
                      clear hK K
                      refine norm_ (a' := ?_) ?_ ?_
                      rotate_left
                      · show Act.put _ (some 15) _ = _
                        simp only [Act.put, sA, sZ, sS, i64_w, i32_w]
                        rfl
                      refine puY (v := ?_) (a' := ?_) 3 16 (mB 43 0xf) rfl rfl HT_.out (by kernel_rfl) (fun _ _ _ h => h) (by rfl) ?_ ?_ ?_; rotate_left; (focus intro w'; go_simp; with_reducible rfl); rotate_left; (focus simp only [Act.put, sA, sZ, sS, i64_w, i32_w]; rfl); refine puY (v := ?_) (a' := ?_) 4 17 (mB 43 0x1f) rfl rfl HT_.out (by kernel_rfl) (fun _ _ _ h => h) (by rfl) ?_ ?_ ?_; rotate_left; (focus intro w'; go_simp; with_reducible rfl); rotate_left; (focus simp only [Act.put, sA, sZ, sS, i64_w, i32_w]; rfl); refine puY (v := ?_) (a' := ?_) 5 18 (mB 43 0x3f) rfl rfl HT_.out (by kernel_rfl) (fun _ _ _ h => h) (by rfl) ?_ ?_ ?_; rotate_left; (focus intro w'; go_simp; with_reducible rfl); rotate_left; (focus simp only [Act.put, sA, sZ, sS, i64_w, i32_w]; rfl)
                      refine take_ (i := 6) (N := some 19) (v := ?_) (a' := ?_) (mB 43 0x7f) rfl rfl (take_ofW HT_.out HW_.out (by kernel_rfl)) (fun _ _ _ h => h) (Or.inl ⟨by rfl, ?_⟩) hHeld ?_ ?_
                      rotate_left
                      · rintro w' ⟨s0, s1, s2, s3, s4, s5⟩; go_simp; with_reducible rfl
                      rotate_left
                      · simp only [Act.put, sA, sZ, sS, i64_w, i32_w]; rfl
                      refine one_ (i := 7) (N := some 20) (mB 43 0xff) rfl rfl (one_of HT_.out (by kernel_rfl)) (by decide) (fun K hK => ?_)
                      refine goes_ Try.func21 (by kernel_rfl) rfl #[.int .i64 ((rd_T51 l0_0 x8_1).f1), .int .i64 1, .int .i64 6] (by rfl) rfl rfl (by (try simp only [List.map_toArray, List.map_cons, List.map_nil]); first | done | rfl | (simp only [List.length_drop, List.length_take]; rfl)) ?_
                      with_reducible refine (impl_in.calls ((rd_T51 l0_0 x8_1).f1) 1 6 true _ A9.out).mono ?_
                      rintro e w' ⟨rfl, ⟨nd, rfl⟩⟩
                      refine ⟨_, rfl, ?_⟩
                      refine hK.out _ _ ⟨(kc BK180.out 0).trans rfl, (kc BK180.out 1).trans rfl, (kc BK180.out 2).trans rfl, (kc BK180.out 3).trans rfl, (kc BK177.out 0).trans rfl, (kc BK177.out 1).trans rfl⟩ (fun hHeld => ?_)
                      clear hK K
                      refine norm_ (a' := ?_) ?_ ?_
                      rotate_left
                      · show Act.put _ (some 20) _ = _
                        simp only [Act.put, sA, sZ, sS, i64_w, i32_w]
                        rfl
                      refine puY (v := ?_) (a' := ?_) 8 21 (mB 43 0x1ff) rfl rfl HT_.out (by kernel_rfl) (fun _ _ _ h => h) (by rfl) ?_ ?_ ?_; rotate_left; (focus intro w'; go_simp; with_reducible rfl); rotate_left; (focus simp only [Act.put, sA, sZ, sS, i64_w, i32_w]; rfl); refine puY (v := ?_) (a' := ?_) 9 22 (mB 43 0x3ff) rfl rfl HT_.out (by kernel_rfl) (fun _ _ _ h => h) (by rfl) ?_ ?_ ?_; rotate_left; (focus intro w'; go_simp; with_reducible rfl); rotate_left; (focus simp only [Act.put, sA, sZ, sS, i64_w, i32_w]; rfl); refine puY (v := ?_) (a' := ?_) 10 23 (mB 43 0x7ff) rfl rfl HT_.out (by kernel_rfl) (fun _ _ _ h => h) (by rfl) ?_ ?_ ?_; rotate_left; (focus intro w'; go_simp; with_reducible rfl); rotate_left; (focus simp only [Act.put, sA, sZ, sS, i64_w, i32_w]; rfl); refine puY (v := ?_) (a' := ?_) 11 24 (mB 43 0xfff) rfl rfl HT_.out (by kernel_rfl) (fun _ _ _ h => h) (by rfl) ?_ ?_ ?_; rotate_left; (focus intro w'; go_simp; with_reducible rfl); rotate_left; (focus simp only [Act.put, sA, sZ, sS, i64_w, i32_w]; rfl)
                      refine take_ (i := 12) (N := some 25) (v := ?_) (a' := ?_) (mB 43 0x1fff) rfl rfl (take_ofW HT_.out HW_.out (by kernel_rfl)) (fun _ _ _ h => h) (Or.inl ⟨by rfl, ?_⟩) hHeld ?_ ?_
                      rotate_left
                      · rintro w' ⟨s0, s1, s2, s3, s4, s5⟩; go_simp; with_reducible rfl
                      rotate_left
                      · simp only [Act.put, sA, sZ, sS, i64_w, i32_w]; rfl
                      refine one_ (i := 13) (N := some 26) (mB 43 0x3fff) rfl rfl (one_of HT_.out (by kernel_rfl)) (by decide) (fun K hK => ?_)
                      refine goes_ Try.func21 (by kernel_rfl) rfl #[.int .i64 ((rd_T51 l0_0 x8_1).f2), .int .i64 0, .int .i64 1000000] (by rfl) rfl rfl (by (try simp only [List.map_toArray, List.map_cons, List.map_nil]); first | done | rfl | (simp only [List.length_drop, List.length_take]; rfl)) ?_
                      with_reducible refine (impl_in.calls ((rd_T51 l0_0 x8_1).f2) 0 1000000 true _ A11.out).mono ?_
                      rintro e w' ⟨rfl, ⟨nd, rfl⟩⟩
                      refine ⟨_, rfl, ?_⟩
                      refine hK.out _ _ ⟨(kc BK180.out 0).trans rfl, (kc BK180.out 1).trans rfl, (kc BK180.out 2).trans rfl, (kc BK180.out 3).trans rfl, (kc BK177.out 0).trans rfl, (kc BK177.out 1).trans rfl⟩ (fun hHeld => ?_)
                      clear hK K
                      refine norm_ (a' := ?_) ?_ ?_
                      rotate_left
                      · show Act.put _ (some 26) _ = _
                        simp only [Act.put, sA, sZ, sS, i64_w, i32_w]
                        rfl
                      refine puY (v := ?_) (a' := ?_) 14 27 (mB 43 0x7fff) rfl rfl HT_.out (by kernel_rfl) (fun _ _ _ h => h) (by rfl) ?_ ?_ ?_; rotate_left; (focus intro w'; go_simp; with_reducible rfl); rotate_left; (focus simp only [Act.put, sA, sZ, sS, i64_w, i32_w]; rfl); refine puY (v := ?_) (a' := ?_) 15 28 (mB 43 0xffff) rfl rfl HT_.out (by kernel_rfl) (fun _ _ _ h => h) (by rfl) ?_ ?_ ?_; rotate_left; (focus intro w'; go_simp; with_reducible rfl); rotate_left; (focus simp only [Act.put, sA, sZ, sS, i64_w, i32_w]; rfl); refine puY (v := ?_) (a' := ?_) 16 29 (mB 43 0x1ffff) rfl rfl HT_.out (by kernel_rfl) (fun _ _ _ h => h) (by rfl) ?_ ?_ ?_; rotate_left; (focus intro w'; go_simp; with_reducible rfl); rotate_left; (focus simp only [Act.put, sA, sZ, sS, i64_w, i32_w]; rfl); refine puY (v := ?_) (a' := ?_) 17 30 (mB 43 0x3ffff) rfl rfl HT_.out (by kernel_rfl) (fun _ _ _ h => h) (by rfl) ?_ ?_ ?_; rotate_left; (focus intro w'; go_simp; with_reducible rfl); rotate_left; (focus simp only [Act.put, sA, sZ, sS, i64_w, i32_w]; rfl)
                      refine take_ (i := 18) (N := some 31) (v := ?_) (a' := ?_) (mB 43 0x7ffff) rfl rfl (take_ofW HT_.out HW_.out (by kernel_rfl)) (fun _ _ _ h => h) (Or.inl ⟨by rfl, ?_⟩) hHeld ?_ ?_
                      rotate_left
                      · rintro w' ⟨s0, s1, s2, s3, s4, s5⟩; go_simp; with_reducible rfl
                      rotate_left
                      · simp only [Act.put, sA, sZ, sS, i64_w, i32_w]; rfl
                      refine puY (v := ?_) (a' := ?_) 19 32 (mB 43 0xfffff) rfl rfl HT_.out (by kernel_rfl) (fun _ _ _ h => h) (by rfl) ?_ ?_ ?_; rotate_left; (focus intro w'; go_simp; with_reducible rfl); rotate_left; (focus simp only [Act.put, sA, sZ, sS, i64_w, i32_w]; rfl); refine puY (v := ?_) (a' := ?_) 20 33 (mB 43 0x1fffff) rfl rfl HT_.out (by kernel_rfl) (fun _ _ _ h => h) (by rfl) ?_ ?_ ?_; rotate_left; (focus intro w'; go_simp; with_reducible rfl); rotate_left; (focus simp only [Act.put, sA, sZ, sS, i64_w, i32_w]; rfl); refine puY (v := ?_) (a' := ?_) 22 35 (mB 43 0x5fffff) rfl rfl HT_.out (by kernel_rfl) (fun _ _ _ h => h) (by rfl) ?_ ?_ ?_; rotate_left; (focus intro w'; go_simp; with_reducible rfl); rotate_left; (focus simp only [Act.put, sA, sZ, sS, i64_w, i32_w]; rfl)
                      refine take_ (i := 21) (N := some 34) (v := ?_) (a' := ?_) (mB 43 0x7fffff) rfl rfl (take_ofW HT_.out HW_.out (by kernel_rfl)) (fun _ _ _ h => h) (Or.inl ⟨by rfl, ?_⟩) hHeld ?_ ?_
                      rotate_left
                      · rintro w' ⟨s0, s1, s2, s3, s4, s5⟩; go_simp; with_reducible rfl
                      rotate_left
                      · simp only [Act.put, sA, sZ, sS, i64_w, i32_w]; rfl
                      refine take_ (i := 23) (N := some 36) (v := ?_) (a' := ?_) (mB 43 0xffffff) rfl rfl (take_ofW HT_.out HW_.out (by kernel_rfl)) (fun _ _ _ h => h) (Or.inl ⟨by rfl, ?_⟩) hHeld ?_ ?_
                      rotate_left
                      · rintro w' ⟨s0, s1, s2, s3, s4, s5⟩; go_simp; with_reducible rfl
                      rotate_left
                      · simp only [Act.put, sA, sZ, sS, i64_w, i32_w]; rfl
                      refine puY (v := ?_) (a' := ?_) 24 37 (mB 43 0x1ffffff) rfl rfl HT_.out (by kernel_rfl) (fun _ _ _ h => h) (by rfl) ?_ ?_ ?_; rotate_left; (focus intro w'; go_simp; with_reducible rfl); rotate_left; (focus simp only [Act.put, sA, sZ, sS, i64_w, i32_w]; rfl); refine puY (v := ?_) (a' := ?_) 25 38 (mB 43 0x3ffffff) rfl rfl HT_.out (by kernel_rfl) (fun _ _ _ h => h) (by rfl) ?_ ?_ ?_; rotate_left; (focus intro w'; go_simp; with_reducible rfl); rotate_left; (focus simp only [Act.put, sA, sZ, sS, i64_w, i32_w]; rfl); refine puY (v := ?_) (a' := ?_) 26 39 (mB 43 0x7ffffff) rfl rfl HT_.out (by kernel_rfl) (fun _ _ _ h => h) (by rfl) ?_ ?_ ?_; rotate_left; (focus intro w'; go_simp; with_reducible rfl); rotate_left; (focus simp only [Act.put, sA, sZ, sS, i64_w, i32_w]; rfl); refine puY (v := ?_) (a' := ?_) 27 40 (mB 43 0xfffffff) rfl rfl HT_.out (by kernel_rfl) (fun _ _ _ h => h) (by rfl) ?_ ?_ ?_; rotate_left; (focus intro w'; go_simp; with_reducible rfl); rotate_left; (focus simp only [Act.put, sA, sZ, sS, i64_w, i32_w]; rfl); refine puM 28 41 (mB 43 0x1fffffff) rfl rfl HT_.out (by kernel_rfl) (fun _ _ _ h => h) (by rfl) ?_; refine puM 29 42 (mB 43 0x3fffffff) rfl rfl HT_.out (by kernel_rfl) (fun _ _ _ h => h) (by rfl) ?_; refine puN (a' := ?_) 30 43 (mB 43 0x7fffffff) rfl rfl HT_.out (by kernel_rfl) (fun _ _ _ h => h) (by rfl) ?_ ?_; rotate_left; (focus simp only [Act.put, sA, sZ, sS, i64_w, i32_w]; rfl); refine puM 31 44 (mB 43 0xffffffff) rfl rfl HT_.out (by kernel_rfl) (fun _ _ _ h => h) (by rfl) ?_; refine puM 32 45 (mB 43 0x1ffffffff) rfl rfl HT_.out (by kernel_rfl) (fun _ _ _ h => h) (by rfl) ?_; refine puN (a' := ?_) 33 46 (mB 43 0x3ffffffff) rfl rfl HT_.out (by kernel_rfl) (fun _ _ _ h => h) (by rfl) ?_ ?_; rotate_left; (focus simp only [Act.put, sA, sZ, sS, i64_w, i32_w]; rfl); refine puM 34 47 (mB 43 0x7ffffffff) rfl rfl HT_.out (by kernel_rfl) (fun _ _ _ h => h) (by rfl) ?_; refine puM 35 48 (mB 43 0xfffffffff) rfl rfl HT_.out (by kernel_rfl) (fun _ _ _ h => h) (by rfl) ?_; refine puN (a' := ?_) 36 49 (mB 43 0x1fffffffff) rfl rfl HT_.out (by kernel_rfl) (fun _ _ _ h => h) (by rfl) ?_ ?_; rotate_left; (focus simp only [Act.put, sA, sZ, sS, i64_w, i32_w]; rfl); refine puM 37 50 (mB 43 0x3fffffffff) rfl rfl HT_.out (by kernel_rfl) (fun _ _ _ h => h) (by rfl) ?_; refine puM 38 51 (mB 43 0x7fffffffff) rfl rfl HT_.out (by kernel_rfl) (fun _ _ _ h => h) (by rfl) ?_; refine puN (a' := ?_) 39 52 (mB 43 0xffffffffff) rfl rfl HT_.out (by kernel_rfl) (fun _ _ _ h => h) (by rfl) ?_ ?_; rotate_left; (focus simp only [Act.put, sA, sZ, sS, i64_w, i32_w]; rfl); refine puM 40 53 (mB 43 0x1ffffffffff) rfl rfl HT_.out (by kernel_rfl) (fun _ _ _ h => h) (by rfl) ?_; refine puN (a' := ?_) 41 54 (mB 43 0x3ffffffffff) rfl rfl HT_.out (by kernel_rfl) (fun _ _ _ h => h) (by rfl) ?_ ?_; rotate_left; (focus simp only [Act.put, sA, sZ, sS, i64_w, i32_w]; rfl); refine puY (v := ?_) (a' := ?_) 42 55 (mB 43 0x7ffffffffff) rfl rfl HT_.out (by kernel_rfl) (fun _ _ _ h => h) (by rfl) ?_ ?_ ?_; rotate_left; (focus intro w'; go_simp; with_reducible rfl); rotate_left; (focus simp only [Act.put, sA, sZ, sS, i64_w, i32_w]; rfl)
                      refine done_ (done_of HT_.out (by kernel_rfl)) ?_
                      try go_wp2
                      go_ret
                      exact ⟨by first | rfl | (simp [errW_none, errW_some] <;> rfl) | (simp [*, errW_none, errW_some] <;> rfl), by repeat (first | (with_reducible first | exact HB.out | apply ba | apply bn | apply bd | refine bs ?_ GE177.out | refine bs ?_ GE180.out) | exact HB.out)⟩
                    · rw [if_neg c15] at H
                      have c15b0 : decide (((rd_T51 l0_0 x8_1).f2) < a0_1) = false := decide_eq_false c15
                      clear c15
                      by_cases c21 : x8_1 > 0
                      · rw [if_pos c21] at H
                        have c21b0 : decide (0 < x8_1) = true := decide_eq_true c21
                        clear c21
                        obtain ⟨ji22, hji22⟩ : ∃ j_ : Int, (wrap64 (x8_1 - 1)) = j_ := ⟨_, rfl⟩
                        replace H : (if 0 ≤ (ji22) then (if (ji22) < (l0_0.length : Int) then (if ((rd_T51 l0_0 (ji22)).f0) ≥ ((rd_T51 l0_0 x8_1).f0) then (some false) else (impl_QueueOk.l0 k1 l0_0 (l0_0.length : Int) (wrap64 (x8_1 + 1)) l0_0 a0_1)) else (none)) else (none)) = some r := by first | (rw [hji22] at H; exact H) | (simp only [hji22] at H ⊢; exact H)
                        (try rw [hji22] at A7)
                        (try rw [hji22] at A9)
                        (try rw [hji22] at A11)
                        have hji22w : (IntKind.i64.wrap (x8_1 - 1)) = ji22 := (i64_w _).trans hji22
                        by_cases c23 : 0 ≤ (ji22)
                        · rw [if_pos c23] at H
                          have c23b0 : decide (0 ≤ (ji22)) = true := decide_eq_true c23
                          clear c23
                          by_cases c24 : (ji22) < (l0_0.length : Int)
                          · rw [if_pos c24] at H
                            have c24b0 : decide ((ji22) < (l0_0.length : Int)) = true := decide_eq_true c24
                            clear c24
                            by_cases c25 : ((rd_T51 l0_0 (ji22)).f0) ≥ ((rd_T51 l0_0 x8_1).f0)
                            · rw [if_pos c25] at H
                              have c25b0 : decide (((rd_T51 l0_0 x8_1).f0) ≤ ((rd_T51 l0_0 (ji22)).f0)) = true := decide_eq_true c25
                              clear c25
                              obtain rfl := Option.some.inj H
                              have p179 : 0 ≤ (x8_1 : Int) := of_decide_eq_true (by first | (with_reducible assumption) | assumption)
                              have q179 : x8_1 < (l0_0.length : Int) := of_decide_eq_true (by first | (with_reducible assumption) | assumption)
                              obtain ⟨ad179, e179, hx179_0, hx179_1, hx179_2, hx179_3⟩ := at_T51 HR0_0.out x8_1 p179 q179
                              (try rw [← Nbq13.out] at hx179_3)
                              cases e179
                              replace hx179_0 := (HB.out.cell (World.block_lt_of_cell? w _ hx179_0)).trans hx179_0
                              replace hx179_1 := (HB.out.cell (World.block_lt_of_cell? w _ hx179_1)).trans hx179_1
                              replace hx179_2 := (HB.out.cell (World.block_lt_of_cell? w _ hx179_2)).trans hx179_2
                              replace hx179_3 := (HB.out.cell (World.block_lt_of_cell? w _ hx179_3)).trans hx179_3
                              replace p179 := eq_true p179
                              replace q179 := eq_true q179
                              try go_wp2_with (first | ((with_reducible refine gd (N := 4) rfl ?_); refine xe ?hg (N := 4) ?hd (cs := #[.int .i64 0, .int .i64 0, .int .i64 0, .bool false]) (t := 51) ?hr ?_; (case hd => rfl); (case hg => rfl); (case hr => first | (go_simp; done) | (go_simp; rfl)); intro gb180 hg w26 hbox hb; have n0_ := AM (kb (g := gb177) (o := .cells #[.slice (some ad179) l0_0.length c0_0, .int .i64 a0_1] 28 (0, 0)) (lfK BK177.out) hb); have n1_ := AM (bp (by repeat (first | (with_reducible first | exact HB.out | apply ba | apply bn | apply bd | refine bs ?_ GE177.out) | exact HB.out)) hb); have n2_ := AM (hbox); have n3_ := AM ((by rw [hg]; exact (bz (by repeat (first | (with_reducible first | exact HB.out | apply ba | apply bn | apply bd | refine bs ?_ GE177.out) | exact HB.out))) : w.heap.size ≤ gb180)); have n4_ := AM ((by rw [hg]; exact (bz (by repeat (first | (with_reducible first | exact HB.out | apply ba | apply bn | apply bd | refine bs ?_ GE177.out) | exact HB.out))) : w.heap.size ≤ gb180)); have n5_ := AM ((by rw [hg]; exact Nat.ne_of_lt (blk_lt (g := gb177) (o := .cells #[.slice (some ad179) l0_0.length c0_0, .int .i64 a0_1] 28 (0, 0)) (lfK BK177.out)) : gb177 ≠ gb180)); have n6_ := AM ((by rw [hg]; exact Nat.ne_of_gt (blk_lt (g := gb177) (o := .cells #[.slice (some ad179) l0_0.length c0_0, .int .i64 a0_1] 28 (0, 0)) (lfK BK177.out)) : gb180 ≠ gb177)); clear BK177 HB; revert n0_ n1_ n2_ n3_ n4_ n5_ n6_; intro BK177 HB BK180 GW180 GE180 NB177_180 NB180_177; clear hb hbox hg; have hnb27 := NB180_177.out; have hnc27 := NB177_180.out; have hcz28_0 : w26.cell? ⟨gb180, 0, none⟩ = some (.int .i64 0) := (kc BK180.out 0).trans rfl; have hcz28_1 : w26.cell? ⟨gb180, 1, none⟩ = some (.int .i64 0) := (kc BK180.out 1).trans rfl; have hcz28_2 : w26.cell? ⟨gb180, 2, none⟩ = some (.int .i64 0) := (kc BK180.out 2).trans rfl; have hcz28_3 : w26.cell? ⟨gb180, 3, none⟩ = some (.bool false) := (kc BK180.out 3).trans rfl; have hfz28_0 := kz BK180.out 0; have hfz28_1 := kz BK180.out 1; have hfz28_2 := kz BK180.out 2; have hfz28_3 := kz BK180.out 3))
                              have n0_ : Aside0 (((((w26.setCell ⟨gb180, 0, none⟩ (.int .i64 ((rd_T51 l0_0 x8_1).f0))).setCell ⟨gb180, 1, none⟩ (.int .i64 ((rd_T51 l0_0 x8_1).f1))).setCell ⟨gb180, 2, none⟩ (.int .i64 ((rd_T51 l0_0 x8_1).f2))).setCell ⟨gb180, 3, none⟩ (.bool true)).heap[gb177]? = some (.cells #[.slice (some ad179) l0_0.length c0_0, .int .i64 a0_1] 28 (0, 0))) := ⟨by (with_reducible repeat (first | refine kn ?_ _ | refine kd ?_ | refine ka ?_ _)); refine kf ?_ NB177_180.out _; (with_reducible repeat (first | refine kn ?_ _ | refine kd ?_ | refine ka ?_ _)); refine kf ?_ NB177_180.out _; (with_reducible repeat (first | refine kn ?_ _ | refine kd ?_ | refine ka ?_ _)); refine kf ?_ NB177_180.out _; (with_reducible repeat (first | refine kn ?_ _ | refine kd ?_ | refine ka ?_ _)); refine kf ?_ NB177_180.out _; (with_reducible repeat (first | refine kn ?_ _ | refine kd ?_ | refine ka ?_ _)); exact BK177.out⟩
                              have n1_ : Aside0 (((((w26.setCell ⟨gb180, 0, none⟩ (.int .i64 ((rd_T51 l0_0 x8_1).f0))).setCell ⟨gb180, 1, none⟩ (.int .i64 ((rd_T51 l0_0 x8_1).f1))).setCell ⟨gb180, 2, none⟩ (.int .i64 ((rd_T51 l0_0 x8_1).f2))).setCell ⟨gb180, 3, none⟩ (.bool true)).heap[gb180]? = some (.cells #[.int .i64 ((rd_T51 l0_0 x8_1).f0), .int .i64 ((rd_T51 l0_0 x8_1).f1), .int .i64 ((rd_T51 l0_0 x8_1).f2), .bool true] 51 (0, 0))) := ⟨by (with_reducible repeat (first | refine kn ?_ _ | refine kd ?_ | refine ka ?_ _)); refine blk_put (cs := #[.int .i64 ((rd_T51 l0_0 x8_1).f0), .int .i64 ((rd_T51 l0_0 x8_1).f1), .int .i64 ((rd_T51 l0_0 x8_1).f2), .bool false]) ?_ 3 _ rfl; (with_reducible repeat (first | refine kn ?_ _ | refine kd ?_ | refine ka ?_ _)); refine blk_put (cs := #[.int .i64 ((rd_T51 l0_0 x8_1).f0), .int .i64 ((rd_T51 l0_0 x8_1).f1), .int .i64 0, .bool false]) ?_ 2 _ rfl; (with_reducible repeat (first | refine kn ?_ _ | refine kd ?_ | refine ka ?_ _)); refine blk_put (cs := #[.int .i64 ((rd_T51 l0_0 x8_1).f0), .int .i64 0, .int .i64 0, .bool false]) ?_ 1 _ rfl; (with_reducible repeat (first | refine kn ?_ _ | refine kd ?_ | refine ka ?_ _)); refine blk_put (cs := #[.int .i64 0, .int .i64 0, .int .i64 0, .bool false]) ?_ 0 _ rfl; (with_reducible repeat (first | refine kn ?_ _ | refine kd ?_ | refine ka ?_ _)); exact BK180.out⟩
                              have n2_ : Aside0 (Below w.heap.size w ((((w26.setCell ⟨gb180, 0, none⟩ (.int .i64 ((rd_T51 l0_0 x8_1).f0))).setCell ⟨gb180, 1, none⟩ (.int .i64 ((rd_T51 l0_0 x8_1).f1))).setCell ⟨gb180, 2, none⟩ (.int .i64 ((rd_T51 l0_0 x8_1).f2))).setCell ⟨gb180, 3, none⟩ (.bool true))) := ⟨by repeat (first | (with_reducible first | exact HB.out | apply ba | apply bn | apply bd | refine bs ?_ GE177.out | refine bs ?_ GE180.out) | exact HB.out)⟩
                              (try clear BK177)
                              (try clear BK180)
                              (try clear HB)
                              generalize ((((w26.setCell ⟨gb180, 0, none⟩ (.int .i64 ((rd_T51 l0_0 x8_1).f0))).setCell ⟨gb180, 1, none⟩ (.int .i64 ((rd_T51 l0_0 x8_1).f1))).setCell ⟨gb180, 2, none⟩ (.int .i64 ((rd_T51 l0_0 x8_1).f2))).setCell ⟨gb180, 3, none⟩ (.bool true)) = w29 at n0_ n1_ n2_ ⊢
                              revert n0_ n1_ n2_
                              intro BK177 BK180 HB
                              have n0_ := AM (kd BK177.out)
                              have n1_ := AM (kd BK180.out)
                              have n2_ := AM (bd HB.out)
                              clear BK177 BK180 HB
                              revert n0_ n1_ n2_
                              intro BK177 BK180 HB
                              have p184 : 0 ≤ ((ji22) : Int) := of_decide_eq_true (by first | (with_reducible assumption) | assumption)
                              have q184 : (ji22) < (l0_0.length : Int) := of_decide_eq_true (by first | (with_reducible assumption) | assumption)
                              obtain ⟨ad184, e184, hx184_0, hx184_1, hx184_2, hx184_3⟩ := at_T51 HR0_0.out (ji22) p184 q184
                              have hw184_3 := hx184_3
                              have hw184_2 := hx184_2
                              have hw184_1 := hx184_1
                              have hw184_0 := hx184_0
                              (try rw [← Nbq13.out] at hx184_3)
                              obtain rfl : ad179 = ad184 := (by injection e184)
                              replace hx184_0 := (HB.out.cell (World.block_lt_of_cell? w _ hx184_0)).trans hx184_0
                              replace hx184_1 := (HB.out.cell (World.block_lt_of_cell? w _ hx184_1)).trans hx184_1
                              replace hx184_2 := (HB.out.cell (World.block_lt_of_cell? w _ hx184_2)).trans hx184_2
                              replace hx184_3 := (HB.out.cell (World.block_lt_of_cell? w _ hx184_3)).trans hx184_3
                              replace p184 := eq_true p184
                              replace q184 := eq_true q184
                              refine start_ (n := 43) (S := fun w' => w'.cell? ⟨gb180, 0, none⟩ = some (.int .i64 ((rd_T51 l0_0 x8_1).f0)) ∧ w'.cell? ⟨gb180, 1, none⟩ = some (.int .i64 ((rd_T51 l0_0 x8_1).f1)) ∧ w'.cell? ⟨gb180, 2, none⟩ = some (.int .i64 ((rd_T51 l0_0 x8_1).f2)) ∧ w'.cell? ⟨gb180, 3, none⟩ = some (.bool true) ∧ w'.cell? ⟨gb177, 0, none⟩ = some (.slice (some ad179) l0_0.length c0_0) ∧ w'.cell? ⟨gb177, 1, none⟩ = some (.int .i64 a0_1) ∧ w'.cell? (ad179.add (((ji22)).toNat * 4)) = some (.int .i64 ((rd_T51 l0_0 (ji22)).f0)) ∧ w'.cell? ⟨(ad179.add (((ji22)).toNat * 4)).block, (ad179.add (((ji22)).toNat * 4)).off + 1, none⟩ = some (.int .i64 ((rd_T51 l0_0 (ji22)).f1)) ∧ w'.cell? ⟨(ad179.add (((ji22)).toNat * 4)).block, (ad179.add (((ji22)).toNat * 4)).off + 2, none⟩ = some (.int .i64 ((rd_T51 l0_0 (ji22)).f2)) ∧ w'.cell? ⟨(ad179.add (((ji22)).toNat * 4)).block, (ad179.add (((ji22)).toNat * 4)).off + 3, none⟩ = some (.bool ((rd_T51 l0_0 (ji22)).f3))) (ds := []) (mB 43 0x0) (by kernel_rfl) rfl rfl ⟨(kc BK180.out 0).trans rfl, (kc BK180.out 1).trans rfl, (kc BK180.out 2).trans rfl, (kc BK180.out 3).trans rfl, (kc BK177.out 0).trans rfl, (kc BK177.out 1).trans rfl, ((HB.out.cell (World.block_lt_of_cell? w _ hw184_0)).trans hw184_0), ((HB.out.cell (World.block_lt_of_cell? w _ hw184_1)).trans hw184_1), ((HB.out.cell (World.block_lt_of_cell? w _ hw184_2)).trans hw184_2), ((HB.out.cell (World.block_lt_of_cell? w _ hw184_3)).trans hw184_3)⟩ (fun hHeld => ?_); refine with_tabW impl_QueueOk.tab4 impl_QueueOk.bits4 (fun HT_ HW_ => ?_)
                              generalize w29.drew = w30 at BK177 BK180 HB hx184_0 hx184_1 hx184_2 hx184_3 hHeld ⊢
                              refine puY (v := ?_) (a' := ?_) 0 13 (mB 43 0x1) rfl rfl HT_.out (by kernel_rfl) (fun _ _ _ h => h) (by rfl) ?_ ?_ ?_; rotate_left; (focus intro w'; go_simp; with_reducible rfl); rotate_left; (focus simp only [Act.put, sA, sZ, sS, i64_w, i32_w]; rfl)
                              refine take_ (i := 1) (N := some 14) (v := ?_) (a' := ?_) (mB 43 0x3) rfl rfl (take_ofW HT_.out HW_.out (by kernel_rfl)) (fun _ _ _ h => h) (Or.inl ⟨by rfl, ?_⟩) hHeld ?_ ?_
                              rotate_left
                              · rintro w' ⟨s0, s1, s2, s3, s4, s5, s6, s7, s8, s9⟩; go_simp; with_reducible rfl
                              rotate_left
                              · simp only [Act.put, sA, sZ, sS, i64_w, i32_w]; rfl
                              refine one_ (i := 2) (N := some 15) (mB 43 0x7) rfl rfl (one_of HT_.out (by kernel_rfl)) (by decide) (fun K hK => ?_)
                              refine goes_ Try.func21 (by kernel_rfl) rfl #[.int .i64 ((rd_T51 l0_0 x8_1).f0), .int .i64 0, .int .i64 99] (by rfl) rfl rfl (by (try simp only [List.map_toArray, List.map_cons, List.map_nil]); first | done | rfl | (simp only [List.length_drop, List.length_take]; rfl)) ?_
                              with_reducible refine (impl_in.calls ((rd_T51 l0_0 x8_1).f0) 0 99 true _ A7.out).mono ?_
                              rintro e w' ⟨rfl, ⟨nd, rfl⟩⟩
                              refine ⟨_, rfl, ?_⟩
                              refine hK.out _ _ ⟨(kc BK180.out 0).trans rfl, (kc BK180.out 1).trans rfl, (kc BK180.out 2).trans rfl, (kc BK180.out 3).trans rfl, (kc BK177.out 0).trans rfl, (kc BK177.out 1).trans rfl, ((HB.out.cell (World.block_lt_of_cell? w _ hw184_0)).trans hw184_0), ((HB.out.cell (World.block_lt_of_cell? w _ hw184_1)).trans hw184_1), ((HB.out.cell (World.block_lt_of_cell? w _ hw184_2)).trans hw184_2), ((HB.out.cell (World.block_lt_of_cell? w _ hw184_3)).trans hw184_3)⟩ (fun hHeld => ?_)
                              clear hK K
                              refine norm_ (a' := ?_) ?_ ?_
                              rotate_left
                              · show Act.put _ (some 15) _ = _
                                simp only [Act.put, sA, sZ, sS, i64_w, i32_w]
                                rfl
                              refine puY (v := ?_) (a' := ?_) 3 16 (mB 43 0xf) rfl rfl HT_.out (by kernel_rfl) (fun _ _ _ h => h) (by rfl) ?_ ?_ ?_; rotate_left; (focus intro w'; go_simp; with_reducible rfl); rotate_left; (focus simp only [Act.put, sA, sZ, sS, i64_w, i32_w]; rfl); refine puY (v := ?_) (a' := ?_) 4 17 (mB 43 0x1f) rfl rfl HT_.out (by kernel_rfl) (fun _ _ _ h => h) (by rfl) ?_ ?_ ?_; rotate_left; (focus intro w'; go_simp; with_reducible rfl); rotate_left; (focus simp only [Act.put, sA, sZ, sS, i64_w, i32_w]; rfl); refine puY (v := ?_) (a' := ?_) 5 18 (mB 43 0x3f) rfl rfl HT_.out (by kernel_rfl) (fun _ _ _ h => h) (by rfl) ?_ ?_ ?_; rotate_left; (focus intro w'; go_simp; with_reducible rfl); rotate_left; (focus simp only [Act.put, sA, sZ, sS, i64_w, i32_w]; rfl)
                              refine take_ (i := 6) (N := some 19) (v := ?_) (a' := ?_) (mB 43 0x7f) rfl rfl (take_ofW HT_.out HW_.out (by kernel_rfl)) (fun _ _ _ h => h) (Or.inl ⟨by rfl, ?_⟩) hHeld ?_ ?_
                              rotate_left
                              · rintro w' ⟨s0, s1, s2, s3, s4, s5, s6, s7, s8, s9⟩; go_simp; with_reducible rfl
                              rotate_left
                              · simp only [Act.put, sA, sZ, sS, i64_w, i32_w]; rfl
                              refine one_ (i := 7) (N := some 20) (mB 43 0xff) rfl rfl (one_of HT_.out (by kernel_rfl)) (by decide) (fun K hK => ?_)
                              refine goes_ Try.func21 (by kernel_rfl) rfl #[.int .i64 ((rd_T51 l0_0 x8_1).f1), .int .i64 1, .int .i64 6] (by rfl) rfl rfl (by (try simp only [List.map_toArray, List.map_cons, List.map_nil]); first | done | rfl | (simp only [List.length_drop, List.length_take]; rfl)) ?_
                              with_reducible refine (impl_in.calls ((rd_T51 l0_0 x8_1).f1) 1 6 true _ A9.out).mono ?_
                              rintro e w' ⟨rfl, ⟨nd, rfl⟩⟩
                              refine ⟨_, rfl, ?_⟩
                              refine hK.out _ _ ⟨(kc BK180.out 0).trans rfl, (kc BK180.out 1).trans rfl, (kc BK180.out 2).trans rfl, (kc BK180.out 3).trans rfl, (kc BK177.out 0).trans rfl, (kc BK177.out 1).trans rfl, ((HB.out.cell (World.block_lt_of_cell? w _ hw184_0)).trans hw184_0), ((HB.out.cell (World.block_lt_of_cell? w _ hw184_1)).trans hw184_1), ((HB.out.cell (World.block_lt_of_cell? w _ hw184_2)).trans hw184_2), ((HB.out.cell (World.block_lt_of_cell? w _ hw184_3)).trans hw184_3)⟩ (fun hHeld => ?_)
                              clear hK K
                              refine norm_ (a' := ?_) ?_ ?_
                              rotate_left
                              · show Act.put _ (some 20) _ = _
                                simp only [Act.put, sA, sZ, sS, i64_w, i32_w]
                                rfl
                              refine puY (v := ?_) (a' := ?_) 8 21 (mB 43 0x1ff) rfl rfl HT_.out (by kernel_rfl) (fun _ _ _ h => h) (by rfl) ?_ ?_ ?_; rotate_left; (focus intro w'; go_simp; with_reducible rfl); rotate_left; (focus simp only [Act.put, sA, sZ, sS, i64_w, i32_w]; rfl); refine puY (v := ?_) (a' := ?_) 9 22 (mB 43 0x3ff) rfl rfl HT_.out (by kernel_rfl) (fun _ _ _ h => h) (by rfl) ?_ ?_ ?_; rotate_left; (focus intro w'; go_simp; with_reducible rfl); rotate_left; (focus simp only [Act.put, sA, sZ, sS, i64_w, i32_w]; rfl); refine puY (v := ?_) (a' := ?_) 10 23 (mB 43 0x7ff) rfl rfl HT_.out (by kernel_rfl) (fun _ _ _ h => h) (by rfl) ?_ ?_ ?_; rotate_left; (focus intro w'; go_simp; with_reducible rfl); rotate_left; (focus simp only [Act.put, sA, sZ, sS, i64_w, i32_w]; rfl); refine puY (v := ?_) (a' := ?_) 11 24 (mB 43 0xfff) rfl rfl HT_.out (by kernel_rfl) (fun _ _ _ h => h) (by rfl) ?_ ?_ ?_; rotate_left; (focus intro w'; go_simp; with_reducible rfl); rotate_left; (focus simp only [Act.put, sA, sZ, sS, i64_w, i32_w]; rfl)
                              refine take_ (i := 12) (N := some 25) (v := ?_) (a' := ?_) (mB 43 0x1fff) rfl rfl (take_ofW HT_.out HW_.out (by kernel_rfl)) (fun _ _ _ h => h) (Or.inl ⟨by rfl, ?_⟩) hHeld ?_ ?_
                              rotate_left
                              · rintro w' ⟨s0, s1, s2, s3, s4, s5, s6, s7, s8, s9⟩; go_simp; with_reducible rfl
                              rotate_left
                              · simp only [Act.put, sA, sZ, sS, i64_w, i32_w]; rfl
                              refine one_ (i := 13) (N := some 26) (mB 43 0x3fff) rfl rfl (one_of HT_.out (by kernel_rfl)) (by decide) (fun K hK => ?_)
                              refine goes_ Try.func21 (by kernel_rfl) rfl #[.int .i64 ((rd_T51 l0_0 x8_1).f2), .int .i64 0, .int .i64 1000000] (by rfl) rfl rfl (by (try simp only [List.map_toArray, List.map_cons, List.map_nil]); first | done | rfl | (simp only [List.length_drop, List.length_take]; rfl)) ?_
                              with_reducible refine (impl_in.calls ((rd_T51 l0_0 x8_1).f2) 0 1000000 true _ A11.out).mono ?_
                              rintro e w' ⟨rfl, ⟨nd, rfl⟩⟩
                              refine ⟨_, rfl, ?_⟩
                              refine hK.out _ _ ⟨(kc BK180.out 0).trans rfl, (kc BK180.out 1).trans rfl, (kc BK180.out 2).trans rfl, (kc BK180.out 3).trans rfl, (kc BK177.out 0).trans rfl, (kc BK177.out 1).trans rfl, ((HB.out.cell (World.block_lt_of_cell? w _ hw184_0)).trans hw184_0), ((HB.out.cell (World.block_lt_of_cell? w _ hw184_1)).trans hw184_1), ((HB.out.cell (World.block_lt_of_cell? w _ hw184_2)).trans hw184_2), ((HB.out.cell (World.block_lt_of_cell? w _ hw184_3)).trans hw184_3)⟩ (fun hHeld => ?_)
                              clear hK K
                              refine norm_ (a' := ?_) ?_ ?_
                              rotate_left
                              · show Act.put _ (some 26) _ = _
                                simp only [Act.put, sA, sZ, sS, i64_w, i32_w]
                                rfl
                              refine puY (v := ?_) (a' := ?_) 14 27 (mB 43 0x7fff) rfl rfl HT_.out (by kernel_rfl) (fun _ _ _ h => h) (by rfl) ?_ ?_ ?_; rotate_left; (focus intro w'; go_simp; with_reducible rfl); rotate_left; (focus simp only [Act.put, sA, sZ, sS, i64_w, i32_w]; rfl); refine puY (v := ?_) (a' := ?_) 15 28 (mB 43 0xffff) rfl rfl HT_.out (by kernel_rfl) (fun _ _ _ h => h) (by rfl) ?_ ?_ ?_; rotate_left; (focus intro w'; go_simp; with_reducible rfl); rotate_left; (focus simp only [Act.put, sA, sZ, sS, i64_w, i32_w]; rfl); refine puY (v := ?_) (a' := ?_) 16 29 (mB 43 0x1ffff) rfl rfl HT_.out (by kernel_rfl) (fun _ _ _ h => h) (by rfl) ?_ ?_ ?_; rotate_left; (focus intro w'; go_simp; with_reducible rfl); rotate_left; (focus simp only [Act.put, sA, sZ, sS, i64_w, i32_w]; rfl); refine puY (v := ?_) (a' := ?_) 17 30 (mB 43 0x3ffff) rfl rfl HT_.out (by kernel_rfl) (fun _ _ _ h => h) (by rfl) ?_ ?_ ?_; rotate_left; (focus intro w'; go_simp; with_reducible rfl); rotate_left; (focus simp only [Act.put, sA, sZ, sS, i64_w, i32_w]; rfl)
                              refine take_ (i := 18) (N := some 31) (v := ?_) (a' := ?_) (mB 43 0x7ffff) rfl rfl (take_ofW HT_.out HW_.out (by kernel_rfl)) (fun _ _ _ h => h) (Or.inl ⟨by rfl, ?_⟩) hHeld ?_ ?_
                              rotate_left
                              · rintro w' ⟨s0, s1, s2, s3, s4, s5, s6, s7, s8, s9⟩; go_simp; with_reducible rfl
                              rotate_left
                              · simp only [Act.put, sA, sZ, sS, i64_w, i32_w]; rfl
                              refine puY (v := ?_) (a' := ?_) 19 32 (mB 43 0xfffff) rfl rfl HT_.out (by kernel_rfl) (fun _ _ _ h => h) (by rfl) ?_ ?_ ?_; rotate_left; (focus intro w'; go_simp; with_reducible rfl); rotate_left; (focus simp only [Act.put, sA, sZ, sS, i64_w, i32_w]; rfl); refine puY (v := ?_) (a' := ?_) 20 33 (mB 43 0x1fffff) rfl rfl HT_.out (by kernel_rfl) (fun _ _ _ h => h) (by rfl) ?_ ?_ ?_; rotate_left; (focus intro w'; go_simp; with_reducible rfl); rotate_left; (focus simp only [Act.put, sA, sZ, sS, i64_w, i32_w]; rfl); refine puY (v := ?_) (a' := ?_) 22 35 (mB 43 0x5fffff) rfl rfl HT_.out (by kernel_rfl) (fun _ _ _ h => h) (by rfl) ?_ ?_ ?_; rotate_left; (focus intro w'; go_simp; with_reducible rfl); rotate_left; (focus simp only [Act.put, sA, sZ, sS, i64_w, i32_w]; rfl)
                              refine take_ (i := 21) (N := some 34) (v := ?_) (a' := ?_) (mB 43 0x7fffff) rfl rfl (take_ofW HT_.out HW_.out (by kernel_rfl)) (fun _ _ _ h => h) (Or.inl ⟨by rfl, ?_⟩) hHeld ?_ ?_
                              rotate_left
                              · rintro w' ⟨s0, s1, s2, s3, s4, s5, s6, s7, s8, s9⟩; go_simp; with_reducible rfl
                              rotate_left
                              · simp only [Act.put, sA, sZ, sS, i64_w, i32_w]; rfl
                              refine take_ (i := 23) (N := some 36) (v := ?_) (a' := ?_) (mB 43 0xffffff) rfl rfl (take_ofW HT_.out HW_.out (by kernel_rfl)) (fun _ _ _ h => h) (Or.inl ⟨by rfl, ?_⟩) hHeld ?_ ?_
                              rotate_left
                              · rintro w' ⟨s0, s1, s2, s3, s4, s5, s6, s7, s8, s9⟩; go_simp; with_reducible rfl
                              rotate_left
                              · simp only [Act.put, sA, sZ, sS, i64_w, i32_w]; rfl
                              refine puY (v := ?_) (a' := ?_) 24 37 (mB 43 0x1ffffff) rfl rfl HT_.out (by kernel_rfl) (fun _ _ _ h => h) (by rfl) ?_ ?_ ?_; rotate_left; (focus intro w'; go_simp; with_reducible rfl); rotate_left; (focus simp only [Act.put, sA, sZ, sS, i64_w, i32_w]; rfl); refine puY (v := ?_) (a' := ?_) 25 38 (mB 43 0x3ffffff) rfl rfl HT_.out (by kernel_rfl) (fun _ _ _ h => h) (by rfl) ?_ ?_ ?_; rotate_left; (focus intro w'; go_simp; with_reducible rfl); rotate_left; (focus simp only [Act.put, sA, sZ, sS, i64_w, i32_w]; rfl); refine puY (v := ?_) (a' := ?_) 26 39 (mB 43 0x7ffffff) rfl rfl HT_.out (by kernel_rfl) (fun _ _ _ h => h) (by rfl) ?_ ?_ ?_; rotate_left; (focus intro w'; go_simp; with_reducible rfl); rotate_left; (focus simp only [Act.put, sA, sZ, sS, i64_w, i32_w]; rfl); refine puY (v := ?_) (a' := ?_) 27 40 (mB 43 0xfffffff) rfl rfl HT_.out (by kernel_rfl) (fun _ _ _ h => h) (by rfl) ?_ ?_ ?_; rotate_left; (focus intro w'; go_simp; with_reducible rfl); rotate_left; (focus simp only [Act.put, sA, sZ, sS, i64_w, i32_w]; rfl); refine puY (v := ?_) (a' := ?_) 28 41 (mB 43 0x1fffffff) rfl rfl HT_.out (by kernel_rfl) (fun _ _ _ h => h) (by rfl) ?_ ?_ ?_; rotate_left; (focus intro w'; go_simp; with_reducible rfl); rotate_left; (focus simp only [Act.put, sA, sZ, sS, i64_w, i32_w]; rfl); refine puY (v := ?_) (a' := ?_) 29 42 (mB 43 0x3fffffff) rfl rfl HT_.out (by kernel_rfl) (fun _ _ _ h => h) (by rfl) ?_ ?_ ?_; rotate_left; (focus intro w'; go_simp; with_reducible rfl); rotate_left; (focus simp only [Act.put, sA, sZ, sS, i64_w, i32_w]; rfl); refine puY (v := ?_) (a' := ?_) 30 43 (mB 43 0x7fffffff) rfl rfl HT_.out (by kernel_rfl) (fun _ _ _ h => h) (by rfl) ?_ ?_ ?_; rotate_left; (focus intro w'; go_simp; with_reducible rfl); rotate_left; (focus simp only [Act.put, sA, sZ, sS, i64_w, i32_w]; rfl); refine puY (v := ?_) (a' := ?_) 31 44 (mB 43 0xffffffff) rfl rfl HT_.out (by kernel_rfl) (fun _ _ _ h => h) (by rfl) ?_ ?_ ?_; rotate_left; (focus intro w'; go_simp; with_reducible rfl); rotate_left; (focus simp only [Act.put, sA, sZ, sS, i64_w, i32_w]; rfl); refine puY (v := ?_) (a' := ?_) 33 46 (mB 43 0x2ffffffff) rfl rfl HT_.out (by kernel_rfl) (fun _ _ _ h => h) (by rfl) ?_ ?_ ?_; rotate_left; (focus intro w'; go_simp; with_reducible rfl); rotate_left; (focus simp only [Act.put, sA, sZ, sS, i64_w, i32_w]; rfl); refine puY (v := ?_) (a' := ?_) 34 47 (mB 43 0x6ffffffff) rfl rfl HT_.out (by kernel_rfl) (fun _ _ _ h => h) (by rfl) ?_ ?_ ?_; rotate_left; (focus intro w'; go_simp; with_reducible rfl); rotate_left; (focus simp only [Act.put, sA, sZ, sS, i64_w, i32_w]; rfl); refine puY (v := ?_) (a' := ?_) 38 51 (mB 43 0x46ffffffff) rfl rfl HT_.out (by kernel_rfl) (fun _ _ _ h => h) (by rfl) ?_ ?_ ?_; rotate_left; (focus intro w'; go_simp; with_reducible rfl); rotate_left; (focus simp only [Act.put, sA, sZ, sS, i64_w, i32_w]; rfl)
                              refine take_ (i := 32) (N := some 45) (v := ?_) (a' := ?_) (mB 43 0x47ffffffff) rfl rfl (take_ofW HT_.out HW_.out (by kernel_rfl)) (fun _ _ _ h => h) (Or.inl ⟨by rfl, ?_⟩) hHeld ?_ ?_
                              rotate_left
                              · rintro w' ⟨s0, s1, s2, s3, s4, s5, s6, s7, s8, s9⟩; go_simp; with_reducible rfl
                              rotate_left
                              · simp only [Act.put, sA, sZ, sS, i64_w, i32_w]; rfl
                              refine puY (v := ?_) (a' := ?_) 35 48 (mB 43 0x4fffffffff) rfl rfl HT_.out (by kernel_rfl) (fun _ _ _ h => h) (by rfl) ?_ ?_ ?_; rotate_left; (focus intro w'; go_simp; with_reducible rfl); rotate_left; (focus simp only [Act.put, sA, sZ, sS, i64_w, i32_w]; rfl); refine puY (v := ?_) (a' := ?_) 36 49 (mB 43 0x5fffffffff) rfl rfl HT_.out (by kernel_rfl) (fun _ _ _ h => h) (by rfl) ?_ ?_ ?_; rotate_left; (focus intro w'; go_simp; with_reducible rfl); rotate_left; (focus simp only [Act.put, sA, sZ, sS, i64_w, i32_w]; rfl)
                              refine take_ (i := 37) (N := some 50) (v := ?_) (a' := ?_) (mB 43 0x7fffffffff) rfl rfl (take_ofW HT_.out HW_.out (by kernel_rfl)) (fun _ _ _ h => h) (Or.inl ⟨by rfl, ?_⟩) hHeld ?_ ?_
                              rotate_left
                              · rintro w' ⟨s0, s1, s2, s3, s4, s5, s6, s7, s8, s9⟩; go_simp; with_reducible rfl
                              rotate_left
                              · simp only [Act.put, sA, sZ, sS, i64_w, i32_w]; rfl
                              refine take_ (i := 39) (N := some 52) (v := ?_) (a' := ?_) (mB 43 0xffffffffff) rfl rfl (take_ofW HT_.out HW_.out (by kernel_rfl)) (fun _ _ _ h => h) (Or.inl ⟨by rfl, ?_⟩) hHeld ?_ ?_
                              rotate_left
                              · rintro w' ⟨s0, s1, s2, s3, s4, s5, s6, s7, s8, s9⟩; go_simp; with_reducible rfl
                              rotate_left
                              · simp only [Act.put, sA, sZ, sS, i64_w, i32_w]; rfl
                              refine puY (v := ?_) (a' := ?_) 40 53 (mB 43 0x1ffffffffff) rfl rfl HT_.out (by kernel_rfl) (fun _ _ _ h => h) (by rfl) ?_ ?_ ?_; rotate_left; (focus intro w'; go_simp; with_reducible rfl); rotate_left; (focus simp only [Act.put, sA, sZ, sS, i64_w, i32_w]; rfl); refine puY (v := ?_) (a' := ?_) 41 54 (mB 43 0x3ffffffffff) rfl rfl HT_.out (by kernel_rfl) (fun _ _ _ h => h) (by rfl) ?_ ?_ ?_; rotate_left; (focus intro w'; go_simp; with_reducible rfl); rotate_left; (focus simp only [Act.put, sA, sZ, sS, i64_w, i32_w]; rfl); refine puY (v := ?_) (a' := ?_) 42 55 (mB 43 0x7ffffffffff) rfl rfl HT_.out (by kernel_rfl) (fun _ _ _ h => h) (by rfl) ?_ ?_ ?_; rotate_left; (focus intro w'; go_simp; with_reducible rfl); rotate_left; (focus simp only [Act.put, sA, sZ, sS, i64_w, i32_w]; rfl)
                              refine done_ (done_of HT_.out (by kernel_rfl)) ?_
                              try go_wp2
                              go_ret
                              exact ⟨by first | rfl | (simp [errW_none, errW_some] <;> rfl) | (simp only [← hji22]; first | rfl | (simp [errW_none, errW_some] <;> rfl)) | (simp [*, errW_none, errW_some] <;> rfl), by repeat (first | (with_reducible first | exact HB.out | apply ba | apply bn | apply bd | refine bs ?_ GE177.out | refine bs ?_ GE180.out) | exact HB.out)⟩
                            · rw [if_neg c25] at H
                              have c25b0 : decide (((rd_T51 l0_0 x8_1).f0) ≤ ((rd_T51 l0_0 (ji22)).f0)) = false := decide_eq_false c25
                              clear c25
                              have H' := AM H
                              clear H
                              have p179 : 0 ≤ (x8_1 : Int) := of_decide_eq_true (by first | (with_reducible assumption) | assumption)
                              have q179 : x8_1 < (l0_0.length : Int) := of_decide_eq_true (by first | (with_reducible assumption) | assumption)
                              obtain ⟨ad179, e179, hx179_0, hx179_1, hx179_2, hx179_3⟩ := at_T51 HR0_0.out x8_1 p179 q179
                              (try rw [← Nbq13.out] at hx179_3)
                              cases e179
                              replace hx179_0 := (HB.out.cell (World.block_lt_of_cell? w _ hx179_0)).trans hx179_0
                              replace hx179_1 := (HB.out.cell (World.block_lt_of_cell? w _ hx179_1)).trans hx179_1
                              replace hx179_2 := (HB.out.cell (World.block_lt_of_cell? w _ hx179_2)).trans hx179_2
                              replace hx179_3 := (HB.out.cell (World.block_lt_of_cell? w _ hx179_3)).trans hx179_3
                              replace p179 := eq_true p179
                              replace q179 := eq_true q179
                              try go_wp2_with (first | ((with_reducible refine gd (N := 4) rfl ?_); refine xe ?hg (N := 4) ?hd (cs := #[.int .i64 0, .int .i64 0, .int .i64 0, .bool false]) (t := 51) ?hr ?_; (case hd => rfl); (case hg => rfl); (case hr => first | (go_simp; done) | (go_simp; rfl)); intro gb180 hg w31 hbox hb; have n0_ := AM (kb (g := gb177) (o := .cells #[.slice (some ad179) l0_0.length c0_0, .int .i64 a0_1] 28 (0, 0)) (lfK BK177.out) hb); have n1_ := AM (bp (by repeat (first | (with_reducible first | exact HB.out | apply ba | apply bn | apply bd | refine bs ?_ GE177.out) | exact HB.out)) hb); have n2_ := AM (hbox); have n3_ := AM ((by rw [hg]; exact (bz (by repeat (first | (with_reducible first | exact HB.out | apply ba | apply bn | apply bd | refine bs ?_ GE177.out) | exact HB.out))) : w.heap.size ≤ gb180)); have n4_ := AM ((by rw [hg]; exact (bz (by repeat (first | (with_reducible first | exact HB.out | apply ba | apply bn | apply bd | refine bs ?_ GE177.out) | exact HB.out))) : w.heap.size ≤ gb180)); have n5_ := AM ((by rw [hg]; exact Nat.ne_of_lt (blk_lt (g := gb177) (o := .cells #[.slice (some ad179) l0_0.length c0_0, .int .i64 a0_1] 28 (0, 0)) (lfK BK177.out)) : gb177 ≠ gb180)); have n6_ := AM ((by rw [hg]; exact Nat.ne_of_gt (blk_lt (g := gb177) (o := .cells #[.slice (some ad179) l0_0.length c0_0, .int .i64 a0_1] 28 (0, 0)) (lfK BK177.out)) : gb180 ≠ gb177)); clear BK177 HB; revert n0_ n1_ n2_ n3_ n4_ n5_ n6_; intro BK177 HB BK180 GW180 GE180 NB177_180 NB180_177; clear hb hbox hg; have hnb32 := NB180_177.out; have hnc32 := NB177_180.out; have hcz33_0 : w31.cell? ⟨gb180, 0, none⟩ = some (.int .i64 0) := (kc BK180.out 0).trans rfl; have hcz33_1 : w31.cell? ⟨gb180, 1, none⟩ = some (.int .i64 0) := (kc BK180.out 1).trans rfl; have hcz33_2 : w31.cell? ⟨gb180, 2, none⟩ = some (.int .i64 0) := (kc BK180.out 2).trans rfl; have hcz33_3 : w31.cell? ⟨gb180, 3, none⟩ = some (.bool false) := (kc BK180.out 3).trans rfl; have hfz33_0 := kz BK180.out 0; have hfz33_1 := kz BK180.out 1; have hfz33_2 := kz BK180.out 2; have hfz33_3 := kz BK180.out 3))
                              have n0_ : Aside0 (((((w31.setCell ⟨gb180, 0, none⟩ (.int .i64 ((rd_T51 l0_0 x8_1).f0))).setCell ⟨gb180, 1, none⟩ (.int .i64 ((rd_T51 l0_0 x8_1).f1))).setCell ⟨gb180, 2, none⟩ (.int .i64 ((rd_T51 l0_0 x8_1).f2))).setCell ⟨gb180, 3, none⟩ (.bool true)).heap[gb177]? = some (.cells #[.slice (some ad179) l0_0.length c0_0, .int .i64 a0_1] 28 (0, 0))) := ⟨by (with_reducible repeat (first | refine kn ?_ _ | refine kd ?_ | refine ka ?_ _)); refine kf ?_ NB177_180.out _; (with_reducible repeat (first | refine kn ?_ _ | refine kd ?_ | refine ka ?_ _)); refine kf ?_ NB177_180.out _; (with_reducible repeat (first | refine kn ?_ _ | refine kd ?_ | refine ka ?_ _)); refine kf ?_ NB177_180.out _; (with_reducible repeat (first | refine kn ?_ _ | refine kd ?_ | refine ka ?_ _)); refine kf ?_ NB177_180.out _; (with_reducible repeat (first | refine kn ?_ _ | refine kd ?_ | refine ka ?_ _)); exact BK177.out⟩
                              have n1_ : Aside0 (((((w31.setCell ⟨gb180, 0, none⟩ (.int .i64 ((rd_T51 l0_0 x8_1).f0))).setCell ⟨gb180, 1, none⟩ (.int .i64 ((rd_T51 l0_0 x8_1).f1))).setCell ⟨gb180, 2, none⟩ (.int .i64 ((rd_T51 l0_0 x8_1).f2))).setCell ⟨gb180, 3, none⟩ (.bool true)).heap[gb180]? = some (.cells #[.int .i64 ((rd_T51 l0_0 x8_1).f0), .int .i64 ((rd_T51 l0_0 x8_1).f1), .int .i64 ((rd_T51 l0_0 x8_1).f2), .bool true] 51 (0, 0))) := ⟨by (with_reducible repeat (first | refine kn ?_ _ | refine kd ?_ | refine ka ?_ _)); refine blk_put (cs := #[.int .i64 ((rd_T51 l0_0 x8_1).f0), .int .i64 ((rd_T51 l0_0 x8_1).f1), .int .i64 ((rd_T51 l0_0 x8_1).f2), .bool false]) ?_ 3 _ rfl; (with_reducible repeat (first | refine kn ?_ _ | refine kd ?_ | refine ka ?_ _)); refine blk_put (cs := #[.int .i64 ((rd_T51 l0_0 x8_1).f0), .int .i64 ((rd_T51 l0_0 x8_1).f1), .int .i64 0, .bool false]) ?_ 2 _ rfl; (with_reducible repeat (first | refine kn ?_ _ | refine kd ?_ | refine ka ?_ _)); refine blk_put (cs := #[.int .i64 ((rd_T51 l0_0 x8_1).f0), .int .i64 0, .int .i64 0, .bool false]) ?_ 1 _ rfl; (with_reducible repeat (first | refine kn ?_ _ | refine kd ?_ | refine ka ?_ _)); refine blk_put (cs := #[.int .i64 0, .int .i64 0, .int .i64 0, .bool false]) ?_ 0 _ rfl; (with_reducible repeat (first | refine kn ?_ _ | refine kd ?_ | refine ka ?_ _)); exact BK180.out⟩
                              have n2_ : Aside0 (Below w.heap.size w ((((w31.setCell ⟨gb180, 0, none⟩ (.int .i64 ((rd_T51 l0_0 x8_1).f0))).setCell ⟨gb180, 1, none⟩ (.int .i64 ((rd_T51 l0_0 x8_1).f1))).setCell ⟨gb180, 2, none⟩ (.int .i64 ((rd_T51 l0_0 x8_1).f2))).setCell ⟨gb180, 3, none⟩ (.bool true))) := ⟨by repeat (first | (with_reducible first | exact HB.out | apply ba | apply bn | apply bd | refine bs ?_ GE177.out | refine bs ?_ GE180.out) | exact HB.out)⟩
                              (try clear BK177)
                              (try clear BK180)
                              (try clear HB)
                              generalize ((((w31.setCell ⟨gb180, 0, none⟩ (.int .i64 ((rd_T51 l0_0 x8_1).f0))).setCell ⟨gb180, 1, none⟩ (.int .i64 ((rd_T51 l0_0 x8_1).f1))).setCell ⟨gb180, 2, none⟩ (.int .i64 ((rd_T51 l0_0 x8_1).f2))).setCell ⟨gb180, 3, none⟩ (.bool true)) = w34 at n0_ n1_ n2_ ⊢
                              revert n0_ n1_ n2_
                              intro BK177 BK180 HB
                              have n0_ := AM (kd BK177.out)
                              have n1_ := AM (kd BK180.out)
                              have n2_ := AM (bd HB.out)
                              clear BK177 BK180 HB
                              revert n0_ n1_ n2_
                              intro BK177 BK180 HB
                              have p184 : 0 ≤ ((ji22) : Int) := of_decide_eq_true (by first | (with_reducible assumption) | assumption)
                              have q184 : (ji22) < (l0_0.length : Int) := of_decide_eq_true (by first | (with_reducible assumption) | assumption)
                              obtain ⟨ad184, e184, hx184_0, hx184_1, hx184_2, hx184_3⟩ := at_T51 HR0_0.out (ji22) p184 q184
                              have hw184_3 := hx184_3
                              have hw184_2 := hx184_2
                              have hw184_1 := hx184_1
                              have hw184_0 := hx184_0
                              (try rw [← Nbq13.out] at hx184_3)
                              obtain rfl : ad179 = ad184 := (by injection e184)
                              replace hx184_0 := (HB.out.cell (World.block_lt_of_cell? w _ hx184_0)).trans hx184_0
                              replace hx184_1 := (HB.out.cell (World.block_lt_of_cell? w _ hx184_1)).trans hx184_1
                              replace hx184_2 := (HB.out.cell (World.block_lt_of_cell? w _ hx184_2)).trans hx184_2
                              replace hx184_3 := (HB.out.cell (World.block_lt_of_cell? w _ hx184_3)).trans hx184_3
                              replace p184 := eq_true p184
                              replace q184 := eq_true q184
                              refine start_ (n := 43) (S := fun w' => w'.cell? ⟨gb180, 0, none⟩ = some (.int .i64 ((rd_T51 l0_0 x8_1).f0)) ∧ w'.cell? ⟨gb180, 1, none⟩ = some (.int .i64 ((rd_T51 l0_0 x8_1).f1)) ∧ w'.cell? ⟨gb180, 2, none⟩ = some (.int .i64 ((rd_T51 l0_0 x8_1).f2)) ∧ w'.cell? ⟨gb180, 3, none⟩ = some (.bool true) ∧ w'.cell? ⟨gb177, 0, none⟩ = some (.slice (some ad179) l0_0.length c0_0) ∧ w'.cell? ⟨gb177, 1, none⟩ = some (.int .i64 a0_1) ∧ w'.cell? (ad179.add (((ji22)).toNat * 4)) = some (.int .i64 ((rd_T51 l0_0 (ji22)).f0)) ∧ w'.cell? ⟨(ad179.add (((ji22)).toNat * 4)).block, (ad179.add (((ji22)).toNat * 4)).off + 1, none⟩ = some (.int .i64 ((rd_T51 l0_0 (ji22)).f1)) ∧ w'.cell? ⟨(ad179.add (((ji22)).toNat * 4)).block, (ad179.add (((ji22)).toNat * 4)).off + 2, none⟩ = some (.int .i64 ((rd_T51 l0_0 (ji22)).f2)) ∧ w'.cell? ⟨(ad179.add (((ji22)).toNat * 4)).block, (ad179.add (((ji22)).toNat * 4)).off + 3, none⟩ = some (.bool ((rd_T51 l0_0 (ji22)).f3))) (ds := []) (mB 43 0x0) (by kernel_rfl) rfl rfl ⟨(kc BK180.out 0).trans rfl, (kc BK180.out 1).trans rfl, (kc BK180.out 2).trans rfl, (kc BK180.out 3).trans rfl, (kc BK177.out 0).trans rfl, (kc BK177.out 1).trans rfl, ((HB.out.cell (World.block_lt_of_cell? w _ hw184_0)).trans hw184_0), ((HB.out.cell (World.block_lt_of_cell? w _ hw184_1)).trans hw184_1), ((HB.out.cell (World.block_lt_of_cell? w _ hw184_2)).trans hw184_2), ((HB.out.cell (World.block_lt_of_cell? w _ hw184_3)).trans hw184_3)⟩ (fun hHeld => ?_); refine with_tabW impl_QueueOk.tab4 impl_QueueOk.bits4 (fun HT_ HW_ => ?_)
                              generalize w34.drew = w35 at BK177 BK180 HB hx184_0 hx184_1 hx184_2 hx184_3 hHeld ⊢
                              refine puY (v := ?_) (a' := ?_) 0 13 (mB 43 0x1) rfl rfl HT_.out (by kernel_rfl) (fun _ _ _ h => h) (by rfl) ?_ ?_ ?_; rotate_left; (focus intro w'; go_simp; with_reducible rfl); rotate_left; (focus simp only [Act.put, sA, sZ, sS, i64_w, i32_w]; rfl)
                              refine take_ (i := 1) (N := some 14) (v := ?_) (a' := ?_) (mB 43 0x3) rfl rfl (take_ofW HT_.out HW_.out (by kernel_rfl)) (fun _ _ _ h => h) (Or.inl ⟨by rfl, ?_⟩) hHeld ?_ ?_
                              rotate_left
                              · rintro w' ⟨s0, s1, s2, s3, s4, s5, s6, s7, s8, s9⟩; go_simp; with_reducible rfl
                              rotate_left
                              · simp only [Act.put, sA, sZ, sS, i64_w, i32_w]; rfl
                              refine one_ (i := 2) (N := some 15) (mB 43 0x7) rfl rfl (one_of HT_.out (by kernel_rfl)) (by decide) (fun K hK => ?_)
                              refine goes_ Try.func21 (by kernel_rfl) rfl #[.int .i64 ((rd_T51 l0_0 x8_1).f0), .int .i64 0, .int .i64 99] (by rfl) rfl rfl (by (try simp only [List.map_toArray, List.map_cons, List.map_nil]); first | done | rfl | (simp only [List.length_drop, List.length_take]; rfl)) ?_
                              with_reducible refine (impl_in.calls ((rd_T51 l0_0 x8_1).f0) 0 99 true _ A7.out).mono ?_
                              rintro e w' ⟨rfl, ⟨nd, rfl⟩⟩
                              refine ⟨_, rfl, ?_⟩
                              refine hK.out _ _ ⟨(kc BK180.out 0).trans rfl, (kc BK180.out 1).trans rfl, (kc BK180.out 2).trans rfl, (kc BK180.out 3).trans rfl, (kc BK177.out 0).trans rfl, (kc BK177.out 1).trans rfl, ((HB.out.cell (World.block_lt_of_cell? w _ hw184_0)).trans hw184_0), ((HB.out.cell (World.block_lt_of_cell? w _ hw184_1)).trans hw184_1), ((HB.out.cell (World.block_lt_of_cell? w _ hw184_2)).trans hw184_2), ((HB.out.cell (World.block_lt_of_cell? w _ hw184_3)).trans hw184_3)⟩ (fun hHeld => ?_)
                              clear hK K
                              refine norm_ (a' := ?_) ?_ ?_
                              rotate_left
                              · show Act.put _ (some 15) _ = _
                                simp only [Act.put, sA, sZ, sS, i64_w, i32_w]
                                rfl
                              refine puY (v := ?_) (a' := ?_) 3 16 (mB 43 0xf) rfl rfl HT_.out (by kernel_rfl) (fun _ _ _ h => h) (by rfl) ?_ ?_ ?_; rotate_left; (focus intro w'; go_simp; with_reducible rfl); rotate_left; (focus simp only [Act.put, sA, sZ, sS, i64_w, i32_w]; rfl); refine puY (v := ?_) (a' := ?_) 4 17 (mB 43 0x1f) rfl rfl HT_.out (by kernel_rfl) (fun _ _ _ h => h) (by rfl) ?_ ?_ ?_; rotate_left; (focus intro w'; go_simp; with_reducible rfl); rotate_left; (focus simp only [Act.put, sA, sZ, sS, i64_w, i32_w]; rfl); refine puY (v := ?_) (a' := ?_) 5 18 (mB 43 0x3f) rfl rfl HT_.out (by kernel_rfl) (fun _ _ _ h => h) (by rfl) ?_ ?_ ?_; rotate_left; (focus intro w'; go_simp; with_reducible rfl); rotate_left; (focus simp only [Act.put, sA, sZ, sS, i64_w, i32_w]; rfl)
                              refine take_ (i := 6) (N := some 19) (v := ?_) (a' := ?_) (mB 43 0x7f) rfl rfl (take_ofW HT_.out HW_.out (by kernel_rfl)) (fun _ _ _ h => h) (Or.inl ⟨by rfl, ?_⟩) hHeld ?_ ?_
                              rotate_left
                              · rintro w' ⟨s0, s1, s2, s3, s4, s5, s6, s7, s8, s9⟩; go_simp; with_reducible rfl
                              rotate_left
                              · simp only [Act.put, sA, sZ, sS, i64_w, i32_w]; rfl
                              refine one_ (i := 7) (N := some 20) (mB 43 0xff) rfl rfl (one_of HT_.out (by kernel_rfl)) (by decide) (fun K hK => ?_)
                              refine goes_ Try.func21 (by kernel_rfl) rfl #[.int .i64 ((rd_T51 l0_0 x8_1).f1), .int .i64 1, .int .i64 6] (by rfl) rfl rfl (by (try simp only [List.map_toArray, List.map_cons, List.map_nil]); first | done | rfl | (simp only [List.length_drop, List.length_take]; rfl)) ?_
                              with_reducible refine (impl_in.calls ((rd_T51 l0_0 x8_1).f1) 1 6 true _ A9.out).mono ?_
                              rintro e w' ⟨rfl, ⟨nd, rfl⟩⟩
                              refine ⟨_, rfl, ?_⟩
                              refine hK.out _ _ ⟨(kc BK180.out 0).trans rfl, (kc BK180.out 1).trans rfl, (kc BK180.out 2).trans rfl, (kc BK180.out 3).trans rfl, (kc BK177.out 0).trans rfl, (kc BK177.out 1).trans rfl, ((HB.out.cell (World.block_lt_of_cell? w _ hw184_0)).trans hw184_0), ((HB.out.cell (World.block_lt_of_cell? w _ hw184_1)).trans hw184_1), ((HB.out.cell (World.block_lt_of_cell? w _ hw184_2)).trans hw184_2), ((HB.out.cell (World.block_lt_of_cell? w _ hw184_3)).trans hw184_3)⟩ (fun hHeld => ?_)
                              clear hK K
                              refine norm_ (a' := ?_) ?_ ?_
                              rotate_left
                              · show Act.put _ (some 20) _ = _
                                simp only [Act.put, sA, sZ, sS, i64_w, i32_w]
                                rfl
                              refine puY (v := ?_) (a' := ?_) 8 21 (mB 43 0x1ff) rfl rfl HT_.out (by kernel_rfl) (fun _ _ _ h => h) (by rfl) ?_ ?_ ?_; rotate_left; (focus intro w'; go_simp; with_reducible rfl); rotate_left; (focus simp only [Act.put, sA, sZ, sS, i64_w, i32_w]; rfl); refine puY (v := ?_) (a' := ?_) 9 22 (mB 43 0x3ff) rfl rfl HT_.out (by kernel_rfl) (fun _ _ _ h => h) (by rfl) ?_ ?_ ?_; rotate_left; (focus intro w'; go_simp; with_reducible rfl); rotate_left; (focus simp only [Act.put, sA, sZ, sS, i64_w, i32_w]; rfl); refine puY (v := ?_) (a' := ?_) 10 23 (mB 43 0x7ff) rfl rfl HT_.out (by kernel_rfl) (fun _ _ _ h => h) (by rfl) ?_ ?_ ?_; rotate_left; (focus intro w'; go_simp; with_reducible rfl); rotate_left; (focus simp only [Act.put, sA, sZ, sS, i64_w, i32_w]; rfl); refine puY (v := ?_) (a' := ?_) 11 24 (mB 43 0xfff) rfl rfl HT_.out (by kernel_rfl) (fun _ _ _ h => h) (by rfl) ?_ ?_ ?_; rotate_left; (focus intro w'; go_simp; with_reducible rfl); rotate_left; (focus simp only [Act.put, sA, sZ, sS, i64_w, i32_w]; rfl)
                              refine take_ (i := 12) (N := some 25) (v := ?_) (a' := ?_) (mB 43 0x1fff) rfl rfl (take_ofW HT_.out HW_.out (by kernel_rfl)) (fun _ _ _ h => h) (Or.inl ⟨by rfl, ?_⟩) hHeld ?_ ?_
                              rotate_left
                              · rintro w' ⟨s0, s1, s2, s3, s4, s5, s6, s7, s8, s9⟩; go_simp; with_reducible rfl
                              rotate_left
                              · simp only [Act.put, sA, sZ, sS, i64_w, i32_w]; rfl
                              refine one_ (i := 13) (N := some 26) (mB 43 0x3fff) rfl rfl (one_of HT_.out (by kernel_rfl)) (by decide) (fun K hK => ?_)
                              refine goes_ Try.func21 (by kernel_rfl) rfl #[.int .i64 ((rd_T51 l0_0 x8_1).f2), .int .i64 0, .int .i64 1000000] (by rfl) rfl rfl (by (try simp only [List.map_toArray, List.map_cons, List.map_nil]); first | done | rfl | (simp only [List.length_drop, List.length_take]; rfl)) ?_
                              with_reducible refine (impl_in.calls ((rd_T51 l0_0 x8_1).f2) 0 1000000 true _ A11.out).mono ?_
                              rintro e w' ⟨rfl, ⟨nd, rfl⟩⟩
                              refine ⟨_, rfl, ?_⟩
                              refine hK.out _ _ ⟨(kc BK180.out 0).trans rfl, (kc BK180.out 1).trans rfl, (kc BK180.out 2).trans rfl, (kc BK180.out 3).trans rfl, (kc BK177.out 0).trans rfl, (kc BK177.out 1).trans rfl, ((HB.out.cell (World.block_lt_of_cell? w _ hw184_0)).trans hw184_0), ((HB.out.cell (World.block_lt_of_cell? w _ hw184_1)).trans hw184_1), ((HB.out.cell (World.block_lt_of_cell? w _ hw184_2)).trans hw184_2), ((HB.out.cell (World.block_lt_of_cell? w _ hw184_3)).trans hw184_3)⟩ (fun hHeld => ?_)
                              clear hK K
                              refine norm_ (a' := ?_) ?_ ?_
                              rotate_left
                              · show Act.put _ (some 26) _ = _
                                simp only [Act.put, sA, sZ, sS, i64_w, i32_w]
                                rfl
                              refine puY (v := ?_) (a' := ?_) 14 27 (mB 43 0x7fff) rfl rfl HT_.out (by kernel_rfl) (fun _ _ _ h => h) (by rfl) ?_ ?_ ?_; rotate_left; (focus intro w'; go_simp; with_reducible rfl); rotate_left; (focus simp only [Act.put, sA, sZ, sS, i64_w, i32_w]; rfl); refine puY (v := ?_) (a' := ?_) 15 28 (mB 43 0xffff) rfl rfl HT_.out (by kernel_rfl) (fun _ _ _ h => h) (by rfl) ?_ ?_ ?_; rotate_left; (focus intro w'; go_simp; with_reducible rfl); rotate_left; (focus simp only [Act.put, sA, sZ, sS, i64_w, i32_w]; rfl); refine puY (v := ?_) (a' := ?_) 16 29 (mB 43 0x1ffff) rfl rfl HT_.out (by kernel_rfl) (fun _ _ _ h => h) (by rfl) ?_ ?_ ?_; rotate_left; (focus intro w'; go_simp; with_reducible rfl); rotate_left; (focus simp only [Act.put, sA, sZ, sS, i64_w, i32_w]; rfl); refine puY (v := ?_) (a' := ?_) 17 30 (mB 43 0x3ffff) rfl rfl HT_.out (by kernel_rfl) (fun _ _ _ h => h) (by rfl) ?_ ?_ ?_; rotate_left; (focus intro w'; go_simp; with_reducible rfl); rotate_left; (focus simp only [Act.put, sA, sZ, sS, i64_w, i32_w]; rfl)
                              refine take_ (i := 18) (N := some 31) (v := ?_) (a' := ?_) (mB 43 0x7ffff) rfl rfl (take_ofW HT_.out HW_.out (by kernel_rfl)) (fun _ _ _ h => h) (Or.inl ⟨by rfl, ?_⟩) hHeld ?_ ?_
                              rotate_left
                              · rintro w' ⟨s0, s1, s2, s3, s4, s5, s6, s7, s8, s9⟩; go_simp; with_reducible rfl
                              rotate_left
                              · simp only [Act.put, sA, sZ, sS, i64_w, i32_w]; rfl
                              refine puY (v := ?_) (a' := ?_) 19 32 (mB 43 0xfffff) rfl rfl HT_.out (by kernel_rfl) (fun _ _ _ h => h) (by rfl) ?_ ?_ ?_; rotate_left; (focus intro w'; go_simp; with_reducible rfl); rotate_left; (focus simp only [Act.put, sA, sZ, sS, i64_w, i32_w]; rfl); refine puY (v := ?_) (a' := ?_) 20 33 (mB 43 0x1fffff) rfl rfl HT_.out (by kernel_rfl) (fun _ _ _ h => h) (by rfl) ?_ ?_ ?_; rotate_left; (focus intro w'; go_simp; with_reducible rfl); rotate_left; (focus simp only [Act.put, sA, sZ, sS, i64_w, i32_w]; rfl); refine puY (v := ?_) (a' := ?_) 22 35 (mB 43 0x5fffff) rfl rfl HT_.out (by kernel_rfl) (fun _ _ _ h => h) (by rfl) ?_ ?_ ?_; rotate_left; (focus intro w'; go_simp; with_reducible rfl); rotate_left; (focus simp only [Act.put, sA, sZ, sS, i64_w, i32_w]; rfl)
                              refine take_ (i := 21) (N := some 34) (v := ?_) (a' := ?_) (mB 43 0x7fffff) rfl rfl (take_ofW HT_.out HW_.out (by kernel_rfl)) (fun _ _ _ h => h) (Or.inl ⟨by rfl, ?_⟩) hHeld ?_ ?_
                              rotate_left
                              · rintro w' ⟨s0, s1, s2, s3, s4, s5, s6, s7, s8, s9⟩; go_simp; with_reducible rfl
                              rotate_left
                              · simp only [Act.put, sA, sZ, sS, i64_w, i32_w]; rfl
                              refine take_ (i := 23) (N := some 36) (v := ?_) (a' := ?_) (mB 43 0xffffff) rfl rfl (take_ofW HT_.out HW_.out (by kernel_rfl)) (fun _ _ _ h => h) (Or.inl ⟨by rfl, ?_⟩) hHeld ?_ ?_
                              rotate_left
                              · rintro w' ⟨s0, s1, s2, s3, s4, s5, s6, s7, s8, s9⟩; go_simp; with_reducible rfl
                              rotate_left
                              · simp only [Act.put, sA, sZ, sS, i64_w, i32_w]; rfl
                              refine puY (v := ?_) (a' := ?_) 24 37 (mB 43 0x1ffffff) rfl rfl HT_.out (by kernel_rfl) (fun _ _ _ h => h) (by rfl) ?_ ?_ ?_; rotate_left; (focus intro w'; go_simp; with_reducible rfl); rotate_left; (focus simp only [Act.put, sA, sZ, sS, i64_w, i32_w]; rfl); refine puY (v := ?_) (a' := ?_) 25 38 (mB 43 0x3ffffff) rfl rfl HT_.out (by kernel_rfl) (fun _ _ _ h => h) (by rfl) ?_ ?_ ?_; rotate_left; (focus intro w'; go_simp; with_reducible rfl); rotate_left; (focus simp only [Act.put, sA, sZ, sS, i64_w, i32_w]; rfl); refine puY (v := ?_) (a' := ?_) 26 39 (mB 43 0x7ffffff) rfl rfl HT_.out (by kernel_rfl) (fun _ _ _ h => h) (by rfl) ?_ ?_ ?_; rotate_left; (focus intro w'; go_simp; with_reducible rfl); rotate_left; (focus simp only [Act.put, sA, sZ, sS, i64_w, i32_w]; rfl); refine puY (v := ?_) (a' := ?_) 27 40 (mB 43 0xfffffff) rfl rfl HT_.out (by kernel_rfl) (fun _ _ _ h => h) (by rfl) ?_ ?_ ?_; rotate_left; (focus intro w'; go_simp; with_reducible rfl); rotate_left; (focus simp only [Act.put, sA, sZ, sS, i64_w, i32_w]; rfl); refine puY (v := ?_) (a' := ?_) 28 41 (mB 43 0x1fffffff) rfl rfl HT_.out (by kernel_rfl) (fun _ _ _ h => h) (by rfl) ?_ ?_ ?_; rotate_left; (focus intro w'; go_simp; with_reducible rfl); rotate_left; (focus simp only [Act.put, sA, sZ, sS, i64_w, i32_w]; rfl); refine puY (v := ?_) (a' := ?_) 29 42 (mB 43 0x3fffffff) rfl rfl HT_.out (by kernel_rfl) (fun _ _ _ h => h) (by rfl) ?_ ?_ ?_; rotate_left; (focus intro w'; go_simp; with_reducible rfl); rotate_left; (focus simp only [Act.put, sA, sZ, sS, i64_w, i32_w]; rfl); refine puY (v := ?_) (a' := ?_) 30 43 (mB 43 0x7fffffff) rfl rfl HT_.out (by kernel_rfl) (fun _ _ _ h => h) (by rfl) ?_ ?_ ?_; rotate_left; (focus intro w'; go_simp; with_reducible rfl); rotate_left; (focus simp only [Act.put, sA, sZ, sS, i64_w, i32_w]; rfl); refine puY (v := ?_) (a' := ?_) 31 44 (mB 43 0xffffffff) rfl rfl HT_.out (by kernel_rfl) (fun _ _ _ h => h) (by rfl) ?_ ?_ ?_; rotate_left; (focus intro w'; go_simp; with_reducible rfl); rotate_left; (focus simp only [Act.put, sA, sZ, sS, i64_w, i32_w]; rfl); refine puY (v := ?_) (a' := ?_) 33 46 (mB 43 0x2ffffffff) rfl rfl HT_.out (by kernel_rfl) (fun _ _ _ h => h) (by rfl) ?_ ?_ ?_; rotate_left; (focus intro w'; go_simp; with_reducible rfl); rotate_left; (focus simp only [Act.put, sA, sZ, sS, i64_w, i32_w]; rfl); refine puY (v := ?_) (a' := ?_) 34 47 (mB 43 0x6ffffffff) rfl rfl HT_.out (by kernel_rfl) (fun _ _ _ h => h) (by rfl) ?_ ?_ ?_; rotate_left; (focus intro w'; go_simp; with_reducible rfl); rotate_left; (focus simp only [Act.put, sA, sZ, sS, i64_w, i32_w]; rfl); refine puY (v := ?_) (a' := ?_) 38 51 (mB 43 0x46ffffffff) rfl rfl HT_.out (by kernel_rfl) (fun _ _ _ h => h) (by rfl) ?_ ?_ ?_; rotate_left; (focus intro w'; go_simp; with_reducible rfl); rotate_left; (focus simp only [Act.put, sA, sZ, sS, i64_w, i32_w]; rfl)
                              refine take_ (i := 32) (N := some 45) (v := ?_) (a' := ?_) (mB 43 0x47ffffffff) rfl rfl (take_ofW HT_.out HW_.out (by kernel_rfl)) (fun _ _ _ h => h) (Or.inl ⟨by rfl, ?_⟩) hHeld ?_ ?_
                              rotate_left
                              · rintro w' ⟨s0, s1, s2, s3, s4, s5, s6, s7, s8, s9⟩; go_simp; with_reducible rfl
                              rotate_left
                              · simp only [Act.put, sA, sZ, sS, i64_w, i32_w]; rfl
                              refine puY (v := ?_) (a' := ?_) 35 48 (mB 43 0x4fffffffff) rfl rfl HT_.out (by kernel_rfl) (fun _ _ _ h => h) (by rfl) ?_ ?_ ?_; rotate_left; (focus intro w'; go_simp; with_reducible rfl); rotate_left; (focus simp only [Act.put, sA, sZ, sS, i64_w, i32_w]; rfl); refine puY (v := ?_) (a' := ?_) 36 49 (mB 43 0x5fffffffff) rfl rfl HT_.out (by kernel_rfl) (fun _ _ _ h => h) (by rfl) ?_ ?_ ?_; rotate_left; (focus intro w'; go_simp; with_reducible rfl); rotate_left; (focus simp only [Act.put, sA, sZ, sS, i64_w, i32_w]; rfl)
                              refine take_ (i := 37) (N := some 50) (v := ?_) (a' := ?_) (mB 43 0x7fffffffff) rfl rfl (take_ofW HT_.out HW_.out (by kernel_rfl)) (fun _ _ _ h => h) (Or.inl ⟨by rfl, ?_⟩) hHeld ?_ ?_
                              rotate_left
                              · rintro w' ⟨s0, s1, s2, s3, s4, s5, s6, s7, s8, s9⟩; go_simp; with_reducible rfl
                              rotate_left
                              · simp only [Act.put, sA, sZ, sS, i64_w, i32_w]; rfl
                              refine take_ (i := 39) (N := some 52) (v := ?_) (a' := ?_) (mB 43 0xffffffffff) rfl rfl (take_ofW HT_.out HW_.out (by kernel_rfl)) (fun _ _ _ h => h) (Or.inl ⟨by rfl, ?_⟩) hHeld ?_ ?_
                              rotate_left
                              · rintro w' ⟨s0, s1, s2, s3, s4, s5, s6, s7, s8, s9⟩; go_simp; with_reducible rfl
                              rotate_left
                              · simp only [Act.put, sA, sZ, sS, i64_w, i32_w]; rfl
                              refine puY (v := ?_) (a' := ?_) 40 53 (mB 43 0x1ffffffffff) rfl rfl HT_.out (by kernel_rfl) (fun _ _ _ h => h) (by rfl) ?_ ?_ ?_; rotate_left; (focus intro w'; go_simp; with_reducible rfl); rotate_left; (focus simp only [Act.put, sA, sZ, sS, i64_w, i32_w]; rfl); refine puY (v := ?_) (a' := ?_) 41 54 (mB 43 0x3ffffffffff) rfl rfl HT_.out (by kernel_rfl) (fun _ _ _ h => h) (by rfl) ?_ ?_ ?_; rotate_left; (focus intro w'; go_simp; with_reducible rfl); rotate_left; (focus simp only [Act.put, sA, sZ, sS, i64_w, i32_w]; rfl); refine puY (v := ?_) (a' := ?_) 42 55 (mB 43 0x7ffffffffff) rfl rfl HT_.out (by kernel_rfl) (fun _ _ _ h => h) (by rfl) ?_ ?_ ?_; rotate_left; (focus intro w'; go_simp; with_reducible rfl); rotate_left; (focus simp only [Act.put, sA, sZ, sS, i64_w, i32_w]; rfl)
                              refine done_ (done_of HT_.out (by kernel_rfl)) ?_
                              try go_wp2
                              go_roundg k1
                              case measure => have := HK1.out; omega
                              case rel => exact ⟨(wrap64 (x8_1 + 1)), (by first | rfl | (simp; done) | (simp [*]; done)), H', ⟨by have := HK1.out; omega⟩, ⟨by (with_reducible repeat (first | refine kn ?_ _ | refine kd ?_ | refine ka ?_ _)); exact BK177.out⟩, ⟨by repeat (first | (with_reducible first | exact HB.out | apply ba | apply bn | apply bd | refine bs ?_ GE177.out | refine bs ?_ GE180.out) | exact HB.out)⟩⟩
                          · rw [if_neg c24] at H
                            exact absurd H (by simp)
                        · rw [if_neg c23] at H
                          exact absurd H (by simp)
                      · rw [if_neg c21] at H
                        have c21b0 : decide (0 < x8_1) = false := decide_eq_false c21
                        clear c21
                        have H' := AM H
                        clear H
                        have p179 : 0 ≤ (x8_1 : Int) := of_decide_eq_true (by first | (with_reducible assumption) | assumption)
                        have q179 : x8_1 < (l0_0.length : Int) := of_decide_eq_true (by first | (with_reducible assumption) | assumption)
                        obtain ⟨ad179, e179, hx179_0, hx179_1, hx179_2, hx179_3⟩ := at_T51 HR0_0.out x8_1 p179 q179
                        (try rw [← Nbq13.out] at hx179_3)
                        cases e179
                        replace hx179_0 := (HB.out.cell (World.block_lt_of_cell? w _ hx179_0)).trans hx179_0
                        replace hx179_1 := (HB.out.cell (World.block_lt_of_cell? w _ hx179_1)).trans hx179_1
                        replace hx179_2 := (HB.out.cell (World.block_lt_of_cell? w _ hx179_2)).trans hx179_2
                        replace hx179_3 := (HB.out.cell (World.block_lt_of_cell? w _ hx179_3)).trans hx179_3
                        replace p179 := eq_true p179
                        replace q179 := eq_true q179
                        try go_wp2_with (first | ((with_reducible refine gd (N := 4) rfl ?_); refine xe ?hg (N := 4) ?hd (cs := #[.int .i64 0, .int .i64 0, .int .i64 0, .bool false]) (t := 51) ?hr ?_; (case hd => rfl); (case hg => rfl); (case hr => first | (go_simp; done) | (go_simp; rfl)); intro gb180 hg w36 hbox hb; have n0_ := AM (kb (g := gb177) (o := .cells #[.slice (some ad179) l0_0.length c0_0, .int .i64 a0_1] 28 (0, 0)) (lfK BK177.out) hb); have n1_ := AM (bp (by repeat (first | (with_reducible first | exact HB.out | apply ba | apply bn | apply bd | refine bs ?_ GE177.out) | exact HB.out)) hb); have n2_ := AM (hbox); have n3_ := AM ((by rw [hg]; exact (bz (by repeat (first | (with_reducible first | exact HB.out | apply ba | apply bn | apply bd | refine bs ?_ GE177.out) | exact HB.out))) : w.heap.size ≤ gb180)); have n4_ := AM ((by rw [hg]; exact (bz (by repeat (first | (with_reducible first | exact HB.out | apply ba | apply bn | apply bd | refine bs ?_ GE177.out) | exact HB.out))) : w.heap.size ≤ gb180)); have n5_ := AM ((by rw [hg]; exact Nat.ne_of_lt (blk_lt (g := gb177) (o := .cells #[.slice (some ad179) l0_0.length c0_0, .int .i64 a0_1] 28 (0, 0)) (lfK BK177.out)) : gb177 ≠ gb180)); have n6_ := AM ((by rw [hg]; exact Nat.ne_of_gt (blk_lt (g := gb177) (o := .cells #[.slice (some ad179) l0_0.length c0_0, .int .i64 a0_1] 28 (0, 0)) (lfK BK177.out)) : gb180 ≠ gb177)); clear BK177 HB; revert n0_ n1_ n2_ n3_ n4_ n5_ n6_; intro BK177 HB BK180 GW180 GE180 NB177_180 NB180_177; clear hb hbox hg; have hnb37 := NB180_177.out; have hnc37 := NB177_180.out; have hcz38_0 : w36.cell? ⟨gb180, 0, none⟩ = some (.int .i64 0) := (kc BK180.out 0).trans rfl; have hcz38_1 : w36.cell? ⟨gb180, 1, none⟩ = some (.int .i64 0) := (kc BK180.out 1).trans rfl; have hcz38_2 : w36.cell? ⟨gb180, 2, none⟩ = some (.int .i64 0) := (kc BK180.out 2).trans rfl; have hcz38_3 : w36.cell? ⟨gb180, 3, none⟩ = some (.bool false) := (kc BK180.out 3).trans rfl; have hfz38_0 := kz BK180.out 0; have hfz38_1 := kz BK180.out 1; have hfz38_2 := kz BK180.out 2; have hfz38_3 := kz BK180.out 3))
                        have n0_ : Aside0 (((((w36.setCell ⟨gb180, 0, none⟩ (.int .i64 ((rd_T51 l0_0 x8_1).f0))).setCell ⟨gb180, 1, none⟩ (.int .i64 ((rd_T51 l0_0 x8_1).f1))).setCell ⟨gb180, 2, none⟩ (.int .i64 ((rd_T51 l0_0 x8_1).f2))).setCell ⟨gb180, 3, none⟩ (.bool true)).heap[gb177]? = some (.cells #[.slice (some ad179) l0_0.length c0_0, .int .i64 a0_1] 28 (0, 0))) := ⟨by (with_reducible repeat (first | refine kn ?_ _ | refine kd ?_ | refine ka ?_ _)); refine kf ?_ NB177_180.out _; (with_reducible repeat (first | refine kn ?_ _ | refine kd ?_ | refine ka ?_ _)); refine kf ?_ NB177_180.out _; (with_reducible repeat (first | refine kn ?_ _ | refine kd ?_ | refine ka ?_ _)); refine kf ?_ NB177_180.out _; (with_reducible repeat (first | refine kn ?_ _ | refine kd ?_ | refine ka ?_ _)); refine kf ?_ NB177_180.out _; (with_reducible repeat (first | refine kn ?_ _ | refine kd ?_ | refine ka ?_ _)); exact BK177.out⟩
                        have n1_ : Aside0 (((((w36.setCell ⟨gb180, 0, none⟩ (.int .i64 ((rd_T51 l0_0 x8_1).f0))).setCell ⟨gb180, 1, none⟩ (.int .i64 ((rd_T51 l0_0 x8_1).f1))).setCell ⟨gb180, 2, none⟩ (.int .i64 ((rd_T51 l0_0 x8_1).f2))).setCell ⟨gb180, 3, none⟩ (.bool true)).heap[gb180]? = some (.cells #[.int .i64 ((rd_T51 l0_0 x8_1).f0), .int .i64 ((rd_T51 l0_0 x8_1).f1), .int .i64 ((rd_T51 l0_0 x8_1).f2), .bool true] 51 (0, 0))) := ⟨by (with_reducible repeat (first | refine kn ?_ _ | refine kd ?_ | refine ka ?_ _)); refine blk_put (cs := #[.int .i64 ((rd_T51 l0_0 x8_1).f0), .int .i64 ((rd_T51 l0_0 x8_1).f1), .int .i64 ((rd_T51 l0_0 x8_1).f2), .bool false]) ?_ 3 _ rfl; (with_reducible repeat (first | refine kn ?_ _ | refine kd ?_ | refine ka ?_ _)); refine blk_put (cs := #[.int .i64 ((rd_T51 l0_0 x8_1).f0), .int .i64 ((rd_T51 l0_0 x8_1).f1), .int .i64 0, .bool false]) ?_ 2 _ rfl; (with_reducible repeat (first | refine kn ?_ _ | refine kd ?_ | refine ka ?_ _)); refine blk_put (cs := #[.int .i64 ((rd_T51 l0_0 x8_1).f0), .int .i64 0, .int .i64 0, .bool false]) ?_ 1 _ rfl; (with_reducible repeat (first | refine kn ?_ _ | refine kd ?_ | refine ka ?_ _)); refine blk_put (cs := #[.int .i64 0, .int .i64 0, .int .i64 0, .bool false]) ?_ 0 _ rfl; (with_reducible repeat (first | refine kn ?_ _ | refine kd ?_ | refine ka ?_ _)); exact BK180.out⟩
                        have n2_ : Aside0 (Below w.heap.size w ((((w36.setCell ⟨gb180, 0, none⟩ (.int .i64 ((rd_T51 l0_0 x8_1).f0))).setCell ⟨gb180, 1, none⟩ (.int .i64 ((rd_T51 l0_0 x8_1).f1))).setCell ⟨gb180, 2, none⟩ (.int .i64 ((rd_T51 l0_0 x8_1).f2))).setCell ⟨gb180, 3, none⟩ (.bool true))) := ⟨by repeat (first | (with_reducible first | exact HB.out | apply ba | apply bn | apply bd | refine bs ?_ GE177.out | refine bs ?_ GE180.out) | exact HB.out)⟩
                        (try clear BK177)
                        (try clear BK180)
                        (try clear HB)
                        generalize ((((w36.setCell ⟨gb180, 0, none⟩ (.int .i64 ((rd_T51 l0_0 x8_1).f0))).setCell ⟨gb180, 1, none⟩ (.int .i64 ((rd_T51 l0_0 x8_1).f1))).setCell ⟨gb180, 2, none⟩ (.int .i64 ((rd_T51 l0_0 x8_1).f2))).setCell ⟨gb180, 3, none⟩ (.bool true)) = w39 at n0_ n1_ n2_ ⊢
                        revert n0_ n1_ n2_
                        intro BK177 BK180 HB
                        have n0_ := AM (kd BK177.out)
                        have n1_ := AM (kd BK180.out)
                        have n2_ := AM (bd HB.out)
                        clear BK177 BK180 HB
                        revert n0_ n1_ n2_
                        intro BK177 BK180 HB
                        refine start_ (n := 43) (S := fun w' => w'.cell? ⟨gb180, 0, none⟩ = some (.int .i64 ((rd_T51 l0_0 x8_1).f0)) ∧ w'.cell? ⟨gb180, 1, none⟩ = some (.int .i64 ((rd_T51 l0_0 x8_1).f1)) ∧ w'.cell? ⟨gb180, 2, none⟩ = some (.int .i64 ((rd_T51 l0_0 x8_1).f2)) ∧ w'.cell? ⟨gb180, 3, none⟩ = some (.bool true) ∧ w'.cell? ⟨gb177, 0, none⟩ = some (.slice (some ad179) l0_0.length c0_0) ∧ w'.cell? ⟨gb177, 1, none⟩ = some (.int .i64 a0_1)) (ds := []) (mB 43 0x0) (by kernel_rfl) rfl rfl ⟨(kc BK180.out 0).trans rfl, (kc BK180.out 1).trans rfl, (kc BK180.out 2).trans rfl, (kc BK180.out 3).trans rfl, (kc BK177.out 0).trans rfl, (kc BK177.out 1).trans rfl⟩ (fun hHeld => ?_); refine with_tabW impl_QueueOk.tab4 impl_QueueOk.bits4 (fun HT_ HW_ => ?_)
                        generalize w39.drew = w40 at BK177 BK180 HB hHeld ⊢
                        refine puY (v := ?_) (a' := ?_) 0 13 (mB 43 0x1) rfl rfl HT_.out (by kernel_rfl) (fun _ _ _ h => h) (by rfl) ?_ ?_ ?_; rotate_left; (focus intro w'; go_simp; with_reducible rfl); rotate_left; (focus simp only [Act.put, sA, sZ, sS, i64_w, i32_w]; rfl)
                        refine take_ (i := 1) (N := some 14) (v := ?_) (a' := ?_) (mB 43 0x3) rfl rfl (take_ofW HT_.out HW_.out (by kernel_rfl)) (fun _ _ _ h => h) (Or.inl ⟨by rfl, ?_⟩) hHeld ?_ ?_
                        rotate_left
                        · rintro w' ⟨s0, s1, s2, s3, s4, s5⟩; go_simp; with_reducible rfl
                        rotate_left
                        · simp only [Act.put, sA, sZ, sS, i64_w, i32_w]; rfl
                        refine one_ (i := 2) (N := some 15) (mB 43 0x7) rfl rfl (one_of HT_.out (by kernel_rfl)) (by decide) (fun K hK => ?_)
                        refine goes_ Try.func21 (by kernel_rfl) rfl #[.int .i64 ((rd_T51 l0_0 x8_1).f0), .int .i64 0, .int .i64 99] (by rfl) rfl rfl (by (try simp only [List.map_toArray, List.map_cons, List.map_nil]); first | done | rfl | (simp only [List.length_drop, List.length_take]; rfl)) ?_
                        with_reducible refine (impl_in.calls ((rd_T51 l0_0 x8_1).f0) 0 99 true _ A7.out).mono ?_
                        rintro e w' ⟨rfl, ⟨nd, rfl⟩⟩
                        refine ⟨_, rfl, ?_⟩
                        refine hK.out _ _ ⟨(kc BK180.out 0).trans rfl, (kc BK180.out 1).trans rfl, (kc BK180.out 2).trans rfl, (kc BK180.out 3).trans rfl, (kc BK177.out 0).trans rfl, (kc BK177.out 1).trans rfl⟩ (fun hHeld => ?_)
                        clear hK K
                        refine norm_ (a' := ?_) ?_ ?_
                        rotate_left
                        · show Act.put _ (some 15) _ = _
                          simp only [Act.put, sA, sZ, sS, i64_w, i32_w]
                          rfl
                        refine puY (v := ?_) (a' := ?_) 3 16 (mB 43 0xf) rfl rfl HT_.out (by kernel_rfl) (fun _ _ _ h => h) (by rfl) ?_ ?_ ?_; rotate_left; (focus intro w'; go_simp; with_reducible rfl); rotate_left; (focus simp only [Act.put, sA, sZ, sS, i64_w, i32_w]; rfl); refine puY (v := ?_) (a' := ?_) 4 17 (mB 43 0x1f) rfl rfl HT_.out (by kernel_rfl) (fun _ _ _ h => h) (by rfl) ?_ ?_ ?_; rotate_left; (focus intro w'; go_simp; with_reducible rfl); rotate_left; (focus simp only [Act.put, sA, sZ, sS, i64_w, i32_w]; rfl); refine puY (v := ?_) (a' := ?_) 5 18 (mB 43 0x3f) rfl rfl HT_.out (by kernel_rfl) (fun _ _ _ h => h) (by rfl) ?_ ?_ ?_; rotate_left; (focus intro w'; go_simp; with_reducible rfl); rotate_left; (focus simp only [Act.put, sA, sZ, sS, i64_w, i32_w]; rfl)
                        refine take_ (i := 6) (N := some 19) (v := ?_) (a' := ?_) (mB 43 0x7f) rfl rfl (take_ofW HT_.out HW_.out (by kernel_rfl)) (fun _ _ _ h => h) (Or.inl ⟨by rfl, ?_⟩) hHeld ?_ ?_
                        rotate_left
                        · rintro w' ⟨s0, s1, s2, s3, s4, s5⟩; go_simp; with_reducible rfl
                        rotate_left
                        · simp only [Act.put, sA, sZ, sS, i64_w, i32_w]; rfl
                        refine one_ (i := 7) (N := some 20) (mB 43 0xff) rfl rfl (one_of HT_.out (by kernel_rfl)) (by decide) (fun K hK => ?_)
                        refine goes_ Try.func21 (by kernel_rfl) rfl #[.int .i64 ((rd_T51 l0_0 x8_1).f1), .int .i64 1, .int .i64 6] (by rfl) rfl rfl (by (try simp only [List.map_toArray, List.map_cons, List.map_nil]); first | done | rfl | (simp only [List.length_drop, List.length_take]; rfl)) ?_
                        with_reducible refine (impl_in.calls ((rd_T51 l0_0 x8_1).f1) 1 6 true _ A9.out).mono ?_
                        rintro e w' ⟨rfl, ⟨nd, rfl⟩⟩
                        refine ⟨_, rfl, ?_⟩
                        refine hK.out _ _ ⟨(kc BK180.out 0).trans rfl, (kc BK180.out 1).trans rfl, (kc BK180.out 2).trans rfl, (kc BK180.out 3).trans rfl, (kc BK177.out 0).trans rfl, (kc BK177.out 1).trans rfl⟩ (fun hHeld => ?_)
                        clear hK K
                        refine norm_ (a' := ?_) ?_ ?_
                        rotate_left
                        · show Act.put _ (some 20) _ = _
                          simp only [Act.put, sA, sZ, sS, i64_w, i32_w]
                          rfl
                        refine puY (v := ?_) (a' := ?_) 8 21 (mB 43 0x1ff) rfl rfl HT_.out (by kernel_rfl) (fun _ _ _ h => h) (by rfl) ?_ ?_ ?_; rotate_left; (focus intro w'; go_simp; with_reducible rfl); rotate_left; (focus simp only [Act.put, sA, sZ, sS, i64_w, i32_w]; rfl); refine puY (v := ?_) (a' := ?_) 9 22 (mB 43 0x3ff) rfl rfl HT_.out (by kernel_rfl) (fun _ _ _ h => h) (by rfl) ?_ ?_ ?_; rotate_left; (focus intro w'; go_simp; with_reducible rfl); rotate_left; (focus simp only [Act.put, sA, sZ, sS, i64_w, i32_w]; rfl); refine puY (v := ?_) (a' := ?_) 10 23 (mB 43 0x7ff) rfl rfl HT_.out (by kernel_rfl) (fun _ _ _ h => h) (by rfl) ?_ ?_ ?_; rotate_left; (focus intro w'; go_simp; with_reducible rfl); rotate_left; (focus simp only [Act.put, sA, sZ, sS, i64_w, i32_w]; rfl); refine puY (v := ?_) (a' := ?_) 11 24 (mB 43 0xfff) rfl rfl HT_.out (by kernel_rfl) (fun _ _ _ h => h) (by rfl) ?_ ?_ ?_; rotate_left; (focus intro w'; go_simp; with_reducible rfl); rotate_left; (focus simp only [Act.put, sA, sZ, sS, i64_w, i32_w]; rfl)
                        refine take_ (i := 12) (N := some 25) (v := ?_) (a' := ?_) (mB 43 0x1fff) rfl rfl (take_ofW HT_.out HW_.out (by kernel_rfl)) (fun _ _ _ h => h) (Or.inl ⟨by rfl, ?_⟩) hHeld ?_ ?_
                        rotate_left
                        · rintro w' ⟨s0, s1, s2, s3, s4, s5⟩; go_simp; with_reducible rfl
                        rotate_left
                        · simp only [Act.put, sA, sZ, sS, i64_w, i32_w]; rfl
                        refine one_ (i := 13) (N := some 26) (mB 43 0x3fff) rfl rfl (one_of HT_.out (by kernel_rfl)) (by decide) (fun K hK => ?_)
                        refine goes_ Try.func21 (by kernel_rfl) rfl #[.int .i64 ((rd_T51 l0_0 x8_1).f2), .int .i64 0, .int .i64 1000000] (by rfl) rfl rfl (by (try simp only [List.map_toArray, List.map_cons, List.map_nil]); first | done | rfl | (simp only [List.length_drop, List.length_take]; rfl)) ?_
                        with_reducible refine (impl_in.calls ((rd_T51 l0_0 x8_1).f2) 0 1000000 true _ A11.out).mono ?_
                        rintro e w' ⟨rfl, ⟨nd, rfl⟩⟩
                        refine ⟨_, rfl, ?_⟩
                        refine hK.out _ _ ⟨(kc BK180.out 0).trans rfl, (kc BK180.out 1).trans rfl, (kc BK180.out 2).trans rfl, (kc BK180.out 3).trans rfl, (kc BK177.out 0).trans rfl, (kc BK177.out 1).trans rfl⟩ (fun hHeld => ?_)
                        clear hK K
                        refine norm_ (a' := ?_) ?_ ?_
                        rotate_left
                        · show Act.put _ (some 26) _ = _
                          simp only [Act.put, sA, sZ, sS, i64_w, i32_w]
                          rfl
                        refine puY (v := ?_) (a' := ?_) 14 27 (mB 43 0x7fff) rfl rfl HT_.out (by kernel_rfl) (fun _ _ _ h => h) (by rfl) ?_ ?_ ?_; rotate_left; (focus intro w'; go_simp; with_reducible rfl); rotate_left; (focus simp only [Act.put, sA, sZ, sS, i64_w, i32_w]; rfl); refine puY (v := ?_) (a' := ?_) 15 28 (mB 43 0xffff) rfl rfl HT_.out (by kernel_rfl) (fun _ _ _ h => h) (by rfl) ?_ ?_ ?_; rotate_left; (focus intro w'; go_simp; with_reducible rfl); rotate_left; (focus simp only [Act.put, sA, sZ, sS, i64_w, i32_w]; rfl); refine puY (v := ?_) (a' := ?_) 16 29 (mB 43 0x1ffff) rfl rfl HT_.out (by kernel_rfl) (fun _ _ _ h => h) (by rfl) ?_ ?_ ?_; rotate_left; (focus intro w'; go_simp; with_reducible rfl); rotate_left; (focus simp only [Act.put, sA, sZ, sS, i64_w, i32_w]; rfl); refine puY (v := ?_) (a' := ?_) 17 30 (mB 43 0x3ffff) rfl rfl HT_.out (by kernel_rfl) (fun _ _ _ h => h) (by rfl) ?_ ?_ ?_; rotate_left; (focus intro w'; go_simp; with_reducible rfl); rotate_left; (focus simp only [Act.put, sA, sZ, sS, i64_w, i32_w]; rfl)
                        refine take_ (i := 18) (N := some 31) (v := ?_) (a' := ?_) (mB 43 0x7ffff) rfl rfl (take_ofW HT_.out HW_.out (by kernel_rfl)) (fun _ _ _ h => h) (Or.inl ⟨by rfl, ?_⟩) hHeld ?_ ?_
                        rotate_left
                        · rintro w' ⟨s0, s1, s2, s3, s4, s5⟩; go_simp; with_reducible rfl
                        rotate_left
                        · simp only [Act.put, sA, sZ, sS, i64_w, i32_w]; rfl
                        refine puY (v := ?_) (a' := ?_) 19 32 (mB 43 0xfffff) rfl rfl HT_.out (by kernel_rfl) (fun _ _ _ h => h) (by rfl) ?_ ?_ ?_; rotate_left; (focus intro w'; go_simp; with_reducible rfl); rotate_left; (focus simp only [Act.put, sA, sZ, sS, i64_w, i32_w]; rfl); refine puY (v := ?_) (a' := ?_) 20 33 (mB 43 0x1fffff) rfl rfl HT_.out (by kernel_rfl) (fun _ _ _ h => h) (by rfl) ?_ ?_ ?_; rotate_left; (focus intro w'; go_simp; with_reducible rfl); rotate_left; (focus simp only [Act.put, sA, sZ, sS, i64_w, i32_w]; rfl); refine puY (v := ?_) (a' := ?_) 22 35 (mB 43 0x5fffff) rfl rfl HT_.out (by kernel_rfl) (fun _ _ _ h => h) (by rfl) ?_ ?_ ?_; rotate_left; (focus intro w'; go_simp; with_reducible rfl); rotate_left; (focus simp only [Act.put, sA, sZ, sS, i64_w, i32_w]; rfl)
                        refine take_ (i := 21) (N := some 34) (v := ?_) (a' := ?_) (mB 43 0x7fffff) rfl rfl (take_ofW HT_.out HW_.out (by kernel_rfl)) (fun _ _ _ h => h) (Or.inl ⟨by rfl, ?_⟩) hHeld ?_ ?_
                        rotate_left
                        · rintro w' ⟨s0, s1, s2, s3, s4, s5⟩; go_simp; with_reducible rfl
                        rotate_left
                        · simp only [Act.put, sA, sZ, sS, i64_w, i32_w]; rfl
                        refine take_ (i := 23) (N := some 36) (v := ?_) (a' := ?_) (mB 43 0xffffff) rfl rfl (take_ofW HT_.out HW_.out (by kernel_rfl)) (fun _ _ _ h => h) (Or.inl ⟨by rfl, ?_⟩) hHeld ?_ ?_
                        rotate_left
                        · rintro w' ⟨s0, s1, s2, s3, s4, s5⟩; go_simp; with_reducible rfl
                        rotate_left
                        · simp only [Act.put, sA, sZ, sS, i64_w, i32_w]; rfl
                        refine puY (v := ?_) (a' := ?_) 24 37 (mB 43 0x1ffffff) rfl rfl HT_.out (by kernel_rfl) (fun _ _ _ h => h) (by rfl) ?_ ?_ ?_; rotate_left; (focus intro w'; go_simp; with_reducible rfl); rotate_left; (focus simp only [Act.put, sA, sZ, sS, i64_w, i32_w]; rfl); refine puY (v := ?_) (a' := ?_) 25 38 (mB 43 0x3ffffff) rfl rfl HT_.out (by kernel_rfl) (fun _ _ _ h => h) (by rfl) ?_ ?_ ?_; rotate_left; (focus intro w'; go_simp; with_reducible rfl); rotate_left; (focus simp only [Act.put, sA, sZ, sS, i64_w, i32_w]; rfl); refine puY (v := ?_) (a' := ?_) 26 39 (mB 43 0x7ffffff) rfl rfl HT_.out (by kernel_rfl) (fun _ _ _ h => h) (by rfl) ?_ ?_ ?_; rotate_left; (focus intro w'; go_simp; with_reducible rfl); rotate_left; (focus simp only [Act.put, sA, sZ, sS, i64_w, i32_w]; rfl); refine puY (v := ?_) (a' := ?_) 27 40 (mB 43 0xfffffff) rfl rfl HT_.out (by kernel_rfl) (fun _ _ _ h => h) (by rfl) ?_ ?_ ?_; rotate_left; (focus intro w'; go_simp; with_reducible rfl); rotate_left; (focus simp only [Act.put, sA, sZ, sS, i64_w, i32_w]; rfl); refine puY (v := ?_) (a' := ?_) 28 41 (mB 43 0x1fffffff) rfl rfl HT_.out (by kernel_rfl) (fun _ _ _ h => h) (by rfl) ?_ ?_ ?_; rotate_left; (focus intro w'; go_simp; with_reducible rfl); rotate_left; (focus simp only [Act.put, sA, sZ, sS, i64_w, i32_w]; rfl); refine puY (v := ?_) (a' := ?_) 29 42 (mB 43 0x3fffffff) rfl rfl HT_.out (by kernel_rfl) (fun _ _ _ h => h) (by rfl) ?_ ?_ ?_; rotate_left; (focus intro w'; go_simp; with_reducible rfl); rotate_left; (focus simp only [Act.put, sA, sZ, sS, i64_w, i32_w]; rfl); refine puY (v := ?_) (a' := ?_) 30 43 (mB 43 0x7fffffff) rfl rfl HT_.out (by kernel_rfl) (fun _ _ _ h => h) (by rfl) ?_ ?_ ?_; rotate_left; (focus intro w'; go_simp; with_reducible rfl); rotate_left; (focus simp only [Act.put, sA, sZ, sS, i64_w, i32_w]; rfl); refine puM 31 44 (mB 43 0xffffffff) rfl rfl HT_.out (by kernel_rfl) (fun _ _ _ h => h) (by rfl) ?_; refine puM 32 45 (mB 43 0x1ffffffff) rfl rfl HT_.out (by kernel_rfl) (fun _ _ _ h => h) (by rfl) ?_; refine puN (a' := ?_) 33 46 (mB 43 0x3ffffffff) rfl rfl HT_.out (by kernel_rfl) (fun _ _ _ h => h) (by rfl) ?_ ?_; rotate_left; (focus simp only [Act.put, sA, sZ, sS, i64_w, i32_w]; rfl); refine puM 34 47 (mB 43 0x7ffffffff) rfl rfl HT_.out (by kernel_rfl) (fun _ _ _ h => h) (by rfl) ?_; refine puM 35 48 (mB 43 0xfffffffff) rfl rfl HT_.out (by kernel_rfl) (fun _ _ _ h => h) (by rfl) ?_; refine puN (a' := ?_) 36 49 (mB 43 0x1fffffffff) rfl rfl HT_.out (by kernel_rfl) (fun _ _ _ h => h) (by rfl) ?_ ?_; rotate_left; (focus simp only [Act.put, sA, sZ, sS, i64_w, i32_w]; rfl); refine puM 37 50 (mB 43 0x3fffffffff) rfl rfl HT_.out (by kernel_rfl) (fun _ _ _ h => h) (by rfl) ?_; refine puM 38 51 (mB 43 0x7fffffffff) rfl rfl HT_.out (by kernel_rfl) (fun _ _ _ h => h) (by rfl) ?_; refine puN (a' := ?_) 39 52 (mB 43 0xffffffffff) rfl rfl HT_.out (by kernel_rfl) (fun _ _ _ h => h) (by rfl) ?_ ?_; rotate_left; (focus simp only [Act.put, sA, sZ, sS, i64_w, i32_w]; rfl); refine puN (a' := ?_) 40 53 (mB 43 0x1ffffffffff) rfl rfl HT_.out (by kernel_rfl) (fun _ _ _ h => h) (by rfl) ?_ ?_; rotate_left; (focus simp only [Act.put, sA, sZ, sS, i64_w, i32_w]; rfl); refine puY (v := ?_) (a' := ?_) 41 54 (mB 43 0x3ffffffffff) rfl rfl HT_.out (by kernel_rfl) (fun _ _ _ h => h) (by rfl) ?_ ?_ ?_; rotate_left; (focus intro w'; go_simp; with_reducible rfl); rotate_left; (focus simp only [Act.put, sA, sZ, sS, i64_w, i32_w]; rfl); refine puY (v := ?_) (a' := ?_) 42 55 (mB 43 0x7ffffffffff) rfl rfl HT_.out (by kernel_rfl) (fun _ _ _ h => h) (by rfl) ?_ ?_ ?_; rotate_left; (focus intro w'; go_simp; with_reducible rfl); rotate_left; (focus simp only [Act.put, sA, sZ, sS, i64_w, i32_w]; rfl)
                        refine done_ (done_of HT_.out (by kernel_rfl)) ?_
                        try go_wp2
                        go_roundg k1
                        case measure => have := HK1.out; omega
                        case rel => exact ⟨(wrap64 (x8_1 + 1)), (by first | rfl | (simp; done) | (simp [*]; done)), H', ⟨by have := HK1.out; omega⟩, ⟨by (with_reducible repeat (first | refine kn ?_ _ | refine kd ?_ | refine ka ?_ _)); exact BK177.out⟩, ⟨by repeat (first | (with_reducible first | exact HB.out | apply ba | apply bn | apply bd | refine bs ?_ GE177.out | refine bs ?_ GE180.out) | exact HB.out)⟩⟩
                  · replace c14 := Bool.eq_false_iff.mpr c14
                    subst c14
                    have H1 : (if x8_1 > 0 then (if 0 ≤ (wrap64 (x8_1 - 1)) then (if (wrap64 (x8_1 - 1)) < (l0_0.length : Int) then (if ((rd_T51 l0_0 (wrap64 (x8_1 - 1))).f0) ≥ ((rd_T51 l0_0 x8_1).f0) then (some false) else (impl_QueueOk.l0 k1 l0_0 (l0_0.length : Int) (wrap64 (x8_1 + 1)) l0_0 a0_1)) else (none)) else (none)) else (impl_QueueOk.l0 k1 l0_0 (l0_0.length : Int) (wrap64 (x8_1 + 1)) l0_0 a0_1)) = some r := by rw [if_neg (show ¬ (false = true) by decide)] at H; exact H
                    clear H
                    have H := H1
                    clear H1
                    by_cases c41 : x8_1 > 0
                    · rw [if_pos c41] at H
                      have c41b0 : decide (0 < x8_1) = true := decide_eq_true c41
                      clear c41
                      obtain ⟨ji42, hji42⟩ : ∃ j_ : Int, (wrap64 (x8_1 - 1)) = j_ := ⟨_, rfl⟩
                      replace H : (if 0 ≤ (ji42) then (if (ji42) < (l0_0.length : Int) then (if ((rd_T51 l0_0 (ji42)).f0) ≥ ((rd_T51 l0_0 x8_1).f0) then (some false) else (impl_QueueOk.l0 k1 l0_0 (l0_0.length : Int) (wrap64 (x8_1 + 1)) l0_0 a0_1)) else (none)) else (none)) = some r := by first | (rw [hji42] at H; exact H) | (simp only [hji42] at H ⊢; exact H)
                      (try rw [hji42] at A7)
                      (try rw [hji42] at A9)
                      (try rw [hji42] at A11)
                      have hji42w : (IntKind.i64.wrap (x8_1 - 1)) = ji42 := (i64_w _).trans hji42
                      by_cases c43 : 0 ≤ (ji42)
                      · rw [if_pos c43] at H
                        have c43b0 : decide (0 ≤ (ji42)) = true := decide_eq_true c43
                        clear c43
                        by_cases c44 : (ji42) < (l0_0.length : Int)
                        · rw [if_pos c44] at H
                          have c44b0 : decide ((ji42) < (l0_0.length : Int)) = true := decide_eq_true c44
                          clear c44
                          by_cases c45 : ((rd_T51 l0_0 (ji42)).f0) ≥ ((rd_T51 l0_0 x8_1).f0)
                          · rw [if_pos c45] at H
                            have c45b0 : decide (((rd_T51 l0_0 x8_1).f0) ≤ ((rd_T51 l0_0 (ji42)).f0)) = true := decide_eq_true c45
                            clear c45
                            obtain rfl := Option.some.inj H
                            have p179 : 0 ≤ (x8_1 : Int) := of_decide_eq_true (by first | (with_reducible assumption) | assumption)
                            have q179 : x8_1 < (l0_0.length : Int) := of_decide_eq_true (by first | (with_reducible assumption) | assumption)
                            obtain ⟨ad179, e179, hx179_0, hx179_1, hx179_2, hx179_3⟩ := at_T51 HR0_0.out x8_1 p179 q179
                            (try rw [← Nbq13.out] at hx179_3)
                            cases e179
                            replace hx179_0 := (HB.out.cell (World.block_lt_of_cell? w _ hx179_0)).trans hx179_0
                            replace hx179_1 := (HB.out.cell (World.block_lt_of_cell? w _ hx179_1)).trans hx179_1
                            replace hx179_2 := (HB.out.cell (World.block_lt_of_cell? w _ hx179_2)).trans hx179_2
                            replace hx179_3 := (HB.out.cell (World.block_lt_of_cell? w _ hx179_3)).trans hx179_3
                            replace p179 := eq_true p179
                            replace q179 := eq_true q179
                            try go_wp2_with (first | ((with_reducible refine gd (N := 4) rfl ?_); refine xe ?hg (N := 4) ?hd (cs := #[.int .i64 0, .int .i64 0, .int .i64 0, .bool false]) (t := 51) ?hr ?_; (case hd => rfl); (case hg => rfl); (case hr => first | (go_simp; done) | (go_simp; rfl)); intro gb180 hg w46 hbox hb; have n0_ := AM (kb (g := gb177) (o := .cells #[.slice (some ad179) l0_0.length c0_0, .int .i64 a0_1] 28 (0, 0)) (lfK BK177.out) hb); have n1_ := AM (bp (by repeat (first | (with_reducible first | exact HB.out | apply ba | apply bn | apply bd | refine bs ?_ GE177.out) | exact HB.out)) hb); have n2_ := AM (hbox); have n3_ := AM ((by rw [hg]; exact (bz (by repeat (first | (with_reducible first | exact HB.out | apply ba | apply bn | apply bd | refine bs ?_ GE177.out) | exact HB.out))) : w.heap.size ≤ gb180)); have n4_ := AM ((by rw [hg]; exact (bz (by repeat (first | (with_reducible first | exact HB.out | apply ba | apply bn | apply bd | refine bs ?_ GE177.out) | exact HB.out))) : w.heap.size ≤ gb180)); have n5_ := AM ((by rw [hg]; exact Nat.ne_of_lt (blk_lt (g := gb177) (o := .cells #[.slice (some ad179) l0_0.length c0_0, .int .i64 a0_1] 28 (0, 0)) (lfK BK177.out)) : gb177 ≠ gb180)); have n6_ := AM ((by rw [hg]; exact Nat.ne_of_gt (blk_lt (g := gb177) (o := .cells #[.slice (some ad179) l0_0.length c0_0, .int .i64 a0_1] 28 (0, 0)) (lfK BK177.out)) : gb180 ≠ gb177)); clear BK177 HB; revert n0_ n1_ n2_ n3_ n4_ n5_ n6_; intro BK177 HB BK180 GW180 GE180 NB177_180 NB180_177; clear hb hbox hg; have hnb47 := NB180_177.out; have hnc47 := NB177_180.out; have hcz48_0 : w46.cell? ⟨gb180, 0, none⟩ = some (.int .i64 0) := (kc BK180.out 0).trans rfl; have hcz48_1 : w46.cell? ⟨gb180, 1, none⟩ = some (.int .i64 0) := (kc BK180.out 1).trans rfl; have hcz48_2 : w46.cell? ⟨gb180, 2, none⟩ = some (.int .i64 0) := (kc BK180.out 2).trans rfl; have hcz48_3 : w46.cell? ⟨gb180, 3, none⟩ = some (.bool false) := (kc BK180.out 3).trans rfl; have hfz48_0 := kz BK180.out 0; have hfz48_1 := kz BK180.out 1; have hfz48_2 := kz BK180.out 2; have hfz48_3 := kz BK180.out 3))
                            have n0_ : Aside0 (((((w46.setCell ⟨gb180, 0, none⟩ (.int .i64 ((rd_T51 l0_0 x8_1).f0))).setCell ⟨gb180, 1, none⟩ (.int .i64 ((rd_T51 l0_0 x8_1).f1))).setCell ⟨gb180, 2, none⟩ (.int .i64 ((rd_T51 l0_0 x8_1).f2))).setCell ⟨gb180, 3, none⟩ (.bool false)).heap[gb177]? = some (.cells #[.slice (some ad179) l0_0.length c0_0, .int .i64 a0_1] 28 (0, 0))) := ⟨by (with_reducible repeat (first | refine kn ?_ _ | refine kd ?_ | refine ka ?_ _)); refine kf ?_ NB177_180.out _; (with_reducible repeat (first | refine kn ?_ _ | refine kd ?_ | refine ka ?_ _)); refine kf ?_ NB177_180.out _; (with_reducible repeat (first | refine kn ?_ _ | refine kd ?_ | refine ka ?_ _)); refine kf ?_ NB177_180.out _; (with_reducible repeat (first | refine kn ?_ _ | refine kd ?_ | refine ka ?_ _)); refine kf ?_ NB177_180.out _; (with_reducible repeat (first | refine kn ?_ _ | refine kd ?_ | refine ka ?_ _)); exact BK177.out⟩
                            have n1_ : Aside0 (((((w46.setCell ⟨gb180, 0, none⟩ (.int .i64 ((rd_T51 l0_0 x8_1).f0))).setCell ⟨gb180, 1, none⟩ (.int .i64 ((rd_T51 l0_0 x8_1).f1))).setCell ⟨gb180, 2, none⟩ (.int .i64 ((rd_T51 l0_0 x8_1).f2))).setCell ⟨gb180, 3, none⟩ (.bool false)).heap[gb180]? = some (.cells #[.int .i64 ((rd_T51 l0_0 x8_1).f0), .int .i64 ((rd_T51 l0_0 x8_1).f1), .int .i64 ((rd_T51 l0_0 x8_1).f2), .bool false] 51 (0, 0))) := ⟨by (with_reducible repeat (first | refine kn ?_ _ | refine kd ?_ | refine ka ?_ _)); refine blk_put (cs := #[.int .i64 ((rd_T51 l0_0 x8_1).f0), .int .i64 ((rd_T51 l0_0 x8_1).f1), .int .i64 ((rd_T51 l0_0 x8_1).f2), .bool false]) ?_ 3 _ rfl; (with_reducible repeat (first | refine kn ?_ _ | refine kd ?_ | refine ka ?_ _)); refine blk_put (cs := #[.int .i64 ((rd_T51 l0_0 x8_1).f0), .int .i64 ((rd_T51 l0_0 x8_1).f1), .int .i64 0, .bool false]) ?_ 2 _ rfl; (with_reducible repeat (first | refine kn ?_ _ | refine kd ?_ | refine ka ?_ _)); refine blk_put (cs := #[.int .i64 ((rd_T51 l0_0 x8_1).f0), .int .i64 0, .int .i64 0, .bool false]) ?_ 1 _ rfl; (with_reducible repeat (first | refine kn ?_ _ | refine kd ?_ | refine ka ?_ _)); refine blk_put (cs := #[.int .i64 0, .int .i64 0, .int .i64 0, .bool false]) ?_ 0 _ rfl; (with_reducible repeat (first | refine kn ?_ _ | refine kd ?_ | refine ka ?_ _)); exact BK180.out⟩
                            have n2_ : Aside0 (Below w.heap.size w ((((w46.setCell ⟨gb180, 0, none⟩ (.int .i64 ((rd_T51 l0_0 x8_1).f0))).setCell ⟨gb180, 1, none⟩ (.int .i64 ((rd_T51 l0_0 x8_1).f1))).setCell ⟨gb180, 2, none⟩ (.int .i64 ((rd_T51 l0_0 x8_1).f2))).setCell ⟨gb180, 3, none⟩ (.bool false))) := ⟨by repeat (first | (with_reducible first | exact HB.out | apply ba | apply bn | apply bd | refine bs ?_ GE177.out | refine bs ?_ GE180.out) | exact HB.out)⟩
                            (try clear BK177)
                            (try clear BK180)
                            (try clear HB)
                            generalize ((((w46.setCell ⟨gb180, 0, none⟩ (.int .i64 ((rd_T51 l0_0 x8_1).f0))).setCell ⟨gb180, 1, none⟩ (.int .i64 ((rd_T51 l0_0 x8_1).f1))).setCell ⟨gb180, 2, none⟩ (.int .i64 ((rd_T51 l0_0 x8_1).f2))).setCell ⟨gb180, 3, none⟩ (.bool false)) = w49 at n0_ n1_ n2_ ⊢
                            revert n0_ n1_ n2_
                            intro BK177 BK180 HB
                            have n0_ := AM (kd BK177.out)
                            have n1_ := AM (kd BK180.out)
                            have n2_ := AM (bd HB.out)
                            clear BK177 BK180 HB
                            revert n0_ n1_ n2_
                            intro BK177 BK180 HB
                            have p185 : 0 ≤ ((ji42) : Int) := of_decide_eq_true (by first | (with_reducible assumption) | assumption)
                            have q185 : (ji42) < (l0_0.length : Int) := of_decide_eq_true (by first | (with_reducible assumption) | assumption)
                            obtain ⟨ad185, e185, hx185_0, hx185_1, hx185_2, hx185_3⟩ := at_T51 HR0_0.out (ji42) p185 q185
                            have hw185_3 := hx185_3
                            have hw185_2 := hx185_2
                            have hw185_1 := hx185_1
                            have hw185_0 := hx185_0
                            (try rw [← Nbq13.out] at hx185_3)
                            obtain rfl : ad179 = ad185 := (by injection e185)
                            replace hx185_0 := (HB.out.cell (World.block_lt_of_cell? w _ hx185_0)).trans hx185_0
                            replace hx185_1 := (HB.out.cell (World.block_lt_of_cell? w _ hx185_1)).trans hx185_1
                            replace hx185_2 := (HB.out.cell (World.block_lt_of_cell? w _ hx185_2)).trans hx185_2
                            replace hx185_3 := (HB.out.cell (World.block_lt_of_cell? w _ hx185_3)).trans hx185_3
                            replace p185 := eq_true p185
                            replace q185 := eq_true q185
                            refine start_ (n := 43) (S := fun w' => w'.cell? ⟨gb180, 0, none⟩ = some (.int .i64 ((rd_T51 l0_0 x8_1).f0)) ∧ w'.cell? ⟨gb180, 1, none⟩ = some (.int .i64 ((rd_T51 l0_0 x8_1).f1)) ∧ w'.cell? ⟨gb180, 2, none⟩ = some (.int .i64 ((rd_T51 l0_0 x8_1).f2)) ∧ w'.cell? ⟨gb180, 3, none⟩ = some (.bool false) ∧ w'.cell? ⟨gb177, 0, none⟩ = some (.slice (some ad179) l0_0.length c0_0) ∧ w'.cell? ⟨gb177, 1, none⟩ = some (.int .i64 a0_1) ∧ w'.cell? (ad179.add (((ji42)).toNat * 4)) = some (.int .i64 ((rd_T51 l0_0 (ji42)).f0)) ∧ w'.cell? ⟨(ad179.add (((ji42)).toNat * 4)).block, (ad179.add (((ji42)).toNat * 4)).off + 1, none⟩ = some (.int .i64 ((rd_T51 l0_0 (ji42)).f1)) ∧ w'.cell? ⟨(ad179.add (((ji42)).toNat * 4)).block, (ad179.add (((ji42)).toNat * 4)).off + 2, none⟩ = some (.int .i64 ((rd_T51 l0_0 (ji42)).f2)) ∧ w'.cell? ⟨(ad179.add (((ji42)).toNat * 4)).block, (ad179.add (((ji42)).toNat * 4)).off + 3, none⟩ = some (.bool ((rd_T51 l0_0 (ji42)).f3))) (ds := []) (mB 43 0x0) (by kernel_rfl) rfl rfl ⟨(kc BK180.out 0).trans rfl, (kc BK180.out 1).trans rfl, (kc BK180.out 2).trans rfl, (kc BK180.out 3).trans rfl, (kc BK177.out 0).trans rfl, (kc BK177.out 1).trans rfl, ((HB.out.cell (World.block_lt_of_cell? w _ hw185_0)).trans hw185_0), ((HB.out.cell (World.block_lt_of_cell? w _ hw185_1)).trans hw185_1), ((HB.out.cell (World.block_lt_of_cell? w _ hw185_2)).trans hw185_2), ((HB.out.cell (World.block_lt_of_cell? w _ hw185_3)).trans hw185_3)⟩ (fun hHeld => ?_); refine with_tabW impl_QueueOk.tab4 impl_QueueOk.bits4 (fun HT_ HW_ => ?_)
                            generalize w49.drew = w50 at BK177 BK180 HB hx185_0 hx185_1 hx185_2 hx185_3 hHeld ⊢
                            refine puY (v := ?_) (a' := ?_) 0 13 (mB 43 0x1) rfl rfl HT_.out (by kernel_rfl) (fun _ _ _ h => h) (by rfl) ?_ ?_ ?_; rotate_left; (focus intro w'; go_simp; with_reducible rfl); rotate_left; (focus simp only [Act.put, sA, sZ, sS, i64_w, i32_w]; rfl)
                            refine take_ (i := 1) (N := some 14) (v := ?_) (a' := ?_) (mB 43 0x3) rfl rfl (take_ofW HT_.out HW_.out (by kernel_rfl)) (fun _ _ _ h => h) (Or.inl ⟨by rfl, ?_⟩) hHeld ?_ ?_
                            rotate_left
                            · rintro w' ⟨s0, s1, s2, s3, s4, s5, s6, s7, s8, s9⟩; go_simp; with_reducible rfl
                            rotate_left
                            · simp only [Act.put, sA, sZ, sS, i64_w, i32_w]; rfl
                            refine one_ (i := 2) (N := some 15) (mB 43 0x7) rfl rfl (one_of HT_.out (by kernel_rfl)) (by decide) (fun K hK => ?_)
                            refine goes_ Try.func21 (by kernel_rfl) rfl #[.int .i64 ((rd_T51 l0_0 x8_1).f0), .int .i64 0, .int .i64 99] (by rfl) rfl rfl (by (try simp only [List.map_toArray, List.map_cons, List.map_nil]); first | done | rfl | (simp only [List.length_drop, List.length_take]; rfl)) ?_
                            with_reducible refine (impl_in.calls ((rd_T51 l0_0 x8_1).f0) 0 99 true _ A7.out).mono ?_
                            rintro e w' ⟨rfl, ⟨nd, rfl⟩⟩
                            refine ⟨_, rfl, ?_⟩
                            refine hK.out _ _ ⟨(kc BK180.out 0).trans rfl, (kc BK180.out 1).trans rfl, (kc BK180.out 2).trans rfl, (kc BK180.out 3).trans rfl, (kc BK177.out 0).trans rfl, (kc BK177.out 1).trans rfl, ((HB.out.cell (World.block_lt_of_cell? w _ hw185_0)).trans hw185_0), ((HB.out.cell (World.block_lt_of_cell? w _ hw185_1)).trans hw185_1), ((HB.out.cell (World.block_lt_of_cell? w _ hw185_2)).trans hw185_2), ((HB.out.cell (World.block_lt_of_cell? w _ hw185_3)).trans hw185_3)⟩ (fun hHeld => ?_)
                            clear hK K
                            refine norm_ (a' := ?_) ?_ ?_
                            rotate_left
                            · show Act.put _ (some 15) _ = _
                              simp only [Act.put, sA, sZ, sS, i64_w, i32_w]
                              rfl
                            refine puY (v := ?_) (a' := ?_) 3 16 (mB 43 0xf) rfl rfl HT_.out (by kernel_rfl) (fun _ _ _ h => h) (by rfl) ?_ ?_ ?_; rotate_left; (focus intro w'; go_simp; with_reducible rfl); rotate_left; (focus simp only [Act.put, sA, sZ, sS, i64_w, i32_w]; rfl); refine puY (v := ?_) (a' := ?_) 4 17 (mB 43 0x1f) rfl rfl HT_.out (by kernel_rfl) (fun _ _ _ h => h) (by rfl) ?_ ?_ ?_; rotate_left; (focus intro w'; go_simp; with_reducible rfl); rotate_left; (focus simp only [Act.put, sA, sZ, sS, i64_w, i32_w]; rfl); refine puY (v := ?_) (a' := ?_) 5 18 (mB 43 0x3f) rfl rfl HT_.out (by kernel_rfl) (fun _ _ _ h => h) (by rfl) ?_ ?_ ?_; rotate_left; (focus intro w'; go_simp; with_reducible rfl); rotate_left; (focus simp only [Act.put, sA, sZ, sS, i64_w, i32_w]; rfl)
                            refine take_ (i := 6) (N := some 19) (v := ?_) (a' := ?_) (mB 43 0x7f) rfl rfl (take_ofW HT_.out HW_.out (by kernel_rfl)) (fun _ _ _ h => h) (Or.inl ⟨by rfl, ?_⟩) hHeld ?_ ?_
                            rotate_left
                            · rintro w' ⟨s0, s1, s2, s3, s4, s5, s6, s7, s8, s9⟩; go_simp; with_reducible rfl
                            rotate_left
                            · simp only [Act.put, sA, sZ, sS, i64_w, i32_w]; rfl
                            refine one_ (i := 7) (N := some 20) (mB 43 0xff) rfl rfl (one_of HT_.out (by kernel_rfl)) (by decide) (fun K hK => ?_)
                            refine goes_ Try.func21 (by kernel_rfl) rfl #[.int .i64 ((rd_T51 l0_0 x8_1).f1), .int .i64 1, .int .i64 6] (by rfl) rfl rfl (by (try simp only [List.map_toArray, List.map_cons, List.map_nil]); first | done | rfl | (simp only [List.length_drop, List.length_take]; rfl)) ?_
                            with_reducible refine (impl_in.calls ((rd_T51 l0_0 x8_1).f1) 1 6 true _ A9.out).mono ?_
                            rintro e w' ⟨rfl, ⟨nd, rfl⟩⟩
                            refine ⟨_, rfl, ?_⟩
                            refine hK.out _ _ ⟨(kc BK180.out 0).trans rfl, (kc BK180.out 1).trans rfl, (kc BK180.out 2).trans rfl, (kc BK180.out 3).trans rfl, (kc BK177.out 0).trans rfl, (kc BK177.out 1).trans rfl, ((HB.out.cell (World.block_lt_of_cell? w _ hw185_0)).trans hw185_0), ((HB.out.cell (World.block_lt_of_cell? w _ hw185_1)).trans hw185_1), ((HB.out.cell (World.block_lt_of_cell? w _ hw185_2)).trans hw185_2), ((HB.out.cell (World.block_lt_of_cell? w _ hw185_3)).trans hw185_3)⟩ (fun hHeld => ?_)
                            clear hK K
                            refine norm_ (a' := ?_) ?_ ?_
                            rotate_left
                            · show Act.put _ (some 20) _ = _
                              simp only [Act.put, sA, sZ, sS, i64_w, i32_w]
                              rfl
                            refine puY (v := ?_) (a' := ?_) 8 21 (mB 43 0x1ff) rfl rfl HT_.out (by kernel_rfl) (fun _ _ _ h => h) (by rfl) ?_ ?_ ?_; rotate_left; (focus intro w'; go_simp; with_reducible rfl); rotate_left; (focus simp only [Act.put, sA, sZ, sS, i64_w, i32_w]; rfl); refine puY (v := ?_) (a' := ?_) 9 22 (mB 43 0x3ff) rfl rfl HT_.out (by kernel_rfl) (fun _ _ _ h => h) (by rfl) ?_ ?_ ?_; rotate_left; (focus intro w'; go_simp; with_reducible rfl); rotate_left; (focus simp only [Act.put, sA, sZ, sS, i64_w, i32_w]; rfl); refine puY (v := ?_) (a' := ?_) 10 23 (mB 43 0x7ff) rfl rfl HT_.out (by kernel_rfl) (fun _ _ _ h => h) (by rfl) ?_ ?_ ?_; rotate_left; (focus intro w'; go_simp; with_reducible rfl); rotate_left; (focus simp only [Act.put, sA, sZ, sS, i64_w, i32_w]; rfl); refine puY (v := ?_) (a' := ?_) 11 24 (mB 43 0xfff) rfl rfl HT_.out (by kernel_rfl) (fun _ _ _ h => h) (by rfl) ?_ ?_ ?_; rotate_left; (focus intro w'; go_simp; with_reducible rfl); rotate_left; (focus simp only [Act.put, sA, sZ, sS, i64_w, i32_w]; rfl)
                            refine take_ (i := 12) (N := some 25) (v := ?_) (a' := ?_) (mB 43 0x1fff) rfl rfl (take_ofW HT_.out HW_.out (by kernel_rfl)) (fun _ _ _ h => h) (Or.inl ⟨by rfl, ?_⟩) hHeld ?_ ?_
                            rotate_left
                            · rintro w' ⟨s0, s1, s2, s3, s4, s5, s6, s7, s8, s9⟩; go_simp; with_reducible rfl
                            rotate_left
                            · simp only [Act.put, sA, sZ, sS, i64_w, i32_w]; rfl
                            refine one_ (i := 13) (N := some 26) (mB 43 0x3fff) rfl rfl (one_of HT_.out (by kernel_rfl)) (by decide) (fun K hK => ?_)
                            refine goes_ Try.func21 (by kernel_rfl) rfl #[.int .i64 ((rd_T51 l0_0 x8_1).f2), .int .i64 0, .int .i64 1000000] (by rfl) rfl rfl (by (try simp only [List.map_toArray, List.map_cons, List.map_nil]); first | done | rfl | (simp only [List.length_drop, List.length_take]; rfl)) ?_
                            with_reducible refine (impl_in.calls ((rd_T51 l0_0 x8_1).f2) 0 1000000 true _ A11.out).mono ?_
                            rintro e w' ⟨rfl, ⟨nd, rfl⟩⟩
                            refine ⟨_, rfl, ?_⟩
                            refine hK.out _ _ ⟨(kc BK180.out 0).trans rfl, (kc BK180.out 1).trans rfl, (kc BK180.out 2).trans rfl, (kc BK180.out 3).trans rfl, (kc BK177.out 0).trans rfl, (kc BK177.out 1).trans rfl, ((HB.out.cell (World.block_lt_of_cell? w _ hw185_0)).trans hw185_0), ((HB.out.cell (World.block_lt_of_cell? w _ hw185_1)).trans hw185_1), ((HB.out.cell (World.block_lt_of_cell? w _ hw185_2)).trans hw185_2), ((HB.out.cell (World.block_lt_of_cell? w _ hw185_3)).trans hw185_3)⟩ (fun hHeld => ?_)
                            clear hK K
                            refine norm_ (a' := ?_) ?_ ?_
                            rotate_left
                            · show Act.put _ (some 26) _ = _
                              simp only [Act.put, sA, sZ, sS, i64_w, i32_w]
                              rfl
                            refine puY (v := ?_) (a' := ?_) 14 27 (mB 43 0x7fff) rfl rfl HT_.out (by kernel_rfl) (fun _ _ _ h => h) (by rfl) ?_ ?_ ?_; rotate_left; (focus intro w'; go_simp; with_reducible rfl); rotate_left; (focus simp only [Act.put, sA, sZ, sS, i64_w, i32_w]; rfl); refine puY (v := ?_) (a' := ?_) 15 28 (mB 43 0xffff) rfl rfl HT_.out (by kernel_rfl) (fun _ _ _ h => h) (by rfl) ?_ ?_ ?_; rotate_left; (focus intro w'; go_simp; with_reducible rfl); rotate_left; (focus simp only [Act.put, sA, sZ, sS, i64_w, i32_w]; rfl); refine puY (v := ?_) (a' := ?_) 16 29 (mB 43 0x1ffff) rfl rfl HT_.out (by kernel_rfl) (fun _ _ _ h => h) (by rfl) ?_ ?_ ?_; rotate_left; (focus intro w'; go_simp; with_reducible rfl); rotate_left; (focus simp only [Act.put, sA, sZ, sS, i64_w, i32_w]; rfl); refine puY (v := ?_) (a' := ?_) 17 30 (mB 43 0x3ffff) rfl rfl HT_.out (by kernel_rfl) (fun _ _ _ h => h) (by rfl) ?_ ?_ ?_; rotate_left; (focus intro w'; go_simp; with_reducible rfl); rotate_left; (focus simp only [Act.put, sA, sZ, sS, i64_w, i32_w]; rfl)
                            refine take_ (i := 18) (N := some 31) (v := ?_) (a' := ?_) (mB 43 0x7ffff) rfl rfl (take_ofW HT_.out HW_.out (by kernel_rfl)) (fun _ _ _ h => h) (Or.inl ⟨by rfl, ?_⟩) hHeld ?_ ?_
                            rotate_left
                            · rintro w' ⟨s0, s1, s2, s3, s4, s5, s6, s7, s8, s9⟩; go_simp; with_reducible rfl
                            rotate_left
                            · simp only [Act.put, sA, sZ, sS, i64_w, i32_w]; rfl
                            refine puY (v := ?_) (a' := ?_) 19 32 (mB 43 0xfffff) rfl rfl HT_.out (by kernel_rfl) (fun _ _ _ h => h) (by rfl) ?_ ?_ ?_; rotate_left; (focus intro w'; go_simp; with_reducible rfl); rotate_left; (focus simp only [Act.put, sA, sZ, sS, i64_w, i32_w]; rfl); refine puM 20 33 (mB 43 0x1fffff) rfl rfl HT_.out (by kernel_rfl) (fun _ _ _ h => h) (by rfl) ?_; refine puM 21 34 (mB 43 0x3fffff) rfl rfl HT_.out (by kernel_rfl) (fun _ _ _ h => h) (by rfl) ?_; refine puN (a' := ?_) 22 35 (mB 43 0x7fffff) rfl rfl HT_.out (by kernel_rfl) (fun _ _ _ h => h) (by rfl) ?_ ?_; rotate_left; (focus simp only [Act.put, sA, sZ, sS, i64_w, i32_w]; rfl); refine puM 23 36 (mB 43 0xffffff) rfl rfl HT_.out (by kernel_rfl) (fun _ _ _ h => h) (by rfl) ?_; refine puN (a' := ?_) 24 37 (mB 43 0x1ffffff) rfl rfl HT_.out (by kernel_rfl) (fun _ _ _ h => h) (by rfl) ?_ ?_; rotate_left; (focus simp only [Act.put, sA, sZ, sS, i64_w, i32_w]; rfl); refine puY (v := ?_) (a' := ?_) 25 38 (mB 43 0x3ffffff) rfl rfl HT_.out (by kernel_rfl) (fun _ _ _ h => h) (by rfl) ?_ ?_ ?_; rotate_left; (focus intro w'; go_simp; with_reducible rfl); rotate_left; (focus simp only [Act.put, sA, sZ, sS, i64_w, i32_w]; rfl); refine puY (v := ?_) (a' := ?_) 26 39 (mB 43 0x7ffffff) rfl rfl HT_.out (by kernel_rfl) (fun _ _ _ h => h) (by rfl) ?_ ?_ ?_; rotate_left; (focus intro w'; go_simp; with_reducible rfl); rotate_left; (focus simp only [Act.put, sA, sZ, sS, i64_w, i32_w]; rfl); refine puY (v := ?_) (a' := ?_) 27 40 (mB 43 0xfffffff) rfl rfl HT_.out (by kernel_rfl) (fun _ _ _ h => h) (by rfl) ?_ ?_ ?_; rotate_left; (focus intro w'; go_simp; with_reducible rfl); rotate_left; (focus simp only [Act.put, sA, sZ, sS, i64_w, i32_w]; rfl); refine puY (v := ?_) (a' := ?_) 28 41 (mB 43 0x1fffffff) rfl rfl HT_.out (by kernel_rfl) (fun _ _ _ h => h) (by rfl) ?_ ?_ ?_; rotate_left; (focus intro w'; go_simp; with_reducible rfl); rotate_left; (focus simp only [Act.put, sA, sZ, sS, i64_w, i32_w]; rfl); refine puY (v := ?_) (a' := ?_) 29 42 (mB 43 0x3fffffff) rfl rfl HT_.out (by kernel_rfl) (fun _ _ _ h => h) (by rfl) ?_ ?_ ?_; rotate_left; (focus intro w'; go_simp; with_reducible rfl); rotate_left; (focus simp only [Act.put, sA, sZ, sS, i64_w, i32_w]; rfl); refine puY (v := ?_) (a' := ?_) 30 43 (mB 43 0x7fffffff) rfl rfl HT_.out (by kernel_rfl) (fun _ _ _ h => h) (by rfl) ?_ ?_ ?_; rotate_left; (focus intro w'; go_simp; with_reducible rfl); rotate_left; (focus simp only [Act.put, sA, sZ, sS, i64_w, i32_w]; rfl); refine puY (v := ?_) (a' := ?_) 31 44 (mB 43 0xffffffff) rfl rfl HT_.out (by kernel_rfl) (fun _ _ _ h => h) (by rfl) ?_ ?_ ?_; rotate_left; (focus intro w'; go_simp; with_reducible rfl); rotate_left; (focus simp only [Act.put, sA, sZ, sS, i64_w, i32_w]; rfl); refine puY (v := ?_) (a' := ?_) 33 46 (mB 43 0x2ffffffff) rfl rfl HT_.out (by kernel_rfl) (fun _ _ _ h => h) (by rfl) ?_ ?_ ?_; rotate_left; (focus intro w'; go_simp; with_reducible rfl); rotate_left; (focus simp only [Act.put, sA, sZ, sS, i64_w, i32_w]; rfl); refine puY (v := ?_) (a' := ?_) 34 47 (mB 43 0x6ffffffff) rfl rfl HT_.out (by kernel_rfl) (fun _ _ _ h => h) (by rfl) ?_ ?_ ?_; rotate_left; (focus intro w'; go_simp; with_reducible rfl); rotate_left; (focus simp only [Act.put, sA, sZ, sS, i64_w, i32_w]; rfl); refine puY (v := ?_) (a' := ?_) 38 51 (mB 43 0x46ffffffff) rfl rfl HT_.out (by kernel_rfl) (fun _ _ _ h => h) (by rfl) ?_ ?_ ?_; rotate_left; (focus intro w'; go_simp; with_reducible rfl); rotate_left; (focus simp only [Act.put, sA, sZ, sS, i64_w, i32_w]; rfl)
                            refine take_ (i := 32) (N := some 45) (v := ?_) (a' := ?_) (mB 43 0x47ffffffff) rfl rfl (take_ofW HT_.out HW_.out (by kernel_rfl)) (fun _ _ _ h => h) (Or.inl ⟨by rfl, ?_⟩) hHeld ?_ ?_
                            rotate_left
                            · rintro w' ⟨s0, s1, s2, s3, s4, s5, s6, s7, s8, s9⟩; go_simp; with_reducible rfl
                            rotate_left
                            · simp only [Act.put, sA, sZ, sS, i64_w, i32_w]; rfl
                            refine puY (v := ?_) (a' := ?_) 35 48 (mB 43 0x4fffffffff) rfl rfl HT_.out (by kernel_rfl) (fun _ _ _ h => h) (by rfl) ?_ ?_ ?_; rotate_left; (focus intro w'; go_simp; with_reducible rfl); rotate_left; (focus simp only [Act.put, sA, sZ, sS, i64_w, i32_w]; rfl); refine puY (v := ?_) (a' := ?_) 36 49 (mB 43 0x5fffffffff) rfl rfl HT_.out (by kernel_rfl) (fun _ _ _ h => h) (by rfl) ?_ ?_ ?_; rotate_left; (focus intro w'; go_simp; with_reducible rfl); rotate_left; (focus simp only [Act.put, sA, sZ, sS, i64_w, i32_w]; rfl)
                            refine take_ (i := 37) (N := some 50) (v := ?_) (a' := ?_) (mB 43 0x7fffffffff) rfl rfl (take_ofW HT_.out HW_.out (by kernel_rfl)) (fun _ _ _ h => h) (Or.inl ⟨by rfl, ?_⟩) hHeld ?_ ?_
                            rotate_left
                            · rintro w' ⟨s0, s1, s2, s3, s4, s5, s6, s7, s8, s9⟩; go_simp; with_reducible rfl
                            rotate_left
                            · simp only [Act.put, sA, sZ, sS, i64_w, i32_w]; rfl
                            refine take_ (i := 39) (N := some 52) (v := ?_) (a' := ?_) (mB 43 0xffffffffff) rfl rfl (take_ofW HT_.out HW_.out (by kernel_rfl)) (fun _ _ _ h => h) (Or.inl ⟨by rfl, ?_⟩) hHeld ?_ ?_
                            rotate_left
                            · rintro w' ⟨s0, s1, s2, s3, s4, s5, s6, s7, s8, s9⟩; go_simp; with_reducible rfl
                            rotate_left
                            · simp only [Act.put, sA, sZ, sS, i64_w, i32_w]; rfl
                            refine puY (v := ?_) (a' := ?_) 40 53 (mB 43 0x1ffffffffff) rfl rfl HT_.out (by kernel_rfl) (fun _ _ _ h => h) (by rfl) ?_ ?_ ?_; rotate_left; (focus intro w'; go_simp; with_reducible rfl); rotate_left; (focus simp only [Act.put, sA, sZ, sS, i64_w, i32_w]; rfl); refine puY (v := ?_) (a' := ?_) 41 54 (mB 43 0x3ffffffffff) rfl rfl HT_.out (by kernel_rfl) (fun _ _ _ h => h) (by rfl) ?_ ?_ ?_; rotate_left; (focus intro w'; go_simp; with_reducible rfl); rotate_left; (focus simp only [Act.put, sA, sZ, sS, i64_w, i32_w]; rfl); refine puY (v := ?_) (a' := ?_) 42 55 (mB 43 0x7ffffffffff) rfl rfl HT_.out (by kernel_rfl) (fun _ _ _ h => h) (by rfl) ?_ ?_ ?_; rotate_left; (focus intro w'; go_simp; with_reducible rfl); rotate_left; (focus simp only [Act.put, sA, sZ, sS, i64_w, i32_w]; rfl)
                            refine done_ (done_of HT_.out (by kernel_rfl)) ?_
                            try go_wp2
                            go_ret
                            exact ⟨by first | rfl | (simp [errW_none, errW_some] <;> rfl) | (simp only [← hji42]; first | rfl | (simp [errW_none, errW_some] <;> rfl)) | (simp [*, errW_none, errW_some] <;> rfl), by repeat (first | (with_reducible first | exact HB.out | apply ba | apply bn | apply bd | refine bs ?_ GE177.out | refine bs ?_ GE180.out) | exact HB.out)⟩
                          · rw [if_neg c45] at H
                            have c45b0 : decide (((rd_T51 l0_0 x8_1).f0) ≤ ((rd_T51 l0_0 (ji42)).f0)) = false := decide_eq_false c45
                            clear c45
                            have H' := AM H
                            clear H
                            have p179 : 0 ≤ (x8_1 : Int) := of_decide_eq_true (by first | (with_reducible assumption) | assumption)
                            have q179 : x8_1 < (l0_0.length : Int) := of_decide_eq_true (by first | (with_reducible assumption) | assumption)
                            obtain ⟨ad179, e179, hx179_0, hx179_1, hx179_2, hx179_3⟩ := at_T51 HR0_0.out x8_1 p179 q179
                            (try rw [← Nbq13.out] at hx179_3)
                            cases e179
                            replace hx179_0 := (HB.out.cell (World.block_lt_of_cell? w _ hx179_0)).trans hx179_0
                            replace hx179_1 := (HB.out.cell (World.block_lt_of_cell? w _ hx179_1)).trans hx179_1
                            replace hx179_2 := (HB.out.cell (World.block_lt_of_cell? w _ hx179_2)).trans hx179_2
                            replace hx179_3 := (HB.out.cell (World.block_lt_of_cell? w _ hx179_3)).trans hx179_3
                            replace p179 := eq_true p179
                            replace q179 := eq_true q179
                            try go_wp2_with (first | ((with_reducible refine gd (N := 4) rfl ?_); refine xe ?hg (N := 4) ?hd (cs := #[.int .i64 0, .int .i64 0, .int .i64 0, .bool false]) (t := 51) ?hr ?_; (case hd => rfl); (case hg => rfl); (case hr => first | (go_simp; done) | (go_simp; rfl)); intro gb180 hg w51 hbox hb; have n0_ := AM (kb (g := gb177) (o := .cells #[.slice (some ad179) l0_0.length c0_0, .int .i64 a0_1] 28 (0, 0)) (lfK BK177.out) hb); have n1_ := AM (bp (by repeat (first | (with_reducible first | exact HB.out | apply ba | apply bn | apply bd | refine bs ?_ GE177.out) | exact HB.out)) hb); have n2_ := AM (hbox); have n3_ := AM ((by rw [hg]; exact (bz (by repeat (first | (with_reducible first | exact HB.out | apply ba | apply bn | apply bd | refine bs ?_ GE177.out) | exact HB.out))) : w.heap.size ≤ gb180)); have n4_ := AM ((by rw [hg]; exact (bz (by repeat (first | (with_reducible first | exact HB.out | apply ba | apply bn | apply bd | refine bs ?_ GE177.out) | exact HB.out))) : w.heap.size ≤ gb180)); have n5_ := AM ((by rw [hg]; exact Nat.ne_of_lt (blk_lt (g := gb177) (o := .cells #[.slice (some ad179) l0_0.length c0_0, .int .i64 a0_1] 28 (0, 0)) (lfK BK177.out)) : gb177 ≠ gb180)); have n6_ := AM ((by rw [hg]; exact Nat.ne_of_gt (blk_lt (g := gb177) (o := .cells #[.slice (some ad179) l0_0.length c0_0, .int .i64 a0_1] 28 (0, 0)) (lfK BK177.out)) : gb180 ≠ gb177)); clear BK177 HB; revert n0_ n1_ n2_ n3_ n4_ n5_ n6_; intro BK177 HB BK180 GW180 GE180 NB177_180 NB180_177; clear hb hbox hg; have hnb52 := NB180_177.out; have hnc52 := NB177_180.out; have hcz53_0 : w51.cell? ⟨gb180, 0, none⟩ = some (.int .i64 0) := (kc BK180.out 0).trans rfl; have hcz53_1 : w51.cell? ⟨gb180, 1, none⟩ = some (.int .i64 0) := (kc BK180.out 1).trans rfl; have hcz53_2 : w51.cell? ⟨gb180, 2, none⟩ = some (.int .i64 0) := (kc BK180.out 2).trans rfl; have hcz53_3 : w51.cell? ⟨gb180, 3, none⟩ = some (.bool false) := (kc BK180.out 3).trans rfl; have hfz53_0 := kz BK180.out 0; have hfz53_1 := kz BK180.out 1; have hfz53_2 := kz BK180.out 2; have hfz53_3 := kz BK180.out 3))
                            have n0_ : Aside0 (((((w51.setCell ⟨gb180, 0, none⟩ (.int .i64 ((rd_T51 l0_0 x8_1).f0))).setCell ⟨gb180, 1, none⟩ (.int .i64 ((rd_T51 l0_0 x8_1).f1))).setCell ⟨gb180, 2, none⟩ (.int .i64 ((rd_T51 l0_0 x8_1).f2))).setCell ⟨gb180, 3, none⟩ (.bool false)).heap[gb177]? = some (.cells #[.slice (some ad179) l0_0.length c0_0, .int .i64 a0_1] 28 (0, 0))) := ⟨by (with_reducible repeat (first | refine kn ?_ _ | refine kd ?_ | refine ka ?_ _)); refine kf ?_ NB177_180.out _; (with_reducible repeat (first | refine kn ?_ _ | refine kd ?_ | refine ka ?_ _)); refine kf ?_ NB177_180.out _; (with_reducible repeat (first | refine kn ?_ _ | refine kd ?_ | refine ka ?_ _)); refine kf ?_ NB177_180.out _; (with_reducible repeat (first | refine kn ?_ _ | refine kd ?_ | refine ka ?_ _)); refine kf ?_ NB177_180.out _; (with_reducible repeat (first | refine kn ?_ _ | refine kd ?_ | refine ka ?_ _)); exact BK177.out⟩
                            have n1_ : Aside0 (((((w51.setCell ⟨gb180, 0, none⟩ (.int .i64 ((rd_T51 l0_0 x8_1).f0))).setCell ⟨gb180, 1, none⟩ (.int .i64 ((rd_T51 l0_0 x8_1).f1))).setCell ⟨gb180, 2, none⟩ (.int .i64 ((rd_T51 l0_0 x8_1).f2))).setCell ⟨gb180, 3, none⟩ (.bool false)).heap[gb180]? = some (.cells #[.int .i64 ((rd_T51 l0_0 x8_1).f0), .int .i64 ((rd_T51 l0_0 x8_1).f1), .int .i64 ((rd_T51 l0_0 x8_1).f2), .bool false] 51 (0, 0))) := ⟨by (with_reducible repeat (first | refine kn ?_ _ | refine kd ?_ | refine ka ?_ _)); refine blk_put (cs := #[.int .i64 ((rd_T51 l0_0 x8_1).f0), .int .i64 ((rd_T51 l0_0 x8_1).f1), .int .i64 ((rd_T51 l0_0 x8_1).f2), .bool false]) ?_ 3 _ rfl; (with_reducible repeat (first | refine kn ?_ _ | refine kd ?_ | refine ka ?_ _)); refine blk_put (cs := #[.int .i64 ((rd_T51 l0_0 x8_1).f0), .int .i64 ((rd_T51 l0_0 x8_1).f1), .int .i64 0, .bool false]) ?_ 2 _ rfl; (with_reducible repeat (first | refine kn ?_ _ | refine kd ?_ | refine ka ?_ _)); refine blk_put (cs := #[.int .i64 ((rd_T51 l0_0 x8_1).f0), .int .i64 0, .int .i64 0, .bool false]) ?_ 1 _ rfl; (with_reducible repeat (first | refine kn ?_ _ | refine kd ?_ | refine ka ?_ _)); refine blk_put (cs := #[.int .i64 0, .int .i64 0, .int .i64 0, .bool false]) ?_ 0 _ rfl; (with_reducible repeat (first | refine kn ?_ _ | refine kd ?_ | refine ka ?_ _)); exact BK180.out⟩
                            have n2_ : Aside0 (Below w.heap.size w ((((w51.setCell ⟨gb180, 0, none⟩ (.int .i64 ((rd_T51 l0_0 x8_1).f0))).setCell ⟨gb180, 1, none⟩ (.int .i64 ((rd_T51 l0_0 x8_1).f1))).setCell ⟨gb180, 2, none⟩ (.int .i64 ((rd_T51 l0_0 x8_1).f2))).setCell ⟨gb180, 3, none⟩ (.bool false))) := ⟨by repeat (first | (with_reducible first | exact HB.out | apply ba | apply bn | apply bd | refine bs ?_ GE177.out | refine bs ?_ GE180.out) | exact HB.out)⟩
                            (try clear BK177)
                            (try clear BK180)
                            (try clear HB)
                            generalize ((((w51.setCell ⟨gb180, 0, none⟩ (.int .i64 ((rd_T51 l0_0 x8_1).f0))).setCell ⟨gb180, 1, none⟩ (.int .i64 ((rd_T51 l0_0 x8_1).f1))).setCell ⟨gb180, 2, none⟩ (.int .i64 ((rd_T51 l0_0 x8_1).f2))).setCell ⟨gb180, 3, none⟩ (.bool false)) = w54 at n0_ n1_ n2_ ⊢
                            revert n0_ n1_ n2_
                            intro BK177 BK180 HB
                            have n0_ := AM (kd BK177.out)
                            have n1_ := AM (kd BK180.out)
                            have n2_ := AM (bd HB.out)
                            clear BK177 BK180 HB
                            revert n0_ n1_ n2_
                            intro BK177 BK180 HB
                            have p185 : 0 ≤ ((ji42) : Int) := of_decide_eq_true (by first | (with_reducible assumption) | assumption)
                            have q185 : (ji42) < (l0_0.length : Int) := of_decide_eq_true (by first | (with_reducible assumption) | assumption)
                            obtain ⟨ad185, e185, hx185_0, hx185_1, hx185_2, hx185_3⟩ := at_T51 HR0_0.out (ji42) p185 q185
                            have hw185_3 := hx185_3
                            have hw185_2 := hx185_2
                            have hw185_1 := hx185_1
                            have hw185_0 := hx185_0
                            (try rw [← Nbq13.out] at hx185_3)
                            obtain rfl : ad179 = ad185 := (by injection e185)
                            replace hx185_0 := (HB.out.cell (World.block_lt_of_cell? w _ hx185_0)).trans hx185_0
                            replace hx185_1 := (HB.out.cell (World.block_lt_of_cell? w _ hx185_1)).trans hx185_1
                            replace hx185_2 := (HB.out.cell (World.block_lt_of_cell? w _ hx185_2)).trans hx185_2
                            replace hx185_3 := (HB.out.cell (World.block_lt_of_cell? w _ hx185_3)).trans hx185_3
                            replace p185 := eq_true p185
                            replace q185 := eq_true q185
                            refine start_ (n := 43) (S := fun w' => w'.cell? ⟨gb180, 0, none⟩ = some (.int .i64 ((rd_T51 l0_0 x8_1).f0)) ∧ w'.cell? ⟨gb180, 1, none⟩ = some (.int .i64 ((rd_T51 l0_0 x8_1).f1)) ∧ w'.cell? ⟨gb180, 2, none⟩ = some (.int .i64 ((rd_T51 l0_0 x8_1).f2)) ∧ w'.cell? ⟨gb180, 3, none⟩ = some (.bool false) ∧ w'.cell? ⟨gb177, 0, none⟩ = some (.slice (some ad179) l0_0.length c0_0) ∧ w'.cell? ⟨gb177, 1, none⟩ = some (.int .i64 a0_1) ∧ w'.cell? (ad179.add (((ji42)).toNat * 4)) = some (.int .i64 ((rd_T51 l0_0 (ji42)).f0)) ∧ w'.cell? ⟨(ad179.add (((ji42)).toNat * 4)).block, (ad179.add (((ji42)).toNat * 4)).off + 1, none⟩ = some (.int .i64 ((rd_T51 l0_0 (ji42)).f1)) ∧ w'.cell? ⟨(ad179.add (((ji42)).toNat * 4)).block, (ad179.add (((ji42)).toNat * 4)).off + 2, none⟩ = some (.int .i64 ((rd_T51 l0_0 (ji42)).f2)) ∧ w'.cell? ⟨(ad179.add (((ji42)).toNat * 4)).block, (ad179.add (((ji42)).toNat * 4)).off + 3, none⟩ = some (.bool ((rd_T51 l0_0 (ji42)).f3))) (ds := []) (mB 43 0x0) (by kernel_rfl) rfl rfl ⟨(kc BK180.out 0).trans rfl, (kc BK180.out 1).trans rfl, (kc BK180.out 2).trans rfl, (kc BK180.out 3).trans rfl, (kc BK177.out 0).trans rfl, (kc BK177.out 1).trans rfl, ((HB.out.cell (World.block_lt_of_cell? w _ hw185_0)).trans hw185_0), ((HB.out.cell (World.block_lt_of_cell? w _ hw185_1)).trans hw185_1), ((HB.out.cell (World.block_lt_of_cell? w _ hw185_2)).trans hw185_2), ((HB.out.cell (World.block_lt_of_cell? w _ hw185_3)).trans hw185_3)⟩ (fun hHeld => ?_); refine with_tabW impl_QueueOk.tab4 impl_QueueOk.bits4 (fun HT_ HW_ => ?_)
                            generalize w54.drew = w55 at BK177 BK180 HB hx185_0 hx185_1 hx185_2 hx185_3 hHeld ⊢
                            refine puY (v := ?_) (a' := ?_) 0 13 (mB 43 0x1) rfl rfl HT_.out (by kernel_rfl) (fun _ _ _ h => h) (by rfl) ?_ ?_ ?_; rotate_left; (focus intro w'; go_simp; with_reducible rfl); rotate_left; (focus simp only [Act.put, sA, sZ, sS, i64_w, i32_w]; rfl)
                            refine take_ (i := 1) (N := some 14) (v := ?_) (a' := ?_) (mB 43 0x3) rfl rfl (take_ofW HT_.out HW_.out (by kernel_rfl)) (fun _ _ _ h => h) (Or.inl ⟨by rfl, ?_⟩) hHeld ?_ ?_
                            rotate_left
                            · rintro w' ⟨s0, s1, s2, s3, s4, s5, s6, s7, s8, s9⟩; go_simp; with_reducible rfl
                            rotate_left
                            · simp only [Act.put, sA, sZ, sS, i64_w, i32_w]; rfl
                            refine one_ (i := 2) (N := some 15) (mB 43 0x7) rfl rfl (one_of HT_.out (by kernel_rfl)) (by decide) (fun K hK => ?_)
                            refine goes_ Try.func21 (by kernel_rfl) rfl #[.int .i64 ((rd_T51 l0_0 x8_1).f0), .int .i64 0, .int .i64 99] (by rfl) rfl rfl (by (try simp only [List.map_toArray, List.map_cons, List.map_nil]); first | done | rfl | (simp only [List.length_drop, List.length_take]; rfl)) ?_
                            with_reducible refine (impl_in.calls ((rd_T51 l0_0 x8_1).f0) 0 99 true _ A7.out).mono ?_
                            rintro e w' ⟨rfl, ⟨nd, rfl⟩⟩
                            refine ⟨_, rfl, ?_⟩
                            refine hK.out _ _ ⟨(kc BK180.out 0).trans rfl, (kc BK180.out 1).trans rfl, (kc BK180.out 2).trans rfl, (kc BK180.out 3).trans rfl, (kc BK177.out 0).trans rfl, (kc BK177.out 1).trans rfl, ((HB.out.cell (World.block_lt_of_cell? w _ hw185_0)).trans hw185_0), ((HB.out.cell (World.block_lt_of_cell? w _ hw185_1)).trans hw185_1), ((HB.out.cell (World.block_lt_of_cell? w _ hw185_2)).trans hw185_2), ((HB.out.cell (World.block_lt_of_cell? w _ hw185_3)).trans hw185_3)⟩ (fun hHeld => ?_)
                            clear hK K
                            refine norm_ (a' := ?_) ?_ ?_
                            rotate_left
                            · show Act.put _ (some 15) _ = _
                              simp only [Act.put, sA, sZ, sS, i64_w, i32_w]
                              rfl
                            refine puY (v := ?_) (a' := ?_) 3 16 (mB 43 0xf) rfl rfl HT_.out (by kernel_rfl) (fun _ _ _ h => h) (by rfl) ?_ ?_ ?_; rotate_left; (focus intro w'; go_simp; with_reducible rfl); rotate_left; (focus simp only [Act.put, sA, sZ, sS, i64_w, i32_w]; rfl); refine puY (v := ?_) (a' := ?_) 4 17 (mB 43 0x1f) rfl rfl HT_.out (by kernel_rfl) (fun _ _ _ h => h) (by rfl) ?_ ?_ ?_; rotate_left; (focus intro w'; go_simp; with_reducible rfl); rotate_left; (focus simp only [Act.put, sA, sZ, sS, i64_w, i32_w]; rfl); refine puY (v := ?_) (a' := ?_) 5 18 (mB 43 0x3f) rfl rfl HT_.out (by kernel_rfl) (fun _ _ _ h => h) (by rfl) ?_ ?_ ?_; rotate_left; (focus intro w'; go_simp; with_reducible rfl); rotate_left; (focus simp only [Act.put, sA, sZ, sS, i64_w, i32_w]; rfl)
                            refine take_ (i := 6) (N := some 19) (v := ?_) (a' := ?_) (mB 43 0x7f) rfl rfl (take_ofW HT_.out HW_.out (by kernel_rfl)) (fun _ _ _ h => h) (Or.inl ⟨by rfl, ?_⟩) hHeld ?_ ?_
                            rotate_left
                            · rintro w' ⟨s0, s1, s2, s3, s4, s5, s6, s7, s8, s9⟩; go_simp; with_reducible rfl
                            rotate_left
                            · simp only [Act.put, sA, sZ, sS, i64_w, i32_w]; rfl
                            refine one_ (i := 7) (N := some 20) (mB 43 0xff) rfl rfl (one_of HT_.out (by kernel_rfl)) (by decide) (fun K hK => ?_)
                            refine goes_ Try.func21 (by kernel_rfl) rfl #[.int .i64 ((rd_T51 l0_0 x8_1).f1), .int .i64 1, .int .i64 6] (by rfl) rfl rfl (by (try simp only [List.map_toArray, List.map_cons, List.map_nil]); first | done | rfl | (simp only [List.length_drop, List.length_take]; rfl)) ?_
                            with_reducible refine (impl_in.calls ((rd_T51 l0_0 x8_1).f1) 1 6 true _ A9.out).mono ?_
                            rintro e w' ⟨rfl, ⟨nd, rfl⟩⟩
                            refine ⟨_, rfl, ?_⟩
                            refine hK.out _ _ ⟨(kc BK180.out 0).trans rfl, (kc BK180.out 1).trans rfl, (kc BK180.out 2).trans rfl, (kc BK180.out 3).trans rfl, (kc BK177.out 0).trans rfl, (kc BK177.out 1).trans rfl, ((HB.out.cell (World.block_lt_of_cell? w _ hw185_0)).trans hw185_0), ((HB.out.cell (World.block_lt_of_cell? w _ hw185_1)).trans hw185_1), ((HB.out.cell (World.block_lt_of_cell? w _ hw185_2)).trans hw185_2), ((HB.out.cell (World.block_lt_of_cell? w _ hw185_3)).trans hw185_3)⟩ (fun hHeld => ?_)
                            clear hK K
                            refine norm_ (a' := ?_) ?_ ?_
                            rotate_left
                            · show Act.put _ (some 20) _ = _
                              simp only [Act.put, sA, sZ, sS, i64_w, i32_w]
                              rfl
                            refine puY (v := ?_) (a' := ?_) 8 21 (mB 43 0x1ff) rfl rfl HT_.out (by kernel_rfl) (fun _ _ _ h => h) (by rfl) ?_ ?_ ?_; rotate_left; (focus intro w'; go_simp; with_reducible rfl); rotate_left; (focus simp only [Act.put, sA, sZ, sS, i64_w, i32_w]; rfl); refine puY (v := ?_) (a' := ?_) 9 22 (mB 43 0x3ff) rfl rfl HT_.out (by kernel_rfl) (fun _ _ _ h => h) (by rfl) ?_ ?_ ?_; rotate_left; (focus intro w'; go_simp; with_reducible rfl); rotate_left; (focus simp only [Act.put, sA, sZ, sS, i64_w, i32_w]; rfl); refine puY (v := ?_) (a' := ?_) 10 23 (mB 43 0x7ff) rfl rfl HT_.out (by kernel_rfl) (fun _ _ _ h => h) (by rfl) ?_ ?_ ?_; rotate_left; (focus intro w'; go_simp; with_reducible rfl); rotate_left; (focus simp only [Act.put, sA, sZ, sS, i64_w, i32_w]; rfl); refine puY (v := ?_) (a' := ?_) 11 24 (mB 43 0xfff) rfl rfl HT_.out (by kernel_rfl) (fun _ _ _ h => h) (by rfl) ?_ ?_ ?_; rotate_left; (focus intro w'; go_simp; with_reducible rfl); rotate_left; (focus simp only [Act.put, sA, sZ, sS, i64_w, i32_w]; rfl)
                            refine take_ (i := 12) (N := some 25) (v := ?_) (a' := ?_) (mB 43 0x1fff) rfl rfl (take_ofW HT_.out HW_.out (by kernel_rfl)) (fun _ _ _ h => h) (Or.inl ⟨by rfl, ?_⟩) hHeld ?_ ?_
                            rotate_left
                            · rintro w' ⟨s0, s1, s2, s3, s4, s5, s6, s7, s8, s9⟩; go_simp; with_reducible rfl
                            rotate_left
                            · simp only [Act.put, sA, sZ, sS, i64_w, i32_w]; rfl
                            refine one_ (i := 13) (N := some 26) (mB 43 0x3fff) rfl rfl (one_of HT_.out (by kernel_rfl)) (by decide) (fun K hK => ?_)
                            refine goes_ Try.func21 (by kernel_rfl) rfl #[.int .i64 ((rd_T51 l0_0 x8_1).f2), .int .i64 0, .int .i64 1000000] (by rfl) rfl rfl (by (try simp only [List.map_toArray, List.map_cons, List.map_nil]); first | done | rfl | (simp only [List.length_drop, List.length_take]; rfl)) ?_
                            with_reducible refine (impl_in.calls ((rd_T51 l0_0 x8_1).f2) 0 1000000 true _ A11.out).mono ?_
                            rintro e w' ⟨rfl, ⟨nd, rfl⟩⟩
                            refine ⟨_, rfl, ?_⟩
                            refine hK.out _ _ ⟨(kc BK180.out 0).trans rfl, (kc BK180.out 1).trans rfl, (kc BK180.out 2).trans rfl, (kc BK180.out 3).trans rfl, (kc BK177.out 0).trans rfl, (kc BK177.out 1).trans rfl, ((HB.out.cell (World.block_lt_of_cell? w _ hw185_0)).trans hw185_0), ((HB.out.cell (World.block_lt_of_cell? w _ hw185_1)).trans hw185_1), ((HB.out.cell (World.block_lt_of_cell? w _ hw185_2)).trans hw185_2), ((HB.out.cell (World.block_lt_of_cell? w _ hw185_3)).trans hw185_3)⟩ (fun hHeld => ?_)
                            clear hK K
                            refine norm_ (a' := ?_) ?_ ?_
                            rotate_left
                            · show Act.put _ (some 26) _ = _
                              simp only [Act.put, sA, sZ, sS, i64_w, i32_w]
                              rfl
                            refine puY (v := ?_) (a' := ?_) 14 27 (mB 43 0x7fff) rfl rfl HT_.out (by kernel_rfl) (fun _ _ _ h => h) (by rfl) ?_ ?_ ?_; rotate_left; (focus intro w'; go_simp; with_reducible rfl); rotate_left; (focus simp only [Act.put, sA, sZ, sS, i64_w, i32_w]; rfl); refine puY (v := ?_) (a' := ?_) 15 28 (mB 43 0xffff) rfl rfl HT_.out (by kernel_rfl) (fun _ _ _ h => h) (by rfl) ?_ ?_ ?_; rotate_left; (focus intro w'; go_simp; with_reducible rfl); rotate_left; (focus simp only [Act.put, sA, sZ, sS, i64_w, i32_w]; rfl); refine puY (v := ?_) (a' := ?_) 16 29 (mB 43 0x1ffff) rfl rfl HT_.out (by kernel_rfl) (fun _ _ _ h => h) (by rfl) ?_ ?_ ?_; rotate_left; (focus intro w'; go_simp; with_reducible rfl); rotate_left; (focus simp only [Act.put, sA, sZ, sS, i64_w, i32_w]; rfl); refine puY (v := ?_) (a' := ?_) 17 30 (mB 43 0x3ffff) rfl rfl HT_.out (by kernel_rfl) (fun _ _ _ h => h) (by rfl) ?_ ?_ ?_; rotate_left; (focus intro w'; go_simp; with_reducible rfl); rotate_left; (focus simp only [Act.put, sA, sZ, sS, i64_w, i32_w]; rfl)
                            refine take_ (i := 18) (N := some 31) (v := ?_) (a' := ?_) (mB 43 0x7ffff) rfl rfl (take_ofW HT_.out HW_.out (by kernel_rfl)) (fun _ _ _ h => h) (Or.inl ⟨by rfl, ?_⟩) hHeld ?_ ?_
                            rotate_left
                            · rintro w' ⟨s0, s1, s2, s3, s4, s5, s6, s7, s8, s9⟩; go_simp; with_reducible rfl
                            rotate_left
                            · simp only [Act.put, sA, sZ, sS, i64_w, i32_w]; rfl
                            refine puY (v := ?_) (a' := ?_) 19 32 (mB 43 0xfffff) rfl rfl HT_.out (by kernel_rfl) (fun _ _ _ h => h) (by rfl) ?_ ?_ ?_; rotate_left; (focus intro w'; go_simp; with_reducible rfl); rotate_left; (focus simp only [Act.put, sA, sZ, sS, i64_w, i32_w]; rfl); refine puM 20 33 (mB 43 0x1fffff) rfl rfl HT_.out (by kernel_rfl) (fun _ _ _ h => h) (by rfl) ?_; refine puM 21 34 (mB 43 0x3fffff) rfl rfl HT_.out (by kernel_rfl) (fun _ _ _ h => h) (by rfl) ?_; refine puN (a' := ?_) 22 35 (mB 43 0x7fffff) rfl rfl HT_.out (by kernel_rfl) (fun _ _ _ h => h) (by rfl) ?_ ?_; rotate_left; (focus simp only [Act.put, sA, sZ, sS, i64_w, i32_w]; rfl); refine puM 23 36 (mB 43 0xffffff) rfl rfl HT_.out (by kernel_rfl) (fun _ _ _ h => h) (by rfl) ?_; refine puN (a' := ?_) 24 37 (mB 43 0x1ffffff) rfl rfl HT_.out (by kernel_rfl) (fun _ _ _ h => h) (by rfl) ?_ ?_; rotate_left; (focus simp only [Act.put, sA, sZ, sS, i64_w, i32_w]; rfl); refine puY (v := ?_) (a' := ?_) 25 38 (mB 43 0x3ffffff) rfl rfl HT_.out (by kernel_rfl) (fun _ _ _ h => h) (by rfl) ?_ ?_ ?_; rotate_left; (focus intro w'; go_simp; with_reducible rfl); rotate_left; (focus simp only [Act.put, sA, sZ, sS, i64_w, i32_w]; rfl); refine puY (v := ?_) (a' := ?_) 26 39 (mB 43 0x7ffffff) rfl rfl HT_.out (by kernel_rfl) (fun _ _ _ h => h) (by rfl) ?_ ?_ ?_; rotate_left; (focus intro w'; go_simp; with_reducible rfl); rotate_left; (focus simp only [Act.put, sA, sZ, sS, i64_w, i32_w]; rfl); refine puY (v := ?_) (a' := ?_) 27 40 (mB 43 0xfffffff) rfl rfl HT_.out (by kernel_rfl) (fun _ _ _ h => h) (by rfl) ?_ ?_ ?_; rotate_left; (focus intro w'; go_simp; with_reducible rfl); rotate_left; (focus simp only [Act.put, sA, sZ, sS, i64_w, i32_w]; rfl); refine puY (v := ?_) (a' := ?_) 28 41 (mB 43 0x1fffffff) rfl rfl HT_.out (by kernel_rfl) (fun _ _ _ h => h) (by rfl) ?_ ?_ ?_; rotate_left; (focus intro w'; go_simp; with_reducible rfl); rotate_left; (focus simp only [Act.put, sA, sZ, sS, i64_w, i32_w]; rfl); refine puY (v := ?_) (a' := ?_) 29 42 (mB 43 0x3fffffff) rfl rfl HT_.out (by kernel_rfl) (fun _ _ _ h => h) (by rfl) ?_ ?_ ?_; rotate_left; (focus intro w'; go_simp; with_reducible rfl); rotate_left; (focus simp only [Act.put, sA, sZ, sS, i64_w, i32_w]; rfl); refine puY (v := ?_) (a' := ?_) 30 43 (mB 43 0x7fffffff) rfl rfl HT_.out (by kernel_rfl) (fun _ _ _ h => h) (by rfl) ?_ ?_ ?_; rotate_left; (focus intro w'; go_simp; with_reducible rfl); rotate_left; (focus simp only [Act.put, sA, sZ, sS, i64_w, i32_w]; rfl); refine puY (v := ?_) (a' := ?_) 31 44 (mB 43 0xffffffff) rfl rfl HT_.out (by kernel_rfl) (fun _ _ _ h => h) (by rfl) ?_ ?_ ?_; rotate_left; (focus intro w'; go_simp; with_reducible rfl); rotate_left; (focus simp only [Act.put, sA, sZ, sS, i64_w, i32_w]; rfl); refine puY (v := ?_) (a' := ?_) 33 46 (mB 43 0x2ffffffff) rfl rfl HT_.out (by kernel_rfl) (fun _ _ _ h => h) (by rfl) ?_ ?_ ?_; rotate_left; (focus intro w'; go_simp; with_reducible rfl); rotate_left; (focus simp only [Act.put, sA, sZ, sS, i64_w, i32_w]; rfl); refine puY (v := ?_) (a' := ?_) 34 47 (mB 43 0x6ffffffff) rfl rfl HT_.out (by kernel_rfl) (fun _ _ _ h => h) (by rfl) ?_ ?_ ?_; rotate_left; (focus intro w'; go_simp; with_reducible rfl); rotate_left; (focus simp only [Act.put, sA, sZ, sS, i64_w, i32_w]; rfl); refine puY (v := ?_) (a' := ?_) 38 51 (mB 43 0x46ffffffff) rfl rfl HT_.out (by kernel_rfl) (fun _ _ _ h => h) (by rfl) ?_ ?_ ?_; rotate_left; (focus intro w'; go_simp; with_reducible rfl); rotate_left; (focus simp only [Act.put, sA, sZ, sS, i64_w, i32_w]; rfl)
                            refine take_ (i := 32) (N := some 45) (v := ?_) (a' := ?_) (mB 43 0x47ffffffff) rfl rfl (take_ofW HT_.out HW_.out (by kernel_rfl)) (fun _ _ _ h => h) (Or.inl ⟨by rfl, ?_⟩) hHeld ?_ ?_
                            rotate_left
                            · rintro w' ⟨s0, s1, s2, s3, s4, s5, s6, s7, s8, s9⟩; go_simp; with_reducible rfl
                            rotate_left
                            · simp only [Act.put, sA, sZ, sS, i64_w, i32_w]; rfl
                            refine puY (v := ?_) (a' := ?_) 35 48 (mB 43 0x4fffffffff) rfl rfl HT_.out (by kernel_rfl) (fun _ _ _ h => h) (by rfl) ?_ ?_ ?_; rotate_left; (focus intro w'; go_simp; with_reducible rfl); rotate_left; (focus simp only [Act.put, sA, sZ, sS, i64_w, i32_w]; rfl); refine puY (v := ?_) (a' := ?_) 36 49 (mB 43 0x5fffffffff) rfl rfl HT_.out (by kernel_rfl) (fun _ _ _ h => h) (by rfl) ?_ ?_ ?_; rotate_left; (focus intro w'; go_simp; with_reducible rfl); rotate_left; (focus simp only [Act.put, sA, sZ, sS, i64_w, i32_w]; rfl)
                            refine take_ (i := 37) (N := some 50) (v := ?_) (a' := ?_) (mB 43 0x7fffffffff) rfl rfl (take_ofW HT_.out HW_.out (by kernel_rfl)) (fun _ _ _ h => h) (Or.inl ⟨by rfl, ?_⟩) hHeld ?_ ?_
                            rotate_left
                            · rintro w' ⟨s0, s1, s2, s3, s4, s5, s6, s7, s8, s9⟩; go_simp; with_reducible rfl
                            rotate_left
                            · simp only [Act.put, sA, sZ, sS, i64_w, i32_w]; rfl
                            refine take_ (i := 39) (N := some 52) (v := ?_) (a' := ?_) (mB 43 0xffffffffff) rfl rfl (take_ofW HT_.out HW_.out (by kernel_rfl)) (fun _ _ _ h => h) (Or.inl ⟨by rfl, ?_⟩) hHeld ?_ ?_
                            rotate_left
                            · rintro w' ⟨s0, s1, s2, s3, s4, s5, s6, s7, s8, s9⟩; go_simp; with_reducible rfl
                            rotate_left
                            · simp only [Act.put, sA, sZ, sS, i64_w, i32_w]; rfl
                            refine puY (v := ?_) (a' := ?_) 40 53 (mB 43 0x1ffffffffff) rfl rfl HT_.out (by kernel_rfl) (fun _ _ _ h => h) (by rfl) ?_ ?_ ?_; rotate_left; (focus intro w'; go_simp; with_reducible rfl); rotate_left; (focus simp only [Act.put, sA, sZ, sS, i64_w, i32_w]; rfl); refine puY (v := ?_) (a' := ?_) 41 54 (mB 43 0x3ffffffffff) rfl rfl HT_.out (by kernel_rfl) (fun _ _ _ h => h) (by rfl) ?_ ?_ ?_; rotate_left; (focus intro w'; go_simp; with_reducible rfl); rotate_left; (focus simp only [Act.put, sA, sZ, sS, i64_w, i32_w]; rfl); refine puY (v := ?_) (a' := ?_) 42 55 (mB 43 0x7ffffffffff) rfl rfl HT_.out (by kernel_rfl) (fun _ _ _ h => h) (by rfl) ?_ ?_ ?_; rotate_left; (focus intro w'; go_simp; with_reducible rfl); rotate_left; (focus simp only [Act.put, sA, sZ, sS, i64_w, i32_w]; rfl)
                            refine done_ (done_of HT_.out (by kernel_rfl)) ?_
                            try go_wp2
                            go_roundg k1
                            case measure => have := HK1.out; omega
                            case rel => exact ⟨(wrap64 (x8_1 + 1)), (by first | rfl | (simp; done) | (simp [*]; done)), H', ⟨by have := HK1.out; omega⟩, ⟨by (with_reducible repeat (first | refine kn ?_ _ | refine kd ?_ | refine ka ?_ _)); exact BK177.out⟩, ⟨by repeat (first | (with_reducible first | exact HB.out | apply ba | apply bn | apply bd | refine bs ?_ GE177.out | refine bs ?_ GE180.out) | exact HB.out)⟩⟩
                        · rw [if_neg c44] at H
                          exact absurd H (by simp)
                      · rw [if_neg c43] at H
                        exact absurd H (by simp)
                    · rw [if_neg c41] at H
                      have c41b0 : decide (0 < x8_1) = false := decide_eq_false c41
                      clear c41
                      have H' := AM H
                      clear H
                      have p179 : 0 ≤ (x8_1 : Int) := of_decide_eq_true (by first | (with_reducible assumption) | assumption)
                      have q179 : x8_1 < (l0_0.length : Int) := of_decide_eq_true (by first | (with_reducible assumption) | assumption)
                      obtain ⟨ad179, e179, hx179_0, hx179_1, hx179_2, hx179_3⟩ := at_T51 HR0_0.out x8_1 p179 q179
                      (try rw [← Nbq13.out] at hx179_3)
                      cases e179
                      replace hx179_0 := (HB.out.cell (World.block_lt_of_cell? w _ hx179_0)).trans hx179_0
                      replace hx179_1 := (HB.out.cell (World.block_lt_of_cell? w _ hx179_1)).trans hx179_1
                      replace hx179_2 := (HB.out.cell (World.block_lt_of_cell? w _ hx179_2)).trans hx179_2
                      replace hx179_3 := (HB.out.cell (World.block_lt_of_cell? w _ hx179_3)).trans hx179_3
                      replace p179 := eq_true p179
                      replace q179 := eq_true q179
                      try go_wp2_with (first | ((with_reducible refine gd (N := 4) rfl ?_); refine xe ?hg (N := 4) ?hd (cs := #[.int .i64 0, .int .i64 0, .int .i64 0, .bool false]) (t := 51) ?hr ?_; (case hd => rfl); (case hg => rfl); (case hr => first | (go_simp; done) | (go_simp; rfl)); intro gb180 hg w56 hbox hb; have n0_ := AM (kb (g := gb177) (o := .cells #[.slice (some ad179) l0_0.length c0_0, .int .i64 a0_1] 28 (0, 0)) (lfK BK177.out) hb); have n1_ := AM (bp (by repeat (first | (with_reducible first | exact HB.out | apply ba | apply bn | apply bd | refine bs ?_ GE177.out) | exact HB.out)) hb); have n2_ := AM (hbox); have n3_ := AM ((by rw [hg]; exact (bz (by repeat (first | (with_reducible first | exact HB.out | apply ba | apply bn | apply bd | refine bs ?_ GE177.out) | exact HB.out))) : w.heap.size ≤ gb180)); have n4_ := AM ((by rw [hg]; exact (bz (by repeat (first | (with_reducible first | exact HB.out | apply ba | apply bn | apply bd | refine bs ?_ GE177.out) | exact HB.out))) : w.heap.size ≤ gb180)); have n5_ := AM ((by rw [hg]; exact Nat.ne_of_lt (blk_lt (g := gb177) (o := .cells #[.slice (some ad179) l0_0.length c0_0, .int .i64 a0_1] 28 (0, 0)) (lfK BK177.out)) : gb177 ≠ gb180)); have n6_ := AM ((by rw [hg]; exact Nat.ne_of_gt (blk_lt (g := gb177) (o := .cells #[.slice (some ad179) l0_0.length c0_0, .int .i64 a0_1] 28 (0, 0)) (lfK BK177.out)) : gb180 ≠ gb177)); clear BK177 HB; revert n0_ n1_ n2_ n3_ n4_ n5_ n6_; intro BK177 HB BK180 GW180 GE180 NB177_180 NB180_177; clear hb hbox hg; have hnb57 := NB180_177.out; have hnc57 := NB177_180.out; have hcz58_0 : w56.cell? ⟨gb180, 0, none⟩ = some (.int .i64 0) := (kc BK180.out 0).trans rfl; have hcz58_1 : w56.cell? ⟨gb180, 1, none⟩ = some (.int .i64 0) := (kc BK180.out 1).trans rfl; have hcz58_2 : w56.cell? ⟨gb180, 2, none⟩ = some (.int .i64 0) := (kc BK180.out 2).trans rfl; have hcz58_3 : w56.cell? ⟨gb180, 3, none⟩ = some (.bool false) := (kc BK180.out 3).trans rfl; have hfz58_0 := kz BK180.out 0; have hfz58_1 := kz BK180.out 1; have hfz58_2 := kz BK180.out 2; have hfz58_3 := kz BK180.out 3))
                      have n0_ : Aside0 (((((w56.setCell ⟨gb180, 0, none⟩ (.int .i64 ((rd_T51 l0_0 x8_1).f0))).setCell ⟨gb180, 1, none⟩ (.int .i64 ((rd_T51 l0_0 x8_1).f1))).setCell ⟨gb180, 2, none⟩ (.int .i64 ((rd_T51 l0_0 x8_1).f2))).setCell ⟨gb180, 3, none⟩ (.bool false)).heap[gb177]? = some (.cells #[.slice (some ad179) l0_0.length c0_0, .int .i64 a0_1] 28 (0, 0))) := ⟨by (with_reducible repeat (first | refine kn ?_ _ | refine kd ?_ | refine ka ?_ _)); refine kf ?_ NB177_180.out _; (with_reducible repeat (first | refine kn ?_ _ | refine kd ?_ | refine ka ?_ _)); refine kf ?_ NB177_180.out _; (with_reducible repeat (first | refine kn ?_ _ | refine kd ?_ | refine ka ?_ _)); refine kf ?_ NB177_180.out _; (with_reducible repeat (first | refine kn ?_ _ | refine kd ?_ | refine ka ?_ _)); refine kf ?_ NB177_180.out _; (with_reducible repeat (first | refine kn ?_ _ | refine kd ?_ | refine ka ?_ _)); exact BK177.out⟩
                      have n1_ : Aside0 (((((w56.setCell ⟨gb180, 0, none⟩ (.int .i64 ((rd_T51 l0_0 x8_1).f0))).setCell ⟨gb180, 1, none⟩ (.int .i64 ((rd_T51 l0_0 x8_1).f1))).setCell ⟨gb180, 2, none⟩ (.int .i64 ((rd_T51 l0_0 x8_1).f2))).setCell ⟨gb180, 3, none⟩ (.bool false)).heap[gb180]? = some (.cells #[.int .i64 ((rd_T51 l0_0 x8_1).f0), .int .i64 ((rd_T51 l0_0 x8_1).f1), .int .i64 ((rd_T51 l0_0 x8_1).f2), .bool false] 51 (0, 0))) := ⟨by (with_reducible repeat (first | refine kn ?_ _ | refine kd ?_ | refine ka ?_ _)); refine blk_put (cs := #[.int .i64 ((rd_T51 l0_0 x8_1).f0), .int .i64 ((rd_T51 l0_0 x8_1).f1), .int .i64 ((rd_T51 l0_0 x8_1).f2), .bool false]) ?_ 3 _ rfl; (with_reducible repeat (first | refine kn ?_ _ | refine kd ?_ | refine ka ?_ _)); refine blk_put (cs := #[.int .i64 ((rd_T51 l0_0 x8_1).f0), .int .i64 ((rd_T51 l0_0 x8_1).f1), .int .i64 0, .bool false]) ?_ 2 _ rfl; (with_reducible repeat (first | refine kn ?_ _ | refine kd ?_ | refine ka ?_ _)); refine blk_put (cs := #[.int .i64 ((rd_T51 l0_0 x8_1).f0), .int .i64 0, .int .i64 0, .bool false]) ?_ 1 _ rfl; (with_reducible repeat (first | refine kn ?_ _ | refine kd ?_ | refine ka ?_ _)); refine blk_put (cs := #[.int .i64 0, .int .i64 0, .int .i64 0, .bool false]) ?_ 0 _ rfl; (with_reducible repeat (first | refine kn ?_ _ | refine kd ?_ | refine ka ?_ _)); exact BK180.out⟩
                      have n2_ : Aside0 (Below w.heap.size w ((((w56.setCell ⟨gb180, 0, none⟩ (.int .i64 ((rd_T51 l0_0 x8_1).f0))).setCell ⟨gb180, 1, none⟩ (.int .i64 ((rd_T51 l0_0 x8_1).f1))).setCell ⟨gb180, 2, none⟩ (.int .i64 ((rd_T51 l0_0 x8_1).f2))).setCell ⟨gb180, 3, none⟩ (.bool false))) := ⟨by repeat (first | (with_reducible first | exact HB.out | apply ba | apply bn | apply bd | refine bs ?_ GE177.out | refine bs ?_ GE180.out) | exact HB.out)⟩
                      (try clear BK177)
                      (try clear BK180)
                      (try clear HB)
                      generalize ((((w56.setCell ⟨gb180, 0, none⟩ (.int .i64 ((rd_T51 l0_0 x8_1).f0))).setCell ⟨gb180, 1, none⟩ (.int .i64 ((rd_T51 l0_0 x8_1).f1))).setCell ⟨gb180, 2, none⟩ (.int .i64 ((rd_T51 l0_0 x8_1).f2))).setCell ⟨gb180, 3, none⟩ (.bool false)) = w59 at n0_ n1_ n2_ ⊢
                      revert n0_ n1_ n2_
                      intro BK177 BK180 HB
                      have n0_ := AM (kd BK177.out)
                      have n1_ := AM (kd BK180.out)
                      have n2_ := AM (bd HB.out)
                      clear BK177 BK180 HB
                      revert n0_ n1_ n2_
                      intro BK177 BK180 HB
                      refine start_ (n := 43) (S := fun w' => w'.cell? ⟨gb180, 0, none⟩ = some (.int .i64 ((rd_T51 l0_0 x8_1).f0)) ∧ w'.cell? ⟨gb180, 1, none⟩ = some (.int .i64 ((rd_T51 l0_0 x8_1).f1)) ∧ w'.cell? ⟨gb180, 2, none⟩ = some (.int .i64 ((rd_T51 l0_0 x8_1).f2)) ∧ w'.cell? ⟨gb180, 3, none⟩ = some (.bool false)) (ds := []) (mB 43 0x0) (by kernel_rfl) rfl rfl ⟨(kc BK180.out 0).trans rfl, (kc BK180.out 1).trans rfl, (kc BK180.out 2).trans rfl, (kc BK180.out 3).trans rfl⟩ (fun hHeld => ?_); refine with_tabW impl_QueueOk.tab4 impl_QueueOk.bits4 (fun HT_ HW_ => ?_)
                      generalize w59.drew = w60 at BK177 BK180 HB hHeld ⊢
                      refine puY (v := ?_) (a' := ?_) 0 13 (mB 43 0x1) rfl rfl HT_.out (by kernel_rfl) (fun _ _ _ h => h) (by rfl) ?_ ?_ ?_; rotate_left; (focus intro w'; go_simp; with_reducible rfl); rotate_left; (focus simp only [Act.put, sA, sZ, sS, i64_w, i32_w]; rfl)
                      refine take_ (i := 1) (N := some 14) (v := ?_) (a' := ?_) (mB 43 0x3) rfl rfl (take_ofW HT_.out HW_.out (by kernel_rfl)) (fun _ _ _ h => h) (Or.inl ⟨by rfl, ?_⟩) hHeld ?_ ?_
                      rotate_left
                      · rintro w' ⟨s0, s1, s2, s3⟩; go_simp; with_reducible rfl
                      rotate_left
                      · simp only [Act.put, sA, sZ, sS, i64_w, i32_w]; rfl
                      refine one_ (i := 2) (N := some 15) (mB 43 0x7) rfl rfl (one_of HT_.out (by kernel_rfl)) (by decide) (fun K hK => ?_)
                      refine goes_ Try.func21 (by kernel_rfl) rfl #[.int .i64 ((rd_T51 l0_0 x8_1).f0), .int .i64 0, .int .i64 99] (by rfl) rfl rfl (by (try simp only [List.map_toArray, List.map_cons, List.map_nil]); first | done | rfl | (simp only [List.length_drop, List.length_take]; rfl)) ?_
                      with_reducible refine (impl_in.calls ((rd_T51 l0_0 x8_1).f0) 0 99 true _ A7.out).mono ?_
                      rintro e w' ⟨rfl, ⟨nd, rfl⟩⟩
                      refine ⟨_, rfl, ?_⟩
                      refine hK.out _ _ ⟨(kc BK180.out 0).trans rfl, (kc BK180.out 1).trans rfl, (kc BK180.out 2).trans rfl, (kc BK180.out 3).trans rfl⟩ (fun hHeld => ?_)
                      clear hK K
                      refine norm_ (a' := ?_) ?_ ?_
                      rotate_left
                      · show Act.put _ (some 15) _ = _
                        simp only [Act.put, sA, sZ, sS, i64_w, i32_w]
                        rfl
                      refine puY (v := ?_) (a' := ?_) 3 16 (mB 43 0xf) rfl rfl HT_.out (by kernel_rfl) (fun _ _ _ h => h) (by rfl) ?_ ?_ ?_; rotate_left; (focus intro w'; go_simp; with_reducible rfl); rotate_left; (focus simp only [Act.put, sA, sZ, sS, i64_w, i32_w]; rfl); refine puY (v := ?_) (a' := ?_) 4 17 (mB 43 0x1f) rfl rfl HT_.out (by kernel_rfl) (fun _ _ _ h => h) (by rfl) ?_ ?_ ?_; rotate_left; (focus intro w'; go_simp; with_reducible rfl); rotate_left; (focus simp only [Act.put, sA, sZ, sS, i64_w, i32_w]; rfl); refine puY (v := ?_) (a' := ?_) 5 18 (mB 43 0x3f) rfl rfl HT_.out (by kernel_rfl) (fun _ _ _ h => h) (by rfl) ?_ ?_ ?_; rotate_left; (focus intro w'; go_simp; with_reducible rfl); rotate_left; (focus simp only [Act.put, sA, sZ, sS, i64_w, i32_w]; rfl)
                      refine take_ (i := 6) (N := some 19) (v := ?_) (a' := ?_) (mB 43 0x7f) rfl rfl (take_ofW HT_.out HW_.out (by kernel_rfl)) (fun _ _ _ h => h) (Or.inl ⟨by rfl, ?_⟩) hHeld ?_ ?_
                      rotate_left
                      · rintro w' ⟨s0, s1, s2, s3⟩; go_simp; with_reducible rfl
                      rotate_left
                      · simp only [Act.put, sA, sZ, sS, i64_w, i32_w]; rfl
                      refine one_ (i := 7) (N := some 20) (mB 43 0xff) rfl rfl (one_of HT_.out (by kernel_rfl)) (by decide) (fun K hK => ?_)
                      refine goes_ Try.func21 (by kernel_rfl) rfl #[.int .i64 ((rd_T51 l0_0 x8_1).f1), .int .i64 1, .int .i64 6] (by rfl) rfl rfl (by (try simp only [List.map_toArray, List.map_cons, List.map_nil]); first | done | rfl | (simp only [List.length_drop, List.length_take]; rfl)) ?_
                      with_reducible refine (impl_in.calls ((rd_T51 l0_0 x8_1).f1) 1 6 true _ A9.out).mono ?_
                      rintro e w' ⟨rfl, ⟨nd, rfl⟩⟩
                      refine ⟨_, rfl, ?_⟩
                      refine hK.out _ _ ⟨(kc BK180.out 0).trans rfl, (kc BK180.out 1).trans rfl, (kc BK180.out 2).trans rfl, (kc BK180.out 3).trans rfl⟩ (fun hHeld => ?_)
                      clear hK K
                      refine norm_ (a' := ?_) ?_ ?_
                      rotate_left
                      · show Act.put _ (some 20) _ = _
                        simp only [Act.put, sA, sZ, sS, i64_w, i32_w]
                        rfl
                      refine puY (v := ?_) (a' := ?_) 8 21 (mB 43 0x1ff) rfl rfl HT_.out (by kernel_rfl) (fun _ _ _ h => h) (by rfl) ?_ ?_ ?_; rotate_left; (focus intro w'; go_simp; with_reducible rfl); rotate_left; (focus simp only [Act.put, sA, sZ, sS, i64_w, i32_w]; rfl); refine puY (v := ?_) (a' := ?_) 9 22 (mB 43 0x3ff) rfl rfl HT_.out (by kernel_rfl) (fun _ _ _ h => h) (by rfl) ?_ ?_ ?_; rotate_left; (focus intro w'; go_simp; with_reducible rfl); rotate_left; (focus simp only [Act.put, sA, sZ, sS, i64_w, i32_w]; rfl); refine puY (v := ?_) (a' := ?_) 10 23 (mB 43 0x7ff) rfl rfl HT_.out (by kernel_rfl) (fun _ _ _ h => h) (by rfl) ?_ ?_ ?_; rotate_left; (focus intro w'; go_simp; with_reducible rfl); rotate_left; (focus simp only [Act.put, sA, sZ, sS, i64_w, i32_w]; rfl); refine puY (v := ?_) (a' := ?_) 11 24 (mB 43 0xfff) rfl rfl HT_.out (by kernel_rfl) (fun _ _ _ h => h) (by rfl) ?_ ?_ ?_; rotate_left; (focus intro w'; go_simp; with_reducible rfl); rotate_left; (focus simp only [Act.put, sA, sZ, sS, i64_w, i32_w]; rfl)
                      refine take_ (i := 12) (N := some 25) (v := ?_) (a' := ?_) (mB 43 0x1fff) rfl rfl (take_ofW HT_.out HW_.out (by kernel_rfl)) (fun _ _ _ h => h) (Or.inl ⟨by rfl, ?_⟩) hHeld ?_ ?_
                      rotate_left
                      · rintro w' ⟨s0, s1, s2, s3⟩; go_simp; with_reducible rfl
                      rotate_left
                      · simp only [Act.put, sA, sZ, sS, i64_w, i32_w]; rfl
                      refine one_ (i := 13) (N := some 26) (mB 43 0x3fff) rfl rfl (one_of HT_.out (by kernel_rfl)) (by decide) (fun K hK => ?_)
                      refine goes_ Try.func21 (by kernel_rfl) rfl #[.int .i64 ((rd_T51 l0_0 x8_1).f2), .int .i64 0, .int .i64 1000000] (by rfl) rfl rfl (by (try simp only [List.map_toArray, List.map_cons, List.map_nil]); first | done | rfl | (simp only [List.length_drop, List.length_take]; rfl)) ?_
                      with_reducible refine (impl_in.calls ((rd_T51 l0_0 x8_1).f2) 0 1000000 true _ A11.out).mono ?_
                      rintro e w' ⟨rfl, ⟨nd, rfl⟩⟩
                      refine ⟨_, rfl, ?_⟩
                      refine hK.out _ _ ⟨(kc BK180.out 0).trans rfl, (kc BK180.out 1).trans rfl, (kc BK180.out 2).trans rfl, (kc BK180.out 3).trans rfl⟩ (fun hHeld => ?_)
                      clear hK K
                      refine norm_ (a' := ?_) ?_ ?_
                      rotate_left
                      · show Act.put _ (some 26) _ = _
                        simp only [Act.put, sA, sZ, sS, i64_w, i32_w]
                        rfl
                      refine puY (v := ?_) (a' := ?_) 14 27 (mB 43 0x7fff) rfl rfl HT_.out (by kernel_rfl) (fun _ _ _ h => h) (by rfl) ?_ ?_ ?_; rotate_left; (focus intro w'; go_simp; with_reducible rfl); rotate_left; (focus simp only [Act.put, sA, sZ, sS, i64_w, i32_w]; rfl); refine puY (v := ?_) (a' := ?_) 15 28 (mB 43 0xffff) rfl rfl HT_.out (by kernel_rfl) (fun _ _ _ h => h) (by rfl) ?_ ?_ ?_; rotate_left; (focus intro w'; go_simp; with_reducible rfl); rotate_left; (focus simp only [Act.put, sA, sZ, sS, i64_w, i32_w]; rfl); refine puY (v := ?_) (a' := ?_) 16 29 (mB 43 0x1ffff) rfl rfl HT_.out (by kernel_rfl) (fun _ _ _ h => h) (by rfl) ?_ ?_ ?_; rotate_left; (focus intro w'; go_simp; with_reducible rfl); rotate_left; (focus simp only [Act.put, sA, sZ, sS, i64_w, i32_w]; rfl); refine puY (v := ?_) (a' := ?_) 17 30 (mB 43 0x3ffff) rfl rfl HT_.out (by kernel_rfl) (fun _ _ _ h => h) (by rfl) ?_ ?_ ?_; rotate_left; (focus intro w'; go_simp; with_reducible rfl); rotate_left; (focus simp only [Act.put, sA, sZ, sS, i64_w, i32_w]; rfl)
                      refine take_ (i := 18) (N := some 31) (v := ?_) (a' := ?_) (mB 43 0x7ffff) rfl rfl (take_ofW HT_.out HW_.out (by kernel_rfl)) (fun _ _ _ h => h) (Or.inl ⟨by rfl, ?_⟩) hHeld ?_ ?_
                      rotate_left
                      · rintro w' ⟨s0, s1, s2, s3⟩; go_simp; with_reducible rfl
                      rotate_left
                      · simp only [Act.put, sA, sZ, sS, i64_w, i32_w]; rfl
                      refine puY (v := ?_) (a' := ?_) 19 32 (mB 43 0xfffff) rfl rfl HT_.out (by kernel_rfl) (fun _ _ _ h => h) (by rfl) ?_ ?_ ?_; rotate_left; (focus intro w'; go_simp; with_reducible rfl); rotate_left; (focus simp only [Act.put, sA, sZ, sS, i64_w, i32_w]; rfl); refine puM 20 33 (mB 43 0x1fffff) rfl rfl HT_.out (by kernel_rfl) (fun _ _ _ h => h) (by rfl) ?_; refine puM 21 34 (mB 43 0x3fffff) rfl rfl HT_.out (by kernel_rfl) (fun _ _ _ h => h) (by rfl) ?_; refine puN (a' := ?_) 22 35 (mB 43 0x7fffff) rfl rfl HT_.out (by kernel_rfl) (fun _ _ _ h => h) (by rfl) ?_ ?_; rotate_left; (focus simp only [Act.put, sA, sZ, sS, i64_w, i32_w]; rfl); refine puM 23 36 (mB 43 0xffffff) rfl rfl HT_.out (by kernel_rfl) (fun _ _ _ h => h) (by rfl) ?_; refine puN (a' := ?_) 24 37 (mB 43 0x1ffffff) rfl rfl HT_.out (by kernel_rfl) (fun _ _ _ h => h) (by rfl) ?_ ?_; rotate_left; (focus simp only [Act.put, sA, sZ, sS, i64_w, i32_w]; rfl); refine puY (v := ?_) (a' := ?_) 25 38 (mB 43 0x3ffffff) rfl rfl HT_.out (by kernel_rfl) (fun _ _ _ h => h) (by rfl) ?_ ?_ ?_; rotate_left; (focus intro w'; go_simp; with_reducible rfl); rotate_left; (focus simp only [Act.put, sA, sZ, sS, i64_w, i32_w]; rfl); refine puY (v := ?_) (a' := ?_) 26 39 (mB 43 0x7ffffff) rfl rfl HT_.out (by kernel_rfl) (fun _ _ _ h => h) (by rfl) ?_ ?_ ?_; rotate_left; (focus intro w'; go_simp; with_reducible rfl); rotate_left; (focus simp only [Act.put, sA, sZ, sS, i64_w, i32_w]; rfl); refine puY (v := ?_) (a' := ?_) 27 40 (mB 43 0xfffffff) rfl rfl HT_.out (by kernel_rfl) (fun _ _ _ h => h) (by rfl) ?_ ?_ ?_; rotate_left; (focus intro w'; go_simp; with_reducible rfl); rotate_left; (focus simp only [Act.put, sA, sZ, sS, i64_w, i32_w]; rfl); refine puY (v := ?_) (a' := ?_) 28 41 (mB 43 0x1fffffff) rfl rfl HT_.out (by kernel_rfl) (fun _ _ _ h => h) (by rfl) ?_ ?_ ?_; rotate_left; (focus intro w'; go_simp; with_reducible rfl); rotate_left; (focus simp only [Act.put, sA, sZ, sS, i64_w, i32_w]; rfl); refine puY (v := ?_) (a' := ?_) 29 42 (mB 43 0x3fffffff) rfl rfl HT_.out (by kernel_rfl) (fun _ _ _ h => h) (by rfl) ?_ ?_ ?_; rotate_left; (focus intro w'; go_simp; with_reducible rfl); rotate_left; (focus simp only [Act.put, sA, sZ, sS, i64_w, i32_w]; rfl); refine puY (v := ?_) (a' := ?_) 30 43 (mB 43 0x7fffffff) rfl rfl HT_.out (by kernel_rfl) (fun _ _ _ h => h) (by rfl) ?_ ?_ ?_; rotate_left; (focus intro w'; go_simp; with_reducible rfl); rotate_left; (focus simp only [Act.put, sA, sZ, sS, i64_w, i32_w]; rfl); refine puM 31 44 (mB 43 0xffffffff) rfl rfl HT_.out (by kernel_rfl) (fun _ _ _ h => h) (by rfl) ?_; refine puM 32 45 (mB 43 0x1ffffffff) rfl rfl HT_.out (by kernel_rfl) (fun _ _ _ h => h) (by rfl) ?_; refine puN (a' := ?_) 33 46 (mB 43 0x3ffffffff) rfl rfl HT_.out (by kernel_rfl) (fun _ _ _ h => h) (by rfl) ?_ ?_; rotate_left; (focus simp only [Act.put, sA, sZ, sS, i64_w, i32_w]; rfl); refine puM 34 47 (mB 43 0x7ffffffff) rfl rfl HT_.out (by kernel_rfl) (fun _ _ _ h => h) (by rfl) ?_; refine puM 35 48 (mB 43 0xfffffffff) rfl rfl HT_.out (by kernel_rfl) (fun _ _ _ h => h) (by rfl) ?_; refine puN (a' := ?_) 36 49 (mB 43 0x1fffffffff) rfl rfl HT_.out (by kernel_rfl) (fun _ _ _ h => h) (by rfl) ?_ ?_; rotate_left; (focus simp only [Act.put, sA, sZ, sS, i64_w, i32_w]; rfl); refine puM 37 50 (mB 43 0x3fffffffff) rfl rfl HT_.out (by kernel_rfl) (fun _ _ _ h => h) (by rfl) ?_; refine puM 38 51 (mB 43 0x7fffffffff) rfl rfl HT_.out (by kernel_rfl) (fun _ _ _ h => h) (by rfl) ?_; refine puN (a' := ?_) 39 52 (mB 43 0xffffffffff) rfl rfl HT_.out (by kernel_rfl) (fun _ _ _ h => h) (by rfl) ?_ ?_; rotate_left; (focus simp only [Act.put, sA, sZ, sS, i64_w, i32_w]; rfl); refine puN (a' := ?_) 40 53 (mB 43 0x1ffffffffff) rfl rfl HT_.out (by kernel_rfl) (fun _ _ _ h => h) (by rfl) ?_ ?_; rotate_left; (focus simp only [Act.put, sA, sZ, sS, i64_w, i32_w]; rfl); refine puY (v := ?_) (a' := ?_) 41 54 (mB 43 0x3ffffffffff) rfl rfl HT_.out (by kernel_rfl) (fun _ _ _ h => h) (by rfl) ?_ ?_ ?_; rotate_left; (focus intro w'; go_simp; with_reducible rfl); rotate_left; (focus simp only [Act.put, sA, sZ, sS, i64_w, i32_w]; rfl); refine puY (v := ?_) (a' := ?_) 42 55 (mB 43 0x7ffffffffff) rfl rfl HT_.out (by kernel_rfl) (fun _ _ _ h => h) (by rfl) ?_ ?_ ?_; rotate_left; (focus intro w'; go_simp; with_reducible rfl); rotate_left; (focus simp only [Act.put, sA, sZ, sS, i64_w, i32_w]; rfl)
                      refine done_ (done_of HT_.out (by kernel_rfl)) ?_
                      try go_wp2
                      go_roundg k1
                      case measure => have := HK1.out; omega
                      case rel => exact ⟨(wrap64 (x8_1 + 1)), (by first | rfl | (simp; done) | (simp [*]; done)), H', ⟨by have := HK1.out; omega⟩, ⟨by (with_reducible repeat (first | refine kn ?_ _ | refine kd ?_ | refine ka ?_ _)); exact BK177.out⟩, ⟨by repeat (first | (with_reducible first | exact HB.out | apply ba | apply bn | apply bd | refine bs ?_ GE177.out | refine bs ?_ GE180.out) | exact HB.out)⟩⟩
                · replace c12 := Bool.eq_false_iff.mpr c12
                  subst c12
                  have H1 : (some false) = some r := by rw [if_neg (show ¬ (false = true) by decide)] at H; exact H
                  clear H
                  have H := H1
                  clear H1
                  obtain rfl := Option.some.inj H
                  have p179 : 0 ≤ (x8_1 : Int) := of_decide_eq_true (by first | (with_reducible assumption) | assumption)
                  have q179 : x8_1 < (l0_0.length : Int) := of_decide_eq_true (by first | (with_reducible assumption) | assumption)
                  obtain ⟨ad179, e179, hx179_0, hx179_1, hx179_2, hx179_3⟩ := at_T51 HR0_0.out x8_1 p179 q179
                  cases e179
                  replace hx179_0 := (HB.out.cell (World.block_lt_of_cell? w _ hx179_0)).trans hx179_0
                  replace hx179_1 := (HB.out.cell (World.block_lt_of_cell? w _ hx179_1)).trans hx179_1
                  replace hx179_2 := (HB.out.cell (World.block_lt_of_cell? w _ hx179_2)).trans hx179_2
                  replace hx179_3 := (HB.out.cell (World.block_lt_of_cell? w _ hx179_3)).trans hx179_3
                  replace p179 := eq_true p179
                  replace q179 := eq_true q179
                  try go_wp2_with (first | ((with_reducible refine gd (N := 4) rfl ?_); refine xe ?hg (N := 4) ?hd (cs := #[.int .i64 0, .int .i64 0, .int .i64 0, .bool false]) (t := 51) ?hr ?_; (case hd => rfl); (case hg => rfl); (case hr => first | (go_simp; done) | (go_simp; rfl)); intro gb180 hg w61 hbox hb; have n0_ := AM (kb (g := gb177) (o := .cells #[.slice (some ad179) l0_0.length c0_0, .int .i64 a0_1] 28 (0, 0)) (lfK BK177.out) hb); have n1_ := AM (bp (by repeat (first | (with_reducible first | exact HB.out | apply ba | apply bn | apply bd | refine bs ?_ GE177.out) | exact HB.out)) hb); have n2_ := AM (hbox); have n3_ := AM ((by rw [hg]; exact (bz (by repeat (first | (with_reducible first | exact HB.out | apply ba | apply bn | apply bd | refine bs ?_ GE177.out) | exact HB.out))) : w.heap.size ≤ gb180)); have n4_ := AM ((by rw [hg]; exact (bz (by repeat (first | (with_reducible first | exact HB.out | apply ba | apply bn | apply bd | refine bs ?_ GE177.out) | exact HB.out))) : w.heap.size ≤ gb180)); have n5_ := AM ((by rw [hg]; exact Nat.ne_of_lt (blk_lt (g := gb177) (o := .cells #[.slice (some ad179) l0_0.length c0_0, .int .i64 a0_1] 28 (0, 0)) (lfK BK177.out)) : gb177 ≠ gb180)); have n6_ := AM ((by rw [hg]; exact Nat.ne_of_gt (blk_lt (g := gb177) (o := .cells #[.slice (some ad179) l0_0.length c0_0, .int .i64 a0_1] 28 (0, 0)) (lfK BK177.out)) : gb180 ≠ gb177)); clear BK177 HB; revert n0_ n1_ n2_ n3_ n4_ n5_ n6_; intro BK177 HB BK180 GW180 GE180 NB177_180 NB180_177; clear hb hbox hg; have hnb62 := NB180_177.out; have hnc62 := NB177_180.out; have hcz63_0 : w61.cell? ⟨gb180, 0, none⟩ = some (.int .i64 0) := (kc BK180.out 0).trans rfl; have hcz63_1 : w61.cell? ⟨gb180, 1, none⟩ = some (.int .i64 0) := (kc BK180.out 1).trans rfl; have hcz63_2 : w61.cell? ⟨gb180, 2, none⟩ = some (.int .i64 0) := (kc BK180.out 2).trans rfl; have hcz63_3 : w61.cell? ⟨gb180, 3, none⟩ = some (.bool false) := (kc BK180.out 3).trans rfl; have hfz63_0 := kz BK180.out 0; have hfz63_1 := kz BK180.out 1; have hfz63_2 := kz BK180.out 2; have hfz63_3 := kz BK180.out 3))
                  have n0_ : Aside0 (((((w61.setCell ⟨gb180, 0, none⟩ (.int .i64 ((rd_T51 l0_0 x8_1).f0))).setCell ⟨gb180, 1, none⟩ (.int .i64 ((rd_T51 l0_0 x8_1).f1))).setCell ⟨gb180, 2, none⟩ (.int .i64 ((rd_T51 l0_0 x8_1).f2))).setCell ⟨gb180, 3, none⟩ (.bool ((rd_T51 l0_0 x8_1).f3))).heap[gb177]? = some (.cells #[.slice (some ad179) l0_0.length c0_0, .int .i64 a0_1] 28 (0, 0))) := ⟨by (with_reducible repeat (first | refine kn ?_ _ | refine kd ?_ | refine ka ?_ _)); refine kf ?_ NB177_180.out _; (with_reducible repeat (first | refine kn ?_ _ | refine kd ?_ | refine ka ?_ _)); refine kf ?_ NB177_180.out _; (with_reducible repeat (first | refine kn ?_ _ | refine kd ?_ | refine ka ?_ _)); refine kf ?_ NB177_180.out _; (with_reducible repeat (first | refine kn ?_ _ | refine kd ?_ | refine ka ?_ _)); refine kf ?_ NB177_180.out _; (with_reducible repeat (first | refine kn ?_ _ | refine kd ?_ | refine ka ?_ _)); exact BK177.out⟩
                  have n1_ : Aside0 (((((w61.setCell ⟨gb180, 0, none⟩ (.int .i64 ((rd_T51 l0_0 x8_1).f0))).setCell ⟨gb180, 1, none⟩ (.int .i64 ((rd_T51 l0_0 x8_1).f1))).setCell ⟨gb180, 2, none⟩ (.int .i64 ((rd_T51 l0_0 x8_1).f2))).setCell ⟨gb180, 3, none⟩ (.bool ((rd_T51 l0_0 x8_1).f3))).heap[gb180]? = some (.cells #[.int .i64 ((rd_T51 l0_0 x8_1).f0), .int .i64 ((rd_T51 l0_0 x8_1).f1), .int .i64 ((rd_T51 l0_0 x8_1).f2), .bool ((rd_T51 l0_0 x8_1).f3)] 51 (0, 0))) := ⟨by (with_reducible repeat (first | refine kn ?_ _ | refine kd ?_ | refine ka ?_ _)); refine blk_put (cs := #[.int .i64 ((rd_T51 l0_0 x8_1).f0), .int .i64 ((rd_T51 l0_0 x8_1).f1), .int .i64 ((rd_T51 l0_0 x8_1).f2), .bool false]) ?_ 3 _ rfl; (with_reducible repeat (first | refine kn ?_ _ | refine kd ?_ | refine ka ?_ _)); refine blk_put (cs := #[.int .i64 ((rd_T51 l0_0 x8_1).f0), .int .i64 ((rd_T51 l0_0 x8_1).f1), .int .i64 0, .bool false]) ?_ 2 _ rfl; (with_reducible repeat (first | refine kn ?_ _ | refine kd ?_ | refine ka ?_ _)); refine blk_put (cs := #[.int .i64 ((rd_T51 l0_0 x8_1).f0), .int .i64 0, .int .i64 0, .bool false]) ?_ 1 _ rfl; (with_reducible repeat (first | refine kn ?_ _ | refine kd ?_ | refine ka ?_ _)); refine blk_put (cs := #[.int .i64 0, .int .i64 0, .int .i64 0, .bool false]) ?_ 0 _ rfl; (with_reducible repeat (first | refine kn ?_ _ | refine kd ?_ | refine ka ?_ _)); exact BK180.out⟩
                  have n2_ : Aside0 (Below w.heap.size w ((((w61.setCell ⟨gb180, 0, none⟩ (.int .i64 ((rd_T51 l0_0 x8_1).f0))).setCell ⟨gb180, 1, none⟩ (.int .i64 ((rd_T51 l0_0 x8_1).f1))).setCell ⟨gb180, 2, none⟩ (.int .i64 ((rd_T51 l0_0 x8_1).f2))).setCell ⟨gb180, 3, none⟩ (.bool ((rd_T51 l0_0 x8_1).f3)))) := ⟨by repeat (first | (with_reducible first | exact HB.out | apply ba | apply bn | apply bd | refine bs ?_ GE177.out | refine bs ?_ GE180.out) | exact HB.out)⟩
                  (try clear BK177)
                  (try clear BK180)
                  (try clear HB)
                  generalize ((((w61.setCell ⟨gb180, 0, none⟩ (.int .i64 ((rd_T51 l0_0 x8_1).f0))).setCell ⟨gb180, 1, none⟩ (.int .i64 ((rd_T51 l0_0 x8_1).f1))).setCell ⟨gb180, 2, none⟩ (.int .i64 ((rd_T51 l0_0 x8_1).f2))).setCell ⟨gb180, 3, none⟩ (.bool ((rd_T51 l0_0 x8_1).f3))) = w64 at n0_ n1_ n2_ ⊢
                  revert n0_ n1_ n2_
                  intro BK177 BK180 HB
                  have n0_ := AM (kd BK177.out)
                  have n1_ := AM (kd BK180.out)
                  have n2_ := AM (bd HB.out)
                  clear BK177 BK180 HB
                  revert n0_ n1_ n2_
                  intro BK177 BK180 HB
                  refine start_ (n := 43) (S := fun w' => w'.cell? ⟨gb180, 0, none⟩ = some (.int .i64 ((rd_T51 l0_0 x8_1).f0)) ∧ w'.cell? ⟨gb180, 1, none⟩ = some (.int .i64 ((rd_T51 l0_0 x8_1).f1)) ∧ w'.cell? ⟨gb180, 2, none⟩ = some (.int .i64 ((rd_T51 l0_0 x8_1).f2)) ∧ w'.cell? ⟨gb180, 3, none⟩ = some (.bool ((rd_T51 l0_0 x8_1).f3))) (ds := []) (mB 43 0x0) (by kernel_rfl) rfl rfl ⟨(kc BK180.out 0).trans rfl, (kc BK180.out 1).trans rfl, (kc BK180.out 2).trans rfl, (kc BK180.out 3).trans rfl⟩ (fun hHeld => ?_); refine with_tabW impl_QueueOk.tab4 impl_QueueOk.bits4 (fun HT_ HW_ => ?_)
                  generalize w64.drew = w65 at BK177 BK180 HB hHeld ⊢
                  refine puY (v := ?_) (a' := ?_) 0 13 (mB 43 0x1) rfl rfl HT_.out (by kernel_rfl) (fun _ _ _ h => h) (by rfl) ?_ ?_ ?_; rotate_left; (focus intro w'; go_simp; with_reducible rfl); rotate_left; (focus simp only [Act.put, sA, sZ, sS, i64_w, i32_w]; rfl)
                  refine take_ (i := 1) (N := some 14) (v := ?_) (a' := ?_) (mB 43 0x3) rfl rfl (take_ofW HT_.out HW_.out (by kernel_rfl)) (fun _ _ _ h => h) (Or.inl ⟨by rfl, ?_⟩) hHeld ?_ ?_
                  rotate_left
                  · rintro w' ⟨s0, s1, s2, s3⟩; go_simp; with_reducible rfl
                  rotate_left
                  · simp only [Act.put, sA, sZ, sS, i64_w, i32_w]; rfl
                  refine one_ (i := 2) (N := some 15) (mB 43 0x7) rfl rfl (one_of HT_.out (by kernel_rfl)) (by decide) (fun K hK => ?_)
                  refine goes_ Try.func21 (by kernel_rfl) rfl #[.int .i64 ((rd_T51 l0_0 x8_1).f0), .int .i64 0, .int .i64 99] (by rfl) rfl rfl (by (try simp only [List.map_toArray, List.map_cons, List.map_nil]); first | done | rfl | (simp only [List.length_drop, List.length_take]; rfl)) ?_
                  with_reducible refine (impl_in.calls ((rd_T51 l0_0 x8_1).f0) 0 99 true _ A7.out).mono ?_
                  rintro e w' ⟨rfl, ⟨nd, rfl⟩⟩
                  refine ⟨_, rfl, ?_⟩
                  refine hK.out _ _ ⟨(kc BK180.out 0).trans rfl, (kc BK180.out 1).trans rfl, (kc BK180.out 2).trans rfl, (kc BK180.out 3).trans rfl⟩ (fun hHeld => ?_)
                  clear hK K
                  refine norm_ (a' := ?_) ?_ ?_
                  rotate_left
                  · show Act.put _ (some 15) _ = _
                    simp only [Act.put, sA, sZ, sS, i64_w, i32_w]
                    rfl
                  refine puY (v := ?_) (a' := ?_) 3 16 (mB 43 0xf) rfl rfl HT_.out (by kernel_rfl) (fun _ _ _ h => h) (by rfl) ?_ ?_ ?_; rotate_left; (focus intro w'; go_simp; with_reducible rfl); rotate_left; (focus simp only [Act.put, sA, sZ, sS, i64_w, i32_w]; rfl); refine puY (v := ?_) (a' := ?_) 4 17 (mB 43 0x1f) rfl rfl HT_.out (by kernel_rfl) (fun _ _ _ h => h) (by rfl) ?_ ?_ ?_; rotate_left; (focus intro w'; go_simp; with_reducible rfl); rotate_left; (focus simp only [Act.put, sA, sZ, sS, i64_w, i32_w]; rfl); refine puY (v := ?_) (a' := ?_) 5 18 (mB 43 0x3f) rfl rfl HT_.out (by kernel_rfl) (fun _ _ _ h => h) (by rfl) ?_ ?_ ?_; rotate_left; (focus intro w'; go_simp; with_reducible rfl); rotate_left; (focus simp only [Act.put, sA, sZ, sS, i64_w, i32_w]; rfl)
                  refine take_ (i := 6) (N := some 19) (v := ?_) (a' := ?_) (mB 43 0x7f) rfl rfl (take_ofW HT_.out HW_.out (by kernel_rfl)) (fun _ _ _ h => h) (Or.inl ⟨by rfl, ?_⟩) hHeld ?_ ?_
                  rotate_left
                  · rintro w' ⟨s0, s1, s2, s3⟩; go_simp; with_reducible rfl
                  rotate_left
                  · simp only [Act.put, sA, sZ, sS, i64_w, i32_w]; rfl
                  refine one_ (i := 7) (N := some 20) (mB 43 0xff) rfl rfl (one_of HT_.out (by kernel_rfl)) (by decide) (fun K hK => ?_)
                  refine goes_ Try.func21 (by kernel_rfl) rfl #[.int .i64 ((rd_T51 l0_0 x8_1).f1), .int .i64 1, .int .i64 6] (by rfl) rfl rfl (by (try simp only [List.map_toArray, List.map_cons, List.map_nil]); first | done | rfl | (simp only [List.length_drop, List.length_take]; rfl)) ?_
                  with_reducible refine (impl_in.calls ((rd_T51 l0_0 x8_1).f1) 1 6 true _ A9.out).mono ?_
                  rintro e w' ⟨rfl, ⟨nd, rfl⟩⟩
                  refine ⟨_, rfl, ?_⟩
                  refine hK.out _ _ ⟨(kc BK180.out 0).trans rfl, (kc BK180.out 1).trans rfl, (kc BK180.out 2).trans rfl, (kc BK180.out 3).trans rfl⟩ (fun hHeld => ?_)
                  clear hK K
                  refine norm_ (a' := ?_) ?_ ?_
                  rotate_left
                  · show Act.put _ (some 20) _ = _
                    simp only [Act.put, sA, sZ, sS, i64_w, i32_w]
                    rfl
                  refine puY (v := ?_) (a' := ?_) 8 21 (mB 43 0x1ff) rfl rfl HT_.out (by kernel_rfl) (fun _ _ _ h => h) (by rfl) ?_ ?_ ?_; rotate_left; (focus intro w'; go_simp; with_reducible rfl); rotate_left; (focus simp only [Act.put, sA, sZ, sS, i64_w, i32_w]; rfl); refine puY (v := ?_) (a' := ?_) 9 22 (mB 43 0x3ff) rfl rfl HT_.out (by kernel_rfl) (fun _ _ _ h => h) (by rfl) ?_ ?_ ?_; rotate_left; (focus intro w'; go_simp; with_reducible rfl); rotate_left; (focus simp only [Act.put, sA, sZ, sS, i64_w, i32_w]; rfl); refine puY (v := ?_) (a' := ?_) 10 23 (mB 43 0x7ff) rfl rfl HT_.out (by kernel_rfl) (fun _ _ _ h => h) (by rfl) ?_ ?_ ?_; rotate_left; (focus intro w'; go_simp; with_reducible rfl); rotate_left; (focus simp only [Act.put, sA, sZ, sS, i64_w, i32_w]; rfl); refine puY (v := ?_) (a' := ?_) 11 24 (mB 43 0xfff) rfl rfl HT_.out (by kernel_rfl) (fun _ _ _ h => h) (by rfl) ?_ ?_ ?_; rotate_left; (focus intro w'; go_simp; with_reducible rfl); rotate_left; (focus simp only [Act.put, sA, sZ, sS, i64_w, i32_w]; rfl)
                  refine take_ (i := 12) (N := some 25) (v := ?_) (a' := ?_) (mB 43 0x1fff) rfl rfl (take_ofW HT_.out HW_.out (by kernel_rfl)) (fun _ _ _ h => h) (Or.inl ⟨by rfl, ?_⟩) hHeld ?_ ?_
                  rotate_left
                  · rintro w' ⟨s0, s1, s2, s3⟩; go_simp; with_reducible rfl
                  rotate_left
                  · simp only [Act.put, sA, sZ, sS, i64_w, i32_w]; rfl
                  refine one_ (i := 13) (N := some 26) (mB 43 0x3fff) rfl rfl (one_of HT_.out (by kernel_rfl)) (by decide) (fun K hK => ?_)
                  refine goes_ Try.func21 (by kernel_rfl) rfl #[.int .i64 ((rd_T51 l0_0 x8_1).f2), .int .i64 0, .int .i64 1000000] (by rfl) rfl rfl (by (try simp only [List.map_toArray, List.map_cons, List.map_nil]); first | done | rfl | (simp only [List.length_drop, List.length_take]; rfl)) ?_
                  with_reducible refine (impl_in.calls ((rd_T51 l0_0 x8_1).f2) 0 1000000 false _ A11.out).mono ?_
                  rintro e w' ⟨rfl, ⟨nd, rfl⟩⟩
                  refine ⟨_, rfl, ?_⟩
                  refine hK.out _ _ ⟨(kc BK180.out 0).trans rfl, (kc BK180.out 1).trans rfl, (kc BK180.out 2).trans rfl, (kc BK180.out 3).trans rfl⟩ (fun hHeld => ?_)
                  clear hK K
                  refine norm_ (a' := ?_) ?_ ?_
                  rotate_left
                  · show Act.put _ (some 26) _ = _
                    simp only [Act.put, sA, sZ, sS, i64_w, i32_w]
                    rfl
                  refine puY (v := ?_) (a' := ?_) 14 27 (mB 43 0x7fff) rfl rfl HT_.out (by kernel_rfl) (fun _ _ _ h => h) (by rfl) ?_ ?_ ?_; rotate_left; (focus intro w'; go_simp; with_reducible rfl); rotate_left; (focus simp only [Act.put, sA, sZ, sS, i64_w, i32_w]; rfl); refine puY (v := ?_) (a' := ?_) 15 28 (mB 43 0xffff) rfl rfl HT_.out (by kernel_rfl) (fun _ _ _ h => h) (by rfl) ?_ ?_ ?_; rotate_left; (focus intro w'; go_simp; with_reducible rfl); rotate_left; (focus simp only [Act.put, sA, sZ, sS, i64_w, i32_w]; rfl); refine puY (v := ?_) (a' := ?_) 16 29 (mB 43 0x1ffff) rfl rfl HT_.out (by kernel_rfl) (fun _ _ _ h => h) (by rfl) ?_ ?_ ?_; rotate_left; (focus intro w'; go_simp; with_reducible rfl); rotate_left; (focus simp only [Act.put, sA, sZ, sS, i64_w, i32_w]; rfl); refine puM 17 30 (mB 43 0x3ffff) rfl rfl HT_.out (by kernel_rfl) (fun _ _ _ h => h) (by rfl) ?_; refine puM 18 31 (mB 43 0x7ffff) rfl rfl HT_.out (by kernel_rfl) (fun _ _ _ h => h) (by rfl) ?_; refine puN (a' := ?_) 19 32 (mB 43 0xfffff) rfl rfl HT_.out (by kernel_rfl) (fun _ _ _ h => h) (by rfl) ?_ ?_; rotate_left; (focus simp only [Act.put, sA, sZ, sS, i64_w, i32_w]; rfl); refine puM 20 33 (mB 43 0x1fffff) rfl rfl HT_.out (by kernel_rfl) (fun _ _ _ h => h) (by rfl) ?_; refine puM 21 34 (mB 43 0x3fffff) rfl rfl HT_.out (by kernel_rfl) (fun _ _ _ h => h) (by rfl) ?_; refine puN (a' := ?_) 22 35 (mB 43 0x7fffff) rfl rfl HT_.out (by kernel_rfl) (fun _ _ _ h => h) (by rfl) ?_ ?_; rotate_left; (focus simp only [Act.put, sA, sZ, sS, i64_w, i32_w]; rfl); refine puM 23 36 (mB 43 0xffffff) rfl rfl HT_.out (by kernel_rfl) (fun _ _ _ h => h) (by rfl) ?_; refine puM 24 37 (mB 43 0x1ffffff) rfl rfl HT_.out (by kernel_rfl) (fun _ _ _ h => h) (by rfl) ?_; refine puN (a' := ?_) 25 38 (mB 43 0x3ffffff) rfl rfl HT_.out (by kernel_rfl) (fun _ _ _ h => h) (by rfl) ?_ ?_; rotate_left; (focus simp only [Act.put, sA, sZ, sS, i64_w, i32_w]; rfl); refine puY (v := ?_) (a' := ?_) 26 39 (mB 43 0x7ffffff) rfl rfl HT_.out (by kernel_rfl) (fun _ _ _ h => h) (by rfl) ?_ ?_ ?_; rotate_left; (focus intro w'; go_simp; with_reducible rfl); rotate_left; (focus simp only [Act.put, sA, sZ, sS, i64_w, i32_w]; rfl); refine puY (v := ?_) (a' := ?_) 27 40 (mB 43 0xfffffff) rfl rfl HT_.out (by kernel_rfl) (fun _ _ _ h => h) (by rfl) ?_ ?_ ?_; rotate_left; (focus intro w'; go_simp; with_reducible rfl); rotate_left; (focus simp only [Act.put, sA, sZ, sS, i64_w, i32_w]; rfl); refine puM 28 41 (mB 43 0x1fffffff) rfl rfl HT_.out (by kernel_rfl) (fun _ _ _ h => h) (by rfl) ?_; refine puM 29 42 (mB 43 0x3fffffff) rfl rfl HT_.out (by kernel_rfl) (fun _ _ _ h => h) (by rfl) ?_; refine puN (a' := ?_) 30 43 (mB 43 0x7fffffff) rfl rfl HT_.out (by kernel_rfl) (fun _ _ _ h => h) (by rfl) ?_ ?_; rotate_left; (focus simp only [Act.put, sA, sZ, sS, i64_w, i32_w]; rfl); refine puM 31 44 (mB 43 0xffffffff) rfl rfl HT_.out (by kernel_rfl) (fun _ _ _ h => h) (by rfl) ?_; refine puM 32 45 (mB 43 0x1ffffffff) rfl rfl HT_.out (by kernel_rfl) (fun _ _ _ h => h) (by rfl) ?_; refine puN (a' := ?_) 33 46 (mB 43 0x3ffffffff) rfl rfl HT_.out (by kernel_rfl) (fun _ _ _ h => h) (by rfl) ?_ ?_; rotate_left; (focus simp only [Act.put, sA, sZ, sS, i64_w, i32_w]; rfl); refine puM 34 47 (mB 43 0x7ffffffff) rfl rfl HT_.out (by kernel_rfl) (fun _ _ _ h => h) (by rfl) ?_; refine puM 35 48 (mB 43 0xfffffffff) rfl rfl HT_.out (by kernel_rfl) (fun _ _ _ h => h) (by rfl) ?_; refine puN (a' := ?_) 36 49 (mB 43 0x1fffffffff) rfl rfl HT_.out (by kernel_rfl) (fun _ _ _ h => h) (by rfl) ?_ ?_; rotate_left; (focus simp only [Act.put, sA, sZ, sS, i64_w, i32_w]; rfl); refine puM 37 50 (mB 43 0x3fffffffff) rfl rfl HT_.out (by kernel_rfl) (fun _ _ _ h => h) (by rfl) ?_; refine puM 38 51 (mB 43 0x7fffffffff) rfl rfl HT_.out (by kernel_rfl) (fun _ _ _ h => h) (by rfl) ?_; refine puN (a' := ?_) 39 52 (mB 43 0xffffffffff) rfl rfl HT_.out (by kernel_rfl) (fun _ _ _ h => h) (by rfl) ?_ ?_; rotate_left; (focus simp only [Act.put, sA, sZ, sS, i64_w, i32_w]; rfl); refine puM 40 53 (mB 43 0x1ffffffffff) rfl rfl HT_.out (by kernel_rfl) (fun _ _ _ h => h) (by rfl) ?_; refine puN (a' := ?_) 41 54 (mB 43 0x3ffffffffff) rfl rfl HT_.out (by kernel_rfl) (fun _ _ _ h => h) (by rfl) ?_ ?_; rotate_left; (focus simp only [Act.put, sA, sZ, sS, i64_w, i32_w]; rfl); refine puY (v := ?_) (a' := ?_) 42 55 (mB 43 0x7ffffffffff) rfl rfl HT_.out (by kernel_rfl) (fun _ _ _ h => h) (by rfl) ?_ ?_ ?_; rotate_left; (focus intro w'; go_simp; with_reducible rfl); rotate_left; (focus simp only [Act.put, sA, sZ, sS, i64_w, i32_w]; rfl)
                  refine done_ (done_of HT_.out (by kernel_rfl)) ?_
                  try go_wp2
                  go_ret
                  exact ⟨by first | rfl | (simp [errW_none, errW_some] <;> rfl) | (simp [*, errW_none, errW_some] <;> rfl), by repeat (first | (with_reducible first | exact HB.out | apply ba | apply bn | apply bd | refine bs ?_ GE177.out | refine bs ?_ GE180.out) | exact HB.out)⟩
              · replace c10 := Bool.eq_false_iff.mpr c10
                subst c10
                have H1 : (some false) = some r := by rw [if_neg (show ¬ (false = true) by decide)] at H; exact H
                clear H
                have H := H1
                clear H1
                obtain rfl := Option.some.inj H
                have p179 : 0 ≤ (x8_1 : Int) := of_decide_eq_true (by first | (with_reducible assumption) | assumption)
                have q179 : x8_1 < (l0_0.length : Int) := of_decide_eq_true (by first | (with_reducible assumption) | assumption)
                obtain ⟨ad179, e179, hx179_0, hx179_1, hx179_2, hx179_3⟩ := at_T51 HR0_0.out x8_1 p179 q179
                cases e179
                replace hx179_0 := (HB.out.cell (World.block_lt_of_cell? w _ hx179_0)).trans hx179_0
                replace hx179_1 := (HB.out.cell (World.block_lt_of_cell? w _ hx179_1)).trans hx179_1
                replace hx179_2 := (HB.out.cell (World.block_lt_of_cell? w _ hx179_2)).trans hx179_2
                replace hx179_3 := (HB.out.cell (World.block_lt_of_cell? w _ hx179_3)).trans hx179_3
                replace p179 := eq_true p179
                replace q179 := eq_true q179
                try go_wp2_with (first | ((with_reducible refine gd (N := 4) rfl ?_); refine xe ?hg (N := 4) ?hd (cs := #[.int .i64 0, .int .i64 0, .int .i64 0, .bool false]) (t := 51) ?hr ?_; (case hd => rfl); (case hg => rfl); (case hr => first | (go_simp; done) | (go_simp; rfl)); intro gb180 hg w66 hbox hb; have n0_ := AM (kb (g := gb177) (o := .cells #[.slice (some ad179) l0_0.length c0_0, .int .i64 a0_1] 28 (0, 0)) (lfK BK177.out) hb); have n1_ := AM (bp (by repeat (first | (with_reducible first | exact HB.out | apply ba | apply bn | apply bd | refine bs ?_ GE177.out) | exact HB.out)) hb); have n2_ := AM (hbox); have n3_ := AM ((by rw [hg]; exact (bz (by repeat (first | (with_reducible first | exact HB.out | apply ba | apply bn | apply bd | refine bs ?_ GE177.out) | exact HB.out))) : w.heap.size ≤ gb180)); have n4_ := AM ((by rw [hg]; exact (bz (by repeat (first | (with_reducible first | exact HB.out | apply ba | apply bn | apply bd | refine bs ?_ GE177.out) | exact HB.out))) : w.heap.size ≤ gb180)); have n5_ := AM ((by rw [hg]; exact Nat.ne_of_lt (blk_lt (g := gb177) (o := .cells #[.slice (some ad179) l0_0.length c0_0, .int .i64 a0_1] 28 (0, 0)) (lfK BK177.out)) : gb177 ≠ gb180)); have n6_ := AM ((by rw [hg]; exact Nat.ne_of_gt (blk_lt (g := gb177) (o := .cells #[.slice (some ad179) l0_0.length c0_0, .int .i64 a0_1] 28 (0, 0)) (lfK BK177.out)) : gb180 ≠ gb177)); clear BK177 HB; revert n0_ n1_ n2_ n3_ n4_ n5_ n6_; intro BK177 HB BK180 GW180 GE180 NB177_180 NB180_177; clear hb hbox hg; have hnb67 := NB180_177.out; have hnc67 := NB177_180.out; have hcz68_0 : w66.cell? ⟨gb180, 0, none⟩ = some (.int .i64 0) := (kc BK180.out 0).trans rfl; have hcz68_1 : w66.cell? ⟨gb180, 1, none⟩ = some (.int .i64 0) := (kc BK180.out 1).trans rfl; have hcz68_2 : w66.cell? ⟨gb180, 2, none⟩ = some (.int .i64 0) := (kc BK180.out 2).trans rfl; have hcz68_3 : w66.cell? ⟨gb180, 3, none⟩ = some (.bool false) := (kc BK180.out 3).trans rfl; have hfz68_0 := kz BK180.out 0; have hfz68_1 := kz BK180.out 1; have hfz68_2 := kz BK180.out 2; have hfz68_3 := kz BK180.out 3))
                have n0_ : Aside0 (((((w66.setCell ⟨gb180, 0, none⟩ (.int .i64 ((rd_T51 l0_0 x8_1).f0))).setCell ⟨gb180, 1, none⟩ (.int .i64 ((rd_T51 l0_0 x8_1).f1))).setCell ⟨gb180, 2, none⟩ (.int .i64 ((rd_T51 l0_0 x8_1).f2))).setCell ⟨gb180, 3, none⟩ (.bool ((rd_T51 l0_0 x8_1).f3))).heap[gb177]? = some (.cells #[.slice (some ad179) l0_0.length c0_0, .int .i64 a0_1] 28 (0, 0))) := ⟨by (with_reducible repeat (first | refine kn ?_ _ | refine kd ?_ | refine ka ?_ _)); refine kf ?_ NB177_180.out _; (with_reducible repeat (first | refine kn ?_ _ | refine kd ?_ | refine ka ?_ _)); refine kf ?_ NB177_180.out _; (with_reducible repeat (first | refine kn ?_ _ | refine kd ?_ | refine ka ?_ _)); refine kf ?_ NB177_180.out _; (with_reducible repeat (first | refine kn ?_ _ | refine kd ?_ | refine ka ?_ _)); refine kf ?_ NB177_180.out _; (with_reducible repeat (first | refine kn ?_ _ | refine kd ?_ | refine ka ?_ _)); exact BK177.out⟩
                have n1_ : Aside0 (((((w66.setCell ⟨gb180, 0, none⟩ (.int .i64 ((rd_T51 l0_0 x8_1).f0))).setCell ⟨gb180, 1, none⟩ (.int .i64 ((rd_T51 l0_0 x8_1).f1))).setCell ⟨gb180, 2, none⟩ (.int .i64 ((rd_T51 l0_0 x8_1).f2))).setCell ⟨gb180, 3, none⟩ (.bool ((rd_T51 l0_0 x8_1).f3))).heap[gb180]? = some (.cells #[.int .i64 ((rd_T51 l0_0 x8_1).f0), .int .i64 ((rd_T51 l0_0 x8_1).f1), .int .i64 ((rd_T51 l0_0 x8_1).f2), .bool ((rd_T51 l0_0 x8_1).f3)] 51 (0, 0))) := ⟨by (with_reducible repeat (first | refine kn ?_ _ | refine kd ?_ | refine ka ?_ _)); refine blk_put (cs := #[.int .i64 ((rd_T51 l0_0 x8_1).f0), .int .i64 ((rd_T51 l0_0 x8_1).f1), .int .i64 ((rd_T51 l0_0 x8_1).f2), .bool false]) ?_ 3 _ rfl; (with_reducible repeat (first | refine kn ?_ _ | refine kd ?_ | refine ka ?_ _)); refine blk_put (cs := #[.int .i64 ((rd_T51 l0_0 x8_1).f0), .int .i64 ((rd_T51 l0_0 x8_1).f1), .int .i64 0, .bool false]) ?_ 2 _ rfl; (with_reducible repeat (first | refine kn ?_ _ | refine kd ?_ | refine ka ?_ _)); refine blk_put (cs := #[.int .i64 ((rd_T51 l0_0 x8_1).f0), .int .i64 0, .int .i64 0, .bool false]) ?_ 1 _ rfl; (with_reducible repeat (first | refine kn ?_ _ | refine kd ?_ | refine ka ?_ _)); refine blk_put (cs := #[.int .i64 0, .int .i64 0, .int .i64 0, .bool false]) ?_ 0 _ rfl; (with_reducible repeat (first | refine kn ?_ _ | refine kd ?_ | refine ka ?_ _)); exact BK180.out⟩
                have n2_ : Aside0 (Below w.heap.size w ((((w66.setCell ⟨gb180, 0, none⟩ (.int .i64 ((rd_T51 l0_0 x8_1).f0))).setCell ⟨gb180, 1, none⟩ (.int .i64 ((rd_T51 l0_0 x8_1).f1))).setCell ⟨gb180, 2, none⟩ (.int .i64 ((rd_T51 l0_0 x8_1).f2))).setCell ⟨gb180, 3, none⟩ (.bool ((rd_T51 l0_0 x8_1).f3)))) := ⟨by repeat (first | (with_reducible first | exact HB.out | apply ba | apply bn | apply bd | refine bs ?_ GE177.out | refine bs ?_ GE180.out) | exact HB.out)⟩
                (try clear BK177)
                (try clear BK180)
                (try clear HB)
                generalize ((((w66.setCell ⟨gb180, 0, none⟩ (.int .i64 ((rd_T51 l0_0 x8_1).f0))).setCell ⟨gb180, 1, none⟩ (.int .i64 ((rd_T51 l0_0 x8_1).f1))).setCell ⟨gb180, 2, none⟩ (.int .i64 ((rd_T51 l0_0 x8_1).f2))).setCell ⟨gb180, 3, none⟩ (.bool ((rd_T51 l0_0 x8_1).f3))) = w69 at n0_ n1_ n2_ ⊢
                revert n0_ n1_ n2_
                intro BK177 BK180 HB
                have n0_ := AM (kd BK177.out)
                have n1_ := AM (kd BK180.out)
                have n2_ := AM (bd HB.out)
                clear BK177 BK180 HB
                revert n0_ n1_ n2_
                intro BK177 BK180 HB
                refine start_ (n := 43) (S := fun w' => w'.cell? ⟨gb180, 0, none⟩ = some (.int .i64 ((rd_T51 l0_0 x8_1).f0)) ∧ w'.cell? ⟨gb180, 1, none⟩ = some (.int .i64 ((rd_T51 l0_0 x8_1).f1)) ∧ w'.cell? ⟨gb180, 2, none⟩ = some (.int .i64 ((rd_T51 l0_0 x8_1).f2)) ∧ w'.cell? ⟨gb180, 3, none⟩ = some (.bool ((rd_T51 l0_0 x8_1).f3))) (ds := []) (mB 43 0x0) (by kernel_rfl) rfl rfl ⟨(kc BK180.out 0).trans rfl, (kc BK180.out 1).trans rfl, (kc BK180.out 2).trans rfl, (kc BK180.out 3).trans rfl⟩ (fun hHeld => ?_); refine with_tabW impl_QueueOk.tab4 impl_QueueOk.bits4 (fun HT_ HW_ => ?_)
                generalize w69.drew = w70 at BK177 BK180 HB hHeld ⊢
                refine puY (v := ?_) (a' := ?_) 0 13 (mB 43 0x1) rfl rfl HT_.out (by kernel_rfl) (fun _ _ _ h => h) (by rfl) ?_ ?_ ?_; rotate_left; (focus intro w'; go_simp; with_reducible rfl); rotate_left; (focus simp only [Act.put, sA, sZ, sS, i64_w, i32_w]; rfl)
                refine take_ (i := 1) (N := some 14) (v := ?_) (a' := ?_) (mB 43 0x3) rfl rfl (take_ofW HT_.out HW_.out (by kernel_rfl)) (fun _ _ _ h => h) (Or.inl ⟨by rfl, ?_⟩) hHeld ?_ ?_
                rotate_left
                · rintro w' ⟨s0, s1, s2, s3⟩; go_simp; with_reducible rfl
                rotate_left
                · simp only [Act.put, sA, sZ, sS, i64_w, i32_w]; rfl
                refine one_ (i := 2) (N := some 15) (mB 43 0x7) rfl rfl (one_of HT_.out (by kernel_rfl)) (by decide) (fun K hK => ?_)
                refine goes_ Try.func21 (by kernel_rfl) rfl #[.int .i64 ((rd_T51 l0_0 x8_1).f0), .int .i64 0, .int .i64 99] (by rfl) rfl rfl (by (try simp only [List.map_toArray, List.map_cons, List.map_nil]); first | done | rfl | (simp only [List.length_drop, List.length_take]; rfl)) ?_
                with_reducible refine (impl_in.calls ((rd_T51 l0_0 x8_1).f0) 0 99 true _ A7.out).mono ?_
                rintro e w' ⟨rfl, ⟨nd, rfl⟩⟩
                refine ⟨_, rfl, ?_⟩
                refine hK.out _ _ ⟨(kc BK180.out 0).trans rfl, (kc BK180.out 1).trans rfl, (kc BK180.out 2).trans rfl, (kc BK180.out 3).trans rfl⟩ (fun hHeld => ?_)
                clear hK K
                refine norm_ (a' := ?_) ?_ ?_
                rotate_left
                · show Act.put _ (some 15) _ = _
                  simp only [Act.put, sA, sZ, sS, i64_w, i32_w]
                  rfl
                refine puY (v := ?_) (a' := ?_) 3 16 (mB 43 0xf) rfl rfl HT_.out (by kernel_rfl) (fun _ _ _ h => h) (by rfl) ?_ ?_ ?_; rotate_left; (focus intro w'; go_simp; with_reducible rfl); rotate_left; (focus simp only [Act.put, sA, sZ, sS, i64_w, i32_w]; rfl); refine puY (v := ?_) (a' := ?_) 4 17 (mB 43 0x1f) rfl rfl HT_.out (by kernel_rfl) (fun _ _ _ h => h) (by rfl) ?_ ?_ ?_; rotate_left; (focus intro w'; go_simp; with_reducible rfl); rotate_left; (focus simp only [Act.put, sA, sZ, sS, i64_w, i32_w]; rfl); refine puY (v := ?_) (a' := ?_) 5 18 (mB 43 0x3f) rfl rfl HT_.out (by kernel_rfl) (fun _ _ _ h => h) (by rfl) ?_ ?_ ?_; rotate_left; (focus intro w'; go_simp; with_reducible rfl); rotate_left; (focus simp only [Act.put, sA, sZ, sS, i64_w, i32_w]; rfl)
                refine take_ (i := 6) (N := some 19) (v := ?_) (a' := ?_) (mB 43 0x7f) rfl rfl (take_ofW HT_.out HW_.out (by kernel_rfl)) (fun _ _ _ h => h) (Or.inl ⟨by rfl, ?_⟩) hHeld ?_ ?_
                rotate_left
                · rintro w' ⟨s0, s1, s2, s3⟩; go_simp; with_reducible rfl
                rotate_left
                · simp only [Act.put, sA, sZ, sS, i64_w, i32_w]; rfl
                refine one_ (i := 7) (N := some 20) (mB 43 0xff) rfl rfl (one_of HT_.out (by kernel_rfl)) (by decide) (fun K hK => ?_)
                refine goes_ Try.func21 (by kernel_rfl) rfl #[.int .i64 ((rd_T51 l0_0 x8_1).f1), .int .i64 1, .int .i64 6] (by rfl) rfl rfl (by (try simp only [List.map_toArray, List.map_cons, List.map_nil]); first | done | rfl | (simp only [List.length_drop, List.length_take]; rfl)) ?_
                with_reducible refine (impl_in.calls ((rd_T51 l0_0 x8_1).f1) 1 6 false _ A9.out).mono ?_
                rintro e w' ⟨rfl, ⟨nd, rfl⟩⟩
                refine ⟨_, rfl, ?_⟩
                refine hK.out _ _ ⟨(kc BK180.out 0).trans rfl, (kc BK180.out 1).trans rfl, (kc BK180.out 2).trans rfl, (kc BK180.out 3).trans rfl⟩ (fun hHeld => ?_)
                clear hK K
                refine norm_ (a' := ?_) ?_ ?_
                rotate_left
                · show Act.put _ (some 20) _ = _
                  simp only [Act.put, sA, sZ, sS, i64_w, i32_w]
                  rfl
                refine puY (v := ?_) (a' := ?_) 8 21 (mB 43 0x1ff) rfl rfl HT_.out (by kernel_rfl) (fun _ _ _ h => h) (by rfl) ?_ ?_ ?_; rotate_left; (focus intro w'; go_simp; with_reducible rfl); rotate_left; (focus simp only [Act.put, sA, sZ, sS, i64_w, i32_w]; rfl); refine puY (v := ?_) (a' := ?_) 9 22 (mB 43 0x3ff) rfl rfl HT_.out (by kernel_rfl) (fun _ _ _ h => h) (by rfl) ?_ ?_ ?_; rotate_left; (focus intro w'; go_simp; with_reducible rfl); rotate_left; (focus simp only [Act.put, sA, sZ, sS, i64_w, i32_w]; rfl); refine puY (v := ?_) (a' := ?_) 10 23 (mB 43 0x7ff) rfl rfl HT_.out (by kernel_rfl) (fun _ _ _ h => h) (by rfl) ?_ ?_ ?_; rotate_left; (focus intro w'; go_simp; with_reducible rfl); rotate_left; (focus simp only [Act.put, sA, sZ, sS, i64_w, i32_w]; rfl); refine puM 11 24 (mB 43 0xfff) rfl rfl HT_.out (by kernel_rfl) (fun _ _ _ h => h) (by rfl) ?_; refine puM 12 25 (mB 43 0x1fff) rfl rfl HT_.out (by kernel_rfl) (fun _ _ _ h => h) (by rfl) ?_; refine puN (a' := ?_) 13 26 (mB 43 0x3fff) rfl rfl HT_.out (by kernel_rfl) (fun _ _ _ h => h) (by rfl) ?_ ?_; rotate_left; (focus simp only [Act.put, sA, sZ, sS, i64_w, i32_w]; rfl); refine puN (a' := ?_) 14 27 (mB 43 0x7fff) rfl rfl HT_.out (by kernel_rfl) (fun _ _ _ h => h) (by rfl) ?_ ?_; rotate_left; (focus simp only [Act.put, sA, sZ, sS, i64_w, i32_w]; rfl); refine puY (v := ?_) (a' := ?_) 15 28 (mB 43 0xffff) rfl rfl HT_.out (by kernel_rfl) (fun _ _ _ h => h) (by rfl) ?_ ?_ ?_; rotate_left; (focus intro w'; go_simp; with_reducible rfl); rotate_left; (focus simp only [Act.put, sA, sZ, sS, i64_w, i32_w]; rfl); refine puY (v := ?_) (a' := ?_) 16 29 (mB 43 0x1ffff) rfl rfl HT_.out (by kernel_rfl) (fun _ _ _ h => h) (by rfl) ?_ ?_ ?_; rotate_left; (focus intro w'; go_simp; with_reducible rfl); rotate_left; (focus simp only [Act.put, sA, sZ, sS, i64_w, i32_w]; rfl); refine puM 17 30 (mB 43 0x3ffff) rfl rfl HT_.out (by kernel_rfl) (fun _ _ _ h => h) (by rfl) ?_; refine puM 18 31 (mB 43 0x7ffff) rfl rfl HT_.out (by kernel_rfl) (fun _ _ _ h => h) (by rfl) ?_; refine puN (a' := ?_) 19 32 (mB 43 0xfffff) rfl rfl HT_.out (by kernel_rfl) (fun _ _ _ h => h) (by rfl) ?_ ?_; rotate_left; (focus simp only [Act.put, sA, sZ, sS, i64_w, i32_w]; rfl); refine puM 20 33 (mB 43 0x1fffff) rfl rfl HT_.out (by kernel_rfl) (fun _ _ _ h => h) (by rfl) ?_; refine puM 21 34 (mB 43 0x3fffff) rfl rfl HT_.out (by kernel_rfl) (fun _ _ _ h => h) (by rfl) ?_; refine puN (a' := ?_) 22 35 (mB 43 0x7fffff) rfl rfl HT_.out (by kernel_rfl) (fun _ _ _ h => h) (by rfl) ?_ ?_; rotate_left; (focus simp only [Act.put, sA, sZ, sS, i64_w, i32_w]; rfl); refine puM 23 36 (mB 43 0xffffff) rfl rfl HT_.out (by kernel_rfl) (fun _ _ _ h => h) (by rfl) ?_; refine puM 24 37 (mB 43 0x1ffffff) rfl rfl HT_.out (by kernel_rfl) (fun _ _ _ h => h) (by rfl) ?_; refine puN (a' := ?_) 25 38 (mB 43 0x3ffffff) rfl rfl HT_.out (by kernel_rfl) (fun _ _ _ h => h) (by rfl) ?_ ?_; rotate_left; (focus simp only [Act.put, sA, sZ, sS, i64_w, i32_w]; rfl); refine puY (v := ?_) (a' := ?_) 26 39 (mB 43 0x7ffffff) rfl rfl HT_.out (by kernel_rfl) (fun _ _ _ h => h) (by rfl) ?_ ?_ ?_; rotate_left; (focus intro w'; go_simp; with_reducible rfl); rotate_left; (focus simp only [Act.put, sA, sZ, sS, i64_w, i32_w]; rfl); refine puY (v := ?_) (a' := ?_) 27 40 (mB 43 0xfffffff) rfl rfl HT_.out (by kernel_rfl) (fun _ _ _ h => h) (by rfl) ?_ ?_ ?_; rotate_left; (focus intro w'; go_simp; with_reducible rfl); rotate_left; (focus simp only [Act.put, sA, sZ, sS, i64_w, i32_w]; rfl); refine puM 28 41 (mB 43 0x1fffffff) rfl rfl HT_.out (by kernel_rfl) (fun _ _ _ h => h) (by rfl) ?_; refine puM 29 42 (mB 43 0x3fffffff) rfl rfl HT_.out (by kernel_rfl) (fun _ _ _ h => h) (by rfl) ?_; refine puN (a' := ?_) 30 43 (mB 43 0x7fffffff) rfl rfl HT_.out (by kernel_rfl) (fun _ _ _ h => h) (by rfl) ?_ ?_; rotate_left; (focus simp only [Act.put, sA, sZ, sS, i64_w, i32_w]; rfl); refine puM 31 44 (mB 43 0xffffffff) rfl rfl HT_.out (by kernel_rfl) (fun _ _ _ h => h) (by rfl) ?_; refine puM 32 45 (mB 43 0x1ffffffff) rfl rfl HT_.out (by kernel_rfl) (fun _ _ _ h => h) (by rfl) ?_; refine puN (a' := ?_) 33 46 (mB 43 0x3ffffffff) rfl rfl HT_.out (by kernel_rfl) (fun _ _ _ h => h) (by rfl) ?_ ?_; rotate_left; (focus simp only [Act.put, sA, sZ, sS, i64_w, i32_w]; rfl); refine puM 34 47 (mB 43 0x7ffffffff) rfl rfl HT_.out (by kernel_rfl) (fun _ _ _ h => h) (by rfl) ?_; refine puM 35 48 (mB 43 0xfffffffff) rfl rfl HT_.out (by kernel_rfl) (fun _ _ _ h => h) (by rfl) ?_; refine puN (a' := ?_) 36 49 (mB 43 0x1fffffffff) rfl rfl HT_.out (by kernel_rfl) (fun _ _ _ h => h) (by rfl) ?_ ?_; rotate_left; (focus simp only [Act.put, sA, sZ, sS, i64_w, i32_w]; rfl); refine puM 37 50 (mB 43 0x3fffffffff) rfl rfl HT_.out (by kernel_rfl) (fun _ _ _ h => h) (by rfl) ?_; refine puM 38 51 (mB 43 0x7fffffffff) rfl rfl HT_.out (by kernel_rfl) (fun _ _ _ h => h) (by rfl) ?_; refine puN (a' := ?_) 39 52 (mB 43 0xffffffffff) rfl rfl HT_.out (by kernel_rfl) (fun _ _ _ h => h) (by rfl) ?_ ?_; rotate_left; (focus simp only [Act.put, sA, sZ, sS, i64_w, i32_w]; rfl); refine puM 40 53 (mB 43 0x1ffffffffff) rfl rfl HT_.out (by kernel_rfl) (fun _ _ _ h => h) (by rfl) ?_; refine puN (a' := ?_) 41 54 (mB 43 0x3ffffffffff) rfl rfl HT_.out (by kernel_rfl) (fun _ _ _ h => h) (by rfl) ?_ ?_; rotate_left; (focus simp only [Act.put, sA, sZ, sS, i64_w, i32_w]; rfl); refine puY (v := ?_) (a' := ?_) 42 55 (mB 43 0x7ffffffffff) rfl rfl HT_.out (by kernel_rfl) (fun _ _ _ h => h) (by rfl) ?_ ?_ ?_; rotate_left; (focus intro w'; go_simp; with_reducible rfl); rotate_left; (focus simp only [Act.put, sA, sZ, sS, i64_w, i32_w]; rfl)
                refine done_ (done_of HT_.out (by kernel_rfl)) ?_
                try go_wp2
                go_ret
                exact ⟨by first | rfl | (simp [errW_none, errW_some] <;> rfl) | (simp [*, errW_none, errW_some] <;> rfl), by repeat (first | (with_reducible first | exact HB.out | apply ba | apply bn | apply bd | refine bs ?_ GE177.out | refine bs ?_ GE180.out) | exact HB.out)⟩
            · replace c8 := Bool.eq_false_iff.mpr c8
              subst c8
              have H1 : (some false) = some r := by rw [if_neg (show ¬ (false = true) by decide)] at H; exact H
              clear H
              have H := H1
              clear H1
              obtain rfl := Option.some.inj H
              have p179 : 0 ≤ (x8_1 : Int) := of_decide_eq_true (by first | (with_reducible assumption) | assumption)
              have q179 : x8_1 < (l0_0.length : Int) := of_decide_eq_true (by first | (with_reducible assumption) | assumption)
              obtain ⟨ad179, e179, hx179_0, hx179_1, hx179_2, hx179_3⟩ := at_T51 HR0_0.out x8_1 p179 q179
              cases e179
              replace hx179_0 := (HB.out.cell (World.block_lt_of_cell? w _ hx179_0)).trans hx179_0
              replace hx179_1 := (HB.out.cell (World.block_lt_of_cell? w _ hx179_1)).trans hx179_1
              replace hx179_2 := (HB.out.cell (World.block_lt_of_cell? w _ hx179_2)).trans hx179_2
              replace hx179_3 := (HB.out.cell (World.block_lt_of_cell? w _ hx179_3)).trans hx179_3
              replace p179 := eq_true p179
              replace q179 := eq_true q179
              try go_wp2_with (first | ((with_reducible refine gd (N := 4) rfl ?_); refine xe ?hg (N := 4) ?hd (cs := #[.int .i64 0, .int .i64 0, .int .i64 0, .bool false]) (t := 51) ?hr ?_; (case hd => rfl); (case hg => rfl); (case hr => first | (go_simp; done) | (go_simp; rfl)); intro gb180 hg w71 hbox hb; have n0_ := AM (kb (g := gb177) (o := .cells #[.slice (some ad179) l0_0.length c0_0, .int .i64 a0_1] 28 (0, 0)) (lfK BK177.out) hb); have n1_ := AM (bp (by repeat (first | (with_reducible first | exact HB.out | apply ba | apply bn | apply bd | refine bs ?_ GE177.out) | exact HB.out)) hb); have n2_ := AM (hbox); have n3_ := AM ((by rw [hg]; exact (bz (by repeat (first | (with_reducible first | exact HB.out | apply ba | apply bn | apply bd | refine bs ?_ GE177.out) | exact HB.out))) : w.heap.size ≤ gb180)); have n4_ := AM ((by rw [hg]; exact (bz (by repeat (first | (with_reducible first | exact HB.out | apply ba | apply bn | apply bd | refine bs ?_ GE177.out) | exact HB.out))) : w.heap.size ≤ gb180)); have n5_ := AM ((by rw [hg]; exact Nat.ne_of_lt (blk_lt (g := gb177) (o := .cells #[.slice (some ad179) l0_0.length c0_0, .int .i64 a0_1] 28 (0, 0)) (lfK BK177.out)) : gb177 ≠ gb180)); have n6_ := AM ((by rw [hg]; exact Nat.ne_of_gt (blk_lt (g := gb177) (o := .cells #[.slice (some ad179) l0_0.length c0_0, .int .i64 a0_1] 28 (0, 0)) (lfK BK177.out)) : gb180 ≠ gb177)); clear BK177 HB; revert n0_ n1_ n2_ n3_ n4_ n5_ n6_; intro BK177 HB BK180 GW180 GE180 NB177_180 NB180_177; clear hb hbox hg; have hnb72 := NB180_177.out; have hnc72 := NB177_180.out; have hcz73_0 : w71.cell? ⟨gb180, 0, none⟩ = some (.int .i64 0) := (kc BK180.out 0).trans rfl; have hcz73_1 : w71.cell? ⟨gb180, 1, none⟩ = some (.int .i64 0) := (kc BK180.out 1).trans rfl; have hcz73_2 : w71.cell? ⟨gb180, 2, none⟩ = some (.int .i64 0) := (kc BK180.out 2).trans rfl; have hcz73_3 : w71.cell? ⟨gb180, 3, none⟩ = some (.bool false) := (kc BK180.out 3).trans rfl; have hfz73_0 := kz BK180.out 0; have hfz73_1 := kz BK180.out 1; have hfz73_2 := kz BK180.out 2; have hfz73_3 := kz BK180.out 3))
              have n0_ : Aside0 (((((w71.setCell ⟨gb180, 0, none⟩ (.int .i64 ((rd_T51 l0_0 x8_1).f0))).setCell ⟨gb180, 1, none⟩ (.int .i64 ((rd_T51 l0_0 x8_1).f1))).setCell ⟨gb180, 2, none⟩ (.int .i64 ((rd_T51 l0_0 x8_1).f2))).setCell ⟨gb180, 3, none⟩ (.bool ((rd_T51 l0_0 x8_1).f3))).heap[gb177]? = some (.cells #[.slice (some ad179) l0_0.length c0_0, .int .i64 a0_1] 28 (0, 0))) := ⟨by (with_reducible repeat (first | refine kn ?_ _ | refine kd ?_ | refine ka ?_ _)); refine kf ?_ NB177_180.out _; (with_reducible repeat (first | refine kn ?_ _ | refine kd ?_ | refine ka ?_ _)); refine kf ?_ NB177_180.out _; (with_reducible repeat (first | refine kn ?_ _ | refine kd ?_ | refine ka ?_ _)); refine kf ?_ NB177_180.out _; (with_reducible repeat (first | refine kn ?_ _ | refine kd ?_ | refine ka ?_ _)); refine kf ?_ NB177_180.out _; (with_reducible repeat (first | refine kn ?_ _ | refine kd ?_ | refine ka ?_ _)); exact BK177.out⟩
              have n1_ : Aside0 (((((w71.setCell ⟨gb180, 0, none⟩ (.int .i64 ((rd_T51 l0_0 x8_1).f0))).setCell ⟨gb180, 1, none⟩ (.int .i64 ((rd_T51 l0_0 x8_1).f1))).setCell ⟨gb180, 2, none⟩ (.int .i64 ((rd_T51 l0_0 x8_1).f2))).setCell ⟨gb180, 3, none⟩ (.bool ((rd_T51 l0_0 x8_1).f3))).heap[gb180]? = some (.cells #[.int .i64 ((rd_T51 l0_0 x8_1).f0), .int .i64 ((rd_T51 l0_0 x8_1).f1), .int .i64 ((rd_T51 l0_0 x8_1).f2), .bool ((rd_T51 l0_0 x8_1).f3)] 51 (0, 0))) := ⟨by (with_reducible repeat (first | refine kn ?_ _ | refine kd ?_ | refine ka ?_ _)); refine blk_put (cs := #[.int .i64 ((rd_T51 l0_0 x8_1).f0), .int .i64 ((rd_T51 l0_0 x8_1).f1), .int .i64 ((rd_T51 l0_0 x8_1).f2), .bool false]) ?_ 3 _ rfl; (with_reducible repeat (first | refine kn ?_ _ | refine kd ?_ | refine ka ?_ _)); refine blk_put (cs := #[.int .i64 ((rd_T51 l0_0 x8_1).f0), .int .i64 ((rd_T51 l0_0 x8_1).f1), .int .i64 0, .bool false]) ?_ 2 _ rfl; (with_reducible repeat (first | refine kn ?_ _ | refine kd ?_ | refine ka ?_ _)); refine blk_put (cs := #[.int .i64 ((rd_T51 l0_0 x8_1).f0), .int .i64 0, .int .i64 0, .bool false]) ?_ 1 _ rfl; (with_reducible repeat (first | refine kn ?_ _ | refine kd ?_ | refine ka ?_ _)); refine blk_put (cs := #[.int .i64 0, .int .i64 0, .int .i64 0, .bool false]) ?_ 0 _ rfl; (with_reducible repeat (first | refine kn ?_ _ | refine kd ?_ | refine ka ?_ _)); exact BK180.out⟩
              have n2_ : Aside0 (Below w.heap.size w ((((w71.setCell ⟨gb180, 0, none⟩ (.int .i64 ((rd_T51 l0_0 x8_1).f0))).setCell ⟨gb180, 1, none⟩ (.int .i64 ((rd_T51 l0_0 x8_1).f1))).setCell ⟨gb180, 2, none⟩ (.int .i64 ((rd_T51 l0_0 x8_1).f2))).setCell ⟨gb180, 3, none⟩ (.bool ((rd_T51 l0_0 x8_1).f3)))) := ⟨by repeat (first | (with_reducible first | exact HB.out | apply ba | apply bn | apply bd | refine bs ?_ GE177.out | refine bs ?_ GE180.out) | exact HB.out)⟩
              (try clear BK177)
              (try clear BK180)
              (try clear HB)
              generalize ((((w71.setCell ⟨gb180, 0, none⟩ (.int .i64 ((rd_T51 l0_0 x8_1).f0))).setCell ⟨gb180, 1, none⟩ (.int .i64 ((rd_T51 l0_0 x8_1).f1))).setCell ⟨gb180, 2, none⟩ (.int .i64 ((rd_T51 l0_0 x8_1).f2))).setCell ⟨gb180, 3, none⟩ (.bool ((rd_T51 l0_0 x8_1).f3))) = w74 at n0_ n1_ n2_ ⊢
              revert n0_ n1_ n2_
              intro BK177 BK180 HB
              have n0_ := AM (kd BK177.out)
              have n1_ := AM (kd BK180.out)
              have n2_ := AM (bd HB.out)
              clear BK177 BK180 HB
              revert n0_ n1_ n2_
              intro BK177 BK180 HB
              refine start_ (n := 43) (S := fun w' => w'.cell? ⟨gb180, 0, none⟩ = some (.int .i64 ((rd_T51 l0_0 x8_1).f0)) ∧ w'.cell? ⟨gb180, 1, none⟩ = some (.int .i64 ((rd_T51 l0_0 x8_1).f1)) ∧ w'.cell? ⟨gb180, 2, none⟩ = some (.int .i64 ((rd_T51 l0_0 x8_1).f2)) ∧ w'.cell? ⟨gb180, 3, none⟩ = some (.bool ((rd_T51 l0_0 x8_1).f3))) (ds := []) (mB 43 0x0) (by kernel_rfl) rfl rfl ⟨(kc BK180.out 0).trans rfl, (kc BK180.out 1).trans rfl, (kc BK180.out 2).trans rfl, (kc BK180.out 3).trans rfl⟩ (fun hHeld => ?_); refine with_tabW impl_QueueOk.tab4 impl_QueueOk.bits4 (fun HT_ HW_ => ?_)
              generalize w74.drew = w75 at BK177 BK180 HB hHeld ⊢
              refine puY (v := ?_) (a' := ?_) 0 13 (mB 43 0x1) rfl rfl HT_.out (by kernel_rfl) (fun _ _ _ h => h) (by rfl) ?_ ?_ ?_; rotate_left; (focus intro w'; go_simp; with_reducible rfl); rotate_left; (focus simp only [Act.put, sA, sZ, sS, i64_w, i32_w]; rfl)
              refine take_ (i := 1) (N := some 14) (v := ?_) (a' := ?_) (mB 43 0x3) rfl rfl (take_ofW HT_.out HW_.out (by kernel_rfl)) (fun _ _ _ h => h) (Or.inl ⟨by rfl, ?_⟩) hHeld ?_ ?_
              rotate_left
              · rintro w' ⟨s0, s1, s2, s3⟩; go_simp; with_reducible rfl
              rotate_left
              · simp only [Act.put, sA, sZ, sS, i64_w, i32_w]; rfl
              refine one_ (i := 2) (N := some 15) (mB 43 0x7) rfl rfl (one_of HT_.out (by kernel_rfl)) (by decide) (fun K hK => ?_)
              refine goes_ Try.func21 (by kernel_rfl) rfl #[.int .i64 ((rd_T51 l0_0 x8_1).f0), .int .i64 0, .int .i64 99] (by rfl) rfl rfl (by (try simp only [List.map_toArray, List.map_cons, List.map_nil]); first | done | rfl | (simp only [List.length_drop, List.length_take]; rfl)) ?_
              with_reducible refine (impl_in.calls ((rd_T51 l0_0 x8_1).f0) 0 99 false _ A7.out).mono ?_
              rintro e w' ⟨rfl, ⟨nd, rfl⟩⟩
              refine ⟨_, rfl, ?_⟩
              refine hK.out _ _ ⟨(kc BK180.out 0).trans rfl, (kc BK180.out 1).trans rfl, (kc BK180.out 2).trans rfl, (kc BK180.out 3).trans rfl⟩ (fun hHeld => ?_)
              clear hK K
              refine norm_ (a' := ?_) ?_ ?_
              rotate_left
              · show Act.put _ (some 15) _ = _
                simp only [Act.put, sA, sZ, sS, i64_w, i32_w]
                rfl
              refine puY (v := ?_) (a' := ?_) 3 16 (mB 43 0xf) rfl rfl HT_.out (by kernel_rfl) (fun _ _ _ h => h) (by rfl) ?_ ?_ ?_; rotate_left; (focus intro w'; go_simp; with_reducible rfl); rotate_left; (focus simp only [Act.put, sA, sZ, sS, i64_w, i32_w]; rfl); refine puY (v := ?_) (a' := ?_) 4 17 (mB 43 0x1f) rfl rfl HT_.out (by kernel_rfl) (fun _ _ _ h => h) (by rfl) ?_ ?_ ?_; rotate_left; (focus intro w'; go_simp; with_reducible rfl); rotate_left; (focus simp only [Act.put, sA, sZ, sS, i64_w, i32_w]; rfl); refine puM 5 18 (mB 43 0x3f) rfl rfl HT_.out (by kernel_rfl) (fun _ _ _ h => h) (by rfl) ?_; refine puM 6 19 (mB 43 0x7f) rfl rfl HT_.out (by kernel_rfl) (fun _ _ _ h => h) (by rfl) ?_; refine puN (a' := ?_) 7 20 (mB 43 0xff) rfl rfl HT_.out (by kernel_rfl) (fun _ _ _ h => h) (by rfl) ?_ ?_; rotate_left; (focus simp only [Act.put, sA, sZ, sS, i64_w, i32_w]; rfl); refine puN (a' := ?_) 8 21 (mB 43 0x1ff) rfl rfl HT_.out (by kernel_rfl) (fun _ _ _ h => h) (by rfl) ?_ ?_; rotate_left; (focus simp only [Act.put, sA, sZ, sS, i64_w, i32_w]; rfl); refine puY (v := ?_) (a' := ?_) 9 22 (mB 43 0x3ff) rfl rfl HT_.out (by kernel_rfl) (fun _ _ _ h => h) (by rfl) ?_ ?_ ?_; rotate_left; (focus intro w'; go_simp; with_reducible rfl); rotate_left; (focus simp only [Act.put, sA, sZ, sS, i64_w, i32_w]; rfl); refine puY (v := ?_) (a' := ?_) 10 23 (mB 43 0x7ff) rfl rfl HT_.out (by kernel_rfl) (fun _ _ _ h => h) (by rfl) ?_ ?_ ?_; rotate_left; (focus intro w'; go_simp; with_reducible rfl); rotate_left; (focus simp only [Act.put, sA, sZ, sS, i64_w, i32_w]; rfl); refine puM 11 24 (mB 43 0xfff) rfl rfl HT_.out (by kernel_rfl) (fun _ _ _ h => h) (by rfl) ?_; refine puM 12 25 (mB 43 0x1fff) rfl rfl HT_.out (by kernel_rfl) (fun _ _ _ h => h) (by rfl) ?_; refine puN (a' := ?_) 13 26 (mB 43 0x3fff) rfl rfl HT_.out (by kernel_rfl) (fun _ _ _ h => h) (by rfl) ?_ ?_; rotate_left; (focus simp only [Act.put, sA, sZ, sS, i64_w, i32_w]; rfl); refine puN (a' := ?_) 14 27 (mB 43 0x7fff) rfl rfl HT_.out (by kernel_rfl) (fun _ _ _ h => h) (by rfl) ?_ ?_; rotate_left; (focus simp only [Act.put, sA, sZ, sS, i64_w, i32_w]; rfl); refine puY (v := ?_) (a' := ?_) 15 28 (mB 43 0xffff) rfl rfl HT_.out (by kernel_rfl) (fun _ _ _ h => h) (by rfl) ?_ ?_ ?_; rotate_left; (focus intro w'; go_simp; with_reducible rfl); rotate_left; (focus simp only [Act.put, sA, sZ, sS, i64_w, i32_w]; rfl); refine puY (v := ?_) (a' := ?_) 16 29 (mB 43 0x1ffff) rfl rfl HT_.out (by kernel_rfl) (fun _ _ _ h => h) (by rfl) ?_ ?_ ?_; rotate_left; (focus intro w'; go_simp; with_reducible rfl); rotate_left; (focus simp only [Act.put, sA, sZ, sS, i64_w, i32_w]; rfl); refine puM 17 30 (mB 43 0x3ffff) rfl rfl HT_.out (by kernel_rfl) (fun _ _ _ h => h) (by rfl) ?_; refine puM 18 31 (mB 43 0x7ffff) rfl rfl HT_.out (by kernel_rfl) (fun _ _ _ h => h) (by rfl) ?_; refine puN (a' := ?_) 19 32 (mB 43 0xfffff) rfl rfl HT_.out (by kernel_rfl) (fun _ _ _ h => h) (by rfl) ?_ ?_; rotate_left; (focus simp only [Act.put, sA, sZ, sS, i64_w, i32_w]; rfl); refine puM 20 33 (mB 43 0x1fffff) rfl rfl HT_.out (by kernel_rfl) (fun _ _ _ h => h) (by rfl) ?_; refine puM 21 34 (mB 43 0x3fffff) rfl rfl HT_.out (by kernel_rfl) (fun _ _ _ h => h) (by rfl) ?_; refine puN (a' := ?_) 22 35 (mB 43 0x7fffff) rfl rfl HT_.out (by kernel_rfl) (fun _ _ _ h => h) (by rfl) ?_ ?_; rotate_left; (focus simp only [Act.put, sA, sZ, sS, i64_w, i32_w]; rfl); refine puM 23 36 (mB 43 0xffffff) rfl rfl HT_.out (by kernel_rfl) (fun _ _ _ h => h) (by rfl) ?_; refine puM 24 37 (mB 43 0x1ffffff) rfl rfl HT_.out (by kernel_rfl) (fun _ _ _ h => h) (by rfl) ?_; refine puN (a' := ?_) 25 38 (mB 43 0x3ffffff) rfl rfl HT_.out (by kernel_rfl) (fun _ _ _ h => h) (by rfl) ?_ ?_; rotate_left; (focus simp only [Act.put, sA, sZ, sS, i64_w, i32_w]; rfl); refine puY (v := ?_) (a' := ?_) 26 39 (mB 43 0x7ffffff) rfl rfl HT_.out (by kernel_rfl) (fun _ _ _ h => h) (by rfl) ?_ ?_ ?_; rotate_left; (focus intro w'; go_simp; with_reducible rfl); rotate_left; (focus simp only [Act.put, sA, sZ, sS, i64_w, i32_w]; rfl); refine puY (v := ?_) (a' := ?_) 27 40 (mB 43 0xfffffff) rfl rfl HT_.out (by kernel_rfl) (fun _ _ _ h => h) (by rfl) ?_ ?_ ?_; rotate_left; (focus intro w'; go_simp; with_reducible rfl); rotate_left; (focus simp only [Act.put, sA, sZ, sS, i64_w, i32_w]; rfl); refine puM 28 41 (mB 43 0x1fffffff) rfl rfl HT_.out (by kernel_rfl) (fun _ _ _ h => h) (by rfl) ?_; refine puM 29 42 (mB 43 0x3fffffff) rfl rfl HT_.out (by kernel_rfl) (fun _ _ _ h => h) (by rfl) ?_; refine puN (a' := ?_) 30 43 (mB 43 0x7fffffff) rfl rfl HT_.out (by kernel_rfl) (fun _ _ _ h => h) (by rfl) ?_ ?_; rotate_left; (focus simp only [Act.put, sA, sZ, sS, i64_w, i32_w]; rfl); refine puM 31 44 (mB 43 0xffffffff) rfl rfl HT_.out (by kernel_rfl) (fun _ _ _ h => h) (by rfl) ?_; refine puM 32 45 (mB 43 0x1ffffffff) rfl rfl HT_.out (by kernel_rfl) (fun _ _ _ h => h) (by rfl) ?_; refine puN (a' := ?_) 33 46 (mB 43 0x3ffffffff) rfl rfl HT_.out (by kernel_rfl) (fun _ _ _ h => h) (by rfl) ?_ ?_; rotate_left; (focus simp only [Act.put, sA, sZ, sS, i64_w, i32_w]; rfl); refine puM 34 47 (mB 43 0x7ffffffff) rfl rfl HT_.out (by kernel_rfl) (fun _ _ _ h => h) (by rfl) ?_; refine puM 35 48 (mB 43 0xfffffffff) rfl rfl HT_.out (by kernel_rfl) (fun _ _ _ h => h) (by rfl) ?_; refine puN (a' := ?_) 36 49 (mB 43 0x1fffffffff) rfl rfl HT_.out (by kernel_rfl) (fun _ _ _ h => h) (by rfl) ?_ ?_; rotate_left; (focus simp only [Act.put, sA, sZ, sS, i64_w, i32_w]; rfl); refine puM 37 50 (mB 43 0x3fffffffff) rfl rfl HT_.out (by kernel_rfl) (fun _ _ _ h => h) (by rfl) ?_; refine puM 38 51 (mB 43 0x7fffffffff) rfl rfl HT_.out (by kernel_rfl) (fun _ _ _ h => h) (by rfl) ?_; refine puN (a' := ?_) 39 52 (mB 43 0xffffffffff) rfl rfl HT_.out (by kernel_rfl) (fun _ _ _ h => h) (by rfl) ?_ ?_; rotate_left; (focus simp only [Act.put, sA, sZ, sS, i64_w, i32_w]; rfl); refine puM 40 53 (mB 43 0x1ffffffffff) rfl rfl HT_.out (by kernel_rfl) (fun _ _ _ h => h) (by rfl) ?_; refine puN (a' := ?_) 41 54 (mB 43 0x3ffffffffff) rfl rfl HT_.out (by kernel_rfl) (fun _ _ _ h => h) (by rfl) ?_ ?_; rotate_left; (focus simp only [Act.put, sA, sZ, sS, i64_w, i32_w]; rfl); refine puY (v := ?_) (a' := ?_) 42 55 (mB 43 0x7ffffffffff) rfl rfl HT_.out (by kernel_rfl) (fun _ _ _ h => h) (by rfl) ?_ ?_ ?_; rotate_left; (focus intro w'; go_simp; with_reducible rfl); rotate_left; (focus simp only [Act.put, sA, sZ, sS, i64_w, i32_w]; rfl)
              refine done_ (done_of HT_.out (by kernel_rfl)) ?_
              try go_wp2
              go_ret
              exact ⟨by first | rfl | (simp [errW_none, errW_some] <;> rfl) | (simp [*, errW_none, errW_some] <;> rfl), by repeat (first | (with_reducible first | exact HB.out | apply ba | apply bn | apply bd | refine bs ?_ GE177.out | refine bs ?_ GE180.out) | exact HB.out)⟩
          · rw [if_neg c6] at H
            exact absurd H (by simp)
        · rw [if_neg c5] at H
          exact absurd H (by simp)
      · rw [if_neg c4] at H
        have c4b0 : decide (x8_1 < (l0_0.length : Int)) = false := decide_eq_false c4
        clear c4
        by_cases c76 : (l0_0.length : Int) ≤ 6
        · rw [if_pos c76] at H
          have c76b0 : decide ((l0_0.length : Int) ≤ 6) = true := decide_eq_true c76
          have c76b1 : decide (l0_0.length ≤ 6) = true := decide_eq_true (by omega)
          clear c76
          replace H := Option.bind_eq_some_iff.mp H
          obtain ⟨t178, A770, H⟩ := H
          replace H : (some t178) = some r := H
          have A77 := AM A770
          clear A770
          obtain rfl := Option.some.inj H
          have hcz78_0 : wr.cell? ⟨gb177, 0, none⟩ = some (.slice A0_0 l0_0.length c0_0) := (kc BK177.out 0).trans rfl
          have hcz78_1 : wr.cell? ⟨gb177, 1, none⟩ = some (.int .i64 a0_1) := (kc BK177.out 1).trans rfl
          have hfz78_0 := kz BK177.out 0
          have hfz78_1 := kz BK177.out 1
          go_wp2_with (first | (go_at_call 21; (with_reducible refine (impl_in.calls a0_1 0 1000000 t178 _ A77.out).mono ?_); rintro e w' ⟨rfl, ⟨nd, rfl⟩⟩))
          go_ret
          exact ⟨by first | rfl | (simp [errW_none, errW_some] <;> rfl) | (simp [*, errW_none, errW_some] <;> rfl), by repeat (first | (with_reducible first | exact HB.out | apply ba | apply bn | apply bd | refine bs ?_ GE177.out) | exact HB.out)⟩
        · rw [if_neg c76] at H
          have c76b0 : decide ((l0_0.length : Int) ≤ 6) = false := decide_eq_false c76
          have c76b1 : decide (l0_0.length ≤ 6) = false := decide_eq_false (by omega)
          clear c76
          obtain rfl := Option.some.inj H
          have hcz79_0 : wr.cell? ⟨gb177, 0, none⟩ = some (.slice A0_0 l0_0.length c0_0) := (kc BK177.out 0).trans rfl
          have hcz79_1 : wr.cell? ⟨gb177, 1, none⟩ = some (.int .i64 a0_1) := (kc BK177.out 1).trans rfl
          have hfz79_0 := kz BK177.out 0
          have hfz79_1 := kz BK177.out 1
          go_wp2
          go_ret
          exact ⟨by first | rfl | (simp [errW_none, errW_some] <;> rfl) | (simp [*, errW_none, errW_some] <;> rfl), by repeat (first | (with_reducible first | exact HB.out | apply ba | apply bn | apply bd | refine bs ?_ GE177.out) | exact HB.out)⟩

end Go.Proofs.Ytfbdkjdockbfdab.GQ
