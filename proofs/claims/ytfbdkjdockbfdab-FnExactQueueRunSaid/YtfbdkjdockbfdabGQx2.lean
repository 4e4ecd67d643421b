-- Written by this session's program hp.py (over the kit's printer) and out of its own hand texts. Not trusted: Lean checks it.
import Derived.Test.YtfbdkjdockbfdabGQx0
import Derived.Test.YtfbdkjdockbfdabGQx1
namespace Go.Proofs.Ytfbdkjdockbfdab.GQ
open Go.RowKit Go.Proofs.YtfbdkjdockbfdabW.PrintWords Go.Proofs.YtfbdkjdockbfdabW.PrintLast Go.Proofs.YtfbdkjdockbfdabW.PrintMore
attribute [local go_sem] max2_int min2_int max_two min_two max_three min_three max_four min_four   -- for this text's walks alone
set_option linter.unusedVariables false
set_option linter.unusedSimpArgs false

/-! ### spec_QueueOk: function 15 -/
open List renaming setIfInBounds_toArray → sA, set_cons_zero → sZ, set_cons_succ → sS
open Go.Proofs.YtfbdkjdockbfdabW.PrintWords.Aside0 renaming mk → AM
open Go.Proofs.YtfbdkjdockbfdabW.PrintWords renaming below_alloc → ba, pw_below_drewN → bn, below_drew1 → bd, below_set → bs, blk_drewN → kn, blk_drew → kd, blk_alloc → ka, blk_far → kf, blk_cell → kc, blk_frozen → kz, blk_below → kb, below_size → bz, below_step → bp, box_event → xe, gate_dst → gd
def spec_QueueOk.l0 : Nat → Int → List (S51) → Int → Option (Bool)
  | 0, _, _, _ => none
  | k + 1, x3, x104000, x104001 => if x3 < (x104000.length : Int) then (if 0 ≤ x3 then ((spec_l6In.f ((rd_T51 x104000 x3).f0) 0 99).bind fun t107 => (if t107 = true then ((spec_l6In.f ((rd_T51 x104000 x3).f1) 1 6).bind fun t108 => (if t108 = true then ((spec_l6In.f ((rd_T51 x104000 x3).f2) 0 1000000).bind fun t109 => (if t109 = true then (if x3 > 0 then (if 0 ≤ (wrap64 (x3 - 1)) then (if (wrap64 (x3 - 1)) < (x104000.length : Int) then (if ((rd_T51 x104000 (wrap64 (x3 - 1))).f0) ≥ ((rd_T51 x104000 x3).f0) then (some false) else (if (rd_T51 x104000 x3).f3 = true then (if ((rd_T51 x104000 x3).f2) < x104001 then (some false) else (spec_QueueOk.l0 k (wrap64 (x3 + 1)) x104000 x104001)) else (spec_QueueOk.l0 k (wrap64 (x3 + 1)) x104000 x104001))) else (none)) else (none)) else (if (rd_T51 x104000 x3).f3 = true then (if ((rd_T51 x104000 x3).f2) < x104001 then (some false) else (spec_QueueOk.l0 k (wrap64 (x3 + 1)) x104000 x104001)) else (spec_QueueOk.l0 k (wrap64 (x3 + 1)) x104000 x104001))) else (some false))) else (some false))) else (some false))) else (none)) else (if (x104000.length : Int) ≤ 6 then ((spec_l6In.f x104001 0 1000000).bind fun t104 => (some t104)) else (some false))
def spec_QueueOk.f (k : Nat) (l0_0 : List (S51)) (a0_1 : Int) : Option (Bool) := spec_QueueOk.l0 k 0 l0_0 a0_1
theorem spec_QueueOk.mono_l : ∀ k, (∀ y0 y1 y2, LeO (spec_QueueOk.l0 k y0 y1 y2) (spec_QueueOk.l0 (k + 1) y0 y1 y2))
  | 0 => fun _ _ _ r h => by simp [spec_QueueOk.l0] at h
  | k + 1 => by
    have ih0 := spec_QueueOk.mono_l k
    · intro y0 y1 y2
      unfold spec_QueueOk.l0
      repeat' first
      | (with_reducible exact ih0 _ _ _)
      | (with_reducible exact LeO.refl _)
      | (with_reducible exact LeO.none _)
      | (with_reducible refine LeO.ite ?_ ?_)
      | (with_reducible refine LeO.bind ?_ (fun _ => ?_))
      | exact ih0 _ _ _
      | exact LeO.none _
      | refine LeO.ite ?_ ?_
      | refine LeO.bind ?_ (fun _ => ?_)
theorem spec_QueueOk.mono : ∀ a0 a1 k, LeO (spec_QueueOk.f k a0 a1) (spec_QueueOk.f (k + 1) a0 a1) := by
  intro a0 a1 k
  have ih0 := spec_QueueOk.mono_l k
  unfold spec_QueueOk.f
  repeat' first
      | (with_reducible exact ih0 _ _ _)
      | (with_reducible exact LeO.refl _)
      | (with_reducible exact LeO.none _)
      | (with_reducible refine LeO.ite ?_ ?_)
      | (with_reducible refine LeO.bind ?_ (fun _ => ?_))
      | exact ih0 _ _ _
      | exact LeO.none _
      | refine LeO.ite ?_ ?_
      | refine LeO.bind ?_ (fun _ => ?_)
def spec_QueueOk.T5 : Bool × List (List Nat × List Nat) := (true, [([], []), ([0], [0]), ([1], [1]), ([2], [2]), ([3, 2], [3]), ([4], [4]), ([5, 4], [4, 5]), ([6, 4, 4], [4, 6]), ([7, 4], [4, 7]), ([4, 8], [4, 8]), ([9, 7], [9]), ([10], [10]), ([11, 10], [10, 11]), ([12, 10, 10], [10, 12]), ([13, 10], [10, 13]), ([10, 14], [10, 14]), ([15, 13], [15]), ([16], [16]), ([17, 16], [16, 17]), ([18, 16, 16], [16, 18]), ([19], [19]), ([20, 19], [19, 20]), ([19], [19]), ([22, 19], [19, 22]), ([21, 23, 19], [19, 21, 23]), ([24, 19], [19, 24]), ([25, 19], [19, 25]), ([19], [19]), ([27, 19], [19, 27]), ([26, 28, 19], [19, 26, 28]), ([19, 29, 16], [16, 19, 29]), ([16, 30], [16, 30]), ([31, 19], [31]), ([32], [32]), ([33, 32], [32, 33]), ([34, 32, 32], [32, 34]), ([35], [35]), ([36, 35], [35, 36]), ([35], [35]), ([38, 35], [35, 38]), ([37, 39, 35], [35, 37, 39]), ([35, 40, 32], [32, 35, 40]), ([32, 41], [32, 41])])
def spec_QueueOk.B5 : List Nat := [0, 1, 3, 7, 15, 31, 63, 127, 255, 511, 1023, 2047, 4095, 8191, 16383, 32767, 65535, 131071, 262143, 524287, 1048575, 2097151, 1048575, 5242879, 16777215, 33554431, 67108863, 1048575, 135266303, 536870911, 1073741823, 2147483647, 4294967295, 8589934591, 17179869183, 34359738367, 68719476735, 137438953471, 68719476735, 343597383679, 1099511627775, 2199023255551, 4398046511103]
theorem spec_QueueOk.tab5 : rtab .any (opsOf Try.f15 5) = spec_QueueOk.T5 := by kernel_rfl
theorem spec_QueueOk.bits5 : waitsOk spec_QueueOk.T5.2 spec_QueueOk.B5 = true := by kernel_rfl
set_option maxHeartbeats 8000000 in
set_option maxRecDepth 100000 in
theorem spec_QueueOk.calls (k : Nat) (A0_0 : Option Addr) (c0_0 : Nat) (l0_0 : List (S51)) (a0_1 : Int) (r : Bool) (w : World) (hr0_0 : Kd.C k51 w A0_0 l0_0.length l0_0) (hc0_0 : l0_0.length ≤ c0_0) (h : spec_QueueOk.f k l0_0 a0_1 = some r) :
    Calls Try.prog 15 #[.agg #[.slice A0_0 l0_0.length c0_0, .int .i64 a0_1]] w fun e w' => e = .returned (.bool r) ∧ Below w.heap.size w w' := by
  have hu28 := Try.underlying28
  have hu51 := Try.underlying51
  have HR0_0 := AM hr0_0
  have HC0_0 := AM hc0_0
  clear hr0_0 hc0_0
  have HB := AM (Below.refl w.heap.size w)
  have H : (spec_QueueOk.l0 k 0 l0_0 a0_1) = some r := h
  clear h
  have H' := AM H
  clear H
  go_enter Try.func15, Try.ntmps15
  go_wp2_with (first | ((with_reducible refine gd (N := 1) rfl ?_); refine xe ?hg (N := 1) ?hd (cs := #[.slice A0_0 l0_0.length c0_0, .int .i64 a0_1]) (t := 28) ?hr ?_; (case hd => rfl); (case hg => rfl); (case hr => first | (go_simp; done) | (go_simp; rfl)); intro gb103 hg w2 hbox hb; have n0_ := AM (bp (lfB HB.out) hb); have n1_ := AM (hbox); have n2_ := AM ((by rw [hg]; exact (bz (lfB HB.out)) : w.heap.size ≤ gb103)); have n3_ := AM ((by rw [hg]; exact (bz (lfB HB.out)) : w.heap.size ≤ gb103)); clear HB; revert n0_ n1_ n2_ n3_; intro HB BK103 GW103 GE103; clear hb hbox hg))
  go_loopg [3] k (fun kq v3 w' => ∃ (x3_1 : Int), v3 = .int .i64 x3_1 ∧ Aside0 (spec_QueueOk.l0 kq x3_1 l0_0 a0_1 = some r) ∧ Aside0 (kq ≤ k) ∧ Aside0 (w'.heap[gb103]? = some (.cells #[(.slice A0_0 l0_0.length c0_0), .int .i64 a0_1] 28 (0, 0))) ∧ Aside0 (Below w.heap.size w w'))
  case atStart => exact ⟨(0), (by first | rfl | (simp; done) | (simp [*]; done)), H', ⟨Nat.le_refl _⟩, ⟨by (with_reducible repeat (first | refine kn ?_ _ | refine kd ?_ | refine ka ?_ _)); exact BK103.out⟩, ⟨by repeat (first | (with_reducible first | exact HB.out | apply ba | apply bn | apply bd | refine bs ?_ GE103.out) | exact HB.out)⟩⟩
  case round =>
    clear H'
    obtain ⟨x3_1, rfl, HA, HK1, BK103, HB⟩ := hrel
    cases gk with
    | zero => exact absurd HA.out (by simp [spec_QueueOk.l0])
    | succ k1 =>
      have H := HA.out
      clear HA
      simp only [spec_QueueOk.l0] at H
      by_cases c3 : x3_1 < (l0_0.length : Int)
      · rw [if_pos c3] at H
        have c3b0 : decide (x3_1 < (l0_0.length : Int)) = true := decide_eq_true c3
        clear c3
        by_cases c4 : 0 ≤ x3_1
        · rw [if_pos c4] at H
          have c4b0 : decide (0 ≤ x3_1) = true := decide_eq_true c4
          clear c4
          replace H := Option.bind_eq_some_iff.mp H
          obtain ⟨t107, A50, H⟩ := H
          replace H : (if t107 = true then ((spec_l6In.f ((rd_T51 l0_0 x3_1).f1) 1 6).bind fun t108 => (if t108 = true then ((spec_l6In.f ((rd_T51 l0_0 x3_1).f2) 0 1000000).bind fun t109 => (if t109 = true then (if x3_1 > 0 then (if 0 ≤ (wrap64 (x3_1 - 1)) then (if (wrap64 (x3_1 - 1)) < (l0_0.length : Int) then (if ((rd_T51 l0_0 (wrap64 (x3_1 - 1))).f0) ≥ ((rd_T51 l0_0 x3_1).f0) then (some false) else (if (rd_T51 l0_0 x3_1).f3 = true then (if ((rd_T51 l0_0 x3_1).f2) < a0_1 then (some false) else (spec_QueueOk.l0 k1 (wrap64 (x3_1 + 1)) l0_0 a0_1)) else (spec_QueueOk.l0 k1 (wrap64 (x3_1 + 1)) l0_0 a0_1))) else (none)) else (none)) else (if (rd_T51 l0_0 x3_1).f3 = true then (if ((rd_T51 l0_0 x3_1).f2) < a0_1 then (some false) else (spec_QueueOk.l0 k1 (wrap64 (x3_1 + 1)) l0_0 a0_1)) else (spec_QueueOk.l0 k1 (wrap64 (x3_1 + 1)) l0_0 a0_1))) else (some false))) else (some false))) else (some false)) = some r := H
          have A5 := AM A50
          clear A50
          by_cases c6 : t107 = true
          · subst c6
            have H1 : ((spec_l6In.f ((rd_T51 l0_0 x3_1).f1) 1 6).bind fun t108 => (if t108 = true then ((spec_l6In.f ((rd_T51 l0_0 x3_1).f2) 0 1000000).bind fun t109 => (if t109 = true then (if x3_1 > 0 then (if 0 ≤ (wrap64 (x3_1 - 1)) then (if (wrap64 (x3_1 - 1)) < (l0_0.length : Int) then (if ((rd_T51 l0_0 (wrap64 (x3_1 - 1))).f0) ≥ ((rd_T51 l0_0 x3_1).f0) then (some false) else (if (rd_T51 l0_0 x3_1).f3 = true then (if ((rd_T51 l0_0 x3_1).f2) < a0_1 then (some false) else (spec_QueueOk.l0 k1 (wrap64 (x3_1 + 1)) l0_0 a0_1)) else (spec_QueueOk.l0 k1 (wrap64 (x3_1 + 1)) l0_0 a0_1))) else (none)) else (none)) else (if (rd_T51 l0_0 x3_1).f3 = true then (if ((rd_T51 l0_0 x3_1).f2) < a0_1 then (some false) else (spec_QueueOk.l0 k1 (wrap64 (x3_1 + 1)) l0_0 a0_1)) else (spec_QueueOk.l0 k1 (wrap64 (x3_1 + 1)) l0_0 a0_1))) else (some false))) else (some false))) = some r := by rw [if_pos rfl] at H; exact H
            clear H
            have H := H1
            clear H1
            replace H := Option.bind_eq_some_iff.mp H
            obtain ⟨t108, A70, H⟩ := H
            replace H : (if t108 = true then ((spec_l6In.f ((rd_T51 l0_0 x3_1).f2) 0 1000000).bind fun t109 => (if t109 = true then (if x3_1 > 0 then (if 0 ≤ (wrap64 (x3_1 - 1)) then (if (wrap64 (x3_1 - 1)) < (l0_0.length : Int) then (if ((rd_T51 l0_0 (wrap64 (x3_1 - 1))).f0) ≥ ((rd_T51 l0_0 x3_1).f0) then (some false) else (if (rd_T51 l0_0 x3_1).f3 = true then (if ((rd_T51 l0_0 x3_1).f2) < a0_1 then (some false) else (spec_QueueOk.l0 k1 (wrap64 (x3_1 + 1)) l0_0 a0_1)) else (spec_QueueOk.l0 k1 (wrap64 (x3_1 + 1)) l0_0 a0_1))) else (none)) else (none)) else (if (rd_T51 l0_0 x3_1).f3 = true then (if ((rd_T51 l0_0 x3_1).f2) < a0_1 then (some false) else (spec_QueueOk.l0 k1 (wrap64 (x3_1 + 1)) l0_0 a0_1)) else (spec_QueueOk.l0 k1 (wrap64 (x3_1 + 1)) l0_0 a0_1))) else (some false))) else (some false)) = some r := H
            have A7 := AM A70
            clear A70
            by_cases c8 : t108 = true
            · subst c8
              have H1 : ((spec_l6In.f ((rd_T51 l0_0 x3_1).f2) 0 1000000).bind fun t109 => (if t109 = true then (if x3_1 > 0 then (if 0 ≤ (wrap64 (x3_1 - 1)) then (if (wrap64 (x3_1 - 1)) < (l0_0.length : Int) then (if ((rd_T51 l0_0 (wrap64 (x3_1 - 1))).f0) ≥ ((rd_T51 l0_0 x3_1).f0) then (some false) else (if (rd_T51 l0_0 x3_1).f3 = true then (if ((rd_T51 l0_0 x3_1).f2) < a0_1 then (some false) else (spec_QueueOk.l0 k1 (wrap64 (x3_1 + 1)) l0_0 a0_1)) else (spec_QueueOk.l0 k1 (wrap64 (x3_1 + 1)) l0_0 a0_1))) else (none)) else (none)) else (if (rd_T51 l0_0 x3_1).f3 = true then (if ((rd_T51 l0_0 x3_1).f2) < a0_1 then (some false) else (spec_QueueOk.l0 k1 (wrap64 (x3_1 + 1)) l0_0 a0_1)) else (spec_QueueOk.l0 k1 (wrap64 (x3_1 + 1)) l0_0 a0_1))) else (some false))) = some r := by rw [if_pos rfl] at H; exact H
              clear H
              have H := H1
              clear H1
              replace H := Option.bind_eq_some_iff.mp H
              obtain ⟨t109, A90, H⟩ := H
              replace H : (if t109 = true then (if x3_1 > 0 then (if 0 ≤ (wrap64 (x3_1 - 1)) then (if (wrap64 (x3_1 - 1)) < (l0_0.length : Int) then (if ((rd_T51 l0_0 (wrap64 (x3_1 - 1))).f0) ≥ ((rd_T51 l0_0 x3_1).f0) then (some false) else (if (rd_T51 l0_0 x3_1).f3 = true then (if ((rd_T51 l0_0 x3_1).f2) < a0_1 then (some false) else (spec_QueueOk.l0 k1 (wrap64 (x3_1 + 1)) l0_0 a0_1)) else (spec_QueueOk.l0 k1 (wrap64 (x3_1 + 1)) l0_0 a0_1))) else (none)) else (none)) else (if (rd_T51 l0_0 x3_1).f3 = true then (if ((rd_T51 l0_0 x3_1).f2) < a0_1 then (some false) else (spec_QueueOk.l0 k1 (wrap64 (x3_1 + 1)) l0_0 a0_1)) else (spec_QueueOk.l0 k1 (wrap64 (x3_1 + 1)) l0_0 a0_1))) else (some false)) = some r := H
              have A9 := AM A90
              clear A90
              by_cases c10 : t109 = true
              · subst c10
                have H1 : (if x3_1 > 0 then (if 0 ≤ (wrap64 (x3_1 - 1)) then (if (wrap64 (x3_1 - 1)) < (l0_0.length : Int) then (if ((rd_T51 l0_0 (wrap64 (x3_1 - 1))).f0) ≥ ((rd_T51 l0_0 x3_1).f0) then (some false) else (if (rd_T51 l0_0 x3_1).f3 = true then (if ((rd_T51 l0_0 x3_1).f2) < a0_1 then (some false) else (spec_QueueOk.l0 k1 (wrap64 (x3_1 + 1)) l0_0 a0_1)) else (spec_QueueOk.l0 k1 (wrap64 (x3_1 + 1)) l0_0 a0_1))) else (none)) else (none)) else (if (rd_T51 l0_0 x3_1).f3 = true then (if ((rd_T51 l0_0 x3_1).f2) < a0_1 then (some false) else (spec_QueueOk.l0 k1 (wrap64 (x3_1 + 1)) l0_0 a0_1)) else (spec_QueueOk.l0 k1 (wrap64 (x3_1 + 1)) l0_0 a0_1))) = some r := by rw [if_pos rfl] at H; exact H
                clear H
                have H := H1
                clear H1
                by_cases c11 : x3_1 > 0
                · rw [if_pos c11] at H
                  have c11b0 : decide (0 < x3_1) = true := decide_eq_true c11
                  clear c11
                  obtain ⟨ji12, hji12⟩ : ∃ j_ : Int, (wrap64 (x3_1 - 1)) = j_ := ⟨_, rfl⟩
                  replace H : (if 0 ≤ (ji12) then (if (ji12) < (l0_0.length : Int) then (if ((rd_T51 l0_0 (ji12)).f0) ≥ ((rd_T51 l0_0 x3_1).f0) then (some false) else (if (rd_T51 l0_0 x3_1).f3 = true then (if ((rd_T51 l0_0 x3_1).f2) < a0_1 then (some false) else (spec_QueueOk.l0 k1 (wrap64 (x3_1 + 1)) l0_0 a0_1)) else (spec_QueueOk.l0 k1 (wrap64 (x3_1 + 1)) l0_0 a0_1))) else (none)) else (none)) = some r := by first | (rw [hji12] at H; exact H) | (simp only [hji12] at H ⊢; exact H)
                  (try rw [hji12] at A5)
                  (try rw [hji12] at A7)
                  (try rw [hji12] at A9)
                  have hji12w : (IntKind.i64.wrap (x3_1 - 1)) = ji12 := (i64_w _).trans hji12
                  by_cases c13 : 0 ≤ (ji12)
                  · rw [if_pos c13] at H
                    have c13b0 : decide (0 ≤ (ji12)) = true := decide_eq_true c13
                    clear c13
                    by_cases c14 : (ji12) < (l0_0.length : Int)
                    · rw [if_pos c14] at H
                      have c14b0 : decide ((ji12) < (l0_0.length : Int)) = true := decide_eq_true c14
                      clear c14
                      by_cases c15 : ((rd_T51 l0_0 (ji12)).f0) ≥ ((rd_T51 l0_0 x3_1).f0)
                      · rw [if_pos c15] at H
                        have c15b0 : decide (((rd_T51 l0_0 x3_1).f0) ≤ ((rd_T51 l0_0 (ji12)).f0)) = true := decide_eq_true c15
                        clear c15
                        obtain rfl := Option.some.inj H
                        have hcz16_0 : wr.cell? ⟨gb103, 0, none⟩ = some (.slice A0_0 l0_0.length c0_0) := (kc BK103.out 0).trans rfl
                        have hcz16_1 : wr.cell? ⟨gb103, 1, none⟩ = some (.int .i64 a0_1) := (kc BK103.out 1).trans rfl
                        have hfz16_0 := kz BK103.out 0
                        have hfz16_1 := kz BK103.out 1
                        have p105 : 0 ≤ (x3_1 : Int) := of_decide_eq_true (by first | (with_reducible assumption) | assumption)
                        have q105 : x3_1 < (l0_0.length : Int) := of_decide_eq_true (by first | (with_reducible assumption) | assumption)
                        obtain ⟨ad105, e105, hx105_0, hx105_1, hx105_2, hx105_3⟩ := at_T51 HR0_0.out x3_1 p105 q105
                        cases e105
                        replace hx105_0 := (HB.out.cell (World.block_lt_of_cell? w _ hx105_0)).trans hx105_0
                        replace hx105_1 := (HB.out.cell (World.block_lt_of_cell? w _ hx105_1)).trans hx105_1
                        replace hx105_2 := (HB.out.cell (World.block_lt_of_cell? w _ hx105_2)).trans hx105_2
                        replace hx105_3 := (HB.out.cell (World.block_lt_of_cell? w _ hx105_3)).trans hx105_3
                        replace p105 := eq_true p105
                        replace q105 := eq_true q105
                        try go_wp2_with (first | ((with_reducible refine gd (N := 4) rfl ?_); refine xe ?hg (N := 4) ?hd (cs := #[.int .i64 0, .int .i64 0, .int .i64 0, .bool false]) (t := 51) ?hr ?_; (case hd => rfl); (case hg => rfl); (case hr => first | (go_simp; done) | (go_simp; rfl)); intro gb106 hg w17 hbox hb; have n0_ := AM (kb (g := gb103) (o := .cells #[.slice (some ad105) l0_0.length c0_0, .int .i64 a0_1] 28 (0, 0)) (lfK BK103.out) hb); have n1_ := AM (bp (by repeat (first | (with_reducible first | exact HB.out | apply ba | apply bn | apply bd | refine bs ?_ GE103.out) | exact HB.out)) hb); have n2_ := AM (hbox); have n3_ := AM ((by rw [hg]; exact (bz (by repeat (first | (with_reducible first | exact HB.out | apply ba | apply bn | apply bd | refine bs ?_ GE103.out) | exact HB.out))) : w.heap.size ≤ gb106)); have n4_ := AM ((by rw [hg]; exact (bz (by repeat (first | (with_reducible first | exact HB.out | apply ba | apply bn | apply bd | refine bs ?_ GE103.out) | exact HB.out))) : w.heap.size ≤ gb106)); have n5_ := AM ((by rw [hg]; exact Nat.ne_of_lt (blk_lt (g := gb103) (o := .cells #[.slice (some ad105) l0_0.length c0_0, .int .i64 a0_1] 28 (0, 0)) (lfK BK103.out)) : gb103 ≠ gb106)); have n6_ := AM ((by rw [hg]; exact Nat.ne_of_gt (blk_lt (g := gb103) (o := .cells #[.slice (some ad105) l0_0.length c0_0, .int .i64 a0_1] 28 (0, 0)) (lfK BK103.out)) : gb106 ≠ gb103)); clear BK103 HB; revert n0_ n1_ n2_ n3_ n4_ n5_ n6_; intro BK103 HB BK106 GW106 GE106 NB103_106 NB106_103; clear hb hbox hg; have hnb18 := NB106_103.out; have hnc18 := NB103_106.out; have hcz19_0 : w17.cell? ⟨gb106, 0, none⟩ = some (.int .i64 0) := (kc BK106.out 0).trans rfl; have hcz19_1 : w17.cell? ⟨gb106, 1, none⟩ = some (.int .i64 0) := (kc BK106.out 1).trans rfl; have hcz19_2 : w17.cell? ⟨gb106, 2, none⟩ = some (.int .i64 0) := (kc BK106.out 2).trans rfl; have hcz19_3 : w17.cell? ⟨gb106, 3, none⟩ = some (.bool false) := (kc BK106.out 3).trans rfl; have hfz19_0 := kz BK106.out 0; have hfz19_1 := kz BK106.out 1; have hfz19_2 := kz BK106.out 2; have hfz19_3 := kz BK106.out 3))
                        have n0_ : Aside0 (((((w17.setCell ⟨gb106, 0, none⟩ (.int .i64 ((rd_T51 l0_0 x3_1).f0))).setCell ⟨gb106, 1, none⟩ (.int .i64 ((rd_T51 l0_0 x3_1).f1))).setCell ⟨gb106, 2, none⟩ (.int .i64 ((rd_T51 l0_0 x3_1).f2))).setCell ⟨gb106, 3, none⟩ (.bool ((rd_T51 l0_0 x3_1).f3))).heap[gb103]? = some (.cells #[.slice (some ad105) l0_0.length c0_0, .int .i64 a0_1] 28 (0, 0))) := ⟨by (with_reducible repeat (first | refine kn ?_ _ | refine kd ?_ | refine ka ?_ _)); refine kf ?_ NB103_106.out _; (with_reducible repeat (first | refine kn ?_ _ | refine kd ?_ | refine ka ?_ _)); refine kf ?_ NB103_106.out _; (with_reducible repeat (first | refine kn ?_ _ | refine kd ?_ | refine ka ?_ _)); refine kf ?_ NB103_106.out _; (with_reducible repeat (first | refine kn ?_ _ | refine kd ?_ | refine ka ?_ _)); refine kf ?_ NB103_106.out _; (with_reducible repeat (first | refine kn ?_ _ | refine kd ?_ | refine ka ?_ _)); exact BK103.out⟩
                        have n1_ : Aside0 (((((w17.setCell ⟨gb106, 0, none⟩ (.int .i64 ((rd_T51 l0_0 x3_1).f0))).setCell ⟨gb106, 1, none⟩ (.int .i64 ((rd_T51 l0_0 x3_1).f1))).setCell ⟨gb106, 2, none⟩ (.int .i64 ((rd_T51 l0_0 x3_1).f2))).setCell ⟨gb106, 3, none⟩ (.bool ((rd_T51 l0_0 x3_1).f3))).heap[gb106]? = some (.cells #[.int .i64 ((rd_T51 l0_0 x3_1).f0), .int .i64 ((rd_T51 l0_0 x3_1).f1), .int .i64 ((rd_T51 l0_0 x3_1).f2), .bool ((rd_T51 l0_0 x3_1).f3)] 51 (0, 0))) := ⟨by (with_reducible repeat (first | refine kn ?_ _ | refine kd ?_ | refine ka ?_ _)); refine blk_put (cs := #[.int .i64 ((rd_T51 l0_0 x3_1).f0), .int .i64 ((rd_T51 l0_0 x3_1).f1), .int .i64 ((rd_T51 l0_0 x3_1).f2), .bool false]) ?_ 3 _ rfl; (with_reducible repeat (first | refine kn ?_ _ | refine kd ?_ | refine ka ?_ _)); refine blk_put (cs := #[.int .i64 ((rd_T51 l0_0 x3_1).f0), .int .i64 ((rd_T51 l0_0 x3_1).f1), .int .i64 0, .bool false]) ?_ 2 _ rfl; (with_reducible repeat (first | refine kn ?_ _ | refine kd ?_ | refine ka ?_ _)); refine blk_put (cs := #[.int .i64 ((rd_T51 l0_0 x3_1).f0), .int .i64 0, .int .i64 0, .bool false]) ?_ 1 _ rfl; (with_reducible repeat (first | refine kn ?_ _ | refine kd ?_ | refine ka ?_ _)); refine blk_put (cs := #[.int .i64 0, .int .i64 0, .int .i64 0, .bool false]) ?_ 0 _ rfl; (with_reducible repeat (first | refine kn ?_ _ | refine kd ?_ | refine ka ?_ _)); exact BK106.out⟩
                        have n2_ : Aside0 (Below w.heap.size w ((((w17.setCell ⟨gb106, 0, none⟩ (.int .i64 ((rd_T51 l0_0 x3_1).f0))).setCell ⟨gb106, 1, none⟩ (.int .i64 ((rd_T51 l0_0 x3_1).f1))).setCell ⟨gb106, 2, none⟩ (.int .i64 ((rd_T51 l0_0 x3_1).f2))).setCell ⟨gb106, 3, none⟩ (.bool ((rd_T51 l0_0 x3_1).f3)))) := ⟨by repeat (first | (with_reducible first | exact HB.out | apply ba | apply bn | apply bd | refine bs ?_ GE103.out | refine bs ?_ GE106.out) | exact HB.out)⟩
                        (try clear BK103)
                        (try clear BK106)
                        (try clear HB)
                        generalize ((((w17.setCell ⟨gb106, 0, none⟩ (.int .i64 ((rd_T51 l0_0 x3_1).f0))).setCell ⟨gb106, 1, none⟩ (.int .i64 ((rd_T51 l0_0 x3_1).f1))).setCell ⟨gb106, 2, none⟩ (.int .i64 ((rd_T51 l0_0 x3_1).f2))).setCell ⟨gb106, 3, none⟩ (.bool ((rd_T51 l0_0 x3_1).f3))) = w20 at n0_ n1_ n2_ ⊢
                        revert n0_ n1_ n2_
                        intro BK103 BK106 HB
                        have n0_ := AM (kd BK103.out)
                        have n1_ := AM (kd BK106.out)
                        have n2_ := AM (bd HB.out)
                        clear BK103 BK106 HB
                        revert n0_ n1_ n2_
                        intro BK103 BK106 HB
                        have p110 : 0 ≤ ((ji12) : Int) := of_decide_eq_true (by first | (with_reducible assumption) | assumption)
                        have q110 : (ji12) < (l0_0.length : Int) := of_decide_eq_true (by first | (with_reducible assumption) | assumption)
                        obtain ⟨ad110, e110, hx110_0, hx110_1, hx110_2, hx110_3⟩ := at_T51 HR0_0.out (ji12) p110 q110
                        have hw110_3 := hx110_3
                        have hw110_2 := hx110_2
                        have hw110_1 := hx110_1
                        have hw110_0 := hx110_0
                        obtain rfl : ad105 = ad110 := (by injection e110)
                        replace hx110_0 := (HB.out.cell (World.block_lt_of_cell? w _ hx110_0)).trans hx110_0
                        replace hx110_1 := (HB.out.cell (World.block_lt_of_cell? w _ hx110_1)).trans hx110_1
                        replace hx110_2 := (HB.out.cell (World.block_lt_of_cell? w _ hx110_2)).trans hx110_2
                        replace hx110_3 := (HB.out.cell (World.block_lt_of_cell? w _ hx110_3)).trans hx110_3
                        replace p110 := eq_true p110
                        replace q110 := eq_true q110
                        refine start_ (n := 43) (S := fun w' => w'.cell? ⟨gb106, 0, none⟩ = some (.int .i64 ((rd_T51 l0_0 x3_1).f0)) ∧ w'.cell? ⟨gb106, 1, none⟩ = some (.int .i64 ((rd_T51 l0_0 x3_1).f1)) ∧ w'.cell? ⟨gb106, 2, none⟩ = some (.int .i64 ((rd_T51 l0_0 x3_1).f2)) ∧ w'.cell? ⟨gb106, 3, none⟩ = some (.bool ((rd_T51 l0_0 x3_1).f3)) ∧ w'.cell? ⟨gb103, 0, none⟩ = some (.slice (some ad105) l0_0.length c0_0) ∧ w'.cell? ⟨gb103, 1, none⟩ = some (.int .i64 a0_1) ∧ w'.cell? (ad105.add (((ji12)).toNat * 4)) = some (.int .i64 ((rd_T51 l0_0 (ji12)).f0)) ∧ w'.cell? ⟨(ad105.add (((ji12)).toNat * 4)).block, (ad105.add (((ji12)).toNat * 4)).off + 1, none⟩ = some (.int .i64 ((rd_T51 l0_0 (ji12)).f1)) ∧ w'.cell? ⟨(ad105.add (((ji12)).toNat * 4)).block, (ad105.add (((ji12)).toNat * 4)).off + 2, none⟩ = some (.int .i64 ((rd_T51 l0_0 (ji12)).f2)) ∧ w'.cell? ⟨(ad105.add (((ji12)).toNat * 4)).block, (ad105.add (((ji12)).toNat * 4)).off + 3, none⟩ = some (.bool ((rd_T51 l0_0 (ji12)).f3))) (ds := []) (mB 43 0x0) (by kernel_rfl) rfl rfl ⟨(kc BK106.out 0).trans rfl, (kc BK106.out 1).trans rfl, (kc BK106.out 2).trans rfl, (kc BK106.out 3).trans rfl, (kc BK103.out 0).trans rfl, (kc BK103.out 1).trans rfl, ((HB.out.cell (World.block_lt_of_cell? w _ hw110_0)).trans hw110_0), ((HB.out.cell (World.block_lt_of_cell? w _ hw110_1)).trans hw110_1), ((HB.out.cell (World.block_lt_of_cell? w _ hw110_2)).trans hw110_2), ((HB.out.cell (World.block_lt_of_cell? w _ hw110_3)).trans hw110_3)⟩ (fun hHeld => ?_); refine with_tabW spec_QueueOk.tab5 spec_QueueOk.bits5 (fun HT_ HW_ => ?_)
                        generalize w20.drew = w21 at BK103 BK106 HB hx110_0 hx110_1 hx110_2 hx110_3 hHeld ⊢
                        refine puY (v := ?_) (a' := ?_) 0 17 (mB 43 0x1) rfl rfl HT_.out (by kernel_rfl) (fun _ _ _ h => h) (by rfl) ?_ ?_ ?_; rotate_left; (focus intro w'; go_simp; with_reducible rfl); rotate_left; (focus simp only [Act.put, sA, sZ, sS, i64_w, i32_w]; rfl)
                        refine take_ (i := 1) (N := some 18) (v := ?_) (a' := ?_) (mB 43 0x3) rfl rfl (take_ofW HT_.out HW_.out (by kernel_rfl)) (fun _ _ _ h => h) (Or.inl ⟨by rfl, ?_⟩) hHeld ?_ ?_
                        rotate_left
                        · rintro w' ⟨s0, s1, s2, s3, s4, s5, s6, s7, s8, s9⟩; go_simp; with_reducible rfl
                        rotate_left
                        · simp only [Act.put, sA, sZ, sS, i64_w, i32_w]; rfl
                        refine one_ (i := 2) (N := some 19) (mB 43 0x7) rfl rfl (one_of HT_.out (by kernel_rfl)) (by decide) (fun K hK => ?_)
                        refine goes_ Try.func16 (by kernel_rfl) rfl #[.int .i64 ((rd_T51 l0_0 x3_1).f0), .int .i64 0, .int .i64 99] (by rfl) rfl rfl (by (try simp only [List.map_toArray, List.map_cons, List.map_nil]); first | done | rfl | (simp only [List.length_drop, List.length_take]; rfl)) ?_
                        with_reducible refine (spec_l6In.calls ((rd_T51 l0_0 x3_1).f0) 0 99 true _ A5.out).mono ?_
                        rintro e w' ⟨rfl, ⟨nd, rfl⟩⟩
                        refine ⟨_, rfl, ?_⟩
                        refine hK.out _ _ ⟨(kc BK106.out 0).trans rfl, (kc BK106.out 1).trans rfl, (kc BK106.out 2).trans rfl, (kc BK106.out 3).trans rfl, (kc BK103.out 0).trans rfl, (kc BK103.out 1).trans rfl, ((HB.out.cell (World.block_lt_of_cell? w _ hw110_0)).trans hw110_0), ((HB.out.cell (World.block_lt_of_cell? w _ hw110_1)).trans hw110_1), ((HB.out.cell (World.block_lt_of_cell? w _ hw110_2)).trans hw110_2), ((HB.out.cell (World.block_lt_of_cell? w _ hw110_3)).trans hw110_3)⟩ (fun hHeld => ?_)
                        clear hK K
                        refine norm_ (a' := ?_) ?_ ?_
                        rotate_left
                        · show Act.put _ (some 19) _ = _
                          simp only [Act.put, sA, sZ, sS, i64_w, i32_w]
                          rfl
                        refine puY (v := ?_) (a' := ?_) 3 20 (mB 43 0xf) rfl rfl HT_.out (by kernel_rfl) (fun _ _ _ h => h) (by rfl) ?_ ?_ ?_; rotate_left; (focus intro w'; go_simp; with_reducible rfl); rotate_left; (focus simp only [Act.put, sA, sZ, sS, i64_w, i32_w]; rfl); refine puY (v := ?_) (a' := ?_) 4 21 (mB 43 0x1f) rfl rfl HT_.out (by kernel_rfl) (fun _ _ _ h => h) (by rfl) ?_ ?_ ?_; rotate_left; (focus intro w'; go_simp; with_reducible rfl); rotate_left; (focus simp only [Act.put, sA, sZ, sS, i64_w, i32_w]; rfl); refine puY (v := ?_) (a' := ?_) 5 22 (mB 43 0x3f) rfl rfl HT_.out (by kernel_rfl) (fun _ _ _ h => h) (by rfl) ?_ ?_ ?_; rotate_left; (focus intro w'; go_simp; with_reducible rfl); rotate_left; (focus simp only [Act.put, sA, sZ, sS, i64_w, i32_w]; rfl)
                        refine take_ (i := 6) (N := some 23) (v := ?_) (a' := ?_) (mB 43 0x7f) rfl rfl (take_ofW HT_.out HW_.out (by kernel_rfl)) (fun _ _ _ h => h) (Or.inl ⟨by rfl, ?_⟩) hHeld ?_ ?_
                        rotate_left
                        · rintro w' ⟨s0, s1, s2, s3, s4, s5, s6, s7, s8, s9⟩; go_simp; with_reducible rfl
                        rotate_left
                        · simp only [Act.put, sA, sZ, sS, i64_w, i32_w]; rfl
                        refine one_ (i := 7) (N := some 24) (mB 43 0xff) rfl rfl (one_of HT_.out (by kernel_rfl)) (by decide) (fun K hK => ?_)
                        refine goes_ Try.func16 (by kernel_rfl) rfl #[.int .i64 ((rd_T51 l0_0 x3_1).f1), .int .i64 1, .int .i64 6] (by rfl) rfl rfl (by (try simp only [List.map_toArray, List.map_cons, List.map_nil]); first | done | rfl | (simp only [List.length_drop, List.length_take]; rfl)) ?_
                        with_reducible refine (spec_l6In.calls ((rd_T51 l0_0 x3_1).f1) 1 6 true _ A7.out).mono ?_
                        rintro e w' ⟨rfl, ⟨nd, rfl⟩⟩
                        refine ⟨_, rfl, ?_⟩
                        refine hK.out _ _ ⟨(kc BK106.out 0).trans rfl, (kc BK106.out 1).trans rfl, (kc BK106.out 2).trans rfl, (kc BK106.out 3).trans rfl, (kc BK103.out 0).trans rfl, (kc BK103.out 1).trans rfl, ((HB.out.cell (World.block_lt_of_cell? w _ hw110_0)).trans hw110_0), ((HB.out.cell (World.block_lt_of_cell? w _ hw110_1)).trans hw110_1), ((HB.out.cell (World.block_lt_of_cell? w _ hw110_2)).trans hw110_2), ((HB.out.cell (World.block_lt_of_cell? w _ hw110_3)).trans hw110_3)⟩ (fun hHeld => ?_)
                        clear hK K
                        refine norm_ (a' := ?_) ?_ ?_
                        rotate_left
                        · show Act.put _ (some 24) _ = _
                          simp only [Act.put, sA, sZ, sS, i64_w, i32_w]
                          rfl
                        refine puY (v := ?_) (a' := ?_) 8 25 (mB 43 0x1ff) rfl rfl HT_.out (by kernel_rfl) (fun _ _ _ h => h) (by rfl) ?_ ?_ ?_; rotate_left; (focus intro w'; go_simp; with_reducible rfl); rotate_left; (focus simp only [Act.put, sA, sZ, sS, i64_w, i32_w]; rfl); refine puY (v := ?_) (a' := ?_) 9 26 (mB 43 0x3ff) rfl rfl HT_.out (by kernel_rfl) (fun _ _ _ h => h) (by rfl) ?_ ?_ ?_; rotate_left; (focus intro w'; go_simp; with_reducible rfl); rotate_left; (focus simp only [Act.put, sA, sZ, sS, i64_w, i32_w]; rfl); refine puY (v := ?_) (a' := ?_) 10 27 (mB 43 0x7ff) rfl rfl HT_.out (by kernel_rfl) (fun _ _ _ h => h) (by rfl) ?_ ?_ ?_; rotate_left; (focus intro w'; go_simp; with_reducible rfl); rotate_left; (focus simp only [Act.put, sA, sZ, sS, i64_w, i32_w]; rfl); refine puY (v := ?_) (a' := ?_) 11 28 (mB 43 0xfff) rfl rfl HT_.out (by kernel_rfl) (fun _ _ _ h => h) (by rfl) ?_ ?_ ?_; rotate_left; (focus intro w'; go_simp; with_reducible rfl); rotate_left; (focus simp only [Act.put, sA, sZ, sS, i64_w, i32_w]; rfl)
                        refine take_ (i := 12) (N := some 29) (v := ?_) (a' := ?_) (mB 43 0x1fff) rfl rfl (take_ofW HT_.out HW_.out (by kernel_rfl)) (fun _ _ _ h => h) (Or.inl ⟨by rfl, ?_⟩) hHeld ?_ ?_
                        rotate_left
                        · rintro w' ⟨s0, s1, s2, s3, s4, s5, s6, s7, s8, s9⟩; go_simp; with_reducible rfl
                        rotate_left
                        · simp only [Act.put, sA, sZ, sS, i64_w, i32_w]; rfl
                        refine one_ (i := 13) (N := some 30) (mB 43 0x3fff) rfl rfl (one_of HT_.out (by kernel_rfl)) (by decide) (fun K hK => ?_)
                        refine goes_ Try.func16 (by kernel_rfl) rfl #[.int .i64 ((rd_T51 l0_0 x3_1).f2), .int .i64 0, .int .i64 1000000] (by rfl) rfl rfl (by (try simp only [List.map_toArray, List.map_cons, List.map_nil]); first | done | rfl | (simp only [List.length_drop, List.length_take]; rfl)) ?_
                        with_reducible refine (spec_l6In.calls ((rd_T51 l0_0 x3_1).f2) 0 1000000 true _ A9.out).mono ?_
                        rintro e w' ⟨rfl, ⟨nd, rfl⟩⟩
                        refine ⟨_, rfl, ?_⟩
                        refine hK.out _ _ ⟨(kc BK106.out 0).trans rfl, (kc BK106.out 1).trans rfl, (kc BK106.out 2).trans rfl, (kc BK106.out 3).trans rfl, (kc BK103.out 0).trans rfl, (kc BK103.out 1).trans rfl, ((HB.out.cell (World.block_lt_of_cell? w _ hw110_0)).trans hw110_0), ((HB.out.cell (World.block_lt_of_cell? w _ hw110_1)).trans hw110_1), ((HB.out.cell (World.block_lt_of_cell? w _ hw110_2)).trans hw110_2), ((HB.out.cell (World.block_lt_of_cell? w _ hw110_3)).trans hw110_3)⟩ (fun hHeld => ?_)
                        clear hK K
                        refine norm_ (a' := ?_) ?_ ?_
                        rotate_left
                        · show Act.put _ (some 30) _ = _
                          simp only [Act.put, sA, sZ, sS, i64_w, i32_w]
                          rfl
                        refine puY (v := ?_) (a' := ?_) 14 31 (mB 43 0x7fff) rfl rfl HT_.out (by kernel_rfl) (fun _ _ _ h => h) (by rfl) ?_ ?_ ?_; rotate_left; (focus intro w'; go_simp; with_reducible rfl); rotate_left; (focus simp only [Act.put, sA, sZ, sS, i64_w, i32_w]; rfl); refine puY (v := ?_) (a' := ?_) 15 32 (mB 43 0xffff) rfl rfl HT_.out (by kernel_rfl) (fun _ _ _ h => h) (by rfl) ?_ ?_ ?_; rotate_left; (focus intro w'; go_simp; with_reducible rfl); rotate_left; (focus simp only [Act.put, sA, sZ, sS, i64_w, i32_w]; rfl); refine puY (v := ?_) (a' := ?_) 16 33 (mB 43 0x1ffff) rfl rfl HT_.out (by kernel_rfl) (fun _ _ _ h => h) (by rfl) ?_ ?_ ?_; rotate_left; (focus intro w'; go_simp; with_reducible rfl); rotate_left; (focus simp only [Act.put, sA, sZ, sS, i64_w, i32_w]; rfl); refine puY (v := ?_) (a' := ?_) 17 34 (mB 43 0x3ffff) rfl rfl HT_.out (by kernel_rfl) (fun _ _ _ h => h) (by rfl) ?_ ?_ ?_; rotate_left; (focus intro w'; go_simp; with_reducible rfl); rotate_left; (focus simp only [Act.put, sA, sZ, sS, i64_w, i32_w]; rfl); refine puY (v := ?_) (a' := ?_) 18 35 (mB 43 0x7ffff) rfl rfl HT_.out (by kernel_rfl) (fun _ _ _ h => h) (by rfl) ?_ ?_ ?_; rotate_left; (focus intro w'; go_simp; with_reducible rfl); rotate_left; (focus simp only [Act.put, sA, sZ, sS, i64_w, i32_w]; rfl); refine puY (v := ?_) (a' := ?_) 19 36 (mB 43 0xfffff) rfl rfl HT_.out (by kernel_rfl) (fun _ _ _ h => h) (by rfl) ?_ ?_ ?_; rotate_left; (focus intro w'; go_simp; with_reducible rfl); rotate_left; (focus simp only [Act.put, sA, sZ, sS, i64_w, i32_w]; rfl); refine puY (v := ?_) (a' := ?_) 20 37 (mB 43 0x1fffff) rfl rfl HT_.out (by kernel_rfl) (fun _ _ _ h => h) (by rfl) ?_ ?_ ?_; rotate_left; (focus intro w'; go_simp; with_reducible rfl); rotate_left; (focus simp only [Act.put, sA, sZ, sS, i64_w, i32_w]; rfl); refine puY (v := ?_) (a' := ?_) 22 39 (mB 43 0x5fffff) rfl rfl HT_.out (by kernel_rfl) (fun _ _ _ h => h) (by rfl) ?_ ?_ ?_; rotate_left; (focus intro w'; go_simp; with_reducible rfl); rotate_left; (focus simp only [Act.put, sA, sZ, sS, i64_w, i32_w]; rfl); refine puY (v := ?_) (a' := ?_) 23 40 (mB 43 0xdfffff) rfl rfl HT_.out (by kernel_rfl) (fun _ _ _ h => h) (by rfl) ?_ ?_ ?_; rotate_left; (focus intro w'; go_simp; with_reducible rfl); rotate_left; (focus simp only [Act.put, sA, sZ, sS, i64_w, i32_w]; rfl); refine puY (v := ?_) (a' := ?_) 27 44 (mB 43 0x8dfffff) rfl rfl HT_.out (by kernel_rfl) (fun _ _ _ h => h) (by rfl) ?_ ?_ ?_; rotate_left; (focus intro w'; go_simp; with_reducible rfl); rotate_left; (focus simp only [Act.put, sA, sZ, sS, i64_w, i32_w]; rfl)
                        refine take_ (i := 21) (N := some 38) (v := ?_) (a' := ?_) (mB 43 0x8ffffff) rfl rfl (take_ofW HT_.out HW_.out (by kernel_rfl)) (fun _ _ _ h => h) (Or.inl ⟨by rfl, ?_⟩) hHeld ?_ ?_
                        rotate_left
                        · rintro w' ⟨s0, s1, s2, s3, s4, s5, s6, s7, s8, s9⟩; go_simp; with_reducible rfl
                        rotate_left
                        · simp only [Act.put, sA, sZ, sS, i64_w, i32_w]; rfl
                        refine puY (v := ?_) (a' := ?_) 24 41 (mB 43 0x9ffffff) rfl rfl HT_.out (by kernel_rfl) (fun _ _ _ h => h) (by rfl) ?_ ?_ ?_; rotate_left; (focus intro w'; go_simp; with_reducible rfl); rotate_left; (focus simp only [Act.put, sA, sZ, sS, i64_w, i32_w]; rfl); refine puY (v := ?_) (a' := ?_) 25 42 (mB 43 0xbffffff) rfl rfl HT_.out (by kernel_rfl) (fun _ _ _ h => h) (by rfl) ?_ ?_ ?_; rotate_left; (focus intro w'; go_simp; with_reducible rfl); rotate_left; (focus simp only [Act.put, sA, sZ, sS, i64_w, i32_w]; rfl)
                        refine take_ (i := 26) (N := some 43) (v := ?_) (a' := ?_) (mB 43 0xfffffff) rfl rfl (take_ofW HT_.out HW_.out (by kernel_rfl)) (fun _ _ _ h => h) (Or.inl ⟨by rfl, ?_⟩) hHeld ?_ ?_
                        rotate_left
                        · rintro w' ⟨s0, s1, s2, s3, s4, s5, s6, s7, s8, s9⟩; go_simp; with_reducible rfl
                        rotate_left
                        · simp only [Act.put, sA, sZ, sS, i64_w, i32_w]; rfl
                        refine take_ (i := 28) (N := some 45) (v := ?_) (a' := ?_) (mB 43 0x1fffffff) rfl rfl (take_ofW HT_.out HW_.out (by kernel_rfl)) (fun _ _ _ h => h) (Or.inl ⟨by rfl, ?_⟩) hHeld ?_ ?_
                        rotate_left
                        · rintro w' ⟨s0, s1, s2, s3, s4, s5, s6, s7, s8, s9⟩; go_simp; with_reducible rfl
                        rotate_left
                        · simp only [Act.put, sA, sZ, sS, i64_w, i32_w]; rfl
                        refine puY (v := ?_) (a' := ?_) 29 46 (mB 43 0x3fffffff) rfl rfl HT_.out (by kernel_rfl) (fun _ _ _ h => h) (by rfl) ?_ ?_ ?_; rotate_left; (focus intro w'; go_simp; with_reducible rfl); rotate_left; (focus simp only [Act.put, sA, sZ, sS, i64_w, i32_w]; rfl); refine puY (v := ?_) (a' := ?_) 30 47 (mB 43 0x7fffffff) rfl rfl HT_.out (by kernel_rfl) (fun _ _ _ h => h) (by rfl) ?_ ?_ ?_; rotate_left; (focus intro w'; go_simp; with_reducible rfl); rotate_left; (focus simp only [Act.put, sA, sZ, sS, i64_w, i32_w]; rfl); refine puY (v := ?_) (a' := ?_) 31 48 (mB 43 0xffffffff) rfl rfl HT_.out (by kernel_rfl) (fun _ _ _ h => h) (by rfl) ?_ ?_ ?_; rotate_left; (focus intro w'; go_simp; with_reducible rfl); rotate_left; (focus simp only [Act.put, sA, sZ, sS, i64_w, i32_w]; rfl); refine puY (v := ?_) (a' := ?_) 32 49 (mB 43 0x1ffffffff) rfl rfl HT_.out (by kernel_rfl) (fun _ _ _ h => h) (by rfl) ?_ ?_ ?_; rotate_left; (focus intro w'; go_simp; with_reducible rfl); rotate_left; (focus simp only [Act.put, sA, sZ, sS, i64_w, i32_w]; rfl); refine puM 33 50 (mB 43 0x3ffffffff) rfl rfl HT_.out (by kernel_rfl) (fun _ _ _ h => h) (by rfl) ?_; refine puM 34 51 (mB 43 0x7ffffffff) rfl rfl HT_.out (by kernel_rfl) (fun _ _ _ h => h) (by rfl) ?_; refine puN (a' := ?_) 35 52 (mB 43 0xfffffffff) rfl rfl HT_.out (by kernel_rfl) (fun _ _ _ h => h) (by rfl) ?_ ?_; rotate_left; (focus simp only [Act.put, sA, sZ, sS, i64_w, i32_w]; rfl); refine puM 36 53 (mB 43 0x1fffffffff) rfl rfl HT_.out (by kernel_rfl) (fun _ _ _ h => h) (by rfl) ?_; refine puM 37 54 (mB 43 0x3fffffffff) rfl rfl HT_.out (by kernel_rfl) (fun _ _ _ h => h) (by rfl) ?_; refine puN (a' := ?_) 38 55 (mB 43 0x7fffffffff) rfl rfl HT_.out (by kernel_rfl) (fun _ _ _ h => h) (by rfl) ?_ ?_; rotate_left; (focus simp only [Act.put, sA, sZ, sS, i64_w, i32_w]; rfl); refine puM 39 56 (mB 43 0xffffffffff) rfl rfl HT_.out (by kernel_rfl) (fun _ _ _ h => h) (by rfl) ?_; refine puM 40 57 (mB 43 0x1ffffffffff) rfl rfl HT_.out (by kernel_rfl) (fun _ _ _ h => h) (by rfl) ?_; refine puN (a' := ?_) 41 58 (mB 43 0x3ffffffffff) rfl rfl HT_.out (by kernel_rfl) (fun _ _ _ h => h) (by rfl) ?_ ?_; rotate_left; (focus simp only [Act.put, sA, sZ, sS, i64_w, i32_w]; rfl); refine puY (v := ?_) (a' := ?_) 42 59 (mB 43 0x7ffffffffff) rfl rfl HT_.out (by kernel_rfl) (fun _ _ _ h => h) (by rfl) ?_ ?_ ?_; rotate_left; (focus intro w'; go_simp; with_reducible rfl); rotate_left; (focus simp only [Act.put, sA, sZ, sS, i64_w, i32_w]; rfl)
                        refine done_ (done_of HT_.out (by kernel_rfl)) ?_
                        try go_wp2
                        go_ret
                        exact ⟨by first | rfl | (simp [errW_none, errW_some] <;> rfl) | (simp only [← hji12]; first | rfl | (simp [errW_none, errW_some] <;> rfl)) | (simp [*, errW_none, errW_some] <;> rfl), by repeat (first | (with_reducible first | exact HB.out | apply ba | apply bn | apply bd | refine bs ?_ GE103.out | refine bs ?_ GE106.out) | exact HB.out)⟩
                      · rw [if_neg c15] at H
                        have c15b0 : decide (((rd_T51 l0_0 x3_1).f0) ≤ ((rd_T51 l0_0 (ji12)).f0)) = false := decide_eq_false c15
                        clear c15
                        obtain ⟨bq22, hbq22⟩ : ∃ b_ : Bool, b_ = ((rd_T51 l0_0 x3_1).f3) := ⟨_, rfl⟩
                        replace H : (if bq22 = true then (if ((rd_T51 l0_0 x3_1).f2) < a0_1 then (some false) else (spec_QueueOk.l0 k1 (wrap64 (x3_1 + 1)) l0_0 a0_1)) else (spec_QueueOk.l0 k1 (wrap64 (x3_1 + 1)) l0_0 a0_1)) = some r := by rw [← hbq22] at H; exact H
                        have Nbq22 := AM hbq22
                        clear hbq22
                        by_cases c23 : bq22 = true
                        · subst c23
                          have H1 : (if ((rd_T51 l0_0 x3_1).f2) < a0_1 then (some false) else (spec_QueueOk.l0 k1 (wrap64 (x3_1 + 1)) l0_0 a0_1)) = some r := by rw [if_pos rfl] at H; exact H
                          clear H
                          have H := H1
                          clear H1
                          by_cases c24 : ((rd_T51 l0_0 x3_1).f2) < a0_1
                          · rw [if_pos c24] at H
                            have c24b0 : decide (((rd_T51 l0_0 x3_1).f2) < a0_1) = true := decide_eq_true c24
                            clear c24
                            obtain rfl := Option.some.inj H
                            have hcz25_0 : wr.cell? ⟨gb103, 0, none⟩ = some (.slice A0_0 l0_0.length c0_0) := (kc BK103.out 0).trans rfl
                            have hcz25_1 : wr.cell? ⟨gb103, 1, none⟩ = some (.int .i64 a0_1) := (kc BK103.out 1).trans rfl
                            have hfz25_0 := kz BK103.out 0
                            have hfz25_1 := kz BK103.out 1
                            have p105 : 0 ≤ (x3_1 : Int) := of_decide_eq_true (by first | (with_reducible assumption) | assumption)
                            have q105 : x3_1 < (l0_0.length : Int) := of_decide_eq_true (by first | (with_reducible assumption) | assumption)
                            obtain ⟨ad105, e105, hx105_0, hx105_1, hx105_2, hx105_3⟩ := at_T51 HR0_0.out x3_1 p105 q105
                            (try rw [← Nbq22.out] at hx105_3)
                            cases e105
                            replace hx105_0 := (HB.out.cell (World.block_lt_of_cell? w _ hx105_0)).trans hx105_0
                            replace hx105_1 := (HB.out.cell (World.block_lt_of_cell? w _ hx105_1)).trans hx105_1
                            replace hx105_2 := (HB.out.cell (World.block_lt_of_cell? w _ hx105_2)).trans hx105_2
                            replace hx105_3 := (HB.out.cell (World.block_lt_of_cell? w _ hx105_3)).trans hx105_3
                            replace p105 := eq_true p105
                            replace q105 := eq_true q105
                            try go_wp2_with (first | ((with_reducible refine gd (N := 4) rfl ?_); refine xe ?hg (N := 4) ?hd (cs := #[.int .i64 0, .int .i64 0, .int .i64 0, .bool false]) (t := 51) ?hr ?_; (case hd => rfl); (case hg => rfl); (case hr => first | (go_simp; done) | (go_simp; rfl)); intro gb106 hg w26 hbox hb; have n0_ := AM (kb (g := gb103) (o := .cells #[.slice (some ad105) l0_0.length c0_0, .int .i64 a0_1] 28 (0, 0)) (lfK BK103.out) hb); have n1_ := AM (bp (by repeat (first | (with_reducible first | exact HB.out | apply ba | apply bn | apply bd | refine bs ?_ GE103.out) | exact HB.out)) hb); have n2_ := AM (hbox); have n3_ := AM ((by rw [hg]; exact (bz (by repeat (first | (with_reducible first | exact HB.out | apply ba | apply bn | apply bd | refine bs ?_ GE103.out) | exact HB.out))) : w.heap.size ≤ gb106)); have n4_ := AM ((by rw [hg]; exact (bz (by repeat (first | (with_reducible first | exact HB.out | apply ba | apply bn | apply bd | refine bs ?_ GE103.out) | exact HB.out))) : w.heap.size ≤ gb106)); have n5_ := AM ((by rw [hg]; exact Nat.ne_of_lt (blk_lt (g := gb103) (o := .cells #[.slice (some ad105) l0_0.length c0_0, .int .i64 a0_1] 28 (0, 0)) (lfK BK103.out)) : gb103 ≠ gb106)); have n6_ := AM ((by rw [hg]; exact Nat.ne_of_gt (blk_lt (g := gb103) (o := .cells #[.slice (some ad105) l0_0.length c0_0, .int .i64 a0_1] 28 (0, 0)) (lfK BK103.out)) : gb106 ≠ gb103)); clear BK103 HB; revert n0_ n1_ n2_ n3_ n4_ n5_ n6_; intro BK103 HB BK106 GW106 GE106 NB103_106 NB106_103; clear hb hbox hg; have hnb27 := NB106_103.out; have hnc27 := NB103_106.out; have hcz28_0 : w26.cell? ⟨gb106, 0, none⟩ = some (.int .i64 0) := (kc BK106.out 0).trans rfl; have hcz28_1 : w26.cell? ⟨gb106, 1, none⟩ = some (.int .i64 0) := (kc BK106.out 1).trans rfl; have hcz28_2 : w26.cell? ⟨gb106, 2, none⟩ = some (.int .i64 0) := (kc BK106.out 2).trans rfl; have hcz28_3 : w26.cell? ⟨gb106, 3, none⟩ = some (.bool false) := (kc BK106.out 3).trans rfl; have hfz28_0 := kz BK106.out 0; have hfz28_1 := kz BK106.out 1; have hfz28_2 := kz BK106.out 2; have hfz28_3 := kz BK106.out 3))
                            have n0_ : Aside0 (((((w26.setCell ⟨gb106, 0, none⟩ (.int .i64 ((rd_T51 l0_0 x3_1).f0))).setCell ⟨gb106, 1, none⟩ (.int .i64 ((rd_T51 l0_0 x3_1).f1))).setCell ⟨gb106, 2, none⟩ (.int .i64 ((rd_T51 l0_0 x3_1).f2))).setCell ⟨gb106, 3, none⟩ (.bool true)).heap[gb103]? = some (.cells #[.slice (some ad105) l0_0.length c0_0, .int .i64 a0_1] 28 (0, 0))) := ⟨by (with_reducible repeat (first | refine kn ?_ _ | refine kd ?_ | refine ka ?_ _)); refine kf ?_ NB103_106.out _; (with_reducible repeat (first | refine kn ?_ _ | refine kd ?_ | refine ka ?_ _)); refine kf ?_ NB103_106.out _; (with_reducible repeat (first | refine kn ?_ _ | refine kd ?_ | refine ka ?_ _)); refine kf ?_ NB103_106.out _; (with_reducible repeat (first | refine kn ?_ _ | refine kd ?_ | refine ka ?_ _)); refine kf ?_ NB103_106.out _; (with_reducible repeat (first | refine kn ?_ _ | refine kd ?_ | refine ka ?_ _)); exact BK103.out⟩
                            have n1_ : Aside0 (((((w26.setCell ⟨gb106, 0, none⟩ (.int .i64 ((rd_T51 l0_0 x3_1).f0))).setCell ⟨gb106, 1, none⟩ (.int .i64 ((rd_T51 l0_0 x3_1).f1))).setCell ⟨gb106, 2, none⟩ (.int .i64 ((rd_T51 l0_0 x3_1).f2))).setCell ⟨gb106, 3, none⟩ (.bool true)).heap[gb106]? = some (.cells #[.int .i64 ((rd_T51 l0_0 x3_1).f0), .int .i64 ((rd_T51 l0_0 x3_1).f1), .int .i64 ((rd_T51 l0_0 x3_1).f2), .bool true] 51 (0, 0))) := ⟨by (with_reducible repeat (first | refine kn ?_ _ | refine kd ?_ | refine ka ?_ _)); refine blk_put (cs := #[.int .i64 ((rd_T51 l0_0 x3_1).f0), .int .i64 ((rd_T51 l0_0 x3_1).f1), .int .i64 ((rd_T51 l0_0 x3_1).f2), .bool false]) ?_ 3 _ rfl; (with_reducible repeat (first | refine kn ?_ _ | refine kd ?_ | refine ka ?_ _)); refine blk_put (cs := #[.int .i64 ((rd_T51 l0_0 x3_1).f0), .int .i64 ((rd_T51 l0_0 x3_1).f1), .int .i64 0, .bool false]) ?_ 2 _ rfl; (with_reducible repeat (first | refine kn ?_ _ | refine kd ?_ | refine ka ?_ _)); refine blk_put (cs := #[.int .i64 ((rd_T51 l0_0 x3_1).f0), .int .i64 0, .int .i64 0, .bool false]) ?_ 1 _ rfl; (with_reducible repeat (first | refine kn ?_ _ | refine kd ?_ | refine ka ?_ _)); refine blk_put (cs := #[.int .i64 0, .int .i64 0, .int .i64 0, .bool false]) ?_ 0 _ rfl; (with_reducible repeat (first | refine kn ?_ _ | refine kd ?_ | refine ka ?_ _)); exact BK106.out⟩
                            have n2_ : Aside0 (Below w.heap.size w ((((w26.setCell ⟨gb106, 0, none⟩ (.int .i64 ((rd_T51 l0_0 x3_1).f0))).setCell ⟨gb106, 1, none⟩ (.int .i64 ((rd_T51 l0_0 x3_1).f1))).setCell ⟨gb106, 2, none⟩ (.int .i64 ((rd_T51 l0_0 x3_1).f2))).setCell ⟨gb106, 3, none⟩ (.bool true))) := ⟨by repeat (first | (with_reducible first | exact HB.out | apply ba | apply bn | apply bd | refine bs ?_ GE103.out | refine bs ?_ GE106.out) | exact HB.out)⟩
                            (try clear BK103)
                            (try clear BK106)
                            (try clear HB)
                            generalize ((((w26.setCell ⟨gb106, 0, none⟩ (.int .i64 ((rd_T51 l0_0 x3_1).f0))).setCell ⟨gb106, 1, none⟩ (.int .i64 ((rd_T51 l0_0 x3_1).f1))).setCell ⟨gb106, 2, none⟩ (.int .i64 ((rd_T51 l0_0 x3_1).f2))).setCell ⟨gb106, 3, none⟩ (.bool true)) = w29 at n0_ n1_ n2_ ⊢
                            revert n0_ n1_ n2_
                            intro BK103 BK106 HB
                            have n0_ := AM (kd BK103.out)
                            have n1_ := AM (kd BK106.out)
                            have n2_ := AM (bd HB.out)
                            clear BK103 BK106 HB
                            revert n0_ n1_ n2_
                            intro BK103 BK106 HB
                            have p110 : 0 ≤ ((ji12) : Int) := of_decide_eq_true (by first | (with_reducible assumption) | assumption)
                            have q110 : (ji12) < (l0_0.length : Int) := of_decide_eq_true (by first | (with_reducible assumption) | assumption)
                            obtain ⟨ad110, e110, hx110_0, hx110_1, hx110_2, hx110_3⟩ := at_T51 HR0_0.out (ji12) p110 q110
                            have hw110_3 := hx110_3
                            have hw110_2 := hx110_2
                            have hw110_1 := hx110_1
                            have hw110_0 := hx110_0
                            (try rw [← Nbq22.out] at hx110_3)
                            obtain rfl : ad105 = ad110 := (by injection e110)
                            replace hx110_0 := (HB.out.cell (World.block_lt_of_cell? w _ hx110_0)).trans hx110_0
                            replace hx110_1 := (HB.out.cell (World.block_lt_of_cell? w _ hx110_1)).trans hx110_1
                            replace hx110_2 := (HB.out.cell (World.block_lt_of_cell? w _ hx110_2)).trans hx110_2
                            replace hx110_3 := (HB.out.cell (World.block_lt_of_cell? w _ hx110_3)).trans hx110_3
                            replace p110 := eq_true p110
                            replace q110 := eq_true q110
                            refine start_ (n := 43) (S := fun w' => w'.cell? ⟨gb106, 0, none⟩ = some (.int .i64 ((rd_T51 l0_0 x3_1).f0)) ∧ w'.cell? ⟨gb106, 1, none⟩ = some (.int .i64 ((rd_T51 l0_0 x3_1).f1)) ∧ w'.cell? ⟨gb106, 2, none⟩ = some (.int .i64 ((rd_T51 l0_0 x3_1).f2)) ∧ w'.cell? ⟨gb106, 3, none⟩ = some (.bool true) ∧ w'.cell? ⟨gb103, 0, none⟩ = some (.slice (some ad105) l0_0.length c0_0) ∧ w'.cell? ⟨gb103, 1, none⟩ = some (.int .i64 a0_1) ∧ w'.cell? (ad105.add (((ji12)).toNat * 4)) = some (.int .i64 ((rd_T51 l0_0 (ji12)).f0)) ∧ w'.cell? ⟨(ad105.add (((ji12)).toNat * 4)).block, (ad105.add (((ji12)).toNat * 4)).off + 1, none⟩ = some (.int .i64 ((rd_T51 l0_0 (ji12)).f1)) ∧ w'.cell? ⟨(ad105.add (((ji12)).toNat * 4)).block, (ad105.add (((ji12)).toNat * 4)).off + 2, none⟩ = some (.int .i64 ((rd_T51 l0_0 (ji12)).f2)) ∧ w'.cell? ⟨(ad105.add (((ji12)).toNat * 4)).block, (ad105.add (((ji12)).toNat * 4)).off + 3, none⟩ = some (.bool ((rd_T51 l0_0 (ji12)).f3))) (ds := []) (mB 43 0x0) (by kernel_rfl) rfl rfl ⟨(kc BK106.out 0).trans rfl, (kc BK106.out 1).trans rfl, (kc BK106.out 2).trans rfl, (kc BK106.out 3).trans rfl, (kc BK103.out 0).trans rfl, (kc BK103.out 1).trans rfl, ((HB.out.cell (World.block_lt_of_cell? w _ hw110_0)).trans hw110_0), ((HB.out.cell (World.block_lt_of_cell? w _ hw110_1)).trans hw110_1), ((HB.out.cell (World.block_lt_of_cell? w _ hw110_2)).trans hw110_2), ((HB.out.cell (World.block_lt_of_cell? w _ hw110_3)).trans hw110_3)⟩ (fun hHeld => ?_); refine with_tabW spec_QueueOk.tab5 spec_QueueOk.bits5 (fun HT_ HW_ => ?_)
                            generalize w29.drew = w30 at BK103 BK106 HB hx110_0 hx110_1 hx110_2 hx110_3 hHeld ⊢
                            refine puY (v := ?_) (a' := ?_) 0 17 (mB 43 0x1) rfl rfl HT_.out (by kernel_rfl) (fun _ _ _ h => h) (by rfl) ?_ ?_ ?_; rotate_left; (focus intro w'; go_simp; with_reducible rfl); rotate_left; (focus simp only [Act.put, sA, sZ, sS, i64_w, i32_w]; rfl)
                            refine take_ (i := 1) (N := some 18) (v := ?_) (a' := ?_) (mB 43 0x3) rfl rfl (take_ofW HT_.out HW_.out (by kernel_rfl)) (fun _ _ _ h => h) (Or.inl ⟨by rfl, ?_⟩) hHeld ?_ ?_
                            rotate_left
                            · rintro w' ⟨s0, s1, s2, s3, s4, s5, s6, s7, s8, s9⟩; go_simp; with_reducible rfl
                            rotate_left
                            · simp only [Act.put, sA, sZ, sS, i64_w, i32_w]; rfl
                            refine one_ (i := 2) (N := some 19) (mB 43 0x7) rfl rfl (one_of HT_.out (by kernel_rfl)) (by decide) (fun K hK => ?_)
                            refine goes_ Try.func16 (by kernel_rfl) rfl #[.int .i64 ((rd_T51 l0_0 x3_1).f0), .int .i64 0, .int .i64 99] (by rfl) rfl rfl (by (try simp only [List.map_toArray, List.map_cons, List.map_nil]); first | done | rfl | (simp only [List.length_drop, List.length_take]; rfl)) ?_
                            with_reducible refine (spec_l6In.calls ((rd_T51 l0_0 x3_1).f0) 0 99 true _ A5.out).mono ?_
                            rintro e w' ⟨rfl, ⟨nd, rfl⟩⟩
                            refine ⟨_, rfl, ?_⟩
                            refine hK.out _ _ ⟨(kc BK106.out 0).trans rfl, (kc BK106.out 1).trans rfl, (kc BK106.out 2).trans rfl, (kc BK106.out 3).trans rfl, (kc BK103.out 0).trans rfl, (kc BK103.out 1).trans rfl, ((HB.out.cell (World.block_lt_of_cell? w _ hw110_0)).trans hw110_0), ((HB.out.cell (World.block_lt_of_cell? w _ hw110_1)).trans hw110_1), ((HB.out.cell (World.block_lt_of_cell? w _ hw110_2)).trans hw110_2), ((HB.out.cell (World.block_lt_of_cell? w _ hw110_3)).trans hw110_3)⟩ (fun hHeld => ?_)
                            clear hK K
                            refine norm_ (a' := ?_) ?_ ?_
                            rotate_left
                            · show Act.put _ (some 19) _ = _
                              simp only [Act.put, sA, sZ, sS, i64_w, i32_w]
                              rfl
                            refine puY (v := ?_) (a' := ?_) 3 20 (mB 43 0xf) rfl rfl HT_.out (by kernel_rfl) (fun _ _ _ h => h) (by rfl) ?_ ?_ ?_; rotate_left; (focus intro w'; go_simp; with_reducible rfl); rotate_left; (focus simp only [Act.put, sA, sZ, sS, i64_w, i32_w]; rfl); refine puY (v := ?_) (a' := ?_) 4 21 (mB 43 0x1f) rfl rfl HT_.out (by kernel_rfl) (fun _ _ _ h => h) (by rfl) ?_ ?_ ?_; rotate_left; (focus intro w'; go_simp; with_reducible rfl); rotate_left; (focus simp only [Act.put, sA, sZ, sS, i64_w, i32_w]; rfl); refine puY (v := ?_) (a' := ?_) 5 22 (mB 43 0x3f) rfl rfl HT_.out (by kernel_rfl) (fun _ _ _ h => h) (by rfl) ?_ ?_ ?_; rotate_left; (focus intro w'; go_simp; with_reducible rfl); rotate_left; (focus simp only [Act.put, sA, sZ, sS, i64_w, i32_w]; rfl)
                            refine take_ (i := 6) (N := some 23) (v := ?_) (a' := ?_) (mB 43 0x7f) rfl rfl (take_ofW HT_.out HW_.out (by kernel_rfl)) (fun _ _ _ h => h) (Or.inl ⟨by rfl, ?_⟩) hHeld ?_ ?_
                            rotate_left
                            · rintro w' ⟨s0, s1, s2, s3, s4, s5, s6, s7, s8, s9⟩; go_simp; with_reducible rfl
                            rotate_left
                            · simp only [Act.put, sA, sZ, sS, i64_w, i32_w]; rfl
                            refine one_ (i := 7) (N := some 24) (mB 43 0xff) rfl rfl (one_of HT_.out (by kernel_rfl)) (by decide) (fun K hK => ?_)
                            refine goes_ Try.func16 (by kernel_rfl) rfl #[.int .i64 ((rd_T51 l0_0 x3_1).f1), .int .i64 1, .int .i64 6] (by rfl) rfl rfl (by (try simp only [List.map_toArray, List.map_cons, List.map_nil]); first | done | rfl | (simp only [List.length_drop, List.length_take]; rfl)) ?_
                            with_reducible refine (spec_l6In.calls ((rd_T51 l0_0 x3_1).f1) 1 6 true _ A7.out).mono ?_
                            rintro e w' ⟨rfl, ⟨nd, rfl⟩⟩
                            refine ⟨_, rfl, ?_⟩
                            refine hK.out _ _ ⟨(kc BK106.out 0).trans rfl, (kc BK106.out 1).trans rfl, (kc BK106.out 2).trans rfl, (kc BK106.out 3).trans rfl, (kc BK103.out 0).trans rfl, (kc BK103.out 1).trans rfl, ((HB.out.cell (World.block_lt_of_cell? w _ hw110_0)).trans hw110_0), ((HB.out.cell (World.block_lt_of_cell? w _ hw110_1)).trans hw110_1), ((HB.out.cell (World.block_lt_of_cell? w _ hw110_2)).trans hw110_2), ((HB.out.cell (World.block_lt_of_cell? w _ hw110_3)).trans hw110_3)⟩ (fun hHeld => ?_)
                            clear hK K
                            refine norm_ (a' := ?_) ?_ ?_
                            rotate_left
                            · show Act.put _ (some 24) _ = _
                              simp only [Act.put, sA, sZ, sS, i64_w, i32_w]
                              rfl
                            refine puY (v := ?_) (a' := ?_) 8 25 (mB 43 0x1ff) rfl rfl HT_.out (by kernel_rfl) (fun _ _ _ h => h) (by rfl) ?_ ?_ ?_; rotate_left; (focus intro w'; go_simp; with_reducible rfl); rotate_left; (focus simp only [Act.put, sA, sZ, sS, i64_w, i32_w]; rfl); refine puY (v := ?_) (a' := ?_) 9 26 (mB 43 0x3ff) rfl rfl HT_.out (by kernel_rfl) (fun _ _ _ h => h) (by rfl) ?_ ?_ ?_; rotate_left; (focus intro w'; go_simp; with_reducible rfl); rotate_left; (focus simp only [Act.put, sA, sZ, sS, i64_w, i32_w]; rfl); refine puY (v := ?_) (a' := ?_) 10 27 (mB 43 0x7ff) rfl rfl HT_.out (by kernel_rfl) (fun _ _ _ h => h) (by rfl) ?_ ?_ ?_; rotate_left; (focus intro w'; go_simp; with_reducible rfl); rotate_left; (focus simp only [Act.put, sA, sZ, sS, i64_w, i32_w]; rfl); refine puY (v := ?_) (a' := ?_) 11 28 (mB 43 0xfff) rfl rfl HT_.out (by kernel_rfl) (fun _ _ _ h => h) (by rfl) ?_ ?_ ?_; rotate_left; (focus intro w'; go_simp; with_reducible rfl); rotate_left; (focus simp only [Act.put, sA, sZ, sS, i64_w, i32_w]; rfl)
                            refine take_ (i := 12) (N := some 29) (v := ?_) (a' := ?_) (mB 43 0x1fff) rfl rfl (take_ofW HT_.out HW_.out (by kernel_rfl)) (fun _ _ _ h => h) (Or.inl ⟨by rfl, ?_⟩) hHeld ?_ ?_
                            rotate_left
                            · rintro w' ⟨s0, s1, s2, s3, s4, s5, s6, s7, s8, s9⟩; go_simp; with_reducible rfl
                            rotate_left
                            · simp only [Act.put, sA, sZ, sS, i64_w, i32_w]; rfl
                            refine one_ (i := 13) (N := some 30) (mB 43 0x3fff) rfl rfl (one_of HT_.out (by kernel_rfl)) (by decide) (fun K hK => ?_)
                            refine goes_ Try.func16 (by kernel_rfl) rfl #[.int .i64 ((rd_T51 l0_0 x3_1).f2), .int .i64 0, .int .i64 1000000] (by rfl) rfl rfl (by (try simp only [List.map_toArray, List.map_cons, List.map_nil]); first | done | rfl | (simp only [List.length_drop, List.length_take]; rfl)) ?_
                            with_reducible refine (spec_l6In.calls ((rd_T51 l0_0 x3_1).f2) 0 1000000 true _ A9.out).mono ?_
                            rintro e w' ⟨rfl, ⟨nd, rfl⟩⟩
                            refine ⟨_, rfl, ?_⟩
                            refine hK.out _ _ ⟨(kc BK106.out 0).trans rfl, (kc BK106.out 1).trans rfl, (kc BK106.out 2).trans rfl, (kc BK106.out 3).trans rfl, (kc BK103.out 0).trans rfl, (kc BK103.out 1).trans rfl, ((HB.out.cell (World.block_lt_of_cell? w _ hw110_0)).trans hw110_0), ((HB.out.cell (World.block_lt_of_cell? w _ hw110_1)).trans hw110_1), ((HB.out.cell (World.block_lt_of_cell? w _ hw110_2)).trans hw110_2), ((HB.out.cell (World.block_lt_of_cell? w _ hw110_3)).trans hw110_3)⟩ (fun hHeld => ?_)
                            clear hK K
                            refine norm_ (a' := ?_) ?_ ?_
                            rotate_left
                            · show Act.put _ (some 30) _ = _
                              simp only [Act.put, sA, sZ, sS, i64_w, i32_w]
                              rfl
                            refine puY (v := ?_) (a' := ?_) 14 31 (mB 43 0x7fff) rfl rfl HT_.out (by kernel_rfl) (fun _ _ _ h => h) (by rfl) ?_ ?_ ?_; rotate_left; (focus intro w'; go_simp; with_reducible rfl); rotate_left; (focus simp only [Act.put, sA, sZ, sS, i64_w, i32_w]; rfl); refine puY (v := ?_) (a' := ?_) 15 32 (mB 43 0xffff) rfl rfl HT_.out (by kernel_rfl) (fun _ _ _ h => h) (by rfl) ?_ ?_ ?_; rotate_left; (focus intro w'; go_simp; with_reducible rfl); rotate_left; (focus simp only [Act.put, sA, sZ, sS, i64_w, i32_w]; rfl); refine puY (v := ?_) (a' := ?_) 16 33 (mB 43 0x1ffff) rfl rfl HT_.out (by kernel_rfl) (fun _ _ _ h => h) (by rfl) ?_ ?_ ?_; rotate_left; (focus intro w'; go_simp; with_reducible rfl); rotate_left; (focus simp only [Act.put, sA, sZ, sS, i64_w, i32_w]; rfl); refine puY (v := ?_) (a' := ?_) 17 34 (mB 43 0x3ffff) rfl rfl HT_.out (by kernel_rfl) (fun _ _ _ h => h) (by rfl) ?_ ?_ ?_; rotate_left; (focus intro w'; go_simp; with_reducible rfl); rotate_left; (focus simp only [Act.put, sA, sZ, sS, i64_w, i32_w]; rfl); refine puY (v := ?_) (a' := ?_) 18 35 (mB 43 0x7ffff) rfl rfl HT_.out (by kernel_rfl) (fun _ _ _ h => h) (by rfl) ?_ ?_ ?_; rotate_left; (focus intro w'; go_simp; with_reducible rfl); rotate_left; (focus simp only [Act.put, sA, sZ, sS, i64_w, i32_w]; rfl); refine puY (v := ?_) (a' := ?_) 19 36 (mB 43 0xfffff) rfl rfl HT_.out (by kernel_rfl) (fun _ _ _ h => h) (by rfl) ?_ ?_ ?_; rotate_left; (focus intro w'; go_simp; with_reducible rfl); rotate_left; (focus simp only [Act.put, sA, sZ, sS, i64_w, i32_w]; rfl); refine puY (v := ?_) (a' := ?_) 20 37 (mB 43 0x1fffff) rfl rfl HT_.out (by kernel_rfl) (fun _ _ _ h => h) (by rfl) ?_ ?_ ?_; rotate_left; (focus intro w'; go_simp; with_reducible rfl); rotate_left; (focus simp only [Act.put, sA, sZ, sS, i64_w, i32_w]; rfl); refine puY (v := ?_) (a' := ?_) 22 39 (mB 43 0x5fffff) rfl rfl HT_.out (by kernel_rfl) (fun _ _ _ h => h) (by rfl) ?_ ?_ ?_; rotate_left; (focus intro w'; go_simp; with_reducible rfl); rotate_left; (focus simp only [Act.put, sA, sZ, sS, i64_w, i32_w]; rfl); refine puY (v := ?_) (a' := ?_) 23 40 (mB 43 0xdfffff) rfl rfl HT_.out (by kernel_rfl) (fun _ _ _ h => h) (by rfl) ?_ ?_ ?_; rotate_left; (focus intro w'; go_simp; with_reducible rfl); rotate_left; (focus simp only [Act.put, sA, sZ, sS, i64_w, i32_w]; rfl); refine puY (v := ?_) (a' := ?_) 27 44 (mB 43 0x8dfffff) rfl rfl HT_.out (by kernel_rfl) (fun _ _ _ h => h) (by rfl) ?_ ?_ ?_; rotate_left; (focus intro w'; go_simp; with_reducible rfl); rotate_left; (focus simp only [Act.put, sA, sZ, sS, i64_w, i32_w]; rfl)
                            refine take_ (i := 21) (N := some 38) (v := ?_) (a' := ?_) (mB 43 0x8ffffff) rfl rfl (take_ofW HT_.out HW_.out (by kernel_rfl)) (fun _ _ _ h => h) (Or.inl ⟨by rfl, ?_⟩) hHeld ?_ ?_
                            rotate_left
                            · rintro w' ⟨s0, s1, s2, s3, s4, s5, s6, s7, s8, s9⟩; go_simp; with_reducible rfl
                            rotate_left
                            · simp only [Act.put, sA, sZ, sS, i64_w, i32_w]; rfl
                            refine puY (v := ?_) (a' := ?_) 24 41 (mB 43 0x9ffffff) rfl rfl HT_.out (by kernel_rfl) (fun _ _ _ h => h) (by rfl) ?_ ?_ ?_; rotate_left; (focus intro w'; go_simp; with_reducible rfl); rotate_left; (focus simp only [Act.put, sA, sZ, sS, i64_w, i32_w]; rfl); refine puY (v := ?_) (a' := ?_) 25 42 (mB 43 0xbffffff) rfl rfl HT_.out (by kernel_rfl) (fun _ _ _ h => h) (by rfl) ?_ ?_ ?_; rotate_left; (focus intro w'; go_simp; with_reducible rfl); rotate_left; (focus simp only [Act.put, sA, sZ, sS, i64_w, i32_w]; rfl)
                            refine take_ (i := 26) (N := some 43) (v := ?_) (a' := ?_) (mB 43 0xfffffff) rfl rfl (take_ofW HT_.out HW_.out (by kernel_rfl)) (fun _ _ _ h => h) (Or.inl ⟨by rfl, ?_⟩) hHeld ?_ ?_
                            rotate_left
                            · rintro w' ⟨s0, s1, s2, s3, s4, s5, s6, s7, s8, s9⟩; go_simp; with_reducible rfl
                            rotate_left
                            · simp only [Act.put, sA, sZ, sS, i64_w, i32_w]; rfl
                            refine take_ (i := 28) (N := some 45) (v := ?_) (a' := ?_) (mB 43 0x1fffffff) rfl rfl (take_ofW HT_.out HW_.out (by kernel_rfl)) (fun _ _ _ h => h) (Or.inl ⟨by rfl, ?_⟩) hHeld ?_ ?_
                            rotate_left
                            · rintro w' ⟨s0, s1, s2, s3, s4, s5, s6, s7, s8, s9⟩; go_simp; with_reducible rfl
                            rotate_left
                            · simp only [Act.put, sA, sZ, sS, i64_w, i32_w]; rfl
                            refine puY (v := ?_) (a' := ?_) 29 46 (mB 43 0x3fffffff) rfl rfl HT_.out (by kernel_rfl) (fun _ _ _ h => h) (by rfl) ?_ ?_ ?_; rotate_left; (focus intro w'; go_simp; with_reducible rfl); rotate_left; (focus simp only [Act.put, sA, sZ, sS, i64_w, i32_w]; rfl); refine puY (v := ?_) (a' := ?_) 30 47 (mB 43 0x7fffffff) rfl rfl HT_.out (by kernel_rfl) (fun _ _ _ h => h) (by rfl) ?_ ?_ ?_; rotate_left; (focus intro w'; go_simp; with_reducible rfl); rotate_left; (focus simp only [Act.put, sA, sZ, sS, i64_w, i32_w]; rfl); refine puY (v := ?_) (a' := ?_) 31 48 (mB 43 0xffffffff) rfl rfl HT_.out (by kernel_rfl) (fun _ _ _ h => h) (by rfl) ?_ ?_ ?_; rotate_left; (focus intro w'; go_simp; with_reducible rfl); rotate_left; (focus simp only [Act.put, sA, sZ, sS, i64_w, i32_w]; rfl); refine puY (v := ?_) (a' := ?_) 32 49 (mB 43 0x1ffffffff) rfl rfl HT_.out (by kernel_rfl) (fun _ _ _ h => h) (by rfl) ?_ ?_ ?_; rotate_left; (focus intro w'; go_simp; with_reducible rfl); rotate_left; (focus simp only [Act.put, sA, sZ, sS, i64_w, i32_w]; rfl); refine puY (v := ?_) (a' := ?_) 33 50 (mB 43 0x3ffffffff) rfl rfl HT_.out (by kernel_rfl) (fun _ _ _ h => h) (by rfl) ?_ ?_ ?_; rotate_left; (focus intro w'; go_simp; with_reducible rfl); rotate_left; (focus simp only [Act.put, sA, sZ, sS, i64_w, i32_w]; rfl)
                            refine take_ (i := 34) (N := some 51) (v := ?_) (a' := ?_) (mB 43 0x7ffffffff) rfl rfl (take_ofW HT_.out HW_.out (by kernel_rfl)) (fun _ _ _ h => h) (Or.inl ⟨by rfl, ?_⟩) hHeld ?_ ?_
                            rotate_left
                            · rintro w' ⟨s0, s1, s2, s3, s4, s5, s6, s7, s8, s9⟩; go_simp; with_reducible rfl
                            rotate_left
                            · simp only [Act.put, sA, sZ, sS, i64_w, i32_w]; rfl
                            refine puY (v := ?_) (a' := ?_) 35 52 (mB 43 0xfffffffff) rfl rfl HT_.out (by kernel_rfl) (fun _ _ _ h => h) (by rfl) ?_ ?_ ?_; rotate_left; (focus intro w'; go_simp; with_reducible rfl); rotate_left; (focus simp only [Act.put, sA, sZ, sS, i64_w, i32_w]; rfl); refine puY (v := ?_) (a' := ?_) 36 53 (mB 43 0x1fffffffff) rfl rfl HT_.out (by kernel_rfl) (fun _ _ _ h => h) (by rfl) ?_ ?_ ?_; rotate_left; (focus intro w'; go_simp; with_reducible rfl); rotate_left; (focus simp only [Act.put, sA, sZ, sS, i64_w, i32_w]; rfl); refine puY (v := ?_) (a' := ?_) 38 55 (mB 43 0x5fffffffff) rfl rfl HT_.out (by kernel_rfl) (fun _ _ _ h => h) (by rfl) ?_ ?_ ?_; rotate_left; (focus intro w'; go_simp; with_reducible rfl); rotate_left; (focus simp only [Act.put, sA, sZ, sS, i64_w, i32_w]; rfl)
                            refine take_ (i := 37) (N := some 54) (v := ?_) (a' := ?_) (mB 43 0x7fffffffff) rfl rfl (take_ofW HT_.out HW_.out (by kernel_rfl)) (fun _ _ _ h => h) (Or.inl ⟨by rfl, ?_⟩) hHeld ?_ ?_
                            rotate_left
                            · rintro w' ⟨s0, s1, s2, s3, s4, s5, s6, s7, s8, s9⟩; go_simp; with_reducible rfl
                            rotate_left
                            · simp only [Act.put, sA, sZ, sS, i64_w, i32_w]; rfl
                            refine take_ (i := 39) (N := some 56) (v := ?_) (a' := ?_) (mB 43 0xffffffffff) rfl rfl (take_ofW HT_.out HW_.out (by kernel_rfl)) (fun _ _ _ h => h) (Or.inl ⟨by rfl, ?_⟩) hHeld ?_ ?_
                            rotate_left
                            · rintro w' ⟨s0, s1, s2, s3, s4, s5, s6, s7, s8, s9⟩; go_simp; with_reducible rfl
                            rotate_left
                            · simp only [Act.put, sA, sZ, sS, i64_w, i32_w]; rfl
                            refine puY (v := ?_) (a' := ?_) 40 57 (mB 43 0x1ffffffffff) rfl rfl HT_.out (by kernel_rfl) (fun _ _ _ h => h) (by rfl) ?_ ?_ ?_; rotate_left; (focus intro w'; go_simp; with_reducible rfl); rotate_left; (focus simp only [Act.put, sA, sZ, sS, i64_w, i32_w]; rfl); refine puY (v := ?_) (a' := ?_) 41 58 (mB 43 0x3ffffffffff) rfl rfl HT_.out (by kernel_rfl) (fun _ _ _ h => h) (by rfl) ?_ ?_ ?_; rotate_left; (focus intro w'; go_simp; with_reducible rfl); rotate_left; (focus simp only [Act.put, sA, sZ, sS, i64_w, i32_w]; rfl); refine puY (v := ?_) (a' := ?_) 42 59 (mB 43 0x7ffffffffff) rfl rfl HT_.out (by kernel_rfl) (fun _ _ _ h => h) (by rfl) ?_ ?_ ?_; rotate_left; (focus intro w'; go_simp; with_reducible rfl); rotate_left; (focus simp only [Act.put, sA, sZ, sS, i64_w, i32_w]; rfl)
                            refine done_ (done_of HT_.out (by kernel_rfl)) ?_
                            try go_wp2
                            go_ret
                            exact ⟨by first | rfl | (simp [errW_none, errW_some] <;> rfl) | (simp only [← hji12]; first | rfl | (simp [errW_none, errW_some] <;> rfl)) | (simp [*, errW_none, errW_some] <;> rfl), by repeat (first | (with_reducible first | exact HB.out | apply ba | apply bn | apply bd | refine bs ?_ GE103.out | refine bs ?_ GE106.out) | exact HB.out)⟩
                          · rw [if_neg c24] at H
                            have c24b0 : decide (((rd_T51 l0_0 x3_1).f2) < a0_1) = false := decide_eq_false c24
                            clear c24
                            have H' := AM H
                            clear H
                            have hcz31_0 : wr.cell? ⟨gb103, 0, none⟩ = some (.slice A0_0 l0_0.length c0_0) := (kc BK103.out 0).trans rfl
                            have hcz31_1 : wr.cell? ⟨gb103, 1, none⟩ = some (.int .i64 a0_1) := (kc BK103.out 1).trans rfl
                            have hfz31_0 := kz BK103.out 0
                            have hfz31_1 := kz BK103.out 1
                            have p105 : 0 ≤ (x3_1 : Int) := of_decide_eq_true (by first | (with_reducible assumption) | assumption)
                            have q105 : x3_1 < (l0_0.length : Int) := of_decide_eq_true (by first | (with_reducible assumption) | assumption)
                            obtain ⟨ad105, e105, hx105_0, hx105_1, hx105_2, hx105_3⟩ := at_T51 HR0_0.out x3_1 p105 q105
                            (try rw [← Nbq22.out] at hx105_3)
                            cases e105
                            replace hx105_0 := (HB.out.cell (World.block_lt_of_cell? w _ hx105_0)).trans hx105_0
                            replace hx105_1 := (HB.out.cell (World.block_lt_of_cell? w _ hx105_1)).trans hx105_1
                            replace hx105_2 := (HB.out.cell (World.block_lt_of_cell? w _ hx105_2)).trans hx105_2
                            replace hx105_3 := (HB.out.cell (World.block_lt_of_cell? w _ hx105_3)).trans hx105_3
                            replace p105 := eq_true p105
                            replace q105 := eq_true q105
                            try go_wp2_with (first | ((with_reducible refine gd (N := 4) rfl ?_); refine xe ?hg (N := 4) ?hd (cs := #[.int .i64 0, .int .i64 0, .int .i64 0, .bool false]) (t := 51) ?hr ?_; (case hd => rfl); (case hg => rfl); (case hr => first | (go_simp; done) | (go_simp; rfl)); intro gb106 hg w32 hbox hb; have n0_ := AM (kb (g := gb103) (o := .cells #[.slice (some ad105) l0_0.length c0_0, .int .i64 a0_1] 28 (0, 0)) (lfK BK103.out) hb); have n1_ := AM (bp (by repeat (first | (with_reducible first | exact HB.out | apply ba | apply bn | apply bd | refine bs ?_ GE103.out) | exact HB.out)) hb); have n2_ := AM (hbox); have n3_ := AM ((by rw [hg]; exact (bz (by repeat (first | (with_reducible first | exact HB.out | apply ba | apply bn | apply bd | refine bs ?_ GE103.out) | exact HB.out))) : w.heap.size ≤ gb106)); have n4_ := AM ((by rw [hg]; exact (bz (by repeat (first | (with_reducible first | exact HB.out | apply ba | apply bn | apply bd | refine bs ?_ GE103.out) | exact HB.out))) : w.heap.size ≤ gb106)); have n5_ := AM ((by rw [hg]; exact Nat.ne_of_lt (blk_lt (g := gb103) (o := .cells #[.slice (some ad105) l0_0.length c0_0, .int .i64 a0_1] 28 (0, 0)) (lfK BK103.out)) : gb103 ≠ gb106)); have n6_ := AM ((by rw [hg]; exact Nat.ne_of_gt (blk_lt (g := gb103) (o := .cells #[.slice (some ad105) l0_0.length c0_0, .int .i64 a0_1] 28 (0, 0)) (lfK BK103.out)) : gb106 ≠ gb103)); clear BK103 HB; revert n0_ n1_ n2_ n3_ n4_ n5_ n6_; intro BK103 HB BK106 GW106 GE106 NB103_106 NB106_103; clear hb hbox hg; have hnb33 := NB106_103.out; have hnc33 := NB103_106.out; have hcz34_0 : w32.cell? ⟨gb106, 0, none⟩ = some (.int .i64 0) := (kc BK106.out 0).trans rfl; have hcz34_1 : w32.cell? ⟨gb106, 1, none⟩ = some (.int .i64 0) := (kc BK106.out 1).trans rfl; have hcz34_2 : w32.cell? ⟨gb106, 2, none⟩ = some (.int .i64 0) := (kc BK106.out 2).trans rfl; have hcz34_3 : w32.cell? ⟨gb106, 3, none⟩ = some (.bool false) := (kc BK106.out 3).trans rfl; have hfz34_0 := kz BK106.out 0; have hfz34_1 := kz BK106.out 1; have hfz34_2 := kz BK106.out 2; have hfz34_3 := kz BK106.out 3))
                            have n0_ : Aside0 (((((w32.setCell ⟨gb106, 0, none⟩ (.int .i64 ((rd_T51 l0_0 x3_1).f0))).setCell ⟨gb106, 1, none⟩ (.int .i64 ((rd_T51 l0_0 x3_1).f1))).setCell ⟨gb106, 2, none⟩ (.int .i64 ((rd_T51 l0_0 x3_1).f2))).setCell ⟨gb106, 3, none⟩ (.bool true)).heap[gb103]? = some (.cells #[.slice (some ad105) l0_0.length c0_0, .int .i64 a0_1] 28 (0, 0))) := ⟨by (with_reducible repeat (first | refine kn ?_ _ | refine kd ?_ | refine ka ?_ _)); refine kf ?_ NB103_106.out _; (with_reducible repeat (first | refine kn ?_ _ | refine kd ?_ | refine ka ?_ _)); refine kf ?_ NB103_106.out _; (with_reducible repeat (first | refine kn ?_ _ | refine kd ?_ | refine ka ?_ _)); refine kf ?_ NB103_106.out _; (with_reducible repeat (first | refine kn ?_ _ | refine kd ?_ | refine ka ?_ _)); refine kf ?_ NB103_106.out _; (with_reducible repeat (first | refine kn ?_ _ | refine kd ?_ | refine ka ?_ _)); exact BK103.out⟩
                            have n1_ : Aside0 (((((w32.setCell ⟨gb106, 0, none⟩ (.int .i64 ((rd_T51 l0_0 x3_1).f0))).setCell ⟨gb106, 1, none⟩ (.int .i64 ((rd_T51 l0_0 x3_1).f1))).setCell ⟨gb106, 2, none⟩ (.int .i64 ((rd_T51 l0_0 x3_1).f2))).setCell ⟨gb106, 3, none⟩ (.bool true)).heap[gb106]? = some (.cells #[.int .i64 ((rd_T51 l0_0 x3_1).f0), .int .i64 ((rd_T51 l0_0 x3_1).f1), .int .i64 ((rd_T51 l0_0 x3_1).f2), .bool true] 51 (0, 0))) := ⟨by (with_reducible repeat (first | refine kn ?_ _ | refine kd ?_ | refine ka ?_ _)); refine blk_put (cs := #[.int .i64 ((rd_T51 l0_0 x3_1).f0), .int .i64 ((rd_T51 l0_0 x3_1).f1), .int .i64 ((rd_T51 l0_0 x3_1).f2), .bool false]) ?_ 3 _ rfl; (with_reducible repeat (first | refine kn ?_ _ | refine kd ?_ | refine ka ?_ _)); refine blk_put (cs := #[.int .i64 ((rd_T51 l0_0 x3_1).f0), .int .i64 ((rd_T51 l0_0 x3_1).f1), .int .i64 0, .bool false]) ?_ 2 _ rfl; (with_reducible repeat (first | refine kn ?_ _ | refine kd ?_ | refine ka ?_ _)); refine blk_put (cs := #[.int .i64 ((rd_T51 l0_0 x3_1).f0), .int .i64 0, .int .i64 0, .bool false]) ?_ 1 _ rfl; (with_reducible repeat (first | refine kn ?_ _ | refine kd ?_ | refine ka ?_ _)); refine blk_put (cs := #[.int .i64 0, .int .i64 0, .int .i64 0, .bool false]) ?_ 0 _ rfl; (with_reducible repeat (first | refine kn ?_ _ | refine kd ?_ | refine ka ?_ _)); exact BK106.out⟩
                            have n2_ : Aside0 (Below w.heap.size w ((((w32.setCell ⟨gb106, 0, none⟩ (.int .i64 ((rd_T51 l0_0 x3_1).f0))).setCell ⟨gb106, 1, none⟩ (.int .i64 ((rd_T51 l0_0 x3_1).f1))).setCell ⟨gb106, 2, none⟩ (.int .i64 ((rd_T51 l0_0 x3_1).f2))).setCell ⟨gb106, 3, none⟩ (.bool true))) := ⟨by repeat (first | (with_reducible first | exact HB.out | apply ba | apply bn | apply bd | refine bs ?_ GE103.out | refine bs ?_ GE106.out) | exact HB.out)⟩
                            (try clear BK103)
                            (try clear BK106)
                            (try clear HB)
                            generalize ((((w32.setCell ⟨gb106, 0, none⟩ (.int .i64 ((rd_T51 l0_0 x3_1).f0))).setCell ⟨gb106, 1, none⟩ (.int .i64 ((rd_T51 l0_0 x3_1).f1))).setCell ⟨gb106, 2, none⟩ (.int .i64 ((rd_T51 l0_0 x3_1).f2))).setCell ⟨gb106, 3, none⟩ (.bool true)) = w35 at n0_ n1_ n2_ ⊢
                            revert n0_ n1_ n2_
                            intro BK103 BK106 HB
                            have n0_ := AM (kd BK103.out)
                            have n1_ := AM (kd BK106.out)
                            have n2_ := AM (bd HB.out)
                            clear BK103 BK106 HB
                            revert n0_ n1_ n2_
                            intro BK103 BK106 HB
                            have p110 : 0 ≤ ((ji12) : Int) := of_decide_eq_true (by first | (with_reducible assumption) | assumption)
                            have q110 : (ji12) < (l0_0.length : Int) := of_decide_eq_true (by first | (with_reducible assumption) | assumption)
                            obtain ⟨ad110, e110, hx110_0, hx110_1, hx110_2, hx110_3⟩ := at_T51 HR0_0.out (ji12) p110 q110
                            have hw110_3 := hx110_3
                            have hw110_2 := hx110_2
                            have hw110_1 := hx110_1
                            have hw110_0 := hx110_0
                            (try rw [← Nbq22.out] at hx110_3)
                            obtain rfl : ad105 = ad110 := (by injection e110)
                            replace hx110_0 := (HB.out.cell (World.block_lt_of_cell? w _ hx110_0)).trans hx110_0
                            replace hx110_1 := (HB.out.cell (World.block_lt_of_cell? w _ hx110_1)).trans hx110_1
                            replace hx110_2 := (HB.out.cell (World.block_lt_of_cell? w _ hx110_2)).trans hx110_2
                            replace hx110_3 := (HB.out.cell (World.block_lt_of_cell? w _ hx110_3)).trans hx110_3
                            replace p110 := eq_true p110
                            replace q110 := eq_true q110
                            refine start_ (n := 43) (S := fun w' => w'.cell? ⟨gb106, 0, none⟩ = some (.int .i64 ((rd_T51 l0_0 x3_1).f0)) ∧ w'.cell? ⟨gb106, 1, none⟩ = some (.int .i64 ((rd_T51 l0_0 x3_1).f1)) ∧ w'.cell? ⟨gb106, 2, none⟩ = some (.int .i64 ((rd_T51 l0_0 x3_1).f2)) ∧ w'.cell? ⟨gb106, 3, none⟩ = some (.bool true) ∧ w'.cell? ⟨gb103, 0, none⟩ = some (.slice (some ad105) l0_0.length c0_0) ∧ w'.cell? ⟨gb103, 1, none⟩ = some (.int .i64 a0_1) ∧ w'.cell? (ad105.add (((ji12)).toNat * 4)) = some (.int .i64 ((rd_T51 l0_0 (ji12)).f0)) ∧ w'.cell? ⟨(ad105.add (((ji12)).toNat * 4)).block, (ad105.add (((ji12)).toNat * 4)).off + 1, none⟩ = some (.int .i64 ((rd_T51 l0_0 (ji12)).f1)) ∧ w'.cell? ⟨(ad105.add (((ji12)).toNat * 4)).block, (ad105.add (((ji12)).toNat * 4)).off + 2, none⟩ = some (.int .i64 ((rd_T51 l0_0 (ji12)).f2)) ∧ w'.cell? ⟨(ad105.add (((ji12)).toNat * 4)).block, (ad105.add (((ji12)).toNat * 4)).off + 3, none⟩ = some (.bool ((rd_T51 l0_0 (ji12)).f3))) (ds := []) (mB 43 0x0) (by kernel_rfl) rfl rfl ⟨(kc BK106.out 0).trans rfl, (kc BK106.out 1).trans rfl, (kc BK106.out 2).trans rfl, (kc BK106.out 3).trans rfl, (kc BK103.out 0).trans rfl, (kc BK103.out 1).trans rfl, ((HB.out.cell (World.block_lt_of_cell? w _ hw110_0)).trans hw110_0), ((HB.out.cell (World.block_lt_of_cell? w _ hw110_1)).trans hw110_1), ((HB.out.cell (World.block_lt_of_cell? w _ hw110_2)).trans hw110_2), ((HB.out.cell (World.block_lt_of_cell? w _ hw110_3)).trans hw110_3)⟩ (fun hHeld => ?_); refine with_tabW spec_QueueOk.tab5 spec_QueueOk.bits5 (fun HT_ HW_ => ?_)
                            generalize w35.drew = w36 at BK103 BK106 HB hx110_0 hx110_1 hx110_2 hx110_3 hHeld ⊢
                            refine puY (v := ?_) (a' := ?_) 0 17 (mB 43 0x1) rfl rfl HT_.out (by kernel_rfl) (fun _ _ _ h => h) (by rfl) ?_ ?_ ?_; rotate_left; (focus intro w'; go_simp; with_reducible rfl); rotate_left; (focus simp only [Act.put, sA, sZ, sS, i64_w, i32_w]; rfl)
                            refine take_ (i := 1) (N := some 18) (v := ?_) (a' := ?_) (mB 43 0x3) rfl rfl (take_ofW HT_.out HW_.out (by kernel_rfl)) (fun _ _ _ h => h) (Or.inl ⟨by rfl, ?_⟩) hHeld ?_ ?_
                            rotate_left
                            · rintro w' ⟨s0, s1, s2, s3, s4, s5, s6, s7, s8, s9⟩; go_simp; with_reducible rfl
                            rotate_left
                            · simp only [Act.put, sA, sZ, sS, i64_w, i32_w]; rfl
                            refine one_ (i := 2) (N := some 19) (mB 43 0x7) rfl rfl (one_of HT_.out (by kernel_rfl)) (by decide) (fun K hK => ?_)
                            refine goes_ Try.func16 (by kernel_rfl) rfl #[.int .i64 ((rd_T51 l0_0 x3_1).f0), .int .i64 0, .int .i64 99] (by rfl) rfl rfl (by (try simp only [List.map_toArray, List.map_cons, List.map_nil]); first | done | rfl | (simp only [List.length_drop, List.length_take]; rfl)) ?_
                            with_reducible refine (spec_l6In.calls ((rd_T51 l0_0 x3_1).f0) 0 99 true _ A5.out).mono ?_
                            rintro e w' ⟨rfl, ⟨nd, rfl⟩⟩
                            refine ⟨_, rfl, ?_⟩
                            refine hK.out _ _ ⟨(kc BK106.out 0).trans rfl, (kc BK106.out 1).trans rfl, (kc BK106.out 2).trans rfl, (kc BK106.out 3).trans rfl, (kc BK103.out 0).trans rfl, (kc BK103.out 1).trans rfl, ((HB.out.cell (World.block_lt_of_cell? w _ hw110_0)).trans hw110_0), ((HB.out.cell (World.block_lt_of_cell? w _ hw110_1)).trans hw110_1), ((HB.out.cell (World.block_lt_of_cell? w _ hw110_2)).trans hw110_2), ((HB.out.cell (World.block_lt_of_cell? w _ hw110_3)).trans hw110_3)⟩ (fun hHeld => ?_)
                            clear hK K
                            refine norm_ (a' := ?_) ?_ ?_
                            rotate_left
                            · show Act.put _ (some 19) _ = _
                              simp only [Act.put, sA, sZ, sS, i64_w, i32_w]
                              rfl
                            refine puY (v := ?_) (a' := ?_) 3 20 (mB 43 0xf) rfl rfl HT_.out (by kernel_rfl) (fun _ _ _ h => h) (by rfl) ?_ ?_ ?_; rotate_left; (focus intro w'; go_simp; with_reducible rfl); rotate_left; (focus simp only [Act.put, sA, sZ, sS, i64_w, i32_w]; rfl); refine puY (v := ?_) (a' := ?_) 4 21 (mB 43 0x1f) rfl rfl HT_.out (by kernel_rfl) (fun _ _ _ h => h) (by rfl) ?_ ?_ ?_; rotate_left; (focus intro w'; go_simp; with_reducible rfl); rotate_left; (focus simp only [Act.put, sA, sZ, sS, i64_w, i32_w]; rfl); refine puY (v := ?_) (a' := ?_) 5 22 (mB 43 0x3f) rfl rfl HT_.out (by kernel_rfl) (fun _ _ _ h => h) (by rfl) ?_ ?_ ?_; rotate_left; (focus intro w'; go_simp; with_reducible rfl); rotate_left; (focus simp only [Act.put, sA, sZ, sS, i64_w, i32_w]; rfl)
                            refine take_ (i := 6) (N := some 23) (v := ?_) (a' := ?_) (mB 43 0x7f) rfl rfl (take_ofW HT_.out HW_.out (by kernel_rfl)) (fun _ _ _ h => h) (Or.inl ⟨by rfl, ?_⟩) hHeld ?_ ?_
                            rotate_left
                            · rintro w' ⟨s0, s1, s2, s3, s4, s5, s6, s7, s8, s9⟩; go_simp; with_reducible rfl
                            rotate_left
                            · simp only [Act.put, sA, sZ, sS, i64_w, i32_w]; rfl
                            refine one_ (i := 7) (N := some 24) (mB 43 0xff) rfl rfl (one_of HT_.out (by kernel_rfl)) (by decide) (fun K hK => ?_)
                            refine goes_ Try.func16 (by kernel_rfl) rfl #[.int .i64 ((rd_T51 l0_0 x3_1).f1), .int .i64 1, .int .i64 6] (by rfl) rfl rfl (by (try simp only [List.map_toArray, List.map_cons, List.map_nil]); first | done | rfl | (simp only [List.length_drop, List.length_take]; rfl)) ?_
                            with_reducible refine (spec_l6In.calls ((rd_T51 l0_0 x3_1).f1) 1 6 true _ A7.out).mono ?_
                            rintro e w' ⟨rfl, ⟨nd, rfl⟩⟩
                            refine ⟨_, rfl, ?_⟩
                            refine hK.out _ _ ⟨(kc BK106.out 0).trans rfl, (kc BK106.out 1).trans rfl, (kc BK106.out 2).trans rfl, (kc BK106.out 3).trans rfl, (kc BK103.out 0).trans rfl, (kc BK103.out 1).trans rfl, ((HB.out.cell (World.block_lt_of_cell? w _ hw110_0)).trans hw110_0), ((HB.out.cell (World.block_lt_of_cell? w _ hw110_1)).trans hw110_1), ((HB.out.cell (World.block_lt_of_cell? w _ hw110_2)).trans hw110_2), ((HB.out.cell (World.block_lt_of_cell? w _ hw110_3)).trans hw110_3)⟩ (fun hHeld => ?_)
                            clear hK K
                            refine norm_ (a' := ?_) ?_ ?_
                            rotate_left
                            · show Act.put _ (some 24) _ = _
                              simp only [Act.put, sA, sZ, sS, i64_w, i32_w]
                              rfl
                            refine puY (v := ?_) (a' := ?_) 8 25 (mB 43 0x1ff) rfl rfl HT_.out (by kernel_rfl) (fun _ _ _ h => h) (by rfl) ?_ ?_ ?_; rotate_left; (focus intro w'; go_simp; with_reducible rfl); rotate_left; (focus simp only [Act.put, sA, sZ, sS, i64_w, i32_w]; rfl); refine puY (v := ?_) (a' := ?_) 9 26 (mB 43 0x3ff) rfl rfl HT_.out (by kernel_rfl) (fun _ _ _ h => h) (by rfl) ?_ ?_ ?_; rotate_left; (focus intro w'; go_simp; with_reducible rfl); rotate_left; (focus simp only [Act.put, sA, sZ, sS, i64_w, i32_w]; rfl); refine puY (v := ?_) (a' := ?_) 10 27 (mB 43 0x7ff) rfl rfl HT_.out (by kernel_rfl) (fun _ _ _ h => h) (by rfl) ?_ ?_ ?_; rotate_left; (focus intro w'; go_simp; with_reducible rfl); rotate_left; (focus simp only [Act.put, sA, sZ, sS, i64_w, i32_w]; rfl); refine puY (v := ?_) (a' := ?_) 11 28 (mB 43 0xfff) rfl rfl HT_.out (by kernel_rfl) (fun _ _ _ h => h) (by rfl) ?_ ?_ ?_; rotate_left; (focus intro w'; go_simp; with_reducible rfl); rotate_left; (focus simp only [Act.put, sA, sZ, sS, i64_w, i32_w]; rfl)
                            refine take_ (i := 12) (N := some 29) (v := ?_) (a' := ?_) (mB 43 0x1fff) rfl rfl (take_ofW HT_.out HW_.out (by kernel_rfl)) (fun _ _ _ h => h) (Or.inl ⟨by rfl, ?_⟩) hHeld ?_ ?_
                            rotate_left
                            · rintro w' ⟨s0, s1, s2, s3, s4, s5, s6, s7, s8, s9⟩; go_simp; with_reducible rfl
                            rotate_left
                            · simp only [Act.put, sA, sZ, sS, i64_w, i32_w]; rfl
                            refine one_ (i := 13) (N := some 30) (mB 43 0x3fff) rfl rfl (one_of HT_.out (by kernel_rfl)) (by decide) (fun K hK => ?_)
                            refine goes_ Try.func16 (by kernel_rfl) rfl #[.int .i64 ((rd_T51 l0_0 x3_1).f2), .int .i64 0, .int .i64 1000000] (by rfl) rfl rfl (by (try simp only [List.map_toArray, List.map_cons, List.map_nil]); first | done | rfl | (simp only [List.length_drop, List.length_take]; rfl)) ?_
                            with_reducible refine (spec_l6In.calls ((rd_T51 l0_0 x3_1).f2) 0 1000000 true _ A9.out).mono ?_
                            rintro e w' ⟨rfl, ⟨nd, rfl⟩⟩
                            refine ⟨_, rfl, ?_⟩
                            refine hK.out _ _ ⟨(kc BK106.out 0).trans rfl, (kc BK106.out 1).trans rfl, (kc BK106.out 2).trans rfl, (kc BK106.out 3).trans rfl, (kc BK103.out 0).trans rfl, (kc BK103.out 1).trans rfl, ((HB.out.cell (World.block_lt_of_cell? w _ hw110_0)).trans hw110_0), ((HB.out.cell (World.block_lt_of_cell? w _ hw110_1)).trans hw110_1), ((HB.out.cell (World.block_lt_of_cell? w _ hw110_2)).trans hw110_2), ((HB.out.cell (World.block_lt_of_cell? w _ hw110_3)).trans hw110_3)⟩ (fun hHeld => ?_)
                            clear hK K
                            refine norm_ (a' := ?_) ?_ ?_
                            rotate_left
                            · show Act.put _ (some 30) _ = _
                              simp only [Act.put, sA, sZ, sS, i64_w, i32_w]
                              rfl
                            refine puY (v := ?_) (a' := ?_) 14 31 (mB 43 0x7fff) rfl rfl HT_.out (by kernel_rfl) (fun _ _ _ h => h) (by rfl) ?_ ?_ ?_; rotate_left; (focus intro w'; go_simp; with_reducible rfl); rotate_left; (focus simp only [Act.put, sA, sZ, sS, i64_w, i32_w]; rfl); refine puY (v := ?_) (a' := ?_) 15 32 (mB 43 0xffff) rfl rfl HT_.out (by kernel_rfl) (fun _ _ _ h => h) (by rfl) ?_ ?_ ?_; rotate_left; (focus intro w'; go_simp; with_reducible rfl); rotate_left; (focus simp only [Act.put, sA, sZ, sS, i64_w, i32_w]; rfl); refine puY (v := ?_) (a' := ?_) 16 33 (mB 43 0x1ffff) rfl rfl HT_.out (by kernel_rfl) (fun _ _ _ h => h) (by rfl) ?_ ?_ ?_; rotate_left; (focus intro w'; go_simp; with_reducible rfl); rotate_left; (focus simp only [Act.put, sA, sZ, sS, i64_w, i32_w]; rfl); refine puY (v := ?_) (a' := ?_) 17 34 (mB 43 0x3ffff) rfl rfl HT_.out (by kernel_rfl) (fun _ _ _ h => h) (by rfl) ?_ ?_ ?_; rotate_left; (focus intro w'; go_simp; with_reducible rfl); rotate_left; (focus simp only [Act.put, sA, sZ, sS, i64_w, i32_w]; rfl); refine puY (v := ?_) (a' := ?_) 18 35 (mB 43 0x7ffff) rfl rfl HT_.out (by kernel_rfl) (fun _ _ _ h => h) (by rfl) ?_ ?_ ?_; rotate_left; (focus intro w'; go_simp; with_reducible rfl); rotate_left; (focus simp only [Act.put, sA, sZ, sS, i64_w, i32_w]; rfl); refine puY (v := ?_) (a' := ?_) 19 36 (mB 43 0xfffff) rfl rfl HT_.out (by kernel_rfl) (fun _ _ _ h => h) (by rfl) ?_ ?_ ?_; rotate_left; (focus intro w'; go_simp; with_reducible rfl); rotate_left; (focus simp only [Act.put, sA, sZ, sS, i64_w, i32_w]; rfl); refine puY (v := ?_) (a' := ?_) 20 37 (mB 43 0x1fffff) rfl rfl HT_.out (by kernel_rfl) (fun _ _ _ h => h) (by rfl) ?_ ?_ ?_; rotate_left; (focus intro w'; go_simp; with_reducible rfl); rotate_left; (focus simp only [Act.put, sA, sZ, sS, i64_w, i32_w]; rfl); refine puY (v := ?_) (a' := ?_) 22 39 (mB 43 0x5fffff) rfl rfl HT_.out (by kernel_rfl) (fun _ _ _ h => h) (by rfl) ?_ ?_ ?_; rotate_left; (focus intro w'; go_simp; with_reducible rfl); rotate_left; (focus simp only [Act.put, sA, sZ, sS, i64_w, i32_w]; rfl); refine puY (v := ?_) (a' := ?_) 23 40 (mB 43 0xdfffff) rfl rfl HT_.out (by kernel_rfl) (fun _ _ _ h => h) (by rfl) ?_ ?_ ?_; rotate_left; (focus intro w'; go_simp; with_reducible rfl); rotate_left; (focus simp only [Act.put, sA, sZ, sS, i64_w, i32_w]; rfl); refine puY (v := ?_) (a' := ?_) 27 44 (mB 43 0x8dfffff) rfl rfl HT_.out (by kernel_rfl) (fun _ _ _ h => h) (by rfl) ?_ ?_ ?_; rotate_left; (focus intro w'; go_simp; with_reducible rfl); rotate_left; (focus simp only [Act.put, sA, sZ, sS, i64_w, i32_w]; rfl)
                            refine take_ (i := 21) (N := some 38) (v := ?_) (a' := ?_) (mB 43 0x8ffffff) rfl rfl (take_ofW HT_.out HW_.out (by kernel_rfl)) (fun _ _ _ h => h) (Or.inl ⟨by rfl, ?_⟩) hHeld ?_ ?_
                            rotate_left
                            · rintro w' ⟨s0, s1, s2, s3, s4, s5, s6, s7, s8, s9⟩; go_simp; with_reducible rfl
                            rotate_left
                            · simp only [Act.put, sA, sZ, sS, i64_w, i32_w]; rfl
                            refine puY (v := ?_) (a' := ?_) 24 41 (mB 43 0x9ffffff) rfl rfl HT_.out (by kernel_rfl) (fun _ _ _ h => h) (by rfl) ?_ ?_ ?_; rotate_left; (focus intro w'; go_simp; with_reducible rfl); rotate_left; (focus simp only [Act.put, sA, sZ, sS, i64_w, i32_w]; rfl); refine puY (v := ?_) (a' := ?_) 25 42 (mB 43 0xbffffff) rfl rfl HT_.out (by kernel_rfl) (fun _ _ _ h => h) (by rfl) ?_ ?_ ?_; rotate_left; (focus intro w'; go_simp; with_reducible rfl); rotate_left; (focus simp only [Act.put, sA, sZ, sS, i64_w, i32_w]; rfl)
                            refine take_ (i := 26) (N := some 43) (v := ?_) (a' := ?_) (mB 43 0xfffffff) rfl rfl (take_ofW HT_.out HW_.out (by kernel_rfl)) (fun _ _ _ h => h) (Or.inl ⟨by rfl, ?_⟩) hHeld ?_ ?_
                            rotate_left
                            · rintro w' ⟨s0, s1, s2, s3, s4, s5, s6, s7, s8, s9⟩; go_simp; with_reducible rfl
                            rotate_left
                            · simp only [Act.put, sA, sZ, sS, i64_w, i32_w]; rfl
                            refine take_ (i := 28) (N := some 45) (v := ?_) (a' := ?_) (mB 43 0x1fffffff) rfl rfl (take_ofW HT_.out HW_.out (by kernel_rfl)) (fun _ _ _ h => h) (Or.inl ⟨by rfl, ?_⟩) hHeld ?_ ?_
                            rotate_left
                            · rintro w' ⟨s0, s1, s2, s3, s4, s5, s6, s7, s8, s9⟩; go_simp; with_reducible rfl
                            rotate_left
                            · simp only [Act.put, sA, sZ, sS, i64_w, i32_w]; rfl
                            refine puY (v := ?_) (a' := ?_) 29 46 (mB 43 0x3fffffff) rfl rfl HT_.out (by kernel_rfl) (fun _ _ _ h => h) (by rfl) ?_ ?_ ?_; rotate_left; (focus intro w'; go_simp; with_reducible rfl); rotate_left; (focus simp only [Act.put, sA, sZ, sS, i64_w, i32_w]; rfl); refine puY (v := ?_) (a' := ?_) 30 47 (mB 43 0x7fffffff) rfl rfl HT_.out (by kernel_rfl) (fun _ _ _ h => h) (by rfl) ?_ ?_ ?_; rotate_left; (focus intro w'; go_simp; with_reducible rfl); rotate_left; (focus simp only [Act.put, sA, sZ, sS, i64_w, i32_w]; rfl); refine puY (v := ?_) (a' := ?_) 31 48 (mB 43 0xffffffff) rfl rfl HT_.out (by kernel_rfl) (fun _ _ _ h => h) (by rfl) ?_ ?_ ?_; rotate_left; (focus intro w'; go_simp; with_reducible rfl); rotate_left; (focus simp only [Act.put, sA, sZ, sS, i64_w, i32_w]; rfl); refine puY (v := ?_) (a' := ?_) 32 49 (mB 43 0x1ffffffff) rfl rfl HT_.out (by kernel_rfl) (fun _ _ _ h => h) (by rfl) ?_ ?_ ?_; rotate_left; (focus intro w'; go_simp; with_reducible rfl); rotate_left; (focus simp only [Act.put, sA, sZ, sS, i64_w, i32_w]; rfl); refine puY (v := ?_) (a' := ?_) 33 50 (mB 43 0x3ffffffff) rfl rfl HT_.out (by kernel_rfl) (fun _ _ _ h => h) (by rfl) ?_ ?_ ?_; rotate_left; (focus intro w'; go_simp; with_reducible rfl); rotate_left; (focus simp only [Act.put, sA, sZ, sS, i64_w, i32_w]; rfl)
                            refine take_ (i := 34) (N := some 51) (v := ?_) (a' := ?_) (mB 43 0x7ffffffff) rfl rfl (take_ofW HT_.out HW_.out (by kernel_rfl)) (fun _ _ _ h => h) (Or.inl ⟨by rfl, ?_⟩) hHeld ?_ ?_
                            rotate_left
                            · rintro w' ⟨s0, s1, s2, s3, s4, s5, s6, s7, s8, s9⟩; go_simp; with_reducible rfl
                            rotate_left
                            · simp only [Act.put, sA, sZ, sS, i64_w, i32_w]; rfl
                            refine puY (v := ?_) (a' := ?_) 35 52 (mB 43 0xfffffffff) rfl rfl HT_.out (by kernel_rfl) (fun _ _ _ h => h) (by rfl) ?_ ?_ ?_; rotate_left; (focus intro w'; go_simp; with_reducible rfl); rotate_left; (focus simp only [Act.put, sA, sZ, sS, i64_w, i32_w]; rfl); refine puY (v := ?_) (a' := ?_) 36 53 (mB 43 0x1fffffffff) rfl rfl HT_.out (by kernel_rfl) (fun _ _ _ h => h) (by rfl) ?_ ?_ ?_; rotate_left; (focus intro w'; go_simp; with_reducible rfl); rotate_left; (focus simp only [Act.put, sA, sZ, sS, i64_w, i32_w]; rfl); refine puY (v := ?_) (a' := ?_) 38 55 (mB 43 0x5fffffffff) rfl rfl HT_.out (by kernel_rfl) (fun _ _ _ h => h) (by rfl) ?_ ?_ ?_; rotate_left; (focus intro w'; go_simp; with_reducible rfl); rotate_left; (focus simp only [Act.put, sA, sZ, sS, i64_w, i32_w]; rfl)
                            refine take_ (i := 37) (N := some 54) (v := ?_) (a' := ?_) (mB 43 0x7fffffffff) rfl rfl (take_ofW HT_.out HW_.out (by kernel_rfl)) (fun _ _ _ h => h) (Or.inl ⟨by rfl, ?_⟩) hHeld ?_ ?_
                            rotate_left
                            · rintro w' ⟨s0, s1, s2, s3, s4, s5, s6, s7, s8, s9⟩; go_simp; with_reducible rfl
                            rotate_left
                            · simp only [Act.put, sA, sZ, sS, i64_w, i32_w]; rfl
                            refine take_ (i := 39) (N := some 56) (v := ?_) (a' := ?_) (mB 43 0xffffffffff) rfl rfl (take_ofW HT_.out HW_.out (by kernel_rfl)) (fun _ _ _ h => h) (Or.inl ⟨by rfl, ?_⟩) hHeld ?_ ?_
                            rotate_left
                            · rintro w' ⟨s0, s1, s2, s3, s4, s5, s6, s7, s8, s9⟩; go_simp; with_reducible rfl
                            rotate_left
                            · simp only [Act.put, sA, sZ, sS, i64_w, i32_w]; rfl
                            refine puY (v := ?_) (a' := ?_) 40 57 (mB 43 0x1ffffffffff) rfl rfl HT_.out (by kernel_rfl) (fun _ _ _ h => h) (by rfl) ?_ ?_ ?_; rotate_left; (focus intro w'; go_simp; with_reducible rfl); rotate_left; (focus simp only [Act.put, sA, sZ, sS, i64_w, i32_w]; rfl); refine puY (v := ?_) (a' := ?_) 41 58 (mB 43 0x3ffffffffff) rfl rfl HT_.out (by kernel_rfl) (fun _ _ _ h => h) (by rfl) ?_ ?_ ?_; rotate_left; (focus intro w'; go_simp; with_reducible rfl); rotate_left; (focus simp only [Act.put, sA, sZ, sS, i64_w, i32_w]; rfl); refine puY (v := ?_) (a' := ?_) 42 59 (mB 43 0x7ffffffffff) rfl rfl HT_.out (by kernel_rfl) (fun _ _ _ h => h) (by rfl) ?_ ?_ ?_; rotate_left; (focus intro w'; go_simp; with_reducible rfl); rotate_left; (focus simp only [Act.put, sA, sZ, sS, i64_w, i32_w]; rfl)
                            refine done_ (done_of HT_.out (by kernel_rfl)) ?_
                            try go_wp2
                            go_roundg k1
                            case measure => have := HK1.out; omega
                            case rel => exact ⟨(wrap64 (x3_1 + 1)), (by first | rfl | (simp; done) | (simp [*]; done)), H', ⟨by have := HK1.out; omega⟩, ⟨by (with_reducible repeat (first | refine kn ?_ _ | refine kd ?_ | refine ka ?_ _)); exact BK103.out⟩, ⟨by repeat (first | (with_reducible first | exact HB.out | apply ba | apply bn | apply bd | refine bs ?_ GE103.out | refine bs ?_ GE106.out) | exact HB.out)⟩⟩
                        · replace c23 := Bool.eq_false_iff.mpr c23
                          subst c23
                          have H1 : (spec_QueueOk.l0 k1 (wrap64 (x3_1 + 1)) l0_0 a0_1) = some r := by rw [if_neg (show ¬ (false = true) by decide)] at H; exact H
                          clear H
                          have H := H1
                          clear H1
                          have H' := AM H
                          clear H
                          have hcz37_0 : wr.cell? ⟨gb103, 0, none⟩ = some (.slice A0_0 l0_0.length c0_0) := (kc BK103.out 0).trans rfl
                          have hcz37_1 : wr.cell? ⟨gb103, 1, none⟩ = some (.int .i64 a0_1) := (kc BK103.out 1).trans rfl
                          have hfz37_0 := kz BK103.out 0
                          have hfz37_1 := kz BK103.out 1
                          have p105 : 0 ≤ (x3_1 : Int) := of_decide_eq_true (by first | (with_reducible assumption) | assumption)
                          have q105 : x3_1 < (l0_0.length : Int) := of_decide_eq_true (by first | (with_reducible assumption) | assumption)
                          obtain ⟨ad105, e105, hx105_0, hx105_1, hx105_2, hx105_3⟩ := at_T51 HR0_0.out x3_1 p105 q105
                          (try rw [← Nbq22.out] at hx105_3)
                          cases e105
                          replace hx105_0 := (HB.out.cell (World.block_lt_of_cell? w _ hx105_0)).trans hx105_0
                          replace hx105_1 := (HB.out.cell (World.block_lt_of_cell? w _ hx105_1)).trans hx105_1
                          replace hx105_2 := (HB.out.cell (World.block_lt_of_cell? w _ hx105_2)).trans hx105_2
                          replace hx105_3 := (HB.out.cell (World.block_lt_of_cell? w _ hx105_3)).trans hx105_3
                          replace p105 := eq_true p105
                          replace q105 := eq_true q105
                          try go_wp2_with (first | ((with_reducible refine gd (N := 4) rfl ?_); refine xe ?hg (N := 4) ?hd (cs := #[.int .i64 0, .int .i64 0, .int .i64 0, .bool false]) (t := 51) ?hr ?_; (case hd => rfl); (case hg => rfl); (case hr => first | (go_simp; done) | (go_simp; rfl)); intro gb106 hg w38 hbox hb; have n0_ := AM (kb (g := gb103) (o := .cells #[.slice (some ad105) l0_0.length c0_0, .int .i64 a0_1] 28 (0, 0)) (lfK BK103.out) hb); have n1_ := AM (bp (by repeat (first | (with_reducible first | exact HB.out | apply ba | apply bn | apply bd | refine bs ?_ GE103.out) | exact HB.out)) hb); have n2_ := AM (hbox); have n3_ := AM ((by rw [hg]; exact (bz (by repeat (first | (with_reducible first | exact HB.out | apply ba | apply bn | apply bd | refine bs ?_ GE103.out) | exact HB.out))) : w.heap.size ≤ gb106)); have n4_ := AM ((by rw [hg]; exact (bz (by repeat (first | (with_reducible first | exact HB.out | apply ba | apply bn | apply bd | refine bs ?_ GE103.out) | exact HB.out))) : w.heap.size ≤ gb106)); have n5_ := AM ((by rw [hg]; exact Nat.ne_of_lt (blk_lt (g := gb103) (o := .cells #[.slice (some ad105) l0_0.length c0_0, .int .i64 a0_1] 28 (0, 0)) (lfK BK103.out)) : gb103 ≠ gb106)); have n6_ := AM ((by rw [hg]; exact Nat.ne_of_gt (blk_lt (g := gb103) (o := .cells #[.slice (some ad105) l0_0.length c0_0, .int .i64 a0_1] 28 (0, 0)) (lfK BK103.out)) : gb106 ≠ gb103)); clear BK103 HB; revert n0_ n1_ n2_ n3_ n4_ n5_ n6_; intro BK103 HB BK106 GW106 GE106 NB103_106 NB106_103; clear hb hbox hg; have hnb39 := NB106_103.out; have hnc39 := NB103_106.out; have hcz40_0 : w38.cell? ⟨gb106, 0, none⟩ = some (.int .i64 0) := (kc BK106.out 0).trans rfl; have hcz40_1 : w38.cell? ⟨gb106, 1, none⟩ = some (.int .i64 0) := (kc BK106.out 1).trans rfl; have hcz40_2 : w38.cell? ⟨gb106, 2, none⟩ = some (.int .i64 0) := (kc BK106.out 2).trans rfl; have hcz40_3 : w38.cell? ⟨gb106, 3, none⟩ = some (.bool false) := (kc BK106.out 3).trans rfl; have hfz40_0 := kz BK106.out 0; have hfz40_1 := kz BK106.out 1; have hfz40_2 := kz BK106.out 2; have hfz40_3 := kz BK106.out 3))
                          have n0_ : Aside0 (((((w38.setCell ⟨gb106, 0, none⟩ (.int .i64 ((rd_T51 l0_0 x3_1).f0))).setCell ⟨gb106, 1, none⟩ (.int .i64 ((rd_T51 l0_0 x3_1).f1))).setCell ⟨gb106, 2, none⟩ (.int .i64 ((rd_T51 l0_0 x3_1).f2))).setCell ⟨gb106, 3, none⟩ (.bool false)).heap[gb103]? = some (.cells #[.slice (some ad105) l0_0.length c0_0, .int .i64 a0_1] 28 (0, 0))) := ⟨by (with_reducible repeat (first | refine kn ?_ _ | refine kd ?_ | refine ka ?_ _)); refine kf ?_ NB103_106.out _; (with_reducible repeat (first | refine kn ?_ _ | refine kd ?_ | refine ka ?_ _)); refine kf ?_ NB103_106.out _; (with_reducible repeat (first | refine kn ?_ _ | refine kd ?_ | refine ka ?_ _)); refine kf ?_ NB103_106.out _; (with_reducible repeat (first | refine kn ?_ _ | refine kd ?_ | refine ka ?_ _)); refine kf ?_ NB103_106.out _; (with_reducible repeat (first | refine kn ?_ _ | refine kd ?_ | refine ka ?_ _)); exact BK103.out⟩
                          have n1_ : Aside0 (((((w38.setCell ⟨gb106, 0, none⟩ (.int .i64 ((rd_T51 l0_0 x3_1).f0))).setCell ⟨gb106, 1, none⟩ (.int .i64 ((rd_T51 l0_0 x3_1).f1))).setCell ⟨gb106, 2, none⟩ (.int .i64 ((rd_T51 l0_0 x3_1).f2))).setCell ⟨gb106, 3, none⟩ (.bool false)).heap[gb106]? = some (.cells #[.int .i64 ((rd_T51 l0_0 x3_1).f0), .int .i64 ((rd_T51 l0_0 x3_1).f1), .int .i64 ((rd_T51 l0_0 x3_1).f2), .bool false] 51 (0, 0))) := ⟨by (with_reducible repeat (first | refine kn ?_ _ | refine kd ?_ | refine ka ?_ _)); refine blk_put (cs := #[.int .i64 ((rd_T51 l0_0 x3_1).f0), .int .i64 ((rd_T51 l0_0 x3_1).f1), .int .i64 ((rd_T51 l0_0 x3_1).f2), .bool false]) ?_ 3 _ rfl; (with_reducible repeat (first | refine kn ?_ _ | refine kd ?_ | refine ka ?_ _)); refine blk_put (cs := #[.int .i64 ((rd_T51 l0_0 x3_1).f0), .int .i64 ((rd_T51 l0_0 x3_1).f1), .int .i64 0, .bool false]) ?_ 2 _ rfl; (with_reducible repeat (first | refine kn ?_ _ | refine kd ?_ | refine ka ?_ _)); refine blk_put (cs := #[.int .i64 ((rd_T51 l0_0 x3_1).f0), .int .i64 0, .int .i64 0, .bool false]) ?_ 1 _ rfl; (with_reducible repeat (first | refine kn ?_ _ | refine kd ?_ | refine ka ?_ _)); refine blk_put (cs := #[.int .i64 0, .int .i64 0, .int .i64 0, .bool false]) ?_ 0 _ rfl; (with_reducible repeat (first | refine kn ?_ _ | refine kd ?_ | refine ka ?_ _)); exact BK106.out⟩
                          have n2_ : Aside0 (Below w.heap.size w ((((w38.setCell ⟨gb106, 0, none⟩ (.int .i64 ((rd_T51 l0_0 x3_1).f0))).setCell ⟨gb106, 1, none⟩ (.int .i64 ((rd_T51 l0_0 x3_1).f1))).setCell ⟨gb106, 2, none⟩ (.int .i64 ((rd_T51 l0_0 x3_1).f2))).setCell ⟨gb106, 3, none⟩ (.bool false))) := ⟨by repeat (first | (with_reducible first | exact HB.out | apply ba | apply bn | apply bd | refine bs ?_ GE103.out | refine bs ?_ GE106.out) | exact HB.out)⟩
                          (try clear BK103)
                          (try clear BK106)
                          (try clear HB)
                          generalize ((((w38.setCell ⟨gb106, 0, none⟩ (.int .i64 ((rd_T51 l0_0 x3_1).f0))).setCell ⟨gb106, 1, none⟩ (.int .i64 ((rd_T51 l0_0 x3_1).f1))).setCell ⟨gb106, 2, none⟩ (.int .i64 ((rd_T51 l0_0 x3_1).f2))).setCell ⟨gb106, 3, none⟩ (.bool false)) = w41 at n0_ n1_ n2_ ⊢
                          revert n0_ n1_ n2_
                          intro BK103 BK106 HB
                          have n0_ := AM (kd BK103.out)
                          have n1_ := AM (kd BK106.out)
                          have n2_ := AM (bd HB.out)
                          clear BK103 BK106 HB
                          revert n0_ n1_ n2_
                          intro BK103 BK106 HB
                          have p110 : 0 ≤ ((ji12) : Int) := of_decide_eq_true (by first | (with_reducible assumption) | assumption)
                          have q110 : (ji12) < (l0_0.length : Int) := of_decide_eq_true (by first | (with_reducible assumption) | assumption)
                          obtain ⟨ad110, e110, hx110_0, hx110_1, hx110_2, hx110_3⟩ := at_T51 HR0_0.out (ji12) p110 q110
                          have hw110_3 := hx110_3
                          have hw110_2 := hx110_2
                          have hw110_1 := hx110_1
                          have hw110_0 := hx110_0
                          (try rw [← Nbq22.out] at hx110_3)
                          obtain rfl : ad105 = ad110 := (by injection e110)
                          replace hx110_0 := (HB.out.cell (World.block_lt_of_cell? w _ hx110_0)).trans hx110_0
                          replace hx110_1 := (HB.out.cell (World.block_lt_of_cell? w _ hx110_1)).trans hx110_1
                          replace hx110_2 := (HB.out.cell (World.block_lt_of_cell? w _ hx110_2)).trans hx110_2
                          replace hx110_3 := (HB.out.cell (World.block_lt_of_cell? w _ hx110_3)).trans hx110_3
                          replace p110 := eq_true p110
                          replace q110 := eq_true q110
                          refine start_ (n := 43) (S := fun w' => w'.cell? ⟨gb106, 0, none⟩ = some (.int .i64 ((rd_T51 l0_0 x3_1).f0)) ∧ w'.cell? ⟨gb106, 1, none⟩ = some (.int .i64 ((rd_T51 l0_0 x3_1).f1)) ∧ w'.cell? ⟨gb106, 2, none⟩ = some (.int .i64 ((rd_T51 l0_0 x3_1).f2)) ∧ w'.cell? ⟨gb106, 3, none⟩ = some (.bool false) ∧ w'.cell? ⟨gb103, 0, none⟩ = some (.slice (some ad105) l0_0.length c0_0) ∧ w'.cell? ⟨gb103, 1, none⟩ = some (.int .i64 a0_1) ∧ w'.cell? (ad105.add (((ji12)).toNat * 4)) = some (.int .i64 ((rd_T51 l0_0 (ji12)).f0)) ∧ w'.cell? ⟨(ad105.add (((ji12)).toNat * 4)).block, (ad105.add (((ji12)).toNat * 4)).off + 1, none⟩ = some (.int .i64 ((rd_T51 l0_0 (ji12)).f1)) ∧ w'.cell? ⟨(ad105.add (((ji12)).toNat * 4)).block, (ad105.add (((ji12)).toNat * 4)).off + 2, none⟩ = some (.int .i64 ((rd_T51 l0_0 (ji12)).f2)) ∧ w'.cell? ⟨(ad105.add (((ji12)).toNat * 4)).block, (ad105.add (((ji12)).toNat * 4)).off + 3, none⟩ = some (.bool ((rd_T51 l0_0 (ji12)).f3))) (ds := []) (mB 43 0x0) (by kernel_rfl) rfl rfl ⟨(kc BK106.out 0).trans rfl, (kc BK106.out 1).trans rfl, (kc BK106.out 2).trans rfl, (kc BK106.out 3).trans rfl, (kc BK103.out 0).trans rfl, (kc BK103.out 1).trans rfl, ((HB.out.cell (World.block_lt_of_cell? w _ hw110_0)).trans hw110_0), ((HB.out.cell (World.block_lt_of_cell? w _ hw110_1)).trans hw110_1), ((HB.out.cell (World.block_lt_of_cell? w _ hw110_2)).trans hw110_2), ((HB.out.cell (World.block_lt_of_cell? w _ hw110_3)).trans hw110_3)⟩ (fun hHeld => ?_); refine with_tabW spec_QueueOk.tab5 spec_QueueOk.bits5 (fun HT_ HW_ => ?_)
                          generalize w41.drew = w42 at BK103 BK106 HB hx110_0 hx110_1 hx110_2 hx110_3 hHeld ⊢
                          refine puY (v := ?_) (a' := ?_) 0 17 (mB 43 0x1) rfl rfl HT_.out (by kernel_rfl) (fun _ _ _ h => h) (by rfl) ?_ ?_ ?_; rotate_left; (focus intro w'; go_simp; with_reducible rfl); rotate_left; (focus simp only [Act.put, sA, sZ, sS, i64_w, i32_w]; rfl)
                          refine take_ (i := 1) (N := some 18) (v := ?_) (a' := ?_) (mB 43 0x3) rfl rfl (take_ofW HT_.out HW_.out (by kernel_rfl)) (fun _ _ _ h => h) (Or.inl ⟨by rfl, ?_⟩) hHeld ?_ ?_
                          rotate_left
                          · rintro w' ⟨s0, s1, s2, s3, s4, s5, s6, s7, s8, s9⟩; go_simp; with_reducible rfl
                          rotate_left
                          · simp only [Act.put, sA, sZ, sS, i64_w, i32_w]; rfl
                          refine one_ (i := 2) (N := some 19) (mB 43 0x7) rfl rfl (one_of HT_.out (by kernel_rfl)) (by decide) (fun K hK => ?_)
                          refine goes_ Try.func16 (by kernel_rfl) rfl #[.int .i64 ((rd_T51 l0_0 x3_1).f0), .int .i64 0, .int .i64 99] (by rfl) rfl rfl (by (try simp only [List.map_toArray, List.map_cons, List.map_nil]); first | done | rfl | (simp only [List.length_drop, List.length_take]; rfl)) ?_
                          with_reducible refine (spec_l6In.calls ((rd_T51 l0_0 x3_1).f0) 0 99 true _ A5.out).mono ?_
                          rintro e w' ⟨rfl, ⟨nd, rfl⟩⟩
                          refine ⟨_, rfl, ?_⟩
                          refine hK.out _ _ ⟨(kc BK106.out 0).trans rfl, (kc BK106.out 1).trans rfl, (kc BK106.out 2).trans rfl, (kc BK106.out 3).trans rfl, (kc BK103.out 0).trans rfl, (kc BK103.out 1).trans rfl, ((HB.out.cell (World.block_lt_of_cell? w _ hw110_0)).trans hw110_0), ((HB.out.cell (World.block_lt_of_cell? w _ hw110_1)).trans hw110_1), ((HB.out.cell (World.block_lt_of_cell? w _ hw110_2)).trans hw110_2), ((HB.out.cell (World.block_lt_of_cell? w _ hw110_3)).trans hw110_3)⟩ (fun hHeld => ?_)
                          clear hK K
                          refine norm_ (a' := ?_) ?_ ?_
                          rotate_left
                          · show Act.put _ (some 19) _ = _
                            simp only [Act.put, sA, sZ, sS, i64_w, i32_w]
                            rfl
                          refine puY (v := ?_) (a' := ?_) 3 20 (mB 43 0xf) rfl rfl HT_.out (by kernel_rfl) (fun _ _ _ h => h) (by rfl) ?_ ?_ ?_; rotate_left; (focus intro w'; go_simp; with_reducible rfl); rotate_left; (focus simp only [Act.put, sA, sZ, sS, i64_w, i32_w]; rfl); refine puY (v := ?_) (a' := ?_) 4 21 (mB 43 0x1f) rfl rfl HT_.out (by kernel_rfl) (fun _ _ _ h => h) (by rfl) ?_ ?_ ?_; rotate_left; (focus intro w'; go_simp; with_reducible rfl); rotate_left; (focus simp only [Act.put, sA, sZ, sS, i64_w, i32_w]; rfl); refine puY (v := ?_) (a' := ?_) 5 22 (mB 43 0x3f) rfl rfl HT_.out (by kernel_rfl) (fun _ _ _ h => h) (by rfl) ?_ ?_ ?_; rotate_left; (focus intro w'; go_simp; with_reducible rfl); rotate_left; (focus simp only [Act.put, sA, sZ, sS, i64_w, i32_w]; rfl)
                          refine take_ (i := 6) (N := some 23) (v := ?_) (a' := ?_) (mB 43 0x7f) rfl rfl (take_ofW HT_.out HW_.out (by kernel_rfl)) (fun _ _ _ h => h) (Or.inl ⟨by rfl, ?_⟩) hHeld ?_ ?_
                          rotate_left
                          · rintro w' ⟨s0, s1, s2, s3, s4, s5, s6, s7, s8, s9⟩; go_simp; with_reducible rfl
                          rotate_left
                          · simp only [Act.put, sA, sZ, sS, i64_w, i32_w]; rfl
                          refine one_ (i := 7) (N := some 24) (mB 43 0xff) rfl rfl (one_of HT_.out (by kernel_rfl)) (by decide) (fun K hK => ?_)
                          refine goes_ Try.func16 (by kernel_rfl) rfl #[.int .i64 ((rd_T51 l0_0 x3_1).f1), .int .i64 1, .int .i64 6] (by rfl) rfl rfl (by (try simp only [List.map_toArray, List.map_cons, List.map_nil]); first | done | rfl | (simp only [List.length_drop, List.length_take]; rfl)) ?_
                          with_reducible refine (spec_l6In.calls ((rd_T51 l0_0 x3_1).f1) 1 6 true _ A7.out).mono ?_
                          rintro e w' ⟨rfl, ⟨nd, rfl⟩⟩
                          refine ⟨_, rfl, ?_⟩
                          refine hK.out _ _ ⟨(kc BK106.out 0).trans rfl, (kc BK106.out 1).trans rfl, (kc BK106.out 2).trans rfl, (kc BK106.out 3).trans rfl, (kc BK103.out 0).trans rfl, (kc BK103.out 1).trans rfl, ((HB.out.cell (World.block_lt_of_cell? w _ hw110_0)).trans hw110_0), ((HB.out.cell (World.block_lt_of_cell? w _ hw110_1)).trans hw110_1), ((HB.out.cell (World.block_lt_of_cell? w _ hw110_2)).trans hw110_2), ((HB.out.cell (World.block_lt_of_cell? w _ hw110_3)).trans hw110_3)⟩ (fun hHeld => ?_)
                          clear hK K
                          refine norm_ (a' := ?_) ?_ ?_
                          rotate_left
                          · show Act.put _ (some 24) _ = _
                            simp only [Act.put, sA, sZ, sS, i64_w, i32_w]
                            rfl
                          refine puY (v := ?_) (a' := ?_) 8 25 (mB 43 0x1ff) rfl rfl HT_.out (by kernel_rfl) (fun _ _ _ h => h) (by rfl) ?_ ?_ ?_; rotate_left; (focus intro w'; go_simp; with_reducible rfl); rotate_left; (focus simp only [Act.put, sA, sZ, sS, i64_w, i32_w]; rfl); refine puY (v := ?_) (a' := ?_) 9 26 (mB 43 0x3ff) rfl rfl HT_.out (by kernel_rfl) (fun _ _ _ h => h) (by rfl) ?_ ?_ ?_; rotate_left; (focus intro w'; go_simp; with_reducible rfl); rotate_left; (focus simp only [Act.put, sA, sZ, sS, i64_w, i32_w]; rfl); refine puY (v := ?_) (a' := ?_) 10 27 (mB 43 0x7ff) rfl rfl HT_.out (by kernel_rfl) (fun _ _ _ h => h) (by rfl) ?_ ?_ ?_; rotate_left; (focus intro w'; go_simp; with_reducible rfl); rotate_left; (focus simp only [Act.put, sA, sZ, sS, i64_w, i32_w]; rfl); refine puY (v := ?_) (a' := ?_) 11 28 (mB 43 0xfff) rfl rfl HT_.out (by kernel_rfl) (fun _ _ _ h => h) (by rfl) ?_ ?_ ?_; rotate_left; (focus intro w'; go_simp; with_reducible rfl); rotate_left; (focus simp only [Act.put, sA, sZ, sS, i64_w, i32_w]; rfl)
                          refine take_ (i := 12) (N := some 29) (v := ?_) (a' := ?_) (mB 43 0x1fff) rfl rfl (take_ofW HT_.out HW_.out (by kernel_rfl)) (fun _ _ _ h => h) (Or.inl ⟨by rfl, ?_⟩) hHeld ?_ ?_
                          rotate_left
                          · rintro w' ⟨s0, s1, s2, s3, s4, s5, s6, s7, s8, s9⟩; go_simp; with_reducible rfl
                          rotate_left
                          · simp only [Act.put, sA, sZ, sS, i64_w, i32_w]; rfl
                          refine one_ (i := 13) (N := some 30) (mB 43 0x3fff) rfl rfl (one_of HT_.out (by kernel_rfl)) (by decide) (fun K hK => ?_)
                          refine goes_ Try.func16 (by kernel_rfl) rfl #[.int .i64 ((rd_T51 l0_0 x3_1).f2), .int .i64 0, .int .i64 1000000] (by rfl) rfl rfl (by (try simp only [List.map_toArray, List.map_cons, List.map_nil]); first | done | rfl | (simp only [List.length_drop, List.length_take]; rfl)) ?_
                          with_reducible refine (spec_l6In.calls ((rd_T51 l0_0 x3_1).f2) 0 1000000 true _ A9.out).mono ?_
                          rintro e w' ⟨rfl, ⟨nd, rfl⟩⟩
                          refine ⟨_, rfl, ?_⟩
                          refine hK.out _ _ ⟨(kc BK106.out 0).trans rfl, (kc BK106.out 1).trans rfl, (kc BK106.out 2).trans rfl, (kc BK106.out 3).trans rfl, (kc BK103.out 0).trans rfl, (kc BK103.out 1).trans rfl, ((HB.out.cell (World.block_lt_of_cell? w _ hw110_0)).trans hw110_0), ((HB.out.cell (World.block_lt_of_cell? w _ hw110_1)).trans hw110_1), ((HB.out.cell (World.block_lt_of_cell? w _ hw110_2)).trans hw110_2), ((HB.out.cell (World.block_lt_of_cell? w _ hw110_3)).trans hw110_3)⟩ (fun hHeld => ?_)
                          clear hK K
                          refine norm_ (a' := ?_) ?_ ?_
                          rotate_left
                          · show Act.put _ (some 30) _ = _
                            simp only [Act.put, sA, sZ, sS, i64_w, i32_w]
                            rfl
                          refine puY (v := ?_) (a' := ?_) 14 31 (mB 43 0x7fff) rfl rfl HT_.out (by kernel_rfl) (fun _ _ _ h => h) (by rfl) ?_ ?_ ?_; rotate_left; (focus intro w'; go_simp; with_reducible rfl); rotate_left; (focus simp only [Act.put, sA, sZ, sS, i64_w, i32_w]; rfl); refine puY (v := ?_) (a' := ?_) 15 32 (mB 43 0xffff) rfl rfl HT_.out (by kernel_rfl) (fun _ _ _ h => h) (by rfl) ?_ ?_ ?_; rotate_left; (focus intro w'; go_simp; with_reducible rfl); rotate_left; (focus simp only [Act.put, sA, sZ, sS, i64_w, i32_w]; rfl); refine puY (v := ?_) (a' := ?_) 16 33 (mB 43 0x1ffff) rfl rfl HT_.out (by kernel_rfl) (fun _ _ _ h => h) (by rfl) ?_ ?_ ?_; rotate_left; (focus intro w'; go_simp; with_reducible rfl); rotate_left; (focus simp only [Act.put, sA, sZ, sS, i64_w, i32_w]; rfl); refine puY (v := ?_) (a' := ?_) 17 34 (mB 43 0x3ffff) rfl rfl HT_.out (by kernel_rfl) (fun _ _ _ h => h) (by rfl) ?_ ?_ ?_; rotate_left; (focus intro w'; go_simp; with_reducible rfl); rotate_left; (focus simp only [Act.put, sA, sZ, sS, i64_w, i32_w]; rfl); refine puY (v := ?_) (a' := ?_) 18 35 (mB 43 0x7ffff) rfl rfl HT_.out (by kernel_rfl) (fun _ _ _ h => h) (by rfl) ?_ ?_ ?_; rotate_left; (focus intro w'; go_simp; with_reducible rfl); rotate_left; (focus simp only [Act.put, sA, sZ, sS, i64_w, i32_w]; rfl); refine puY (v := ?_) (a' := ?_) 19 36 (mB 43 0xfffff) rfl rfl HT_.out (by kernel_rfl) (fun _ _ _ h => h) (by rfl) ?_ ?_ ?_; rotate_left; (focus intro w'; go_simp; with_reducible rfl); rotate_left; (focus simp only [Act.put, sA, sZ, sS, i64_w, i32_w]; rfl); refine puY (v := ?_) (a' := ?_) 20 37 (mB 43 0x1fffff) rfl rfl HT_.out (by kernel_rfl) (fun _ _ _ h => h) (by rfl) ?_ ?_ ?_; rotate_left; (focus intro w'; go_simp; with_reducible rfl); rotate_left; (focus simp only [Act.put, sA, sZ, sS, i64_w, i32_w]; rfl); refine puY (v := ?_) (a' := ?_) 22 39 (mB 43 0x5fffff) rfl rfl HT_.out (by kernel_rfl) (fun _ _ _ h => h) (by rfl) ?_ ?_ ?_; rotate_left; (focus intro w'; go_simp; with_reducible rfl); rotate_left; (focus simp only [Act.put, sA, sZ, sS, i64_w, i32_w]; rfl); refine puY (v := ?_) (a' := ?_) 23 40 (mB 43 0xdfffff) rfl rfl HT_.out (by kernel_rfl) (fun _ _ _ h => h) (by rfl) ?_ ?_ ?_; rotate_left; (focus intro w'; go_simp; with_reducible rfl); rotate_left; (focus simp only [Act.put, sA, sZ, sS, i64_w, i32_w]; rfl); refine puY (v := ?_) (a' := ?_) 27 44 (mB 43 0x8dfffff) rfl rfl HT_.out (by kernel_rfl) (fun _ _ _ h => h) (by rfl) ?_ ?_ ?_; rotate_left; (focus intro w'; go_simp; with_reducible rfl); rotate_left; (focus simp only [Act.put, sA, sZ, sS, i64_w, i32_w]; rfl)
                          refine take_ (i := 21) (N := some 38) (v := ?_) (a' := ?_) (mB 43 0x8ffffff) rfl rfl (take_ofW HT_.out HW_.out (by kernel_rfl)) (fun _ _ _ h => h) (Or.inl ⟨by rfl, ?_⟩) hHeld ?_ ?_
                          rotate_left
                          · rintro w' ⟨s0, s1, s2, s3, s4, s5, s6, s7, s8, s9⟩; go_simp; with_reducible rfl
                          rotate_left
                          · simp only [Act.put, sA, sZ, sS, i64_w, i32_w]; rfl
                          refine puY (v := ?_) (a' := ?_) 24 41 (mB 43 0x9ffffff) rfl rfl HT_.out (by kernel_rfl) (fun _ _ _ h => h) (by rfl) ?_ ?_ ?_; rotate_left; (focus intro w'; go_simp; with_reducible rfl); rotate_left; (focus simp only [Act.put, sA, sZ, sS, i64_w, i32_w]; rfl); refine puY (v := ?_) (a' := ?_) 25 42 (mB 43 0xbffffff) rfl rfl HT_.out (by kernel_rfl) (fun _ _ _ h => h) (by rfl) ?_ ?_ ?_; rotate_left; (focus intro w'; go_simp; with_reducible rfl); rotate_left; (focus simp only [Act.put, sA, sZ, sS, i64_w, i32_w]; rfl)
                          refine take_ (i := 26) (N := some 43) (v := ?_) (a' := ?_) (mB 43 0xfffffff) rfl rfl (take_ofW HT_.out HW_.out (by kernel_rfl)) (fun _ _ _ h => h) (Or.inl ⟨by rfl, ?_⟩) hHeld ?_ ?_
                          rotate_left
                          · rintro w' ⟨s0, s1, s2, s3, s4, s5, s6, s7, s8, s9⟩; go_simp; with_reducible rfl
                          rotate_left
                          · simp only [Act.put, sA, sZ, sS, i64_w, i32_w]; rfl
                          refine take_ (i := 28) (N := some 45) (v := ?_) (a' := ?_) (mB 43 0x1fffffff) rfl rfl (take_ofW HT_.out HW_.out (by kernel_rfl)) (fun _ _ _ h => h) (Or.inl ⟨by rfl, ?_⟩) hHeld ?_ ?_
                          rotate_left
                          · rintro w' ⟨s0, s1, s2, s3, s4, s5, s6, s7, s8, s9⟩; go_simp; with_reducible rfl
                          rotate_left
                          · simp only [Act.put, sA, sZ, sS, i64_w, i32_w]; rfl
                          refine puY (v := ?_) (a' := ?_) 29 46 (mB 43 0x3fffffff) rfl rfl HT_.out (by kernel_rfl) (fun _ _ _ h => h) (by rfl) ?_ ?_ ?_; rotate_left; (focus intro w'; go_simp; with_reducible rfl); rotate_left; (focus simp only [Act.put, sA, sZ, sS, i64_w, i32_w]; rfl); refine puY (v := ?_) (a' := ?_) 30 47 (mB 43 0x7fffffff) rfl rfl HT_.out (by kernel_rfl) (fun _ _ _ h => h) (by rfl) ?_ ?_ ?_; rotate_left; (focus intro w'; go_simp; with_reducible rfl); rotate_left; (focus simp only [Act.put, sA, sZ, sS, i64_w, i32_w]; rfl); refine puY (v := ?_) (a' := ?_) 31 48 (mB 43 0xffffffff) rfl rfl HT_.out (by kernel_rfl) (fun _ _ _ h => h) (by rfl) ?_ ?_ ?_; rotate_left; (focus intro w'; go_simp; with_reducible rfl); rotate_left; (focus simp only [Act.put, sA, sZ, sS, i64_w, i32_w]; rfl); refine puY (v := ?_) (a' := ?_) 32 49 (mB 43 0x1ffffffff) rfl rfl HT_.out (by kernel_rfl) (fun _ _ _ h => h) (by rfl) ?_ ?_ ?_; rotate_left; (focus intro w'; go_simp; with_reducible rfl); rotate_left; (focus simp only [Act.put, sA, sZ, sS, i64_w, i32_w]; rfl); refine puY (v := ?_) (a' := ?_) 33 50 (mB 43 0x3ffffffff) rfl rfl HT_.out (by kernel_rfl) (fun _ _ _ h => h) (by rfl) ?_ ?_ ?_; rotate_left; (focus intro w'; go_simp; with_reducible rfl); rotate_left; (focus simp only [Act.put, sA, sZ, sS, i64_w, i32_w]; rfl)
                          refine take_ (i := 34) (N := some 51) (v := ?_) (a' := ?_) (mB 43 0x7ffffffff) rfl rfl (take_ofW HT_.out HW_.out (by kernel_rfl)) (fun _ _ _ h => h) (Or.inl ⟨by rfl, ?_⟩) hHeld ?_ ?_
                          rotate_left
                          · rintro w' ⟨s0, s1, s2, s3, s4, s5, s6, s7, s8, s9⟩; go_simp; with_reducible rfl
                          rotate_left
                          · simp only [Act.put, sA, sZ, sS, i64_w, i32_w]; rfl
                          refine puY (v := ?_) (a' := ?_) 35 52 (mB 43 0xfffffffff) rfl rfl HT_.out (by kernel_rfl) (fun _ _ _ h => h) (by rfl) ?_ ?_ ?_; rotate_left; (focus intro w'; go_simp; with_reducible rfl); rotate_left; (focus simp only [Act.put, sA, sZ, sS, i64_w, i32_w]; rfl); refine puM 36 53 (mB 43 0x1fffffffff) rfl rfl HT_.out (by kernel_rfl) (fun _ _ _ h => h) (by rfl) ?_; refine puM 37 54 (mB 43 0x3fffffffff) rfl rfl HT_.out (by kernel_rfl) (fun _ _ _ h => h) (by rfl) ?_; refine puN (a' := ?_) 38 55 (mB 43 0x7fffffffff) rfl rfl HT_.out (by kernel_rfl) (fun _ _ _ h => h) (by rfl) ?_ ?_; rotate_left; (focus simp only [Act.put, sA, sZ, sS, i64_w, i32_w]; rfl); refine puM 39 56 (mB 43 0xffffffffff) rfl rfl HT_.out (by kernel_rfl) (fun _ _ _ h => h) (by rfl) ?_; refine puN (a' := ?_) 40 57 (mB 43 0x1ffffffffff) rfl rfl HT_.out (by kernel_rfl) (fun _ _ _ h => h) (by rfl) ?_ ?_; rotate_left; (focus simp only [Act.put, sA, sZ, sS, i64_w, i32_w]; rfl); refine puY (v := ?_) (a' := ?_) 41 58 (mB 43 0x3ffffffffff) rfl rfl HT_.out (by kernel_rfl) (fun _ _ _ h => h) (by rfl) ?_ ?_ ?_; rotate_left; (focus intro w'; go_simp; with_reducible rfl); rotate_left; (focus simp only [Act.put, sA, sZ, sS, i64_w, i32_w]; rfl); refine puY (v := ?_) (a' := ?_) 42 59 (mB 43 0x7ffffffffff) rfl rfl HT_.out (by kernel_rfl) (fun _ _ _ h => h) (by rfl) ?_ ?_ ?_; rotate_left; (focus intro w'; go_simp; with_reducible rfl); rotate_left; (focus simp only [Act.put, sA, sZ, sS, i64_w, i32_w]; rfl)
                          refine done_ (done_of HT_.out (by kernel_rfl)) ?_
                          try go_wp2
                          go_roundg k1
                          case measure => have := HK1.out; omega
                          case rel => exact ⟨(wrap64 (x3_1 + 1)), (by first | rfl | (simp; done) | (simp [*]; done)), H', ⟨by have := HK1.out; omega⟩, ⟨by (with_reducible repeat (first | refine kn ?_ _ | refine kd ?_ | refine ka ?_ _)); exact BK103.out⟩, ⟨by repeat (first | (with_reducible first | exact HB.out | apply ba | apply bn | apply bd | refine bs ?_ GE103.out | refine bs ?_ GE106.out) | exact HB.out)⟩⟩
                    · rw [if_neg c14] at H
                      exact absurd H (by simp)
                  · rw [if_neg c13] at H
                    exact absurd H (by simp)
                · rw [if_neg c11] at H
                  have c11b0 : decide (0 < x3_1) = false := decide_eq_false c11
                  clear c11
                  obtain ⟨bq43, hbq43⟩ : ∃ b_ : Bool, b_ = ((rd_T51 l0_0 x3_1).f3) := ⟨_, rfl⟩
                  replace H : (if bq43 = true then (if ((rd_T51 l0_0 x3_1).f2) < a0_1 then (some false) else (spec_QueueOk.l0 k1 (wrap64 (x3_1 + 1)) l0_0 a0_1)) else (spec_QueueOk.l0 k1 (wrap64 (x3_1 + 1)) l0_0 a0_1)) = some r := by rw [← hbq43] at H; exact H
                  have Nbq43 := AM hbq43
                  clear hbq43
                  by_cases c44 : bq43 = true
                  · subst c44
                    have H1 : (if ((rd_T51 l0_0 x3_1).f2) < a0_1 then (some false) else (spec_QueueOk.l0 k1 (wrap64 (x3_1 + 1)) l0_0 a0_1)) = some r := by rw [if_pos rfl] at H; exact H
                    clear H
                    have H := H1
                    clear H1
                    by_cases c45 : ((rd_T51 l0_0 x3_1).f2) < a0_1
                    · rw [if_pos c45] at H
                      have c45b0 : decide (((rd_T51 l0_0 x3_1).f2) < a0_1) = true := decide_eq_true c45
                      clear c45
                      obtain rfl := Option.some.inj H
                      have hcz46_0 : wr.cell? ⟨gb103, 0, none⟩ = some (.slice A0_0 l0_0.length c0_0) := (kc BK103.out 0).trans rfl
                      have hcz46_1 : wr.cell? ⟨gb103, 1, none⟩ = some (.int .i64 a0_1) := (kc BK103.out 1).trans rfl
                      have hfz46_0 := kz BK103.out 0
                      have hfz46_1 := kz BK103.out 1
                      have p105 : 0 ≤ (x3_1 : Int) := of_decide_eq_true (by first | (with_reducible assumption) | assumption)
                      have q105 : x3_1 < (l0_0.length : Int) := of_decide_eq_true (by first | (with_reducible assumption) | assumption)
                      obtain ⟨ad105, e105, hx105_0, hx105_1, hx105_2, hx105_3⟩ := at_T51 HR0_0.out x3_1 p105 q105
                      (try rw [← Nbq43.out] at hx105_3)
                      cases e105
                      replace hx105_0 := (HB.out.cell (World.block_lt_of_cell? w _ hx105_0)).trans hx105_0
                      replace hx105_1 := (HB.out.cell (World.block_lt_of_cell? w _ hx105_1)).trans hx105_1
                      replace hx105_2 := (HB.out.cell (World.block_lt_of_cell? w _ hx105_2)).trans hx105_2
                      replace hx105_3 := (HB.out.cell (World.block_lt_of_cell? w _ hx105_3)).trans hx105_3
                      replace p105 := eq_true p105
                      replace q105 := eq_true q105
                      try go_wp2_with (first | ((with_reducible refine gd (N := 4) rfl ?_); refine xe ?hg (N := 4) ?hd (cs := #[.int .i64 0, .int .i64 0, .int .i64 0, .bool false]) (t := 51) ?hr ?_; (case hd => rfl); (case hg => rfl); (case hr => first | (go_simp; done) | (go_simp; rfl)); intro gb106 hg w47 hbox hb; have n0_ := AM (kb (g := gb103) (o := .cells #[.slice (some ad105) l0_0.length c0_0, .int .i64 a0_1] 28 (0, 0)) (lfK BK103.out) hb); have n1_ := AM (bp (by repeat (first | (with_reducible first | exact HB.out | apply ba | apply bn | apply bd | refine bs ?_ GE103.out) | exact HB.out)) hb); have n2_ := AM (hbox); have n3_ := AM ((by rw [hg]; exact (bz (by repeat (first | (with_reducible first | exact HB.out | apply ba | apply bn | apply bd | refine bs ?_ GE103.out) | exact HB.out))) : w.heap.size ≤ gb106)); have n4_ := AM ((by rw [hg]; exact (bz (by repeat (first | (with_reducible first | exact HB.out | apply ba | apply bn | apply bd | refine bs ?_ GE103.out) | exact HB.out))) : w.heap.size ≤ gb106)); have n5_ := AM ((by rw [hg]; exact Nat.ne_of_lt (blk_lt (g := gb103) (o := .cells #[.slice (some ad105) l0_0.length c0_0, .int .i64 a0_1] 28 (0, 0)) (lfK BK103.out)) : gb103 ≠ gb106)); have n6_ := AM ((by rw [hg]; exact Nat.ne_of_gt (blk_lt (g := gb103) (o := .cells #[.slice (some ad105) l0_0.length c0_0, .int .i64 a0_1] 28 (0, 0)) (lfK BK103.out)) : gb106 ≠ gb103)); clear BK103 HB; revert n0_ n1_ n2_ n3_ n4_ n5_ n6_; intro BK103 HB BK106 GW106 GE106 NB103_106 NB106_103; clear hb hbox hg; have hnb48 := NB106_103.out; have hnc48 := NB103_106.out; have hcz49_0 : w47.cell? ⟨gb106, 0, none⟩ = some (.int .i64 0) := (kc BK106.out 0).trans rfl; have hcz49_1 : w47.cell? ⟨gb106, 1, none⟩ = some (.int .i64 0) := (kc BK106.out 1).trans rfl; have hcz49_2 : w47.cell? ⟨gb106, 2, none⟩ = some (.int .i64 0) := (kc BK106.out 2).trans rfl; have hcz49_3 : w47.cell? ⟨gb106, 3, none⟩ = some (.bool false) := (kc BK106.out 3).trans rfl; have hfz49_0 := kz BK106.out 0; have hfz49_1 := kz BK106.out 1; have hfz49_2 := kz BK106.out 2; have hfz49_3 := kz BK106.out 3))
                      have n0_ : Aside0 (((((w47.setCell ⟨gb106, 0, none⟩ (.int .i64 ((rd_T51 l0_0 x3_1).f0))).setCell ⟨gb106, 1, none⟩ (.int .i64 ((rd_T51 l0_0 x3_1).f1))).setCell ⟨gb106, 2, none⟩ (.int .i64 ((rd_T51 l0_0 x3_1).f2))).setCell ⟨gb106, 3, none⟩ (.bool true)).heap[gb103]? = some (.cells #[.slice (some ad105) l0_0.length c0_0, .int .i64 a0_1] 28 (0, 0))) := ⟨by (with_reducible repeat (first | refine kn ?_ _ | refine kd ?_ | refine ka ?_ _)); refine kf ?_ NB103_106.out _; (with_reducible repeat (first | refine kn ?_ _ | refine kd ?_ | refine ka ?_ _)); refine kf ?_ NB103_106.out _; (with_reducible repeat (first | refine kn ?_ _ | refine kd ?_ | refine ka ?_ _)); refine kf ?_ NB103_106.out _; (with_reducible repeat (first | refine kn ?_ _ | refine kd ?_ | refine ka ?_ _)); refine kf ?_ NB103_106.out _; (with_reducible repeat (first | refine kn ?_ _ | refine kd ?_ | refine ka ?_ _)); exact BK103.out⟩
                      have n1_ : Aside0 (((((w47.setCell ⟨gb106, 0, none⟩ (.int .i64 ((rd_T51 l0_0 x3_1).f0))).setCell ⟨gb106, 1, none⟩ (.int .i64 ((rd_T51 l0_0 x3_1).f1))).setCell ⟨gb106, 2, none⟩ (.int .i64 ((rd_T51 l0_0 x3_1).f2))).setCell ⟨gb106, 3, none⟩ (.bool true)).heap[gb106]? = some (.cells #[.int .i64 ((rd_T51 l0_0 x3_1).f0), .int .i64 ((rd_T51 l0_0 x3_1).f1), .int .i64 ((rd_T51 l0_0 x3_1).f2), .bool true] 51 (0, 0))) := ⟨by (with_reducible repeat (first | refine kn ?_ _ | refine kd ?_ | refine ka ?_ _)); refine blk_put (cs := #[.int .i64 ((rd_T51 l0_0 x3_1).f0), .int .i64 ((rd_T51 l0_0 x3_1).f1), .int .i64 ((rd_T51 l0_0 x3_1).f2), .bool false]) ?_ 3 _ rfl; (with_reducible repeat (first | refine kn ?_ _ | refine kd ?_ | refine ka ?_ _)); refine blk_put (cs := #[.int .i64 ((rd_T51 l0_0 x3_1).f0), .int .i64 ((rd_T51 l0_0 x3_1).f1), .int .i64 0, .bool false]) ?_ 2 _ rfl; (with_reducible repeat (first | refine kn ?_ _ | refine kd ?_ | refine ka ?_ _)); refine blk_put (cs := #[.int .i64 ((rd_T51 l0_0 x3_1).f0), .int .i64 0, .int .i64 0, .bool false]) ?_ 1 _ rfl; (with_reducible repeat (first | refine kn ?_ _ | refine kd ?_ | refine ka ?_ _)); refine blk_put (cs := #[.int .i64 0, .int .i64 0, .int .i64 0, .bool false]) ?_ 0 _ rfl; (with_reducible repeat (first | refine kn ?_ _ | refine kd ?_ | refine ka ?_ _)); exact BK106.out⟩
                      have n2_ : Aside0 (Below w.heap.size w ((((w47.setCell ⟨gb106, 0, none⟩ (.int .i64 ((rd_T51 l0_0 x3_1).f0))).setCell ⟨gb106, 1, none⟩ (.int .i64 ((rd_T51 l0_0 x3_1).f1))).setCell ⟨gb106, 2, none⟩ (.int .i64 ((rd_T51 l0_0 x3_1).f2))).setCell ⟨gb106, 3, none⟩ (.bool true))) := ⟨by repeat (first | (with_reducible first | exact HB.out | apply ba | apply bn | apply bd | refine bs ?_ GE103.out | refine bs ?_ GE106.out) | exact HB.out)⟩
                      (try clear BK103)
                      (try clear BK106)
                      (try clear HB)
                      generalize ((((w47.setCell ⟨gb106, 0, none⟩ (.int .i64 ((rd_T51 l0_0 x3_1).f0))).setCell ⟨gb106, 1, none⟩ (.int .i64 ((rd_T51 l0_0 x3_1).f1))).setCell ⟨gb106, 2, none⟩ (.int .i64 ((rd_T51 l0_0 x3_1).f2))).setCell ⟨gb106, 3, none⟩ (.bool true)) = w50 at n0_ n1_ n2_ ⊢
                      revert n0_ n1_ n2_
                      intro BK103 BK106 HB
                      have n0_ := AM (kd BK103.out)
                      have n1_ := AM (kd BK106.out)
                      have n2_ := AM (bd HB.out)
                      clear BK103 BK106 HB
                      revert n0_ n1_ n2_
                      intro BK103 BK106 HB
                      refine start_ (n := 43) (S := fun w' => w'.cell? ⟨gb106, 0, none⟩ = some (.int .i64 ((rd_T51 l0_0 x3_1).f0)) ∧ w'.cell? ⟨gb106, 1, none⟩ = some (.int .i64 ((rd_T51 l0_0 x3_1).f1)) ∧ w'.cell? ⟨gb106, 2, none⟩ = some (.int .i64 ((rd_T51 l0_0 x3_1).f2)) ∧ w'.cell? ⟨gb106, 3, none⟩ = some (.bool true) ∧ w'.cell? ⟨gb103, 0, none⟩ = some (.slice (some ad105) l0_0.length c0_0) ∧ w'.cell? ⟨gb103, 1, none⟩ = some (.int .i64 a0_1)) (ds := []) (mB 43 0x0) (by kernel_rfl) rfl rfl ⟨(kc BK106.out 0).trans rfl, (kc BK106.out 1).trans rfl, (kc BK106.out 2).trans rfl, (kc BK106.out 3).trans rfl, (kc BK103.out 0).trans rfl, (kc BK103.out 1).trans rfl⟩ (fun hHeld => ?_); refine with_tabW spec_QueueOk.tab5 spec_QueueOk.bits5 (fun HT_ HW_ => ?_)
                      generalize w50.drew = w51 at BK103 BK106 HB hHeld ⊢
                      refine puY (v := ?_) (a' := ?_) 0 17 (mB 43 0x1) rfl rfl HT_.out (by kernel_rfl) (fun _ _ _ h => h) (by rfl) ?_ ?_ ?_; rotate_left; (focus intro w'; go_simp; with_reducible rfl); rotate_left; (focus simp only [Act.put, sA, sZ, sS, i64_w, i32_w]; rfl)
                      refine take_ (i := 1) (N := some 18) (v := ?_) (a' := ?_) (mB 43 0x3) rfl rfl (take_ofW HT_.out HW_.out (by kernel_rfl)) (fun _ _ _ h => h) (Or.inl ⟨by rfl, ?_⟩) hHeld ?_ ?_
                      rotate_left
                      · rintro w' ⟨s0, s1, s2, s3, s4, s5⟩; go_simp; with_reducible rfl
                      rotate_left
                      · simp only [Act.put, sA, sZ, sS, i64_w, i32_w]; rfl
                      refine one_ (i := 2) (N := some 19) (mB 43 0x7) rfl rfl (one_of HT_.out (by kernel_rfl)) (by decide) (fun K hK => ?_)
                      refine goes_ Try.func16 (by kernel_rfl) rfl #[.int .i64 ((rd_T51 l0_0 x3_1).f0), .int .i64 0, .int .i64 99] (by rfl) rfl rfl (by (try simp only [List.map_toArray, List.map_cons, List.map_nil]); first | done | rfl | (simp only [List.length_drop, List.length_take]; rfl)) ?_
                      with_reducible refine (spec_l6In.calls ((rd_T51 l0_0 x3_1).f0) 0 99 true _ A5.out).mono ?_
                      rintro e w' ⟨rfl, ⟨nd, rfl⟩⟩
                      refine ⟨_, rfl, ?_⟩
                      refine hK.out _ _ ⟨(kc BK106.out 0).trans rfl, (kc BK106.out 1).trans rfl, (kc BK106.out 2).trans rfl, (kc BK106.out 3).trans rfl, (kc BK103.out 0).trans rfl, (kc BK103.out 1).trans rfl⟩ (fun hHeld => ?_)
                      clear hK K
                      refine norm_ (a' := ?_) ?_ ?_
                      rotate_left
                      · show Act.put _ (some 19) _ = _
                        simp only [Act.put, sA, sZ, sS, i64_w, i32_w]
                        rfl
                      refine puY (v := ?_) (a' := ?_) 3 20 (mB 43 0xf) rfl rfl HT_.out (by kernel_rfl) (fun _ _ _ h => h) (by rfl) ?_ ?_ ?_; rotate_left; (focus intro w'; go_simp; with_reducible rfl); rotate_left; (focus simp only [Act.put, sA, sZ, sS, i64_w, i32_w]; rfl); refine puY (v := ?_) (a' := ?_) 4 21 (mB 43 0x1f) rfl rfl HT_.out (by kernel_rfl) (fun _ _ _ h => h) (by rfl) ?_ ?_ ?_; rotate_left; (focus intro w'; go_simp; with_reducible rfl); rotate_left; (focus simp only [Act.put, sA, sZ, sS, i64_w, i32_w]; rfl); refine puY (v := ?_) (a' := ?_) 5 22 (mB 43 0x3f) rfl rfl HT_.out (by kernel_rfl) (fun _ _ _ h => h) (by rfl) ?_ ?_ ?_; rotate_left; (focus intro w'; go_simp; with_reducible rfl); rotate_left; (focus simp only [Act.put, sA, sZ, sS, i64_w, i32_w]; rfl)
                      refine take_ (i := 6) (N := some 23) (v := ?_) (a' := ?_) (mB 43 0x7f) rfl rfl (take_ofW HT_.out HW_.out (by kernel_rfl)) (fun _ _ _ h => h) (Or.inl ⟨by rfl, ?_⟩) hHeld ?_ ?_
                      rotate_left
                      · rintro w' ⟨s0, s1, s2, s3, s4, s5⟩; go_simp; with_reducible rfl
                      rotate_left
                      · simp only [Act.put, sA, sZ, sS, i64_w, i32_w]; rfl
                      refine one_ (i := 7) (N := some 24) (mB 43 0xff) rfl rfl (one_of HT_.out (by kernel_rfl)) (by decide) (fun K hK => ?_)
                      refine goes_ Try.func16 (by kernel_rfl) rfl #[.int .i64 ((rd_T51 l0_0 x3_1).f1), .int .i64 1, .int .i64 6] (by rfl) rfl rfl (by (try simp only [List.map_toArray, List.map_cons, List.map_nil]); first | done | rfl | (simp only [List.length_drop, List.length_take]; rfl)) ?_
                      with_reducible refine (spec_l6In.calls ((rd_T51 l0_0 x3_1).f1) 1 6 true _ A7.out).mono ?_
                      rintro e w' ⟨rfl, ⟨nd, rfl⟩⟩
                      refine ⟨_, rfl, ?_⟩
                      refine hK.out _ _ ⟨(kc BK106.out 0).trans rfl, (kc BK106.out 1).trans rfl, (kc BK106.out 2).trans rfl, (kc BK106.out 3).trans rfl, (kc BK103.out 0).trans rfl, (kc BK103.out 1).trans rfl⟩ (fun hHeld => ?_)
                      clear hK K
                      refine norm_ (a' := ?_) ?_ ?_
                      rotate_left
                      · show Act.put _ (some 24) _ = _
                        simp only [Act.put, sA, sZ, sS, i64_w, i32_w]
                        rfl
                      refine puY (v := ?_) (a' := ?_) 8 25 (mB 43 0x1ff) rfl rfl HT_.out (by kernel_rfl) (fun _ _ _ h => h) (by rfl) ?_ ?_ ?_; rotate_left; (focus intro w'; go_simp; with_reducible rfl); rotate_left; (focus simp only [Act.put, sA, sZ, sS, i64_w, i32_w]; rfl); refine puY (v := ?_) (a' := ?_) 9 26 (mB 43 0x3ff) rfl rfl HT_.out (by kernel_rfl) (fun _ _ _ h => h) (by rfl) ?_ ?_ ?_; rotate_left; (focus intro w'; go_simp; with_reducible rfl); rotate_left; (focus simp only [Act.put, sA, sZ, sS, i64_w, i32_w]; rfl); refine puY (v := ?_) (a' := ?_) 10 27 (mB 43 0x7ff) rfl rfl HT_.out (by kernel_rfl) (fun _ _ _ h => h) (by rfl) ?_ ?_ ?_; rotate_left; (focus intro w'; go_simp; with_reducible rfl); rotate_left; (focus simp only [Act.put, sA, sZ, sS, i64_w, i32_w]; rfl); refine puY (v := ?_) (a' := ?_) 11 28 (mB 43 0xfff) rfl rfl HT_.out (by kernel_rfl) (fun _ _ _ h => h) (by rfl) ?_ ?_ ?_; rotate_left; (focus intro w'; go_simp; with_reducible rfl); rotate_left; (focus simp only [Act.put, sA, sZ, sS, i64_w, i32_w]; rfl)
                      refine take_ (i := 12) (N := some 29) (v := ?_) (a' := ?_) (mB 43 0x1fff) rfl rfl (take_ofW HT_.out HW_.out (by kernel_rfl)) (fun _ _ _ h => h) (Or.inl ⟨by rfl, ?_⟩) hHeld ?_ ?_
                      rotate_left
                      · rintro w' ⟨s0, s1, s2, s3, s4, s5⟩; go_simp; with_reducible rfl
                      rotate_left
                      · simp only [Act.put, sA, sZ, sS, i64_w, i32_w]; rfl
                      refine one_ (i := 13) (N := some 30) (mB 43 0x3fff) rfl rfl (one_of HT_.out (by kernel_rfl)) (by decide) (fun K hK => ?_)
                      refine goes_ Try.func16 (by kernel_rfl) rfl #[.int .i64 ((rd_T51 l0_0 x3_1).f2), .int .i64 0, .int .i64 1000000] (by rfl) rfl rfl (by (try simp only [List.map_toArray, List.map_cons, List.map_nil]); first | done | rfl | (simp only [List.length_drop, List.length_take]; rfl)) ?_
                      with_reducible refine (spec_l6In.calls ((rd_T51 l0_0 x3_1).f2) 0 1000000 true _ A9.out).mono ?_
                      rintro e w' ⟨rfl, ⟨nd, rfl⟩⟩
                      refine ⟨_, rfl, ?_⟩
                      refine hK.out _ _ ⟨(kc BK106.out 0).trans rfl, (kc BK106.out 1).trans rfl, (kc BK106.out 2).trans rfl, (kc BK106.out 3).trans rfl, (kc BK103.out 0).trans rfl, (kc BK103.out 1).trans rfl⟩ (fun hHeld => ?_)
                      clear hK K
                      refine norm_ (a' := ?_) ?_ ?_
                      rotate_left
                      · show Act.put _ (some 30) _ = _
                        simp only [Act.put, sA, sZ, sS, i64_w, i32_w]
                        rfl
                      refine puY (v := ?_) (a' := ?_) 14 31 (mB 43 0x7fff) rfl rfl HT_.out (by kernel_rfl) (fun _ _ _ h => h) (by rfl) ?_ ?_ ?_; rotate_left; (focus intro w'; go_simp; with_reducible rfl); rotate_left; (focus simp only [Act.put, sA, sZ, sS, i64_w, i32_w]; rfl); refine puY (v := ?_) (a' := ?_) 15 32 (mB 43 0xffff) rfl rfl HT_.out (by kernel_rfl) (fun _ _ _ h => h) (by rfl) ?_ ?_ ?_; rotate_left; (focus intro w'; go_simp; with_reducible rfl); rotate_left; (focus simp only [Act.put, sA, sZ, sS, i64_w, i32_w]; rfl); refine puY (v := ?_) (a' := ?_) 16 33 (mB 43 0x1ffff) rfl rfl HT_.out (by kernel_rfl) (fun _ _ _ h => h) (by rfl) ?_ ?_ ?_; rotate_left; (focus intro w'; go_simp; with_reducible rfl); rotate_left; (focus simp only [Act.put, sA, sZ, sS, i64_w, i32_w]; rfl); refine puY (v := ?_) (a' := ?_) 17 34 (mB 43 0x3ffff) rfl rfl HT_.out (by kernel_rfl) (fun _ _ _ h => h) (by rfl) ?_ ?_ ?_; rotate_left; (focus intro w'; go_simp; with_reducible rfl); rotate_left; (focus simp only [Act.put, sA, sZ, sS, i64_w, i32_w]; rfl); refine puY (v := ?_) (a' := ?_) 18 35 (mB 43 0x7ffff) rfl rfl HT_.out (by kernel_rfl) (fun _ _ _ h => h) (by rfl) ?_ ?_ ?_; rotate_left; (focus intro w'; go_simp; with_reducible rfl); rotate_left; (focus simp only [Act.put, sA, sZ, sS, i64_w, i32_w]; rfl); refine puY (v := ?_) (a' := ?_) 19 36 (mB 43 0xfffff) rfl rfl HT_.out (by kernel_rfl) (fun _ _ _ h => h) (by rfl) ?_ ?_ ?_; rotate_left; (focus intro w'; go_simp; with_reducible rfl); rotate_left; (focus simp only [Act.put, sA, sZ, sS, i64_w, i32_w]; rfl); refine puM 20 37 (mB 43 0x1fffff) rfl rfl HT_.out (by kernel_rfl) (fun _ _ _ h => h) (by rfl) ?_; refine puM 21 38 (mB 43 0x3fffff) rfl rfl HT_.out (by kernel_rfl) (fun _ _ _ h => h) (by rfl) ?_; refine puN (a' := ?_) 22 39 (mB 43 0x7fffff) rfl rfl HT_.out (by kernel_rfl) (fun _ _ _ h => h) (by rfl) ?_ ?_; rotate_left; (focus simp only [Act.put, sA, sZ, sS, i64_w, i32_w]; rfl); refine puM 23 40 (mB 43 0xffffff) rfl rfl HT_.out (by kernel_rfl) (fun _ _ _ h => h) (by rfl) ?_; refine puM 24 41 (mB 43 0x1ffffff) rfl rfl HT_.out (by kernel_rfl) (fun _ _ _ h => h) (by rfl) ?_; refine puN (a' := ?_) 25 42 (mB 43 0x3ffffff) rfl rfl HT_.out (by kernel_rfl) (fun _ _ _ h => h) (by rfl) ?_ ?_; rotate_left; (focus simp only [Act.put, sA, sZ, sS, i64_w, i32_w]; rfl); refine puM 26 43 (mB 43 0x7ffffff) rfl rfl HT_.out (by kernel_rfl) (fun _ _ _ h => h) (by rfl) ?_; refine puM 27 44 (mB 43 0xfffffff) rfl rfl HT_.out (by kernel_rfl) (fun _ _ _ h => h) (by rfl) ?_; refine puN (a' := ?_) 28 45 (mB 43 0x1fffffff) rfl rfl HT_.out (by kernel_rfl) (fun _ _ _ h => h) (by rfl) ?_ ?_; rotate_left; (focus simp only [Act.put, sA, sZ, sS, i64_w, i32_w]; rfl); refine puN (a' := ?_) 29 46 (mB 43 0x3fffffff) rfl rfl HT_.out (by kernel_rfl) (fun _ _ _ h => h) (by rfl) ?_ ?_; rotate_left; (focus simp only [Act.put, sA, sZ, sS, i64_w, i32_w]; rfl); refine puY (v := ?_) (a' := ?_) 30 47 (mB 43 0x7fffffff) rfl rfl HT_.out (by kernel_rfl) (fun _ _ _ h => h) (by rfl) ?_ ?_ ?_; rotate_left; (focus intro w'; go_simp; with_reducible rfl); rotate_left; (focus simp only [Act.put, sA, sZ, sS, i64_w, i32_w]; rfl); refine puY (v := ?_) (a' := ?_) 31 48 (mB 43 0xffffffff) rfl rfl HT_.out (by kernel_rfl) (fun _ _ _ h => h) (by rfl) ?_ ?_ ?_; rotate_left; (focus intro w'; go_simp; with_reducible rfl); rotate_left; (focus simp only [Act.put, sA, sZ, sS, i64_w, i32_w]; rfl); refine puY (v := ?_) (a' := ?_) 32 49 (mB 43 0x1ffffffff) rfl rfl HT_.out (by kernel_rfl) (fun _ _ _ h => h) (by rfl) ?_ ?_ ?_; rotate_left; (focus intro w'; go_simp; with_reducible rfl); rotate_left; (focus simp only [Act.put, sA, sZ, sS, i64_w, i32_w]; rfl); refine puY (v := ?_) (a' := ?_) 33 50 (mB 43 0x3ffffffff) rfl rfl HT_.out (by kernel_rfl) (fun _ _ _ h => h) (by rfl) ?_ ?_ ?_; rotate_left; (focus intro w'; go_simp; with_reducible rfl); rotate_left; (focus simp only [Act.put, sA, sZ, sS, i64_w, i32_w]; rfl)
                      refine take_ (i := 34) (N := some 51) (v := ?_) (a' := ?_) (mB 43 0x7ffffffff) rfl rfl (take_ofW HT_.out HW_.out (by kernel_rfl)) (fun _ _ _ h => h) (Or.inl ⟨by rfl, ?_⟩) hHeld ?_ ?_
                      rotate_left
                      · rintro w' ⟨s0, s1, s2, s3, s4, s5⟩; go_simp; with_reducible rfl
                      rotate_left
                      · simp only [Act.put, sA, sZ, sS, i64_w, i32_w]; rfl
                      refine puY (v := ?_) (a' := ?_) 35 52 (mB 43 0xfffffffff) rfl rfl HT_.out (by kernel_rfl) (fun _ _ _ h => h) (by rfl) ?_ ?_ ?_; rotate_left; (focus intro w'; go_simp; with_reducible rfl); rotate_left; (focus simp only [Act.put, sA, sZ, sS, i64_w, i32_w]; rfl); refine puY (v := ?_) (a' := ?_) 36 53 (mB 43 0x1fffffffff) rfl rfl HT_.out (by kernel_rfl) (fun _ _ _ h => h) (by rfl) ?_ ?_ ?_; rotate_left; (focus intro w'; go_simp; with_reducible rfl); rotate_left; (focus simp only [Act.put, sA, sZ, sS, i64_w, i32_w]; rfl); refine puY (v := ?_) (a' := ?_) 38 55 (mB 43 0x5fffffffff) rfl rfl HT_.out (by kernel_rfl) (fun _ _ _ h => h) (by rfl) ?_ ?_ ?_; rotate_left; (focus intro w'; go_simp; with_reducible rfl); rotate_left; (focus simp only [Act.put, sA, sZ, sS, i64_w, i32_w]; rfl)
                      refine take_ (i := 37) (N := some 54) (v := ?_) (a' := ?_) (mB 43 0x7fffffffff) rfl rfl (take_ofW HT_.out HW_.out (by kernel_rfl)) (fun _ _ _ h => h) (Or.inl ⟨by rfl, ?_⟩) hHeld ?_ ?_
                      rotate_left
                      · rintro w' ⟨s0, s1, s2, s3, s4, s5⟩; go_simp; with_reducible rfl
                      rotate_left
                      · simp only [Act.put, sA, sZ, sS, i64_w, i32_w]; rfl
                      refine take_ (i := 39) (N := some 56) (v := ?_) (a' := ?_) (mB 43 0xffffffffff) rfl rfl (take_ofW HT_.out HW_.out (by kernel_rfl)) (fun _ _ _ h => h) (Or.inl ⟨by rfl, ?_⟩) hHeld ?_ ?_
                      rotate_left
                      · rintro w' ⟨s0, s1, s2, s3, s4, s5⟩; go_simp; with_reducible rfl
                      rotate_left
                      · simp only [Act.put, sA, sZ, sS, i64_w, i32_w]; rfl
                      refine puY (v := ?_) (a' := ?_) 40 57 (mB 43 0x1ffffffffff) rfl rfl HT_.out (by kernel_rfl) (fun _ _ _ h => h) (by rfl) ?_ ?_ ?_; rotate_left; (focus intro w'; go_simp; with_reducible rfl); rotate_left; (focus simp only [Act.put, sA, sZ, sS, i64_w, i32_w]; rfl); refine puY (v := ?_) (a' := ?_) 41 58 (mB 43 0x3ffffffffff) rfl rfl HT_.out (by kernel_rfl) (fun _ _ _ h => h) (by rfl) ?_ ?_ ?_; rotate_left; (focus intro w'; go_simp; with_reducible rfl); rotate_left; (focus simp only [Act.put, sA, sZ, sS, i64_w, i32_w]; rfl); refine puY (v := ?_) (a' := ?_) 42 59 (mB 43 0x7ffffffffff) rfl rfl HT_.out (by kernel_rfl) (fun _ _ _ h => h) (by rfl) ?_ ?_ ?_; rotate_left; (focus intro w'; go_simp; with_reducible rfl); rotate_left; (focus simp only [Act.put, sA, sZ, sS, i64_w, i32_w]; rfl)
                      refine done_ (done_of HT_.out (by kernel_rfl)) ?_
                      try go_wp2
                      go_ret
                      exact ⟨by first | rfl | (simp [errW_none, errW_some] <;> rfl) | (simp [*, errW_none, errW_some] <;> rfl), by repeat (first | (with_reducible first | exact HB.out | apply ba | apply bn | apply bd | refine bs ?_ GE103.out | refine bs ?_ GE106.out) | exact HB.out)⟩
                    · rw [if_neg c45] at H
                      have c45b0 : decide (((rd_T51 l0_0 x3_1).f2) < a0_1) = false := decide_eq_false c45
                      clear c45
                      have H' := AM H
                      clear H
                      have hcz52_0 : wr.cell? ⟨gb103, 0, none⟩ = some (.slice A0_0 l0_0.length c0_0) := (kc BK103.out 0).trans rfl
                      have hcz52_1 : wr.cell? ⟨gb103, 1, none⟩ = some (.int .i64 a0_1) := (kc BK103.out 1).trans rfl
                      have hfz52_0 := kz BK103.out 0
                      have hfz52_1 := kz BK103.out 1
                      have p105 : 0 ≤ (x3_1 : Int) := of_decide_eq_true (by first | (with_reducible assumption) | assumption)
                      have q105 : x3_1 < (l0_0.length : Int) := of_decide_eq_true (by first | (with_reducible assumption) | assumption)
                      obtain ⟨ad105, e105, hx105_0, hx105_1, hx105_2, hx105_3⟩ := at_T51 HR0_0.out x3_1 p105 q105
                      (try rw [← Nbq43.out] at hx105_3)
                      cases e105
                      replace hx105_0 := (HB.out.cell (World.block_lt_of_cell? w _ hx105_0)).trans hx105_0
                      replace hx105_1 := (HB.out.cell (World.block_lt_of_cell? w _ hx105_1)).trans hx105_1
                      replace hx105_2 := (HB.out.cell (World.block_lt_of_cell? w _ hx105_2)).trans hx105_2
                      replace hx105_3 := (HB.out.cell (World.block_lt_of_cell? w _ hx105_3)).trans hx105_3
                      replace p105 := eq_true p105
                      replace q105 := eq_true q105
                      try go_wp2_with (first | ((with_reducible refine gd (N := 4) rfl ?_); refine xe ?hg (N := 4) ?hd (cs := #[.int .i64 0, .int .i64 0, .int .i64 0, .bool false]) (t := 51) ?hr ?_; (case hd => rfl); (case hg => rfl); (case hr => first | (go_simp; done) | (go_simp; rfl)); intro gb106 hg w53 hbox hb; have n0_ := AM (kb (g := gb103) (o := .cells #[.slice (some ad105) l0_0.length c0_0, .int .i64 a0_1] 28 (0, 0)) (lfK BK103.out) hb); have n1_ := AM (bp (by repeat (first | (with_reducible first | exact HB.out | apply ba | apply bn | apply bd | refine bs ?_ GE103.out) | exact HB.out)) hb); have n2_ := AM (hbox); have n3_ := AM ((by rw [hg]; exact (bz (by repeat (first | (with_reducible first | exact HB.out | apply ba | apply bn | apply bd | refine bs ?_ GE103.out) | exact HB.out))) : w.heap.size ≤ gb106)); have n4_ := AM ((by rw [hg]; exact (bz (by repeat (first | (with_reducible first | exact HB.out | apply ba | apply bn | apply bd | refine bs ?_ GE103.out) | exact HB.out))) : w.heap.size ≤ gb106)); have n5_ := AM ((by rw [hg]; exact Nat.ne_of_lt (blk_lt (g := gb103) (o := .cells #[.slice (some ad105) l0_0.length c0_0, .int .i64 a0_1] 28 (0, 0)) (lfK BK103.out)) : gb103 ≠ gb106)); have n6_ := AM ((by rw [hg]; exact Nat.ne_of_gt (blk_lt (g := gb103) (o := .cells #[.slice (some ad105) l0_0.length c0_0, .int .i64 a0_1] 28 (0, 0)) (lfK BK103.out)) : gb106 ≠ gb103)); clear BK103 HB; revert n0_ n1_ n2_ n3_ n4_ n5_ n6_; intro BK103 HB BK106 GW106 GE106 NB103_106 NB106_103; clear hb hbox hg; have hnb54 := NB106_103.out; have hnc54 := NB103_106.out; have hcz55_0 : w53.cell? ⟨gb106, 0, none⟩ = some (.int .i64 0) := (kc BK106.out 0).trans rfl; have hcz55_1 : w53.cell? ⟨gb106, 1, none⟩ = some (.int .i64 0) := (kc BK106.out 1).trans rfl; have hcz55_2 : w53.cell? ⟨gb106, 2, none⟩ = some (.int .i64 0) := (kc BK106.out 2).trans rfl; have hcz55_3 : w53.cell? ⟨gb106, 3, none⟩ = some (.bool false) := (kc BK106.out 3).trans rfl; have hfz55_0 := kz BK106.out 0; have hfz55_1 := kz BK106.out 1; have hfz55_2 := kz BK106.out 2; have hfz55_3 := kz BK106.out 3))
                      have n0_ : Aside0 (((((w53.setCell ⟨gb106, 0, none⟩ (.int .i64 ((rd_T51 l0_0 x3_1).f0))).setCell ⟨gb106, 1, none⟩ (.int .i64 ((rd_T51 l0_0 x3_1).f1))).setCell ⟨gb106, 2, none⟩ (.int .i64 ((rd_T51 l0_0 x3_1).f2))).setCell ⟨gb106, 3, none⟩ (.bool true)).heap[gb103]? = some (.cells #[.slice (some ad105) l0_0.length c0_0, .int .i64 a0_1] 28 (0, 0))) := ⟨by (with_reducible repeat (first | refine kn ?_ _ | refine kd ?_ | refine ka ?_ _)); refine kf ?_ NB103_106.out _; (with_reducible repeat (first | refine kn ?_ _ | refine kd ?_ | refine ka ?_ _)); refine kf ?_ NB103_106.out _; (with_reducible repeat (first | refine kn ?_ _ | refine kd ?_ | refine ka ?_ _)); refine kf ?_ NB103_106.out _; (with_reducible repeat (first | refine kn ?_ _ | refine kd ?_ | refine ka ?_ _)); refine kf ?_ NB103_106.out _; (with_reducible repeat (first | refine kn ?_ _ | refine kd ?_ | refine ka ?_ _)); exact BK103.out⟩
                      have n1_ : Aside0 (((((w53.setCell ⟨gb106, 0, none⟩ (.int .i64 ((rd_T51 l0_0 x3_1).f0))).setCell ⟨gb106, 1, none⟩ (.int .i64 ((rd_T51 l0_0 x3_1).f1))).setCell ⟨gb106, 2, none⟩ (.int .i64 ((rd_T51 l0_0 x3_1).f2))).setCell ⟨gb106, 3, none⟩ (.bool true)).heap[gb106]? = some (.cells #[.int .i64 ((rd_T51 l0_0 x3_1).f0), .int .i64 ((rd_T51 l0_0 x3_1).f1), .int .i64 ((rd_T51 l0_0 x3_1).f2), .bool true] 51 (0, 0))) := ⟨by (with_reducible repeat (first | refine kn ?_ _ | refine kd ?_ | refine ka ?_ _)); refine blk_put (cs := #[.int .i64 ((rd_T51 l0_0 x3_1).f0), .int .i64 ((rd_T51 l0_0 x3_1).f1), .int .i64 ((rd_T51 l0_0 x3_1).f2), .bool false]) ?_ 3 _ rfl; (with_reducible repeat (first | refine kn ?_ _ | refine kd ?_ | refine ka ?_ _)); refine blk_put (cs := #[.int .i64 ((rd_T51 l0_0 x3_1).f0), .int .i64 ((rd_T51 l0_0 x3_1).f1), .int .i64 0, .bool false]) ?_ 2 _ rfl; (with_reducible repeat (first | refine kn ?_ _ | refine kd ?_ | refine ka ?_ _)); refine blk_put (cs := #[.int .i64 ((rd_T51 l0_0 x3_1).f0), .int .i64 0, .int .i64 0, .bool false]) ?_ 1 _ rfl; (with_reducible repeat (first | refine kn ?_ _ | refine kd ?_ | refine ka ?_ _)); refine blk_put (cs := #[.int .i64 0, .int .i64 0, .int .i64 0, .bool false]) ?_ 0 _ rfl; (with_reducible repeat (first | refine kn ?_ _ | refine kd ?_ | refine ka ?_ _)); exact BK106.out⟩
                      have n2_ : Aside0 (Below w.heap.size w ((((w53.setCell ⟨gb106, 0, none⟩ (.int .i64 ((rd_T51 l0_0 x3_1).f0))).setCell ⟨gb106, 1, none⟩ (.int .i64 ((rd_T51 l0_0 x3_1).f1))).setCell ⟨gb106, 2, none⟩ (.int .i64 ((rd_T51 l0_0 x3_1).f2))).setCell ⟨gb106, 3, none⟩ (.bool true))) := ⟨by repeat (first | (with_reducible first | exact HB.out | apply ba | apply bn | apply bd | refine bs ?_ GE103.out | refine bs ?_ GE106.out) | exact HB.out)⟩
                      (try clear BK103)
                      (try clear BK106)
                      (try clear HB)
                      generalize ((((w53.setCell ⟨gb106, 0, none⟩ (.int .i64 ((rd_T51 l0_0 x3_1).f0))).setCell ⟨gb106, 1, none⟩ (.int .i64 ((rd_T51 l0_0 x3_1).f1))).setCell ⟨gb106, 2, none⟩ (.int .i64 ((rd_T51 l0_0 x3_1).f2))).setCell ⟨gb106, 3, none⟩ (.bool true)) = w56 at n0_ n1_ n2_ ⊢
                      revert n0_ n1_ n2_
                      intro BK103 BK106 HB
                      have n0_ := AM (kd BK103.out)
                      have n1_ := AM (kd BK106.out)
                      have n2_ := AM (bd HB.out)
                      clear BK103 BK106 HB
                      revert n0_ n1_ n2_
                      intro BK103 BK106 HB
                      refine start_ (n := 43) (S := fun w' => w'.cell? ⟨gb106, 0, none⟩ = some (.int .i64 ((rd_T51 l0_0 x3_1).f0)) ∧ w'.cell? ⟨gb106, 1, none⟩ = some (.int .i64 ((rd_T51 l0_0 x3_1).f1)) ∧ w'.cell? ⟨gb106, 2, none⟩ = some (.int .i64 ((rd_T51 l0_0 x3_1).f2)) ∧ w'.cell? ⟨gb106, 3, none⟩ = some (.bool true) ∧ w'.cell? ⟨gb103, 0, none⟩ = some (.slice (some ad105) l0_0.length c0_0) ∧ w'.cell? ⟨gb103, 1, none⟩ = some (.int .i64 a0_1)) (ds := []) (mB 43 0x0) (by kernel_rfl) rfl rfl ⟨(kc BK106.out 0).trans rfl, (kc BK106.out 1).trans rfl, (kc BK106.out 2).trans rfl, (kc BK106.out 3).trans rfl, (kc BK103.out 0).trans rfl, (kc BK103.out 1).trans rfl⟩ (fun hHeld => ?_); refine with_tabW spec_QueueOk.tab5 spec_QueueOk.bits5 (fun HT_ HW_ => ?_)
                      generalize w56.drew = w57 at BK103 BK106 HB hHeld ⊢
                      refine puY (v := ?_) (a' := ?_) 0 17 (mB 43 0x1) rfl rfl HT_.out (by kernel_rfl) (fun _ _ _ h => h) (by rfl) ?_ ?_ ?_; rotate_left; (focus intro w'; go_simp; with_reducible rfl); rotate_left; (focus simp only [Act.put, sA, sZ, sS, i64_w, i32_w]; rfl)
                      refine take_ (i := 1) (N := some 18) (v := ?_) (a' := ?_) (mB 43 0x3) rfl rfl (take_ofW HT_.out HW_.out (by kernel_rfl)) (fun _ _ _ h => h) (Or.inl ⟨by rfl, ?_⟩) hHeld ?_ ?_
                      rotate_left
                      · rintro w' ⟨s0, s1, s2, s3, s4, s5⟩; go_simp; with_reducible rfl
                      rotate_left
                      · simp only [Act.put, sA, sZ, sS, i64_w, i32_w]; rfl
                      refine one_ (i := 2) (N := some 19) (mB 43 0x7) rfl rfl (one_of HT_.out (by kernel_rfl)) (by decide) (fun K hK => ?_)
                      refine goes_ Try.func16 (by kernel_rfl) rfl #[.int .i64 ((rd_T51 l0_0 x3_1).f0), .int .i64 0, .int .i64 99] (by rfl) rfl rfl (by (try simp only [List.map_toArray, List.map_cons, List.map_nil]); first | done | rfl | (simp only [List.length_drop, List.length_take]; rfl)) ?_
                      with_reducible refine (spec_l6In.calls ((rd_T51 l0_0 x3_1).f0) 0 99 true _ A5.out).mono ?_
                      rintro e w' ⟨rfl, ⟨nd, rfl⟩⟩
                      refine ⟨_, rfl, ?_⟩
                      refine hK.out _ _ ⟨(kc BK106.out 0).trans rfl, (kc BK106.out 1).trans rfl, (kc BK106.out 2).trans rfl, (kc BK106.out 3).trans rfl, (kc BK103.out 0).trans rfl, (kc BK103.out 1).trans rfl⟩ (fun hHeld => ?_)
                      clear hK K
                      refine norm_ (a' := ?_) ?_ ?_
                      rotate_left
                      · show Act.put _ (some 19) _ = _
                        simp only [Act.put, sA, sZ, sS, i64_w, i32_w]
                        rfl
                      refine puY (v := ?_) (a' := ?_) 3 20 (mB 43 0xf) rfl rfl HT_.out (by kernel_rfl) (fun _ _ _ h => h) (by rfl) ?_ ?_ ?_; rotate_left; (focus intro w'; go_simp; with_reducible rfl); rotate_left; (focus simp only [Act.put, sA, sZ, sS, i64_w, i32_w]; rfl); refine puY (v := ?_) (a' := ?_) 4 21 (mB 43 0x1f) rfl rfl HT_.out (by kernel_rfl) (fun _ _ _ h => h) (by rfl) ?_ ?_ ?_; rotate_left; (focus intro w'; go_simp; with_reducible rfl); rotate_left; (focus simp only [Act.put, sA, sZ, sS, i64_w, i32_w]; rfl); refine puY (v := ?_) (a' := ?_) 5 22 (mB 43 0x3f) rfl rfl HT_.out (by kernel_rfl) (fun _ _ _ h => h) (by rfl) ?_ ?_ ?_; rotate_left; (focus intro w'; go_simp; with_reducible rfl); rotate_left; (focus simp only [Act.put, sA, sZ, sS, i64_w, i32_w]; rfl)
                      refine take_ (i := 6) (N := some 23) (v := ?_) (a' := ?_) (mB 43 0x7f) rfl rfl (take_ofW HT_.out HW_.out (by kernel_rfl)) (fun _ _ _ h => h) (Or.inl ⟨by rfl, ?_⟩) hHeld ?_ ?_
                      rotate_left
                      · rintro w' ⟨s0, s1, s2, s3, s4, s5⟩; go_simp; with_reducible rfl
                      rotate_left
                      · simp only [Act.put, sA, sZ, sS, i64_w, i32_w]; rfl
                      refine one_ (i := 7) (N := some 24) (mB 43 0xff) rfl rfl (one_of HT_.out (by kernel_rfl)) (by decide) (fun K hK => ?_)
                      refine goes_ Try.func16 (by kernel_rfl) rfl #[.int .i64 ((rd_T51 l0_0 x3_1).f1), .int .i64 1, .int .i64 6] (by rfl) rfl rfl (by (try simp only [List.map_toArray, List.map_cons, List.map_nil]); first | done | rfl | (simp only [List.length_drop, List.length_take]; rfl)) ?_
                      with_reducible refine (spec_l6In.calls ((rd_T51 l0_0 x3_1).f1) 1 6 true _ A7.out).mono ?_
                      rintro e w' ⟨rfl, ⟨nd, rfl⟩⟩
                      refine ⟨_, rfl, ?_⟩
                      refine hK.out _ _ ⟨(kc BK106.out 0).trans rfl, (kc BK106.out 1).trans rfl, (kc BK106.out 2).trans rfl, (kc BK106.out 3).trans rfl, (kc BK103.out 0).trans rfl, (kc BK103.out 1).trans rfl⟩ (fun hHeld => ?_)
                      clear hK K
                      refine norm_ (a' := ?_) ?_ ?_
                      rotate_left
                      · show Act.put _ (some 24) _ = _
                        simp only [Act.put, sA, sZ, sS, i64_w, i32_w]
                        rfl
                      refine puY (v := ?_) (a' := ?_) 8 25 (mB 43 0x1ff) rfl rfl HT_.out (by kernel_rfl) (fun _ _ _ h => h) (by rfl) ?_ ?_ ?_; rotate_left; (focus intro w'; go_simp; with_reducible rfl); rotate_left; (focus simp only [Act.put, sA, sZ, sS, i64_w, i32_w]; rfl); refine puY (v := ?_) (a' := ?_) 9 26 (mB 43 0x3ff) rfl rfl HT_.out (by kernel_rfl) (fun _ _ _ h => h) (by rfl) ?_ ?_ ?_; rotate_left; (focus intro w'; go_simp; with_reducible rfl); rotate_left; (focus simp only [Act.put, sA, sZ, sS, i64_w, i32_w]; rfl); refine puY (v := ?_) (a' := ?_) 10 27 (mB 43 0x7ff) rfl rfl HT_.out (by kernel_rfl) (fun _ _ _ h => h) (by rfl) ?_ ?_ ?_; rotate_left; (focus intro w'; go_simp; with_reducible rfl); rotate_left; (focus simp only [Act.put, sA, sZ, sS, i64_w, i32_w]; rfl); refine puY (v := ?_) (a' := ?_) 11 28 (mB 43 0xfff) rfl rfl HT_.out (by kernel_rfl) (fun _ _ _ h => h) (by rfl) ?_ ?_ ?_; rotate_left; (focus intro w'; go_simp; with_reducible rfl); rotate_left; (focus simp only [Act.put, sA, sZ, sS, i64_w, i32_w]; rfl)
                      refine take_ (i := 12) (N := some 29) (v := ?_) (a' := ?_) (mB 43 0x1fff) rfl rfl (take_ofW HT_.out HW_.out (by kernel_rfl)) (fun _ _ _ h => h) (Or.inl ⟨by rfl, ?_⟩) hHeld ?_ ?_
                      rotate_left
                      · rintro w' ⟨s0, s1, s2, s3, s4, s5⟩; go_simp; with_reducible rfl
                      rotate_left
                      · simp only [Act.put, sA, sZ, sS, i64_w, i32_w]; rfl
                      refine one_ (i := 13) (N := some 30) (mB 43 0x3fff) rfl rfl (one_of HT_.out (by kernel_rfl)) (by decide) (fun K hK => ?_)
                      refine goes_ Try.func16 (by kernel_rfl) rfl #[.int .i64 ((rd_T51 l0_0 x3_1).f2), .int .i64 0, .int .i64 1000000] (by rfl) rfl rfl (by (try simp only [List.map_toArray, List.map_cons, List.map_nil]); first | done | rfl | (simp only [List.length_drop, List.length_take]; rfl)) ?_
                      with_reducible refine (spec_l6In.calls ((rd_T51 l0_0 x3_1).f2) 0 1000000 true _ A9.out).mono ?_
                      rintro e w' ⟨rfl, ⟨nd, rfl⟩⟩
                      refine ⟨_, rfl, ?_⟩
                      refine hK.out _ _ ⟨(kc BK106.out 0).trans rfl, (kc BK106.out 1).trans rfl, (kc BK106.out 2).trans rfl, (kc BK106.out 3).trans rfl, (kc BK103.out 0).trans rfl, (kc BK103.out 1).trans rfl⟩ (fun hHeld => ?_)
                      clear hK K
                      refine norm_ (a' := ?_) ?_ ?_
                      rotate_left
                      · show Act.put _ (some 30) _ = _
                        simp only [Act.put, sA, sZ, sS, i64_w, i32_w]
                        rfl
                      refine puY (v := ?_) (a' := ?_) 14 31 (mB 43 0x7fff) rfl rfl HT_.out (by kernel_rfl) (fun _ _ _ h => h) (by rfl) ?_ ?_ ?_; rotate_left; (focus intro w'; go_simp; with_reducible rfl); rotate_left; (focus simp only [Act.put, sA, sZ, sS, i64_w, i32_w]; rfl); refine puY (v := ?_) (a' := ?_) 15 32 (mB 43 0xffff) rfl rfl HT_.out (by kernel_rfl) (fun _ _ _ h => h) (by rfl) ?_ ?_ ?_; rotate_left; (focus intro w'; go_simp; with_reducible rfl); rotate_left; (focus simp only [Act.put, sA, sZ, sS, i64_w, i32_w]; rfl); refine puY (v := ?_) (a' := ?_) 16 33 (mB 43 0x1ffff) rfl rfl HT_.out (by kernel_rfl) (fun _ _ _ h => h) (by rfl) ?_ ?_ ?_; rotate_left; (focus intro w'; go_simp; with_reducible rfl); rotate_left; (focus simp only [Act.put, sA, sZ, sS, i64_w, i32_w]; rfl); refine puY (v := ?_) (a' := ?_) 17 34 (mB 43 0x3ffff) rfl rfl HT_.out (by kernel_rfl) (fun _ _ _ h => h) (by rfl) ?_ ?_ ?_; rotate_left; (focus intro w'; go_simp; with_reducible rfl); rotate_left; (focus simp only [Act.put, sA, sZ, sS, i64_w, i32_w]; rfl); refine puY (v := ?_) (a' := ?_) 18 35 (mB 43 0x7ffff) rfl rfl HT_.out (by kernel_rfl) (fun _ _ _ h => h) (by rfl) ?_ ?_ ?_; rotate_left; (focus intro w'; go_simp; with_reducible rfl); rotate_left; (focus simp only [Act.put, sA, sZ, sS, i64_w, i32_w]; rfl); refine puY (v := ?_) (a' := ?_) 19 36 (mB 43 0xfffff) rfl rfl HT_.out (by kernel_rfl) (fun _ _ _ h => h) (by rfl) ?_ ?_ ?_; rotate_left; (focus intro w'; go_simp; with_reducible rfl); rotate_left; (focus simp only [Act.put, sA, sZ, sS, i64_w, i32_w]; rfl); refine puM 20 37 (mB 43 0x1fffff) rfl rfl HT_.out (by kernel_rfl) (fun _ _ _ h => h) (by rfl) ?_; refine puM 21 38 (mB 43 0x3fffff) rfl rfl HT_.out (by kernel_rfl) (fun _ _ _ h => h) (by rfl) ?_; refine puN (a' := ?_) 22 39 (mB 43 0x7fffff) rfl rfl HT_.out (by kernel_rfl) (fun _ _ _ h => h) (by rfl) ?_ ?_; rotate_left; (focus simp only [Act.put, sA, sZ, sS, i64_w, i32_w]; rfl); refine puM 23 40 (mB 43 0xffffff) rfl rfl HT_.out (by kernel_rfl) (fun _ _ _ h => h) (by rfl) ?_; refine puM 24 41 (mB 43 0x1ffffff) rfl rfl HT_.out (by kernel_rfl) (fun _ _ _ h => h) (by rfl) ?_; refine puN (a' := ?_) 25 42 (mB 43 0x3ffffff) rfl rfl HT_.out (by kernel_rfl) (fun _ _ _ h => h) (by rfl) ?_ ?_; rotate_left; (focus simp only [Act.put, sA, sZ, sS, i64_w, i32_w]; rfl); refine puM 26 43 (mB 43 0x7ffffff) rfl rfl HT_.out (by kernel_rfl) (fun _ _ _ h => h) (by rfl) ?_; refine puM 27 44 (mB 43 0xfffffff) rfl rfl HT_.out (by kernel_rfl) (fun _ _ _ h => h) (by rfl) ?_; refine puN (a' := ?_) 28 45 (mB 43 0x1fffffff) rfl rfl HT_.out (by kernel_rfl) (fun _ _ _ h => h) (by rfl) ?_ ?_; rotate_left; (focus simp only [Act.put, sA, sZ, sS, i64_w, i32_w]; rfl); refine puN (a' := ?_) 29 46 (mB 43 0x3fffffff) rfl rfl HT_.out (by kernel_rfl) (fun _ _ _ h => h) (by rfl) ?_ ?_; rotate_left; (focus simp only [Act.put, sA, sZ, sS, i64_w, i32_w]; rfl); refine puY (v := ?_) (a' := ?_) 30 47 (mB 43 0x7fffffff) rfl rfl HT_.out (by kernel_rfl) (fun _ _ _ h => h) (by rfl) ?_ ?_ ?_; rotate_left; (focus intro w'; go_simp; with_reducible rfl); rotate_left; (focus simp only [Act.put, sA, sZ, sS, i64_w, i32_w]; rfl); refine puY (v := ?_) (a' := ?_) 31 48 (mB 43 0xffffffff) rfl rfl HT_.out (by kernel_rfl) (fun _ _ _ h => h) (by rfl) ?_ ?_ ?_; rotate_left; (focus intro w'; go_simp; with_reducible rfl); rotate_left; (focus simp only [Act.put, sA, sZ, sS, i64_w, i32_w]; rfl); refine puY (v := ?_) (a' := ?_) 32 49 (mB 43 0x1ffffffff) rfl rfl HT_.out (by kernel_rfl) (fun _ _ _ h => h) (by rfl) ?_ ?_ ?_; rotate_left; (focus intro w'; go_simp; with_reducible rfl); rotate_left; (focus simp only [Act.put, sA, sZ, sS, i64_w, i32_w]; rfl); refine puY (v := ?_) (a' := ?_) 33 50 (mB 43 0x3ffffffff) rfl rfl HT_.out (by kernel_rfl) (fun _ _ _ h => h) (by rfl) ?_ ?_ ?_; rotate_left; (focus intro w'; go_simp; with_reducible rfl); rotate_left; (focus simp only [Act.put, sA, sZ, sS, i64_w, i32_w]; rfl)
                      refine take_ (i := 34) (N := some 51) (v := ?_) (a' := ?_) (mB 43 0x7ffffffff) rfl rfl (take_ofW HT_.out HW_.out (by kernel_rfl)) (fun _ _ _ h => h) (Or.inl ⟨by rfl, ?_⟩) hHeld ?_ ?_
                      rotate_left
                      · rintro w' ⟨s0, s1, s2, s3, s4, s5⟩; go_simp; with_reducible rfl
                      rotate_left
                      · simp only [Act.put, sA, sZ, sS, i64_w, i32_w]; rfl
                      refine puY (v := ?_) (a' := ?_) 35 52 (mB 43 0xfffffffff) rfl rfl HT_.out (by kernel_rfl) (fun _ _ _ h => h) (by rfl) ?_ ?_ ?_; rotate_left; (focus intro w'; go_simp; with_reducible rfl); rotate_left; (focus simp only [Act.put, sA, sZ, sS, i64_w, i32_w]; rfl); refine puY (v := ?_) (a' := ?_) 36 53 (mB 43 0x1fffffffff) rfl rfl HT_.out (by kernel_rfl) (fun _ _ _ h => h) (by rfl) ?_ ?_ ?_; rotate_left; (focus intro w'; go_simp; with_reducible rfl); rotate_left; (focus simp only [Act.put, sA, sZ, sS, i64_w, i32_w]; rfl); refine puY (v := ?_) (a' := ?_) 38 55 (mB 43 0x5fffffffff) rfl rfl HT_.out (by kernel_rfl) (fun _ _ _ h => h) (by rfl) ?_ ?_ ?_; rotate_left; (focus intro w'; go_simp; with_reducible rfl); rotate_left; (focus simp only [Act.put, sA, sZ, sS, i64_w, i32_w]; rfl)
                      refine take_ (i := 37) (N := some 54) (v := ?_) (a' := ?_) (mB 43 0x7fffffffff) rfl rfl (take_ofW HT_.out HW_.out (by kernel_rfl)) (fun _ _ _ h => h) (Or.inl ⟨by rfl, ?_⟩) hHeld ?_ ?_
                      rotate_left
                      · rintro w' ⟨s0, s1, s2, s3, s4, s5⟩; go_simp; with_reducible rfl
                      rotate_left
                      · simp only [Act.put, sA, sZ, sS, i64_w, i32_w]; rfl
                      refine take_ (i := 39) (N := some 56) (v := ?_) (a' := ?_) (mB 43 0xffffffffff) rfl rfl (take_ofW HT_.out HW_.out (by kernel_rfl)) (fun _ _ _ h => h) (Or.inl ⟨by rfl, ?_⟩) hHeld ?_ ?_
                      rotate_left
                      · rintro w' ⟨s0, s1, s2, s3, s4, s5⟩; go_simp; with_reducible rfl
                      rotate_left
                      · simp only [Act.put, sA, sZ, sS, i64_w, i32_w]; rfl
                      refine puY (v := ?_) (a' := ?_) 40 57 (mB 43 0x1ffffffffff) rfl rfl HT_.out (by kernel_rfl) (fun _ _ _ h => h) (by rfl) ?_ ?_ ?_; rotate_left; (focus intro w'; go_simp; with_reducible rfl); rotate_left; (focus simp only [Act.put, sA, sZ, sS, i64_w, i32_w]; rfl); refine puY (v := ?_) (a' := ?_) 41 58 (mB 43 0x3ffffffffff) rfl rfl HT_.out (by kernel_rfl) (fun _ _ _ h => h) (by rfl) ?_ ?_ ?_; rotate_left; (focus intro w'; go_simp; with_reducible rfl); rotate_left; (focus simp only [Act.put, sA, sZ, sS, i64_w, i32_w]; rfl); refine puY (v := ?_) (a' := ?_) 42 59 (mB 43 0x7ffffffffff) rfl rfl HT_.out (by kernel_rfl) (fun _ _ _ h => h) (by rfl) ?_ ?_ ?_; rotate_left; (focus intro w'; go_simp; with_reducible rfl); rotate_left; (focus simp only [Act.put, sA, sZ, sS, i64_w, i32_w]; rfl)
                      refine done_ (done_of HT_.out (by kernel_rfl)) ?_
                      try go_wp2
                      go_roundg k1
                      case measure => have := HK1.out; omega
                      case rel => exact ⟨(wrap64 (x3_1 + 1)), (by first | rfl | (simp; done) | (simp [*]; done)), H', ⟨by have := HK1.out; omega⟩, ⟨by (with_reducible repeat (first | refine kn ?_ _ | refine kd ?_ | refine ka ?_ _)); exact BK103.out⟩, ⟨by repeat (first | (with_reducible first | exact HB.out | apply ba | apply bn | apply bd | refine bs ?_ GE103.out | refine bs ?_ GE106.out) | exact HB.out)⟩⟩
                  · replace c44 := Bool.eq_false_iff.mpr c44
                    subst c44
                    have H1 : (spec_QueueOk.l0 k1 (wrap64 (x3_1 + 1)) l0_0 a0_1) = some r := by rw [if_neg (show ¬ (false = true) by decide)] at H; exact H
                    clear H
                    have H := H1
                    clear H1
                    have H' := AM H
                    clear H
                    have hcz58_0 : wr.cell? ⟨gb103, 0, none⟩ = some (.slice A0_0 l0_0.length c0_0) := (kc BK103.out 0).trans rfl
                    have hcz58_1 : wr.cell? ⟨gb103, 1, none⟩ = some (.int .i64 a0_1) := (kc BK103.out 1).trans rfl
                    have hfz58_0 := kz BK103.out 0
                    have hfz58_1 := kz BK103.out 1
                    have p105 : 0 ≤ (x3_1 : Int) := of_decide_eq_true (by first | (with_reducible assumption) | assumption)
                    have q105 : x3_1 < (l0_0.length : Int) := of_decide_eq_true (by first | (with_reducible assumption) | assumption)
                    obtain ⟨ad105, e105, hx105_0, hx105_1, hx105_2, hx105_3⟩ := at_T51 HR0_0.out x3_1 p105 q105
                    (try rw [← Nbq43.out] at hx105_3)
                    cases e105
                    replace hx105_0 := (HB.out.cell (World.block_lt_of_cell? w _ hx105_0)).trans hx105_0
                    replace hx105_1 := (HB.out.cell (World.block_lt_of_cell? w _ hx105_1)).trans hx105_1
                    replace hx105_2 := (HB.out.cell (World.block_lt_of_cell? w _ hx105_2)).trans hx105_2
                    replace hx105_3 := (HB.out.cell (World.block_lt_of_cell? w _ hx105_3)).trans hx105_3
                    replace p105 := eq_true p105
                    replace q105 := eq_true q105
                    try go_wp2_with (first | ((with_reducible refine gd (N := 4) rfl ?_); refine xe ?hg (N := 4) ?hd (cs := #[.int .i64 0, .int .i64 0, .int .i64 0, .bool false]) (t := 51) ?hr ?_; (case hd => rfl); (case hg => rfl); (case hr => first | (go_simp; done) | (go_simp; rfl)); intro gb106 hg w59 hbox hb; have n0_ := AM (kb (g := gb103) (o := .cells #[.slice (some ad105) l0_0.length c0_0, .int .i64 a0_1] 28 (0, 0)) (lfK BK103.out) hb); have n1_ := AM (bp (by repeat (first | (with_reducible first | exact HB.out | apply ba | apply bn | apply bd | refine bs ?_ GE103.out) | exact HB.out)) hb); have n2_ := AM (hbox); have n3_ := AM ((by rw [hg]; exact (bz (by repeat (first | (with_reducible first | exact HB.out | apply ba | apply bn | apply bd | refine bs ?_ GE103.out) | exact HB.out))) : w.heap.size ≤ gb106)); have n4_ := AM ((by rw [hg]; exact (bz (by repeat (first | (with_reducible first | exact HB.out | apply ba | apply bn | apply bd | refine bs ?_ GE103.out) | exact HB.out))) : w.heap.size ≤ gb106)); have n5_ := AM ((by rw [hg]; exact Nat.ne_of_lt (blk_lt (g := gb103) (o := .cells #[.slice (some ad105) l0_0.length c0_0, .int .i64 a0_1] 28 (0, 0)) (lfK BK103.out)) : gb103 ≠ gb106)); have n6_ := AM ((by rw [hg]; exact Nat.ne_of_gt (blk_lt (g := gb103) (o := .cells #[.slice (some ad105) l0_0.length c0_0, .int .i64 a0_1] 28 (0, 0)) (lfK BK103.out)) : gb106 ≠ gb103)); clear BK103 HB; revert n0_ n1_ n2_ n3_ n4_ n5_ n6_; intro BK103 HB BK106 GW106 GE106 NB103_106 NB106_103; clear hb hbox hg; have hnb60 := NB106_103.out; have hnc60 := NB103_106.out; have hcz61_0 : w59.cell? ⟨gb106, 0, none⟩ = some (.int .i64 0) := (kc BK106.out 0).trans rfl; have hcz61_1 : w59.cell? ⟨gb106, 1, none⟩ = some (.int .i64 0) := (kc BK106.out 1).trans rfl; have hcz61_2 : w59.cell? ⟨gb106, 2, none⟩ = some (.int .i64 0) := (kc BK106.out 2).trans rfl; have hcz61_3 : w59.cell? ⟨gb106, 3, none⟩ = some (.bool false) := (kc BK106.out 3).trans rfl; have hfz61_0 := kz BK106.out 0; have hfz61_1 := kz BK106.out 1; have hfz61_2 := kz BK106.out 2; have hfz61_3 := kz BK106.out 3))
                    have n0_ : Aside0 (((((w59.setCell ⟨gb106, 0, none⟩ (.int .i64 ((rd_T51 l0_0 x3_1).f0))).setCell ⟨gb106, 1, none⟩ (.int .i64 ((rd_T51 l0_0 x3_1).f1))).setCell ⟨gb106, 2, none⟩ (.int .i64 ((rd_T51 l0_0 x3_1).f2))).setCell ⟨gb106, 3, none⟩ (.bool false)).heap[gb103]? = some (.cells #[.slice (some ad105) l0_0.length c0_0, .int .i64 a0_1] 28 (0, 0))) := ⟨by (with_reducible repeat (first | refine kn ?_ _ | refine kd ?_ | refine ka ?_ _)); refine kf ?_ NB103_106.out _; (with_reducible repeat (first | refine kn ?_ _ | refine kd ?_ | refine ka ?_ _)); refine kf ?_ NB103_106.out _; (with_reducible repeat (first | refine kn ?_ _ | refine kd ?_ | refine ka ?_ _)); refine kf ?_ NB103_106.out _; (with_reducible repeat (first | refine kn ?_ _ | refine kd ?_ | refine ka ?_ _)); refine kf ?_ NB103_106.out _; (with_reducible repeat (first | refine kn ?_ _ | refine kd ?_ | refine ka ?_ _)); exact BK103.out⟩
                    have n1_ : Aside0 (((((w59.setCell ⟨gb106, 0, none⟩ (.int .i64 ((rd_T51 l0_0 x3_1).f0))).setCell ⟨gb106, 1, none⟩ (.int .i64 ((rd_T51 l0_0 x3_1).f1))).setCell ⟨gb106, 2, none⟩ (.int .i64 ((rd_T51 l0_0 x3_1).f2))).setCell ⟨gb106, 3, none⟩ (.bool false)).heap[gb106]? = some (.cells #[.int .i64 ((rd_T51 l0_0 x3_1).f0), .int .i64 ((rd_T51 l0_0 x3_1).f1), .int .i64 ((rd_T51 l0_0 x3_1).f2), .bool false] 51 (0, 0))) := ⟨by (with_reducible repeat (first | refine kn ?_ _ | refine kd ?_ | refine ka ?_ _)); refine blk_put (cs := #[.int .i64 ((rd_T51 l0_0 x3_1).f0), .int .i64 ((rd_T51 l0_0 x3_1).f1), .int .i64 ((rd_T51 l0_0 x3_1).f2), .bool false]) ?_ 3 _ rfl; (with_reducible repeat (first | refine kn ?_ _ | refine kd ?_ | refine ka ?_ _)); refine blk_put (cs := #[.int .i64 ((rd_T51 l0_0 x3_1).f0), .int .i64 ((rd_T51 l0_0 x3_1).f1), .int .i64 0, .bool false]) ?_ 2 _ rfl; (with_reducible repeat (first | refine kn ?_ _ | refine kd ?_ | refine ka ?_ _)); refine blk_put (cs := #[.int .i64 ((rd_T51 l0_0 x3_1).f0), .int .i64 0, .int .i64 0, .bool false]) ?_ 1 _ rfl; (with_reducible repeat (first | refine kn ?_ _ | refine kd ?_ | refine ka ?_ _)); refine blk_put (cs := #[.int .i64 0, .int .i64 0, .int .i64 0, .bool false]) ?_ 0 _ rfl; (with_reducible repeat (first | refine kn ?_ _ | refine kd ?_ | refine ka ?_ _)); exact BK106.out⟩
                    have n2_ : Aside0 (Below w.heap.size w ((((w59.setCell ⟨gb106, 0, none⟩ (.int .i64 ((rd_T51 l0_0 x3_1).f0))).setCell ⟨gb106, 1, none⟩ (.int .i64 ((rd_T51 l0_0 x3_1).f1))).setCell ⟨gb106, 2, none⟩ (.int .i64 ((rd_T51 l0_0 x3_1).f2))).setCell ⟨gb106, 3, none⟩ (.bool false))) := ⟨by repeat (first | (with_reducible first | exact HB.out | apply ba | apply bn | apply bd | refine bs ?_ GE103.out | refine bs ?_ GE106.out) | exact HB.out)⟩
                    (try clear BK103)
                    (try clear BK106)
                    (try clear HB)
                    generalize ((((w59.setCell ⟨gb106, 0, none⟩ (.int .i64 ((rd_T51 l0_0 x3_1).f0))).setCell ⟨gb106, 1, none⟩ (.int .i64 ((rd_T51 l0_0 x3_1).f1))).setCell ⟨gb106, 2, none⟩ (.int .i64 ((rd_T51 l0_0 x3_1).f2))).setCell ⟨gb106, 3, none⟩ (.bool false)) = w62 at n0_ n1_ n2_ ⊢
                    revert n0_ n1_ n2_
                    intro BK103 BK106 HB
                    have n0_ := AM (kd BK103.out)
                    have n1_ := AM (kd BK106.out)
                    have n2_ := AM (bd HB.out)
                    clear BK103 BK106 HB
                    revert n0_ n1_ n2_
                    intro BK103 BK106 HB
                    refine start_ (n := 43) (S := fun w' => w'.cell? ⟨gb106, 0, none⟩ = some (.int .i64 ((rd_T51 l0_0 x3_1).f0)) ∧ w'.cell? ⟨gb106, 1, none⟩ = some (.int .i64 ((rd_T51 l0_0 x3_1).f1)) ∧ w'.cell? ⟨gb106, 2, none⟩ = some (.int .i64 ((rd_T51 l0_0 x3_1).f2)) ∧ w'.cell? ⟨gb106, 3, none⟩ = some (.bool false)) (ds := []) (mB 43 0x0) (by kernel_rfl) rfl rfl ⟨(kc BK106.out 0).trans rfl, (kc BK106.out 1).trans rfl, (kc BK106.out 2).trans rfl, (kc BK106.out 3).trans rfl⟩ (fun hHeld => ?_); refine with_tabW spec_QueueOk.tab5 spec_QueueOk.bits5 (fun HT_ HW_ => ?_)
                    generalize w62.drew = w63 at BK103 BK106 HB hHeld ⊢
                    refine puY (v := ?_) (a' := ?_) 0 17 (mB 43 0x1) rfl rfl HT_.out (by kernel_rfl) (fun _ _ _ h => h) (by rfl) ?_ ?_ ?_; rotate_left; (focus intro w'; go_simp; with_reducible rfl); rotate_left; (focus simp only [Act.put, sA, sZ, sS, i64_w, i32_w]; rfl)
                    refine take_ (i := 1) (N := some 18) (v := ?_) (a' := ?_) (mB 43 0x3) rfl rfl (take_ofW HT_.out HW_.out (by kernel_rfl)) (fun _ _ _ h => h) (Or.inl ⟨by rfl, ?_⟩) hHeld ?_ ?_
                    rotate_left
                    · rintro w' ⟨s0, s1, s2, s3⟩; go_simp; with_reducible rfl
                    rotate_left
                    · simp only [Act.put, sA, sZ, sS, i64_w, i32_w]; rfl
                    refine one_ (i := 2) (N := some 19) (mB 43 0x7) rfl rfl (one_of HT_.out (by kernel_rfl)) (by decide) (fun K hK => ?_)
                    refine goes_ Try.func16 (by kernel_rfl) rfl #[.int .i64 ((rd_T51 l0_0 x3_1).f0), .int .i64 0, .int .i64 99] (by rfl) rfl rfl (by (try simp only [List.map_toArray, List.map_cons, List.map_nil]); first | done | rfl | (simp only [List.length_drop, List.length_take]; rfl)) ?_
                    with_reducible refine (spec_l6In.calls ((rd_T51 l0_0 x3_1).f0) 0 99 true _ A5.out).mono ?_
                    rintro e w' ⟨rfl, ⟨nd, rfl⟩⟩
                    refine ⟨_, rfl, ?_⟩
                    refine hK.out _ _ ⟨(kc BK106.out 0).trans rfl, (kc BK106.out 1).trans rfl, (kc BK106.out 2).trans rfl, (kc BK106.out 3).trans rfl⟩ (fun hHeld => ?_)
                    clear hK K
                    refine norm_ (a' := ?_) ?_ ?_
                    rotate_left
                    · show Act.put _ (some 19) _ = _
                      simp only [Act.put, sA, sZ, sS, i64_w, i32_w]
                      rfl
                    refine puY (v := ?_) (a' := ?_) 3 20 (mB 43 0xf) rfl rfl HT_.out (by kernel_rfl) (fun _ _ _ h => h) (by rfl) ?_ ?_ ?_; rotate_left; (focus intro w'; go_simp; with_reducible rfl); rotate_left; (focus simp only [Act.put, sA, sZ, sS, i64_w, i32_w]; rfl); refine puY (v := ?_) (a' := ?_) 4 21 (mB 43 0x1f) rfl rfl HT_.out (by kernel_rfl) (fun _ _ _ h => h) (by rfl) ?_ ?_ ?_; rotate_left; (focus intro w'; go_simp; with_reducible rfl); rotate_left; (focus simp only [Act.put, sA, sZ, sS, i64_w, i32_w]; rfl); refine puY (v := ?_) (a' := ?_) 5 22 (mB 43 0x3f) rfl rfl HT_.out (by kernel_rfl) (fun _ _ _ h => h) (by rfl) ?_ ?_ ?_; rotate_left; (focus intro w'; go_simp; with_reducible rfl); rotate_left; (focus simp only [Act.put, sA, sZ, sS, i64_w, i32_w]; rfl)
                    refine take_ (i := 6) (N := some 23) (v := ?_) (a' := ?_) (mB 43 0x7f) rfl rfl (take_ofW HT_.out HW_.out (by kernel_rfl)) (fun _ _ _ h => h) (Or.inl ⟨by rfl, ?_⟩) hHeld ?_ ?_
                    rotate_left
                    · rintro w' ⟨s0, s1, s2, s3⟩; go_simp; with_reducible rfl
                    rotate_left
                    · simp only [Act.put, sA, sZ, sS, i64_w, i32_w]; rfl
                    refine one_ (i := 7) (N := some 24) (mB 43 0xff) rfl rfl (one_of HT_.out (by kernel_rfl)) (by decide) (fun K hK => ?_)
                    refine goes_ Try.func16 (by kernel_rfl) rfl #[.int .i64 ((rd_T51 l0_0 x3_1).f1), .int .i64 1, .int .i64 6] (by rfl) rfl rfl (by (try simp only [List.map_toArray, List.map_cons, List.map_nil]); first | done | rfl | (simp only [List.length_drop, List.length_take]; rfl)) ?_
                    with_reducible refine (spec_l6In.calls ((rd_T51 l0_0 x3_1).f1) 1 6 true _ A7.out).mono ?_
                    rintro e w' ⟨rfl, ⟨nd, rfl⟩⟩
                    refine ⟨_, rfl, ?_⟩
                    refine hK.out _ _ ⟨(kc BK106.out 0).trans rfl, (kc BK106.out 1).trans rfl, (kc BK106.out 2).trans rfl, (kc BK106.out 3).trans rfl⟩ (fun hHeld => ?_)
                    clear hK K
                    refine norm_ (a' := ?_) ?_ ?_
                    rotate_left
                    · show Act.put _ (some 24) _ = _
                      simp only [Act.put, sA, sZ, sS, i64_w, i32_w]
                      rfl
                    refine puY (v := ?_) (a' := ?_) 8 25 (mB 43 0x1ff) rfl rfl HT_.out (by kernel_rfl) (fun _ _ _ h => h) (by rfl) ?_ ?_ ?_; rotate_left; (focus intro w'; go_simp; with_reducible rfl); rotate_left; (focus simp only [Act.put, sA, sZ, sS, i64_w, i32_w]; rfl); refine puY (v := ?_) (a' := ?_) 9 26 (mB 43 0x3ff) rfl rfl HT_.out (by kernel_rfl) (fun _ _ _ h => h) (by rfl) ?_ ?_ ?_; rotate_left; (focus intro w'; go_simp; with_reducible rfl); rotate_left; (focus simp only [Act.put, sA, sZ, sS, i64_w, i32_w]; rfl); refine puY (v := ?_) (a' := ?_) 10 27 (mB 43 0x7ff) rfl rfl HT_.out (by kernel_rfl) (fun _ _ _ h => h) (by rfl) ?_ ?_ ?_; rotate_left; (focus intro w'; go_simp; with_reducible rfl); rotate_left; (focus simp only [Act.put, sA, sZ, sS, i64_w, i32_w]; rfl); refine puY (v := ?_) (a' := ?_) 11 28 (mB 43 0xfff) rfl rfl HT_.out (by kernel_rfl) (fun _ _ _ h => h) (by rfl) ?_ ?_ ?_; rotate_left; (focus intro w'; go_simp; with_reducible rfl); rotate_left; (focus simp only [Act.put, sA, sZ, sS, i64_w, i32_w]; rfl)
                    refine take_ (i := 12) (N := some 29) (v := ?_) (a' := ?_) (mB 43 0x1fff) rfl rfl (take_ofW HT_.out HW_.out (by kernel_rfl)) (fun _ _ _ h => h) (Or.inl ⟨by rfl, ?_⟩) hHeld ?_ ?_
                    rotate_left
                    · rintro w' ⟨s0, s1, s2, s3⟩; go_simp; with_reducible rfl
                    rotate_left
                    · simp only [Act.put, sA, sZ, sS, i64_w, i32_w]; rfl
                    refine one_ (i := 13) (N := some 30) (mB 43 0x3fff) rfl rfl (one_of HT_.out (by kernel_rfl)) (by decide) (fun K hK => ?_)
                    refine goes_ Try.func16 (by kernel_rfl) rfl #[.int .i64 ((rd_T51 l0_0 x3_1).f2), .int .i64 0, .int .i64 1000000] (by rfl) rfl rfl (by (try simp only [List.map_toArray, List.map_cons, List.map_nil]); first | done | rfl | (simp only [List.length_drop, List.length_take]; rfl)) ?_
                    with_reducible refine (spec_l6In.calls ((rd_T51 l0_0 x3_1).f2) 0 1000000 true _ A9.out).mono ?_
                    rintro e w' ⟨rfl, ⟨nd, rfl⟩⟩
                    refine ⟨_, rfl, ?_⟩
                    refine hK.out _ _ ⟨(kc BK106.out 0).trans rfl, (kc BK106.out 1).trans rfl, (kc BK106.out 2).trans rfl, (kc BK106.out 3).trans rfl⟩ (fun hHeld => ?_)
                    clear hK K
                    refine norm_ (a' := ?_) ?_ ?_
                    rotate_left
                    · show Act.put _ (some 30) _ = _
                      simp only [Act.put, sA, sZ, sS, i64_w, i32_w]
                      rfl
                    refine puY (v := ?_) (a' := ?_) 14 31 (mB 43 0x7fff) rfl rfl HT_.out (by kernel_rfl) (fun _ _ _ h => h) (by rfl) ?_ ?_ ?_; rotate_left; (focus intro w'; go_simp; with_reducible rfl); rotate_left; (focus simp only [Act.put, sA, sZ, sS, i64_w, i32_w]; rfl); refine puY (v := ?_) (a' := ?_) 15 32 (mB 43 0xffff) rfl rfl HT_.out (by kernel_rfl) (fun _ _ _ h => h) (by rfl) ?_ ?_ ?_; rotate_left; (focus intro w'; go_simp; with_reducible rfl); rotate_left; (focus simp only [Act.put, sA, sZ, sS, i64_w, i32_w]; rfl); refine puY (v := ?_) (a' := ?_) 16 33 (mB 43 0x1ffff) rfl rfl HT_.out (by kernel_rfl) (fun _ _ _ h => h) (by rfl) ?_ ?_ ?_; rotate_left; (focus intro w'; go_simp; with_reducible rfl); rotate_left; (focus simp only [Act.put, sA, sZ, sS, i64_w, i32_w]; rfl); refine puY (v := ?_) (a' := ?_) 17 34 (mB 43 0x3ffff) rfl rfl HT_.out (by kernel_rfl) (fun _ _ _ h => h) (by rfl) ?_ ?_ ?_; rotate_left; (focus intro w'; go_simp; with_reducible rfl); rotate_left; (focus simp only [Act.put, sA, sZ, sS, i64_w, i32_w]; rfl); refine puY (v := ?_) (a' := ?_) 18 35 (mB 43 0x7ffff) rfl rfl HT_.out (by kernel_rfl) (fun _ _ _ h => h) (by rfl) ?_ ?_ ?_; rotate_left; (focus intro w'; go_simp; with_reducible rfl); rotate_left; (focus simp only [Act.put, sA, sZ, sS, i64_w, i32_w]; rfl); refine puY (v := ?_) (a' := ?_) 19 36 (mB 43 0xfffff) rfl rfl HT_.out (by kernel_rfl) (fun _ _ _ h => h) (by rfl) ?_ ?_ ?_; rotate_left; (focus intro w'; go_simp; with_reducible rfl); rotate_left; (focus simp only [Act.put, sA, sZ, sS, i64_w, i32_w]; rfl); refine puM 20 37 (mB 43 0x1fffff) rfl rfl HT_.out (by kernel_rfl) (fun _ _ _ h => h) (by rfl) ?_; refine puM 21 38 (mB 43 0x3fffff) rfl rfl HT_.out (by kernel_rfl) (fun _ _ _ h => h) (by rfl) ?_; refine puN (a' := ?_) 22 39 (mB 43 0x7fffff) rfl rfl HT_.out (by kernel_rfl) (fun _ _ _ h => h) (by rfl) ?_ ?_; rotate_left; (focus simp only [Act.put, sA, sZ, sS, i64_w, i32_w]; rfl); refine puM 23 40 (mB 43 0xffffff) rfl rfl HT_.out (by kernel_rfl) (fun _ _ _ h => h) (by rfl) ?_; refine puM 24 41 (mB 43 0x1ffffff) rfl rfl HT_.out (by kernel_rfl) (fun _ _ _ h => h) (by rfl) ?_; refine puN (a' := ?_) 25 42 (mB 43 0x3ffffff) rfl rfl HT_.out (by kernel_rfl) (fun _ _ _ h => h) (by rfl) ?_ ?_; rotate_left; (focus simp only [Act.put, sA, sZ, sS, i64_w, i32_w]; rfl); refine puM 26 43 (mB 43 0x7ffffff) rfl rfl HT_.out (by kernel_rfl) (fun _ _ _ h => h) (by rfl) ?_; refine puM 27 44 (mB 43 0xfffffff) rfl rfl HT_.out (by kernel_rfl) (fun _ _ _ h => h) (by rfl) ?_; refine puN (a' := ?_) 28 45 (mB 43 0x1fffffff) rfl rfl HT_.out (by kernel_rfl) (fun _ _ _ h => h) (by rfl) ?_ ?_; rotate_left; (focus simp only [Act.put, sA, sZ, sS, i64_w, i32_w]; rfl); refine puN (a' := ?_) 29 46 (mB 43 0x3fffffff) rfl rfl HT_.out (by kernel_rfl) (fun _ _ _ h => h) (by rfl) ?_ ?_; rotate_left; (focus simp only [Act.put, sA, sZ, sS, i64_w, i32_w]; rfl); refine puY (v := ?_) (a' := ?_) 30 47 (mB 43 0x7fffffff) rfl rfl HT_.out (by kernel_rfl) (fun _ _ _ h => h) (by rfl) ?_ ?_ ?_; rotate_left; (focus intro w'; go_simp; with_reducible rfl); rotate_left; (focus simp only [Act.put, sA, sZ, sS, i64_w, i32_w]; rfl); refine puY (v := ?_) (a' := ?_) 31 48 (mB 43 0xffffffff) rfl rfl HT_.out (by kernel_rfl) (fun _ _ _ h => h) (by rfl) ?_ ?_ ?_; rotate_left; (focus intro w'; go_simp; with_reducible rfl); rotate_left; (focus simp only [Act.put, sA, sZ, sS, i64_w, i32_w]; rfl); refine puY (v := ?_) (a' := ?_) 32 49 (mB 43 0x1ffffffff) rfl rfl HT_.out (by kernel_rfl) (fun _ _ _ h => h) (by rfl) ?_ ?_ ?_; rotate_left; (focus intro w'; go_simp; with_reducible rfl); rotate_left; (focus simp only [Act.put, sA, sZ, sS, i64_w, i32_w]; rfl); refine puY (v := ?_) (a' := ?_) 33 50 (mB 43 0x3ffffffff) rfl rfl HT_.out (by kernel_rfl) (fun _ _ _ h => h) (by rfl) ?_ ?_ ?_; rotate_left; (focus intro w'; go_simp; with_reducible rfl); rotate_left; (focus simp only [Act.put, sA, sZ, sS, i64_w, i32_w]; rfl)
                    refine take_ (i := 34) (N := some 51) (v := ?_) (a' := ?_) (mB 43 0x7ffffffff) rfl rfl (take_ofW HT_.out HW_.out (by kernel_rfl)) (fun _ _ _ h => h) (Or.inl ⟨by rfl, ?_⟩) hHeld ?_ ?_
                    rotate_left
                    · rintro w' ⟨s0, s1, s2, s3⟩; go_simp; with_reducible rfl
                    rotate_left
                    · simp only [Act.put, sA, sZ, sS, i64_w, i32_w]; rfl
                    refine puY (v := ?_) (a' := ?_) 35 52 (mB 43 0xfffffffff) rfl rfl HT_.out (by kernel_rfl) (fun _ _ _ h => h) (by rfl) ?_ ?_ ?_; rotate_left; (focus intro w'; go_simp; with_reducible rfl); rotate_left; (focus simp only [Act.put, sA, sZ, sS, i64_w, i32_w]; rfl); refine puM 36 53 (mB 43 0x1fffffffff) rfl rfl HT_.out (by kernel_rfl) (fun _ _ _ h => h) (by rfl) ?_; refine puM 37 54 (mB 43 0x3fffffffff) rfl rfl HT_.out (by kernel_rfl) (fun _ _ _ h => h) (by rfl) ?_; refine puN (a' := ?_) 38 55 (mB 43 0x7fffffffff) rfl rfl HT_.out (by kernel_rfl) (fun _ _ _ h => h) (by rfl) ?_ ?_; rotate_left; (focus simp only [Act.put, sA, sZ, sS, i64_w, i32_w]; rfl); refine puM 39 56 (mB 43 0xffffffffff) rfl rfl HT_.out (by kernel_rfl) (fun _ _ _ h => h) (by rfl) ?_; refine puN (a' := ?_) 40 57 (mB 43 0x1ffffffffff) rfl rfl HT_.out (by kernel_rfl) (fun _ _ _ h => h) (by rfl) ?_ ?_; rotate_left; (focus simp only [Act.put, sA, sZ, sS, i64_w, i32_w]; rfl); refine puY (v := ?_) (a' := ?_) 41 58 (mB 43 0x3ffffffffff) rfl rfl HT_.out (by kernel_rfl) (fun _ _ _ h => h) (by rfl) ?_ ?_ ?_; rotate_left; (focus intro w'; go_simp; with_reducible rfl); rotate_left; (focus simp only [Act.put, sA, sZ, sS, i64_w, i32_w]; rfl); refine puY (v := ?_) (a' := ?_) 42 59 (mB 43 0x7ffffffffff) rfl rfl HT_.out (by kernel_rfl) (fun _ _ _ h => h) (by rfl) ?_ ?_ ?_; rotate_left; (focus intro w'; go_simp; with_reducible rfl); rotate_left; (focus simp only [Act.put, sA, sZ, sS, i64_w, i32_w]; rfl)
                    refine done_ (done_of HT_.out (by kernel_rfl)) ?_
                    try go_wp2
                    go_roundg k1
                    case measure => have := HK1.out; omega
                    case rel => exact ⟨(wrap64 (x3_1 + 1)), (by first | rfl | (simp; done) | (simp [*]; done)), H', ⟨by have := HK1.out; omega⟩, ⟨by (with_reducible repeat (first | refine kn ?_ _ | refine kd ?_ | refine ka ?_ _)); exact BK103.out⟩, ⟨by repeat (first | (with_reducible first | exact HB.out | apply ba | apply bn | apply bd | refine bs ?_ GE103.out | refine bs ?_ GE106.out) | exact HB.out)⟩⟩
              · replace c10 := Bool.eq_false_iff.mpr c10
                subst c10
                have H1 : (some false) = some r := by rw [if_neg (show ¬ (false = true) by decide)] at H; exact H
                clear H
                have H := H1
                clear H1
                obtain rfl := Option.some.inj H
                have hcz64_0 : wr.cell? ⟨gb103, 0, none⟩ = some (.slice A0_0 l0_0.length c0_0) := (kc BK103.out 0).trans rfl
                have hcz64_1 : wr.cell? ⟨gb103, 1, none⟩ = some (.int .i64 a0_1) := (kc BK103.out 1).trans rfl
                have hfz64_0 := kz BK103.out 0
                have hfz64_1 := kz BK103.out 1
                have p105 : 0 ≤ (x3_1 : Int) := of_decide_eq_true (by first | (with_reducible assumption) | assumption)
                have q105 : x3_1 < (l0_0.length : Int) := of_decide_eq_true (by first | (with_reducible assumption) | assumption)
                obtain ⟨ad105, e105, hx105_0, hx105_1, hx105_2, hx105_3⟩ := at_T51 HR0_0.out x3_1 p105 q105
                cases e105
                replace hx105_0 := (HB.out.cell (World.block_lt_of_cell? w _ hx105_0)).trans hx105_0
                replace hx105_1 := (HB.out.cell (World.block_lt_of_cell? w _ hx105_1)).trans hx105_1
                replace hx105_2 := (HB.out.cell (World.block_lt_of_cell? w _ hx105_2)).trans hx105_2
                replace hx105_3 := (HB.out.cell (World.block_lt_of_cell? w _ hx105_3)).trans hx105_3
                replace p105 := eq_true p105
                replace q105 := eq_true q105
                try go_wp2_with (first | ((with_reducible refine gd (N := 4) rfl ?_); refine xe ?hg (N := 4) ?hd (cs := #[.int .i64 0, .int .i64 0, .int .i64 0, .bool false]) (t := 51) ?hr ?_; (case hd => rfl); (case hg => rfl); (case hr => first | (go_simp; done) | (go_simp; rfl)); intro gb106 hg w65 hbox hb; have n0_ := AM (kb (g := gb103) (o := .cells #[.slice (some ad105) l0_0.length c0_0, .int .i64 a0_1] 28 (0, 0)) (lfK BK103.out) hb); have n1_ := AM (bp (by repeat (first | (with_reducible first | exact HB.out | apply ba | apply bn | apply bd | refine bs ?_ GE103.out) | exact HB.out)) hb); have n2_ := AM (hbox); have n3_ := AM ((by rw [hg]; exact (bz (by repeat (first | (with_reducible first | exact HB.out | apply ba | apply bn | apply bd | refine bs ?_ GE103.out) | exact HB.out))) : w.heap.size ≤ gb106)); have n4_ := AM ((by rw [hg]; exact (bz (by repeat (first | (with_reducible first | exact HB.out | apply ba | apply bn | apply bd | refine bs ?_ GE103.out) | exact HB.out))) : w.heap.size ≤ gb106)); have n5_ := AM ((by rw [hg]; exact Nat.ne_of_lt (blk_lt (g := gb103) (o := .cells #[.slice (some ad105) l0_0.length c0_0, .int .i64 a0_1] 28 (0, 0)) (lfK BK103.out)) : gb103 ≠ gb106)); have n6_ := AM ((by rw [hg]; exact Nat.ne_of_gt (blk_lt (g := gb103) (o := .cells #[.slice (some ad105) l0_0.length c0_0, .int .i64 a0_1] 28 (0, 0)) (lfK BK103.out)) : gb106 ≠ gb103)); clear BK103 HB; revert n0_ n1_ n2_ n3_ n4_ n5_ n6_; intro BK103 HB BK106 GW106 GE106 NB103_106 NB106_103; clear hb hbox hg; have hnb66 := NB106_103.out; have hnc66 := NB103_106.out; have hcz67_0 : w65.cell? ⟨gb106, 0, none⟩ = some (.int .i64 0) := (kc BK106.out 0).trans rfl; have hcz67_1 : w65.cell? ⟨gb106, 1, none⟩ = some (.int .i64 0) := (kc BK106.out 1).trans rfl; have hcz67_2 : w65.cell? ⟨gb106, 2, none⟩ = some (.int .i64 0) := (kc BK106.out 2).trans rfl; have hcz67_3 : w65.cell? ⟨gb106, 3, none⟩ = some (.bool false) := (kc BK106.out 3).trans rfl; have hfz67_0 := kz BK106.out 0; have hfz67_1 := kz BK106.out 1; have hfz67_2 := kz BK106.out 2; have hfz67_3 := kz BK106.out 3))
                have n0_ : Aside0 (((((w65.setCell ⟨gb106, 0, none⟩ (.int .i64 ((rd_T51 l0_0 x3_1).f0))).setCell ⟨gb106, 1, none⟩ (.int .i64 ((rd_T51 l0_0 x3_1).f1))).setCell ⟨gb106, 2, none⟩ (.int .i64 ((rd_T51 l0_0 x3_1).f2))).setCell ⟨gb106, 3, none⟩ (.bool ((rd_T51 l0_0 x3_1).f3))).heap[gb103]? = some (.cells #[.slice (some ad105) l0_0.length c0_0, .int .i64 a0_1] 28 (0, 0))) := ⟨by (with_reducible repeat (first | refine kn ?_ _ | refine kd ?_ | refine ka ?_ _)); refine kf ?_ NB103_106.out _; (with_reducible repeat (first | refine kn ?_ _ | refine kd ?_ | refine ka ?_ _)); refine kf ?_ NB103_106.out _; (with_reducible repeat (first | refine kn ?_ _ | refine kd ?_ | refine ka ?_ _)); refine kf ?_ NB103_106.out _; (with_reducible repeat (first | refine kn ?_ _ | refine kd ?_ | refine ka ?_ _)); refine kf ?_ NB103_106.out _; (with_reducible repeat (first | refine kn ?_ _ | refine kd ?_ | refine ka ?_ _)); exact BK103.out⟩
                have n1_ : Aside0 (((((w65.setCell ⟨gb106, 0, none⟩ (.int .i64 ((rd_T51 l0_0 x3_1).f0))).setCell ⟨gb106, 1, none⟩ (.int .i64 ((rd_T51 l0_0 x3_1).f1))).setCell ⟨gb106, 2, none⟩ (.int .i64 ((rd_T51 l0_0 x3_1).f2))).setCell ⟨gb106, 3, none⟩ (.bool ((rd_T51 l0_0 x3_1).f3))).heap[gb106]? = some (.cells #[.int .i64 ((rd_T51 l0_0 x3_1).f0), .int .i64 ((rd_T51 l0_0 x3_1).f1), .int .i64 ((rd_T51 l0_0 x3_1).f2), .bool ((rd_T51 l0_0 x3_1).f3)] 51 (0, 0))) := ⟨by (with_reducible repeat (first | refine kn ?_ _ | refine kd ?_ | refine ka ?_ _)); refine blk_put (cs := #[.int .i64 ((rd_T51 l0_0 x3_1).f0), .int .i64 ((rd_T51 l0_0 x3_1).f1), .int .i64 ((rd_T51 l0_0 x3_1).f2), .bool false]) ?_ 3 _ rfl; (with_reducible repeat (first | refine kn ?_ _ | refine kd ?_ | refine ka ?_ _)); refine blk_put (cs := #[.int .i64 ((rd_T51 l0_0 x3_1).f0), .int .i64 ((rd_T51 l0_0 x3_1).f1), .int .i64 0, .bool false]) ?_ 2 _ rfl; (with_reducible repeat (first | refine kn ?_ _ | refine kd ?_ | refine ka ?_ _)); refine blk_put (cs := #[.int .i64 ((rd_T51 l0_0 x3_1).f0), .int .i64 0, .int .i64 0, .bool false]) ?_ 1 _ rfl; (with_reducible repeat (first | refine kn ?_ _ | refine kd ?_ | refine ka ?_ _)); refine blk_put (cs := #[.int .i64 0, .int .i64 0, .int .i64 0, .bool false]) ?_ 0 _ rfl; (with_reducible repeat (first | refine kn ?_ _ | refine kd ?_ | refine ka ?_ _)); exact BK106.out⟩
                have n2_ : Aside0 (Below w.heap.size w ((((w65.setCell ⟨gb106, 0, none⟩ (.int .i64 ((rd_T51 l0_0 x3_1).f0))).setCell ⟨gb106, 1, none⟩ (.int .i64 ((rd_T51 l0_0 x3_1).f1))).setCell ⟨gb106, 2, none⟩ (.int .i64 ((rd_T51 l0_0 x3_1).f2))).setCell ⟨gb106, 3, none⟩ (.bool ((rd_T51 l0_0 x3_1).f3)))) := ⟨by repeat (first | (with_reducible first | exact HB.out | apply ba | apply bn | apply bd | refine bs ?_ GE103.out | refine bs ?_ GE106.out) | exact HB.out)⟩
                (try clear BK103)
                (try clear BK106)
                (try clear HB)
                generalize ((((w65.setCell ⟨gb106, 0, none⟩ (.int .i64 ((rd_T51 l0_0 x3_1).f0))).setCell ⟨gb106, 1, none⟩ (.int .i64 ((rd_T51 l0_0 x3_1).f1))).setCell ⟨gb106, 2, none⟩ (.int .i64 ((rd_T51 l0_0 x3_1).f2))).setCell ⟨gb106, 3, none⟩ (.bool ((rd_T51 l0_0 x3_1).f3))) = w68 at n0_ n1_ n2_ ⊢
                revert n0_ n1_ n2_
                intro BK103 BK106 HB
                have n0_ := AM (kd BK103.out)
                have n1_ := AM (kd BK106.out)
                have n2_ := AM (bd HB.out)
                clear BK103 BK106 HB
                revert n0_ n1_ n2_
                intro BK103 BK106 HB
                refine start_ (n := 43) (S := fun w' => w'.cell? ⟨gb106, 0, none⟩ = some (.int .i64 ((rd_T51 l0_0 x3_1).f0)) ∧ w'.cell? ⟨gb106, 1, none⟩ = some (.int .i64 ((rd_T51 l0_0 x3_1).f1)) ∧ w'.cell? ⟨gb106, 2, none⟩ = some (.int .i64 ((rd_T51 l0_0 x3_1).f2)) ∧ w'.cell? ⟨gb106, 3, none⟩ = some (.bool ((rd_T51 l0_0 x3_1).f3))) (ds := []) (mB 43 0x0) (by kernel_rfl) rfl rfl ⟨(kc BK106.out 0).trans rfl, (kc BK106.out 1).trans rfl, (kc BK106.out 2).trans rfl, (kc BK106.out 3).trans rfl⟩ (fun hHeld => ?_); refine with_tabW spec_QueueOk.tab5 spec_QueueOk.bits5 (fun HT_ HW_ => ?_)
                generalize w68.drew = w69 at BK103 BK106 HB hHeld ⊢
                refine puY (v := ?_) (a' := ?_) 0 17 (mB 43 0x1) rfl rfl HT_.out (by kernel_rfl) (fun _ _ _ h => h) (by rfl) ?_ ?_ ?_; rotate_left; (focus intro w'; go_simp; with_reducible rfl); rotate_left; (focus simp only [Act.put, sA, sZ, sS, i64_w, i32_w]; rfl)
                refine take_ (i := 1) (N := some 18) (v := ?_) (a' := ?_) (mB 43 0x3) rfl rfl (take_ofW HT_.out HW_.out (by kernel_rfl)) (fun _ _ _ h => h) (Or.inl ⟨by rfl, ?_⟩) hHeld ?_ ?_
                rotate_left
                · rintro w' ⟨s0, s1, s2, s3⟩; go_simp; with_reducible rfl
                rotate_left
                · simp only [Act.put, sA, sZ, sS, i64_w, i32_w]; rfl
                refine one_ (i := 2) (N := some 19) (mB 43 0x7) rfl rfl (one_of HT_.out (by kernel_rfl)) (by decide) (fun K hK => ?_)
                refine goes_ Try.func16 (by kernel_rfl) rfl #[.int .i64 ((rd_T51 l0_0 x3_1).f0), .int .i64 0, .int .i64 99] (by rfl) rfl rfl (by (try simp only [List.map_toArray, List.map_cons, List.map_nil]); first | done | rfl | (simp only [List.length_drop, List.length_take]; rfl)) ?_
                with_reducible refine (spec_l6In.calls ((rd_T51 l0_0 x3_1).f0) 0 99 true _ A5.out).mono ?_
                rintro e w' ⟨rfl, ⟨nd, rfl⟩⟩
                refine ⟨_, rfl, ?_⟩
                refine hK.out _ _ ⟨(kc BK106.out 0).trans rfl, (kc BK106.out 1).trans rfl, (kc BK106.out 2).trans rfl, (kc BK106.out 3).trans rfl⟩ (fun hHeld => ?_)
                clear hK K
                refine norm_ (a' := ?_) ?_ ?_
                rotate_left
                · show Act.put _ (some 19) _ = _
                  simp only [Act.put, sA, sZ, sS, i64_w, i32_w]
                  rfl
                refine puY (v := ?_) (a' := ?_) 3 20 (mB 43 0xf) rfl rfl HT_.out (by kernel_rfl) (fun _ _ _ h => h) (by rfl) ?_ ?_ ?_; rotate_left; (focus intro w'; go_simp; with_reducible rfl); rotate_left; (focus simp only [Act.put, sA, sZ, sS, i64_w, i32_w]; rfl); refine puY (v := ?_) (a' := ?_) 4 21 (mB 43 0x1f) rfl rfl HT_.out (by kernel_rfl) (fun _ _ _ h => h) (by rfl) ?_ ?_ ?_; rotate_left; (focus intro w'; go_simp; with_reducible rfl); rotate_left; (focus simp only [Act.put, sA, sZ, sS, i64_w, i32_w]; rfl); refine puY (v := ?_) (a' := ?_) 5 22 (mB 43 0x3f) rfl rfl HT_.out (by kernel_rfl) (fun _ _ _ h => h) (by rfl) ?_ ?_ ?_; rotate_left; (focus intro w'; go_simp; with_reducible rfl); rotate_left; (focus simp only [Act.put, sA, sZ, sS, i64_w, i32_w]; rfl)
                refine take_ (i := 6) (N := some 23) (v := ?_) (a' := ?_) (mB 43 0x7f) rfl rfl (take_ofW HT_.out HW_.out (by kernel_rfl)) (fun _ _ _ h => h) (Or.inl ⟨by rfl, ?_⟩) hHeld ?_ ?_
                rotate_left
                · rintro w' ⟨s0, s1, s2, s3⟩; go_simp; with_reducible rfl
                rotate_left
                · simp only [Act.put, sA, sZ, sS, i64_w, i32_w]; rfl
                refine one_ (i := 7) (N := some 24) (mB 43 0xff) rfl rfl (one_of HT_.out (by kernel_rfl)) (by decide) (fun K hK => ?_)
                refine goes_ Try.func16 (by kernel_rfl) rfl #[.int .i64 ((rd_T51 l0_0 x3_1).f1), .int .i64 1, .int .i64 6] (by rfl) rfl rfl (by (try simp only [List.map_toArray, List.map_cons, List.map_nil]); first | done | rfl | (simp only [List.length_drop, List.length_take]; rfl)) ?_
                with_reducible refine (spec_l6In.calls ((rd_T51 l0_0 x3_1).f1) 1 6 true _ A7.out).mono ?_
                rintro e w' ⟨rfl, ⟨nd, rfl⟩⟩
                refine ⟨_, rfl, ?_⟩
                refine hK.out _ _ ⟨(kc BK106.out 0).trans rfl, (kc BK106.out 1).trans rfl, (kc BK106.out 2).trans rfl, (kc BK106.out 3).trans rfl⟩ (fun hHeld => ?_)
                clear hK K
                refine norm_ (a' := ?_) ?_ ?_
                rotate_left
                · show Act.put _ (some 24) _ = _
                  simp only [Act.put, sA, sZ, sS, i64_w, i32_w]
                  rfl
                refine puY (v := ?_) (a' := ?_) 8 25 (mB 43 0x1ff) rfl rfl HT_.out (by kernel_rfl) (fun _ _ _ h => h) (by rfl) ?_ ?_ ?_; rotate_left; (focus intro w'; go_simp; with_reducible rfl); rotate_left; (focus simp only [Act.put, sA, sZ, sS, i64_w, i32_w]; rfl); refine puY (v := ?_) (a' := ?_) 9 26 (mB 43 0x3ff) rfl rfl HT_.out (by kernel_rfl) (fun _ _ _ h => h) (by rfl) ?_ ?_ ?_; rotate_left; (focus intro w'; go_simp; with_reducible rfl); rotate_left; (focus simp only [Act.put, sA, sZ, sS, i64_w, i32_w]; rfl); refine puY (v := ?_) (a' := ?_) 10 27 (mB 43 0x7ff) rfl rfl HT_.out (by kernel_rfl) (fun _ _ _ h => h) (by rfl) ?_ ?_ ?_; rotate_left; (focus intro w'; go_simp; with_reducible rfl); rotate_left; (focus simp only [Act.put, sA, sZ, sS, i64_w, i32_w]; rfl); refine puY (v := ?_) (a' := ?_) 11 28 (mB 43 0xfff) rfl rfl HT_.out (by kernel_rfl) (fun _ _ _ h => h) (by rfl) ?_ ?_ ?_; rotate_left; (focus intro w'; go_simp; with_reducible rfl); rotate_left; (focus simp only [Act.put, sA, sZ, sS, i64_w, i32_w]; rfl)
                refine take_ (i := 12) (N := some 29) (v := ?_) (a' := ?_) (mB 43 0x1fff) rfl rfl (take_ofW HT_.out HW_.out (by kernel_rfl)) (fun _ _ _ h => h) (Or.inl ⟨by rfl, ?_⟩) hHeld ?_ ?_
                rotate_left
                · rintro w' ⟨s0, s1, s2, s3⟩; go_simp; with_reducible rfl
                rotate_left
                · simp only [Act.put, sA, sZ, sS, i64_w, i32_w]; rfl
                refine one_ (i := 13) (N := some 30) (mB 43 0x3fff) rfl rfl (one_of HT_.out (by kernel_rfl)) (by decide) (fun K hK => ?_)
                refine goes_ Try.func16 (by kernel_rfl) rfl #[.int .i64 ((rd_T51 l0_0 x3_1).f2), .int .i64 0, .int .i64 1000000] (by rfl) rfl rfl (by (try simp only [List.map_toArray, List.map_cons, List.map_nil]); first | done | rfl | (simp only [List.length_drop, List.length_take]; rfl)) ?_
                with_reducible refine (spec_l6In.calls ((rd_T51 l0_0 x3_1).f2) 0 1000000 false _ A9.out).mono ?_
                rintro e w' ⟨rfl, ⟨nd, rfl⟩⟩
                refine ⟨_, rfl, ?_⟩
                refine hK.out _ _ ⟨(kc BK106.out 0).trans rfl, (kc BK106.out 1).trans rfl, (kc BK106.out 2).trans rfl, (kc BK106.out 3).trans rfl⟩ (fun hHeld => ?_)
                clear hK K
                refine norm_ (a' := ?_) ?_ ?_
                rotate_left
                · show Act.put _ (some 30) _ = _
                  simp only [Act.put, sA, sZ, sS, i64_w, i32_w]
                  rfl
                refine puY (v := ?_) (a' := ?_) 14 31 (mB 43 0x7fff) rfl rfl HT_.out (by kernel_rfl) (fun _ _ _ h => h) (by rfl) ?_ ?_ ?_; rotate_left; (focus intro w'; go_simp; with_reducible rfl); rotate_left; (focus simp only [Act.put, sA, sZ, sS, i64_w, i32_w]; rfl); refine puY (v := ?_) (a' := ?_) 15 32 (mB 43 0xffff) rfl rfl HT_.out (by kernel_rfl) (fun _ _ _ h => h) (by rfl) ?_ ?_ ?_; rotate_left; (focus intro w'; go_simp; with_reducible rfl); rotate_left; (focus simp only [Act.put, sA, sZ, sS, i64_w, i32_w]; rfl); refine puY (v := ?_) (a' := ?_) 16 33 (mB 43 0x1ffff) rfl rfl HT_.out (by kernel_rfl) (fun _ _ _ h => h) (by rfl) ?_ ?_ ?_; rotate_left; (focus intro w'; go_simp; with_reducible rfl); rotate_left; (focus simp only [Act.put, sA, sZ, sS, i64_w, i32_w]; rfl); refine puM 17 34 (mB 43 0x3ffff) rfl rfl HT_.out (by kernel_rfl) (fun _ _ _ h => h) (by rfl) ?_; refine puM 18 35 (mB 43 0x7ffff) rfl rfl HT_.out (by kernel_rfl) (fun _ _ _ h => h) (by rfl) ?_; refine puN (a' := ?_) 19 36 (mB 43 0xfffff) rfl rfl HT_.out (by kernel_rfl) (fun _ _ _ h => h) (by rfl) ?_ ?_; rotate_left; (focus simp only [Act.put, sA, sZ, sS, i64_w, i32_w]; rfl); refine puM 20 37 (mB 43 0x1fffff) rfl rfl HT_.out (by kernel_rfl) (fun _ _ _ h => h) (by rfl) ?_; refine puM 21 38 (mB 43 0x3fffff) rfl rfl HT_.out (by kernel_rfl) (fun _ _ _ h => h) (by rfl) ?_; refine puN (a' := ?_) 22 39 (mB 43 0x7fffff) rfl rfl HT_.out (by kernel_rfl) (fun _ _ _ h => h) (by rfl) ?_ ?_; rotate_left; (focus simp only [Act.put, sA, sZ, sS, i64_w, i32_w]; rfl); refine puM 23 40 (mB 43 0xffffff) rfl rfl HT_.out (by kernel_rfl) (fun _ _ _ h => h) (by rfl) ?_; refine puM 24 41 (mB 43 0x1ffffff) rfl rfl HT_.out (by kernel_rfl) (fun _ _ _ h => h) (by rfl) ?_; refine puN (a' := ?_) 25 42 (mB 43 0x3ffffff) rfl rfl HT_.out (by kernel_rfl) (fun _ _ _ h => h) (by rfl) ?_ ?_; rotate_left; (focus simp only [Act.put, sA, sZ, sS, i64_w, i32_w]; rfl); refine puM 26 43 (mB 43 0x7ffffff) rfl rfl HT_.out (by kernel_rfl) (fun _ _ _ h => h) (by rfl) ?_; refine puM 27 44 (mB 43 0xfffffff) rfl rfl HT_.out (by kernel_rfl) (fun _ _ _ h => h) (by rfl) ?_; refine puN (a' := ?_) 28 45 (mB 43 0x1fffffff) rfl rfl HT_.out (by kernel_rfl) (fun _ _ _ h => h) (by rfl) ?_ ?_; rotate_left; (focus simp only [Act.put, sA, sZ, sS, i64_w, i32_w]; rfl); refine puM 29 46 (mB 43 0x3fffffff) rfl rfl HT_.out (by kernel_rfl) (fun _ _ _ h => h) (by rfl) ?_; refine puN (a' := ?_) 30 47 (mB 43 0x7fffffff) rfl rfl HT_.out (by kernel_rfl) (fun _ _ _ h => h) (by rfl) ?_ ?_; rotate_left; (focus simp only [Act.put, sA, sZ, sS, i64_w, i32_w]; rfl); refine puY (v := ?_) (a' := ?_) 31 48 (mB 43 0xffffffff) rfl rfl HT_.out (by kernel_rfl) (fun _ _ _ h => h) (by rfl) ?_ ?_ ?_; rotate_left; (focus intro w'; go_simp; with_reducible rfl); rotate_left; (focus simp only [Act.put, sA, sZ, sS, i64_w, i32_w]; rfl); refine puY (v := ?_) (a' := ?_) 32 49 (mB 43 0x1ffffffff) rfl rfl HT_.out (by kernel_rfl) (fun _ _ _ h => h) (by rfl) ?_ ?_ ?_; rotate_left; (focus intro w'; go_simp; with_reducible rfl); rotate_left; (focus simp only [Act.put, sA, sZ, sS, i64_w, i32_w]; rfl); refine puM 33 50 (mB 43 0x3ffffffff) rfl rfl HT_.out (by kernel_rfl) (fun _ _ _ h => h) (by rfl) ?_; refine puM 34 51 (mB 43 0x7ffffffff) rfl rfl HT_.out (by kernel_rfl) (fun _ _ _ h => h) (by rfl) ?_; refine puN (a' := ?_) 35 52 (mB 43 0xfffffffff) rfl rfl HT_.out (by kernel_rfl) (fun _ _ _ h => h) (by rfl) ?_ ?_; rotate_left; (focus simp only [Act.put, sA, sZ, sS, i64_w, i32_w]; rfl); refine puM 36 53 (mB 43 0x1fffffffff) rfl rfl HT_.out (by kernel_rfl) (fun _ _ _ h => h) (by rfl) ?_; refine puM 37 54 (mB 43 0x3fffffffff) rfl rfl HT_.out (by kernel_rfl) (fun _ _ _ h => h) (by rfl) ?_; refine puN (a' := ?_) 38 55 (mB 43 0x7fffffffff) rfl rfl HT_.out (by kernel_rfl) (fun _ _ _ h => h) (by rfl) ?_ ?_; rotate_left; (focus simp only [Act.put, sA, sZ, sS, i64_w, i32_w]; rfl); refine puM 39 56 (mB 43 0xffffffffff) rfl rfl HT_.out (by kernel_rfl) (fun _ _ _ h => h) (by rfl) ?_; refine puM 40 57 (mB 43 0x1ffffffffff) rfl rfl HT_.out (by kernel_rfl) (fun _ _ _ h => h) (by rfl) ?_; refine puN (a' := ?_) 41 58 (mB 43 0x3ffffffffff) rfl rfl HT_.out (by kernel_rfl) (fun _ _ _ h => h) (by rfl) ?_ ?_; rotate_left; (focus simp only [Act.put, sA, sZ, sS, i64_w, i32_w]; rfl); refine puY (v := ?_) (a' := ?_) 42 59 (mB 43 0x7ffffffffff) rfl rfl HT_.out (by kernel_rfl) (fun _ _ _ h => h) (by rfl) ?_ ?_ ?_; rotate_left; (focus intro w'; go_simp; with_reducible rfl); rotate_left; (focus simp only [Act.put, sA, sZ, sS, i64_w, i32_w]; rfl)
                refine done_ (done_of HT_.out (by kernel_rfl)) ?_
                try go_wp2
                go_ret
                exact ⟨by first | rfl | (simp [errW_none, errW_some] <;> rfl) | (simp [*, errW_none, errW_some] <;> rfl), by repeat (first | (with_reducible first | exact HB.out | apply ba | apply bn | apply bd | refine bs ?_ GE103.out | refine bs ?_ GE106.out) | exact HB.out)⟩
            · replace c8 := Bool.eq_false_iff.mpr c8
              subst c8
              have H1 : (some false) = some r := by rw [if_neg (show ¬ (false = true) by decide)] at H; exact H
              clear H
              have H := H1
              clear H1
              obtain rfl := Option.some.inj H
              have hcz70_0 : wr.cell? ⟨gb103, 0, none⟩ = some (.slice A0_0 l0_0.length c0_0) := (kc BK103.out 0).trans rfl
              have hcz70_1 : wr.cell? ⟨gb103, 1, none⟩ = some (.int .i64 a0_1) := (kc BK103.out 1).trans rfl
              have hfz70_0 := kz BK103.out 0
              have hfz70_1 := kz BK103.out 1
              have p105 : 0 ≤ (x3_1 : Int) := of_decide_eq_true (by first | (with_reducible assumption) | assumption)
              have q105 : x3_1 < (l0_0.length : Int) := of_decide_eq_true (by first | (with_reducible assumption) | assumption)
              obtain ⟨ad105, e105, hx105_0, hx105_1, hx105_2, hx105_3⟩ := at_T51 HR0_0.out x3_1 p105 q105
              cases e105
              replace hx105_0 := (HB.out.cell (World.block_lt_of_cell? w _ hx105_0)).trans hx105_0
              replace hx105_1 := (HB.out.cell (World.block_lt_of_cell? w _ hx105_1)).trans hx105_1
              replace hx105_2 := (HB.out.cell (World.block_lt_of_cell? w _ hx105_2)).trans hx105_2
              replace hx105_3 := (HB.out.cell (World.block_lt_of_cell? w _ hx105_3)).trans hx105_3
              replace p105 := eq_true p105
              replace q105 := eq_true q105
              try go_wp2_with (first | ((with_reducible refine gd (N := 4) rfl ?_); refine xe ?hg (N := 4) ?hd (cs := #[.int .i64 0, .int .i64 0, .int .i64 0, .bool false]) (t := 51) ?hr ?_; (case hd => rfl); (case hg => rfl); (case hr => first | (go_simp; done) | (go_simp; rfl)); intro gb106 hg w71 hbox hb; have n0_ := AM (kb (g := gb103) (o := .cells #[.slice (some ad105) l0_0.length c0_0, .int .i64 a0_1] 28 (0, 0)) (lfK BK103.out) hb); have n1_ := AM (bp (by repeat (first | (with_reducible first | exact HB.out | apply ba | apply bn | apply bd | refine bs ?_ GE103.out) | exact HB.out)) hb); have n2_ := AM (hbox); have n3_ := AM ((by rw [hg]; exact (bz (by repeat (first | (with_reducible first | exact HB.out | apply ba | apply bn | apply bd | refine bs ?_ GE103.out) | exact HB.out))) : w.heap.size ≤ gb106)); have n4_ := AM ((by rw [hg]; exact (bz (by repeat (first | (with_reducible first | exact HB.out | apply ba | apply bn | apply bd | refine bs ?_ GE103.out) | exact HB.out))) : w.heap.size ≤ gb106)); have n5_ := AM ((by rw [hg]; exact Nat.ne_of_lt (blk_lt (g := gb103) (o := .cells #[.slice (some ad105) l0_0.length c0_0, .int .i64 a0_1] 28 (0, 0)) (lfK BK103.out)) : gb103 ≠ gb106)); have n6_ := AM ((by rw [hg]; exact Nat.ne_of_gt (blk_lt (g := gb103) (o := .cells #[.slice (some ad105) l0_0.length c0_0, .int .i64 a0_1] 28 (0, 0)) (lfK BK103.out)) : gb106 ≠ gb103)); clear BK103 HB; revert n0_ n1_ n2_ n3_ n4_ n5_ n6_; intro BK103 HB BK106 GW106 GE106 NB103_106 NB106_103; clear hb hbox hg; have hnb72 := NB106_103.out; have hnc72 := NB103_106.out; have hcz73_0 : w71.cell? ⟨gb106, 0, none⟩ = some (.int .i64 0) := (kc BK106.out 0).trans rfl; have hcz73_1 : w71.cell? ⟨gb106, 1, none⟩ = some (.int .i64 0) := (kc BK106.out 1).trans rfl; have hcz73_2 : w71.cell? ⟨gb106, 2, none⟩ = some (.int .i64 0) := (kc BK106.out 2).trans rfl; have hcz73_3 : w71.cell? ⟨gb106, 3, none⟩ = some (.bool false) := (kc BK106.out 3).trans rfl; have hfz73_0 := kz BK106.out 0; have hfz73_1 := kz BK106.out 1; have hfz73_2 := kz BK106.out 2; have hfz73_3 := kz BK106.out 3))
              have n0_ : Aside0 (((((w71.setCell ⟨gb106, 0, none⟩ (.int .i64 ((rd_T51 l0_0 x3_1).f0))).setCell ⟨gb106, 1, none⟩ (.int .i64 ((rd_T51 l0_0 x3_1).f1))).setCell ⟨gb106, 2, none⟩ (.int .i64 ((rd_T51 l0_0 x3_1).f2))).setCell ⟨gb106, 3, none⟩ (.bool ((rd_T51 l0_0 x3_1).f3))).heap[gb103]? = some (.cells #[.slice (some ad105) l0_0.length c0_0, .int .i64 a0_1] 28 (0, 0))) := ⟨by (with_reducible repeat (first | refine kn ?_ _ | refine kd ?_ | refine ka ?_ _)); refine kf ?_ NB103_106.out _; (with_reducible repeat (first | refine kn ?_ _ | refine kd ?_ | refine ka ?_ _)); refine kf ?_ NB103_106.out _; (with_reducible repeat (first | refine kn ?_ _ | refine kd ?_ | refine ka ?_ _)); refine kf ?_ NB103_106.out _; (with_reducible repeat (first | refine kn ?_ _ | refine kd ?_ | refine ka ?_ _)); refine kf ?_ NB103_106.out _; (with_reducible repeat (first | refine kn ?_ _ | refine kd ?_ | refine ka ?_ _)); exact BK103.out⟩
              have n1_ : Aside0 (((((w71.setCell ⟨gb106, 0, none⟩ (.int .i64 ((rd_T51 l0_0 x3_1).f0))).setCell ⟨gb106, 1, none⟩ (.int .i64 ((rd_T51 l0_0 x3_1).f1))).setCell ⟨gb106, 2, none⟩ (.int .i64 ((rd_T51 l0_0 x3_1).f2))).setCell ⟨gb106, 3, none⟩ (.bool ((rd_T51 l0_0 x3_1).f3))).heap[gb106]? = some (.cells #[.int .i64 ((rd_T51 l0_0 x3_1).f0), .int .i64 ((rd_T51 l0_0 x3_1).f1), .int .i64 ((rd_T51 l0_0 x3_1).f2), .bool ((rd_T51 l0_0 x3_1).f3)] 51 (0, 0))) := ⟨by (with_reducible repeat (first | refine kn ?_ _ | refine kd ?_ | refine ka ?_ _)); refine blk_put (cs := #[.int .i64 ((rd_T51 l0_0 x3_1).f0), .int .i64 ((rd_T51 l0_0 x3_1).f1), .int .i64 ((rd_T51 l0_0 x3_1).f2), .bool false]) ?_ 3 _ rfl; (with_reducible repeat (first | refine kn ?_ _ | refine kd ?_ | refine ka ?_ _)); refine blk_put (cs := #[.int .i64 ((rd_T51 l0_0 x3_1).f0), .int .i64 ((rd_T51 l0_0 x3_1).f1), .int .i64 0, .bool false]) ?_ 2 _ rfl; (with_reducible repeat (first | refine kn ?_ _ | refine kd ?_ | refine ka ?_ _)); refine blk_put (cs := #[.int .i64 ((rd_T51 l0_0 x3_1).f0), .int .i64 0, .int .i64 0, .bool false]) ?_ 1 _ rfl; (with_reducible repeat (first | refine kn ?_ _ | refine kd ?_ | refine ka ?_ _)); refine blk_put (cs := #[.int .i64 0, .int .i64 0, .int .i64 0, .bool false]) ?_ 0 _ rfl; (with_reducible repeat (first | refine kn ?_ _ | refine kd ?_ | refine ka ?_ _)); exact BK106.out⟩
              have n2_ : Aside0 (Below w.heap.size w ((((w71.setCell ⟨gb106, 0, none⟩ (.int .i64 ((rd_T51 l0_0 x3_1).f0))).setCell ⟨gb106, 1, none⟩ (.int .i64 ((rd_T51 l0_0 x3_1).f1))).setCell ⟨gb106, 2, none⟩ (.int .i64 ((rd_T51 l0_0 x3_1).f2))).setCell ⟨gb106, 3, none⟩ (.bool ((rd_T51 l0_0 x3_1).f3)))) := ⟨by repeat (first | (with_reducible first | exact HB.out | apply ba | apply bn | apply bd | refine bs ?_ GE103.out | refine bs ?_ GE106.out) | exact HB.out)⟩
              (try clear BK103)
              (try clear BK106)
              (try clear HB)
              generalize ((((w71.setCell ⟨gb106, 0, none⟩ (.int .i64 ((rd_T51 l0_0 x3_1).f0))).setCell ⟨gb106, 1, none⟩ (.int .i64 ((rd_T51 l0_0 x3_1).f1))).setCell ⟨gb106, 2, none⟩ (.int .i64 ((rd_T51 l0_0 x3_1).f2))).setCell ⟨gb106, 3, none⟩ (.bool ((rd_T51 l0_0 x3_1).f3))) = w74 at n0_ n1_ n2_ ⊢
              revert n0_ n1_ n2_
              intro BK103 BK106 HB
              have n0_ := AM (kd BK103.out)
              have n1_ := AM (kd BK106.out)
              have n2_ := AM (bd HB.out)
              clear BK103 BK106 HB
              revert n0_ n1_ n2_
              intro BK103 BK106 HB
              refine start_ (n := 43) (S := fun w' => w'.cell? ⟨gb106, 0, none⟩ = some (.int .i64 ((rd_T51 l0_0 x3_1).f0)) ∧ w'.cell? ⟨gb106, 1, none⟩ = some (.int .i64 ((rd_T51 l0_0 x3_1).f1)) ∧ w'.cell? ⟨gb106, 2, none⟩ = some (.int .i64 ((rd_T51 l0_0 x3_1).f2)) ∧ w'.cell? ⟨gb106, 3, none⟩ = some (.bool ((rd_T51 l0_0 x3_1).f3))) (ds := []) (mB 43 0x0) (by kernel_rfl) rfl rfl ⟨(kc BK106.out 0).trans rfl, (kc BK106.out 1).trans rfl, (kc BK106.out 2).trans rfl, (kc BK106.out 3).trans rfl⟩ (fun hHeld => ?_); refine with_tabW spec_QueueOk.tab5 spec_QueueOk.bits5 (fun HT_ HW_ => ?_)
              generalize w74.drew = w75 at BK103 BK106 HB hHeld ⊢
              refine puY (v := ?_) (a' := ?_) 0 17 (mB 43 0x1) rfl rfl HT_.out (by kernel_rfl) (fun _ _ _ h => h) (by rfl) ?_ ?_ ?_; rotate_left; (focus intro w'; go_simp; with_reducible rfl); rotate_left; (focus simp only [Act.put, sA, sZ, sS, i64_w, i32_w]; rfl)
              refine take_ (i := 1) (N := some 18) (v := ?_) (a' := ?_) (mB 43 0x3) rfl rfl (take_ofW HT_.out HW_.out (by kernel_rfl)) (fun _ _ _ h => h) (Or.inl ⟨by rfl, ?_⟩) hHeld ?_ ?_
              rotate_left
              · rintro w' ⟨s0, s1, s2, s3⟩; go_simp; with_reducible rfl
              rotate_left
              · simp only [Act.put, sA, sZ, sS, i64_w, i32_w]; rfl
              refine one_ (i := 2) (N := some 19) (mB 43 0x7) rfl rfl (one_of HT_.out (by kernel_rfl)) (by decide) (fun K hK => ?_)
              refine goes_ Try.func16 (by kernel_rfl) rfl #[.int .i64 ((rd_T51 l0_0 x3_1).f0), .int .i64 0, .int .i64 99] (by rfl) rfl rfl (by (try simp only [List.map_toArray, List.map_cons, List.map_nil]); first | done | rfl | (simp only [List.length_drop, List.length_take]; rfl)) ?_
              with_reducible refine (spec_l6In.calls ((rd_T51 l0_0 x3_1).f0) 0 99 true _ A5.out).mono ?_
              rintro e w' ⟨rfl, ⟨nd, rfl⟩⟩
              refine ⟨_, rfl, ?_⟩
              refine hK.out _ _ ⟨(kc BK106.out 0).trans rfl, (kc BK106.out 1).trans rfl, (kc BK106.out 2).trans rfl, (kc BK106.out 3).trans rfl⟩ (fun hHeld => ?_)
              clear hK K
              refine norm_ (a' := ?_) ?_ ?_
              rotate_left
              · show Act.put _ (some 19) _ = _
                simp only [Act.put, sA, sZ, sS, i64_w, i32_w]
                rfl
              refine puY (v := ?_) (a' := ?_) 3 20 (mB 43 0xf) rfl rfl HT_.out (by kernel_rfl) (fun _ _ _ h => h) (by rfl) ?_ ?_ ?_; rotate_left; (focus intro w'; go_simp; with_reducible rfl); rotate_left; (focus simp only [Act.put, sA, sZ, sS, i64_w, i32_w]; rfl); refine puY (v := ?_) (a' := ?_) 4 21 (mB 43 0x1f) rfl rfl HT_.out (by kernel_rfl) (fun _ _ _ h => h) (by rfl) ?_ ?_ ?_; rotate_left; (focus intro w'; go_simp; with_reducible rfl); rotate_left; (focus simp only [Act.put, sA, sZ, sS, i64_w, i32_w]; rfl); refine puY (v := ?_) (a' := ?_) 5 22 (mB 43 0x3f) rfl rfl HT_.out (by kernel_rfl) (fun _ _ _ h => h) (by rfl) ?_ ?_ ?_; rotate_left; (focus intro w'; go_simp; with_reducible rfl); rotate_left; (focus simp only [Act.put, sA, sZ, sS, i64_w, i32_w]; rfl)
              refine take_ (i := 6) (N := some 23) (v := ?_) (a' := ?_) (mB 43 0x7f) rfl rfl (take_ofW HT_.out HW_.out (by kernel_rfl)) (fun _ _ _ h => h) (Or.inl ⟨by rfl, ?_⟩) hHeld ?_ ?_
              rotate_left
              · rintro w' ⟨s0, s1, s2, s3⟩; go_simp; with_reducible rfl
              rotate_left
              · simp only [Act.put, sA, sZ, sS, i64_w, i32_w]; rfl
              refine one_ (i := 7) (N := some 24) (mB 43 0xff) rfl rfl (one_of HT_.out (by kernel_rfl)) (by decide) (fun K hK => ?_)
              refine goes_ Try.func16 (by kernel_rfl) rfl #[.int .i64 ((rd_T51 l0_0 x3_1).f1), .int .i64 1, .int .i64 6] (by rfl) rfl rfl (by (try simp only [List.map_toArray, List.map_cons, List.map_nil]); first | done | rfl | (simp only [List.length_drop, List.length_take]; rfl)) ?_
              with_reducible refine (spec_l6In.calls ((rd_T51 l0_0 x3_1).f1) 1 6 false _ A7.out).mono ?_
              rintro e w' ⟨rfl, ⟨nd, rfl⟩⟩
              refine ⟨_, rfl, ?_⟩
              refine hK.out _ _ ⟨(kc BK106.out 0).trans rfl, (kc BK106.out 1).trans rfl, (kc BK106.out 2).trans rfl, (kc BK106.out 3).trans rfl⟩ (fun hHeld => ?_)
              clear hK K
              refine norm_ (a' := ?_) ?_ ?_
              rotate_left
              · show Act.put _ (some 24) _ = _
                simp only [Act.put, sA, sZ, sS, i64_w, i32_w]
                rfl
              refine puY (v := ?_) (a' := ?_) 8 25 (mB 43 0x1ff) rfl rfl HT_.out (by kernel_rfl) (fun _ _ _ h => h) (by rfl) ?_ ?_ ?_; rotate_left; (focus intro w'; go_simp; with_reducible rfl); rotate_left; (focus simp only [Act.put, sA, sZ, sS, i64_w, i32_w]; rfl); refine puY (v := ?_) (a' := ?_) 9 26 (mB 43 0x3ff) rfl rfl HT_.out (by kernel_rfl) (fun _ _ _ h => h) (by rfl) ?_ ?_ ?_; rotate_left; (focus intro w'; go_simp; with_reducible rfl); rotate_left; (focus simp only [Act.put, sA, sZ, sS, i64_w, i32_w]; rfl); refine puY (v := ?_) (a' := ?_) 10 27 (mB 43 0x7ff) rfl rfl HT_.out (by kernel_rfl) (fun _ _ _ h => h) (by rfl) ?_ ?_ ?_; rotate_left; (focus intro w'; go_simp; with_reducible rfl); rotate_left; (focus simp only [Act.put, sA, sZ, sS, i64_w, i32_w]; rfl); refine puM 11 28 (mB 43 0xfff) rfl rfl HT_.out (by kernel_rfl) (fun _ _ _ h => h) (by rfl) ?_; refine puM 12 29 (mB 43 0x1fff) rfl rfl HT_.out (by kernel_rfl) (fun _ _ _ h => h) (by rfl) ?_; refine puN (a' := ?_) 13 30 (mB 43 0x3fff) rfl rfl HT_.out (by kernel_rfl) (fun _ _ _ h => h) (by rfl) ?_ ?_; rotate_left; (focus simp only [Act.put, sA, sZ, sS, i64_w, i32_w]; rfl); refine puN (a' := ?_) 14 31 (mB 43 0x7fff) rfl rfl HT_.out (by kernel_rfl) (fun _ _ _ h => h) (by rfl) ?_ ?_; rotate_left; (focus simp only [Act.put, sA, sZ, sS, i64_w, i32_w]; rfl); refine puY (v := ?_) (a' := ?_) 15 32 (mB 43 0xffff) rfl rfl HT_.out (by kernel_rfl) (fun _ _ _ h => h) (by rfl) ?_ ?_ ?_; rotate_left; (focus intro w'; go_simp; with_reducible rfl); rotate_left; (focus simp only [Act.put, sA, sZ, sS, i64_w, i32_w]; rfl); refine puY (v := ?_) (a' := ?_) 16 33 (mB 43 0x1ffff) rfl rfl HT_.out (by kernel_rfl) (fun _ _ _ h => h) (by rfl) ?_ ?_ ?_; rotate_left; (focus intro w'; go_simp; with_reducible rfl); rotate_left; (focus simp only [Act.put, sA, sZ, sS, i64_w, i32_w]; rfl); refine puM 17 34 (mB 43 0x3ffff) rfl rfl HT_.out (by kernel_rfl) (fun _ _ _ h => h) (by rfl) ?_; refine puM 18 35 (mB 43 0x7ffff) rfl rfl HT_.out (by kernel_rfl) (fun _ _ _ h => h) (by rfl) ?_; refine puN (a' := ?_) 19 36 (mB 43 0xfffff) rfl rfl HT_.out (by kernel_rfl) (fun _ _ _ h => h) (by rfl) ?_ ?_; rotate_left; (focus simp only [Act.put, sA, sZ, sS, i64_w, i32_w]; rfl); refine puM 20 37 (mB 43 0x1fffff) rfl rfl HT_.out (by kernel_rfl) (fun _ _ _ h => h) (by rfl) ?_; refine puM 21 38 (mB 43 0x3fffff) rfl rfl HT_.out (by kernel_rfl) (fun _ _ _ h => h) (by rfl) ?_; refine puN (a' := ?_) 22 39 (mB 43 0x7fffff) rfl rfl HT_.out (by kernel_rfl) (fun _ _ _ h => h) (by rfl) ?_ ?_; rotate_left; (focus simp only [Act.put, sA, sZ, sS, i64_w, i32_w]; rfl); refine puM 23 40 (mB 43 0xffffff) rfl rfl HT_.out (by kernel_rfl) (fun _ _ _ h => h) (by rfl) ?_; refine puM 24 41 (mB 43 0x1ffffff) rfl rfl HT_.out (by kernel_rfl) (fun _ _ _ h => h) (by rfl) ?_; refine puN (a' := ?_) 25 42 (mB 43 0x3ffffff) rfl rfl HT_.out (by kernel_rfl) (fun _ _ _ h => h) (by rfl) ?_ ?_; rotate_left; (focus simp only [Act.put, sA, sZ, sS, i64_w, i32_w]; rfl); refine puM 26 43 (mB 43 0x7ffffff) rfl rfl HT_.out (by kernel_rfl) (fun _ _ _ h => h) (by rfl) ?_; refine puM 27 44 (mB 43 0xfffffff) rfl rfl HT_.out (by kernel_rfl) (fun _ _ _ h => h) (by rfl) ?_; refine puN (a' := ?_) 28 45 (mB 43 0x1fffffff) rfl rfl HT_.out (by kernel_rfl) (fun _ _ _ h => h) (by rfl) ?_ ?_; rotate_left; (focus simp only [Act.put, sA, sZ, sS, i64_w, i32_w]; rfl); refine puM 29 46 (mB 43 0x3fffffff) rfl rfl HT_.out (by kernel_rfl) (fun _ _ _ h => h) (by rfl) ?_; refine puN (a' := ?_) 30 47 (mB 43 0x7fffffff) rfl rfl HT_.out (by kernel_rfl) (fun _ _ _ h => h) (by rfl) ?_ ?_; rotate_left; (focus simp only [Act.put, sA, sZ, sS, i64_w, i32_w]; rfl); refine puY (v := ?_) (a' := ?_) 31 48 (mB 43 0xffffffff) rfl rfl HT_.out (by kernel_rfl) (fun _ _ _ h => h) (by rfl) ?_ ?_ ?_; rotate_left; (focus intro w'; go_simp; with_reducible rfl); rotate_left; (focus simp only [Act.put, sA, sZ, sS, i64_w, i32_w]; rfl); refine puY (v := ?_) (a' := ?_) 32 49 (mB 43 0x1ffffffff) rfl rfl HT_.out (by kernel_rfl) (fun _ _ _ h => h) (by rfl) ?_ ?_ ?_; rotate_left; (focus intro w'; go_simp; with_reducible rfl); rotate_left; (focus simp only [Act.put, sA, sZ, sS, i64_w, i32_w]; rfl); refine puM 33 50 (mB 43 0x3ffffffff) rfl rfl HT_.out (by kernel_rfl) (fun _ _ _ h => h) (by rfl) ?_; refine puM 34 51 (mB 43 0x7ffffffff) rfl rfl HT_.out (by kernel_rfl) (fun _ _ _ h => h) (by rfl) ?_; refine puN (a' := ?_) 35 52 (mB 43 0xfffffffff) rfl rfl HT_.out (by kernel_rfl) (fun _ _ _ h => h) (by rfl) ?_ ?_; rotate_left; (focus simp only [Act.put, sA, sZ, sS, i64_w, i32_w]; rfl); refine puM 36 53 (mB 43 0x1fffffffff) rfl rfl HT_.out (by kernel_rfl) (fun _ _ _ h => h) (by rfl) ?_; refine puM 37 54 (mB 43 0x3fffffffff) rfl rfl HT_.out (by kernel_rfl) (fun _ _ _ h => h) (by rfl) ?_; refine puN (a' := ?_) 38 55 (mB 43 0x7fffffffff) rfl rfl HT_.out (by kernel_rfl) (fun _ _ _ h => h) (by rfl) ?_ ?_; rotate_left; (focus simp only [Act.put, sA, sZ, sS, i64_w, i32_w]; rfl); refine puM 39 56 (mB 43 0xffffffffff) rfl rfl HT_.out (by kernel_rfl) (fun _ _ _ h => h) (by rfl) ?_; refine puM 40 57 (mB 43 0x1ffffffffff) rfl rfl HT_.out (by kernel_rfl) (fun _ _ _ h => h) (by rfl) ?_; refine puN (a' := ?_) 41 58 (mB 43 0x3ffffffffff) rfl rfl HT_.out (by kernel_rfl) (fun _ _ _ h => h) (by rfl) ?_ ?_; rotate_left; (focus simp only [Act.put, sA, sZ, sS, i64_w, i32_w]; rfl); refine puY (v := ?_) (a' := ?_) 42 59 (mB 43 0x7ffffffffff) rfl rfl HT_.out (by kernel_rfl) (fun _ _ _ h => h) (by rfl) ?_ ?_ ?_; rotate_left; (focus intro w'; go_simp; with_reducible rfl); rotate_left; (focus simp only [Act.put, sA, sZ, sS, i64_w, i32_w]; rfl)
              refine done_ (done_of HT_.out (by kernel_rfl)) ?_
              try go_wp2
              go_ret
              exact ⟨by first | rfl | (simp [errW_none, errW_some] <;> rfl) | (simp [*, errW_none, errW_some] <;> rfl), by repeat (first | (with_reducible first | exact HB.out | apply ba | apply bn | apply bd | refine bs ?_ GE103.out | refine bs ?_ GE106.out) | exact HB.out)⟩
          · replace c6 := Bool.eq_false_iff.mpr c6
            subst c6
            have H1 : (some false) = some r := by rw [if_neg (show ¬ (false = true) by decide)] at H; exact H
            clear H
            have H := H1
            clear H1
            obtain rfl := Option.some.inj H
            have hcz76_0 : wr.cell? ⟨gb103, 0, none⟩ = some (.slice A0_0 l0_0.length c0_0) := (kc BK103.out 0).trans rfl
            have hcz76_1 : wr.cell? ⟨gb103, 1, none⟩ = some (.int .i64 a0_1) := (kc BK103.out 1).trans rfl
            have hfz76_0 := kz BK103.out 0
            have hfz76_1 := kz BK103.out 1
            have p105 : 0 ≤ (x3_1 : Int) := of_decide_eq_true (by first | (with_reducible assumption) | assumption)
            have q105 : x3_1 < (l0_0.length : Int) := of_decide_eq_true (by first | (with_reducible assumption) | assumption)
            obtain ⟨ad105, e105, hx105_0, hx105_1, hx105_2, hx105_3⟩ := at_T51 HR0_0.out x3_1 p105 q105
            cases e105
            replace hx105_0 := (HB.out.cell (World.block_lt_of_cell? w _ hx105_0)).trans hx105_0
            replace hx105_1 := (HB.out.cell (World.block_lt_of_cell? w _ hx105_1)).trans hx105_1
            replace hx105_2 := (HB.out.cell (World.block_lt_of_cell? w _ hx105_2)).trans hx105_2
            replace hx105_3 := (HB.out.cell (World.block_lt_of_cell? w _ hx105_3)).trans hx105_3
            replace p105 := eq_true p105
            replace q105 := eq_true q105
            try go_wp2_with (first | ((with_reducible refine gd (N := 4) rfl ?_); refine xe ?hg (N := 4) ?hd (cs := #[.int .i64 0, .int .i64 0, .int .i64 0, .bool false]) (t := 51) ?hr ?_; (case hd => rfl); (case hg => rfl); (case hr => first | (go_simp; done) | (go_simp; rfl)); intro gb106 hg w77 hbox hb; have n0_ := AM (kb (g := gb103) (o := .cells #[.slice (some ad105) l0_0.length c0_0, .int .i64 a0_1] 28 (0, 0)) (lfK BK103.out) hb); have n1_ := AM (bp (by repeat (first | (with_reducible first | exact HB.out | apply ba | apply bn | apply bd | refine bs ?_ GE103.out) | exact HB.out)) hb); have n2_ := AM (hbox); have n3_ := AM ((by rw [hg]; exact (bz (by repeat (first | (with_reducible first | exact HB.out | apply ba | apply bn | apply bd | refine bs ?_ GE103.out) | exact HB.out))) : w.heap.size ≤ gb106)); have n4_ := AM ((by rw [hg]; exact (bz (by repeat (first | (with_reducible first | exact HB.out | apply ba | apply bn | apply bd | refine bs ?_ GE103.out) | exact HB.out))) : w.heap.size ≤ gb106)); have n5_ := AM ((by rw [hg]; exact Nat.ne_of_lt (blk_lt (g := gb103) (o := .cells #[.slice (some ad105) l0_0.length c0_0, .int .i64 a0_1] 28 (0, 0)) (lfK BK103.out)) : gb103 ≠ gb106)); have n6_ := AM ((by rw [hg]; exact Nat.ne_of_gt (blk_lt (g := gb103) (o := .cells #[.slice (some ad105) l0_0.length c0_0, .int .i64 a0_1] 28 (0, 0)) (lfK BK103.out)) : gb106 ≠ gb103)); clear BK103 HB; revert n0_ n1_ n2_ n3_ n4_ n5_ n6_; intro BK103 HB BK106 GW106 GE106 NB103_106 NB106_103; clear hb hbox hg; have hnb78 := NB106_103.out; have hnc78 := NB103_106.out; have hcz79_0 : w77.cell? ⟨gb106, 0, none⟩ = some (.int .i64 0) := (kc BK106.out 0).trans rfl; have hcz79_1 : w77.cell? ⟨gb106, 1, none⟩ = some (.int .i64 0) := (kc BK106.out 1).trans rfl; have hcz79_2 : w77.cell? ⟨gb106, 2, none⟩ = some (.int .i64 0) := (kc BK106.out 2).trans rfl; have hcz79_3 : w77.cell? ⟨gb106, 3, none⟩ = some (.bool false) := (kc BK106.out 3).trans rfl; have hfz79_0 := kz BK106.out 0; have hfz79_1 := kz BK106.out 1; have hfz79_2 := kz BK106.out 2; have hfz79_3 := kz BK106.out 3))
            have n0_ : Aside0 (((((w77.setCell ⟨gb106, 0, none⟩ (.int .i64 ((rd_T51 l0_0 x3_1).f0))).setCell ⟨gb106, 1, none⟩ (.int .i64 ((rd_T51 l0_0 x3_1).f1))).setCell ⟨gb106, 2, none⟩ (.int .i64 ((rd_T51 l0_0 x3_1).f2))).setCell ⟨gb106, 3, none⟩ (.bool ((rd_T51 l0_0 x3_1).f3))).heap[gb103]? = some (.cells #[.slice (some ad105) l0_0.length c0_0, .int .i64 a0_1] 28 (0, 0))) := ⟨by (with_reducible repeat (first | refine kn ?_ _ | refine kd ?_ | refine ka ?_ _)); refine kf ?_ NB103_106.out _; (with_reducible repeat (first | refine kn ?_ _ | refine kd ?_ | refine ka ?_ _)); refine kf ?_ NB103_106.out _; (with_reducible repeat (first | refine kn ?_ _ | refine kd ?_ | refine ka ?_ _)); refine kf ?_ NB103_106.out _; (with_reducible repeat (first | refine kn ?_ _ | refine kd ?_ | refine ka ?_ _)); refine kf ?_ NB103_106.out _; (with_reducible repeat (first | refine kn ?_ _ | refine kd ?_ | refine ka ?_ _)); exact BK103.out⟩
            have n1_ : Aside0 (((((w77.setCell ⟨gb106, 0, none⟩ (.int .i64 ((rd_T51 l0_0 x3_1).f0))).setCell ⟨gb106, 1, none⟩ (.int .i64 ((rd_T51 l0_0 x3_1).f1))).setCell ⟨gb106, 2, none⟩ (.int .i64 ((rd_T51 l0_0 x3_1).f2))).setCell ⟨gb106, 3, none⟩ (.bool ((rd_T51 l0_0 x3_1).f3))).heap[gb106]? = some (.cells #[.int .i64 ((rd_T51 l0_0 x3_1).f0), .int .i64 ((rd_T51 l0_0 x3_1).f1), .int .i64 ((rd_T51 l0_0 x3_1).f2), .bool ((rd_T51 l0_0 x3_1).f3)] 51 (0, 0))) := ⟨by (with_reducible repeat (first | refine kn ?_ _ | refine kd ?_ | refine ka ?_ _)); refine blk_put (cs := #[.int .i64 ((rd_T51 l0_0 x3_1).f0), .int .i64 ((rd_T51 l0_0 x3_1).f1), .int .i64 ((rd_T51 l0_0 x3_1).f2), .bool false]) ?_ 3 _ rfl; (with_reducible repeat (first | refine kn ?_ _ | refine kd ?_ | refine ka ?_ _)); refine blk_put (cs := #[.int .i64 ((rd_T51 l0_0 x3_1).f0), .int .i64 ((rd_T51 l0_0 x3_1).f1), .int .i64 0, .bool false]) ?_ 2 _ rfl; (with_reducible repeat (first | refine kn ?_ _ | refine kd ?_ | refine ka ?_ _)); refine blk_put (cs := #[.int .i64 ((rd_T51 l0_0 x3_1).f0), .int .i64 0, .int .i64 0, .bool false]) ?_ 1 _ rfl; (with_reducible repeat (first | refine kn ?_ _ | refine kd ?_ | refine ka ?_ _)); refine blk_put (cs := #[.int .i64 0, .int .i64 0, .int .i64 0, .bool false]) ?_ 0 _ rfl; (with_reducible repeat (first | refine kn ?_ _ | refine kd ?_ | refine ka ?_ _)); exact BK106.out⟩
            have n2_ : Aside0 (Below w.heap.size w ((((w77.setCell ⟨gb106, 0, none⟩ (.int .i64 ((rd_T51 l0_0 x3_1).f0))).setCell ⟨gb106, 1, none⟩ (.int .i64 ((rd_T51 l0_0 x3_1).f1))).setCell ⟨gb106, 2, none⟩ (.int .i64 ((rd_T51 l0_0 x3_1).f2))).setCell ⟨gb106, 3, none⟩ (.bool ((rd_T51 l0_0 x3_1).f3)))) := ⟨by repeat (first | (with_reducible first | exact HB.out | apply ba | apply bn | apply bd | refine bs ?_ GE103.out | refine bs ?_ GE106.out) | exact HB.out)⟩
            (try clear BK103)
            (try clear BK106)
            (try clear HB)
            generalize ((((w77.setCell ⟨gb106, 0, none⟩ (.int .i64 ((rd_T51 l0_0 x3_1).f0))).setCell ⟨gb106, 1, none⟩ (.int .i64 ((rd_T51 l0_0 x3_1).f1))).setCell ⟨gb106, 2, none⟩ (.int .i64 ((rd_T51 l0_0 x3_1).f2))).setCell ⟨gb106, 3, none⟩ (.bool ((rd_T51 l0_0 x3_1).f3))) = w80 at n0_ n1_ n2_ ⊢
            revert n0_ n1_ n2_
            intro BK103 BK106 HB
            have n0_ := AM (kd BK103.out)
            have n1_ := AM (kd BK106.out)
            have n2_ := AM (bd HB.out)
            clear BK103 BK106 HB
            revert n0_ n1_ n2_
            intro BK103 BK106 HB
            refine start_ (n := 43) (S := fun w' => w'.cell? ⟨gb106, 0, none⟩ = some (.int .i64 ((rd_T51 l0_0 x3_1).f0)) ∧ w'.cell? ⟨gb106, 1, none⟩ = some (.int .i64 ((rd_T51 l0_0 x3_1).f1)) ∧ w'.cell? ⟨gb106, 2, none⟩ = some (.int .i64 ((rd_T51 l0_0 x3_1).f2)) ∧ w'.cell? ⟨gb106, 3, none⟩ = some (.bool ((rd_T51 l0_0 x3_1).f3))) (ds := []) (mB 43 0x0) (by kernel_rfl) rfl rfl ⟨(kc BK106.out 0).trans rfl, (kc BK106.out 1).trans rfl, (kc BK106.out 2).trans rfl, (kc BK106.out 3).trans rfl⟩ (fun hHeld => ?_); refine with_tabW spec_QueueOk.tab5 spec_QueueOk.bits5 (fun HT_ HW_ => ?_)
            generalize w80.drew = w81 at BK103 BK106 HB hHeld ⊢
            refine puY (v := ?_) (a' := ?_) 0 17 (mB 43 0x1) rfl rfl HT_.out (by kernel_rfl) (fun _ _ _ h => h) (by rfl) ?_ ?_ ?_; rotate_left; (focus intro w'; go_simp; with_reducible rfl); rotate_left; (focus simp only [Act.put, sA, sZ, sS, i64_w, i32_w]; rfl)
            refine take_ (i := 1) (N := some 18) (v := ?_) (a' := ?_) (mB 43 0x3) rfl rfl (take_ofW HT_.out HW_.out (by kernel_rfl)) (fun _ _ _ h => h) (Or.inl ⟨by rfl, ?_⟩) hHeld ?_ ?_
            rotate_left
            · rintro w' ⟨s0, s1, s2, s3⟩; go_simp; with_reducible rfl
            rotate_left
            · simp only [Act.put, sA, sZ, sS, i64_w, i32_w]; rfl
            refine one_ (i := 2) (N := some 19) (mB 43 0x7) rfl rfl (one_of HT_.out (by kernel_rfl)) (by decide) (fun K hK => ?_)
            refine goes_ Try.func16 (by kernel_rfl) rfl #[.int .i64 ((rd_T51 l0_0 x3_1).f0), .int .i64 0, .int .i64 99] (by rfl) rfl rfl (by (try simp only [List.map_toArray, List.map_cons, List.map_nil]); first | done | rfl | (simp only [List.length_drop, List.length_take]; rfl)) ?_
            with_reducible refine (spec_l6In.calls ((rd_T51 l0_0 x3_1).f0) 0 99 false _ A5.out).mono ?_
            rintro e w' ⟨rfl, ⟨nd, rfl⟩⟩
            refine ⟨_, rfl, ?_⟩
            refine hK.out _ _ ⟨(kc BK106.out 0).trans rfl, (kc BK106.out 1).trans rfl, (kc BK106.out 2).trans rfl, (kc BK106.out 3).trans rfl⟩ (fun hHeld => ?_)
            clear hK K
            refine norm_ (a' := ?_) ?_ ?_
            rotate_left
            · show Act.put _ (some 19) _ = _
              simp only [Act.put, sA, sZ, sS, i64_w, i32_w]
              rfl
            refine puY (v := ?_) (a' := ?_) 3 20 (mB 43 0xf) rfl rfl HT_.out (by kernel_rfl) (fun _ _ _ h => h) (by rfl) ?_ ?_ ?_; rotate_left; (focus intro w'; go_simp; with_reducible rfl); rotate_left; (focus simp only [Act.put, sA, sZ, sS, i64_w, i32_w]; rfl); refine puY (v := ?_) (a' := ?_) 4 21 (mB 43 0x1f) rfl rfl HT_.out (by kernel_rfl) (fun _ _ _ h => h) (by rfl) ?_ ?_ ?_; rotate_left; (focus intro w'; go_simp; with_reducible rfl); rotate_left; (focus simp only [Act.put, sA, sZ, sS, i64_w, i32_w]; rfl); refine puM 5 22 (mB 43 0x3f) rfl rfl HT_.out (by kernel_rfl) (fun _ _ _ h => h) (by rfl) ?_; refine puM 6 23 (mB 43 0x7f) rfl rfl HT_.out (by kernel_rfl) (fun _ _ _ h => h) (by rfl) ?_; refine puN (a' := ?_) 7 24 (mB 43 0xff) rfl rfl HT_.out (by kernel_rfl) (fun _ _ _ h => h) (by rfl) ?_ ?_; rotate_left; (focus simp only [Act.put, sA, sZ, sS, i64_w, i32_w]; rfl); refine puN (a' := ?_) 8 25 (mB 43 0x1ff) rfl rfl HT_.out (by kernel_rfl) (fun _ _ _ h => h) (by rfl) ?_ ?_; rotate_left; (focus simp only [Act.put, sA, sZ, sS, i64_w, i32_w]; rfl); refine puY (v := ?_) (a' := ?_) 9 26 (mB 43 0x3ff) rfl rfl HT_.out (by kernel_rfl) (fun _ _ _ h => h) (by rfl) ?_ ?_ ?_; rotate_left; (focus intro w'; go_simp; with_reducible rfl); rotate_left; (focus simp only [Act.put, sA, sZ, sS, i64_w, i32_w]; rfl); refine puY (v := ?_) (a' := ?_) 10 27 (mB 43 0x7ff) rfl rfl HT_.out (by kernel_rfl) (fun _ _ _ h => h) (by rfl) ?_ ?_ ?_; rotate_left; (focus intro w'; go_simp; with_reducible rfl); rotate_left; (focus simp only [Act.put, sA, sZ, sS, i64_w, i32_w]; rfl); refine puM 11 28 (mB 43 0xfff) rfl rfl HT_.out (by kernel_rfl) (fun _ _ _ h => h) (by rfl) ?_; refine puM 12 29 (mB 43 0x1fff) rfl rfl HT_.out (by kernel_rfl) (fun _ _ _ h => h) (by rfl) ?_; refine puN (a' := ?_) 13 30 (mB 43 0x3fff) rfl rfl HT_.out (by kernel_rfl) (fun _ _ _ h => h) (by rfl) ?_ ?_; rotate_left; (focus simp only [Act.put, sA, sZ, sS, i64_w, i32_w]; rfl); refine puN (a' := ?_) 14 31 (mB 43 0x7fff) rfl rfl HT_.out (by kernel_rfl) (fun _ _ _ h => h) (by rfl) ?_ ?_; rotate_left; (focus simp only [Act.put, sA, sZ, sS, i64_w, i32_w]; rfl); refine puY (v := ?_) (a' := ?_) 15 32 (mB 43 0xffff) rfl rfl HT_.out (by kernel_rfl) (fun _ _ _ h => h) (by rfl) ?_ ?_ ?_; rotate_left; (focus intro w'; go_simp; with_reducible rfl); rotate_left; (focus simp only [Act.put, sA, sZ, sS, i64_w, i32_w]; rfl); refine puY (v := ?_) (a' := ?_) 16 33 (mB 43 0x1ffff) rfl rfl HT_.out (by kernel_rfl) (fun _ _ _ h => h) (by rfl) ?_ ?_ ?_; rotate_left; (focus intro w'; go_simp; with_reducible rfl); rotate_left; (focus simp only [Act.put, sA, sZ, sS, i64_w, i32_w]; rfl); refine puM 17 34 (mB 43 0x3ffff) rfl rfl HT_.out (by kernel_rfl) (fun _ _ _ h => h) (by rfl) ?_; refine puM 18 35 (mB 43 0x7ffff) rfl rfl HT_.out (by kernel_rfl) (fun _ _ _ h => h) (by rfl) ?_; refine puN (a' := ?_) 19 36 (mB 43 0xfffff) rfl rfl HT_.out (by kernel_rfl) (fun _ _ _ h => h) (by rfl) ?_ ?_; rotate_left; (focus simp only [Act.put, sA, sZ, sS, i64_w, i32_w]; rfl); refine puM 20 37 (mB 43 0x1fffff) rfl rfl HT_.out (by kernel_rfl) (fun _ _ _ h => h) (by rfl) ?_; refine puM 21 38 (mB 43 0x3fffff) rfl rfl HT_.out (by kernel_rfl) (fun _ _ _ h => h) (by rfl) ?_; refine puN (a' := ?_) 22 39 (mB 43 0x7fffff) rfl rfl HT_.out (by kernel_rfl) (fun _ _ _ h => h) (by rfl) ?_ ?_; rotate_left; (focus simp only [Act.put, sA, sZ, sS, i64_w, i32_w]; rfl); refine puM 23 40 (mB 43 0xffffff) rfl rfl HT_.out (by kernel_rfl) (fun _ _ _ h => h) (by rfl) ?_; refine puM 24 41 (mB 43 0x1ffffff) rfl rfl HT_.out (by kernel_rfl) (fun _ _ _ h => h) (by rfl) ?_; refine puN (a' := ?_) 25 42 (mB 43 0x3ffffff) rfl rfl HT_.out (by kernel_rfl) (fun _ _ _ h => h) (by rfl) ?_ ?_; rotate_left; (focus simp only [Act.put, sA, sZ, sS, i64_w, i32_w]; rfl); refine puM 26 43 (mB 43 0x7ffffff) rfl rfl HT_.out (by kernel_rfl) (fun _ _ _ h => h) (by rfl) ?_; refine puM 27 44 (mB 43 0xfffffff) rfl rfl HT_.out (by kernel_rfl) (fun _ _ _ h => h) (by rfl) ?_; refine puN (a' := ?_) 28 45 (mB 43 0x1fffffff) rfl rfl HT_.out (by kernel_rfl) (fun _ _ _ h => h) (by rfl) ?_ ?_; rotate_left; (focus simp only [Act.put, sA, sZ, sS, i64_w, i32_w]; rfl); refine puM 29 46 (mB 43 0x3fffffff) rfl rfl HT_.out (by kernel_rfl) (fun _ _ _ h => h) (by rfl) ?_; refine puN (a' := ?_) 30 47 (mB 43 0x7fffffff) rfl rfl HT_.out (by kernel_rfl) (fun _ _ _ h => h) (by rfl) ?_ ?_; rotate_left; (focus simp only [Act.put, sA, sZ, sS, i64_w, i32_w]; rfl); refine puY (v := ?_) (a' := ?_) 31 48 (mB 43 0xffffffff) rfl rfl HT_.out (by kernel_rfl) (fun _ _ _ h => h) (by rfl) ?_ ?_ ?_; rotate_left; (focus intro w'; go_simp; with_reducible rfl); rotate_left; (focus simp only [Act.put, sA, sZ, sS, i64_w, i32_w]; rfl); refine puY (v := ?_) (a' := ?_) 32 49 (mB 43 0x1ffffffff) rfl rfl HT_.out (by kernel_rfl) (fun _ _ _ h => h) (by rfl) ?_ ?_ ?_; rotate_left; (focus intro w'; go_simp; with_reducible rfl); rotate_left; (focus simp only [Act.put, sA, sZ, sS, i64_w, i32_w]; rfl); refine puM 33 50 (mB 43 0x3ffffffff) rfl rfl HT_.out (by kernel_rfl) (fun _ _ _ h => h) (by rfl) ?_; refine puM 34 51 (mB 43 0x7ffffffff) rfl rfl HT_.out (by kernel_rfl) (fun _ _ _ h => h) (by rfl) ?_; refine puN (a' := ?_) 35 52 (mB 43 0xfffffffff) rfl rfl HT_.out (by kernel_rfl) (fun _ _ _ h => h) (by rfl) ?_ ?_; rotate_left; (focus simp only [Act.put, sA, sZ, sS, i64_w, i32_w]; rfl); refine puM 36 53 (mB 43 0x1fffffffff) rfl rfl HT_.out (by kernel_rfl) (fun _ _ _ h => h) (by rfl) ?_; refine puM 37 54 (mB 43 0x3fffffffff) rfl rfl HT_.out (by kernel_rfl) (fun _ _ _ h => h) (by rfl) ?_; refine puN (a' := ?_) 38 55 (mB 43 0x7fffffffff) rfl rfl HT_.out (by kernel_rfl) (fun _ _ _ h => h) (by rfl) ?_ ?_; rotate_left; (focus simp only [Act.put, sA, sZ, sS, i64_w, i32_w]; rfl); refine puM 39 56 (mB 43 0xffffffffff) rfl rfl HT_.out (by kernel_rfl) (fun _ _ _ h => h) (by rfl) ?_; refine puM 40 57 (mB 43 0x1ffffffffff) rfl rfl HT_.out (by kernel_rfl) (fun _ _ _ h => h) (by rfl) ?_; refine puN (a' := ?_) 41 58 (mB 43 0x3ffffffffff) rfl rfl HT_.out (by kernel_rfl) (fun _ _ _ h => h) (by rfl) ?_ ?_; rotate_left; (focus simp only [Act.put, sA, sZ, sS, i64_w, i32_w]; rfl); refine puY (v := ?_) (a' := ?_) 42 59 (mB 43 0x7ffffffffff) rfl rfl HT_.out (by kernel_rfl) (fun _ _ _ h => h) (by rfl) ?_ ?_ ?_; rotate_left; (focus intro w'; go_simp; with_reducible rfl); rotate_left; (focus simp only [Act.put, sA, sZ, sS, i64_w, i32_w]; rfl)
            refine done_ (done_of HT_.out (by kernel_rfl)) ?_
            try go_wp2
            go_ret
            exact ⟨by first | rfl | (simp [errW_none, errW_some] <;> rfl) | (simp [*, errW_none, errW_some] <;> rfl), by repeat (first | (with_reducible first | exact HB.out | apply ba | apply bn | apply bd | refine bs ?_ GE103.out | refine bs ?_ GE106.out) | exact HB.out)⟩
        · rw [if_neg c4] at H
          exact absurd H (by simp)
      · rw [if_neg c3] at H
        have c3b0 : decide (x3_1 < (l0_0.length : Int)) = false := decide_eq_false c3
        clear c3
        by_cases c82 : (l0_0.length : Int) ≤ 6
        · rw [if_pos c82] at H
          have c82b0 : decide ((l0_0.length : Int) ≤ 6) = true := decide_eq_true c82
          have c82b1 : decide (l0_0.length ≤ 6) = true := decide_eq_true (by omega)
          clear c82
          replace H := Option.bind_eq_some_iff.mp H
          obtain ⟨t104, A830, H⟩ := H
          replace H : (some t104) = some r := H
          have A83 := AM A830
          clear A830
          obtain rfl := Option.some.inj H
          have hcz84_0 : wr.cell? ⟨gb103, 0, none⟩ = some (.slice A0_0 l0_0.length c0_0) := (kc BK103.out 0).trans rfl
          have hcz84_1 : wr.cell? ⟨gb103, 1, none⟩ = some (.int .i64 a0_1) := (kc BK103.out 1).trans rfl
          have hfz84_0 := kz BK103.out 0
          have hfz84_1 := kz BK103.out 1
          go_wp2_with (first | (go_at_call 16; (with_reducible refine (spec_l6In.calls a0_1 0 1000000 t104 _ A83.out).mono ?_); rintro e w' ⟨rfl, ⟨nd, rfl⟩⟩))
          go_ret
          exact ⟨by first | rfl | (simp [errW_none, errW_some] <;> rfl) | (simp [*, errW_none, errW_some] <;> rfl), by repeat (first | (with_reducible first | exact HB.out | apply ba | apply bn | apply bd | refine bs ?_ GE103.out) | exact HB.out)⟩
        · rw [if_neg c82] at H
          have c82b0 : decide ((l0_0.length : Int) ≤ 6) = false := decide_eq_false c82
          have c82b1 : decide (l0_0.length ≤ 6) = false := decide_eq_false (by omega)
          clear c82
          obtain rfl := Option.some.inj H
          have hcz85_0 : wr.cell? ⟨gb103, 0, none⟩ = some (.slice A0_0 l0_0.length c0_0) := (kc BK103.out 0).trans rfl
          have hcz85_1 : wr.cell? ⟨gb103, 1, none⟩ = some (.int .i64 a0_1) := (kc BK103.out 1).trans rfl
          have hfz85_0 := kz BK103.out 0
          have hfz85_1 := kz BK103.out 1
          go_wp2
          go_ret
          exact ⟨by first | rfl | (simp [errW_none, errW_some] <;> rfl) | (simp [*, errW_none, errW_some] <;> rfl), by repeat (first | (with_reducible first | exact HB.out | apply ba | apply bn | apply bd | refine bs ?_ GE103.out) | exact HB.out)⟩

end Go.Proofs.Ytfbdkjdockbfdab.GQ
