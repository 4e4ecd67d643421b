-- Written by this session's program hp.py (over the kit's printer) and out of its own hand texts. Not trusted: Lean checks it.
import Derived.Test.YtfbdkjdockbfdabGQx0
import Derived.Test.YtfbdkjdockbfdabGQx5
import Derived.Test.YtfbdkjdockbfdabGQx6
namespace Go.Proofs.Ytfbdkjdockbfdab.GQ
open Go.RowKit Go.Proofs.YtfbdkjdockbfdabW.PrintWords Go.Proofs.YtfbdkjdockbfdabW.PrintLast Go.Proofs.YtfbdkjdockbfdabW.PrintMore
attribute [local go_sem] max2_int min2_int max_two min_two max_three min_three max_four min_four   -- for this text's walks alone
set_option linter.unusedVariables false
set_option linter.unusedSimpArgs false

/-! ### impl_QueueTick: function 23 -/
open List renaming setIfInBounds_toArray → sA, set_cons_zero → sZ, set_cons_succ → sS
open Go.Proofs.YtfbdkjdockbfdabW.PrintWords.Aside0 renaming mk → AM
open Go.Proofs.YtfbdkjdockbfdabW.PrintWords renaming below_alloc → ba, pw_below_drewN → bn, below_drew1 → bd, below_set → bs, blk_drewN → kn, blk_drew → kd, blk_alloc → ka, blk_far → kf, blk_cell → kc, blk_frozen → kz, blk_below → kb, below_size → bz, below_step → bp, box_event → xe, gate_callee → gc, gate_dst → gd
open Go.Proofs.YtfbdkjdockbfdabW.PrintWords.Kd renaming R_alloc → Ra, R_drewN → Rn, R_drew → Rd, R_mono → Rm, R_below → Rb, R_far → Rf, R_reads' → Rr, R_types → Rt, R_lower → Rl, C_alloc → Ca, C_drewN → Cn, C_drew → Cd, C_below → Cb, R_slice → Ri
def impl_QueueTick.j0 : Nat → Int → Bool → List (S51) → Int → Option ((List (S51)) × Int × Int × Bool)
  | 0, _, _, _, _ => none
  | k + 1, x5, x32, x202000, x202001 => if x32 = true then (some (([] : List (S51)), 0, (-1), false)) else ((impl_Queue_clone.f x202000 x202001).bind fun bt207 => (if 0 ≤ x5 then (if x5 < (bt207.1.length : Int) then (if ((rd_T51 bt207.1 x5).f1) = 0 then (none) else ((some (bt207.1.set (x5 : Int).toNat (⟨(rd_T51 bt207.1 x5).f0, (rd_T51 bt207.1 x5).f1, wrap64 (((rd_T51 bt207.1 x5).f2) + (wrap64 (Int.tdiv (60 : Int) ((rd_T51 bt207.1 x5).f1)))), (rd_T51 bt207.1 x5).f3⟩ : S51) : List (S51))).bind fun y214 => ((impl_Queue_next.f k y214 bt207.2).bind fun t215 => (if 0 ≤ t215 then (if t215 < (bt207.1.length : Int) then (some (y214, mx bt207.2 ((rd_T51 y214 t215).f2), (rd_T51 y214 x5).f0, true)) else (none)) else (none))))) else (none)) else (none)))
def impl_QueueTick.f (k : Nat) (l0_0 : List (S51)) (a0_1 : Int) : Option ((List (S51)) × Int × Int × Bool) := (impl_Queue_next.f k l0_0 a0_1).bind fun t203 => ((impl_QueueOk.f k l0_0 a0_1).bind fun t204 => (if t204 = true then (if t203 < 0 then (impl_QueueTick.j0 k t203 true l0_0 a0_1) else (if 0 ≤ t203 then (if t203 < (l0_0.length : Int) then (if ((rd_T51 l0_0 t203).f1) = 0 then (none) else (impl_QueueTick.j0 k t203 (decide ((wrap64 (((rd_T51 l0_0 t203).f2) + (wrap64 (Int.tdiv (60 : Int) ((rd_T51 l0_0 t203).f1))))) > 1000000)) l0_0 a0_1)) else (none)) else (none))) else (impl_QueueTick.j0 k t203 true l0_0 a0_1)))
theorem impl_QueueTick.mono_l : ∀ k, (∀ y0 y1 y2 y3, LeO (impl_QueueTick.j0 k y0 y1 y2 y3) (impl_QueueTick.j0 (k + 1) y0 y1 y2 y3))
  | 0 => fun _ _ _ _ r h => by simp [impl_QueueTick.j0] at h
  | k + 1 => by
    have ih0 := impl_QueueTick.mono_l k
    · intro y0 y1 y2 y3
      unfold impl_QueueTick.j0
      repeat' first
      | (with_reducible exact ih0 _ _ _ _)
      | (with_reducible exact impl_QueueOk.mono _ _ _)
      | (with_reducible exact impl_Queue_next.mono _ _ _)
      | (with_reducible exact LeO.refl _)
      | (with_reducible exact LeO.none _)
      | (with_reducible refine LeO.ite ?_ ?_)
      | (with_reducible refine LeO.bind ?_ (fun _ => ?_))
      | exact ih0 _ _ _ _
      | exact impl_QueueOk.mono _ _ _
      | exact impl_Queue_next.mono _ _ _
      | exact LeO.none _
      | refine LeO.ite ?_ ?_
      | refine LeO.bind ?_ (fun _ => ?_)
theorem impl_QueueTick.mono : ∀ a0 a1 k, LeO (impl_QueueTick.f k a0 a1) (impl_QueueTick.f (k + 1) a0 a1) := by
  intro a0 a1 k
  have ih0 := impl_QueueTick.mono_l k
  unfold impl_QueueTick.f
  repeat' first
      | (with_reducible exact ih0 _ _ _ _)
      | (with_reducible exact impl_QueueOk.mono _ _ _)
      | (with_reducible exact impl_Queue_next.mono _ _ _)
      | (with_reducible exact LeO.refl _)
      | (with_reducible exact LeO.none _)
      | (with_reducible refine LeO.ite ?_ ?_)
      | (with_reducible refine LeO.bind ?_ (fun _ => ?_))
      | exact ih0 _ _ _ _
      | exact impl_QueueOk.mono _ _ _
      | exact impl_Queue_next.mono _ _ _
      | exact LeO.none _
      | refine LeO.ite ?_ ?_
      | refine LeO.bind ?_ (fun _ => ?_)
def impl_QueueTick.T2 : Bool × List (List Nat × List Nat) := (true, [([], []), ([0], [0]), ([1], [1]), ([2, 1], [2]), ([3], [3]), ([4, 3], [3, 4]), ([3, 5], [3, 5]), ([6, 3], [6]), ([7], [7]), ([8, 7], [7, 8]), ([7], [7]), ([9, 10, 7], [7, 9, 10]), ([11, 7], [7, 11]), ([12, 7], [7, 12]), ([7], [7]), ([14, 7], [7, 14]), ([7], [7]), ([15, 16, 7], [7, 15, 16]), ([17, 7], [7, 17]), ([18, 7], [7, 18]), ([19, 7], [7, 19]), ([13, 20, 7], [7, 13, 20]), ([21, 7], [7, 21]), ([7, 22], [7, 22])])
def impl_QueueTick.B2 : List Nat := [0, 1, 3, 7, 15, 31, 63, 127, 255, 511, 255, 2047, 4095, 8191, 255, 16639, 255, 114943, 246015, 508159, 1032447, 2097151, 4194303, 8388607]
theorem impl_QueueTick.tab2 : rtab .any (opsOf Try.f23 2) = impl_QueueTick.T2 := by kernel_rfl
theorem impl_QueueTick.bits2 : waitsOk impl_QueueTick.T2.2 impl_QueueTick.B2 = true := by kernel_rfl
def impl_QueueTick.T5 : Bool × List (List Nat × List Nat) := (true, [([], []), ([0], [0]), ([], []), ([1, 2], [1, 2]), ([3], [3]), ([4], [4]), ([], []), ([6], [6]), ([], []), ([7, 8], [7, 8]), ([9], [9]), ([10], [10]), ([11], [11]), ([5, 12], [5, 12]), ([1, 2, 0, 1, 2, 3, 4, 5, 6, 7, 8, 9, 10, 11, 12, 13], [1, 2]), ([14, 0, 1, 2, 3, 4, 5, 6, 7, 8, 9, 10, 11, 12, 13], [14]), ([15, 13, 0, 1, 2, 3, 4, 5, 6, 7, 8, 9, 10, 11, 12, 13], [13, 15])])
def impl_QueueTick.B5 : List Nat := [0, 1, 0, 7, 15, 31, 0, 64, 0, 448, 960, 1984, 4032, 8191, 16383, 32767, 65535]
theorem impl_QueueTick.tab5 : rtab .any (opsOf Try.f23 5) = impl_QueueTick.T5 := by kernel_rfl
theorem impl_QueueTick.bits5 : waitsOk impl_QueueTick.T5.2 impl_QueueTick.B5 = true := by kernel_rfl
def impl_QueueTick.T6 : Bool × List (List Nat × List Nat) := (true, [([], []), ([0], [0]), ([], []), ([2], [2]), ([], []), ([4], [4]), ([3, 5], [3, 5]), ([6], [6]), ([7], [7]), ([1, 8], [1, 8]), ([0, 1, 2, 3, 4, 5, 6, 7, 8, 9], []), ([10, 9, 5, 0, 1, 2, 3, 4, 5, 6, 7, 8, 9], [9, 10])])
def impl_QueueTick.B6 : List Nat := [0, 1, 0, 4, 0, 16, 60, 124, 252, 511, 1023, 2047]
theorem impl_QueueTick.tab6 : rtab .any (opsOf Try.f23 6) = impl_QueueTick.T6 := by kernel_rfl
theorem impl_QueueTick.bits6 : waitsOk impl_QueueTick.T6.2 impl_QueueTick.B6 = true := by kernel_rfl
def impl_QueueTick.T7 : Bool × List (List Nat × List Nat) := (true, [([], []), ([], []), ([1], [1]), ([], []), ([2, 3], [2, 3]), ([4], [4]), ([5], [5]), ([0, 0], [0]), ([6, 7, 0, 1, 2, 3, 4, 5, 6, 7], [6]), ([8, 0, 1, 2, 3, 4, 5, 6, 7, 8], [])])
def impl_QueueTick.B7 : List Nat := [0, 0, 2, 0, 14, 30, 62, 1, 255, 511]
theorem impl_QueueTick.tab7 : rtab .any (opsOf Try.f23 7) = impl_QueueTick.T7 := by kernel_rfl
theorem impl_QueueTick.bits7 : waitsOk impl_QueueTick.T7.2 impl_QueueTick.B7 = true := by kernel_rfl
set_option maxHeartbeats 8000000 in
set_option maxRecDepth 100000 in
theorem impl_QueueTick.calls (k : Nat) (A0_0 : Option Addr) (c0_0 : Nat) (l0_0 : List (S51)) (a0_1 : Int) (r1 : List (S51)) (r2 : Int) (r3 : Int) (r4 : Bool) (w : World) (hr0_0 : Kd.C k51 w A0_0 l0_0.length l0_0) (hc0_0 : l0_0.length ≤ c0_0) (h : impl_QueueTick.f k l0_0 a0_1 = some (r1, r2, r3, r4)) :
    Calls Try.prog 23 #[.agg #[.slice A0_0 l0_0.length c0_0, .int .i64 a0_1]] w fun e w' => ∃ v0_ : Value, e = .returned (.tuple #[.agg #[v0_, .int .i64 r2], .int .i64 r3, .bool r4]) ∧ Kd.R k51 51 w' w.heap.size (fun _ => True) v0_ r1 ∧ Below w.heap.size w w' := by
  have hu28 := Try.underlying28
  have HR0_0 := AM hr0_0
  have HC0_0 := AM hc0_0
  clear hr0_0 hc0_0
  have HB := AM (Below.refl w.heap.size w)
  have H : ((impl_Queue_next.f k l0_0 a0_1).bind fun t203 => ((impl_QueueOk.f k l0_0 a0_1).bind fun t204 => (if t204 = true then (if t203 < 0 then (impl_QueueTick.j0 k t203 true l0_0 a0_1) else (if 0 ≤ t203 then (if t203 < (l0_0.length : Int) then (if ((rd_T51 l0_0 t203).f1) = 0 then (none) else (impl_QueueTick.j0 k t203 (decide ((wrap64 (((rd_T51 l0_0 t203).f2) + (wrap64 (Int.tdiv (60 : Int) ((rd_T51 l0_0 t203).f1))))) > 1000000)) l0_0 a0_1)) else (none)) else (none))) else (impl_QueueTick.j0 k t203 true l0_0 a0_1)))) = some (r1, r2, r3, r4) := h
  clear h
  replace H := Option.bind_eq_some_iff.mp H
  obtain ⟨t203, A20, H⟩ := H
  replace H : ((impl_QueueOk.f k l0_0 a0_1).bind fun t204 => (if t204 = true then (if t203 < 0 then (impl_QueueTick.j0 k t203 true l0_0 a0_1) else (if 0 ≤ t203 then (if t203 < (l0_0.length : Int) then (if ((rd_T51 l0_0 t203).f1) = 0 then (none) else (impl_QueueTick.j0 k t203 (decide ((wrap64 (((rd_T51 l0_0 t203).f2) + (wrap64 (Int.tdiv (60 : Int) ((rd_T51 l0_0 t203).f1))))) > 1000000)) l0_0 a0_1)) else (none)) else (none))) else (impl_QueueTick.j0 k t203 true l0_0 a0_1))) = some (r1, r2, r3, r4) := H
  have A2 := AM A20
  clear A20
  have HC3 := AM H
  clear H
  go_enter Try.func23, Try.ntmps23
  go_upto_region 2 with (first | ((with_reducible refine gd (N := 1) rfl ?_); refine xe ?hg (N := 1) ?hd (cs := #[.slice A0_0 l0_0.length c0_0, .int .i64 a0_1]) (t := 28) ?hr ?_; (case hd => rfl); (case hg => rfl); (case hr => first | (go_simp; done) | (go_simp; rfl)); intro gb201 hg w4 hbox hb; have n0_ := AM (bp (lfB HB.out) hb); have n1_ := AM (hbox); have n2_ := AM ((by rw [hg]; exact (bz (lfB HB.out)) : w.heap.size ≤ gb201)); have n3_ := AM ((by rw [hg]; exact (bz (lfB HB.out)) : w.heap.size ≤ gb201)); clear HB; revert n0_ n1_ n2_ n3_; intro HB BK201 GW201 GE201; clear hb hbox hg) | ((with_reducible refine gd (N := 2) rfl ?_); refine xe ?hg (N := 2) ?hd (cs := #[.slice none 0 0, .int .i64 0]) (t := 28) ?hr ?_; (case hd => rfl); (case hg => rfl); (case hr => first | (go_simp; done) | (go_simp; rfl)); intro gb202 hg w5 hbox hb; have n0_ := AM (kb (g := gb201) (o := .cells #[.slice A0_0 l0_0.length c0_0, .int .i64 a0_1] 28 (0, 0)) (lfK BK201.out) hb); have n1_ := AM (bp (by repeat (first | (with_reducible first | exact HB.out | apply ba | apply bn | apply bd | refine bs ?_ GE201.out) | exact HB.out)) hb); have n2_ := AM (hbox); have n3_ := AM ((by rw [hg]; exact (bz (by repeat (first | (with_reducible first | exact HB.out | apply ba | apply bn | apply bd | refine bs ?_ GE201.out) | exact HB.out))) : w.heap.size ≤ gb202)); have n4_ := AM ((by rw [hg]; exact (bz (by repeat (first | (with_reducible first | exact HB.out | apply ba | apply bn | apply bd | refine bs ?_ GE201.out) | exact HB.out))) : w.heap.size ≤ gb202)); have n5_ := AM ((by rw [hg]; exact Nat.ne_of_lt (blk_lt (g := gb201) (o := .cells #[.slice A0_0 l0_0.length c0_0, .int .i64 a0_1] 28 (0, 0)) (lfK BK201.out)) : gb201 ≠ gb202)); have n6_ := AM ((by rw [hg]; exact Nat.ne_of_gt (blk_lt (g := gb201) (o := .cells #[.slice A0_0 l0_0.length c0_0, .int .i64 a0_1] 28 (0, 0)) (lfK BK201.out)) : gb202 ≠ gb201)); clear BK201 HB; revert n0_ n1_ n2_ n3_ n4_ n5_ n6_; intro BK201 HB BK202 GW202 GE202 NB201_202 NB202_201; clear hb hbox hg; have hnb6 := NB201_202.out; have hnc6 := NB202_201.out; have hcz7_0 : w5.cell? ⟨gb201, 0, none⟩ = some (.slice A0_0 l0_0.length c0_0) := (kc BK201.out 0).trans rfl; have hcz7_1 : w5.cell? ⟨gb201, 1, none⟩ = some (.int .i64 a0_1) := (kc BK201.out 1).trans rfl; have hfz7_0 := kz BK201.out 0; have hfz7_1 := kz BK201.out 1) | ((with_reducible refine gc (f := 30) rfl ?_); refine goesL_ (some 8) rfl rfl Try.func30 (by kernel_rfl) rfl #[.agg #[.slice A0_0 l0_0.length c0_0, .int .i64 a0_1]] rfl (by (try simp only [List.map_toArray, List.map_cons, List.map_nil]); first | done | rfl | (simp only [List.length_drop, List.length_take]; rfl)) ?_; (with_reducible refine (impl_Queue_next.calls k _ _ l0_0 a0_1 t203 _ ?side1 ?side2 A2.out).mono ?_); (case side1 => repeat (first | exact (Cb HR0_0.out HB.out) | (with_reducible refine Ca ?_ _) | (with_reducible refine Cn ?_ _) | (with_reducible refine Cd ?_))); (case side2 => exact HC0_0.out); rintro e w8 ⟨rfl, hb⟩; refine ⟨_, rfl, ?_⟩; have n0_ := AM (kb (g := gb201) (o := .cells #[.slice A0_0 l0_0.length c0_0, .int .i64 a0_1] 28 (0, 0)) (lfK BK201.out) hb); have n1_ := AM (kb (g := gb202) (o := .cells #[.slice none 0 0, .int .i64 0] 28 (0, 0)) (lfK BK202.out) hb); have n2_ := AM (bp (by repeat (first | (with_reducible first | exact HB.out | apply ba | apply bn | apply bd | refine bs ?_ GE201.out | refine bs ?_ GE202.out) | exact HB.out)) hb); clear BK201 BK202 HB; revert n0_ n1_ n2_; intro BK201 BK202 HB; (try clear hb)))
  (try simp only [Act.put, List.setIfInBounds_toArray, List.set_cons_zero, List.set_cons_succ])
  go_cut [32] (fun v32 wc => ∃ (kq : Nat) (x32_2 : Bool), v32 = .bool x32_2 ∧ Aside0 (impl_QueueTick.j0 kq t203 x32_2 l0_0 a0_1 = some (r1, r2, r3, r4)) ∧ Aside0 (kq ≤ k) ∧ Aside0 (wc.heap[gb201]? = some (.cells #[(.slice A0_0 l0_0.length c0_0), .int .i64 a0_1] 28 (0, 0))) ∧ Aside0 (wc.heap[gb202]? = some (.cells #[(.slice none 0 0), .int .i64 0] 28 (0, 0))) ∧ Aside0 (Below w.heap.size w wc))
  case first =>
    have H := HC3.out
    clear HC3
    replace H := Option.bind_eq_some_iff.mp H
    obtain ⟨t204, A90, H⟩ := H
    replace H : (if t204 = true then (if t203 < 0 then (impl_QueueTick.j0 k t203 true l0_0 a0_1) else (if 0 ≤ t203 then (if t203 < (l0_0.length : Int) then (if ((rd_T51 l0_0 t203).f1) = 0 then (none) else (impl_QueueTick.j0 k t203 (decide ((wrap64 (((rd_T51 l0_0 t203).f2) + (wrap64 (Int.tdiv (60 : Int) ((rd_T51 l0_0 t203).f1))))) > 1000000)) l0_0 a0_1)) else (none)) else (none))) else (impl_QueueTick.j0 k t203 true l0_0 a0_1)) = some (r1, r2, r3, r4) := H
    have A9 := AM A90
    clear A90
    by_cases c10 : t204 = true
    · subst c10
      have H1 : (if t203 < 0 then (impl_QueueTick.j0 k t203 true l0_0 a0_1) else (if 0 ≤ t203 then (if t203 < (l0_0.length : Int) then (if ((rd_T51 l0_0 t203).f1) = 0 then (none) else (impl_QueueTick.j0 k t203 (decide ((wrap64 (((rd_T51 l0_0 t203).f2) + (wrap64 (Int.tdiv (60 : Int) ((rd_T51 l0_0 t203).f1))))) > 1000000)) l0_0 a0_1)) else (none)) else (none))) = some (r1, r2, r3, r4) := by rw [if_pos rfl] at H; exact H
      clear H
      have H := H1
      clear H1
      by_cases c11 : t203 < 0
      · rw [if_pos c11] at H
        have c11b0 : decide (t203 < 0) = true := decide_eq_true c11
        clear c11
        (first | rw [c11b0] | (simp only [i64_w, i32_w]; rw [c11b0]) | skip)
        have H' := AM H
        clear H
        try go_wp2
        have n0_ := AM (kd BK201.out)
        have n1_ := AM (kd BK202.out)
        have n2_ := AM (bd HB.out)
        clear BK201 BK202 HB
        revert n0_ n1_ n2_
        intro BK201 BK202 HB
        refine start_ (n := 24) (S := fun w' => w'.cell? ⟨gb201, 0, none⟩ = some (.slice A0_0 l0_0.length c0_0) ∧ w'.cell? ⟨gb201, 1, none⟩ = some (.int .i64 a0_1)) (ds := []) (mB 24 0x0) (by kernel_rfl) rfl rfl ⟨(kc BK201.out 0).trans rfl, (kc BK201.out 1).trans rfl⟩ (fun hHeld => ?_); refine with_tabW impl_QueueTick.tab2 impl_QueueTick.bits2 (fun HT_ HW_ => ?_)
        generalize w8.drew = w12 at BK201 BK202 HB hHeld ⊢
        refine take_ (i := 0) (N := some 9) (v := ?_) (a' := ?_) (mB 24 0x1) rfl rfl (take_ofW HT_.out HW_.out (by kernel_rfl)) (fun _ _ _ h => h) (Or.inl ⟨by rfl, ?_⟩) hHeld ?_ ?_
        rotate_left
        · rintro w' ⟨s0, s1⟩; go_simp; with_reducible rfl
        rotate_left
        · simp only [Act.put, sA, sZ, sS, i64_w, i32_w]; rfl
        refine one_ (i := 1) (N := some 10) (mB 24 0x3) rfl rfl (one_of HT_.out (by kernel_rfl)) (by decide) (fun K hK => ?_)
        refine goes_ Try.func20 (by kernel_rfl) rfl #[.agg #[.slice A0_0 l0_0.length c0_0, .int .i64 a0_1]] (by rfl) rfl rfl (by (try simp only [List.map_toArray, List.map_cons, List.map_nil]); first | done | rfl | (simp only [List.length_drop, List.length_take]; rfl)) ?_
        with_reducible refine (impl_QueueOk.calls k _ _ l0_0 a0_1 true _ ?side1 ?side2 A9.out).mono ?_
        (case side1 => repeat (first | exact (Cb HR0_0.out HB.out) | (with_reducible refine Ca ?_ _) | (with_reducible refine Cn ?_ _) | (with_reducible refine Cd ?_)))
        (case side2 => exact HC0_0.out)
        rintro e w13 ⟨rfl, hb⟩
        refine ⟨_, rfl, ?_⟩
        have n0_ := AM (kb (g := gb201) (o := .cells #[.slice A0_0 l0_0.length c0_0, .int .i64 a0_1] 28 (0, 0)) (lfK BK201.out) hb)
        have n1_ := AM (kb (g := gb202) (o := .cells #[.slice none 0 0, .int .i64 0] 28 (0, 0)) (lfK BK202.out) hb)
        have n2_ := AM (bp (by repeat (first | (with_reducible first | exact HB.out | apply ba | apply bn | apply bd | refine bs ?_ GE201.out | refine bs ?_ GE202.out) | exact HB.out)) hb)
        clear BK201 BK202 HB
        revert n0_ n1_ n2_
        intro BK201 BK202 HB
        (try clear hb)
        (try clear hb2)
        (try clear hk)
        (try clear hi)
        refine hK.out _ _ ⟨(kc BK201.out 0).trans rfl, (kc BK201.out 1).trans rfl⟩ (fun hHeld => ?_)
        clear hK K
        refine norm_ (a' := ?_) ?_ ?_
        rotate_left
        · show Act.put _ (some 10) _ = _
          simp only [Act.put, sA, sZ, sS, i64_w, i32_w]
          rfl
        refine puY (v := ?_) (a' := ?_) 2 11 (mB 24 0x7) rfl rfl HT_.out (by kernel_rfl) (fun _ _ _ h => h) (by rfl) ?_ ?_ ?_; rotate_left; (focus intro w'; go_simp; with_reducible rfl); rotate_left; (focus simp only [Act.put, sA, sZ, sS, i64_w, i32_w]; rfl); refine puY (v := ?_) (a' := ?_) 3 12 (mB 24 0xf) rfl rfl HT_.out (by kernel_rfl) (fun _ _ _ h => h) (by rfl) ?_ ?_ ?_; rotate_left; (focus intro w'; go_simp; with_reducible rfl); rotate_left; (focus simp only [Act.put, sA, sZ, sS, i64_w, i32_w]; rfl); refine puY (v := ?_) (a' := ?_) 4 13 (mB 24 0x1f) rfl rfl HT_.out (by kernel_rfl) (fun _ _ _ h => h) (by rfl) ?_ ?_ ?_; rotate_left; (focus intro w'; go_simp; with_reducible rfl); rotate_left; (focus simp only [Act.put, sA, sZ, sS, i64_w, i32_w]; rfl); refine puY (v := ?_) (a' := ?_) 5 14 (mB 24 0x3f) rfl rfl HT_.out (by kernel_rfl) (fun _ _ _ h => h) (by rfl) ?_ ?_ ?_; rotate_left; (focus intro w'; go_simp; with_reducible rfl); rotate_left; (focus simp only [Act.put, sA, sZ, sS, i64_w, i32_w]; rfl); refine puY (v := ?_) (a' := ?_) 6 15 (mB 24 0x7f) rfl rfl HT_.out (by kernel_rfl) (fun _ _ _ h => h) (by rfl) ?_ ?_ ?_; rotate_left; (focus intro w'; go_simp; with_reducible rfl); rotate_left; (focus simp only [Act.put, sA, sZ, sS, i64_w, i32_w]; rfl); refine puY (v := ?_) (a' := ?_) 7 16 (mB 24 0xff) rfl rfl HT_.out (by kernel_rfl) (fun _ _ _ h => h) (by rfl) ?_ ?_ ?_; rotate_left; (focus intro w'; go_simp; with_reducible rfl); rotate_left; (focus simp only [Act.put, sA, sZ, sS, i64_w, i32_w]; rfl); refine puM 8 17 (mB 24 0x1ff) rfl rfl HT_.out (by kernel_rfl) (fun _ _ _ h => h) (by rfl) ?_; refine puM 9 18 (mB 24 0x3ff) rfl rfl HT_.out (by kernel_rfl) (fun _ _ _ h => h) (by rfl) ?_; refine puN (a' := ?_) 10 19 (mB 24 0x7ff) rfl rfl HT_.out (by kernel_rfl) (fun _ _ _ h => h) (by rfl) ?_ ?_; rotate_left; (focus simp only [Act.put, sA, sZ, sS, i64_w, i32_w]; rfl); refine puM 11 20 (mB 24 0xfff) rfl rfl HT_.out (by kernel_rfl) (fun _ _ _ h => h) (by rfl) ?_; refine puM 12 21 (mB 24 0x1fff) rfl rfl HT_.out (by kernel_rfl) (fun _ _ _ h => h) (by rfl) ?_; refine puN (a' := ?_) 13 22 (mB 24 0x3fff) rfl rfl HT_.out (by kernel_rfl) (fun _ _ _ h => h) (by rfl) ?_ ?_; rotate_left; (focus simp only [Act.put, sA, sZ, sS, i64_w, i32_w]; rfl); refine puM 14 23 (mB 24 0x7fff) rfl rfl HT_.out (by kernel_rfl) (fun _ _ _ h => h) (by rfl) ?_; refine puM 15 24 (mB 24 0xffff) rfl rfl HT_.out (by kernel_rfl) (fun _ _ _ h => h) (by rfl) ?_; refine puN (a' := ?_) 16 25 (mB 24 0x1ffff) rfl rfl HT_.out (by kernel_rfl) (fun _ _ _ h => h) (by rfl) ?_ ?_; rotate_left; (focus simp only [Act.put, sA, sZ, sS, i64_w, i32_w]; rfl); refine puM 17 26 (mB 24 0x3ffff) rfl rfl HT_.out (by kernel_rfl) (fun _ _ _ h => h) (by rfl) ?_; refine puM 18 27 (mB 24 0x7ffff) rfl rfl HT_.out (by kernel_rfl) (fun _ _ _ h => h) (by rfl) ?_; refine puN (a' := ?_) 19 28 (mB 24 0xfffff) rfl rfl HT_.out (by kernel_rfl) (fun _ _ _ h => h) (by rfl) ?_ ?_; rotate_left; (focus simp only [Act.put, sA, sZ, sS, i64_w, i32_w]; rfl); refine puM 20 29 (mB 24 0x1fffff) rfl rfl HT_.out (by kernel_rfl) (fun _ _ _ h => h) (by rfl) ?_; refine puM 21 30 (mB 24 0x3fffff) rfl rfl HT_.out (by kernel_rfl) (fun _ _ _ h => h) (by rfl) ?_; refine puN (a' := ?_) 22 31 (mB 24 0x7fffff) rfl rfl HT_.out (by kernel_rfl) (fun _ _ _ h => h) (by rfl) ?_ ?_; rotate_left; (focus simp only [Act.put, sA, sZ, sS, i64_w, i32_w]; rfl); refine puY (v := ?_) (a' := ?_) 23 32 (mB 24 0xffffff) rfl rfl HT_.out (by kernel_rfl) (fun _ _ _ h => h) (by rfl) ?_ ?_ ?_; rotate_left; (focus intro w'; go_simp; with_reducible rfl); rotate_left; (focus simp only [Act.put, sA, sZ, sS, i64_w, i32_w]; rfl)
        refine done_ (done_of HT_.out (by kernel_rfl)) ?_
        try go_wp2
        go_meet
        case rel => exact ⟨_, (true), (by first | rfl | (simp; done) | (simp [*]; done)), H', ⟨by first | omega | exact Nat.le_refl _⟩, ⟨by (with_reducible repeat (first | refine kn ?_ _ | refine kd ?_ | refine ka ?_ _)); exact BK201.out⟩, ⟨by (with_reducible repeat (first | refine kn ?_ _ | refine kd ?_ | refine ka ?_ _)); exact BK202.out⟩, ⟨by repeat (first | (with_reducible first | exact HB.out | apply ba | apply bn | apply bd | refine bs ?_ GE201.out | refine bs ?_ GE202.out) | exact HB.out)⟩⟩
      · rw [if_neg c11] at H
        have c11b0 : decide (t203 < 0) = false := decide_eq_false c11
        clear c11
        (first | rw [c11b0] | (simp only [i64_w, i32_w]; rw [c11b0]) | skip)
        by_cases c14 : 0 ≤ t203
        · rw [if_pos c14] at H
          have c14b0 : decide (0 ≤ t203) = true := decide_eq_true c14
          clear c14
          by_cases c15 : t203 < (l0_0.length : Int)
          · rw [if_pos c15] at H
            have c15b0 : decide (t203 < (l0_0.length : Int)) = true := decide_eq_true c15
            clear c15
            by_cases c16 : ((rd_T51 l0_0 t203).f1) = 0
            · rw [if_pos c16] at H
              exact absurd H (by simp)
            · rw [if_neg c16] at H
              have c16b0 : (((rd_T51 l0_0 t203).f1) == 0) = false := beq_eq_false_iff_ne.mpr c16
              have c16b1 : (((rd_T51 l0_0 t203).f1) != 0) = true := bne_iff_ne.mpr c16
              have H' := AM H
              clear H
              try go_wp2
              have n0_ := AM (kd BK201.out)
              have n1_ := AM (kd BK202.out)
              have n2_ := AM (bd HB.out)
              clear BK201 BK202 HB
              revert n0_ n1_ n2_
              intro BK201 BK202 HB
              have p205 : 0 ≤ (t203 : Int) := of_decide_eq_true (by first | (with_reducible assumption) | assumption)
              have q205 : t203 < (l0_0.length : Int) := of_decide_eq_true (by first | (with_reducible assumption) | assumption)
              obtain ⟨ad205, e205, hx205_0, hx205_1, hx205_2, hx205_3⟩ := at_T51 HR0_0.out t203 p205 q205
              have hw205_3 := hx205_3
              have hw205_2 := hx205_2
              have hw205_1 := hx205_1
              have hw205_0 := hx205_0
              cases e205
              replace hx205_0 := (HB.out.cell (World.block_lt_of_cell? w _ hx205_0)).trans hx205_0
              replace hx205_1 := (HB.out.cell (World.block_lt_of_cell? w _ hx205_1)).trans hx205_1
              replace hx205_2 := (HB.out.cell (World.block_lt_of_cell? w _ hx205_2)).trans hx205_2
              replace hx205_3 := (HB.out.cell (World.block_lt_of_cell? w _ hx205_3)).trans hx205_3
              replace p205 := eq_true p205
              replace q205 := eq_true q205
              have p206 : 0 ≤ (t203 : Int) := of_decide_eq_true (by first | (with_reducible assumption) | assumption)
              have q206 : t203 < (l0_0.length : Int) := of_decide_eq_true (by first | (with_reducible assumption) | assumption)
              obtain ⟨ad206, e206, hx206_0, hx206_1, hx206_2, hx206_3⟩ := at_T51 HR0_0.out t203 p206 q206
              have hw206_3 := hx206_3
              have hw206_2 := hx206_2
              have hw206_1 := hx206_1
              have hw206_0 := hx206_0
              obtain rfl : ad205 = ad206 := (by injection e206)
              replace hx206_0 := (HB.out.cell (World.block_lt_of_cell? w _ hx206_0)).trans hx206_0
              replace hx206_1 := (HB.out.cell (World.block_lt_of_cell? w _ hx206_1)).trans hx206_1
              replace hx206_2 := (HB.out.cell (World.block_lt_of_cell? w _ hx206_2)).trans hx206_2
              replace hx206_3 := (HB.out.cell (World.block_lt_of_cell? w _ hx206_3)).trans hx206_3
              replace p206 := eq_true p206
              replace q206 := eq_true q206
              refine start_ (n := 24) (S := fun w' => w'.cell? ⟨gb201, 0, none⟩ = some (.slice (some ad205) l0_0.length c0_0) ∧ w'.cell? ⟨gb201, 1, none⟩ = some (.int .i64 a0_1) ∧ w'.cell? (ad205.add ((t203).toNat * 4)) = some (.int .i64 ((rd_T51 l0_0 t203).f0)) ∧ w'.cell? ⟨(ad205.add ((t203).toNat * 4)).block, (ad205.add ((t203).toNat * 4)).off + 1, none⟩ = some (.int .i64 ((rd_T51 l0_0 t203).f1)) ∧ w'.cell? ⟨(ad205.add ((t203).toNat * 4)).block, (ad205.add ((t203).toNat * 4)).off + 2, none⟩ = some (.int .i64 ((rd_T51 l0_0 t203).f2)) ∧ w'.cell? ⟨(ad205.add ((t203).toNat * 4)).block, (ad205.add ((t203).toNat * 4)).off + 3, none⟩ = some (.bool ((rd_T51 l0_0 t203).f3)) ∧ w'.cell? (ad205.add ((t203).toNat * 4)) = some (.int .i64 ((rd_T51 l0_0 t203).f0)) ∧ w'.cell? ⟨(ad205.add ((t203).toNat * 4)).block, (ad205.add ((t203).toNat * 4)).off + 1, none⟩ = some (.int .i64 ((rd_T51 l0_0 t203).f1)) ∧ w'.cell? ⟨(ad205.add ((t203).toNat * 4)).block, (ad205.add ((t203).toNat * 4)).off + 2, none⟩ = some (.int .i64 ((rd_T51 l0_0 t203).f2)) ∧ w'.cell? ⟨(ad205.add ((t203).toNat * 4)).block, (ad205.add ((t203).toNat * 4)).off + 3, none⟩ = some (.bool ((rd_T51 l0_0 t203).f3))) (ds := []) (mB 24 0x0) (by kernel_rfl) rfl rfl ⟨(kc BK201.out 0).trans rfl, (kc BK201.out 1).trans rfl, ((HB.out.cell (World.block_lt_of_cell? w _ hw205_0)).trans hw205_0), ((HB.out.cell (World.block_lt_of_cell? w _ hw205_1)).trans hw205_1), ((HB.out.cell (World.block_lt_of_cell? w _ hw205_2)).trans hw205_2), ((HB.out.cell (World.block_lt_of_cell? w _ hw205_3)).trans hw205_3), ((HB.out.cell (World.block_lt_of_cell? w _ hw206_0)).trans hw206_0), ((HB.out.cell (World.block_lt_of_cell? w _ hw206_1)).trans hw206_1), ((HB.out.cell (World.block_lt_of_cell? w _ hw206_2)).trans hw206_2), ((HB.out.cell (World.block_lt_of_cell? w _ hw206_3)).trans hw206_3)⟩ (fun hHeld => ?_); refine with_tabW impl_QueueTick.tab2 impl_QueueTick.bits2 (fun HT_ HW_ => ?_)
              generalize w8.drew = w17 at BK201 BK202 HB hx205_0 hx205_1 hx205_2 hx205_3 hx206_0 hx206_1 hx206_2 hx206_3 hHeld ⊢
              refine take_ (i := 0) (N := some 9) (v := ?_) (a' := ?_) (mB 24 0x1) rfl rfl (take_ofW HT_.out HW_.out (by kernel_rfl)) (fun _ _ _ h => h) (Or.inl ⟨by rfl, ?_⟩) hHeld ?_ ?_
              rotate_left
              · rintro w' ⟨s0, s1, s2, s3, s4, s5, s6, s7, s8, s9⟩; go_simp; with_reducible rfl
              rotate_left
              · simp only [Act.put, sA, sZ, sS, i64_w, i32_w]; rfl
              refine one_ (i := 1) (N := some 10) (mB 24 0x3) rfl rfl (one_of HT_.out (by kernel_rfl)) (by decide) (fun K hK => ?_)
              refine goes_ Try.func20 (by kernel_rfl) rfl #[.agg #[.slice (some ad205) l0_0.length c0_0, .int .i64 a0_1]] (by rfl) rfl rfl (by (try simp only [List.map_toArray, List.map_cons, List.map_nil]); first | done | rfl | (simp only [List.length_drop, List.length_take]; rfl)) ?_
              with_reducible refine (impl_QueueOk.calls k _ _ l0_0 a0_1 true _ ?side1 ?side2 A9.out).mono ?_
              (case side1 => repeat (first | exact (Cb HR0_0.out HB.out) | (with_reducible refine Ca ?_ _) | (with_reducible refine Cn ?_ _) | (with_reducible refine Cd ?_)))
              (case side2 => exact HC0_0.out)
              rintro e w18 ⟨rfl, hb⟩
              refine ⟨_, rfl, ?_⟩
              have n0_ := AM (kb (g := gb201) (o := .cells #[.slice (some ad205) l0_0.length c0_0, .int .i64 a0_1] 28 (0, 0)) (lfK BK201.out) hb)
              have n1_ := AM (kb (g := gb202) (o := .cells #[.slice none 0 0, .int .i64 0] 28 (0, 0)) (lfK BK202.out) hb)
              have n2_ := AM (bp (by repeat (first | (with_reducible first | exact HB.out | apply ba | apply bn | apply bd | refine bs ?_ GE201.out | refine bs ?_ GE202.out) | exact HB.out)) hb)
              clear BK201 BK202 HB
              revert n0_ n1_ n2_
              intro BK201 BK202 HB
              (try clear hb)
              (try clear hb2)
              (try clear hk)
              (try clear hi)
              refine hK.out _ _ ⟨(kc BK201.out 0).trans rfl, (kc BK201.out 1).trans rfl, ((HB.out.cell (World.block_lt_of_cell? w _ hw205_0)).trans hw205_0), ((HB.out.cell (World.block_lt_of_cell? w _ hw205_1)).trans hw205_1), ((HB.out.cell (World.block_lt_of_cell? w _ hw205_2)).trans hw205_2), ((HB.out.cell (World.block_lt_of_cell? w _ hw205_3)).trans hw205_3), ((HB.out.cell (World.block_lt_of_cell? w _ hw206_0)).trans hw206_0), ((HB.out.cell (World.block_lt_of_cell? w _ hw206_1)).trans hw206_1), ((HB.out.cell (World.block_lt_of_cell? w _ hw206_2)).trans hw206_2), ((HB.out.cell (World.block_lt_of_cell? w _ hw206_3)).trans hw206_3)⟩ (fun hHeld => ?_)
              clear hK K
              refine norm_ (a' := ?_) ?_ ?_
              rotate_left
              · show Act.put _ (some 10) _ = _
                simp only [Act.put, sA, sZ, sS, i64_w, i32_w]
                rfl
              refine puY (v := ?_) (a' := ?_) 2 11 (mB 24 0x7) rfl rfl HT_.out (by kernel_rfl) (fun _ _ _ h => h) (by rfl) ?_ ?_ ?_; rotate_left; (focus intro w'; go_simp; with_reducible rfl); rotate_left; (focus simp only [Act.put, sA, sZ, sS, i64_w, i32_w]; rfl); refine puY (v := ?_) (a' := ?_) 3 12 (mB 24 0xf) rfl rfl HT_.out (by kernel_rfl) (fun _ _ _ h => h) (by rfl) ?_ ?_ ?_; rotate_left; (focus intro w'; go_simp; with_reducible rfl); rotate_left; (focus simp only [Act.put, sA, sZ, sS, i64_w, i32_w]; rfl); refine puY (v := ?_) (a' := ?_) 4 13 (mB 24 0x1f) rfl rfl HT_.out (by kernel_rfl) (fun _ _ _ h => h) (by rfl) ?_ ?_ ?_; rotate_left; (focus intro w'; go_simp; with_reducible rfl); rotate_left; (focus simp only [Act.put, sA, sZ, sS, i64_w, i32_w]; rfl); refine puY (v := ?_) (a' := ?_) 5 14 (mB 24 0x3f) rfl rfl HT_.out (by kernel_rfl) (fun _ _ _ h => h) (by rfl) ?_ ?_ ?_; rotate_left; (focus intro w'; go_simp; with_reducible rfl); rotate_left; (focus simp only [Act.put, sA, sZ, sS, i64_w, i32_w]; rfl); refine puY (v := ?_) (a' := ?_) 6 15 (mB 24 0x7f) rfl rfl HT_.out (by kernel_rfl) (fun _ _ _ h => h) (by rfl) ?_ ?_ ?_; rotate_left; (focus intro w'; go_simp; with_reducible rfl); rotate_left; (focus simp only [Act.put, sA, sZ, sS, i64_w, i32_w]; rfl); refine puY (v := ?_) (a' := ?_) 7 16 (mB 24 0xff) rfl rfl HT_.out (by kernel_rfl) (fun _ _ _ h => h) (by rfl) ?_ ?_ ?_; rotate_left; (focus intro w'; go_simp; with_reducible rfl); rotate_left; (focus simp only [Act.put, sA, sZ, sS, i64_w, i32_w]; rfl); refine puY (v := ?_) (a' := ?_) 8 17 (mB 24 0x1ff) rfl rfl HT_.out (by kernel_rfl) (fun _ _ _ h => h) (by rfl) ?_ ?_ ?_; rotate_left; (focus intro w'; go_simp; with_reducible rfl); rotate_left; (focus simp only [Act.put, sA, sZ, sS, i64_w, i32_w]; rfl); refine puY (v := ?_) (a' := ?_) 10 19 (mB 24 0x5ff) rfl rfl HT_.out (by kernel_rfl) (fun _ _ _ h => h) (by rfl) ?_ ?_ ?_; rotate_left; (focus intro w'; go_simp; with_reducible rfl); rotate_left; (focus simp only [Act.put, sA, sZ, sS, i64_w, i32_w]; rfl); refine puY (v := ?_) (a' := ?_) 14 23 (mB 24 0x45ff) rfl rfl HT_.out (by kernel_rfl) (fun _ _ _ h => h) (by rfl) ?_ ?_ ?_; rotate_left; (focus intro w'; go_simp; with_reducible rfl); rotate_left; (focus simp only [Act.put, sA, sZ, sS, i64_w, i32_w]; rfl); refine puY (v := ?_) (a' := ?_) 16 25 (mB 24 0x145ff) rfl rfl HT_.out (by kernel_rfl) (fun _ _ _ h => h) (by rfl) ?_ ?_ ?_; rotate_left; (focus intro w'; go_simp; with_reducible rfl); rotate_left; (focus simp only [Act.put, sA, sZ, sS, i64_w, i32_w]; rfl)
              refine take_ (i := 9) (N := some 18) (v := ?_) (a' := ?_) (mB 24 0x147ff) rfl rfl (take_ofW HT_.out HW_.out (by kernel_rfl)) (fun _ _ _ h => h) (Or.inl ⟨by rfl, ?_⟩) hHeld ?_ ?_
              rotate_left
              · rintro w' ⟨s0, s1, s2, s3, s4, s5, s6, s7, s8, s9⟩; go_simp; with_reducible rfl
              rotate_left
              · simp only [Act.put, sA, sZ, sS, i64_w, i32_w]; rfl
              refine puY (v := ?_) (a' := ?_) 11 20 (mB 24 0x14fff) rfl rfl HT_.out (by kernel_rfl) (fun _ _ _ h => h) (by rfl) ?_ ?_ ?_; rotate_left; (focus intro w'; go_simp; with_reducible rfl); rotate_left; (focus simp only [Act.put, sA, sZ, sS, i64_w, i32_w]; rfl); refine puY (v := ?_) (a' := ?_) 12 21 (mB 24 0x15fff) rfl rfl HT_.out (by kernel_rfl) (fun _ _ _ h => h) (by rfl) ?_ ?_ ?_; rotate_left; (focus intro w'; go_simp; with_reducible rfl); rotate_left; (focus simp only [Act.put, sA, sZ, sS, i64_w, i32_w]; rfl)
              refine take_ (i := 13) (N := some 22) (v := ?_) (a' := ?_) (mB 24 0x17fff) rfl rfl (take_ofW HT_.out HW_.out (by kernel_rfl)) (fun _ _ _ h => h) (Or.inl ⟨by rfl, ?_⟩) hHeld ?_ ?_
              rotate_left
              · rintro w' ⟨s0, s1, s2, s3, s4, s5, s6, s7, s8, s9⟩; go_simp; with_reducible rfl
              rotate_left
              · simp only [Act.put, sA, sZ, sS, i64_w, i32_w]; rfl
              refine take_ (i := 15) (N := some 24) (v := ?_) (a' := ?_) (mB 24 0x1ffff) rfl rfl (take_ofW HT_.out HW_.out (by kernel_rfl)) (fun _ _ _ h => h) (Or.inl ⟨by rfl, ?_⟩) hHeld ?_ ?_
              rotate_left
              · rintro w' ⟨s0, s1, s2, s3, s4, s5, s6, s7, s8, s9⟩; go_simp; with_reducible rfl
              rotate_left
              · simp only [Act.put, sA, sZ, sS, i64_w, i32_w]; rfl
              refine puY (v := ?_) (a' := ?_) 17 26 (mB 24 0x3ffff) rfl rfl HT_.out (by kernel_rfl) (fun _ _ _ h => h) (by rfl) ?_ ?_ ?_; rotate_left; (focus intro w'; go_simp; with_reducible rfl); rotate_left; (focus simp only [Act.put, sA, sZ, sS, i64_w, i32_w]; rfl); refine puY (v := ?_) (a' := ?_) 18 27 (mB 24 0x7ffff) rfl rfl HT_.out (by kernel_rfl) (fun _ _ _ h => h) (by rfl) ?_ ?_ ?_; rotate_left; (focus intro w'; go_simp; with_reducible rfl); rotate_left; (focus simp only [Act.put, sA, sZ, sS, i64_w, i32_w]; rfl)
              refine take_ (i := 19) (N := some 28) (v := ?_) (a' := ?_) (mB 24 0xfffff) rfl rfl (take_ofW HT_.out HW_.out (by kernel_rfl)) (fun _ _ _ h => h) (Or.inl ⟨by rfl, ?_⟩) hHeld ?_ ?_
              rotate_left
              · rintro w' ⟨s0, s1, s2, s3, s4, s5, s6, s7, s8, s9⟩; go_simp; with_reducible rfl
              rotate_left
              · simp only [Act.put, sA, sZ, sS, i64_w, i32_w]; rfl
              refine puY (v := ?_) (a' := ?_) 20 29 (mB 24 0x1fffff) rfl rfl HT_.out (by kernel_rfl) (fun _ _ _ h => h) (by rfl) ?_ ?_ ?_; rotate_left; (focus intro w'; go_simp; with_reducible rfl); rotate_left; (focus simp only [Act.put, sA, sZ, sS, i64_w, i32_w]; rfl); refine puY (v := ?_) (a' := ?_) 21 30 (mB 24 0x3fffff) rfl rfl HT_.out (by kernel_rfl) (fun _ _ _ h => h) (by rfl) ?_ ?_ ?_; rotate_left; (focus intro w'; go_simp; with_reducible rfl); rotate_left; (focus simp only [Act.put, sA, sZ, sS, i64_w, i32_w]; rfl); refine puY (v := ?_) (a' := ?_) 22 31 (mB 24 0x7fffff) rfl rfl HT_.out (by kernel_rfl) (fun _ _ _ h => h) (by rfl) ?_ ?_ ?_; rotate_left; (focus intro w'; go_simp; with_reducible rfl); rotate_left; (focus simp only [Act.put, sA, sZ, sS, i64_w, i32_w]; rfl); refine puY (v := ?_) (a' := ?_) 23 32 (mB 24 0xffffff) rfl rfl HT_.out (by kernel_rfl) (fun _ _ _ h => h) (by rfl) ?_ ?_ ?_; rotate_left; (focus intro w'; go_simp; with_reducible rfl); rotate_left; (focus simp only [Act.put, sA, sZ, sS, i64_w, i32_w]; rfl)
              refine done_ (done_of HT_.out (by kernel_rfl)) ?_
              try go_wp2
              go_meet
              case rel => exact ⟨_, (decide ((wrap64 (((rd_T51 l0_0 t203).f2) + (wrap64 (Int.tdiv (60 : Int) ((rd_T51 l0_0 t203).f1))))) > 1000000)), (by first | rfl | (simp; done) | (simp [*]; done)), H', ⟨by first | omega | exact Nat.le_refl _⟩, ⟨by (with_reducible repeat (first | refine kn ?_ _ | refine kd ?_ | refine ka ?_ _)); exact BK201.out⟩, ⟨by (with_reducible repeat (first | refine kn ?_ _ | refine kd ?_ | refine ka ?_ _)); exact BK202.out⟩, ⟨by repeat (first | (with_reducible first | exact HB.out | apply ba | apply bn | apply bd | refine bs ?_ GE201.out | refine bs ?_ GE202.out) | exact HB.out)⟩⟩
          · rw [if_neg c15] at H
            exact absurd H (by simp)
        · rw [if_neg c14] at H
          exact absurd H (by simp)
    · replace c10 := Bool.eq_false_iff.mpr c10
      subst c10
      have H1 : (impl_QueueTick.j0 k t203 true l0_0 a0_1) = some (r1, r2, r3, r4) := by rw [if_neg (show ¬ (false = true) by decide)] at H; exact H
      clear H
      have H := H1
      clear H1
      have H' := AM H
      clear H
      try go_wp2
      have n0_ := AM (kd BK201.out)
      have n1_ := AM (kd BK202.out)
      have n2_ := AM (bd HB.out)
      clear BK201 BK202 HB
      revert n0_ n1_ n2_
      intro BK201 BK202 HB
      refine start_ (n := 24) (S := fun w' => w'.cell? ⟨gb201, 0, none⟩ = some (.slice A0_0 l0_0.length c0_0) ∧ w'.cell? ⟨gb201, 1, none⟩ = some (.int .i64 a0_1)) (ds := []) (mB 24 0x0) (by kernel_rfl) rfl rfl ⟨(kc BK201.out 0).trans rfl, (kc BK201.out 1).trans rfl⟩ (fun hHeld => ?_); refine with_tabW impl_QueueTick.tab2 impl_QueueTick.bits2 (fun HT_ HW_ => ?_)
      generalize w8.drew = w19 at BK201 BK202 HB hHeld ⊢
      refine take_ (i := 0) (N := some 9) (v := ?_) (a' := ?_) (mB 24 0x1) rfl rfl (take_ofW HT_.out HW_.out (by kernel_rfl)) (fun _ _ _ h => h) (Or.inl ⟨by rfl, ?_⟩) hHeld ?_ ?_
      rotate_left
      · rintro w' ⟨s0, s1⟩; go_simp; with_reducible rfl
      rotate_left
      · simp only [Act.put, sA, sZ, sS, i64_w, i32_w]; rfl
      refine one_ (i := 1) (N := some 10) (mB 24 0x3) rfl rfl (one_of HT_.out (by kernel_rfl)) (by decide) (fun K hK => ?_)
      refine goes_ Try.func20 (by kernel_rfl) rfl #[.agg #[.slice A0_0 l0_0.length c0_0, .int .i64 a0_1]] (by rfl) rfl rfl (by (try simp only [List.map_toArray, List.map_cons, List.map_nil]); first | done | rfl | (simp only [List.length_drop, List.length_take]; rfl)) ?_
      with_reducible refine (impl_QueueOk.calls k _ _ l0_0 a0_1 false _ ?side1 ?side2 A9.out).mono ?_
      (case side1 => repeat (first | exact (Cb HR0_0.out HB.out) | (with_reducible refine Ca ?_ _) | (with_reducible refine Cn ?_ _) | (with_reducible refine Cd ?_)))
      (case side2 => exact HC0_0.out)
      rintro e w20 ⟨rfl, hb⟩
      refine ⟨_, rfl, ?_⟩
      have n0_ := AM (kb (g := gb201) (o := .cells #[.slice A0_0 l0_0.length c0_0, .int .i64 a0_1] 28 (0, 0)) (lfK BK201.out) hb)
      have n1_ := AM (kb (g := gb202) (o := .cells #[.slice none 0 0, .int .i64 0] 28 (0, 0)) (lfK BK202.out) hb)
      have n2_ := AM (bp (by repeat (first | (with_reducible first | exact HB.out | apply ba | apply bn | apply bd | refine bs ?_ GE201.out | refine bs ?_ GE202.out) | exact HB.out)) hb)
      clear BK201 BK202 HB
      revert n0_ n1_ n2_
      intro BK201 BK202 HB
      (try clear hb)
      (try clear hb2)
      (try clear hk)
      (try clear hi)
      refine hK.out _ _ ⟨(kc BK201.out 0).trans rfl, (kc BK201.out 1).trans rfl⟩ (fun hHeld => ?_)
      clear hK K
      refine norm_ (a' := ?_) ?_ ?_
      rotate_left
      · show Act.put _ (some 10) _ = _
        simp only [Act.put, sA, sZ, sS, i64_w, i32_w]
        rfl
      refine puY (v := ?_) (a' := ?_) 2 11 (mB 24 0x7) rfl rfl HT_.out (by kernel_rfl) (fun _ _ _ h => h) (by rfl) ?_ ?_ ?_; rotate_left; (focus intro w'; go_simp; with_reducible rfl); rotate_left; (focus simp only [Act.put, sA, sZ, sS, i64_w, i32_w]; rfl); refine puY (v := ?_) (a' := ?_) 3 12 (mB 24 0xf) rfl rfl HT_.out (by kernel_rfl) (fun _ _ _ h => h) (by rfl) ?_ ?_ ?_; rotate_left; (focus intro w'; go_simp; with_reducible rfl); rotate_left; (focus simp only [Act.put, sA, sZ, sS, i64_w, i32_w]; rfl); refine puM 4 13 (mB 24 0x1f) rfl rfl HT_.out (by kernel_rfl) (fun _ _ _ h => h) (by rfl) ?_; refine puN (a' := ?_) 5 14 (mB 24 0x3f) rfl rfl HT_.out (by kernel_rfl) (fun _ _ _ h => h) (by rfl) ?_ ?_; rotate_left; (focus simp only [Act.put, sA, sZ, sS, i64_w, i32_w]; rfl); refine puY (v := ?_) (a' := ?_) 6 15 (mB 24 0x7f) rfl rfl HT_.out (by kernel_rfl) (fun _ _ _ h => h) (by rfl) ?_ ?_ ?_; rotate_left; (focus intro w'; go_simp; with_reducible rfl); rotate_left; (focus simp only [Act.put, sA, sZ, sS, i64_w, i32_w]; rfl); refine puY (v := ?_) (a' := ?_) 7 16 (mB 24 0xff) rfl rfl HT_.out (by kernel_rfl) (fun _ _ _ h => h) (by rfl) ?_ ?_ ?_; rotate_left; (focus intro w'; go_simp; with_reducible rfl); rotate_left; (focus simp only [Act.put, sA, sZ, sS, i64_w, i32_w]; rfl); refine puM 8 17 (mB 24 0x1ff) rfl rfl HT_.out (by kernel_rfl) (fun _ _ _ h => h) (by rfl) ?_; refine puM 9 18 (mB 24 0x3ff) rfl rfl HT_.out (by kernel_rfl) (fun _ _ _ h => h) (by rfl) ?_; refine puN (a' := ?_) 10 19 (mB 24 0x7ff) rfl rfl HT_.out (by kernel_rfl) (fun _ _ _ h => h) (by rfl) ?_ ?_; rotate_left; (focus simp only [Act.put, sA, sZ, sS, i64_w, i32_w]; rfl); refine puM 11 20 (mB 24 0xfff) rfl rfl HT_.out (by kernel_rfl) (fun _ _ _ h => h) (by rfl) ?_; refine puM 12 21 (mB 24 0x1fff) rfl rfl HT_.out (by kernel_rfl) (fun _ _ _ h => h) (by rfl) ?_; refine puN (a' := ?_) 13 22 (mB 24 0x3fff) rfl rfl HT_.out (by kernel_rfl) (fun _ _ _ h => h) (by rfl) ?_ ?_; rotate_left; (focus simp only [Act.put, sA, sZ, sS, i64_w, i32_w]; rfl); refine puM 14 23 (mB 24 0x7fff) rfl rfl HT_.out (by kernel_rfl) (fun _ _ _ h => h) (by rfl) ?_; refine puM 15 24 (mB 24 0xffff) rfl rfl HT_.out (by kernel_rfl) (fun _ _ _ h => h) (by rfl) ?_; refine puN (a' := ?_) 16 25 (mB 24 0x1ffff) rfl rfl HT_.out (by kernel_rfl) (fun _ _ _ h => h) (by rfl) ?_ ?_; rotate_left; (focus simp only [Act.put, sA, sZ, sS, i64_w, i32_w]; rfl); refine puM 17 26 (mB 24 0x3ffff) rfl rfl HT_.out (by kernel_rfl) (fun _ _ _ h => h) (by rfl) ?_; refine puM 18 27 (mB 24 0x7ffff) rfl rfl HT_.out (by kernel_rfl) (fun _ _ _ h => h) (by rfl) ?_; refine puN (a' := ?_) 19 28 (mB 24 0xfffff) rfl rfl HT_.out (by kernel_rfl) (fun _ _ _ h => h) (by rfl) ?_ ?_; rotate_left; (focus simp only [Act.put, sA, sZ, sS, i64_w, i32_w]; rfl); refine puM 20 29 (mB 24 0x1fffff) rfl rfl HT_.out (by kernel_rfl) (fun _ _ _ h => h) (by rfl) ?_; refine puM 21 30 (mB 24 0x3fffff) rfl rfl HT_.out (by kernel_rfl) (fun _ _ _ h => h) (by rfl) ?_; refine puN (a' := ?_) 22 31 (mB 24 0x7fffff) rfl rfl HT_.out (by kernel_rfl) (fun _ _ _ h => h) (by rfl) ?_ ?_; rotate_left; (focus simp only [Act.put, sA, sZ, sS, i64_w, i32_w]; rfl); refine puY (v := ?_) (a' := ?_) 23 32 (mB 24 0xffffff) rfl rfl HT_.out (by kernel_rfl) (fun _ _ _ h => h) (by rfl) ?_ ?_ ?_; rotate_left; (focus intro w'; go_simp; with_reducible rfl); rotate_left; (focus simp only [Act.put, sA, sZ, sS, i64_w, i32_w]; rfl)
      refine done_ (done_of HT_.out (by kernel_rfl)) ?_
      try go_wp2
      go_meet
      case rel => exact ⟨_, (true), (by first | rfl | (simp; done) | (simp [*]; done)), H', ⟨by first | omega | exact Nat.le_refl _⟩, ⟨by (with_reducible repeat (first | refine kn ?_ _ | refine kd ?_ | refine ka ?_ _)); exact BK201.out⟩, ⟨by (with_reducible repeat (first | refine kn ?_ _ | refine kd ?_ | refine ka ?_ _)); exact BK202.out⟩, ⟨by repeat (first | (with_reducible first | exact HB.out | apply ba | apply bn | apply bd | refine bs ?_ GE201.out | refine bs ?_ GE202.out) | exact HB.out)⟩⟩
  case rest =>
    clear HC3
    obtain ⟨kq, x32_2, rfl, HA, HJ2, BK201, BK202, HB⟩ := hcut
    cases kq with
    | zero => exact absurd HA.out (by simp [impl_QueueTick.j0])
    | succ kj2 =>
      have H := HA.out
      clear HA
      simp only [impl_QueueTick.j0] at H
      by_cases c21 : x32_2 = true
      · subst c21
        have H1 : (some (([] : List (S51)), 0, (-1), false)) = some (r1, r2, r3, r4) := by rw [if_pos rfl] at H; exact H
        clear H
        have H := H1
        clear H1
        simp only [Option.some.injEq, Prod.mk.injEq] at H
        obtain ⟨rfl, rfl, rfl, rfl⟩ := H
        have hnb22 := NB202_201.out
        have hnc22 := NB201_202.out
        have hcz23_0 : wc.cell? ⟨gb202, 0, none⟩ = some (.slice none 0 0) := (kc BK202.out 0).trans rfl
        have hcz23_1 : wc.cell? ⟨gb202, 1, none⟩ = some (.int .i64 0) := (kc BK202.out 1).trans rfl
        have hfz23_0 := kz BK202.out 0
        have hfz23_1 := kz BK202.out 1
        go_wp2
        refine bodyPost_ret (results_ctt rfl _ _ gb202 28 #[.slice none 0 0, .int .i64 0] (0, 0) _ rfl (by (with_reducible repeat (first | refine kn ?_ _ | refine kd ?_ | refine ka ?_ _)); refine blk_put (cs := #[.slice none 0 0, .int .i64 0]) ?_ 1 _ rfl; (with_reducible repeat (first | refine kn ?_ _ | refine kd ?_ | refine ka ?_ _)); refine blk_put (cs := #[.slice none 0 0, .int .i64 0]) ?_ 0 _ rfl; (with_reducible repeat (first | refine kn ?_ _ | refine kd ?_ | refine ka ?_ _)); exact BK202.out) Try.underlying28 rfl (by kernel_rfl)) rfl ?_
        exact ⟨_, by first | rfl | (simp [errW_none, errW_some] <;> rfl) | (simp [*, errW_none, errW_some] <;> rfl), by first | exact Kd.R_nil _ _ _ _ _ | exact Kd.N_nil _ _ _ _ _ | exact Kd.V_nil _ _ _ _ _ | exact Kd.Q_nil _ _ _ _ _ | exact Kd.S_nil _ _ _ _ _, by repeat (first | (with_reducible first | exact HB.out | apply ba | apply bn | apply bd | refine bs ?_ GE201.out | refine bs ?_ GE202.out) | exact HB.out)⟩
      · replace c21 := Bool.eq_false_iff.mpr c21
        subst c21
        have H1 : ((impl_Queue_clone.f l0_0 a0_1).bind fun bt207 => (if 0 ≤ t203 then (if t203 < (bt207.1.length : Int) then (if ((rd_T51 bt207.1 t203).f1) = 0 then (none) else ((some (bt207.1.set (t203 : Int).toNat (⟨(rd_T51 bt207.1 t203).f0, (rd_T51 bt207.1 t203).f1, wrap64 (((rd_T51 bt207.1 t203).f2) + (wrap64 (Int.tdiv (60 : Int) ((rd_T51 bt207.1 t203).f1)))), (rd_T51 bt207.1 t203).f3⟩ : S51) : List (S51))).bind fun y214 => ((impl_Queue_next.f kj2 y214 bt207.2).bind fun t215 => (if 0 ≤ t215 then (if t215 < (bt207.1.length : Int) then (some (y214, mx bt207.2 ((rd_T51 y214 t215).f2), (rd_T51 y214 t203).f0, true)) else (none)) else (none))))) else (none)) else (none))) = some (r1, r2, r3, r4) := by rw [if_neg (show ¬ (false = true) by decide)] at H; exact H
        clear H
        have H := H1
        clear H1
        replace H := Option.bind_eq_some_iff.mp H
        obtain ⟨⟨t207, t210⟩, A240, H⟩ := H
        replace H : (if 0 ≤ t203 then (if t203 < (t207.length : Int) then (if ((rd_T51 t207 t203).f1) = 0 then (none) else ((some (t207.set (t203 : Int).toNat (⟨(rd_T51 t207 t203).f0, (rd_T51 t207 t203).f1, wrap64 (((rd_T51 t207 t203).f2) + (wrap64 (Int.tdiv (60 : Int) ((rd_T51 t207 t203).f1)))), (rd_T51 t207 t203).f3⟩ : S51) : List (S51))).bind fun y214 => ((impl_Queue_next.f kj2 y214 t210).bind fun t215 => (if 0 ≤ t215 then (if t215 < (t207.length : Int) then (some (y214, mx t210 ((rd_T51 y214 t215).f2), (rd_T51 y214 t203).f0, true)) else (none)) else (none))))) else (none)) else (none)) = some (r1, r2, r3, r4) := H
        have A24 := AM A240
        clear A240
        by_cases c25 : 0 ≤ t203
        · rw [if_pos c25] at H
          have c25b0 : decide (0 ≤ t203) = true := decide_eq_true c25
          clear c25
          by_cases c26 : t203 < (t207.length : Int)
          · rw [if_pos c26] at H
            have c26b0 : decide (t203 < (t207.length : Int)) = true := decide_eq_true c26
            clear c26
            by_cases c27 : ((rd_T51 t207 t203).f1) = 0
            · rw [if_pos c27] at H
              exact absurd H (by simp)
            · rw [if_neg c27] at H
              have c27b0 : (((rd_T51 t207 t203).f1) == 0) = false := beq_eq_false_iff_ne.mpr c27
              have c27b1 : (((rd_T51 t207 t203).f1) != 0) = true := bne_iff_ne.mpr c27
              obtain ⟨y214, hy214⟩ : ∃ y_ : List (S51), y_ = (t207.set (t203 : Int).toNat (⟨(rd_T51 t207 t203).f0, (rd_T51 t207 t203).f1, wrap64 (((rd_T51 t207 t203).f2) + (wrap64 (Int.tdiv (60 : Int) ((rd_T51 t207 t203).f1)))), (rd_T51 t207 t203).f3⟩ : S51)) := ⟨_, rfl⟩
              replace H : ((impl_Queue_next.f kj2 y214 t210).bind fun t215 => (if 0 ≤ t215 then (if t215 < (t207.length : Int) then (some (y214, mx t210 ((rd_T51 y214 t215).f2), (rd_T51 y214 t203).f0, true)) else (none)) else (none))) = some (r1, r2, r3, r4) := by first | (rw [hy214]; with_reducible exact H) | (have H2_ := (Option.bind_some _ _).symm.trans H; rw [hy214]; with_reducible exact H2_) | (have H2_ := (Option.bind_some _ _).symm.trans H; with_reducible exact H2_) | with_reducible exact H | (rw [hy214]; exact H) | exact H
              have Ny214 := AM hy214
              clear hy214
              replace H := Option.bind_eq_some_iff.mp H
              obtain ⟨t215, A290, H⟩ := H
              replace H : (if 0 ≤ t215 then (if t215 < (t207.length : Int) then (some (y214, mx t210 ((rd_T51 y214 t215).f2), (rd_T51 y214 t203).f0, true)) else (none)) else (none)) = some (r1, r2, r3, r4) := H
              have A29 := AM A290
              clear A290
              by_cases c30 : 0 ≤ t215
              · rw [if_pos c30] at H
                have c30b0 : decide (0 ≤ t215) = true := decide_eq_true c30
                clear c30
                by_cases c31 : t215 < (t207.length : Int)
                · rw [if_pos c31] at H
                  have c31b0 : decide (t215 < (t207.length : Int)) = true := decide_eq_true c31
                  clear c31
                  obtain ⟨ji32, hji32⟩ : ∃ j_ : Int, (mx t210 ((rd_T51 y214 t215).f2)) = j_ := ⟨_, rfl⟩
                  replace H : (some (y214, ji32, (rd_T51 y214 t203).f0, true)) = some (r1, r2, r3, r4) := by first | (rw [hji32] at H; exact H) | (simp only [hji32] at H ⊢; exact H)
                  (try rw [hji32] at A24)
                  (try rw [hji32] at A29)
                  have hji32_ : (if t210 < ((rd_T51 y214 t215).f2) then ((rd_T51 y214 t215).f2) else t210) = ji32 := hji32
                  simp only [Option.some.injEq, Prod.mk.injEq] at H
                  obtain ⟨rfl, rfl, rfl, rfl⟩ := H
                  have hnb33 := NB201_202.out
                  have hnc33 := NB202_201.out
                  have hcz34_0 : wc.cell? ⟨gb201, 0, none⟩ = some (.slice A0_0 l0_0.length c0_0) := (kc BK201.out 0).trans rfl
                  have hcz34_1 : wc.cell? ⟨gb201, 1, none⟩ = some (.int .i64 a0_1) := (kc BK201.out 1).trans rfl
                  have hfz34_0 := kz BK201.out 0
                  have hfz34_1 := kz BK201.out 1
                  try go_wp2_with (first | ((with_reducible refine gc (f := 22) rfl ?_); refine goesL_ (some 35) rfl rfl Try.func22 (by kernel_rfl) rfl #[.agg #[.slice A0_0 l0_0.length c0_0, .int .i64 a0_1]] rfl (by (try simp only [List.map_toArray, List.map_cons, List.map_nil]); first | done | rfl | (simp only [List.length_drop, List.length_take]; rfl)) ?_; (with_reducible refine (impl_Queue_clone.calls _ _ l0_0 a0_1 t207 t210 _ ?side1 ?side2 A24.out).mono ?_); (case side1 => repeat (first | exact (Cb HR0_0.out HB.out) | (with_reducible refine Ca ?_ _) | (with_reducible refine Cn ?_ _) | (with_reducible refine Cd ?_))); (case side2 => exact HC0_0.out); rintro e w35 ⟨v208, rfl, ho0, hb⟩; refine ⟨_, rfl, ?_⟩; have n0_ := AM (Rl ho0 (bz (by repeat (first | (with_reducible first | exact HB.out | apply ba | apply bn | apply bd | refine bs ?_ GE201.out | refine bs ?_ GE202.out) | exact HB.out)))); have n1_ := AM (kb (g := gb201) (o := .cells #[.slice A0_0 l0_0.length c0_0, .int .i64 a0_1] 28 (0, 0)) (lfK BK201.out) hb); have n2_ := AM (kb (g := gb202) (o := .cells #[.slice none 0 0, .int .i64 0] 28 (0, 0)) (lfK BK202.out) hb); have n3_ := AM (bp (by repeat (first | (with_reducible first | exact HB.out | apply ba | apply bn | apply bd | refine bs ?_ GE201.out | refine bs ?_ GE202.out) | exact HB.out)) hb); clear BK201 BK202 HB; revert n0_ n1_ n2_ n3_; intro HO209 BK201 BK202 HB; (try clear hb ho0)) | ((with_reducible refine gd (N := 6) rfl ?_); refine xe ?hg (N := 6) ?hd (cs := #[.slice none 0 0, .int .i64 0]) (t := 28) ?hr ?_; (case hd => rfl); (case hg => rfl); (case hr => first | (go_simp; done) | (go_simp; rfl)); intro gb211 hg w36 hbox hb; have n0_ := AM (Rb (lfR HO209.out) hb); have n1_ := AM (kb (g := gb201) (o := .cells #[.slice A0_0 l0_0.length c0_0, .int .i64 a0_1] 28 (0, 0)) (lfK BK201.out) hb); have n2_ := AM (kb (g := gb202) (o := .cells #[.slice none 0 0, .int .i64 0] 28 (0, 0)) (lfK BK202.out) hb); have n3_ := AM (bp (by repeat (first | (with_reducible first | exact HB.out | apply ba | apply bn | apply bd | refine bs ?_ GE201.out | refine bs ?_ GE202.out) | exact HB.out)) hb); have n4_ := AM (hbox); have n5_ := AM ((by rw [hg]; exact (bz (by repeat (first | (with_reducible first | exact HB.out | apply ba | apply bn | apply bd | refine bs ?_ GE201.out | refine bs ?_ GE202.out) | exact HB.out))) : w.heap.size ≤ gb211)); have n6_ := AM ((by rw [hg]; exact (bz (by repeat (first | (with_reducible first | exact HB.out | apply ba | apply bn | apply bd | refine bs ?_ GE201.out | refine bs ?_ GE202.out) | exact HB.out))) : w.heap.size ≤ gb211)); have n7_ := AM ((by rw [hg]; exact Nat.ne_of_lt (blk_lt (g := gb201) (o := .cells #[.slice A0_0 l0_0.length c0_0, .int .i64 a0_1] 28 (0, 0)) (lfK BK201.out)) : gb201 ≠ gb211)); have n8_ := AM ((by rw [hg]; exact Nat.ne_of_gt (blk_lt (g := gb201) (o := .cells #[.slice A0_0 l0_0.length c0_0, .int .i64 a0_1] 28 (0, 0)) (lfK BK201.out)) : gb211 ≠ gb201)); have n9_ := AM ((by rw [hg]; exact Nat.ne_of_lt (blk_lt (g := gb202) (o := .cells #[.slice none 0 0, .int .i64 0] 28 (0, 0)) (lfK BK202.out)) : gb202 ≠ gb211)); have n10_ := AM ((by rw [hg]; exact Nat.ne_of_gt (blk_lt (g := gb202) (o := .cells #[.slice none 0 0, .int .i64 0] 28 (0, 0)) (lfK BK202.out)) : gb211 ≠ gb202)); clear HO209 BK201 BK202 HB; revert n0_ n1_ n2_ n3_ n4_ n5_ n6_ n7_ n8_ n9_ n10_; intro HO209 BK201 BK202 HB BK211 GW211 GE211 NB201_211 NB211_201 NB202_211 NB211_202; clear hb hbox hg; obtain ⟨Ao37, co37, eo37⟩ := Ri HO209.out; subst eo37; have hnb38 := NB211_201.out; have hnc38 := NB201_211.out; have hnb39 := NB211_202.out; have hnc39 := NB202_211.out; have hcz40_0 : w36.cell? ⟨gb211, 0, none⟩ = some (.slice none 0 0) := (kc BK211.out 0).trans rfl; have hcz40_1 : w36.cell? ⟨gb211, 1, none⟩ = some (.int .i64 0) := (kc BK211.out 1).trans rfl; have hfz40_0 := kz BK211.out 0; have hfz40_1 := kz BK211.out 1))
                  have n0_ : Aside0 (Kd.R k51 51 ((w36.setCell ⟨gb211, 0, none⟩ (.slice Ao37 t207.length co37)).setCell ⟨gb211, 1, none⟩ (.int .i64 t210)) w.heap.size (fun _ => True) (.slice Ao37 t207.length co37) t207) := ⟨by (with_reducible repeat (first | apply Ra | apply Rn | apply Rd)); exact Rm (Rf (p := ⟨gb211, 1, none⟩) (Rf (p := ⟨gb211, 0, none⟩) (Rt HO209.out BK211.out (by decide)) (fun _ hk => hk.2) (.slice Ao37 t207.length co37)) (fun _ hk => hk.2) (.int .i64 t210)) (fun _ hk => trivial)⟩
                  have n1_ : Aside0 (((w36.setCell ⟨gb211, 0, none⟩ (.slice Ao37 t207.length co37)).setCell ⟨gb211, 1, none⟩ (.int .i64 t210)).heap[gb201]? = some (.cells #[.slice A0_0 l0_0.length c0_0, .int .i64 a0_1] 28 (0, 0))) := ⟨by (with_reducible repeat (first | refine kn ?_ _ | refine kd ?_ | refine ka ?_ _)); refine kf ?_ NB201_211.out _; (with_reducible repeat (first | refine kn ?_ _ | refine kd ?_ | refine ka ?_ _)); refine kf ?_ NB201_211.out _; (with_reducible repeat (first | refine kn ?_ _ | refine kd ?_ | refine ka ?_ _)); exact BK201.out⟩
                  have n2_ : Aside0 (((w36.setCell ⟨gb211, 0, none⟩ (.slice Ao37 t207.length co37)).setCell ⟨gb211, 1, none⟩ (.int .i64 t210)).heap[gb202]? = some (.cells #[.slice none 0 0, .int .i64 0] 28 (0, 0))) := ⟨by (with_reducible repeat (first | refine kn ?_ _ | refine kd ?_ | refine ka ?_ _)); refine kf ?_ NB202_211.out _; (with_reducible repeat (first | refine kn ?_ _ | refine kd ?_ | refine ka ?_ _)); refine kf ?_ NB202_211.out _; (with_reducible repeat (first | refine kn ?_ _ | refine kd ?_ | refine ka ?_ _)); exact BK202.out⟩
                  have n3_ : Aside0 (((w36.setCell ⟨gb211, 0, none⟩ (.slice Ao37 t207.length co37)).setCell ⟨gb211, 1, none⟩ (.int .i64 t210)).heap[gb211]? = some (.cells #[.slice Ao37 t207.length co37, .int .i64 t210] 28 (0, 0))) := ⟨by (with_reducible repeat (first | refine kn ?_ _ | refine kd ?_ | refine ka ?_ _)); refine blk_put (cs := #[.slice Ao37 t207.length co37, .int .i64 0]) ?_ 1 _ rfl; (with_reducible repeat (first | refine kn ?_ _ | refine kd ?_ | refine ka ?_ _)); refine blk_put (cs := #[.slice none 0 0, .int .i64 0]) ?_ 0 _ rfl; (with_reducible repeat (first | refine kn ?_ _ | refine kd ?_ | refine ka ?_ _)); exact BK211.out⟩
                  have n4_ : Aside0 (Below w.heap.size w ((w36.setCell ⟨gb211, 0, none⟩ (.slice Ao37 t207.length co37)).setCell ⟨gb211, 1, none⟩ (.int .i64 t210))) := ⟨by repeat (first | (with_reducible first | exact HB.out | apply ba | apply bn | apply bd | refine bs ?_ GE201.out | refine bs ?_ GE202.out | refine bs ?_ GE211.out) | exact HB.out)⟩
                  (try clear HO209)
                  (try clear BK201)
                  (try clear BK202)
                  (try clear BK211)
                  (try clear HB)
                  generalize ((w36.setCell ⟨gb211, 0, none⟩ (.slice Ao37 t207.length co37)).setCell ⟨gb211, 1, none⟩ (.int .i64 t210)) = w41 at n0_ n1_ n2_ n3_ n4_ ⊢
                  revert n0_ n1_ n2_ n3_ n4_
                  intro HO209 BK201 BK202 BK211 HB
                  have n0_ := AM (Rd HO209.out)
                  have n1_ := AM (kd BK201.out)
                  have n2_ := AM (kd BK202.out)
                  have n3_ := AM (kd BK211.out)
                  have n4_ := AM (bd HB.out)
                  clear HO209 BK201 BK202 BK211 HB
                  revert n0_ n1_ n2_ n3_ n4_
                  intro HO209 BK201 BK202 BK211 HB
                  have p212 : 0 ≤ (t203 : Int) := of_decide_eq_true (by first | (with_reducible assumption) | assumption)
                  have q212 : t203 < (t207.length : Int) := of_decide_eq_true (by first | (with_reducible assumption) | assumption)
                  obtain ⟨ad212, e212, hx212_0, hx212_1, hx212_2, hx212_3⟩ := at_T51 (Rr HO209.out).2.2 t203 p212 q212
                  cases e212
                  replace p212 := eq_true p212
                  replace q212 := eq_true q212
                  have p213 : 0 ≤ (t203 : Int) := of_decide_eq_true (by first | (with_reducible assumption) | assumption)
                  have q213 : t203 < (t207.length : Int) := of_decide_eq_true (by first | (with_reducible assumption) | assumption)
                  obtain ⟨ad213, e213, hx213_0, hx213_1, hx213_2, hx213_3⟩ := at_T51 (Rr HO209.out).2.2 t203 p213 q213
                  obtain rfl : ad212 = ad213 := (by injection e213)
                  replace p213 := eq_true p213
                  replace q213 := eq_true q213
                  have p28 : 0 ≤ (t203 : Int) := of_decide_eq_true (by first | (with_reducible assumption) | assumption)
                  have q28 : (t203 : Int) < ((t207.length : Int) : Int) := of_decide_eq_true (by first | (with_reducible assumption) | assumption)
                  obtain ⟨go28, co28, eo28, gb28, gl28, cl28, HG28⟩ := Kd.R_form HO209.out (by omega)
                  (first | cases eo28 | (injection eo28 with ea_ en_ ec_; (first | subst ea_ | (injection ea_ with ea_; subst ea_)); subst ec_; clear en_))
                  have GB28 := AM gb28
                  have GG28 := AM HG28
                  clear gb28 gl28 HG28
                  (first | simp only [add_plain] at hx212_0 | skip)
                  (first | simp only [add_plain] at hx212_1 | skip)
                  (first | simp only [add_plain] at hx212_2 | skip)
                  (first | simp only [add_plain] at hx212_3 | skip)
                  (first | simp only [add_plain] at hx213_0 | skip)
                  (first | simp only [add_plain] at hx213_1 | skip)
                  (first | simp only [add_plain] at hx213_2 | skip)
                  (first | simp only [add_plain] at hx213_3 | skip)
                  obtain ⟨ce28, hcl28, hM28, hcc28, hfr28⟩ := Kd.R_elem HO209.out z51 (t203 : Int) p28 q28
                  obtain rfl := k51_openM hM28
                  have hx28_0 : World.cell? _ ⟨go28, (t203 : Int).toNat * 4, none⟩ = some (.int .i64 ((rd_T51 t207 t203).f0)) := hcc28 0 _ rfl
                  have hx28_1 : World.cell? _ ⟨go28, (t203 : Int).toNat * 4 + 1, none⟩ = some (.int .i64 ((rd_T51 t207 t203).f1)) := hcc28 1 _ rfl
                  have hx28_2 : World.cell? _ ⟨go28, (t203 : Int).toNat * 4 + 2, none⟩ = some (.int .i64 ((rd_T51 t207 t203).f2)) := hcc28 2 _ rfl
                  have hx28_3 : World.cell? _ ⟨go28, (t203 : Int).toNat * 4 + 3, none⟩ = some (.bool ((rd_T51 t207 t203).f3)) := hcc28 3 _ rfl
                  have hf28_0 : World.frozen? _ ⟨go28, (t203 : Int).toNat * 4, none⟩ = false := hfr28 0
                  have hf28_1 : World.frozen? _ ⟨go28, (t203 : Int).toNat * 4 + 1, none⟩ = false := hfr28 1
                  have hf28_2 : World.frozen? _ ⟨go28, (t203 : Int).toNat * 4 + 2, none⟩ = false := hfr28 2
                  have hf28_3 : World.frozen? _ ⟨go28, (t203 : Int).toNat * 4 + 3, none⟩ = false := hfr28 3
                  clear hcl28 hcc28 hfr28 hM28
                  replace p28 := eq_true p28
                  replace q28 := eq_true q28
                  obtain ⟨ce43, hcl43, hM43, hcc43, hfr43⟩ := Kd.R_elem HO209.out z51 (t203 : Int) (of_decide_eq_true (by first | (with_reducible assumption) | assumption)) (by have h_ : (t203 : Int) < ((t207.length : Int) : Int) := of_decide_eq_true (by first | (with_reducible assumption) | assumption); first | exact h_ | (have e_ := (Rr HO209.out).1; omega) | simpa using h_)
                  obtain rfl := k51_openM hM43
                  have HP43 := (Kd.R_seg HO209.out (t203 : Int) (of_decide_eq_true (by first | (with_reducible assumption) | assumption)) (by have h_ : (t203 : Int) < ((t207.length : Int) : Int) := of_decide_eq_true (by first | (with_reducible assumption) | assumption); first | exact h_ | (have e_ := (Rr HO209.out).1; omega) | simpa using h_) (seg := [.int .i64 (wrap64 (((rd_T51 t207 t203).f2) + (wrap64 (Int.tdiv (60 : Int) ((rd_T51 t207 t203).f1)))))]) (j := 2) hcl43 hcc43 (show 3 ≤ 4 from by decide) (x' := (⟨(rd_T51 t207 t203).f0, (rd_T51 t207 t203).f1, wrap64 (((rd_T51 t207 t203).f2) + (wrap64 (Int.tdiv (60 : Int) ((rd_T51 t207 t203).f1)))), (rd_T51 t207 t203).f3⟩ : S51)) (k51_mkM _ _ _ (⟨(rd_T51 t207 t203).f0, (rd_T51 t207 t203).f1, wrap64 (((rd_T51 t207 t203).f2) + (wrap64 (Int.tdiv (60 : Int) ((rd_T51 t207 t203).f1)))), (rd_T51 t207 t203).f3⟩ : S51) ) (fun _ hk => hk)).1
                  rw [← Ny214.out] at HP43
                  have HQ43 := AM HP43
                  clear hcl43 hcc43 hfr43 hM43 HP43
                  refine start_ (n := 17) (S := fun w' => w'.cell? ⟨gb211, 0, none⟩ = some (.slice (some ⟨go28, 0, none⟩) t207.length co37) ∧ w'.cell? ⟨gb211, 1, none⟩ = some (.int .i64 t210) ∧ w'.cell? ⟨go28, ((t203).toNat * 4), none⟩ = some (.int .i64 ((rd_T51 t207 t203).f0)) ∧ w'.cell? ⟨go28, ((t203).toNat * 4) + 1, none⟩ = some (.int .i64 ((rd_T51 t207 t203).f1)) ∧ w'.cell? ⟨go28, ((t203).toNat * 4) + 2, none⟩ = some (.int .i64 ((rd_T51 t207 t203).f2)) ∧ w'.cell? ⟨go28, ((t203).toNat * 4) + 3, none⟩ = some (.bool ((rd_T51 t207 t203).f3)) ∧ w'.cell? ⟨go28, ((t203).toNat * 4), none⟩ = some (.int .i64 ((rd_T51 t207 t203).f0)) ∧ w'.cell? ⟨go28, ((t203).toNat * 4) + 1, none⟩ = some (.int .i64 ((rd_T51 t207 t203).f1)) ∧ w'.cell? ⟨go28, ((t203).toNat * 4) + 2, none⟩ = some (.int .i64 ((rd_T51 t207 t203).f2)) ∧ w'.cell? ⟨go28, ((t203).toNat * 4) + 3, none⟩ = some (.bool ((rd_T51 t207 t203).f3))) (ds := [16]) (mB 17 0x0) (by kernel_rfl) rfl rfl ⟨(kc BK211.out 0).trans rfl, (kc BK211.out 1).trans rfl, hx212_0, hx212_1, hx212_2, hx212_3, hx213_0, hx213_1, hx213_2, hx213_3⟩ (fun hHeld => ?_); refine with_tabW impl_QueueTick.tab5 impl_QueueTick.bits5 (fun HT_ HW_ => ?_)
                  generalize w41.drew = w42 at HO209 BK201 BK202 BK211 HB GG28 HQ43 hf28_0 hf28_1 hf28_2 hf28_3 hx212_0 hx212_1 hx212_2 hx212_3 hx213_0 hx213_1 hx213_2 hx213_3 hx28_0 hx28_1 hx28_2 hx28_3 hHeld ⊢
                  refine puY (v := ?_) (a' := ?_) 0 36 (mB 17 0x1) rfl rfl HT_.out (by kernel_rfl) (fun _ _ _ h => h) (by rfl) ?_ ?_ ?_; rotate_left; (focus intro w'; go_simp; with_reducible rfl); rotate_left; (focus simp only [Act.put, sA, sZ, sS, i64_w, i32_w]; rfl); refine puY (v := ?_) (a' := ?_) 2 38 (mB 17 0x5) rfl rfl HT_.out (by kernel_rfl) (fun _ _ _ h => h) (by rfl) ?_ ?_ ?_; rotate_left; (focus intro w'; go_simp; with_reducible rfl); rotate_left; (focus simp only [Act.put, sA, sZ, sS, i64_w, i32_w]; rfl); refine puY (v := ?_) (a' := ?_) 6 42 (mB 17 0x45) rfl rfl HT_.out (by kernel_rfl) (fun _ _ _ h => h) (by rfl) ?_ ?_ ?_; rotate_left; (focus intro w'; go_simp; with_reducible rfl); rotate_left; (focus simp only [Act.put, sA, sZ, sS, i64_w, i32_w]; rfl); refine puY (v := ?_) (a' := ?_) 8 44 (mB 17 0x145) rfl rfl HT_.out (by kernel_rfl) (fun _ _ _ h => h) (by rfl) ?_ ?_ ?_; rotate_left; (focus intro w'; go_simp; with_reducible rfl); rotate_left; (focus simp only [Act.put, sA, sZ, sS, i64_w, i32_w]; rfl)
                  refine take_ (i := 1) (N := some 37) (v := ?_) (a' := ?_) (mB 17 0x147) rfl rfl (take_ofW HT_.out HW_.out (by kernel_rfl)) (fun _ _ _ h => h) (Or.inl ⟨by rfl, ?_⟩) hHeld ?_ ?_
                  rotate_left
                  · rintro w' ⟨s0, s1, s2, s3, s4, s5, s6, s7, s8, s9⟩; go_simp; with_reducible rfl
                  rotate_left
                  · simp only [Act.put, sA, sZ, sS, i64_w, i32_w]; rfl
                  refine puY (v := ?_) (a' := ?_) 3 39 (mB 17 0x14f) rfl rfl HT_.out (by kernel_rfl) (fun _ _ _ h => h) (by rfl) ?_ ?_ ?_; rotate_left; (focus intro w'; go_simp; with_reducible rfl); rotate_left; (focus simp only [Act.put, sA, sZ, sS, i64_w, i32_w]; rfl); refine puY (v := ?_) (a' := ?_) 4 40 (mB 17 0x15f) rfl rfl HT_.out (by kernel_rfl) (fun _ _ _ h => h) (by rfl) ?_ ?_ ?_; rotate_left; (focus intro w'; go_simp; with_reducible rfl); rotate_left; (focus simp only [Act.put, sA, sZ, sS, i64_w, i32_w]; rfl)
                  refine take_ (i := 5) (N := some 41) (v := ?_) (a' := ?_) (mB 17 0x17f) rfl rfl (take_ofW HT_.out HW_.out (by kernel_rfl)) (fun _ _ _ h => h) (Or.inl ⟨by rfl, ?_⟩) hHeld ?_ ?_
                  rotate_left
                  · rintro w' ⟨s0, s1, s2, s3, s4, s5, s6, s7, s8, s9⟩; go_simp; with_reducible rfl
                  rotate_left
                  · simp only [Act.put, sA, sZ, sS, i64_w, i32_w]; rfl
                  refine take_ (i := 7) (N := some 43) (v := ?_) (a' := ?_) (mB 17 0x1ff) rfl rfl (take_ofW HT_.out HW_.out (by kernel_rfl)) (fun _ _ _ h => h) (Or.inl ⟨by rfl, ?_⟩) hHeld ?_ ?_
                  rotate_left
                  · rintro w' ⟨s0, s1, s2, s3, s4, s5, s6, s7, s8, s9⟩; go_simp; with_reducible rfl
                  rotate_left
                  · simp only [Act.put, sA, sZ, sS, i64_w, i32_w]; rfl
                  refine puY (v := ?_) (a' := ?_) 9 45 (mB 17 0x3ff) rfl rfl HT_.out (by kernel_rfl) (fun _ _ _ h => h) (by rfl) ?_ ?_ ?_; rotate_left; (focus intro w'; go_simp; with_reducible rfl); rotate_left; (focus simp only [Act.put, sA, sZ, sS, i64_w, i32_w]; rfl); refine puY (v := ?_) (a' := ?_) 10 46 (mB 17 0x7ff) rfl rfl HT_.out (by kernel_rfl) (fun _ _ _ h => h) (by rfl) ?_ ?_ ?_; rotate_left; (focus intro w'; go_simp; with_reducible rfl); rotate_left; (focus simp only [Act.put, sA, sZ, sS, i64_w, i32_w]; rfl)
                  refine take_ (i := 11) (N := some 47) (v := ?_) (a' := ?_) (mB 17 0xfff) rfl rfl (take_ofW HT_.out HW_.out (by kernel_rfl)) (fun _ _ _ h => h) (Or.inl ⟨by rfl, ?_⟩) hHeld ?_ ?_
                  rotate_left
                  · rintro w' ⟨s0, s1, s2, s3, s4, s5, s6, s7, s8, s9⟩; go_simp; with_reducible rfl
                  rotate_left
                  · simp only [Act.put, sA, sZ, sS, i64_w, i32_w]; rfl
                  refine puY (v := ?_) (a' := ?_) 12 48 (mB 17 0x1fff) rfl rfl HT_.out (by kernel_rfl) (fun _ _ _ h => h) (by rfl) ?_ ?_ ?_; rotate_left; (focus intro w'; go_simp; with_reducible rfl); rotate_left; (focus simp only [Act.put, sA, sZ, sS, i64_w, i32_w]; rfl); refine puY (v := ?_) (a' := ?_) 13 49 (mB 17 0x3fff) rfl rfl HT_.out (by kernel_rfl) (fun _ _ _ h => h) (by rfl) ?_ ?_ ?_; rotate_left; (focus intro w'; go_simp; with_reducible rfl); rotate_left; (focus simp only [Act.put, sA, sZ, sS, i64_w, i32_w]; rfl); refine puY (v := ?_) (a' := ?_) 14 50 (mB 17 0x7fff) rfl rfl HT_.out (by kernel_rfl) (fun _ _ _ h => h) (by rfl) ?_ ?_ ?_; rotate_left; (focus intro w'; go_simp; with_reducible rfl); rotate_left; (focus simp only [Act.put, sA, sZ, sS, i64_w, i32_w]; rfl); refine puY (v := ?_) (a' := ?_) 15 51 (mB 17 0xffff) rfl rfl HT_.out (by kernel_rfl) (fun _ _ _ h => h) (by rfl) ?_ ?_ ?_; rotate_left; (focus intro w'; go_simp; with_reducible rfl); rotate_left; (focus simp only [Act.put, sA, sZ, sS, i64_w, i32_w]; rfl)
                  refine last_ (i := 16) (N := none) (mB 17 0x1ffff) rfl rfl (one_of HT_.out (by kernel_rfl)) (by decide) (fun K hK => ?_)
                  refine skip_ (w1 := ?_) (by rfl) rfl ?_ ?_
                  rotate_left
                  · go_simp
                    rfl
                  refine hK.out _ _ ?_
                  clear hK K
                  refine done_ (done_of HT_.out (by kernel_rfl)) ?_
                  have n0_ : Aside0 (Kd.R k51 51 (w42.setCell ⟨go28, (t203 : Int).toNat * 4 + 2, none⟩ (.int .i64 (wrap64 (((rd_T51 t207 t203).f2) + (wrap64 (Int.tdiv (60 : Int) ((rd_T51 t207 t203).f1))))))) w.heap.size (fun _ => True) (.slice (some ⟨go28, 0, none⟩) t207.length co37) y214) := ⟨by (with_reducible repeat (first | apply Ra | apply Rn | apply Rd)); exact HQ43.out⟩
                  have n1_ : Aside0 ((w42.setCell ⟨go28, (t203 : Int).toNat * 4 + 2, none⟩ (.int .i64 (wrap64 (((rd_T51 t207 t203).f2) + (wrap64 (Int.tdiv (60 : Int) ((rd_T51 t207 t203).f1))))))).heap[gb201]? = some (.cells #[.slice A0_0 l0_0.length c0_0, .int .i64 a0_1] 28 (0, 0))) := ⟨by (with_reducible repeat (first | refine kn ?_ _ | refine kd ?_ | refine ka ?_ _)); refine kf ?_ (by have h_ := Kd.R_ne HO209.out BK201.out (by decide); intro e_; exact h_ (by rw [e_]; rfl)) _; (with_reducible repeat (first | refine kn ?_ _ | refine kd ?_ | refine ka ?_ _)); exact BK201.out⟩
                  have n2_ : Aside0 ((w42.setCell ⟨go28, (t203 : Int).toNat * 4 + 2, none⟩ (.int .i64 (wrap64 (((rd_T51 t207 t203).f2) + (wrap64 (Int.tdiv (60 : Int) ((rd_T51 t207 t203).f1))))))).heap[gb202]? = some (.cells #[.slice none 0 0, .int .i64 0] 28 (0, 0))) := ⟨by (with_reducible repeat (first | refine kn ?_ _ | refine kd ?_ | refine ka ?_ _)); refine kf ?_ (by have h_ := Kd.R_ne HO209.out BK202.out (by decide); intro e_; exact h_ (by rw [e_]; rfl)) _; (with_reducible repeat (first | refine kn ?_ _ | refine kd ?_ | refine ka ?_ _)); exact BK202.out⟩
                  have n3_ : Aside0 ((w42.setCell ⟨go28, (t203 : Int).toNat * 4 + 2, none⟩ (.int .i64 (wrap64 (((rd_T51 t207 t203).f2) + (wrap64 (Int.tdiv (60 : Int) ((rd_T51 t207 t203).f1))))))).heap[gb211]? = some (.cells #[.slice (some ⟨go28, 0, none⟩) t207.length co37, .int .i64 t210] 28 (0, 0))) := ⟨by (with_reducible repeat (first | refine kn ?_ _ | refine kd ?_ | refine ka ?_ _)); refine kf ?_ (by have h_ := Kd.R_ne HO209.out BK211.out (by decide); intro e_; exact h_ (by rw [e_]; rfl)) _; (with_reducible repeat (first | refine kn ?_ _ | refine kd ?_ | refine ka ?_ _)); exact BK211.out⟩
                  have n4_ : Aside0 (Below w.heap.size w (w42.setCell ⟨go28, (t203 : Int).toNat * 4 + 2, none⟩ (.int .i64 (wrap64 (((rd_T51 t207 t203).f2) + (wrap64 (Int.tdiv (60 : Int) ((rd_T51 t207 t203).f1)))))))) := ⟨by repeat (first | (with_reducible first | exact HB.out | apply ba | apply bn | apply bd | refine bs ?_ GB28.out | refine bs ?_ GE201.out | refine bs ?_ GE202.out | refine bs ?_ GE211.out) | exact HB.out)⟩
                  (try clear HO209)
                  (try clear BK201)
                  (try clear BK202)
                  (try clear BK211)
                  (try clear HB)
                  generalize (w42.setCell ⟨go28, (t203 : Int).toNat * 4 + 2, none⟩ (.int .i64 (wrap64 (((rd_T51 t207 t203).f2) + (wrap64 (Int.tdiv (60 : Int) ((rd_T51 t207 t203).f1))))))) = w44 at n0_ n1_ n2_ n3_ n4_ ⊢
                  revert n0_ n1_ n2_ n3_ n4_
                  intro HO209 BK201 BK202 BK211 HB
                  try go_wp2
                  have n0_ := AM (Rd HO209.out)
                  have n1_ := AM (kd BK201.out)
                  have n2_ := AM (kd BK202.out)
                  have n3_ := AM (kd BK211.out)
                  have n4_ := AM (bd HB.out)
                  clear HO209 BK201 BK202 BK211 HB
                  revert n0_ n1_ n2_ n3_ n4_
                  intro HO209 BK201 BK202 BK211 HB
                  have p216 : 0 ≤ (t215 : Int) := of_decide_eq_true (by first | (with_reducible assumption) | assumption)
                  have q216 : t215 < (y214.length : Int) := (by have h_ : (t215 : Int) < ((t207.length : Int) : Int) := of_decide_eq_true (by first | (with_reducible assumption) | assumption); first | (have e_ := (Rr HO209.out).1; omega) | simpa only [Ny214.out, List.length_set] using h_)
                  have ql216 : ((t215 : Int) < ((t207.length : Int) : Int)) = True := eq_true (of_decide_eq_true (by first | (with_reducible assumption) | assumption))
                  obtain ⟨ad216, e216, hx216_0, hx216_1, hx216_2, hx216_3⟩ := at_T51 (Rr HO209.out).2.2 t215 p216 q216
                  obtain rfl : (⟨go28, 0, none⟩ : Addr) = ad216 := (by injection e216)
                  (first | simp only [add_plain] at hx216_0 | simp only [add_at] at hx216_0 | simp only [Addr.add, Nat.zero_add] at hx216_0 | skip)
                  (first | simp only [add_plain] at hx216_1 | simp only [add_at] at hx216_1 | simp only [Addr.add, Nat.zero_add] at hx216_1 | skip)
                  (first | simp only [add_plain] at hx216_2 | simp only [add_at] at hx216_2 | simp only [Addr.add, Nat.zero_add] at hx216_2 | skip)
                  (first | simp only [add_plain] at hx216_3 | simp only [add_at] at hx216_3 | simp only [Addr.add, Nat.zero_add] at hx216_3 | skip)
                  replace p216 := eq_true p216
                  replace q216 := eq_true q216
                  refine start_ (n := 12) (S := fun w' => w'.cell? ⟨gb211, 0, none⟩ = some (.slice (some ⟨go28, 0, none⟩) t207.length co37) ∧ w'.cell? ⟨gb211, 1, none⟩ = some (.int .i64 t210) ∧ w'.cell? ⟨go28, (t215).toNat * 4, none⟩ = some (.int .i64 ((rd_T51 y214 t215).f0)) ∧ w'.cell? ⟨go28, (t215).toNat * 4 + 1, none⟩ = some (.int .i64 ((rd_T51 y214 t215).f1)) ∧ w'.cell? ⟨go28, (t215).toNat * 4 + 2, none⟩ = some (.int .i64 ((rd_T51 y214 t215).f2)) ∧ w'.cell? ⟨go28, (t215).toNat * 4 + 3, none⟩ = some (.bool ((rd_T51 y214 t215).f3))) (ds := [11]) (mB 12 0x0) (by kernel_rfl) rfl rfl ⟨(kc BK211.out 0).trans rfl, (kc BK211.out 1).trans rfl, hx216_0, hx216_1, hx216_2, hx216_3⟩ (fun hHeld => ?_); refine with_tabW impl_QueueTick.tab6 impl_QueueTick.bits6 (fun HT_ HW_ => ?_)
                  generalize w44.drew = w45 at HO209 BK201 BK202 BK211 HB hx216_0 hx216_1 hx216_2 hx216_3 hHeld ⊢
                  refine puY (v := ?_) (a' := ?_) 0 52 (mB 12 0x1) rfl rfl HT_.out (by kernel_rfl) (fun _ _ _ h => h) (by rfl) ?_ ?_ ?_; rotate_left; (focus intro w'; go_simp; with_reducible rfl); rotate_left; (focus simp only [Act.put, sA, sZ, sS, i64_w, i32_w]; rfl); refine puY (v := ?_) (a' := ?_) 2 54 (mB 12 0x5) rfl rfl HT_.out (by kernel_rfl) (fun _ _ _ h => h) (by rfl) ?_ ?_ ?_; rotate_left; (focus intro w'; go_simp; with_reducible rfl); rotate_left; (focus simp only [Act.put, sA, sZ, sS, i64_w, i32_w]; rfl)
                  refine take_ (i := 1) (N := some 53) (v := ?_) (a' := ?_) (mB 12 0x7) rfl rfl (take_ofW HT_.out HW_.out (by kernel_rfl)) (fun _ _ _ h => h) (Or.inl ⟨by rfl, ?_⟩) hHeld ?_ ?_
                  rotate_left
                  · rintro w' ⟨s0, s1, s2, s3, s4, s5⟩; go_simp; with_reducible rfl
                  rotate_left
                  · simp only [Act.put, sA, sZ, sS, i64_w, i32_w]; rfl
                  refine take_ (i := 3) (N := some 55) (v := ?_) (a' := ?_) (mB 12 0xf) rfl rfl (take_ofW HT_.out HW_.out (by kernel_rfl)) (fun _ _ _ h => h) (Or.inl ⟨by rfl, ?_⟩) hHeld ?_ ?_
                  rotate_left
                  · rintro w' ⟨s0, s1, s2, s3, s4, s5⟩; go_simp; with_reducible rfl
                  rotate_left
                  · simp only [Act.put, sA, sZ, sS, i64_w, i32_w]; rfl
                  refine take_ (i := 4) (N := some 56) (v := ?_) (a' := ?_) (mB 12 0x1f) rfl rfl (take_ofW HT_.out HW_.out (by kernel_rfl)) (fun _ _ _ h => h) (Or.inl ⟨by rfl, ?_⟩) hHeld ?_ ?_
                  rotate_left
                  · rintro w' ⟨s0, s1, s2, s3, s4, s5⟩; go_simp; with_reducible rfl
                  rotate_left
                  · simp only [Act.put, sA, sZ, sS, i64_w, i32_w]; rfl
                  refine one_ (i := 5) (N := some 57) (mB 12 0x3f) rfl rfl (one_of HT_.out (by kernel_rfl)) (by decide) (fun K hK => ?_)
                  refine goes_ Try.func30 (by kernel_rfl) rfl #[.agg #[.slice (some ⟨go28, 0, none⟩) y214.length co37, .int .i64 t210]] (by rfl) rfl rfl (by (try simp only [List.map_toArray, List.map_cons, List.map_nil]); first | done | (rw [show y214.length = t207.length from (Rr HO209.out).1.symm] <;> rfl) | rfl | (simp only [List.length_drop, List.length_take]; rfl)) ?_
                  with_reducible refine (impl_Queue_next.calls kj2 _ _ y214 t210 t215 _ ?side1 ?side2 A29.out).mono ?_
                  (case side1 => repeat (first | exact (Rr HO209.out).2.2 | (with_reducible refine Ca ?_ _) | (with_reducible refine Cn ?_ _) | (with_reducible refine Cd ?_)))
                  (case side2 => rw [show y214.length = t207.length from (Rr HO209.out).1.symm]; exact (Rr HO209.out).2.1)
                  rintro e w46 ⟨rfl, hb⟩
                  have HS2_ := (hb.cell (World.block_lt_of_cell? _ _ (hHeld.2.2.1))).trans (hHeld.2.2.1)
                  have HS3_ := (hb.cell (World.block_lt_of_cell? _ _ (hHeld.2.2.2.1))).trans (hHeld.2.2.2.1)
                  have HS4_ := (hb.cell (World.block_lt_of_cell? _ _ (hHeld.2.2.2.2.1))).trans (hHeld.2.2.2.2.1)
                  have HS5_ := (hb.cell (World.block_lt_of_cell? _ _ (hHeld.2.2.2.2.2))).trans (hHeld.2.2.2.2.2)
                  refine ⟨_, rfl, ?_⟩
                  have n0_ := AM (Rb (lfR HO209.out) hb)
                  have n1_ := AM (kb (g := gb201) (o := .cells #[.slice A0_0 l0_0.length c0_0, .int .i64 a0_1] 28 (0, 0)) (lfK BK201.out) hb)
                  have n2_ := AM (kb (g := gb202) (o := .cells #[.slice none 0 0, .int .i64 0] 28 (0, 0)) (lfK BK202.out) hb)
                  have n3_ := AM (kb (g := gb211) (o := .cells #[.slice (some ⟨go28, 0, none⟩) t207.length co37, .int .i64 t210] 28 (0, 0)) (lfK BK211.out) hb)
                  have n4_ := AM (bp (by repeat (first | (with_reducible first | exact HB.out | apply ba | apply bn | apply bd | refine bs ?_ GE201.out | refine bs ?_ GE202.out | refine bs ?_ GE211.out) | exact HB.out)) hb)
                  clear HO209 BK201 BK202 BK211 HB
                  revert n0_ n1_ n2_ n3_ n4_
                  intro HO209 BK201 BK202 BK211 HB
                  (try clear hb)
                  (try clear hb2)
                  (try clear hk)
                  (try clear hi)
                  refine hK.out _ _ ⟨(kc BK211.out 0).trans rfl, (kc BK211.out 1).trans rfl, HS2_, HS3_, HS4_, HS5_⟩ (fun hHeld => ?_)
                  clear hK K
                  refine norm_ (a' := ?_) ?_ ?_
                  rotate_left
                  · show Act.put _ (some 57) _ = _
                    simp only [Act.put, sA, sZ, sS, i64_w, i32_w]
                    rfl
                  refine puY (v := ?_) (a' := ?_) 6 58 (mB 12 0x7f) rfl rfl HT_.out (by kernel_rfl) (fun _ _ _ h => h) (by rfl) ?_ ?_ ?_; rotate_left; (focus intro w'; go_simp; with_reducible rfl); rotate_left; (focus simp only [Act.put, sA, sZ, sS, i64_w, i32_w]; rfl); refine puY (v := ?_) (a' := ?_) 7 59 (mB 12 0xff) rfl rfl HT_.out (by kernel_rfl) (fun _ _ _ h => h) (by rfl) ?_ ?_ ?_; rotate_left; (focus intro w'; go_simp; with_reducible rfl); rotate_left; (focus simp only [Act.put, sA, sZ, sS, i64_w, i32_w]; rfl)
                  refine take_ (i := 8) (N := some 60) (v := ?_) (a' := ?_) (mB 12 0x1ff) rfl rfl (take_ofW HT_.out HW_.out (by kernel_rfl)) (fun _ _ _ h => h) (Or.inl ⟨by rfl, ?_⟩) hHeld ?_ ?_
                  rotate_left
                  · rintro w' ⟨s0, s1, s2, s3, s4, s5⟩; go_simp; with_reducible rfl
                  rotate_left
                  · simp only [Act.put, sA, sZ, sS, i64_w, i32_w]; rfl
                  refine puY (v := ?_) (a' := ?_) 9 61 (mB 12 0x3ff) rfl rfl HT_.out (by kernel_rfl) (fun _ _ _ h => h) (by rfl) ?_ ?_ ?_; rotate_left; (focus intro w'; go_simp; with_reducible rfl); rotate_left; (focus simp only [Act.put, sA, sZ, sS, i64_w, i32_w]; rfl); refine puY (v := ?_) (a' := ?_) 10 62 (mB 12 0x7ff) rfl rfl HT_.out (by kernel_rfl) (fun _ _ _ h => h) (by rfl) ?_ ?_ ?_; rotate_left; (focus intro w'; go_simp; with_reducible rfl); rotate_left; (focus simp only [Act.put, sA, sZ, sS, i64_w, i32_w]; rfl)
                  refine last_ (i := 11) (N := none) (mB 12 0xfff) rfl rfl (one_of HT_.out (by kernel_rfl)) (by decide) (fun K hK => ?_)
                  have hs47 : w46.cell? ⟨gb211, 1, none⟩ = some (.int .i64 t210) := (kc BK211.out 1).trans rfl
                  have hfs47 := kz BK211.out 1
                  have hns47_0 := NB201_211.out
                  have hns47_1 := NB202_211.out
                  have hms47_0 := NB211_201.out
                  have hms47_1 := NB211_202.out
                  refine skip_ (w1 := ?_) (by rfl) rfl ?_ ?_
                  rotate_left
                  · go_simp
                    rfl
                  refine hK.out _ _ ?_
                  clear hK K
                  refine done_ (done_of HT_.out (by kernel_rfl)) ?_
                  try go_wp2
                  have n0_ : Aside0 (Kd.R k51 51 (w46.setCell ⟨gb211, 1, none⟩ (.int .i64 ji32)) w.heap.size (fun _ => True) (.slice (some ⟨go28, 0, none⟩) t207.length co37) y214) := ⟨by (with_reducible repeat (first | apply Ra | apply Rn | apply Rd)); exact Rm (Rf (p := ⟨gb211, 1, none⟩) (Rt HO209.out BK211.out (by decide)) (fun _ hk => hk.2) (.int .i64 ji32)) (fun _ hk => trivial)⟩
                  have n1_ : Aside0 ((w46.setCell ⟨gb211, 1, none⟩ (.int .i64 ji32)).heap[gb201]? = some (.cells #[.slice A0_0 l0_0.length c0_0, .int .i64 a0_1] 28 (0, 0))) := ⟨by (with_reducible repeat (first | refine kn ?_ _ | refine kd ?_ | refine ka ?_ _)); refine kf ?_ NB201_211.out _; (with_reducible repeat (first | refine kn ?_ _ | refine kd ?_ | refine ka ?_ _)); exact BK201.out⟩
                  have n2_ : Aside0 ((w46.setCell ⟨gb211, 1, none⟩ (.int .i64 ji32)).heap[gb202]? = some (.cells #[.slice none 0 0, .int .i64 0] 28 (0, 0))) := ⟨by (with_reducible repeat (first | refine kn ?_ _ | refine kd ?_ | refine ka ?_ _)); refine kf ?_ NB202_211.out _; (with_reducible repeat (first | refine kn ?_ _ | refine kd ?_ | refine ka ?_ _)); exact BK202.out⟩
                  have n3_ : Aside0 ((w46.setCell ⟨gb211, 1, none⟩ (.int .i64 ji32)).heap[gb211]? = some (.cells #[.slice (some ⟨go28, 0, none⟩) t207.length co37, .int .i64 ji32] 28 (0, 0))) := ⟨by (with_reducible repeat (first | refine kn ?_ _ | refine kd ?_ | refine ka ?_ _)); refine blk_put (cs := #[.slice (some ⟨go28, 0, none⟩) t207.length co37, .int .i64 t210]) ?_ 1 _ rfl; (with_reducible repeat (first | refine kn ?_ _ | refine kd ?_ | refine ka ?_ _)); exact BK211.out⟩
                  have n4_ : Aside0 (Below w.heap.size w (w46.setCell ⟨gb211, 1, none⟩ (.int .i64 ji32))) := ⟨by repeat (first | (with_reducible first | exact HB.out | apply ba | apply bn | apply bd | refine bs ?_ GE201.out | refine bs ?_ GE202.out | refine bs ?_ GE211.out) | exact HB.out)⟩
                  (try clear HO209)
                  (try clear BK201)
                  (try clear BK202)
                  (try clear BK211)
                  (try clear HB)
                  generalize (w46.setCell ⟨gb211, 1, none⟩ (.int .i64 ji32)) = w48 at n0_ n1_ n2_ n3_ n4_ ⊢
                  revert n0_ n1_ n2_ n3_ n4_
                  intro HO209 BK201 BK202 BK211 HB
                  have n0_ := AM (Rd HO209.out)
                  have n1_ := AM (kd BK201.out)
                  have n2_ := AM (kd BK202.out)
                  have n3_ := AM (kd BK211.out)
                  have n4_ := AM (bd HB.out)
                  clear HO209 BK201 BK202 BK211 HB
                  revert n0_ n1_ n2_ n3_ n4_
                  intro HO209 BK201 BK202 BK211 HB
                  have p217 : 0 ≤ (t203 : Int) := of_decide_eq_true (by first | (with_reducible assumption) | assumption)
                  have q217 : t203 < (y214.length : Int) := (by have h_ : (t203 : Int) < ((t207.length : Int) : Int) := of_decide_eq_true (by first | (with_reducible assumption) | assumption); first | (have e_ := (Rr HO209.out).1; omega) | simpa only [Ny214.out, List.length_set] using h_)
                  have ql217 : ((t203 : Int) < ((t207.length : Int) : Int)) = True := eq_true (of_decide_eq_true (by first | (with_reducible assumption) | assumption))
                  obtain ⟨ad217, e217, hx217_0, hx217_1, hx217_2, hx217_3⟩ := at_T51 (Rr HO209.out).2.2 t203 p217 q217
                  obtain rfl : (⟨go28, 0, none⟩ : Addr) = ad217 := (by injection e217)
                  (first | simp only [add_plain] at hx217_0 | simp only [add_at] at hx217_0 | simp only [Addr.add, Nat.zero_add] at hx217_0 | skip)
                  (first | simp only [add_plain] at hx217_1 | simp only [add_at] at hx217_1 | simp only [Addr.add, Nat.zero_add] at hx217_1 | skip)
                  (first | simp only [add_plain] at hx217_2 | simp only [add_at] at hx217_2 | simp only [Addr.add, Nat.zero_add] at hx217_2 | skip)
                  (first | simp only [add_plain] at hx217_3 | simp only [add_at] at hx217_3 | simp only [Addr.add, Nat.zero_add] at hx217_3 | skip)
                  replace p217 := eq_true p217
                  replace q217 := eq_true q217
                  refine start_ (n := 10) (S := fun w' => w'.cell? ⟨gb211, 0, none⟩ = some (.slice (some ⟨go28, 0, none⟩) t207.length co37) ∧ w'.cell? ⟨gb211, 1, none⟩ = some (.int .i64 ji32) ∧ w'.cell? ⟨go28, (t203).toNat * 4, none⟩ = some (.int .i64 ((rd_T51 y214 t203).f0)) ∧ w'.cell? ⟨go28, (t203).toNat * 4 + 1, none⟩ = some (.int .i64 ((rd_T51 y214 t203).f1)) ∧ w'.cell? ⟨go28, (t203).toNat * 4 + 2, none⟩ = some (.int .i64 ((rd_T51 y214 t203).f2)) ∧ w'.cell? ⟨go28, (t203).toNat * 4 + 3, none⟩ = some (.bool ((rd_T51 y214 t203).f3))) (ds := []) (mB 10 0x0) (by kernel_rfl) rfl rfl ⟨(kc BK211.out 0).trans rfl, (kc BK211.out 1).trans rfl, hx217_0, hx217_1, hx217_2, hx217_3⟩ (fun hHeld => ?_); refine with_tabW impl_QueueTick.tab7 impl_QueueTick.bits7 (fun HT_ HW_ => ?_)
                  generalize w48.drew = w49 at HO209 BK201 BK202 BK211 HB hx217_0 hx217_1 hx217_2 hx217_3 hHeld ⊢
                  refine puY (v := ?_) (a' := ?_) 1 64 (mB 10 0x2) rfl rfl HT_.out (by kernel_rfl) (fun _ _ _ h => h) (by rfl) ?_ ?_ ?_; rotate_left; (focus intro w'; go_simp; with_reducible rfl); rotate_left; (focus simp only [Act.put, sA, sZ, sS, i64_w, i32_w]; rfl); refine puY (v := ?_) (a' := ?_) 3 66 (mB 10 0xa) rfl rfl HT_.out (by kernel_rfl) (fun _ _ _ h => h) (by rfl) ?_ ?_ ?_; rotate_left; (focus intro w'; go_simp; with_reducible rfl); rotate_left; (focus simp only [Act.put, sA, sZ, sS, i64_w, i32_w]; rfl)
                  refine take_ (i := 0) (N := some 63) (v := ?_) (a' := ?_) (mB 10 0xb) rfl rfl (take_ofW HT_.out HW_.out (by kernel_rfl)) (fun _ _ _ h => h) (Or.inl ⟨by rfl, ?_⟩) hHeld ?_ ?_
                  rotate_left
                  · rintro w' ⟨s0, s1, s2, s3, s4, s5⟩; go_simp; with_reducible rfl
                  rotate_left
                  · simp only [Act.put, sA, sZ, sS, i64_w, i32_w]; rfl
                  refine take_ (i := 2) (N := some 65) (v := ?_) (a' := ?_) (mB 10 0xf) rfl rfl (take_ofW HT_.out HW_.out (by kernel_rfl)) (fun _ _ _ h => h) (Or.inl ⟨by rfl, ?_⟩) hHeld ?_ ?_
                  rotate_left
                  · rintro w' ⟨s0, s1, s2, s3, s4, s5⟩; go_simp; with_reducible rfl
                  rotate_left
                  · simp only [Act.put, sA, sZ, sS, i64_w, i32_w]; rfl
                  refine puY (v := ?_) (a' := ?_) 4 67 (mB 10 0x1f) rfl rfl HT_.out (by kernel_rfl) (fun _ _ _ h => h) (by rfl) ?_ ?_ ?_; rotate_left; (focus intro w'; go_simp; with_reducible rfl); rotate_left; (focus simp only [Act.put, sA, sZ, sS, i64_w, i32_w]; rfl); refine puY (v := ?_) (a' := ?_) 5 68 (mB 10 0x3f) rfl rfl HT_.out (by kernel_rfl) (fun _ _ _ h => h) (by rfl) ?_ ?_ ?_; rotate_left; (focus intro w'; go_simp; with_reducible rfl); rotate_left; (focus simp only [Act.put, sA, sZ, sS, i64_w, i32_w]; rfl)
                  refine take_ (i := 6) (N := some 69) (v := ?_) (a' := ?_) (mB 10 0x7f) rfl rfl (take_ofW HT_.out HW_.out (by kernel_rfl)) (fun _ _ _ h => h) (Or.inl ⟨by rfl, ?_⟩) hHeld ?_ ?_
                  rotate_left
                  · rintro w' ⟨s0, s1, s2, s3, s4, s5⟩; go_simp; with_reducible rfl
                  rotate_left
                  · simp only [Act.put, sA, sZ, sS, i64_w, i32_w]; rfl
                  refine one_ (i := 7) (N := none) (mB 10 0xff) rfl rfl (one_of HT_.out (by kernel_rfl)) (by decide) (fun K hK => ?_)
                  have hs50 : w49.cell? ⟨gb202, 0, none⟩ = some (.slice none 0 0) := (kc BK202.out 0).trans rfl
                  have hfs50 := kz BK202.out 0
                  have hns50_0 := NB201_202.out
                  have hns50_2 := NB211_202.out
                  have hms50_0 := NB202_201.out
                  have hms50_2 := NB202_211.out
                  have hs51 : w49.cell? ⟨gb202, 1, none⟩ = some (.int .i64 0) := (kc BK202.out 1).trans rfl
                  have hfs51 := kz BK202.out 1
                  have hns51_0 := NB201_202.out
                  have hns51_2 := NB211_202.out
                  have hms51_0 := NB202_201.out
                  have hms51_2 := NB202_211.out
                  refine skip_ (w1 := ?_) (by rfl) rfl ?_ ?_
                  rotate_left
                  · go_simp
                    rfl
                  refine hK.out _ _ ⟨((cell_far (p := ⟨gb202, _, none⟩) NB211_202.out _).trans (((cell_far (p := ⟨gb202, _, none⟩) NB211_202.out _).trans (hHeld.1)))), ((cell_far (p := ⟨gb202, _, none⟩) NB211_202.out _).trans (((cell_far (p := ⟨gb202, _, none⟩) NB211_202.out _).trans (hHeld.2.1)))), ((cell_far (p := ⟨gb202, _, none⟩) (by first | exact Kd.own_blk (Kd.R_ne HO209.out BK202.out (by decide)) | (rw [add_block]; exact Kd.own_blk (Kd.R_ne HO209.out BK202.out (by decide))) | (show (Addr.add _ _).block ≠ _; rw [add_block]; exact Kd.own_blk (Kd.R_ne HO209.out BK202.out (by decide))) | (dsimp only; exact Kd.own_blk (Kd.R_ne HO209.out BK202.out (by decide)))) _).trans (((cell_far (p := ⟨gb202, _, none⟩) (by first | exact Kd.own_blk (Kd.R_ne HO209.out BK202.out (by decide)) | (rw [add_block]; exact Kd.own_blk (Kd.R_ne HO209.out BK202.out (by decide))) | (show (Addr.add _ _).block ≠ _; rw [add_block]; exact Kd.own_blk (Kd.R_ne HO209.out BK202.out (by decide))) | (dsimp only; exact Kd.own_blk (Kd.R_ne HO209.out BK202.out (by decide)))) _).trans (hHeld.2.2.1)))), ((cell_far (p := ⟨gb202, _, none⟩) (by first | exact Kd.own_blk (Kd.R_ne HO209.out BK202.out (by decide)) | (rw [add_block]; exact Kd.own_blk (Kd.R_ne HO209.out BK202.out (by decide))) | (show (Addr.add _ _).block ≠ _; rw [add_block]; exact Kd.own_blk (Kd.R_ne HO209.out BK202.out (by decide))) | (dsimp only; exact Kd.own_blk (Kd.R_ne HO209.out BK202.out (by decide)))) _).trans (((cell_far (p := ⟨gb202, _, none⟩) (by first | exact Kd.own_blk (Kd.R_ne HO209.out BK202.out (by decide)) | (rw [add_block]; exact Kd.own_blk (Kd.R_ne HO209.out BK202.out (by decide))) | (show (Addr.add _ _).block ≠ _; rw [add_block]; exact Kd.own_blk (Kd.R_ne HO209.out BK202.out (by decide))) | (dsimp only; exact Kd.own_blk (Kd.R_ne HO209.out BK202.out (by decide)))) _).trans (hHeld.2.2.2.1)))), ((cell_far (p := ⟨gb202, _, none⟩) (by first | exact Kd.own_blk (Kd.R_ne HO209.out BK202.out (by decide)) | (rw [add_block]; exact Kd.own_blk (Kd.R_ne HO209.out BK202.out (by decide))) | (show (Addr.add _ _).block ≠ _; rw [add_block]; exact Kd.own_blk (Kd.R_ne HO209.out BK202.out (by decide))) | (dsimp only; exact Kd.own_blk (Kd.R_ne HO209.out BK202.out (by decide)))) _).trans (((cell_far (p := ⟨gb202, _, none⟩) (by first | exact Kd.own_blk (Kd.R_ne HO209.out BK202.out (by decide)) | (rw [add_block]; exact Kd.own_blk (Kd.R_ne HO209.out BK202.out (by decide))) | (show (Addr.add _ _).block ≠ _; rw [add_block]; exact Kd.own_blk (Kd.R_ne HO209.out BK202.out (by decide))) | (dsimp only; exact Kd.own_blk (Kd.R_ne HO209.out BK202.out (by decide)))) _).trans (hHeld.2.2.2.2.1)))), ((cell_far (p := ⟨gb202, _, none⟩) (by first | exact Kd.own_blk (Kd.R_ne HO209.out BK202.out (by decide)) | (rw [add_block]; exact Kd.own_blk (Kd.R_ne HO209.out BK202.out (by decide))) | (show (Addr.add _ _).block ≠ _; rw [add_block]; exact Kd.own_blk (Kd.R_ne HO209.out BK202.out (by decide))) | (dsimp only; exact Kd.own_blk (Kd.R_ne HO209.out BK202.out (by decide)))) _).trans (((cell_far (p := ⟨gb202, _, none⟩) (by first | exact Kd.own_blk (Kd.R_ne HO209.out BK202.out (by decide)) | (rw [add_block]; exact Kd.own_blk (Kd.R_ne HO209.out BK202.out (by decide))) | (show (Addr.add _ _).block ≠ _; rw [add_block]; exact Kd.own_blk (Kd.R_ne HO209.out BK202.out (by decide))) | (dsimp only; exact Kd.own_blk (Kd.R_ne HO209.out BK202.out (by decide)))) _).trans (hHeld.2.2.2.2.2))))⟩ (fun hHeld => ?_)
                  clear hK K
                  refine puY (v := ?_) (a' := ?_) 8 3 (mB 10 0x1ff) rfl rfl HT_.out (by kernel_rfl) (fun _ _ _ h => h) (by rfl) ?_ ?_ ?_; rotate_left; (focus intro w'; go_simp; with_reducible rfl); rotate_left; (focus simp only [Act.put, sA, sZ, sS, i64_w, i32_w]; rfl); refine puY (v := ?_) (a' := ?_) 9 4 (mB 10 0x3ff) rfl rfl HT_.out (by kernel_rfl) (fun _ _ _ h => h) (by rfl) ?_ ?_ ?_; rotate_left; (focus intro w'; go_simp; with_reducible rfl); rotate_left; (focus simp only [Act.put, sA, sZ, sS, i64_w, i32_w]; rfl)
                  refine done_ (done_of HT_.out (by kernel_rfl)) ?_
                  try go_wp2
                  refine bodyPost_ret (results_ctt rfl _ _ gb202 28 #[.slice (some ⟨go28, 0, none⟩) t207.length co37, .int .i64 ji32] (0, 0) _ rfl (by (with_reducible repeat (first | refine kn ?_ _ | refine kd ?_ | refine ka ?_ _)); refine blk_put (cs := #[.slice (some ⟨go28, 0, none⟩) t207.length co37, .int .i64 0]) ?_ 1 _ rfl; (with_reducible repeat (first | refine kn ?_ _ | refine kd ?_ | refine ka ?_ _)); refine blk_put (cs := #[.slice none 0 0, .int .i64 0]) ?_ 0 _ rfl; (with_reducible repeat (first | refine kn ?_ _ | refine kd ?_ | refine ka ?_ _)); exact BK202.out) Try.underlying28 rfl (by kernel_rfl)) rfl ?_
                  exact ⟨_, by first | rfl | (simp [errW_none, errW_some] <;> rfl) | (simp only [← hji32]; first | rfl | (simp [errW_none, errW_some] <;> rfl)) | (simp [*, errW_none, errW_some] <;> rfl), by (with_reducible repeat (first | apply Ra | apply Rn | apply Rd)); exact Rm (Rf (p := ⟨gb202, 1, none⟩) (Rf (p := ⟨gb202, 0, none⟩) (Rt HO209.out BK202.out (by decide)) (fun _ hk => hk.2) (.slice (some ⟨go28, 0, none⟩) t207.length co37)) (fun _ hk => hk.2) (.int .i64 ji32)) (fun _ hk => trivial), by repeat (first | (with_reducible first | exact HB.out | apply ba | apply bn | apply bd | refine bs ?_ GE201.out | refine bs ?_ GE202.out | refine bs ?_ GE211.out) | exact HB.out)⟩
                · rw [if_neg c31] at H
                  exact absurd H (by simp)
              · rw [if_neg c30] at H
                exact absurd H (by simp)
          · rw [if_neg c26] at H
            exact absurd H (by simp)
        · rw [if_neg c25] at H
          exact absurd H (by simp)

end Go.Proofs.Ytfbdkjdockbfdab.GQ
