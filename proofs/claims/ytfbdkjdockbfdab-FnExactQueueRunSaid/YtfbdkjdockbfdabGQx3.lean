-- Written by this session's program hp.py (over the kit's printer) and out of its own hand texts. Not trusted: Lean checks it.
import Derived.Test.YtfbdkjdockbfdabGQx0
namespace Go.Proofs.Ytfbdkjdockbfdab.GQ
open Go.RowKit Go.Proofs.YtfbdkjdockbfdabW.PrintWords Go.Proofs.YtfbdkjdockbfdabW.PrintLast Go.Proofs.YtfbdkjdockbfdabW.PrintMore
attribute [local go_sem] max2_int min2_int max_two min_two max_three min_three max_four min_four   -- for this text's walks alone
set_option linter.unusedVariables false
set_option linter.unusedSimpArgs false

/-! ### spec_l11Copy: function 17 -/
open List renaming setIfInBounds_toArray → sA, set_cons_zero → sZ, set_cons_succ → sS
open Go.Proofs.YtfbdkjdockbfdabW.PrintWords.Aside0 renaming mk → AM
open Go.Proofs.YtfbdkjdockbfdabW.PrintWords renaming below_alloc → ba, pw_below_drewN → bn, below_drew1 → bd, below_set → bs, blk_drewN → kn, blk_drew → kd, blk_alloc → ka, blk_cell → kc, blk_frozen → kz, blk_below → kb, below_size → bz, below_step → bp, box_event → xe, gate_dst → gd
open Go.Proofs.YtfbdkjdockbfdabW.PrintWords.Kd renaming R_alloc → Ra, R_drewN → Rn, R_drew → Rd, R_mono → Rm, R_far → Rf, R_types → Rt, R_lower → Rl, C_alloc → Ca, C_drewN → Cn, C_drew → Cd, C_below → Cb, R_slice → Ri
def spec_l11Copy.f (l0_0 : List (S51)) (a0_1 : Int) : Option ((List (S51)) × Int) := (some (([] : List (S51)) : List (S51))).bind fun y113 => (if y113.length + l0_0.length < 4398046511104 then (some ((y113 ++ l0_0), a0_1)) else (none))
def spec_l11Copy.T1 : Bool × List (List Nat × List Nat) := (true, [([], []), ([], []), ([1], [1]), ([0, 2], [0, 2]), ([], []), ([4], [4]), ([3, 5], [3, 5]), ([6, 3, 0, 1, 2, 3, 4, 5, 6], [6])])
def spec_l11Copy.B1 : List Nat := [0, 0, 2, 7, 0, 16, 63, 127]
theorem spec_l11Copy.tab1 : rtab .any (opsOf Try.f17 1) = spec_l11Copy.T1 := by kernel_rfl
theorem spec_l11Copy.bits1 : waitsOk spec_l11Copy.T1.2 spec_l11Copy.B1 = true := by kernel_rfl
set_option maxHeartbeats 8000000 in
set_option maxRecDepth 100000 in
theorem spec_l11Copy.calls (A0_0 : Option Addr) (c0_0 : Nat) (l0_0 : List (S51)) (a0_1 : Int) (r1 : List (S51)) (r2 : Int) (w : World) (hr0_0 : Kd.C k51 w A0_0 l0_0.length l0_0) (hc0_0 : l0_0.length ≤ c0_0) (h : spec_l11Copy.f l0_0 a0_1 = some (r1, r2)) :
    Calls Try.prog 17 #[.agg #[.slice A0_0 l0_0.length c0_0, .int .i64 a0_1]] w fun e w' => ∃ v0_ : Value, e = .returned (.agg #[v0_, .int .i64 r2]) ∧ Kd.R k51 51 w' w.heap.size (fun _ => True) v0_ r1 ∧ Below w.heap.size w w' := by
  have hu28 := Try.underlying28
  have HR0_0 := AM hr0_0
  have HC0_0 := AM hc0_0
  clear hr0_0 hc0_0
  have HB := AM (Below.refl w.heap.size w)
  have H : ((some (([] : List (S51)) : List (S51))).bind fun y113 => (if y113.length + l0_0.length < 4398046511104 then (some ((y113 ++ l0_0), a0_1)) else (none))) = some (r1, r2) := h
  clear h
  obtain ⟨y113, hy113⟩ : ∃ y_ : List (S51), y_ = (([] : List (S51))) := ⟨_, rfl⟩
  replace H : (if y113.length + l0_0.length < 4398046511104 then (some ((y113 ++ l0_0), a0_1)) else (none)) = some (r1, r2) := by first | (rw [hy113]; with_reducible exact H) | (have H2_ := (Option.bind_some _ _).symm.trans H; rw [hy113]; with_reducible exact H2_) | (have H2_ := (Option.bind_some _ _).symm.trans H; with_reducible exact H2_) | with_reducible exact H | (rw [hy113]; exact H) | exact H
  have Ny113 := AM hy113
  clear hy113
  by_cases c2 : y113.length + l0_0.length < 4398046511104
  · rw [if_pos c2] at H
    have LMc2 := AM c2
    clear c2
    obtain ⟨y116, hy116⟩ : ∃ y_ : List (S51), y_ = (y113 ++ l0_0) := ⟨_, rfl⟩
    replace H : (some (y116, a0_1)) = some (r1, r2) := by first | (rw [hy116]; with_reducible exact H) | (have H2_ := (Option.bind_some _ _).symm.trans H; rw [hy116]; with_reducible exact H2_) | (have H2_ := (Option.bind_some _ _).symm.trans H; with_reducible exact H2_) | with_reducible exact H | (rw [hy116]; exact H) | exact H
    have Ny116 := AM hy116
    clear hy116
    simp only [Option.some.injEq, Prod.mk.injEq] at H
    obtain ⟨rfl, rfl⟩ := H
    go_enter Try.func17, Try.ntmps17
    try go_wp2_with (first | ((with_reducible refine gd (N := 1) rfl ?_); refine xe ?hg (N := 1) ?hd (cs := #[.slice A0_0 l0_0.length c0_0, .int .i64 a0_1]) (t := 28) ?hr ?_; (case hd => rfl); (case hg => rfl); (case hr => first | (go_simp; done) | (go_simp; rfl)); intro gb111 hg w3 hbox hb; have n0_ := AM (bp (lfB HB.out) hb); have n1_ := AM (hbox); have n2_ := AM ((by rw [hg]; exact (bz (lfB HB.out)) : w.heap.size ≤ gb111)); have n3_ := AM ((by rw [hg]; exact (bz (lfB HB.out)) : w.heap.size ≤ gb111)); clear HB; revert n0_ n1_ n2_ n3_; intro HB BK111 GW111 GE111; clear hb hbox hg) | ((with_reducible refine gd (N := 2) rfl ?_); refine xe ?hg (N := 2) ?hd (cs := #[.slice none 0 0, .int .i64 0]) (t := 28) ?hr ?_; (case hd => rfl); (case hg => rfl); (case hr => first | (go_simp; done) | (go_simp; rfl)); intro gb112 hg w4 hbox hb; have n0_ := AM (kb (g := gb111) (o := .cells #[.slice A0_0 l0_0.length c0_0, .int .i64 a0_1] 28 (0, 0)) (lfK BK111.out) hb); have n1_ := AM (bp (by repeat (first | (with_reducible first | exact HB.out | apply ba | apply bn | apply bd | refine bs ?_ GE111.out) | exact HB.out)) hb); have n2_ := AM (hbox); have n3_ := AM ((by rw [hg]; exact (bz (by repeat (first | (with_reducible first | exact HB.out | apply ba | apply bn | apply bd | refine bs ?_ GE111.out) | exact HB.out))) : w.heap.size ≤ gb112)); have n4_ := AM ((by rw [hg]; exact (bz (by repeat (first | (with_reducible first | exact HB.out | apply ba | apply bn | apply bd | refine bs ?_ GE111.out) | exact HB.out))) : w.heap.size ≤ gb112)); have n5_ := AM ((by rw [hg]; exact Nat.ne_of_lt (blk_lt (g := gb111) (o := .cells #[.slice A0_0 l0_0.length c0_0, .int .i64 a0_1] 28 (0, 0)) (lfK BK111.out)) : gb111 ≠ gb112)); have n6_ := AM ((by rw [hg]; exact Nat.ne_of_gt (blk_lt (g := gb111) (o := .cells #[.slice A0_0 l0_0.length c0_0, .int .i64 a0_1] 28 (0, 0)) (lfK BK111.out)) : gb112 ≠ gb111)); clear BK111 HB; revert n0_ n1_ n2_ n3_ n4_ n5_ n6_; intro BK111 HB BK112 GW112 GE112 NB111_112 NB112_111; clear hb hbox hg))
    have n0_ := AM (kd BK111.out)
    have n1_ := AM (kd BK112.out)
    have n2_ := AM (bd HB.out)
    clear BK111 BK112 HB
    revert n0_ n1_ n2_
    intro BK111 BK112 HB
    refine start_ (n := 8) (S := fun w' => w'.cell? ⟨gb111, 0, none⟩ = some (.slice A0_0 l0_0.length c0_0) ∧ w'.cell? ⟨gb111, 1, none⟩ = some (.int .i64 a0_1)) (ds := []) #[false, false, false, false, false, false, false, false] (by kernel_rfl) rfl rfl ⟨(kc BK111.out 0).trans rfl, (kc BK111.out 1).trans rfl⟩ (fun hHeld => ?_); refine with_tabW spec_l11Copy.tab1 spec_l11Copy.bits1 (fun HT_ HW_ => ?_)
    generalize w4.drew = w5 at BK111 BK112 HB hHeld ⊢
    refine puY (v := ?_) (a' := ?_) 1 4 #[false, true, false, false, false, false, false, false] rfl rfl HT_.out (by kernel_rfl) (fun _ _ _ h => h) (by rfl) ?_ ?_ ?_; rotate_left; (focus intro w'; go_simp; with_reducible rfl); rotate_left; (focus simp only [Act.put, sA, sZ, sS, i64_w, i32_w]; rfl); refine puY (v := ?_) (a' := ?_) 4 7 #[false, true, false, false, true, false, false, false] rfl rfl HT_.out (by kernel_rfl) (fun _ _ _ h => h) (by rfl) ?_ ?_ ?_; rotate_left; (focus intro w'; go_simp; with_reducible rfl); rotate_left; (focus simp only [Act.put, sA, sZ, sS, i64_w, i32_w]; rfl)
    refine take_ (i := 2) (N := some 5) (v := ?_) (a' := ?_) #[false, true, true, false, true, false, false, false] rfl rfl (take_ofW HT_.out HW_.out (by kernel_rfl)) (fun _ _ _ h => h) (Or.inl ⟨by rfl, ?_⟩) hHeld ?_ ?_
    rotate_left
    · rintro w' ⟨s0, s1⟩; go_simp; with_reducible rfl
    rotate_left
    · simp only [Act.put, sA, sZ, sS, i64_w, i32_w]; rfl
    refine take_ (i := 5) (N := some 8) (v := ?_) (a' := ?_) #[false, true, true, false, true, true, false, false] rfl rfl (take_ofW HT_.out HW_.out (by kernel_rfl)) (fun _ _ _ h => h) (Or.inl ⟨by rfl, ?_⟩) hHeld ?_ ?_
    rotate_left
    · rintro w' ⟨s0, s1⟩; go_simp; with_reducible rfl
    rotate_left
    · simp only [Act.put, sA, sZ, sS, i64_w, i32_w]; rfl
    refine one_ (i := 0) (N := some 3) #[true, true, true, false, true, true, false, false] rfl rfl (one_of HT_.out (by kernel_rfl)) (by decide) (fun K hK => ?_)
    refine Kd.R_lit_step k51 _ 51 ?hg (N := 3) ?hd (xs := ([] : List (S51))) (inner := []) (ok := fun _ => True) (okp := fun _ => True) ?hr ?hp (fun _ hk => hk) trivial (Below.refl _ _) (Nat.le_refl _) (by simp) ?_; (case hd => rfl); (case hg => rfl); (case hr => first | (go_simp; done) | (go_simp; rfl)); (case hp => exact (Reps.none _ _))
    intro v114 w6 ho7 hb hg_ hnew_
    clear hg_ hnew_
    (first | rw [← Ny113.out] at ho7 | (simp only [Int.reduceToNat] at ho7; rw [← Ny113.out] at ho7))
    have n0_ := AM (Rl ho7 (bz (by repeat (first | (with_reducible first | exact HB.out | apply ba | apply bn | apply bd | refine bs ?_ GE111.out | refine bs ?_ GE112.out) | exact HB.out))))
    have n1_ := AM (kb (g := gb111) (o := .cells #[.slice A0_0 l0_0.length c0_0, .int .i64 a0_1] 28 (0, 0)) (lfK BK111.out) hb)
    have n2_ := AM (kb (g := gb112) (o := .cells #[.slice none 0 0, .int .i64 0] 28 (0, 0)) (lfK BK112.out) hb)
    have n3_ := AM (bp (by repeat (first | (with_reducible first | exact HB.out | apply ba | apply bn | apply bd | refine bs ?_ GE111.out | refine bs ?_ GE112.out) | exact HB.out)) hb)
    clear BK111 BK112 HB
    revert n0_ n1_ n2_ n3_
    intro HO115 BK111 BK112 HB
    clear hb ho7
    refine hK.out _ _ ⟨(kc BK111.out 0).trans rfl, (kc BK111.out 1).trans rfl⟩ (fun hHeld => ?_)
    clear hK K
    refine norm_ (a' := ?_) ?_ ?_
    rotate_left
    · show Act.put _ (some 3) _ = _
      simp only [Act.put, sA, sZ, sS, i64_w, i32_w]
      rfl
    refine one_ (i := 3) (N := some 6) #[true, true, true, true, true, true, false, false] rfl rfl (one_of HT_.out (by kernel_rfl)) (by decide) (fun K hK => ?_)
    refine Kd.R_append_rows_step k51 (w0 := w) w.heap.size (by rfl) (.tmp 3) (.tmp 5) 26 51 (.agg #[(.int .i64 0), (.int .i64 0), (.int .i64 0), (.bool false)]) 32 rfl Try.underlying26 info51 rfl (by decide) (by omega) v114 y113 l0_0 _ _ _ (fun _ => True) (fun _ => False) rfl rfl ?aO ?aR (fun _ _ h => h) (fun _ h => h.elim) ?aF ?aB ?aS ?aL ?_
    (case aR => repeat (first | exact (Cb HR0_0.out HB.out) | (with_reducible refine Ca ?_ _) | (with_reducible refine Cn ?_ _) | (with_reducible refine Cd ?_)))
    (case aB => exact (by repeat (first | (with_reducible first | exact HB.out | apply ba | apply bn | apply bd | refine bs ?_ GE111.out | refine bs ?_ GE112.out) | exact HB.out)))
    (case aF => exact (fun _ _ => trivial))
    (case aO => exact (lfR HO115.out))
    (case aS => exact (bz (by repeat (first | (with_reducible first | exact HB.out | apply ba | apply bn | apply bd | refine bs ?_ GE111.out | refine bs ?_ GE112.out) | exact HB.out))))
    (case aL => have := LMc2.out; omega)
    intro v117 w8 ho hb hg hat
    rw [← Ny116.out] at ho
    have n0_ := AM (blk_grown (g := gb111) (o := .cells #[.slice A0_0 l0_0.length c0_0, .int .i64 a0_1] 28 (0, 0)) (lfK BK111.out) hg (Kd.R_ne HO115.out BK111.out (by decide)))
    have n1_ := AM (blk_grown (g := gb112) (o := .cells #[.slice none 0 0, .int .i64 0] 28 (0, 0)) (lfK BK112.out) hg (Kd.R_ne HO115.out BK112.out (by decide)))
    have n2_ := AM (hb)
    have n3_ := AM (ho)
    clear BK111 BK112 HB HO115
    revert n0_ n1_ n2_ n3_
    intro BK111 BK112 HB HO118
    clear ho hb hg hat
    obtain ⟨Ao9, co9, eo9⟩ := Ri HO118.out
    (first | subst eo9 | (injection eo9 with f1_ f2_ f3_; have f4_ := f1_.symm; have f5_ := f3_.symm; clear f1_ f2_ f3_; subst f4_; subst f5_))
    refine hK.out _ _ ⟨(kc BK111.out 0).trans rfl, (kc BK111.out 1).trans rfl⟩ (fun hHeld => ?_)
    clear hK K
    refine norm_ (a' := ?_) ?_ ?_
    rotate_left
    · show Act.put _ (some 6) _ = _
      simp only [Act.put, sA, sZ, sS, i64_w, i32_w]
      rfl
    refine puY (v := ?_) (a' := ?_) 6 9 #[true, true, true, true, true, true, true, false] rfl rfl HT_.out (by kernel_rfl) (fun _ _ _ h => h) (by rfl) ?_ ?_ ?_; rotate_left; (focus intro w'; go_simp; with_reducible rfl); rotate_left; (focus simp only [Act.put, sA, sZ, sS, i64_w, i32_w]; rfl)
    refine one_ (i := 7) (N := none) #[true, true, true, true, true, true, true, true] rfl rfl (one_of HT_.out (by kernel_rfl)) (by decide) (fun K hK => ?_)
    have hs10 : w8.cell? ⟨gb112, 0, none⟩ = some (.slice none 0 0) := (kc BK112.out 0).trans rfl
    have hfs10 := kz BK112.out 0
    have hns10_0 := NB111_112.out
    have hms10_0 := NB112_111.out
    have hs11 : w8.cell? ⟨gb112, 1, none⟩ = some (.int .i64 0) := (kc BK112.out 1).trans rfl
    have hfs11 := kz BK112.out 1
    have hns11_0 := NB111_112.out
    have hms11_0 := NB112_111.out
    refine skip_ (w1 := ?_) (by rfl) rfl ?_ ?_
    rotate_left
    · go_simp
      rfl
    refine hK.out _ _ ⟨((cell_far (p := ⟨gb112, _, none⟩) NB111_112.out _).trans (((cell_far (p := ⟨gb112, _, none⟩) NB111_112.out _).trans (hHeld.1)))), ((cell_far (p := ⟨gb112, _, none⟩) NB111_112.out _).trans (((cell_far (p := ⟨gb112, _, none⟩) NB111_112.out _).trans (hHeld.2))))⟩ (fun hHeld => ?_)
    clear hK K
    refine done_ (done_of HT_.out (by kernel_rfl)) ?_
    try go_wp2
    refine bodyPost_ret (results_cell_row rfl _ _ gb112 28 #[.slice Ao9 y116.length co9, .int .i64 a0_1] (0, 0) _ rfl (by (with_reducible repeat (first | refine kn ?_ _ | refine kd ?_ | refine ka ?_ _)); refine blk_put (cs := #[.slice Ao9 y116.length co9, .int .i64 0]) ?_ 1 _ rfl; (with_reducible repeat (first | refine kn ?_ _ | refine kd ?_ | refine ka ?_ _)); refine blk_put (cs := #[.slice none 0 0, .int .i64 0]) ?_ 0 _ rfl; (with_reducible repeat (first | refine kn ?_ _ | refine kd ?_ | refine ka ?_ _)); exact BK112.out) Try.underlying28 rfl (by kernel_rfl)) rfl ?_
    exact ⟨_, by first | rfl | (simp [errW_none, errW_some] <;> rfl) | (simp [*, errW_none, errW_some] <;> rfl), by (with_reducible repeat (first | apply Ra | apply Rn | apply Rd)); exact Rm (Rf (p := ⟨gb112, 1, none⟩) (Rf (p := ⟨gb112, 0, none⟩) (Rt HO118.out BK112.out (by decide)) (fun _ hk => hk.2) (.slice Ao9 y116.length co9)) (fun _ hk => hk.2) (.int .i64 a0_1)) (fun _ hk => trivial), by repeat (first | (with_reducible first | exact HB.out | apply ba | apply bn | apply bd | refine bs ?_ GE111.out | refine bs ?_ GE112.out) | exact HB.out)⟩
  · rw [if_neg c2] at H
    exact absurd H (by simp)

/-! ### spec_l11Next: function 27 -/
open Go.Proofs.YtfbdkjdockbfdabW.PrintWords.Aside0 renaming mk → AM
open Go.Proofs.YtfbdkjdockbfdabW.PrintWords renaming below_alloc → ba, pw_below_drewN → bn, below_drew1 → bd, below_set → bs, blk_drewN → kn, blk_drew → kd, blk_alloc → ka, blk_cell → kc, blk_frozen → kz, below_size → bz, below_step → bp, box_event → xe, gate_dst → gd
def spec_l11Next.l0 : Nat → Int → Int → List (S51) → Int → Option (Int)
  | 0, _, _, _, _ => none
  | k + 1, x3, x4, x120000, x120001 => if x4 < (x120000.length : Int) then (if 0 ≤ x4 then (if (rd_T51 x120000 x4).f3 = true then (if x3 < 0 then (spec_l11Next.l0 k x4 (wrap64 (x4 + 1)) x120000 x120001) else (if 0 ≤ x3 then (if x3 < (x120000.length : Int) then (if ((rd_T51 x120000 x4).f2) < ((rd_T51 x120000 x3).f2) then (spec_l11Next.l0 k x4 (wrap64 (x4 + 1)) x120000 x120001) else (spec_l11Next.l0 k x3 (wrap64 (x4 + 1)) x120000 x120001)) else (none)) else (none))) else (spec_l11Next.l0 k x3 (wrap64 (x4 + 1)) x120000 x120001)) else (none)) else (some x3)
def spec_l11Next.f (k : Nat) (l0_0 : List (S51)) (a0_1 : Int) : Option (Int) := spec_l11Next.l0 k (-1) 0 l0_0 a0_1
theorem spec_l11Next.mono_l : ∀ k, (∀ y0 y1 y2 y3, LeO (spec_l11Next.l0 k y0 y1 y2 y3) (spec_l11Next.l0 (k + 1) y0 y1 y2 y3))
  | 0 => fun _ _ _ _ r h => by simp [spec_l11Next.l0] at h
  | k + 1 => by
    have ih0 := spec_l11Next.mono_l k
    · intro y0 y1 y2 y3
      unfold spec_l11Next.l0
      repeat' first
      | (with_reducible exact ih0 _ _ _ _)
      | (with_reducible exact LeO.refl _)
      | (with_reducible exact LeO.none _)
      | (with_reducible refine LeO.ite ?_ ?_)
      | (with_reducible refine LeO.bind ?_ (fun _ => ?_))
      | exact ih0 _ _ _ _
      | exact LeO.none _
      | refine LeO.ite ?_ ?_
      | refine LeO.bind ?_ (fun _ => ?_)
theorem spec_l11Next.mono : ∀ a0 a1 k, LeO (spec_l11Next.f k a0 a1) (spec_l11Next.f (k + 1) a0 a1) := by
  intro a0 a1 k
  have ih0 := spec_l11Next.mono_l k
  unfold spec_l11Next.f
  repeat' first
      | (with_reducible exact ih0 _ _ _ _)
      | (with_reducible exact LeO.refl _)
      | (with_reducible exact LeO.none _)
      | (with_reducible refine LeO.ite ?_ ?_)
      | (with_reducible refine LeO.bind ?_ (fun _ => ?_))
      | exact ih0 _ _ _ _
      | exact LeO.none _
      | refine LeO.ite ?_ ?_
      | refine LeO.bind ?_ (fun _ => ?_)
set_option maxHeartbeats 8000000 in
set_option maxRecDepth 100000 in
theorem spec_l11Next.calls (k : Nat) (A0_0 : Option Addr) (c0_0 : Nat) (l0_0 : List (S51)) (a0_1 : Int) (r : Int) (w : World) (hr0_0 : Kd.C k51 w A0_0 l0_0.length l0_0) (hc0_0 : l0_0.length ≤ c0_0) (h : spec_l11Next.f k l0_0 a0_1 = some r) :
    Calls Try.prog 27 #[.agg #[.slice A0_0 l0_0.length c0_0, .int .i64 a0_1]] w fun e w' => e = .returned (.int .i64 r) ∧ Below w.heap.size w w' := by
  have hu28 := Try.underlying28
  have HR0_0 := AM hr0_0
  have HC0_0 := AM hc0_0
  clear hr0_0 hc0_0
  have HB := AM (Below.refl w.heap.size w)
  have H : (spec_l11Next.l0 k (-1) 0 l0_0 a0_1) = some r := h
  clear h
  have H' := AM H
  clear H
  go_enter Try.func27, Try.ntmps27
  go_wp2_with (first | ((with_reducible refine gd (N := 1) rfl ?_); refine xe ?hg (N := 1) ?hd (cs := #[.slice A0_0 l0_0.length c0_0, .int .i64 a0_1]) (t := 28) ?hr ?_; (case hd => rfl); (case hg => rfl); (case hr => first | (go_simp; done) | (go_simp; rfl)); intro gb119 hg w2 hbox hb; have n0_ := AM (bp (lfB HB.out) hb); have n1_ := AM (hbox); have n2_ := AM ((by rw [hg]; exact (bz (lfB HB.out)) : w.heap.size ≤ gb119)); have n3_ := AM ((by rw [hg]; exact (bz (lfB HB.out)) : w.heap.size ≤ gb119)); clear HB; revert n0_ n1_ n2_ n3_; intro HB BK119 GW119 GE119; clear hb hbox hg))
  repeat (go_quiet (first | ((with_reducible refine gd (N := 1) rfl ?_); refine xe ?hg (N := 1) ?hd (cs := #[.slice A0_0 l0_0.length c0_0, .int .i64 a0_1]) (t := 28) ?hr ?_; (case hd => rfl); (case hg => rfl); (case hr => first | (go_simp; done) | (go_simp; rfl)); intro gb119 hg w2 hbox hb; have n0_ := AM (bp (lfB HB.out) hb); have n1_ := AM (hbox); have n2_ := AM ((by rw [hg]; exact (bz (lfB HB.out)) : w.heap.size ≤ gb119)); have n3_ := AM ((by rw [hg]; exact (bz (lfB HB.out)) : w.heap.size ≤ gb119)); clear HB; revert n0_ n1_ n2_ n3_; intro HB BK119 GW119 GE119; clear hb hbox hg)); try go_wp2_with (first | ((with_reducible refine gd (N := 1) rfl ?_); refine xe ?hg (N := 1) ?hd (cs := #[.slice A0_0 l0_0.length c0_0, .int .i64 a0_1]) (t := 28) ?hr ?_; (case hd => rfl); (case hg => rfl); (case hr => first | (go_simp; done) | (go_simp; rfl)); intro gb119 hg w2 hbox hb; have n0_ := AM (bp (lfB HB.out) hb); have n1_ := AM (hbox); have n2_ := AM ((by rw [hg]; exact (bz (lfB HB.out)) : w.heap.size ≤ gb119)); have n3_ := AM ((by rw [hg]; exact (bz (lfB HB.out)) : w.heap.size ≤ gb119)); clear HB; revert n0_ n1_ n2_ n3_; intro HB BK119 GW119 GE119; clear hb hbox hg)))
  go_loopg [3, 4] k (fun kq v3 v4 w' => ∃ (x3_1 : Int) (x4_1 : Int), v3 = .int .i64 x3_1 ∧ v4 = .int .i64 x4_1 ∧ Aside0 (spec_l11Next.l0 kq x3_1 x4_1 l0_0 a0_1 = some r) ∧ Aside0 (kq ≤ k) ∧ Aside0 (w'.heap[gb119]? = some (.cells #[(.slice A0_0 l0_0.length c0_0), .int .i64 a0_1] 28 (0, 0))) ∧ Aside0 (Below w.heap.size w w'))
  case atStart => exact ⟨((-1)), (0), (by first | rfl | (simp; done) | (simp [*]; done)), (by first | rfl | (simp; done) | (simp [*]; done)), H', ⟨Nat.le_refl _⟩, ⟨by (with_reducible repeat (first | refine kn ?_ _ | refine kd ?_ | refine ka ?_ _)); exact BK119.out⟩, ⟨by repeat (first | (with_reducible first | exact HB.out | apply ba | apply bn | apply bd | refine bs ?_ GE119.out) | exact HB.out)⟩⟩
  case round =>
    clear H'
    obtain ⟨x3_1, x4_1, rfl, rfl, HA, HK1, BK119, HB⟩ := hrel
    cases gk with
    | zero => exact absurd HA.out (by simp [spec_l11Next.l0])
    | succ k1 =>
      have H := HA.out
      clear HA
      simp only [spec_l11Next.l0] at H
      by_cases c3 : x4_1 < (l0_0.length : Int)
      · rw [if_pos c3] at H
        have c3b0 : decide (x4_1 < (l0_0.length : Int)) = true := decide_eq_true c3
        clear c3
        by_cases c4 : 0 ≤ x4_1
        · rw [if_pos c4] at H
          have c4b0 : decide (0 ≤ x4_1) = true := decide_eq_true c4
          clear c4
          obtain ⟨bq5, hbq5⟩ : ∃ b_ : Bool, b_ = ((rd_T51 l0_0 x4_1).f3) := ⟨_, rfl⟩
          replace H : (if bq5 = true then (if x3_1 < 0 then (spec_l11Next.l0 k1 x4_1 (wrap64 (x4_1 + 1)) l0_0 a0_1) else (if 0 ≤ x3_1 then (if x3_1 < (l0_0.length : Int) then (if ((rd_T51 l0_0 x4_1).f2) < ((rd_T51 l0_0 x3_1).f2) then (spec_l11Next.l0 k1 x4_1 (wrap64 (x4_1 + 1)) l0_0 a0_1) else (spec_l11Next.l0 k1 x3_1 (wrap64 (x4_1 + 1)) l0_0 a0_1)) else (none)) else (none))) else (spec_l11Next.l0 k1 x3_1 (wrap64 (x4_1 + 1)) l0_0 a0_1)) = some r := by rw [← hbq5] at H; exact H
          have Nbq5 := AM hbq5
          clear hbq5
          by_cases c6 : bq5 = true
          · subst c6
            have H1 : (if x3_1 < 0 then (spec_l11Next.l0 k1 x4_1 (wrap64 (x4_1 + 1)) l0_0 a0_1) else (if 0 ≤ x3_1 then (if x3_1 < (l0_0.length : Int) then (if ((rd_T51 l0_0 x4_1).f2) < ((rd_T51 l0_0 x3_1).f2) then (spec_l11Next.l0 k1 x4_1 (wrap64 (x4_1 + 1)) l0_0 a0_1) else (spec_l11Next.l0 k1 x3_1 (wrap64 (x4_1 + 1)) l0_0 a0_1)) else (none)) else (none))) = some r := by rw [if_pos rfl] at H; exact H
            clear H
            have H := H1
            clear H1
            by_cases c7 : x3_1 < 0
            · rw [if_pos c7] at H
              have c7b0 : decide (x3_1 < 0) = true := decide_eq_true c7
              clear c7
              have H' := AM H
              clear H
              have hcz8_0 : wr.cell? ⟨gb119, 0, none⟩ = some (.slice A0_0 l0_0.length c0_0) := (kc BK119.out 0).trans rfl
              have hcz8_1 : wr.cell? ⟨gb119, 1, none⟩ = some (.int .i64 a0_1) := (kc BK119.out 1).trans rfl
              have hfz8_0 := kz BK119.out 0
              have hfz8_1 := kz BK119.out 1
              have p120 : 0 ≤ (x4_1 : Int) := of_decide_eq_true (by first | (with_reducible assumption) | assumption)
              have q120 : x4_1 < (l0_0.length : Int) := of_decide_eq_true (by first | (with_reducible assumption) | assumption)
              obtain ⟨ad120, e120, hx120_0, hx120_1, hx120_2, hx120_3⟩ := at_T51 HR0_0.out x4_1 p120 q120
              (try rw [← Nbq5.out] at hx120_3)
              cases e120
              replace hx120_0 := (HB.out.cell (World.block_lt_of_cell? w _ hx120_0)).trans hx120_0
              replace hx120_1 := (HB.out.cell (World.block_lt_of_cell? w _ hx120_1)).trans hx120_1
              replace hx120_2 := (HB.out.cell (World.block_lt_of_cell? w _ hx120_2)).trans hx120_2
              replace hx120_3 := (HB.out.cell (World.block_lt_of_cell? w _ hx120_3)).trans hx120_3
              replace p120 := eq_true p120
              replace q120 := eq_true q120
              go_wp2
              repeat (go_quiet (fail); try go_wp2)
              go_roundg k1
              case measure => have := HK1.out; omega
              case rel => exact ⟨(x4_1), (wrap64 (x4_1 + 1)), (by first | rfl | (simp; done) | (simp [*]; done)), (by first | rfl | (simp; done) | (simp [*]; done)), H', ⟨by have := HK1.out; omega⟩, ⟨by (with_reducible repeat (first | refine kn ?_ _ | refine kd ?_ | refine ka ?_ _)); exact BK119.out⟩, ⟨by repeat (first | (with_reducible first | exact HB.out | apply ba | apply bn | apply bd | refine bs ?_ GE119.out) | exact HB.out)⟩⟩
            · rw [if_neg c7] at H
              have c7b0 : decide (x3_1 < 0) = false := decide_eq_false c7
              clear c7
              by_cases c9 : 0 ≤ x3_1
              · rw [if_pos c9] at H
                have c9b0 : decide (0 ≤ x3_1) = true := decide_eq_true c9
                clear c9
                by_cases c10 : x3_1 < (l0_0.length : Int)
                · rw [if_pos c10] at H
                  have c10b0 : decide (x3_1 < (l0_0.length : Int)) = true := decide_eq_true c10
                  clear c10
                  by_cases c11 : ((rd_T51 l0_0 x4_1).f2) < ((rd_T51 l0_0 x3_1).f2)
                  · rw [if_pos c11] at H
                    have c11b0 : decide (((rd_T51 l0_0 x4_1).f2) < ((rd_T51 l0_0 x3_1).f2)) = true := decide_eq_true c11
                    clear c11
                    have H' := AM H
                    clear H
                    have hcz12_0 : wr.cell? ⟨gb119, 0, none⟩ = some (.slice A0_0 l0_0.length c0_0) := (kc BK119.out 0).trans rfl
                    have hcz12_1 : wr.cell? ⟨gb119, 1, none⟩ = some (.int .i64 a0_1) := (kc BK119.out 1).trans rfl
                    have hfz12_0 := kz BK119.out 0
                    have hfz12_1 := kz BK119.out 1
                    have p120 : 0 ≤ (x4_1 : Int) := of_decide_eq_true (by first | (with_reducible assumption) | assumption)
                    have q120 : x4_1 < (l0_0.length : Int) := of_decide_eq_true (by first | (with_reducible assumption) | assumption)
                    obtain ⟨ad120, e120, hx120_0, hx120_1, hx120_2, hx120_3⟩ := at_T51 HR0_0.out x4_1 p120 q120
                    (try rw [← Nbq5.out] at hx120_3)
                    cases e120
                    replace hx120_0 := (HB.out.cell (World.block_lt_of_cell? w _ hx120_0)).trans hx120_0
                    replace hx120_1 := (HB.out.cell (World.block_lt_of_cell? w _ hx120_1)).trans hx120_1
                    replace hx120_2 := (HB.out.cell (World.block_lt_of_cell? w _ hx120_2)).trans hx120_2
                    replace hx120_3 := (HB.out.cell (World.block_lt_of_cell? w _ hx120_3)).trans hx120_3
                    replace p120 := eq_true p120
                    replace q120 := eq_true q120
                    have p121 : 0 ≤ (x4_1 : Int) := of_decide_eq_true (by first | (with_reducible assumption) | assumption)
                    have q121 : x4_1 < (l0_0.length : Int) := of_decide_eq_true (by first | (with_reducible assumption) | assumption)
                    obtain ⟨ad121, e121, hx121_0, hx121_1, hx121_2, hx121_3⟩ := at_T51 HR0_0.out x4_1 p121 q121
                    (try rw [← Nbq5.out] at hx121_3)
                    obtain rfl : ad120 = ad121 := (by injection e121)
                    replace hx121_0 := (HB.out.cell (World.block_lt_of_cell? w _ hx121_0)).trans hx121_0
                    replace hx121_1 := (HB.out.cell (World.block_lt_of_cell? w _ hx121_1)).trans hx121_1
                    replace hx121_2 := (HB.out.cell (World.block_lt_of_cell? w _ hx121_2)).trans hx121_2
                    replace hx121_3 := (HB.out.cell (World.block_lt_of_cell? w _ hx121_3)).trans hx121_3
                    replace p121 := eq_true p121
                    replace q121 := eq_true q121
                    have p122 : 0 ≤ (x3_1 : Int) := of_decide_eq_true (by first | (with_reducible assumption) | assumption)
                    have q122 : x3_1 < (l0_0.length : Int) := of_decide_eq_true (by first | (with_reducible assumption) | assumption)
                    obtain ⟨ad122, e122, hx122_0, hx122_1, hx122_2, hx122_3⟩ := at_T51 HR0_0.out x3_1 p122 q122
                    (try rw [← Nbq5.out] at hx122_3)
                    obtain rfl : ad120 = ad122 := (by injection e122)
                    replace hx122_0 := (HB.out.cell (World.block_lt_of_cell? w _ hx122_0)).trans hx122_0
                    replace hx122_1 := (HB.out.cell (World.block_lt_of_cell? w _ hx122_1)).trans hx122_1
                    replace hx122_2 := (HB.out.cell (World.block_lt_of_cell? w _ hx122_2)).trans hx122_2
                    replace hx122_3 := (HB.out.cell (World.block_lt_of_cell? w _ hx122_3)).trans hx122_3
                    replace p122 := eq_true p122
                    replace q122 := eq_true q122
                    go_wp2
                    repeat (go_quiet (fail); try go_wp2)
                    go_roundg k1
                    case measure => have := HK1.out; omega
                    case rel => exact ⟨(x4_1), (wrap64 (x4_1 + 1)), (by first | rfl | (simp; done) | (simp [*]; done)), (by first | rfl | (simp; done) | (simp [*]; done)), H', ⟨by have := HK1.out; omega⟩, ⟨by (with_reducible repeat (first | refine kn ?_ _ | refine kd ?_ | refine ka ?_ _)); exact BK119.out⟩, ⟨by repeat (first | (with_reducible first | exact HB.out | apply ba | apply bn | apply bd | refine bs ?_ GE119.out) | exact HB.out)⟩⟩
                  · rw [if_neg c11] at H
                    have c11b0 : decide (((rd_T51 l0_0 x4_1).f2) < ((rd_T51 l0_0 x3_1).f2)) = false := decide_eq_false c11
                    clear c11
                    have H' := AM H
                    clear H
                    have hcz13_0 : wr.cell? ⟨gb119, 0, none⟩ = some (.slice A0_0 l0_0.length c0_0) := (kc BK119.out 0).trans rfl
                    have hcz13_1 : wr.cell? ⟨gb119, 1, none⟩ = some (.int .i64 a0_1) := (kc BK119.out 1).trans rfl
                    have hfz13_0 := kz BK119.out 0
                    have hfz13_1 := kz BK119.out 1
                    have p120 : 0 ≤ (x4_1 : Int) := of_decide_eq_true (by first | (with_reducible assumption) | assumption)
                    have q120 : x4_1 < (l0_0.length : Int) := of_decide_eq_true (by first | (with_reducible assumption) | assumption)
                    obtain ⟨ad120, e120, hx120_0, hx120_1, hx120_2, hx120_3⟩ := at_T51 HR0_0.out x4_1 p120 q120
                    (try rw [← Nbq5.out] at hx120_3)
                    cases e120
                    replace hx120_0 := (HB.out.cell (World.block_lt_of_cell? w _ hx120_0)).trans hx120_0
                    replace hx120_1 := (HB.out.cell (World.block_lt_of_cell? w _ hx120_1)).trans hx120_1
                    replace hx120_2 := (HB.out.cell (World.block_lt_of_cell? w _ hx120_2)).trans hx120_2
                    replace hx120_3 := (HB.out.cell (World.block_lt_of_cell? w _ hx120_3)).trans hx120_3
                    replace p120 := eq_true p120
                    replace q120 := eq_true q120
                    have p121 : 0 ≤ (x4_1 : Int) := of_decide_eq_true (by first | (with_reducible assumption) | assumption)
                    have q121 : x4_1 < (l0_0.length : Int) := of_decide_eq_true (by first | (with_reducible assumption) | assumption)
                    obtain ⟨ad121, e121, hx121_0, hx121_1, hx121_2, hx121_3⟩ := at_T51 HR0_0.out x4_1 p121 q121
                    (try rw [← Nbq5.out] at hx121_3)
                    obtain rfl : ad120 = ad121 := (by injection e121)
                    replace hx121_0 := (HB.out.cell (World.block_lt_of_cell? w _ hx121_0)).trans hx121_0
                    replace hx121_1 := (HB.out.cell (World.block_lt_of_cell? w _ hx121_1)).trans hx121_1
                    replace hx121_2 := (HB.out.cell (World.block_lt_of_cell? w _ hx121_2)).trans hx121_2
                    replace hx121_3 := (HB.out.cell (World.block_lt_of_cell? w _ hx121_3)).trans hx121_3
                    replace p121 := eq_true p121
                    replace q121 := eq_true q121
                    have p122 : 0 ≤ (x3_1 : Int) := of_decide_eq_true (by first | (with_reducible assumption) | assumption)
                    have q122 : x3_1 < (l0_0.length : Int) := of_decide_eq_true (by first | (with_reducible assumption) | assumption)
                    obtain ⟨ad122, e122, hx122_0, hx122_1, hx122_2, hx122_3⟩ := at_T51 HR0_0.out x3_1 p122 q122
                    (try rw [← Nbq5.out] at hx122_3)
                    obtain rfl : ad120 = ad122 := (by injection e122)
                    replace hx122_0 := (HB.out.cell (World.block_lt_of_cell? w _ hx122_0)).trans hx122_0
                    replace hx122_1 := (HB.out.cell (World.block_lt_of_cell? w _ hx122_1)).trans hx122_1
                    replace hx122_2 := (HB.out.cell (World.block_lt_of_cell? w _ hx122_2)).trans hx122_2
                    replace hx122_3 := (HB.out.cell (World.block_lt_of_cell? w _ hx122_3)).trans hx122_3
                    replace p122 := eq_true p122
                    replace q122 := eq_true q122
                    go_wp2
                    repeat (go_quiet (fail); try go_wp2)
                    go_roundg k1
                    case measure => have := HK1.out; omega
                    case rel => exact ⟨(x3_1), (wrap64 (x4_1 + 1)), (by first | rfl | (simp; done) | (simp [*]; done)), (by first | rfl | (simp; done) | (simp [*]; done)), H', ⟨by have := HK1.out; omega⟩, ⟨by (with_reducible repeat (first | refine kn ?_ _ | refine kd ?_ | refine ka ?_ _)); exact BK119.out⟩, ⟨by repeat (first | (with_reducible first | exact HB.out | apply ba | apply bn | apply bd | refine bs ?_ GE119.out) | exact HB.out)⟩⟩
                · rw [if_neg c10] at H
                  exact absurd H (by simp)
              · rw [if_neg c9] at H
                exact absurd H (by simp)
          · replace c6 := Bool.eq_false_iff.mpr c6
            subst c6
            have H1 : (spec_l11Next.l0 k1 x3_1 (wrap64 (x4_1 + 1)) l0_0 a0_1) = some r := by rw [if_neg (show ¬ (false = true) by decide)] at H; exact H
            clear H
            have H := H1
            clear H1
            have H' := AM H
            clear H
            have hcz14_0 : wr.cell? ⟨gb119, 0, none⟩ = some (.slice A0_0 l0_0.length c0_0) := (kc BK119.out 0).trans rfl
            have hcz14_1 : wr.cell? ⟨gb119, 1, none⟩ = some (.int .i64 a0_1) := (kc BK119.out 1).trans rfl
            have hfz14_0 := kz BK119.out 0
            have hfz14_1 := kz BK119.out 1
            have p120 : 0 ≤ (x4_1 : Int) := of_decide_eq_true (by first | (with_reducible assumption) | assumption)
            have q120 : x4_1 < (l0_0.length : Int) := of_decide_eq_true (by first | (with_reducible assumption) | assumption)
            obtain ⟨ad120, e120, hx120_0, hx120_1, hx120_2, hx120_3⟩ := at_T51 HR0_0.out x4_1 p120 q120
            (try rw [← Nbq5.out] at hx120_3)
            cases e120
            replace hx120_0 := (HB.out.cell (World.block_lt_of_cell? w _ hx120_0)).trans hx120_0
            replace hx120_1 := (HB.out.cell (World.block_lt_of_cell? w _ hx120_1)).trans hx120_1
            replace hx120_2 := (HB.out.cell (World.block_lt_of_cell? w _ hx120_2)).trans hx120_2
            replace hx120_3 := (HB.out.cell (World.block_lt_of_cell? w _ hx120_3)).trans hx120_3
            replace p120 := eq_true p120
            replace q120 := eq_true q120
            go_wp2
            repeat (go_quiet (fail); try go_wp2)
            go_roundg k1
            case measure => have := HK1.out; omega
            case rel => exact ⟨(x3_1), (wrap64 (x4_1 + 1)), (by first | rfl | (simp; done) | (simp [*]; done)), (by first | rfl | (simp; done) | (simp [*]; done)), H', ⟨by have := HK1.out; omega⟩, ⟨by (with_reducible repeat (first | refine kn ?_ _ | refine kd ?_ | refine ka ?_ _)); exact BK119.out⟩, ⟨by repeat (first | (with_reducible first | exact HB.out | apply ba | apply bn | apply bd | refine bs ?_ GE119.out) | exact HB.out)⟩⟩
        · rw [if_neg c4] at H
          exact absurd H (by simp)
      · rw [if_neg c3] at H
        have c3b0 : decide (x4_1 < (l0_0.length : Int)) = false := decide_eq_false c3
        clear c3
        obtain rfl := Option.some.inj H
        have hcz15_0 : wr.cell? ⟨gb119, 0, none⟩ = some (.slice A0_0 l0_0.length c0_0) := (kc BK119.out 0).trans rfl
        have hcz15_1 : wr.cell? ⟨gb119, 1, none⟩ = some (.int .i64 a0_1) := (kc BK119.out 1).trans rfl
        have hfz15_0 := kz BK119.out 0
        have hfz15_1 := kz BK119.out 1
        go_wp2
        repeat (go_quiet (fail); try go_wp2)
        go_ret
        exact ⟨by first | rfl | (simp [errW_none, errW_some] <;> rfl) | (simp [*, errW_none, errW_some] <;> rfl), by repeat (first | (with_reducible first | exact HB.out | apply ba | apply bn | apply bd | refine bs ?_ GE119.out) | exact HB.out)⟩

/-! ### spec_l11Tick: function 18 -/
open List renaming setIfInBounds_toArray → sA, set_cons_zero → sZ, set_cons_succ → sS
open Go.Proofs.YtfbdkjdockbfdabW.PrintWords.Aside0 renaming mk → AM
open Go.Proofs.YtfbdkjdockbfdabW.PrintWords renaming below_alloc → ba, pw_below_drewN → bn, below_drew1 → bd, below_set → bs, blk_drewN → kn, blk_drew → kd, blk_alloc → ka, blk_far → kf, blk_cell → kc, blk_frozen → kz, blk_below → kb, below_size → bz, below_step → bp, box_event → xe, store_event → se, gate_callee → gc, gate_dst → gd, gate_store → gs
open Go.Proofs.YtfbdkjdockbfdabW.PrintWords.Kd renaming R_alloc → Ra, R_drewN → Rn, R_drew → Rd, R_mono → Rm, R_below → Rb, R_far → Rf, R_reads' → Rr, R_types → Rt, C_alloc → Ca, C_drewN → Cn, C_drew → Cd, R_slice → Ri
def spec_l11Tick.f (k : Nat) (l0_0 : List (S51)) (a0_1 : Int) : Option ((List (S51)) × Int × Int) := (spec_l11Next.f k l0_0 a0_1).bind fun t125 => (if t125 < 0 then (some (l0_0, a0_1, (-1))) else (if 0 ≤ t125 then (if t125 < (l0_0.length : Int) then (if ((rd_T51 l0_0 t125).f1) = 0 then (none) else (if (wrap64 (((rd_T51 l0_0 t125).f2) + (wrap64 (Int.tdiv (60 : Int) ((rd_T51 l0_0 t125).f1))))) > 1000000 then (some (l0_0, a0_1, (-1))) else ((some (l0_0.set (t125 : Int).toNat (⟨(rd_T51 l0_0 t125).f0, (rd_T51 l0_0 t125).f1, wrap64 (((rd_T51 l0_0 t125).f2) + (wrap64 (Int.tdiv (60 : Int) ((rd_T51 l0_0 t125).f1)))), (rd_T51 l0_0 t125).f3⟩ : S51) : List (S51))).bind fun y128 => ((spec_l11Next.f k y128 a0_1).bind fun t129 => (if 0 ≤ t129 then (if t129 < (l0_0.length : Int) then (some (y128, mx a0_1 ((rd_T51 y128 t129).f2), (rd_T51 y128 t125).f0)) else (none)) else (none)))))) else (none)) else (none)))
theorem spec_l11Tick.mono : ∀ a0 a1 k, LeO (spec_l11Tick.f k a0 a1) (spec_l11Tick.f (k + 1) a0 a1) := by
  intro a0 a1 k
  unfold spec_l11Tick.f
  repeat' first
      | (with_reducible exact spec_l11Next.mono _ _ _)
      | (with_reducible exact LeO.refl _)
      | (with_reducible exact LeO.none _)
      | (with_reducible refine LeO.ite ?_ ?_)
      | (with_reducible refine LeO.bind ?_ (fun _ => ?_))
      | exact spec_l11Next.mono _ _ _
      | exact LeO.none _
      | refine LeO.ite ?_ ?_
      | refine LeO.bind ?_ (fun _ => ?_)
def spec_l11Tick.T4 : Bool × List (List Nat × List Nat) := (true, [([], []), ([0], [0]), ([], []), ([1, 2], [1, 2]), ([3], [3]), ([4], [4]), ([], []), ([6], [6]), ([], []), ([7, 8], [7, 8]), ([9], [9]), ([10], [10]), ([11], [11]), ([5, 12], [5, 12]), ([13, 0, 1, 2, 3, 4, 5, 6, 7, 8, 9, 10, 11, 12, 13], [13])])
def spec_l11Tick.B4 : List Nat := [0, 1, 0, 7, 15, 31, 0, 64, 0, 448, 960, 1984, 4032, 8191, 16383]
theorem spec_l11Tick.tab4 : rtab .any (opsOf Try.f18 4) = spec_l11Tick.T4 := by kernel_rfl
theorem spec_l11Tick.bits4 : waitsOk spec_l11Tick.T4.2 spec_l11Tick.B4 = true := by kernel_rfl
def spec_l11Tick.T8 : Bool × List (List Nat × List Nat) := (true, [([], []), ([0], [0]), ([], []), ([2], [2]), ([], []), ([4], [4]), ([3, 5], [3, 5]), ([6], [6]), ([7], [7]), ([1, 8], [1, 8]), ([0, 1, 2, 3, 4, 5, 6, 7, 8, 9], []), ([10, 9, 5, 0, 1, 2, 3, 4, 5, 6, 7, 8, 9], [9, 10])])
def spec_l11Tick.B8 : List Nat := [0, 1, 0, 4, 0, 16, 60, 124, 252, 511, 1023, 2047]
theorem spec_l11Tick.tab8 : rtab .any (opsOf Try.f18 8) = spec_l11Tick.T8 := by kernel_rfl
theorem spec_l11Tick.bits8 : waitsOk spec_l11Tick.T8.2 spec_l11Tick.B8 = true := by kernel_rfl
def spec_l11Tick.T9 : Bool × List (List Nat × List Nat) := (true, [([], []), ([], []), ([1], [1]), ([], []), ([2, 3], [2, 3]), ([4], [4]), ([5], [5]), ([0, 0], [0]), ([6, 7, 0, 1, 2, 3, 4, 5, 6, 7], [6])])
def spec_l11Tick.B9 : List Nat := [0, 0, 2, 0, 14, 30, 62, 1, 255]
theorem spec_l11Tick.tab9 : rtab .any (opsOf Try.f18 9) = spec_l11Tick.T9 := by kernel_rfl
theorem spec_l11Tick.bits9 : waitsOk spec_l11Tick.T9.2 spec_l11Tick.B9 = true := by kernel_rfl
set_option maxHeartbeats 8000000 in
set_option maxRecDepth 100000 in
theorem spec_l11Tick.calls (k : Nat) (P0_0_ : Nat → Prop) (u9000_ : Value) (l0_0 : List (S51)) (a0_1 : Int) (r1 : List (S51)) (r2 : Int) (r3 : Int) (w0 w : World) (hB : Below w0.heap.size w0 w) (ho0_0 : Kd.R k51 51 w w0.heap.size P0_0_ u9000_ l0_0) (h : spec_l11Tick.f k l0_0 a0_1 = some (r1, r2, r3)) :
    Calls Try.prog 18 #[.agg #[u9000_, .int .i64 a0_1]] w fun e w' => ∃ v0_ : Value, e = .returned (.tuple #[.agg #[v0_, .int .i64 r2], .int .i64 r3]) ∧ Kd.R k51 51 w' w0.heap.size (fun k_ => (P0_0_ k_ ∨ w.heap.size ≤ k_)) v0_ r1 ∧ Below w0.heap.size w0 w' ∧ Kept w w' (fun k_ => P0_0_ k_) := by
  have hu28 := Try.underlying28
  have HO0_0 := AM (show Kd.R k51 51 w w0.heap.size (fun k_ => (P0_0_ k_ ∨ w.heap.size ≤ k_)) u9000_ l0_0 from Rm ho0_0 (fun k_ hk => (.inl hk)))
  have HK := AM (Kept.refl w (fun k_ => P0_0_ k_))
  have HW0 := AM hB.size
  have HB := AM hB
  clear hB
  have H : ((spec_l11Next.f k l0_0 a0_1).bind fun t125 => (if t125 < 0 then (some (l0_0, a0_1, (-1))) else (if 0 ≤ t125 then (if t125 < (l0_0.length : Int) then (if ((rd_T51 l0_0 t125).f1) = 0 then (none) else (if (wrap64 (((rd_T51 l0_0 t125).f2) + (wrap64 (Int.tdiv (60 : Int) ((rd_T51 l0_0 t125).f1))))) > 1000000 then (some (l0_0, a0_1, (-1))) else ((some (l0_0.set (t125 : Int).toNat (⟨(rd_T51 l0_0 t125).f0, (rd_T51 l0_0 t125).f1, wrap64 (((rd_T51 l0_0 t125).f2) + (wrap64 (Int.tdiv (60 : Int) ((rd_T51 l0_0 t125).f1)))), (rd_T51 l0_0 t125).f3⟩ : S51) : List (S51))).bind fun y128 => ((spec_l11Next.f k y128 a0_1).bind fun t129 => (if 0 ≤ t129 then (if t129 < (l0_0.length : Int) then (some (y128, mx a0_1 ((rd_T51 y128 t129).f2), (rd_T51 y128 t125).f0)) else (none)) else (none)))))) else (none)) else (none)))) = some (r1, r2, r3) := h
  clear h
  replace H := Option.bind_eq_some_iff.mp H
  obtain ⟨t125, A20, H⟩ := H
  replace H : (if t125 < 0 then (some (l0_0, a0_1, (-1))) else (if 0 ≤ t125 then (if t125 < (l0_0.length : Int) then (if ((rd_T51 l0_0 t125).f1) = 0 then (none) else (if (wrap64 (((rd_T51 l0_0 t125).f2) + (wrap64 (Int.tdiv (60 : Int) ((rd_T51 l0_0 t125).f1))))) > 1000000 then (some (l0_0, a0_1, (-1))) else ((some (l0_0.set (t125 : Int).toNat (⟨(rd_T51 l0_0 t125).f0, (rd_T51 l0_0 t125).f1, wrap64 (((rd_T51 l0_0 t125).f2) + (wrap64 (Int.tdiv (60 : Int) ((rd_T51 l0_0 t125).f1)))), (rd_T51 l0_0 t125).f3⟩ : S51) : List (S51))).bind fun y128 => ((spec_l11Next.f k y128 a0_1).bind fun t129 => (if 0 ≤ t129 then (if t129 < (l0_0.length : Int) then (some (y128, mx a0_1 ((rd_T51 y128 t129).f2), (rd_T51 y128 t125).f0)) else (none)) else (none)))))) else (none)) else (none))) = some (r1, r2, r3) := H
  have A2 := AM A20
  clear A20
  by_cases c3 : t125 < 0
  · rw [if_pos c3] at H
    have c3b0 : decide (t125 < 0) = true := decide_eq_true c3
    clear c3
    simp only [Option.some.injEq, Prod.mk.injEq] at H
    obtain ⟨rfl, rfl, rfl⟩ := H
    obtain ⟨Ao4, co4, eo4⟩ := Ri HO0_0.out
    subst eo4
    go_enter Try.func18, Try.ntmps18
    go_wp2_with (first | ((with_reducible refine gd (N := 1) rfl ?_); refine xe ?hg (N := 1) ?hd (cs := #[.slice Ao4 l0_0.length co4, .int .i64 a0_1]) (t := 28) ?hr ?_; (case hd => rfl); (case hg => rfl); (case hr => first | (go_simp; done) | (go_simp; rfl)); intro gb123 hg w5 hbox hb; have n0_ := AM (Rb (lfR HO0_0.out) hb); have n1_ := AM (Kept.below (S := (fun k_ => P0_0_ k_)) (by repeat (first | (with_reducible first | exact HK.out | apply Kept.alloc | apply Kept.drewN | apply Kept.drew) | exact HK.out)) hb); have n2_ := AM (bp (lfB HB.out) hb); have n3_ := AM (hbox); have n4_ := AM ((by rw [hg]; exact (by first | exact HK.out.1 | exact (show Kept w _ (fun k_ => P0_0_ k_) from by repeat (first | (with_reducible first | exact HK.out | apply Kept.alloc | apply Kept.drewN | apply Kept.drew) | exact HK.out)).1) : w.heap.size ≤ gb123)); have n5_ := AM ((by rw [hg]; exact (bz (lfB HB.out)) : w0.heap.size ≤ gb123)); clear HO0_0 HK HB; revert n0_ n1_ n2_ n3_ n4_ n5_; intro HO0_0 HK HB BK123 GW123 GE123; clear hb hbox hg) | ((with_reducible refine gd (N := 2) rfl ?_); refine xe ?hg (N := 2) ?hd (cs := #[.slice none 0 0, .int .i64 0]) (t := 28) ?hr ?_; (case hd => rfl); (case hg => rfl); (case hr => first | (go_simp; done) | (go_simp; rfl)); intro gb124 hg w6 hbox hb; have n0_ := AM (Rb (lfR HO0_0.out) hb); have n1_ := AM (kb (g := gb123) (o := .cells #[.slice Ao4 l0_0.length co4, .int .i64 a0_1] 28 (0, 0)) (lfK BK123.out) hb); have n2_ := AM (Kept.below (S := (fun k_ => P0_0_ k_)) (by repeat (first | (with_reducible first | exact HK.out | apply Kept.alloc | apply Kept.drewN | apply Kept.drew | refine Kept.setCell ?_ (.inr GW123.out) _) | exact HK.out)) hb); have n3_ := AM (bp (by repeat (first | (with_reducible first | exact HB.out | apply ba | apply bn | apply bd | refine bs ?_ GE123.out) | exact HB.out)) hb); have n4_ := AM (hbox); have n5_ := AM ((by rw [hg]; exact (by first | exact HK.out.1 | exact (show Kept w _ (fun k_ => P0_0_ k_) from by repeat (first | (with_reducible first | exact HK.out | apply Kept.alloc | apply Kept.drewN | apply Kept.drew | refine Kept.setCell ?_ (.inr GW123.out) _) | exact HK.out)).1) : w.heap.size ≤ gb124)); have n6_ := AM ((by rw [hg]; exact (bz (by repeat (first | (with_reducible first | exact HB.out | apply ba | apply bn | apply bd | refine bs ?_ GE123.out) | exact HB.out))) : w0.heap.size ≤ gb124)); have n7_ := AM ((by rw [hg]; exact Nat.ne_of_lt (blk_lt (g := gb123) (o := .cells #[.slice Ao4 l0_0.length co4, .int .i64 a0_1] 28 (0, 0)) (lfK BK123.out)) : gb123 ≠ gb124)); have n8_ := AM ((by rw [hg]; exact Nat.ne_of_gt (blk_lt (g := gb123) (o := .cells #[.slice Ao4 l0_0.length co4, .int .i64 a0_1] 28 (0, 0)) (lfK BK123.out)) : gb124 ≠ gb123)); clear HO0_0 BK123 HK HB; revert n0_ n1_ n2_ n3_ n4_ n5_ n6_ n7_ n8_; intro HO0_0 BK123 HK HB BK124 GW124 GE124 NB123_124 NB124_123; clear hb hbox hg; have hnb7 := NB123_124.out; have hnc7 := NB124_123.out; have hcz8_0 : w6.cell? ⟨gb123, 0, none⟩ = some (.slice Ao4 l0_0.length co4) := (kc BK123.out 0).trans rfl; have hcz8_1 : w6.cell? ⟨gb123, 1, none⟩ = some (.int .i64 a0_1) := (kc BK123.out 1).trans rfl; have hfz8_0 := kz BK123.out 0; have hfz8_1 := kz BK123.out 1) | ((with_reducible refine gc (f := 27) rfl ?_); refine goesL_ (some 7) rfl rfl Try.func27 (by kernel_rfl) rfl #[.agg #[.slice Ao4 l0_0.length co4, .int .i64 a0_1]] rfl (by (try simp only [List.map_toArray, List.map_cons, List.map_nil]); first | done | rfl | (simp only [List.length_drop, List.length_take]; rfl)) ?_; (with_reducible refine (spec_l11Next.calls k _ _ l0_0 a0_1 t125 _ ?side1 ?side2 A2.out).mono ?_); (case side1 => repeat (first | exact (Rr HO0_0.out).2.2 | (with_reducible refine Ca ?_ _) | (with_reducible refine Cn ?_ _) | (with_reducible refine Cd ?_))); (case side2 => exact (Rr HO0_0.out).2.1); rintro e w9 ⟨rfl, hb⟩; refine ⟨_, rfl, ?_⟩; have n0_ := AM (Rb (lfR HO0_0.out) hb); have n1_ := AM (kb (g := gb123) (o := .cells #[.slice Ao4 l0_0.length co4, .int .i64 a0_1] 28 (0, 0)) (lfK BK123.out) hb); have n2_ := AM (kb (g := gb124) (o := .cells #[.slice none 0 0, .int .i64 0] 28 (0, 0)) (lfK BK124.out) hb); have n3_ := AM (Kept.below (S := (fun k_ => P0_0_ k_)) (by repeat (first | (with_reducible first | exact HK.out | apply Kept.alloc | apply Kept.drewN | apply Kept.drew | refine Kept.setCell ?_ (.inr GW123.out) _ | refine Kept.setCell ?_ (.inr GW124.out) _) | exact HK.out)) hb); have n4_ := AM (bp (by repeat (first | (with_reducible first | exact HB.out | apply ba | apply bn | apply bd | refine bs ?_ GE123.out | refine bs ?_ GE124.out) | exact HB.out)) hb); clear HO0_0 BK123 BK124 HK HB; revert n0_ n1_ n2_ n3_ n4_; intro HO0_0 BK123 BK124 HK HB; (try clear hb); have hcz10_0 : w9.cell? ⟨gb123, 0, none⟩ = some (.slice Ao4 l0_0.length co4) := (kc BK123.out 0).trans rfl; have hcz10_1 : w9.cell? ⟨gb123, 1, none⟩ = some (.int .i64 a0_1) := (kc BK123.out 1).trans rfl; have hfz10_0 := kz BK123.out 0; have hfz10_1 := kz BK123.out 1; have hcz11_0 : w9.cell? ⟨gb124, 0, none⟩ = some (.slice none 0 0) := (kc BK124.out 0).trans rfl; have hcz11_1 : w9.cell? ⟨gb124, 1, none⟩ = some (.int .i64 0) := (kc BK124.out 1).trans rfl; have hfz11_0 := kz BK124.out 0; have hfz11_1 := kz BK124.out 1))
    refine bodyPost_ret (results_ct rfl _ _ gb124 28 #[.slice Ao4 l0_0.length co4, .int .i64 a0_1] (0, 0) _ rfl (by (with_reducible repeat (first | refine kn ?_ _ | refine kd ?_ | refine ka ?_ _)); refine blk_put (cs := #[.slice Ao4 l0_0.length co4, .int .i64 0]) ?_ 1 _ rfl; (with_reducible repeat (first | refine kn ?_ _ | refine kd ?_ | refine ka ?_ _)); refine blk_put (cs := #[.slice none 0 0, .int .i64 0]) ?_ 0 _ rfl; (with_reducible repeat (first | refine kn ?_ _ | refine kd ?_ | refine ka ?_ _)); exact BK124.out) Try.underlying28 rfl (by kernel_rfl)) rfl ?_
    exact ⟨_, by first | rfl | (simp [errW_none, errW_some] <;> rfl) | (simp [*, errW_none, errW_some] <;> rfl), by (with_reducible repeat (first | apply Ra | apply Rn | apply Rd)); exact Rm (Rf (p := ⟨gb124, 1, none⟩) (Rf (p := ⟨gb124, 0, none⟩) (Rt HO0_0.out BK124.out (by decide)) (fun _ hk => hk.2) (.slice Ao4 l0_0.length co4)) (fun _ hk => hk.2) (.int .i64 a0_1)) (fun _ hk => hk.1), by repeat (first | (with_reducible first | exact HB.out | apply ba | apply bn | apply bd | refine bs ?_ GE123.out | refine bs ?_ GE124.out) | exact HB.out), by repeat (first | (with_reducible first | exact HK.out | apply Kept.alloc | apply Kept.drewN | apply Kept.drew | refine Kept.setCell ?_ (.inr GW123.out) _ | refine Kept.setCell ?_ (.inr GW124.out) _) | exact HK.out)⟩
  · rw [if_neg c3] at H
    have c3b0 : decide (t125 < 0) = false := decide_eq_false c3
    clear c3
    by_cases c12 : 0 ≤ t125
    · rw [if_pos c12] at H
      have c12b0 : decide (0 ≤ t125) = true := decide_eq_true c12
      clear c12
      by_cases c13 : t125 < (l0_0.length : Int)
      · rw [if_pos c13] at H
        have c13b0 : decide (t125 < (l0_0.length : Int)) = true := decide_eq_true c13
        clear c13
        by_cases c14 : ((rd_T51 l0_0 t125).f1) = 0
        · rw [if_pos c14] at H
          exact absurd H (by simp)
        · rw [if_neg c14] at H
          have c14b0 : (((rd_T51 l0_0 t125).f1) == 0) = false := beq_eq_false_iff_ne.mpr c14
          have c14b1 : (((rd_T51 l0_0 t125).f1) != 0) = true := bne_iff_ne.mpr c14
          by_cases c15 : (wrap64 (((rd_T51 l0_0 t125).f2) + (wrap64 (Int.tdiv (60 : Int) ((rd_T51 l0_0 t125).f1))))) > 1000000
          · rw [if_pos c15] at H
            have c15b0 : decide (1000000 < (wrap64 (((rd_T51 l0_0 t125).f2) + (wrap64 (Int.tdiv (60 : Int) ((rd_T51 l0_0 t125).f1)))))) = true := decide_eq_true c15
            clear c15
            simp only [Option.some.injEq, Prod.mk.injEq] at H
            obtain ⟨rfl, rfl, rfl⟩ := H
            obtain ⟨Ao16, co16, eo16⟩ := Ri HO0_0.out
            subst eo16
            go_enter Try.func18, Try.ntmps18
            try go_wp2_with (first | ((with_reducible refine gd (N := 1) rfl ?_); refine xe ?hg (N := 1) ?hd (cs := #[.slice Ao16 l0_0.length co16, .int .i64 a0_1]) (t := 28) ?hr ?_; (case hd => rfl); (case hg => rfl); (case hr => first | (go_simp; done) | (go_simp; rfl)); intro gb123 hg w17 hbox hb; have n0_ := AM (Rb (lfR HO0_0.out) hb); have n1_ := AM (Kept.below (S := (fun k_ => P0_0_ k_)) (by repeat (first | (with_reducible first | exact HK.out | apply Kept.alloc | apply Kept.drewN | apply Kept.drew) | exact HK.out)) hb); have n2_ := AM (bp (lfB HB.out) hb); have n3_ := AM (hbox); have n4_ := AM ((by rw [hg]; exact (by first | exact HK.out.1 | exact (show Kept w _ (fun k_ => P0_0_ k_) from by repeat (first | (with_reducible first | exact HK.out | apply Kept.alloc | apply Kept.drewN | apply Kept.drew) | exact HK.out)).1) : w.heap.size ≤ gb123)); have n5_ := AM ((by rw [hg]; exact (bz (lfB HB.out)) : w0.heap.size ≤ gb123)); clear HO0_0 HK HB; revert n0_ n1_ n2_ n3_ n4_ n5_; intro HO0_0 HK HB BK123 GW123 GE123; clear hb hbox hg) | ((with_reducible refine gd (N := 2) rfl ?_); refine xe ?hg (N := 2) ?hd (cs := #[.slice none 0 0, .int .i64 0]) (t := 28) ?hr ?_; (case hd => rfl); (case hg => rfl); (case hr => first | (go_simp; done) | (go_simp; rfl)); intro gb124 hg w18 hbox hb; have n0_ := AM (Rb (lfR HO0_0.out) hb); have n1_ := AM (kb (g := gb123) (o := .cells #[.slice Ao16 l0_0.length co16, .int .i64 a0_1] 28 (0, 0)) (lfK BK123.out) hb); have n2_ := AM (Kept.below (S := (fun k_ => P0_0_ k_)) (by repeat (first | (with_reducible first | exact HK.out | apply Kept.alloc | apply Kept.drewN | apply Kept.drew | refine Kept.setCell ?_ (.inr GW123.out) _) | exact HK.out)) hb); have n3_ := AM (bp (by repeat (first | (with_reducible first | exact HB.out | apply ba | apply bn | apply bd | refine bs ?_ GE123.out) | exact HB.out)) hb); have n4_ := AM (hbox); have n5_ := AM ((by rw [hg]; exact (by first | exact HK.out.1 | exact (show Kept w _ (fun k_ => P0_0_ k_) from by repeat (first | (with_reducible first | exact HK.out | apply Kept.alloc | apply Kept.drewN | apply Kept.drew | refine Kept.setCell ?_ (.inr GW123.out) _) | exact HK.out)).1) : w.heap.size ≤ gb124)); have n6_ := AM ((by rw [hg]; exact (bz (by repeat (first | (with_reducible first | exact HB.out | apply ba | apply bn | apply bd | refine bs ?_ GE123.out) | exact HB.out))) : w0.heap.size ≤ gb124)); have n7_ := AM ((by rw [hg]; exact Nat.ne_of_lt (blk_lt (g := gb123) (o := .cells #[.slice Ao16 l0_0.length co16, .int .i64 a0_1] 28 (0, 0)) (lfK BK123.out)) : gb123 ≠ gb124)); have n8_ := AM ((by rw [hg]; exact Nat.ne_of_gt (blk_lt (g := gb123) (o := .cells #[.slice Ao16 l0_0.length co16, .int .i64 a0_1] 28 (0, 0)) (lfK BK123.out)) : gb124 ≠ gb123)); clear HO0_0 BK123 HK HB; revert n0_ n1_ n2_ n3_ n4_ n5_ n6_ n7_ n8_; intro HO0_0 BK123 HK HB BK124 GW124 GE124 NB123_124 NB124_123; clear hb hbox hg; have hnb19 := NB123_124.out; have hnc19 := NB124_123.out; have hcz20_0 : w18.cell? ⟨gb123, 0, none⟩ = some (.slice Ao16 l0_0.length co16) := (kc BK123.out 0).trans rfl; have hcz20_1 : w18.cell? ⟨gb123, 1, none⟩ = some (.int .i64 a0_1) := (kc BK123.out 1).trans rfl; have hfz20_0 := kz BK123.out 0; have hfz20_1 := kz BK123.out 1) | ((with_reducible refine gc (f := 27) rfl ?_); refine goesL_ (some 7) rfl rfl Try.func27 (by kernel_rfl) rfl #[.agg #[.slice Ao16 l0_0.length co16, .int .i64 a0_1]] rfl (by (try simp only [List.map_toArray, List.map_cons, List.map_nil]); first | done | rfl | (simp only [List.length_drop, List.length_take]; rfl)) ?_; (with_reducible refine (spec_l11Next.calls k _ _ l0_0 a0_1 t125 _ ?side1 ?side2 A2.out).mono ?_); (case side1 => repeat (first | exact (Rr HO0_0.out).2.2 | (with_reducible refine Ca ?_ _) | (with_reducible refine Cn ?_ _) | (with_reducible refine Cd ?_))); (case side2 => exact (Rr HO0_0.out).2.1); rintro e w21 ⟨rfl, hb⟩; refine ⟨_, rfl, ?_⟩; have n0_ := AM (Rb (lfR HO0_0.out) hb); have n1_ := AM (kb (g := gb123) (o := .cells #[.slice Ao16 l0_0.length co16, .int .i64 a0_1] 28 (0, 0)) (lfK BK123.out) hb); have n2_ := AM (kb (g := gb124) (o := .cells #[.slice none 0 0, .int .i64 0] 28 (0, 0)) (lfK BK124.out) hb); have n3_ := AM (Kept.below (S := (fun k_ => P0_0_ k_)) (by repeat (first | (with_reducible first | exact HK.out | apply Kept.alloc | apply Kept.drewN | apply Kept.drew | refine Kept.setCell ?_ (.inr GW123.out) _ | refine Kept.setCell ?_ (.inr GW124.out) _) | exact HK.out)) hb); have n4_ := AM (bp (by repeat (first | (with_reducible first | exact HB.out | apply ba | apply bn | apply bd | refine bs ?_ GE123.out | refine bs ?_ GE124.out) | exact HB.out)) hb); clear HO0_0 BK123 BK124 HK HB; revert n0_ n1_ n2_ n3_ n4_; intro HO0_0 BK123 BK124 HK HB; (try clear hb)))
            have n0_ := AM (Rd HO0_0.out)
            have n1_ := AM (kd BK123.out)
            have n2_ := AM (kd BK124.out)
            have n3_ := AM (Kept.drew HK.out)
            have n4_ := AM (bd HB.out)
            clear HO0_0 BK123 BK124 HK HB
            revert n0_ n1_ n2_ n3_ n4_
            intro HO0_0 BK123 BK124 HK HB
            have p126 : 0 ≤ (t125 : Int) := of_decide_eq_true (by first | (with_reducible assumption) | assumption)
            have q126 : t125 < (l0_0.length : Int) := of_decide_eq_true (by first | (with_reducible assumption) | assumption)
            obtain ⟨ad126, e126, hx126_0, hx126_1, hx126_2, hx126_3⟩ := at_T51 (Rr HO0_0.out).2.2 t125 p126 q126
            cases e126
            replace p126 := eq_true p126
            replace q126 := eq_true q126
            have p127 : 0 ≤ (t125 : Int) := of_decide_eq_true (by first | (with_reducible assumption) | assumption)
            have q127 : t125 < (l0_0.length : Int) := of_decide_eq_true (by first | (with_reducible assumption) | assumption)
            obtain ⟨ad127, e127, hx127_0, hx127_1, hx127_2, hx127_3⟩ := at_T51 (Rr HO0_0.out).2.2 t125 p127 q127
            obtain rfl : ad126 = ad127 := (by injection e127)
            replace p127 := eq_true p127
            replace q127 := eq_true q127
            refine start_ (n := 15) (S := fun w' => w'.cell? ⟨gb123, 0, none⟩ = some (.slice (some ad126) l0_0.length co16) ∧ w'.cell? ⟨gb123, 1, none⟩ = some (.int .i64 a0_1) ∧ w'.cell? (ad126.add ((t125).toNat * 4)) = some (.int .i64 ((rd_T51 l0_0 t125).f0)) ∧ w'.cell? ⟨(ad126.add ((t125).toNat * 4)).block, (ad126.add ((t125).toNat * 4)).off + 1, none⟩ = some (.int .i64 ((rd_T51 l0_0 t125).f1)) ∧ w'.cell? ⟨(ad126.add ((t125).toNat * 4)).block, (ad126.add ((t125).toNat * 4)).off + 2, none⟩ = some (.int .i64 ((rd_T51 l0_0 t125).f2)) ∧ w'.cell? ⟨(ad126.add ((t125).toNat * 4)).block, (ad126.add ((t125).toNat * 4)).off + 3, none⟩ = some (.bool ((rd_T51 l0_0 t125).f3)) ∧ w'.cell? (ad126.add ((t125).toNat * 4)) = some (.int .i64 ((rd_T51 l0_0 t125).f0)) ∧ w'.cell? ⟨(ad126.add ((t125).toNat * 4)).block, (ad126.add ((t125).toNat * 4)).off + 1, none⟩ = some (.int .i64 ((rd_T51 l0_0 t125).f1)) ∧ w'.cell? ⟨(ad126.add ((t125).toNat * 4)).block, (ad126.add ((t125).toNat * 4)).off + 2, none⟩ = some (.int .i64 ((rd_T51 l0_0 t125).f2)) ∧ w'.cell? ⟨(ad126.add ((t125).toNat * 4)).block, (ad126.add ((t125).toNat * 4)).off + 3, none⟩ = some (.bool ((rd_T51 l0_0 t125).f3))) (ds := []) (mB 15 0x0) (by kernel_rfl) rfl rfl ⟨(kc BK123.out 0).trans rfl, (kc BK123.out 1).trans rfl, hx126_0, hx126_1, hx126_2, hx126_3, hx127_0, hx127_1, hx127_2, hx127_3⟩ (fun hHeld => ?_); refine with_tabW spec_l11Tick.tab4 spec_l11Tick.bits4 (fun HT_ HW_ => ?_)
            generalize w21.drew = w22 at HO0_0 BK123 BK124 HK HB hx126_0 hx126_1 hx126_2 hx126_3 hx127_0 hx127_1 hx127_2 hx127_3 hHeld ⊢
            refine puY (v := ?_) (a' := ?_) 0 11 (mB 15 0x1) rfl rfl HT_.out (by kernel_rfl) (fun _ _ _ h => h) (by rfl) ?_ ?_ ?_; rotate_left; (focus intro w'; go_simp; with_reducible rfl); rotate_left; (focus simp only [Act.put, sA, sZ, sS, i64_w, i32_w]; rfl); refine puY (v := ?_) (a' := ?_) 2 13 (mB 15 0x5) rfl rfl HT_.out (by kernel_rfl) (fun _ _ _ h => h) (by rfl) ?_ ?_ ?_; rotate_left; (focus intro w'; go_simp; with_reducible rfl); rotate_left; (focus simp only [Act.put, sA, sZ, sS, i64_w, i32_w]; rfl); refine puY (v := ?_) (a' := ?_) 6 17 (mB 15 0x45) rfl rfl HT_.out (by kernel_rfl) (fun _ _ _ h => h) (by rfl) ?_ ?_ ?_; rotate_left; (focus intro w'; go_simp; with_reducible rfl); rotate_left; (focus simp only [Act.put, sA, sZ, sS, i64_w, i32_w]; rfl); refine puY (v := ?_) (a' := ?_) 8 19 (mB 15 0x145) rfl rfl HT_.out (by kernel_rfl) (fun _ _ _ h => h) (by rfl) ?_ ?_ ?_; rotate_left; (focus intro w'; go_simp; with_reducible rfl); rotate_left; (focus simp only [Act.put, sA, sZ, sS, i64_w, i32_w]; rfl)
            refine take_ (i := 1) (N := some 12) (v := ?_) (a' := ?_) (mB 15 0x147) rfl rfl (take_ofW HT_.out HW_.out (by kernel_rfl)) (fun _ _ _ h => h) (Or.inl ⟨by rfl, ?_⟩) hHeld ?_ ?_
            rotate_left
            · rintro w' ⟨s0, s1, s2, s3, s4, s5, s6, s7, s8, s9⟩; go_simp; with_reducible rfl
            rotate_left
            · simp only [Act.put, sA, sZ, sS, i64_w, i32_w]; rfl
            refine puY (v := ?_) (a' := ?_) 3 14 (mB 15 0x14f) rfl rfl HT_.out (by kernel_rfl) (fun _ _ _ h => h) (by rfl) ?_ ?_ ?_; rotate_left; (focus intro w'; go_simp; with_reducible rfl); rotate_left; (focus simp only [Act.put, sA, sZ, sS, i64_w, i32_w]; rfl); refine puY (v := ?_) (a' := ?_) 4 15 (mB 15 0x15f) rfl rfl HT_.out (by kernel_rfl) (fun _ _ _ h => h) (by rfl) ?_ ?_ ?_; rotate_left; (focus intro w'; go_simp; with_reducible rfl); rotate_left; (focus simp only [Act.put, sA, sZ, sS, i64_w, i32_w]; rfl)
            refine take_ (i := 5) (N := some 16) (v := ?_) (a' := ?_) (mB 15 0x17f) rfl rfl (take_ofW HT_.out HW_.out (by kernel_rfl)) (fun _ _ _ h => h) (Or.inl ⟨by rfl, ?_⟩) hHeld ?_ ?_
            rotate_left
            · rintro w' ⟨s0, s1, s2, s3, s4, s5, s6, s7, s8, s9⟩; go_simp; with_reducible rfl
            rotate_left
            · simp only [Act.put, sA, sZ, sS, i64_w, i32_w]; rfl
            refine take_ (i := 7) (N := some 18) (v := ?_) (a' := ?_) (mB 15 0x1ff) rfl rfl (take_ofW HT_.out HW_.out (by kernel_rfl)) (fun _ _ _ h => h) (Or.inl ⟨by rfl, ?_⟩) hHeld ?_ ?_
            rotate_left
            · rintro w' ⟨s0, s1, s2, s3, s4, s5, s6, s7, s8, s9⟩; go_simp; with_reducible rfl
            rotate_left
            · simp only [Act.put, sA, sZ, sS, i64_w, i32_w]; rfl
            refine puY (v := ?_) (a' := ?_) 9 20 (mB 15 0x3ff) rfl rfl HT_.out (by kernel_rfl) (fun _ _ _ h => h) (by rfl) ?_ ?_ ?_; rotate_left; (focus intro w'; go_simp; with_reducible rfl); rotate_left; (focus simp only [Act.put, sA, sZ, sS, i64_w, i32_w]; rfl); refine puY (v := ?_) (a' := ?_) 10 21 (mB 15 0x7ff) rfl rfl HT_.out (by kernel_rfl) (fun _ _ _ h => h) (by rfl) ?_ ?_ ?_; rotate_left; (focus intro w'; go_simp; with_reducible rfl); rotate_left; (focus simp only [Act.put, sA, sZ, sS, i64_w, i32_w]; rfl)
            refine take_ (i := 11) (N := some 22) (v := ?_) (a' := ?_) (mB 15 0xfff) rfl rfl (take_ofW HT_.out HW_.out (by kernel_rfl)) (fun _ _ _ h => h) (Or.inl ⟨by rfl, ?_⟩) hHeld ?_ ?_
            rotate_left
            · rintro w' ⟨s0, s1, s2, s3, s4, s5, s6, s7, s8, s9⟩; go_simp; with_reducible rfl
            rotate_left
            · simp only [Act.put, sA, sZ, sS, i64_w, i32_w]; rfl
            refine puY (v := ?_) (a' := ?_) 12 23 (mB 15 0x1fff) rfl rfl HT_.out (by kernel_rfl) (fun _ _ _ h => h) (by rfl) ?_ ?_ ?_; rotate_left; (focus intro w'; go_simp; with_reducible rfl); rotate_left; (focus simp only [Act.put, sA, sZ, sS, i64_w, i32_w]; rfl); refine puY (v := ?_) (a' := ?_) 13 24 (mB 15 0x3fff) rfl rfl HT_.out (by kernel_rfl) (fun _ _ _ h => h) (by rfl) ?_ ?_ ?_; rotate_left; (focus intro w'; go_simp; with_reducible rfl); rotate_left; (focus simp only [Act.put, sA, sZ, sS, i64_w, i32_w]; rfl); refine puY (v := ?_) (a' := ?_) 14 5 (mB 15 0x7fff) rfl rfl HT_.out (by kernel_rfl) (fun _ _ _ h => h) (by rfl) ?_ ?_ ?_; rotate_left; (focus intro w'; go_simp; with_reducible rfl); rotate_left; (focus simp only [Act.put, sA, sZ, sS, i64_w, i32_w]; rfl)
            refine done_ (done_of HT_.out (by kernel_rfl)) ?_
            have hcz23_0 : w22.cell? ⟨gb123, 0, none⟩ = some (.slice (some ad126) l0_0.length co16) := (kc BK123.out 0).trans rfl
            have hcz23_1 : w22.cell? ⟨gb123, 1, none⟩ = some (.int .i64 a0_1) := (kc BK123.out 1).trans rfl
            have hfz23_0 := kz BK123.out 0
            have hfz23_1 := kz BK123.out 1
            have hcz24_0 : w22.cell? ⟨gb124, 0, none⟩ = some (.slice none 0 0) := (kc BK124.out 0).trans rfl
            have hcz24_1 : w22.cell? ⟨gb124, 1, none⟩ = some (.int .i64 0) := (kc BK124.out 1).trans rfl
            have hfz24_0 := kz BK124.out 0
            have hfz24_1 := kz BK124.out 1
            try go_wp2
            refine bodyPost_ret (results_ct rfl _ _ gb124 28 #[.slice (some ad126) l0_0.length co16, .int .i64 a0_1] (0, 0) _ rfl (by (with_reducible repeat (first | refine kn ?_ _ | refine kd ?_ | refine ka ?_ _)); refine blk_put (cs := #[.slice (some ad126) l0_0.length co16, .int .i64 0]) ?_ 1 _ rfl; (with_reducible repeat (first | refine kn ?_ _ | refine kd ?_ | refine ka ?_ _)); refine blk_put (cs := #[.slice none 0 0, .int .i64 0]) ?_ 0 _ rfl; (with_reducible repeat (first | refine kn ?_ _ | refine kd ?_ | refine ka ?_ _)); exact BK124.out) Try.underlying28 rfl (by kernel_rfl)) rfl ?_
            exact ⟨_, by first | rfl | (simp [errW_none, errW_some] <;> rfl) | (simp [*, errW_none, errW_some] <;> rfl), by (with_reducible repeat (first | apply Ra | apply Rn | apply Rd)); exact Rm (Rf (p := ⟨gb124, 1, none⟩) (Rf (p := ⟨gb124, 0, none⟩) (Rt HO0_0.out BK124.out (by decide)) (fun _ hk => hk.2) (.slice (some ad126) l0_0.length co16)) (fun _ hk => hk.2) (.int .i64 a0_1)) (fun _ hk => hk.1), by repeat (first | (with_reducible first | exact HB.out | apply ba | apply bn | apply bd | refine bs ?_ GE123.out | refine bs ?_ GE124.out) | exact HB.out), by repeat (first | (with_reducible first | exact HK.out | apply Kept.alloc | apply Kept.drewN | apply Kept.drew | refine Kept.setCell ?_ (.inr GW123.out) _ | refine Kept.setCell ?_ (.inr GW124.out) _) | exact HK.out)⟩
          · rw [if_neg c15] at H
            have c15b0 : decide (1000000 < (wrap64 (((rd_T51 l0_0 t125).f2) + (wrap64 (Int.tdiv (60 : Int) ((rd_T51 l0_0 t125).f1)))))) = false := decide_eq_false c15
            clear c15
            obtain ⟨y128, hy128⟩ : ∃ y_ : List (S51), y_ = (l0_0.set (t125 : Int).toNat (⟨(rd_T51 l0_0 t125).f0, (rd_T51 l0_0 t125).f1, wrap64 (((rd_T51 l0_0 t125).f2) + (wrap64 (Int.tdiv (60 : Int) ((rd_T51 l0_0 t125).f1)))), (rd_T51 l0_0 t125).f3⟩ : S51)) := ⟨_, rfl⟩
            replace H : ((spec_l11Next.f k y128 a0_1).bind fun t129 => (if 0 ≤ t129 then (if t129 < (l0_0.length : Int) then (some (y128, mx a0_1 ((rd_T51 y128 t129).f2), (rd_T51 y128 t125).f0)) else (none)) else (none))) = some (r1, r2, r3) := by first | (rw [hy128]; with_reducible exact H) | (have H2_ := (Option.bind_some _ _).symm.trans H; rw [hy128]; with_reducible exact H2_) | (have H2_ := (Option.bind_some _ _).symm.trans H; with_reducible exact H2_) | with_reducible exact H | (rw [hy128]; exact H) | exact H
            have Ny128 := AM hy128
            clear hy128
            replace H := Option.bind_eq_some_iff.mp H
            obtain ⟨t129, A260, H⟩ := H
            replace H : (if 0 ≤ t129 then (if t129 < (l0_0.length : Int) then (some (y128, mx a0_1 ((rd_T51 y128 t129).f2), (rd_T51 y128 t125).f0)) else (none)) else (none)) = some (r1, r2, r3) := H
            have A26 := AM A260
            clear A260
            by_cases c27 : 0 ≤ t129
            · rw [if_pos c27] at H
              have c27b0 : decide (0 ≤ t129) = true := decide_eq_true c27
              clear c27
              by_cases c28 : t129 < (l0_0.length : Int)
              · rw [if_pos c28] at H
                have c28b0 : decide (t129 < (l0_0.length : Int)) = true := decide_eq_true c28
                clear c28
                obtain ⟨ji29, hji29⟩ : ∃ j_ : Int, (mx a0_1 ((rd_T51 y128 t129).f2)) = j_ := ⟨_, rfl⟩
                replace H : (some (y128, ji29, (rd_T51 y128 t125).f0)) = some (r1, r2, r3) := by first | (rw [hji29] at H; exact H) | (simp only [hji29] at H ⊢; exact H)
                (try rw [hji29] at A2)
                (try rw [hji29] at A26)
                have hji29_ : (if a0_1 < ((rd_T51 y128 t129).f2) then ((rd_T51 y128 t129).f2) else a0_1) = ji29 := hji29
                simp only [Option.some.injEq, Prod.mk.injEq] at H
                obtain ⟨rfl, rfl, rfl⟩ := H
                obtain ⟨Ao30, co30, eo30⟩ := Ri HO0_0.out
                subst eo30
                go_enter Try.func18, Try.ntmps18
                try go_wp2_with (first | ((with_reducible refine gd (N := 1) rfl ?_); refine xe ?hg (N := 1) ?hd (cs := #[.slice Ao30 l0_0.length co30, .int .i64 a0_1]) (t := 28) ?hr ?_; (case hd => rfl); (case hg => rfl); (case hr => first | (go_simp; done) | (go_simp; rfl)); intro gb123 hg w31 hbox hb; have n0_ := AM (Rb (lfR HO0_0.out) hb); have n1_ := AM (Kept.below (S := (fun k_ => P0_0_ k_)) (by repeat (first | (with_reducible first | exact HK.out | apply Kept.alloc | apply Kept.drewN | apply Kept.drew) | exact HK.out)) hb); have n2_ := AM (bp (lfB HB.out) hb); have n3_ := AM (hbox); have n4_ := AM ((by rw [hg]; exact (by first | exact HK.out.1 | exact (show Kept w _ (fun k_ => P0_0_ k_) from by repeat (first | (with_reducible first | exact HK.out | apply Kept.alloc | apply Kept.drewN | apply Kept.drew) | exact HK.out)).1) : w.heap.size ≤ gb123)); have n5_ := AM ((by rw [hg]; exact (bz (lfB HB.out)) : w0.heap.size ≤ gb123)); clear HO0_0 HK HB; revert n0_ n1_ n2_ n3_ n4_ n5_; intro HO0_0 HK HB BK123 GW123 GE123; clear hb hbox hg) | ((with_reducible refine gd (N := 2) rfl ?_); refine xe ?hg (N := 2) ?hd (cs := #[.slice none 0 0, .int .i64 0]) (t := 28) ?hr ?_; (case hd => rfl); (case hg => rfl); (case hr => first | (go_simp; done) | (go_simp; rfl)); intro gb124 hg w32 hbox hb; have n0_ := AM (Rb (lfR HO0_0.out) hb); have n1_ := AM (kb (g := gb123) (o := .cells #[.slice Ao30 l0_0.length co30, .int .i64 a0_1] 28 (0, 0)) (lfK BK123.out) hb); have n2_ := AM (Kept.below (S := (fun k_ => P0_0_ k_)) (by repeat (first | (with_reducible first | exact HK.out | apply Kept.alloc | apply Kept.drewN | apply Kept.drew | refine Kept.setCell ?_ (.inr GW123.out) _) | exact HK.out)) hb); have n3_ := AM (bp (by repeat (first | (with_reducible first | exact HB.out | apply ba | apply bn | apply bd | refine bs ?_ GE123.out) | exact HB.out)) hb); have n4_ := AM (hbox); have n5_ := AM ((by rw [hg]; exact (by first | exact HK.out.1 | exact (show Kept w _ (fun k_ => P0_0_ k_) from by repeat (first | (with_reducible first | exact HK.out | apply Kept.alloc | apply Kept.drewN | apply Kept.drew | refine Kept.setCell ?_ (.inr GW123.out) _) | exact HK.out)).1) : w.heap.size ≤ gb124)); have n6_ := AM ((by rw [hg]; exact (bz (by repeat (first | (with_reducible first | exact HB.out | apply ba | apply bn | apply bd | refine bs ?_ GE123.out) | exact HB.out))) : w0.heap.size ≤ gb124)); have n7_ := AM ((by rw [hg]; exact Nat.ne_of_lt (blk_lt (g := gb123) (o := .cells #[.slice Ao30 l0_0.length co30, .int .i64 a0_1] 28 (0, 0)) (lfK BK123.out)) : gb123 ≠ gb124)); have n8_ := AM ((by rw [hg]; exact Nat.ne_of_gt (blk_lt (g := gb123) (o := .cells #[.slice Ao30 l0_0.length co30, .int .i64 a0_1] 28 (0, 0)) (lfK BK123.out)) : gb124 ≠ gb123)); clear HO0_0 BK123 HK HB; revert n0_ n1_ n2_ n3_ n4_ n5_ n6_ n7_ n8_; intro HO0_0 BK123 HK HB BK124 GW124 GE124 NB123_124 NB124_123; clear hb hbox hg; have hnb33 := NB123_124.out; have hnc33 := NB124_123.out; have hcz34_0 : w32.cell? ⟨gb123, 0, none⟩ = some (.slice Ao30 l0_0.length co30) := (kc BK123.out 0).trans rfl; have hcz34_1 : w32.cell? ⟨gb123, 1, none⟩ = some (.int .i64 a0_1) := (kc BK123.out 1).trans rfl; have hfz34_0 := kz BK123.out 0; have hfz34_1 := kz BK123.out 1) | ((with_reducible refine gc (f := 27) rfl ?_); refine goesL_ (some 7) rfl rfl Try.func27 (by kernel_rfl) rfl #[.agg #[.slice Ao30 l0_0.length co30, .int .i64 a0_1]] rfl (by (try simp only [List.map_toArray, List.map_cons, List.map_nil]); first | done | rfl | (simp only [List.length_drop, List.length_take]; rfl)) ?_; (with_reducible refine (spec_l11Next.calls k _ _ l0_0 a0_1 t125 _ ?side1 ?side2 A2.out).mono ?_); (case side1 => repeat (first | exact (Rr HO0_0.out).2.2 | (with_reducible refine Ca ?_ _) | (with_reducible refine Cn ?_ _) | (with_reducible refine Cd ?_))); (case side2 => exact (Rr HO0_0.out).2.1); rintro e w35 ⟨rfl, hb⟩; refine ⟨_, rfl, ?_⟩; have n0_ := AM (Rb (lfR HO0_0.out) hb); have n1_ := AM (kb (g := gb123) (o := .cells #[.slice Ao30 l0_0.length co30, .int .i64 a0_1] 28 (0, 0)) (lfK BK123.out) hb); have n2_ := AM (kb (g := gb124) (o := .cells #[.slice none 0 0, .int .i64 0] 28 (0, 0)) (lfK BK124.out) hb); have n3_ := AM (Kept.below (S := (fun k_ => P0_0_ k_)) (by repeat (first | (with_reducible first | exact HK.out | apply Kept.alloc | apply Kept.drewN | apply Kept.drew | refine Kept.setCell ?_ (.inr GW123.out) _ | refine Kept.setCell ?_ (.inr GW124.out) _) | exact HK.out)) hb); have n4_ := AM (bp (by repeat (first | (with_reducible first | exact HB.out | apply ba | apply bn | apply bd | refine bs ?_ GE123.out | refine bs ?_ GE124.out) | exact HB.out)) hb); clear HO0_0 BK123 BK124 HK HB; revert n0_ n1_ n2_ n3_ n4_; intro HO0_0 BK123 BK124 HK HB; (try clear hb)))
                have n0_ := AM (Rd HO0_0.out)
                have n1_ := AM (kd BK123.out)
                have n2_ := AM (kd BK124.out)
                have n3_ := AM (Kept.drew HK.out)
                have n4_ := AM (bd HB.out)
                clear HO0_0 BK123 BK124 HK HB
                revert n0_ n1_ n2_ n3_ n4_
                intro HO0_0 BK123 BK124 HK HB
                have p126 : 0 ≤ (t125 : Int) := of_decide_eq_true (by first | (with_reducible assumption) | assumption)
                have q126 : t125 < (l0_0.length : Int) := of_decide_eq_true (by first | (with_reducible assumption) | assumption)
                obtain ⟨ad126, e126, hx126_0, hx126_1, hx126_2, hx126_3⟩ := at_T51 (Rr HO0_0.out).2.2 t125 p126 q126
                cases e126
                replace p126 := eq_true p126
                replace q126 := eq_true q126
                have p127 : 0 ≤ (t125 : Int) := of_decide_eq_true (by first | (with_reducible assumption) | assumption)
                have q127 : t125 < (l0_0.length : Int) := of_decide_eq_true (by first | (with_reducible assumption) | assumption)
                obtain ⟨ad127, e127, hx127_0, hx127_1, hx127_2, hx127_3⟩ := at_T51 (Rr HO0_0.out).2.2 t125 p127 q127
                obtain rfl : ad126 = ad127 := (by injection e127)
                replace p127 := eq_true p127
                replace q127 := eq_true q127
                refine start_ (n := 15) (S := fun w' => w'.cell? ⟨gb123, 0, none⟩ = some (.slice (some ad126) l0_0.length co30) ∧ w'.cell? ⟨gb123, 1, none⟩ = some (.int .i64 a0_1) ∧ w'.cell? (ad126.add ((t125).toNat * 4)) = some (.int .i64 ((rd_T51 l0_0 t125).f0)) ∧ w'.cell? ⟨(ad126.add ((t125).toNat * 4)).block, (ad126.add ((t125).toNat * 4)).off + 1, none⟩ = some (.int .i64 ((rd_T51 l0_0 t125).f1)) ∧ w'.cell? ⟨(ad126.add ((t125).toNat * 4)).block, (ad126.add ((t125).toNat * 4)).off + 2, none⟩ = some (.int .i64 ((rd_T51 l0_0 t125).f2)) ∧ w'.cell? ⟨(ad126.add ((t125).toNat * 4)).block, (ad126.add ((t125).toNat * 4)).off + 3, none⟩ = some (.bool ((rd_T51 l0_0 t125).f3)) ∧ w'.cell? (ad126.add ((t125).toNat * 4)) = some (.int .i64 ((rd_T51 l0_0 t125).f0)) ∧ w'.cell? ⟨(ad126.add ((t125).toNat * 4)).block, (ad126.add ((t125).toNat * 4)).off + 1, none⟩ = some (.int .i64 ((rd_T51 l0_0 t125).f1)) ∧ w'.cell? ⟨(ad126.add ((t125).toNat * 4)).block, (ad126.add ((t125).toNat * 4)).off + 2, none⟩ = some (.int .i64 ((rd_T51 l0_0 t125).f2)) ∧ w'.cell? ⟨(ad126.add ((t125).toNat * 4)).block, (ad126.add ((t125).toNat * 4)).off + 3, none⟩ = some (.bool ((rd_T51 l0_0 t125).f3))) (ds := []) (mB 15 0x0) (by kernel_rfl) rfl rfl ⟨(kc BK123.out 0).trans rfl, (kc BK123.out 1).trans rfl, hx126_0, hx126_1, hx126_2, hx126_3, hx127_0, hx127_1, hx127_2, hx127_3⟩ (fun hHeld => ?_); refine with_tabW spec_l11Tick.tab4 spec_l11Tick.bits4 (fun HT_ HW_ => ?_)
                generalize w35.drew = w36 at HO0_0 BK123 BK124 HK HB hx126_0 hx126_1 hx126_2 hx126_3 hx127_0 hx127_1 hx127_2 hx127_3 hHeld ⊢
                refine puY (v := ?_) (a' := ?_) 0 11 (mB 15 0x1) rfl rfl HT_.out (by kernel_rfl) (fun _ _ _ h => h) (by rfl) ?_ ?_ ?_; rotate_left; (focus intro w'; go_simp; with_reducible rfl); rotate_left; (focus simp only [Act.put, sA, sZ, sS, i64_w, i32_w]; rfl); refine puY (v := ?_) (a' := ?_) 2 13 (mB 15 0x5) rfl rfl HT_.out (by kernel_rfl) (fun _ _ _ h => h) (by rfl) ?_ ?_ ?_; rotate_left; (focus intro w'; go_simp; with_reducible rfl); rotate_left; (focus simp only [Act.put, sA, sZ, sS, i64_w, i32_w]; rfl); refine puY (v := ?_) (a' := ?_) 6 17 (mB 15 0x45) rfl rfl HT_.out (by kernel_rfl) (fun _ _ _ h => h) (by rfl) ?_ ?_ ?_; rotate_left; (focus intro w'; go_simp; with_reducible rfl); rotate_left; (focus simp only [Act.put, sA, sZ, sS, i64_w, i32_w]; rfl); refine puY (v := ?_) (a' := ?_) 8 19 (mB 15 0x145) rfl rfl HT_.out (by kernel_rfl) (fun _ _ _ h => h) (by rfl) ?_ ?_ ?_; rotate_left; (focus intro w'; go_simp; with_reducible rfl); rotate_left; (focus simp only [Act.put, sA, sZ, sS, i64_w, i32_w]; rfl)
                refine take_ (i := 1) (N := some 12) (v := ?_) (a' := ?_) (mB 15 0x147) rfl rfl (take_ofW HT_.out HW_.out (by kernel_rfl)) (fun _ _ _ h => h) (Or.inl ⟨by rfl, ?_⟩) hHeld ?_ ?_
                rotate_left
                · rintro w' ⟨s0, s1, s2, s3, s4, s5, s6, s7, s8, s9⟩; go_simp; with_reducible rfl
                rotate_left
                · simp only [Act.put, sA, sZ, sS, i64_w, i32_w]; rfl
                refine puY (v := ?_) (a' := ?_) 3 14 (mB 15 0x14f) rfl rfl HT_.out (by kernel_rfl) (fun _ _ _ h => h) (by rfl) ?_ ?_ ?_; rotate_left; (focus intro w'; go_simp; with_reducible rfl); rotate_left; (focus simp only [Act.put, sA, sZ, sS, i64_w, i32_w]; rfl); refine puY (v := ?_) (a' := ?_) 4 15 (mB 15 0x15f) rfl rfl HT_.out (by kernel_rfl) (fun _ _ _ h => h) (by rfl) ?_ ?_ ?_; rotate_left; (focus intro w'; go_simp; with_reducible rfl); rotate_left; (focus simp only [Act.put, sA, sZ, sS, i64_w, i32_w]; rfl)
                refine take_ (i := 5) (N := some 16) (v := ?_) (a' := ?_) (mB 15 0x17f) rfl rfl (take_ofW HT_.out HW_.out (by kernel_rfl)) (fun _ _ _ h => h) (Or.inl ⟨by rfl, ?_⟩) hHeld ?_ ?_
                rotate_left
                · rintro w' ⟨s0, s1, s2, s3, s4, s5, s6, s7, s8, s9⟩; go_simp; with_reducible rfl
                rotate_left
                · simp only [Act.put, sA, sZ, sS, i64_w, i32_w]; rfl
                refine take_ (i := 7) (N := some 18) (v := ?_) (a' := ?_) (mB 15 0x1ff) rfl rfl (take_ofW HT_.out HW_.out (by kernel_rfl)) (fun _ _ _ h => h) (Or.inl ⟨by rfl, ?_⟩) hHeld ?_ ?_
                rotate_left
                · rintro w' ⟨s0, s1, s2, s3, s4, s5, s6, s7, s8, s9⟩; go_simp; with_reducible rfl
                rotate_left
                · simp only [Act.put, sA, sZ, sS, i64_w, i32_w]; rfl
                refine puY (v := ?_) (a' := ?_) 9 20 (mB 15 0x3ff) rfl rfl HT_.out (by kernel_rfl) (fun _ _ _ h => h) (by rfl) ?_ ?_ ?_; rotate_left; (focus intro w'; go_simp; with_reducible rfl); rotate_left; (focus simp only [Act.put, sA, sZ, sS, i64_w, i32_w]; rfl); refine puY (v := ?_) (a' := ?_) 10 21 (mB 15 0x7ff) rfl rfl HT_.out (by kernel_rfl) (fun _ _ _ h => h) (by rfl) ?_ ?_ ?_; rotate_left; (focus intro w'; go_simp; with_reducible rfl); rotate_left; (focus simp only [Act.put, sA, sZ, sS, i64_w, i32_w]; rfl)
                refine take_ (i := 11) (N := some 22) (v := ?_) (a' := ?_) (mB 15 0xfff) rfl rfl (take_ofW HT_.out HW_.out (by kernel_rfl)) (fun _ _ _ h => h) (Or.inl ⟨by rfl, ?_⟩) hHeld ?_ ?_
                rotate_left
                · rintro w' ⟨s0, s1, s2, s3, s4, s5, s6, s7, s8, s9⟩; go_simp; with_reducible rfl
                rotate_left
                · simp only [Act.put, sA, sZ, sS, i64_w, i32_w]; rfl
                refine puY (v := ?_) (a' := ?_) 12 23 (mB 15 0x1fff) rfl rfl HT_.out (by kernel_rfl) (fun _ _ _ h => h) (by rfl) ?_ ?_ ?_; rotate_left; (focus intro w'; go_simp; with_reducible rfl); rotate_left; (focus simp only [Act.put, sA, sZ, sS, i64_w, i32_w]; rfl); refine puY (v := ?_) (a' := ?_) 13 24 (mB 15 0x3fff) rfl rfl HT_.out (by kernel_rfl) (fun _ _ _ h => h) (by rfl) ?_ ?_ ?_; rotate_left; (focus intro w'; go_simp; with_reducible rfl); rotate_left; (focus simp only [Act.put, sA, sZ, sS, i64_w, i32_w]; rfl); refine puY (v := ?_) (a' := ?_) 14 5 (mB 15 0x7fff) rfl rfl HT_.out (by kernel_rfl) (fun _ _ _ h => h) (by rfl) ?_ ?_ ?_; rotate_left; (focus intro w'; go_simp; with_reducible rfl); rotate_left; (focus simp only [Act.put, sA, sZ, sS, i64_w, i32_w]; rfl)
                refine done_ (done_of HT_.out (by kernel_rfl)) ?_
                have hcz37_0 : w36.cell? ⟨gb123, 0, none⟩ = some (.slice (some ad126) l0_0.length co30) := (kc BK123.out 0).trans rfl
                have hcz37_1 : w36.cell? ⟨gb123, 1, none⟩ = some (.int .i64 a0_1) := (kc BK123.out 1).trans rfl
                have hfz37_0 := kz BK123.out 0
                have hfz37_1 := kz BK123.out 1
                have p25 : 0 ≤ (t125 : Int) := of_decide_eq_true (by first | (with_reducible assumption) | assumption)
                have q25 : (t125 : Int) < ((l0_0.length : Int) : Int) := of_decide_eq_true (by first | (with_reducible assumption) | assumption)
                obtain ⟨go25, co25, eo25, gb25, gl25, cl25, HG25⟩ := Kd.R_form HO0_0.out (by omega)
                (first | cases eo25 | (injection eo25 with ea_ en_ ec_; (first | subst ea_ | (injection ea_ with ea_; subst ea_)); subst ec_; clear en_))
                have GB25 := AM gb25
                have GG25 := AM HG25
                clear gb25 gl25 HG25
                have HMgo25 := AM (show (P0_0_ go25 ∨ w.heap.size ≤ go25) from (HO0_0.out.1 _ rfl))
                (first | simp only [add_plain] at hx126_0 | skip)
                (first | simp only [add_plain] at hx126_1 | skip)
                (first | simp only [add_plain] at hx126_2 | skip)
                (first | simp only [add_plain] at hx126_3 | skip)
                (first | simp only [add_plain] at hx127_0 | skip)
                (first | simp only [add_plain] at hx127_1 | skip)
                (first | simp only [add_plain] at hx127_2 | skip)
                (first | simp only [add_plain] at hx127_3 | skip)
                obtain ⟨ce25, hcl25, hM25, hcc25, hfr25⟩ := Kd.R_elem HO0_0.out z51 (t125 : Int) p25 q25
                obtain rfl := k51_openM hM25
                have hx25_0 : w36.cell? ⟨go25, (t125 : Int).toNat * 4, none⟩ = some (.int .i64 ((rd_T51 l0_0 t125).f0)) := hcc25 0 _ rfl
                have hx25_1 : w36.cell? ⟨go25, (t125 : Int).toNat * 4 + 1, none⟩ = some (.int .i64 ((rd_T51 l0_0 t125).f1)) := hcc25 1 _ rfl
                have hx25_2 : w36.cell? ⟨go25, (t125 : Int).toNat * 4 + 2, none⟩ = some (.int .i64 ((rd_T51 l0_0 t125).f2)) := hcc25 2 _ rfl
                have hx25_3 : w36.cell? ⟨go25, (t125 : Int).toNat * 4 + 3, none⟩ = some (.bool ((rd_T51 l0_0 t125).f3)) := hcc25 3 _ rfl
                have hf25_0 : w36.frozen? ⟨go25, (t125 : Int).toNat * 4, none⟩ = false := hfr25 0
                have hf25_1 : w36.frozen? ⟨go25, (t125 : Int).toNat * 4 + 1, none⟩ = false := hfr25 1
                have hf25_2 : w36.frozen? ⟨go25, (t125 : Int).toNat * 4 + 2, none⟩ = false := hfr25 2
                have hf25_3 : w36.frozen? ⟨go25, (t125 : Int).toNat * 4 + 3, none⟩ = false := hfr25 3
                clear hcl25 hcc25 hfr25 hM25
                replace p25 := eq_true p25
                replace q25 := eq_true q25
                have HX38 := AM (show Kd.R k51 51 w36 w0.heap.size (fun k_ => (P0_0_ k_ ∨ w.heap.size ≤ k_)) (.slice (some ⟨go25, 0, none⟩) l0_0.length co30) l0_0 from (lfR HO0_0.out))
                obtain ⟨ce38, hcl38, hM38, hcc38, hfr38⟩ := Kd.R_elem HX38.out z51 (t125 : Int) (of_decide_eq_true (by first | (with_reducible assumption) | assumption)) (by have h_ : (t125 : Int) < ((l0_0.length : Int) : Int) := of_decide_eq_true (by first | (with_reducible assumption) | assumption); first | exact h_ | (have e_ := (Rr HO0_0.out).1; omega) | simpa using h_)
                obtain rfl := k51_openM hM38
                have HP38 := Kd.R_seg HX38.out (t125 : Int) (of_decide_eq_true (by first | (with_reducible assumption) | assumption)) (by have h_ : (t125 : Int) < ((l0_0.length : Int) : Int) := of_decide_eq_true (by first | (with_reducible assumption) | assumption); first | exact h_ | (have e_ := (Rr HO0_0.out).1; omega) | simpa using h_) (seg := [.int .i64 (wrap64 (((rd_T51 l0_0 t125).f2) + (wrap64 (Int.tdiv (60 : Int) ((rd_T51 l0_0 t125).f1)))))]) (j := 2) hcl38 hcc38 (show 3 ≤ 4 from by decide) (x' := (⟨(rd_T51 l0_0 t125).f0, (rd_T51 l0_0 t125).f1, wrap64 (((rd_T51 l0_0 t125).f2) + (wrap64 (Int.tdiv (60 : Int) ((rd_T51 l0_0 t125).f1)))), (rd_T51 l0_0 t125).f3⟩ : S51)) (k51_mkM _ _ _ (⟨(rd_T51 l0_0 t125).f0, (rd_T51 l0_0 t125).f1, wrap64 (((rd_T51 l0_0 t125).f2) + (wrap64 (Int.tdiv (60 : Int) ((rd_T51 l0_0 t125).f1)))), (rd_T51 l0_0 t125).f3⟩ : S51) ) (fun _ hk => hk)
                have hx38_2 := hcc38 2 _ rfl
                (try simp only [show (k51).sz = 4 from rfl, Nat.mul_one, Nat.add_zero] at hx38_2)
                have hf38_2 := hfr38 2
                (try simp only [show (k51).sz = 4 from rfl, Nat.mul_one, Nat.add_zero] at hf38_2)
                clear hcl38 hcc38 hfr38 hM38
                try go_wp2_with (first | ((with_reducible refine gs (t := 3) (p := 33) rfl ?_); refine se (t := 3) (p := 33) (v := ?vo_w39) (w1 := (w36.setCell ⟨go25, (t125 : Int).toNat * 4 + 2, none⟩ (.int .i64 (wrap64 (((rd_T51 l0_0 t125).f2) + (wrap64 (Int.tdiv (60 : Int) ((rd_T51 l0_0 t125).f1)))))))) ?hg ?ho ?hn ?hr ?_; (case ho => rfl); (case hg => rfl); (case hn => rfl); (case hr => first | (go_simp; done) | (go_simp; rfl)); intro w39 hw; have hg : w36.grownBy w39 (some go25) := (by rw [hw]; exact HP38.2); have hp_ : Kd.R k51 51 w39 w0.heap.size (fun k_ => (P0_0_ k_ ∨ w.heap.size ≤ k_)) (.slice (some ⟨go25, 0, none⟩) l0_0.length co30) y128 := (by rw [hw, Ny128.out]; exact HP38.1); clear HP38; have n0_ := AM (hp_); have n1_ := AM (blk_grown (g := gb123) (o := .cells #[.slice (some ⟨go25, 0, none⟩) l0_0.length co30, .int .i64 a0_1] 28 (0, 0)) (lfK BK123.out) hg (Kd.R_ne HO0_0.out BK123.out (by decide))); have n2_ := AM (blk_grown (g := gb124) (o := .cells #[.slice none 0 0, .int .i64 0] 28 (0, 0)) (lfK BK124.out) hg (Kd.R_ne HO0_0.out BK124.out (by decide))); have n3_ := AM ((by rw [hw]; exact bs (HB.out) GB25.out : Below w0.heap.size w0 w39)); have n4_ := AM (Kept.of_grown (S := (fun k_ => P0_0_ k_)) hg (by repeat (first | (with_reducible first | exact HK.out | apply Kept.alloc | apply Kept.drewN | apply Kept.drew | refine Kept.setCell ?_ (.inr GW123.out) _ | refine Kept.setCell ?_ (.inr GW124.out) _) | exact HK.out)) (fun k_ e_ => (HO0_0.out.1 k_ e_))); clear HO0_0 BK123 BK124 HB HK; revert n0_ n1_ n2_ n3_ n4_; intro HO0_0 BK123 BK124 HB HK; clear hg hw hp_))
                have n0_ := AM (Rd HO0_0.out)
                have n1_ := AM (kd BK123.out)
                have n2_ := AM (kd BK124.out)
                have n3_ := AM (Kept.drew HK.out)
                have n4_ := AM (bd HB.out)
                clear HO0_0 BK123 BK124 HK HB
                revert n0_ n1_ n2_ n3_ n4_
                intro HO0_0 BK123 BK124 HK HB
                have p130 : 0 ≤ (t129 : Int) := of_decide_eq_true (by first | (with_reducible assumption) | assumption)
                have q130 : t129 < (y128.length : Int) := (by have h_ : (t129 : Int) < ((l0_0.length : Int) : Int) := of_decide_eq_true (by first | (with_reducible assumption) | assumption); first | (have e_ := (Rr HO0_0.out).1; omega) | simpa only [Ny128.out, List.length_set] using h_)
                have ql130 : ((t129 : Int) < ((l0_0.length : Int) : Int)) = True := eq_true (of_decide_eq_true (by first | (with_reducible assumption) | assumption))
                obtain ⟨ad130, e130, hx130_0, hx130_1, hx130_2, hx130_3⟩ := at_T51 (Rr HO0_0.out).2.2 t129 p130 q130
                obtain rfl : (⟨go25, 0, none⟩ : Addr) = ad130 := (by injection e130)
                (first | simp only [add_plain] at hx130_0 | simp only [add_at] at hx130_0 | simp only [Addr.add, Nat.zero_add] at hx130_0 | skip)
                (first | simp only [add_plain] at hx130_1 | simp only [add_at] at hx130_1 | simp only [Addr.add, Nat.zero_add] at hx130_1 | skip)
                (first | simp only [add_plain] at hx130_2 | simp only [add_at] at hx130_2 | simp only [Addr.add, Nat.zero_add] at hx130_2 | skip)
                (first | simp only [add_plain] at hx130_3 | simp only [add_at] at hx130_3 | simp only [Addr.add, Nat.zero_add] at hx130_3 | skip)
                replace p130 := eq_true p130
                replace q130 := eq_true q130
                refine start_ (n := 12) (S := fun w' => w'.cell? ⟨gb123, 0, none⟩ = some (.slice (some ⟨go25, 0, none⟩) l0_0.length co30) ∧ w'.cell? ⟨gb123, 1, none⟩ = some (.int .i64 a0_1) ∧ w'.cell? ⟨go25, (t129).toNat * 4, none⟩ = some (.int .i64 ((rd_T51 y128 t129).f0)) ∧ w'.cell? ⟨go25, (t129).toNat * 4 + 1, none⟩ = some (.int .i64 ((rd_T51 y128 t129).f1)) ∧ w'.cell? ⟨go25, (t129).toNat * 4 + 2, none⟩ = some (.int .i64 ((rd_T51 y128 t129).f2)) ∧ w'.cell? ⟨go25, (t129).toNat * 4 + 3, none⟩ = some (.bool ((rd_T51 y128 t129).f3))) (ds := [11]) (mB 12 0x0) (by kernel_rfl) rfl rfl ⟨(kc BK123.out 0).trans rfl, (kc BK123.out 1).trans rfl, hx130_0, hx130_1, hx130_2, hx130_3⟩ (fun hHeld => ?_); refine with_tabW spec_l11Tick.tab8 spec_l11Tick.bits8 (fun HT_ HW_ => ?_)
                generalize w39.drew = w40 at HO0_0 BK123 BK124 HK HB hx130_0 hx130_1 hx130_2 hx130_3 hHeld ⊢
                refine puY (v := ?_) (a' := ?_) 0 34 (mB 12 0x1) rfl rfl HT_.out (by kernel_rfl) (fun _ _ _ h => h) (by rfl) ?_ ?_ ?_; rotate_left; (focus intro w'; go_simp; with_reducible rfl); rotate_left; (focus simp only [Act.put, sA, sZ, sS, i64_w, i32_w]; rfl); refine puY (v := ?_) (a' := ?_) 2 36 (mB 12 0x5) rfl rfl HT_.out (by kernel_rfl) (fun _ _ _ h => h) (by rfl) ?_ ?_ ?_; rotate_left; (focus intro w'; go_simp; with_reducible rfl); rotate_left; (focus simp only [Act.put, sA, sZ, sS, i64_w, i32_w]; rfl)
                refine take_ (i := 1) (N := some 35) (v := ?_) (a' := ?_) (mB 12 0x7) rfl rfl (take_ofW HT_.out HW_.out (by kernel_rfl)) (fun _ _ _ h => h) (Or.inl ⟨by rfl, ?_⟩) hHeld ?_ ?_
                rotate_left
                · rintro w' ⟨s0, s1, s2, s3, s4, s5⟩; go_simp; with_reducible rfl
                rotate_left
                · simp only [Act.put, sA, sZ, sS, i64_w, i32_w]; rfl
                refine take_ (i := 3) (N := some 37) (v := ?_) (a' := ?_) (mB 12 0xf) rfl rfl (take_ofW HT_.out HW_.out (by kernel_rfl)) (fun _ _ _ h => h) (Or.inl ⟨by rfl, ?_⟩) hHeld ?_ ?_
                rotate_left
                · rintro w' ⟨s0, s1, s2, s3, s4, s5⟩; go_simp; with_reducible rfl
                rotate_left
                · simp only [Act.put, sA, sZ, sS, i64_w, i32_w]; rfl
                refine take_ (i := 4) (N := some 38) (v := ?_) (a' := ?_) (mB 12 0x1f) rfl rfl (take_ofW HT_.out HW_.out (by kernel_rfl)) (fun _ _ _ h => h) (Or.inl ⟨by rfl, ?_⟩) hHeld ?_ ?_
                rotate_left
                · rintro w' ⟨s0, s1, s2, s3, s4, s5⟩; go_simp; with_reducible rfl
                rotate_left
                · simp only [Act.put, sA, sZ, sS, i64_w, i32_w]; rfl
                refine one_ (i := 5) (N := some 39) (mB 12 0x3f) rfl rfl (one_of HT_.out (by kernel_rfl)) (by decide) (fun K hK => ?_)
                refine goes_ Try.func27 (by kernel_rfl) rfl #[.agg #[.slice (some ⟨go25, 0, none⟩) y128.length co30, .int .i64 a0_1]] (by rfl) rfl rfl (by (try simp only [List.map_toArray, List.map_cons, List.map_nil]); first | done | (rw [show y128.length = l0_0.length from (Rr HO0_0.out).1.symm] <;> rfl) | rfl | (simp only [List.length_drop, List.length_take]; rfl)) ?_
                with_reducible refine (spec_l11Next.calls k _ _ y128 a0_1 t129 _ ?side1 ?side2 A26.out).mono ?_
                (case side1 => repeat (first | exact (Rr HO0_0.out).2.2 | (with_reducible refine Ca ?_ _) | (with_reducible refine Cn ?_ _) | (with_reducible refine Cd ?_)))
                (case side2 => rw [show y128.length = l0_0.length from (Rr HO0_0.out).1.symm]; exact (Rr HO0_0.out).2.1)
                rintro e w41 ⟨rfl, hb⟩
                have HS2_ := (hb.cell (World.block_lt_of_cell? _ _ (hHeld.2.2.1))).trans (hHeld.2.2.1)
                have HS3_ := (hb.cell (World.block_lt_of_cell? _ _ (hHeld.2.2.2.1))).trans (hHeld.2.2.2.1)
                have HS4_ := (hb.cell (World.block_lt_of_cell? _ _ (hHeld.2.2.2.2.1))).trans (hHeld.2.2.2.2.1)
                have HS5_ := (hb.cell (World.block_lt_of_cell? _ _ (hHeld.2.2.2.2.2))).trans (hHeld.2.2.2.2.2)
                refine ⟨_, rfl, ?_⟩
                have n0_ := AM (Rb (lfR HO0_0.out) hb)
                have n1_ := AM (kb (g := gb123) (o := .cells #[.slice (some ⟨go25, 0, none⟩) l0_0.length co30, .int .i64 a0_1] 28 (0, 0)) (lfK BK123.out) hb)
                have n2_ := AM (kb (g := gb124) (o := .cells #[.slice none 0 0, .int .i64 0] 28 (0, 0)) (lfK BK124.out) hb)
                have n3_ := AM (Kept.below (S := (fun k_ => P0_0_ k_)) (by repeat (first | (with_reducible first | exact HK.out | apply Kept.alloc | apply Kept.drewN | apply Kept.drew | refine Kept.setCell ?_ (.inr GW123.out) _ | refine Kept.setCell ?_ (.inr GW124.out) _) | exact HK.out)) hb)
                have n4_ := AM (bp (by repeat (first | (with_reducible first | exact HB.out | apply ba | apply bn | apply bd | refine bs ?_ GE123.out | refine bs ?_ GE124.out) | exact HB.out)) hb)
                clear HO0_0 BK123 BK124 HK HB
                revert n0_ n1_ n2_ n3_ n4_
                intro HO0_0 BK123 BK124 HK HB
                (try clear hb)
                (try clear hb2)
                (try clear hk)
                (try clear hi)
                refine hK.out _ _ ⟨(kc BK123.out 0).trans rfl, (kc BK123.out 1).trans rfl, HS2_, HS3_, HS4_, HS5_⟩ (fun hHeld => ?_)
                clear hK K
                refine norm_ (a' := ?_) ?_ ?_
                rotate_left
                · show Act.put _ (some 39) _ = _
                  simp only [Act.put, sA, sZ, sS, i64_w, i32_w]
                  rfl
                refine puY (v := ?_) (a' := ?_) 6 40 (mB 12 0x7f) rfl rfl HT_.out (by kernel_rfl) (fun _ _ _ h => h) (by rfl) ?_ ?_ ?_; rotate_left; (focus intro w'; go_simp; with_reducible rfl); rotate_left; (focus simp only [Act.put, sA, sZ, sS, i64_w, i32_w]; rfl); refine puY (v := ?_) (a' := ?_) 7 41 (mB 12 0xff) rfl rfl HT_.out (by kernel_rfl) (fun _ _ _ h => h) (by rfl) ?_ ?_ ?_; rotate_left; (focus intro w'; go_simp; with_reducible rfl); rotate_left; (focus simp only [Act.put, sA, sZ, sS, i64_w, i32_w]; rfl)
                refine take_ (i := 8) (N := some 42) (v := ?_) (a' := ?_) (mB 12 0x1ff) rfl rfl (take_ofW HT_.out HW_.out (by kernel_rfl)) (fun _ _ _ h => h) (Or.inl ⟨by rfl, ?_⟩) hHeld ?_ ?_
                rotate_left
                · rintro w' ⟨s0, s1, s2, s3, s4, s5⟩; go_simp; with_reducible rfl
                rotate_left
                · simp only [Act.put, sA, sZ, sS, i64_w, i32_w]; rfl
                refine puY (v := ?_) (a' := ?_) 9 43 (mB 12 0x3ff) rfl rfl HT_.out (by kernel_rfl) (fun _ _ _ h => h) (by rfl) ?_ ?_ ?_; rotate_left; (focus intro w'; go_simp; with_reducible rfl); rotate_left; (focus simp only [Act.put, sA, sZ, sS, i64_w, i32_w]; rfl); refine puY (v := ?_) (a' := ?_) 10 44 (mB 12 0x7ff) rfl rfl HT_.out (by kernel_rfl) (fun _ _ _ h => h) (by rfl) ?_ ?_ ?_; rotate_left; (focus intro w'; go_simp; with_reducible rfl); rotate_left; (focus simp only [Act.put, sA, sZ, sS, i64_w, i32_w]; rfl)
                refine last_ (i := 11) (N := none) (mB 12 0xfff) rfl rfl (one_of HT_.out (by kernel_rfl)) (by decide) (fun K hK => ?_)
                have hs42 : w41.cell? ⟨gb123, 1, none⟩ = some (.int .i64 a0_1) := (kc BK123.out 1).trans rfl
                have hfs42 := kz BK123.out 1
                have hns42_1 := NB124_123.out
                have hms42_1 := NB123_124.out
                refine skip_ (w1 := ?_) (by rfl) rfl ?_ ?_
                rotate_left
                · go_simp
                  rfl
                refine hK.out _ _ ?_
                clear hK K
                refine done_ (done_of HT_.out (by kernel_rfl)) ?_
                try go_wp2
                have n0_ : Aside0 (Kd.R k51 51 (w41.setCell ⟨gb123, 1, none⟩ (.int .i64 ji29)) w0.heap.size (fun k_ => (P0_0_ k_ ∨ w.heap.size ≤ k_)) (.slice (some ⟨go25, 0, none⟩) l0_0.length co30) y128) := ⟨by (with_reducible repeat (first | apply Ra | apply Rn | apply Rd)); exact Rm (Rf (p := ⟨gb123, 1, none⟩) (Rt HO0_0.out BK123.out (by decide)) (fun _ hk => hk.2) (.int .i64 ji29)) (fun _ hk => hk.1)⟩
                have n1_ : Aside0 ((w41.setCell ⟨gb123, 1, none⟩ (.int .i64 ji29)).heap[gb123]? = some (.cells #[.slice (some ⟨go25, 0, none⟩) l0_0.length co30, .int .i64 ji29] 28 (0, 0))) := ⟨by (with_reducible repeat (first | refine kn ?_ _ | refine kd ?_ | refine ka ?_ _)); refine blk_put (cs := #[.slice (some ⟨go25, 0, none⟩) l0_0.length co30, .int .i64 a0_1]) ?_ 1 _ rfl; (with_reducible repeat (first | refine kn ?_ _ | refine kd ?_ | refine ka ?_ _)); exact BK123.out⟩
                have n2_ : Aside0 ((w41.setCell ⟨gb123, 1, none⟩ (.int .i64 ji29)).heap[gb124]? = some (.cells #[.slice none 0 0, .int .i64 0] 28 (0, 0))) := ⟨by (with_reducible repeat (first | refine kn ?_ _ | refine kd ?_ | refine ka ?_ _)); refine kf ?_ NB124_123.out _; (with_reducible repeat (first | refine kn ?_ _ | refine kd ?_ | refine ka ?_ _)); exact BK124.out⟩
                have n3_ : Aside0 (Kept w (w41.setCell ⟨gb123, 1, none⟩ (.int .i64 ji29)) (fun k_ => P0_0_ k_)) := ⟨by repeat (first | (with_reducible first | exact HK.out | apply Kept.alloc | apply Kept.drewN | apply Kept.drew | refine Kept.setCell ?_ (.inr GW123.out) _ | refine Kept.setCell ?_ (.inr GW124.out) _) | exact HK.out)⟩
                have n4_ : Aside0 (Below w0.heap.size w0 (w41.setCell ⟨gb123, 1, none⟩ (.int .i64 ji29))) := ⟨by repeat (first | (with_reducible first | exact HB.out | apply ba | apply bn | apply bd | refine bs ?_ GE123.out | refine bs ?_ GE124.out) | exact HB.out)⟩
                (try clear HO0_0)
                (try clear BK123)
                (try clear BK124)
                (try clear HK)
                (try clear HB)
                generalize (w41.setCell ⟨gb123, 1, none⟩ (.int .i64 ji29)) = w43 at n0_ n1_ n2_ n3_ n4_ ⊢
                revert n0_ n1_ n2_ n3_ n4_
                intro HO0_0 BK123 BK124 HK HB
                have n0_ := AM (Rd HO0_0.out)
                have n1_ := AM (kd BK123.out)
                have n2_ := AM (kd BK124.out)
                have n3_ := AM (Kept.drew HK.out)
                have n4_ := AM (bd HB.out)
                clear HO0_0 BK123 BK124 HK HB
                revert n0_ n1_ n2_ n3_ n4_
                intro HO0_0 BK123 BK124 HK HB
                have p131 : 0 ≤ (t125 : Int) := of_decide_eq_true (by first | (with_reducible assumption) | assumption)
                have q131 : t125 < (y128.length : Int) := (by have h_ : (t125 : Int) < ((l0_0.length : Int) : Int) := of_decide_eq_true (by first | (with_reducible assumption) | assumption); first | (have e_ := (Rr HO0_0.out).1; omega) | simpa only [Ny128.out, List.length_set] using h_)
                have ql131 : ((t125 : Int) < ((l0_0.length : Int) : Int)) = True := eq_true (of_decide_eq_true (by first | (with_reducible assumption) | assumption))
                obtain ⟨ad131, e131, hx131_0, hx131_1, hx131_2, hx131_3⟩ := at_T51 (Rr HO0_0.out).2.2 t125 p131 q131
                obtain rfl : (⟨go25, 0, none⟩ : Addr) = ad131 := (by injection e131)
                (first | simp only [add_plain] at hx131_0 | simp only [add_at] at hx131_0 | simp only [Addr.add, Nat.zero_add] at hx131_0 | skip)
                (first | simp only [add_plain] at hx131_1 | simp only [add_at] at hx131_1 | simp only [Addr.add, Nat.zero_add] at hx131_1 | skip)
                (first | simp only [add_plain] at hx131_2 | simp only [add_at] at hx131_2 | simp only [Addr.add, Nat.zero_add] at hx131_2 | skip)
                (first | simp only [add_plain] at hx131_3 | simp only [add_at] at hx131_3 | simp only [Addr.add, Nat.zero_add] at hx131_3 | skip)
                replace p131 := eq_true p131
                replace q131 := eq_true q131
                refine start_ (n := 9) (S := fun w' => w'.cell? ⟨gb123, 0, none⟩ = some (.slice (some ⟨go25, 0, none⟩) l0_0.length co30) ∧ w'.cell? ⟨gb123, 1, none⟩ = some (.int .i64 ji29) ∧ w'.cell? ⟨go25, (t125).toNat * 4, none⟩ = some (.int .i64 ((rd_T51 y128 t125).f0)) ∧ w'.cell? ⟨go25, (t125).toNat * 4 + 1, none⟩ = some (.int .i64 ((rd_T51 y128 t125).f1)) ∧ w'.cell? ⟨go25, (t125).toNat * 4 + 2, none⟩ = some (.int .i64 ((rd_T51 y128 t125).f2)) ∧ w'.cell? ⟨go25, (t125).toNat * 4 + 3, none⟩ = some (.bool ((rd_T51 y128 t125).f3))) (ds := []) (mB 9 0x0) (by kernel_rfl) rfl rfl ⟨(kc BK123.out 0).trans rfl, (kc BK123.out 1).trans rfl, hx131_0, hx131_1, hx131_2, hx131_3⟩ (fun hHeld => ?_); refine with_tabW spec_l11Tick.tab9 spec_l11Tick.bits9 (fun HT_ HW_ => ?_)
                generalize w43.drew = w44 at HO0_0 BK123 BK124 HK HB hx131_0 hx131_1 hx131_2 hx131_3 hHeld ⊢
                refine puY (v := ?_) (a' := ?_) 1 46 (mB 9 0x2) rfl rfl HT_.out (by kernel_rfl) (fun _ _ _ h => h) (by rfl) ?_ ?_ ?_; rotate_left; (focus intro w'; go_simp; with_reducible rfl); rotate_left; (focus simp only [Act.put, sA, sZ, sS, i64_w, i32_w]; rfl); refine puY (v := ?_) (a' := ?_) 3 48 (mB 9 0xa) rfl rfl HT_.out (by kernel_rfl) (fun _ _ _ h => h) (by rfl) ?_ ?_ ?_; rotate_left; (focus intro w'; go_simp; with_reducible rfl); rotate_left; (focus simp only [Act.put, sA, sZ, sS, i64_w, i32_w]; rfl)
                refine take_ (i := 0) (N := some 45) (v := ?_) (a' := ?_) (mB 9 0xb) rfl rfl (take_ofW HT_.out HW_.out (by kernel_rfl)) (fun _ _ _ h => h) (Or.inl ⟨by rfl, ?_⟩) hHeld ?_ ?_
                rotate_left
                · rintro w' ⟨s0, s1, s2, s3, s4, s5⟩; go_simp; with_reducible rfl
                rotate_left
                · simp only [Act.put, sA, sZ, sS, i64_w, i32_w]; rfl
                refine take_ (i := 2) (N := some 47) (v := ?_) (a' := ?_) (mB 9 0xf) rfl rfl (take_ofW HT_.out HW_.out (by kernel_rfl)) (fun _ _ _ h => h) (Or.inl ⟨by rfl, ?_⟩) hHeld ?_ ?_
                rotate_left
                · rintro w' ⟨s0, s1, s2, s3, s4, s5⟩; go_simp; with_reducible rfl
                rotate_left
                · simp only [Act.put, sA, sZ, sS, i64_w, i32_w]; rfl
                refine puY (v := ?_) (a' := ?_) 4 49 (mB 9 0x1f) rfl rfl HT_.out (by kernel_rfl) (fun _ _ _ h => h) (by rfl) ?_ ?_ ?_; rotate_left; (focus intro w'; go_simp; with_reducible rfl); rotate_left; (focus simp only [Act.put, sA, sZ, sS, i64_w, i32_w]; rfl); refine puY (v := ?_) (a' := ?_) 5 50 (mB 9 0x3f) rfl rfl HT_.out (by kernel_rfl) (fun _ _ _ h => h) (by rfl) ?_ ?_ ?_; rotate_left; (focus intro w'; go_simp; with_reducible rfl); rotate_left; (focus simp only [Act.put, sA, sZ, sS, i64_w, i32_w]; rfl)
                refine take_ (i := 6) (N := some 51) (v := ?_) (a' := ?_) (mB 9 0x7f) rfl rfl (take_ofW HT_.out HW_.out (by kernel_rfl)) (fun _ _ _ h => h) (Or.inl ⟨by rfl, ?_⟩) hHeld ?_ ?_
                rotate_left
                · rintro w' ⟨s0, s1, s2, s3, s4, s5⟩; go_simp; with_reducible rfl
                rotate_left
                · simp only [Act.put, sA, sZ, sS, i64_w, i32_w]; rfl
                refine one_ (i := 7) (N := none) (mB 9 0xff) rfl rfl (one_of HT_.out (by kernel_rfl)) (by decide) (fun K hK => ?_)
                have hs45 : w44.cell? ⟨gb124, 0, none⟩ = some (.slice none 0 0) := (kc BK124.out 0).trans rfl
                have hfs45 := kz BK124.out 0
                have hns45_0 := NB123_124.out
                have hms45_0 := NB124_123.out
                have hs46 : w44.cell? ⟨gb124, 1, none⟩ = some (.int .i64 0) := (kc BK124.out 1).trans rfl
                have hfs46 := kz BK124.out 1
                have hns46_0 := NB123_124.out
                have hms46_0 := NB124_123.out
                refine skip_ (w1 := ?_) (by rfl) rfl ?_ ?_
                rotate_left
                · go_simp
                  rfl
                refine hK.out _ _ ⟨((cell_far (p := ⟨gb124, _, none⟩) NB123_124.out _).trans (((cell_far (p := ⟨gb124, _, none⟩) NB123_124.out _).trans (hHeld.1)))), ((cell_far (p := ⟨gb124, _, none⟩) NB123_124.out _).trans (((cell_far (p := ⟨gb124, _, none⟩) NB123_124.out _).trans (hHeld.2.1)))), ((cell_far (p := ⟨gb124, _, none⟩) (by first | exact Kd.own_blk (Kd.R_ne HO0_0.out BK124.out (by decide)) | (rw [add_block]; exact Kd.own_blk (Kd.R_ne HO0_0.out BK124.out (by decide))) | (show (Addr.add _ _).block ≠ _; rw [add_block]; exact Kd.own_blk (Kd.R_ne HO0_0.out BK124.out (by decide))) | (dsimp only; exact Kd.own_blk (Kd.R_ne HO0_0.out BK124.out (by decide)))) _).trans (((cell_far (p := ⟨gb124, _, none⟩) (by first | exact Kd.own_blk (Kd.R_ne HO0_0.out BK124.out (by decide)) | (rw [add_block]; exact Kd.own_blk (Kd.R_ne HO0_0.out BK124.out (by decide))) | (show (Addr.add _ _).block ≠ _; rw [add_block]; exact Kd.own_blk (Kd.R_ne HO0_0.out BK124.out (by decide))) | (dsimp only; exact Kd.own_blk (Kd.R_ne HO0_0.out BK124.out (by decide)))) _).trans (hHeld.2.2.1)))), ((cell_far (p := ⟨gb124, _, none⟩) (by first | exact Kd.own_blk (Kd.R_ne HO0_0.out BK124.out (by decide)) | (rw [add_block]; exact Kd.own_blk (Kd.R_ne HO0_0.out BK124.out (by decide))) | (show (Addr.add _ _).block ≠ _; rw [add_block]; exact Kd.own_blk (Kd.R_ne HO0_0.out BK124.out (by decide))) | (dsimp only; exact Kd.own_blk (Kd.R_ne HO0_0.out BK124.out (by decide)))) _).trans (((cell_far (p := ⟨gb124, _, none⟩) (by first | exact Kd.own_blk (Kd.R_ne HO0_0.out BK124.out (by decide)) | (rw [add_block]; exact Kd.own_blk (Kd.R_ne HO0_0.out BK124.out (by decide))) | (show (Addr.add _ _).block ≠ _; rw [add_block]; exact Kd.own_blk (Kd.R_ne HO0_0.out BK124.out (by decide))) | (dsimp only; exact Kd.own_blk (Kd.R_ne HO0_0.out BK124.out (by decide)))) _).trans (hHeld.2.2.2.1)))), ((cell_far (p := ⟨gb124, _, none⟩) (by first | exact Kd.own_blk (Kd.R_ne HO0_0.out BK124.out (by decide)) | (rw [add_block]; exact Kd.own_blk (Kd.R_ne HO0_0.out BK124.out (by decide))) | (show (Addr.add _ _).block ≠ _; rw [add_block]; exact Kd.own_blk (Kd.R_ne HO0_0.out BK124.out (by decide))) | (dsimp only; exact Kd.own_blk (Kd.R_ne HO0_0.out BK124.out (by decide)))) _).trans (((cell_far (p := ⟨gb124, _, none⟩) (by first | exact Kd.own_blk (Kd.R_ne HO0_0.out BK124.out (by decide)) | (rw [add_block]; exact Kd.own_blk (Kd.R_ne HO0_0.out BK124.out (by decide))) | (show (Addr.add _ _).block ≠ _; rw [add_block]; exact Kd.own_blk (Kd.R_ne HO0_0.out BK124.out (by decide))) | (dsimp only; exact Kd.own_blk (Kd.R_ne HO0_0.out BK124.out (by decide)))) _).trans (hHeld.2.2.2.2.1)))), ((cell_far (p := ⟨gb124, _, none⟩) (by first | exact Kd.own_blk (Kd.R_ne HO0_0.out BK124.out (by decide)) | (rw [add_block]; exact Kd.own_blk (Kd.R_ne HO0_0.out BK124.out (by decide))) | (show (Addr.add _ _).block ≠ _; rw [add_block]; exact Kd.own_blk (Kd.R_ne HO0_0.out BK124.out (by decide))) | (dsimp only; exact Kd.own_blk (Kd.R_ne HO0_0.out BK124.out (by decide)))) _).trans (((cell_far (p := ⟨gb124, _, none⟩) (by first | exact Kd.own_blk (Kd.R_ne HO0_0.out BK124.out (by decide)) | (rw [add_block]; exact Kd.own_blk (Kd.R_ne HO0_0.out BK124.out (by decide))) | (show (Addr.add _ _).block ≠ _; rw [add_block]; exact Kd.own_blk (Kd.R_ne HO0_0.out BK124.out (by decide))) | (dsimp only; exact Kd.own_blk (Kd.R_ne HO0_0.out BK124.out (by decide)))) _).trans (hHeld.2.2.2.2.2))))⟩ (fun hHeld => ?_)
                clear hK K
                refine puY (v := ?_) (a' := ?_) 8 3 (mB 9 0x1ff) rfl rfl HT_.out (by kernel_rfl) (fun _ _ _ h => h) (by rfl) ?_ ?_ ?_; rotate_left; (focus intro w'; go_simp; with_reducible rfl); rotate_left; (focus simp only [Act.put, sA, sZ, sS, i64_w, i32_w]; rfl)
                refine done_ (done_of HT_.out (by kernel_rfl)) ?_
                try go_wp2
                refine bodyPost_ret (results_ct rfl _ _ gb124 28 #[.slice (some ⟨go25, 0, none⟩) l0_0.length co30, .int .i64 ji29] (0, 0) _ rfl (by (with_reducible repeat (first | refine kn ?_ _ | refine kd ?_ | refine ka ?_ _)); refine blk_put (cs := #[.slice (some ⟨go25, 0, none⟩) l0_0.length co30, .int .i64 0]) ?_ 1 _ rfl; (with_reducible repeat (first | refine kn ?_ _ | refine kd ?_ | refine ka ?_ _)); refine blk_put (cs := #[.slice none 0 0, .int .i64 0]) ?_ 0 _ rfl; (with_reducible repeat (first | refine kn ?_ _ | refine kd ?_ | refine ka ?_ _)); exact BK124.out) Try.underlying28 rfl (by kernel_rfl)) rfl ?_
                exact ⟨_, by first | rfl | (simp [errW_none, errW_some] <;> rfl) | (simp only [← hji29]; first | rfl | (simp [errW_none, errW_some] <;> rfl)) | (simp [*, errW_none, errW_some] <;> rfl), by (with_reducible repeat (first | apply Ra | apply Rn | apply Rd)); exact Rm (Rf (p := ⟨gb124, 1, none⟩) (Rf (p := ⟨gb124, 0, none⟩) (Rt HO0_0.out BK124.out (by decide)) (fun _ hk => hk.2) (.slice (some ⟨go25, 0, none⟩) l0_0.length co30)) (fun _ hk => hk.2) (.int .i64 ji29)) (fun _ hk => hk.1), by repeat (first | (with_reducible first | exact HB.out | apply ba | apply bn | apply bd | refine bs ?_ GE123.out | refine bs ?_ GE124.out) | exact HB.out), by repeat (first | (with_reducible first | exact HK.out | apply Kept.alloc | apply Kept.drewN | apply Kept.drew | refine Kept.setCell ?_ (.inr GW123.out) _ | refine Kept.setCell ?_ (.inr GW124.out) _) | exact HK.out)⟩
              · rw [if_neg c28] at H
                exact absurd H (by simp)
            · rw [if_neg c27] at H
              exact absurd H (by simp)
      · rw [if_neg c13] at H
        exact absurd H (by simp)
    · rw [if_neg c12] at H
      exact absurd H (by simp)

end Go.Proofs.Ytfbdkjdockbfdab.GQ
