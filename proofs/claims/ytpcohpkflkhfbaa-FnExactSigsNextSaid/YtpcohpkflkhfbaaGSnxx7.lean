-- Written by this session's program hp.py (over the kit's printer) and out of its own hand texts. Not trusted: Lean checks it.
import Derived.Test.YtpcohpkflkhfbaaGSnxx0
import Derived.Test.YtpcohpkflkhfbaaGSnxx6
namespace Go.Proofs.Ytpcohpkflkhfbaa.GSnx
open Go.RowKit Go.Proofs.YtpcohpkflkhfbaaW.PrintWords Go.Proofs.YtpcohpkflkhfbaaW.PrintLast Go.Proofs.YtpcohpkflkhfbaaW.PrintMore
attribute [local go_sem] max2_int min2_int max_two min_two max_three min_three max_four min_four   -- for this text's walks alone
set_option linter.unusedVariables false
set_option linter.unusedSimpArgs false

/-! ### slices_Clone_int_int: function 108 -/
open Go.Proofs.YtpcohpkflkhfbaaW.PrintWords.Aside0 renaming mk → AM
open Go.Proofs.YtpcohpkflkhfbaaW.PrintWords renaming below_alloc → ba, pw_below_drewN → bn, below_drew1 → bd, below_size → bz, below_step → bp, gate_dst → gd
open Go.Proofs.YtpcohpkflkhfbaaW.PrintWords.Kd renaming R_alloc → Ra, R_drewN → Rn, R_drew → Rd, R_lower → Rl, C_alloc → Ca, C_drewN → Cn, C_drew → Cd, C_below → Cb
def slices_Clone_int_int.f (l0 : List Int) : Option (List Int) := (some (([] : List Int) : List Int)).bind fun y215 => (if y215.length + l0.length < 17592186044416 then (some (y215 ++ l0)) else (none))
set_option maxHeartbeats 8000000 in
set_option maxRecDepth 100000 in
theorem slices_Clone_int_int.calls_some (ad : Addr) (c0 : Nat) (l0 : List Int) (r : List Int) (w : World) (hr0 : Kd.C (Kd.int .i64) w (some ad) l0.length l0) (hc0 : l0.length ≤ c0) (h : slices_Clone_int_int.f l0 = some r) :
    Calls Try.prog 108 #[.slice (some ad) l0.length c0] w fun e w' => ∃ v0_ : Value, e = .returned (v0_) ∧ Kd.R (Kd.int .i64) 3 w' w.heap.size (fun _ => True) v0_ r ∧ Below w.heap.size w w' := by
  have HR0 := AM hr0
  have HC0 := AM hc0
  clear hr0 hc0
  have HB := AM (Below.refl w.heap.size w)
  have H : ((some (([] : List Int) : List Int)).bind fun y215 => (if y215.length + l0.length < 17592186044416 then (some (y215 ++ l0)) else (none))) = some r := h
  clear h
  obtain ⟨y215, hy215⟩ : ∃ y_ : List Int, y_ = (([] : List Int)) := ⟨_, rfl⟩
  replace H : (if y215.length + l0.length < 17592186044416 then (some (y215 ++ l0)) else (none)) = some r := by first | (rw [hy215]; with_reducible exact H) | (have H2_ := (Option.bind_some _ _).symm.trans H; rw [hy215]; with_reducible exact H2_) | (have H2_ := (Option.bind_some _ _).symm.trans H; with_reducible exact H2_) | with_reducible exact H | (rw [hy215]; exact H) | exact H
  have Ny215 := AM hy215
  clear hy215
  by_cases c2 : y215.length + l0.length < 17592186044416
  · rw [if_pos c2] at H
    have LMc2 := AM c2
    clear c2
    obtain ⟨y218, hy218⟩ : ∃ y_ : List Int, y_ = (y215 ++ l0) := ⟨_, rfl⟩
    replace H : (some y218) = some r := by first | (rw [hy218]; with_reducible exact H) | (have H2_ := (Option.bind_some _ _).symm.trans H; rw [hy218]; with_reducible exact H2_) | (have H2_ := (Option.bind_some _ _).symm.trans H; with_reducible exact H2_) | with_reducible exact H | (rw [hy218]; exact H) | exact H
    have Ny218 := AM hy218
    clear hy218
    obtain rfl := Option.some.inj H
    have ke := fun W => Lib.run_eql_slice_nil (P := Try.prog) W 23 3 (some ad) l0.length c0 0 0 Try.underlying23
    go_enter Try.func108, Try.ntmps108
    go_wp2_with (first | ((with_reducible refine gd (N := 5) rfl ?_); refine Kd.R_lit (Kd.int .i64) _ 3 ?hg (N := 5) ?hd (xs := ([] : List Int)) (inner := []) (ok := fun _ => True) (okp := fun _ => True) ?hr ?hp (fun _ hk => hk) trivial (Below.refl _ _) (Nat.le_refl _) (by simp) ?_; (case hd => rfl); (case hg => rfl); (case hr => first | (go_simp; done) | (go_simp; rfl)); (case hp => exact (Reps.none _ _)); intro v216 w3 ho4 hb hg_ hnew_; clear hg_ hnew_; (first | rw [← Ny215.out] at ho4 | (simp only [Int.reduceToNat] at ho4; rw [← Ny215.out] at ho4)); have n0_ := AM (Rl ho4 (bz (lfB HB.out))); have n1_ := AM (bp (lfB HB.out) hb); clear HB; revert n0_ n1_; intro HO217 HB; clear hb ho4) | ((with_reducible refine gate_builtin (b := .append) (xs := #[.tmp 5, .tmp 6]) rfl ?_); at_builtin; refine Kd.R_append_rows (Kd.int .i64) (w0 := w) w.heap.size rfl (.tmp 5) (.tmp 6) 23 3 (.int .i64 0) 8 rfl Try.underlying23 info3 rfl (by decide) (by omega) v216 y215 l0 _ _ _ (fun _ => True) (fun _ => False) rfl rfl ?aO ?aR (fun _ _ h => h) (fun _ h => h.elim) ?aF ?aB ?aS ?aL ?_; (case aR => repeat (first | exact (Cb HR0.out HB.out) | (with_reducible refine Ca ?_ _) | (with_reducible refine Cn ?_ _) | (with_reducible refine Cd ?_))); (case aB => exact (lfB HB.out)); (case aF => exact (fun _ _ => trivial)); (case aO => exact (lfR HO217.out)); (case aS => exact (bz (lfB HB.out))); (case aL => have := LMc2.out; omega); intro v219 w5 ho hb hg hat; rw [← Ny218.out] at ho; have n0_ := AM (hb); have n1_ := AM (ho); clear HB HO217; revert n0_ n1_; intro HB HO220; clear ho hb hg hat))
    go_ret
    exact ⟨_, by first | rfl | (simp [errW_none, errW_some] <;> rfl) | (simp [*, errW_none, errW_some] <;> rfl), by (with_reducible repeat (first | apply Ra | apply Rn | apply Rd)); exact HO220.out, by repeat (first | (with_reducible first | exact HB.out | apply ba | apply bn | apply bd) | exact HB.out)⟩
  · rw [if_neg c2] at H
    exact absurd H (by simp)

theorem slices_Clone_int_int.calls (A0 : Option Addr) (c0 : Nat) (l0 : List Int) (r : List Int) (w : World) (hr0 : Kd.C (Kd.int .i64) w A0 l0.length l0) (hc0 : l0.length ≤ c0) (h : slices_Clone_int_int.f l0 = some r) :
    Calls Try.prog 108 #[.slice A0 l0.length c0] w fun e w' => ∃ v0_ : Value, e = .returned (v0_) ∧ Kd.R (Kd.int .i64) 3 w' w.heap.size (fun _ => True) v0_ r ∧ Below w.heap.size w w' := by
  cases A0 with
  | some ad => exact slices_Clone_int_int.calls_some ad c0 l0 r w hr0 hc0 h
  | none =>
    have hl : l0 = [] := by
      rcases Nat.eq_zero_or_pos l0.length with h0 | h0
      · exact List.eq_nil_of_length_eq_zero h0
      · obtain ⟨_, h1, _⟩ := hr0.2.2 h0
        cases h1
    subst hl
    have hr : r = [] := by
      have hf : slices_Clone_int_int.f [] = some [] := by simp [slices_Clone_int_int.f]
      rw [hf] at h
      exact (Option.some.inj h).symm
    subst hr
    have ke := fun W => Lib.run_eql_slice_nil (P := Try.prog) W 23 3 none ([] : List Int).length c0 0 0 Try.underlying23
    clear h hr0 hc0
    simp only [Option.isNone_none, List.length_nil] at ke
    go_enter Try.func108, Try.ntmps108
    go_wp2
    go_ret
    exact ⟨_, rfl, Kd.R_nil _ _ _ _ _, Below.refl _ _⟩

/-! ### impl_Sigs_clone: function 63 -/
open List renaming setIfInBounds_toArray → sA, set_cons_zero → sZ, set_cons_succ → sS
open Go.Proofs.YtpcohpkflkhfbaaW.PrintWords.Aside0 renaming mk → AM
open Go.Proofs.YtpcohpkflkhfbaaW.PrintWords renaming below_alloc → ba, pw_below_drewN → bn, below_drew1 → bd, below_set → bs, blk_drewN → kn, blk_drew → kd, blk_alloc → ka, blk_cell → kc, blk_frozen → kz, blk_below → kb, below_size → bz, below_step → bp, box_event → xe, gate_dst → gd
open Go.Proofs.YtpcohpkflkhfbaaW.PrintWords.Kd renaming R_alloc → Ra, R_drewN → Rn, R_drew → Rd, R_mono → Rm, R_below → Rb, R_far → Rf, R_types → Rt, R_lower → Rl, C_alloc → Ca, C_drewN → Cn, C_drew → Cd, C_below → Cb, R_elder' → Re, R_lt → Rq, R_base → Rs, R_new' → Rw, R_slice → Ri
def impl_Sigs_clone.f (l0_0 : List Bool) (l0_1 : List Bool) (l0_2 : List Int) : Option (List Bool × List Bool × List Int) := (slices_Clone_bool_bool.f l0_0).bind fun t223 => ((slices_Clone_bool_bool.f l0_1).bind fun t226 => ((slices_Clone_int_int.f l0_2).bind fun t229 => (some (t223, t226, t229))))
def impl_Sigs_clone.T1 : Bool × List (List Nat × List Nat) := (true, [([], []), ([0], [0]), ([1], [1]), ([], []), ([3], [3]), ([4, 2], [4]), ([], []), ([6], [6]), ([7, 5], [7]), ([2, 5, 8], [2, 5, 8]), ([9, 8, 0, 1, 2, 3, 4, 5, 6, 7, 8, 9], [9])])
def impl_Sigs_clone.B1 : List Nat := [0, 1, 3, 0, 8, 31, 0, 64, 255, 511, 1023]
theorem impl_Sigs_clone.tab1 : rtab .any (opsOf Try.f63 1) = impl_Sigs_clone.T1 := by kernel_rfl
theorem impl_Sigs_clone.bits1 : waitsOk impl_Sigs_clone.T1.2 impl_Sigs_clone.B1 = true := by kernel_rfl
set_option maxHeartbeats 8000000 in
set_option maxRecDepth 100000 in
theorem impl_Sigs_clone.calls (A0_0 : Option Addr) (c0_0 : Nat) (l0_0 : List Bool) (A0_1 : Option Addr) (c0_1 : Nat) (l0_1 : List Bool) (A0_2 : Option Addr) (c0_2 : Nat) (l0_2 : List Int) (r1 : List Bool) (r2 : List Bool) (r3 : List Int) (w : World) (hr0_0 : Kd.C Kd.bool w A0_0 l0_0.length l0_0) (hc0_0 : l0_0.length ≤ c0_0) (hr0_1 : Kd.C Kd.bool w A0_1 l0_1.length l0_1) (hc0_1 : l0_1.length ≤ c0_1) (hr0_2 : Kd.C (Kd.int .i64) w A0_2 l0_2.length l0_2) (hc0_2 : l0_2.length ≤ c0_2) (h : impl_Sigs_clone.f l0_0 l0_1 l0_2 = some (r1, r2, r3)) :
    Calls Try.prog 63 #[.agg #[.slice A0_0 l0_0.length c0_0, .slice A0_1 l0_1.length c0_1, .slice A0_2 l0_2.length c0_2]] w fun e w' => ∃ v0_ v1_ v2_ : Value, e = .returned (.agg #[v0_, v1_, v2_]) ∧ Kd.R Kd.bool 4 w' w.heap.size (fun k_ => some k_ ≠ (v1_ : Value).ownBlock) v0_ r1 ∧ Kd.R Kd.bool 4 w' w.heap.size (fun k_ => some k_ ≠ (v0_ : Value).ownBlock) v1_ r2 ∧ Kd.R (Kd.int .i64) 3 w' w.heap.size (fun _ => True) v2_ r3 ∧ Below w.heap.size w w' := by
  have hu27 := Try.underlying27
  have HR0_0 := AM hr0_0
  have HC0_0 := AM hc0_0
  clear hr0_0 hc0_0
  have HR0_1 := AM hr0_1
  have HC0_1 := AM hc0_1
  clear hr0_1 hc0_1
  have HR0_2 := AM hr0_2
  have HC0_2 := AM hc0_2
  clear hr0_2 hc0_2
  have HB := AM (Below.refl w.heap.size w)
  have H : ((slices_Clone_bool_bool.f l0_0).bind fun t223 => ((slices_Clone_bool_bool.f l0_1).bind fun t226 => ((slices_Clone_int_int.f l0_2).bind fun t229 => (some (t223, t226, t229))))) = some (r1, r2, r3) := h
  clear h
  replace H := Option.bind_eq_some_iff.mp H
  obtain ⟨t223, A20, H⟩ := H
  replace H : ((slices_Clone_bool_bool.f l0_1).bind fun t226 => ((slices_Clone_int_int.f l0_2).bind fun t229 => (some (t223, t226, t229)))) = some (r1, r2, r3) := H
  have A2 := AM A20
  clear A20
  replace H := Option.bind_eq_some_iff.mp H
  obtain ⟨t226, A30, H⟩ := H
  replace H : ((slices_Clone_int_int.f l0_2).bind fun t229 => (some (t223, t226, t229))) = some (r1, r2, r3) := H
  have A3 := AM A30
  clear A30
  replace H := Option.bind_eq_some_iff.mp H
  obtain ⟨t229, A40, H⟩ := H
  replace H : (some (t223, t226, t229)) = some (r1, r2, r3) := H
  have A4 := AM A40
  clear A40
  simp only [Option.some.injEq, Prod.mk.injEq] at H
  obtain ⟨rfl, rfl, rfl⟩ := H
  go_enter Try.func63, Try.ntmps63
  try go_wp2_with (first | ((with_reducible refine gd (N := 1) rfl ?_); refine xe ?hg (N := 1) ?hd (cs := #[.slice A0_0 l0_0.length c0_0, .slice A0_1 l0_1.length c0_1, .slice A0_2 l0_2.length c0_2]) (t := 27) ?hr ?_; (case hd => rfl); (case hg => rfl); (case hr => first | (go_simp; done) | (go_simp; rfl)); intro gb221 hg w5 hbox hb; have n0_ := AM (bp (lfB HB.out) hb); have n1_ := AM (hbox); have n2_ := AM ((by rw [hg]; exact (bz (lfB HB.out)) : w.heap.size ≤ gb221)); have n3_ := AM ((by rw [hg]; exact (bz (lfB HB.out)) : w.heap.size ≤ gb221)); clear HB; revert n0_ n1_ n2_ n3_; intro HB BK221 GW221 GE221; clear hb hbox hg) | ((with_reducible refine gd (N := 2) rfl ?_); refine xe ?hg (N := 2) ?hd (cs := #[.slice none 0 0, .slice none 0 0, .slice none 0 0]) (t := 27) ?hr ?_; (case hd => rfl); (case hg => rfl); (case hr => first | (go_simp; done) | (go_simp; rfl)); intro gb222 hg w6 hbox hb; have n0_ := AM (kb (g := gb221) (o := .cells #[.slice A0_0 l0_0.length c0_0, .slice A0_1 l0_1.length c0_1, .slice A0_2 l0_2.length c0_2] 27 (0, 0)) (lfK BK221.out) hb); have n1_ := AM (bp (by repeat (first | (with_reducible first | exact HB.out | apply ba | apply bn | apply bd | refine bs ?_ GE221.out) | exact HB.out)) hb); have n2_ := AM (hbox); have n3_ := AM ((by rw [hg]; exact (bz (by repeat (first | (with_reducible first | exact HB.out | apply ba | apply bn | apply bd | refine bs ?_ GE221.out) | exact HB.out))) : w.heap.size ≤ gb222)); have n4_ := AM ((by rw [hg]; exact (bz (by repeat (first | (with_reducible first | exact HB.out | apply ba | apply bn | apply bd | refine bs ?_ GE221.out) | exact HB.out))) : w.heap.size ≤ gb222)); have n5_ := AM ((by rw [hg]; exact Nat.ne_of_lt (blk_lt (g := gb221) (o := .cells #[.slice A0_0 l0_0.length c0_0, .slice A0_1 l0_1.length c0_1, .slice A0_2 l0_2.length c0_2] 27 (0, 0)) (lfK BK221.out)) : gb221 ≠ gb222)); have n6_ := AM ((by rw [hg]; exact Nat.ne_of_gt (blk_lt (g := gb221) (o := .cells #[.slice A0_0 l0_0.length c0_0, .slice A0_1 l0_1.length c0_1, .slice A0_2 l0_2.length c0_2] 27 (0, 0)) (lfK BK221.out)) : gb222 ≠ gb221)); clear BK221 HB; revert n0_ n1_ n2_ n3_ n4_ n5_ n6_; intro BK221 HB BK222 GW222 GE222 NB221_222 NB222_221; clear hb hbox hg))
  have n0_ := AM (kd BK221.out)
  have n1_ := AM (kd BK222.out)
  have n2_ := AM (bd HB.out)
  clear BK221 BK222 HB
  revert n0_ n1_ n2_
  intro BK221 BK222 HB
  refine start_ (n := 11) (S := fun w' => w'.cell? ⟨gb221, 0, none⟩ = some (.slice A0_0 l0_0.length c0_0) ∧ w'.cell? ⟨gb221, 1, none⟩ = some (.slice A0_1 l0_1.length c0_1) ∧ w'.cell? ⟨gb221, 2, none⟩ = some (.slice A0_2 l0_2.length c0_2)) (ds := []) (mB 11 0x0) (by kernel_rfl) rfl rfl ⟨(kc BK221.out 0).trans rfl, (kc BK221.out 1).trans rfl, (kc BK221.out 2).trans rfl⟩ (fun hHeld => ?_); refine with_tabW impl_Sigs_clone.tab1 impl_Sigs_clone.bits1 (fun HT_ HW_ => ?_)
  generalize w6.drew = w7 at BK221 BK222 HB hHeld ⊢
  refine plan_ 11 [(0, 3, 0x1), (3, 6, 0x9), (6, 9, 0x49)] ?_; (iterate 3 (refine puP (v := ?_) (a' := ?_) rfl rfl HT_.out (he := ?_) (ha := ?_) (h := ?_); rotate_left; (focus intro w'; go_simp; with_reducible rfl); rotate_left; (focus simp only [Act.put, sA, sZ, sS, i64_w, i32_w]; rfl))); refine planE ?_
  refine take_ (i := 1) (N := some 4) (v := ?_) (a' := ?_) (mB 11 0x4b) rfl rfl (take_ofW HT_.out HW_.out (by kernel_rfl)) (fun _ _ _ h => h) (Or.inl ⟨by rfl, ?_⟩) hHeld ?_ ?_
  rotate_left
  · rintro w' ⟨s0, s1, s2⟩; go_simp; with_reducible rfl
  rotate_left
  · simp only [Act.put, sA, sZ, sS, i64_w, i32_w]; rfl
  refine take_ (i := 4) (N := some 7) (v := ?_) (a' := ?_) (mB 11 0x5b) rfl rfl (take_ofW HT_.out HW_.out (by kernel_rfl)) (fun _ _ _ h => h) (Or.inl ⟨by rfl, ?_⟩) hHeld ?_ ?_
  rotate_left
  · rintro w' ⟨s0, s1, s2⟩; go_simp; with_reducible rfl
  rotate_left
  · simp only [Act.put, sA, sZ, sS, i64_w, i32_w]; rfl
  refine take_ (i := 7) (N := some 10) (v := ?_) (a' := ?_) (mB 11 0xdb) rfl rfl (take_ofW HT_.out HW_.out (by kernel_rfl)) (fun _ _ _ h => h) (Or.inl ⟨by rfl, ?_⟩) hHeld ?_ ?_
  rotate_left
  · rintro w' ⟨s0, s1, s2⟩; go_simp; with_reducible rfl
  rotate_left
  · simp only [Act.put, sA, sZ, sS, i64_w, i32_w]; rfl
  refine one_ (i := 2) (N := some 5) (mB 11 0xdf) rfl rfl (one_of HT_.out (by kernel_rfl)) (by decide) (fun K hK => ?_)
  refine goes_ Try.func107 (by kernel_rfl) rfl #[.slice A0_0 l0_0.length c0_0] (by rfl) rfl rfl (by (try simp only [List.map_toArray, List.map_cons, List.map_nil]); first | done | rfl | (simp only [List.length_drop, List.length_take]; rfl)) ?_
  with_reducible refine (slices_Clone_bool_bool.calls _ _ l0_0 t223 _ ?side1 ?side2 A2.out).mono ?_
  (case side1 => repeat (first | exact (Cb HR0_0.out HB.out) | (with_reducible refine Ca ?_ _) | (with_reducible refine Cn ?_ _) | (with_reducible refine Cd ?_)))
  (case side2 => exact HC0_0.out)
  rintro e w8 ⟨v224, rfl, ho0, hb⟩
  refine ⟨_, rfl, ?_⟩
  have n0_ := AM (Rl ho0 (bz (by repeat (first | (with_reducible first | exact HB.out | apply ba | apply bn | apply bd | refine bs ?_ GE221.out | refine bs ?_ GE222.out) | exact HB.out))))
  have n1_ := AM (kb (g := gb221) (o := .cells #[.slice A0_0 l0_0.length c0_0, .slice A0_1 l0_1.length c0_1, .slice A0_2 l0_2.length c0_2] 27 (0, 0)) (lfK BK221.out) hb)
  have n2_ := AM (kb (g := gb222) (o := .cells #[.slice none 0 0, .slice none 0 0, .slice none 0 0] 27 (0, 0)) (lfK BK222.out) hb)
  have n3_ := AM (bp (by repeat (first | (with_reducible first | exact HB.out | apply ba | apply bn | apply bd | refine bs ?_ GE221.out | refine bs ?_ GE222.out) | exact HB.out)) hb)
  clear BK221 BK222 HB
  revert n0_ n1_ n2_ n3_
  intro HO225 BK221 BK222 HB
  (try clear hb)
  (try clear hb2)
  (try clear hk)
  (try clear hi)
  (try clear ho0)
  refine hK.out _ _ ⟨(kc BK221.out 0).trans rfl, (kc BK221.out 1).trans rfl, (kc BK221.out 2).trans rfl⟩ (fun hHeld => ?_)
  clear hK K
  refine norm_ (a' := ?_) ?_ ?_
  rotate_left
  · show Act.put _ (some 5) _ = _
    simp only [Act.put, sA, sZ, sS, i64_w, i32_w]
    rfl
  refine one_ (i := 5) (N := some 8) (mB 11 0xff) rfl rfl (one_of HT_.out (by kernel_rfl)) (by decide) (fun K hK => ?_)
  refine goes_ Try.func107 (by kernel_rfl) rfl #[.slice A0_1 l0_1.length c0_1] (by rfl) rfl rfl (by (try simp only [List.map_toArray, List.map_cons, List.map_nil]); first | done | rfl | (simp only [List.length_drop, List.length_take]; rfl)) ?_
  with_reducible refine (slices_Clone_bool_bool.calls _ _ l0_1 t226 _ ?side1 ?side2 A3.out).mono ?_
  (case side1 => repeat (first | exact (Cb HR0_1.out HB.out) | (with_reducible refine Ca ?_ _) | (with_reducible refine Cn ?_ _) | (with_reducible refine Cd ?_)))
  (case side2 => exact HC0_1.out)
  rintro e w9 ⟨v227, rfl, ho0, hb⟩
  refine ⟨_, rfl, ?_⟩
  have n0_ := AM (Re (lfR HO225.out) (Rs ho0) hb)
  have n1_ := AM (Rl (Rw ho0 (Rq (lfR HO225.out))) (bz (by repeat (first | (with_reducible first | exact HB.out | apply ba | apply bn | apply bd | refine bs ?_ GE221.out | refine bs ?_ GE222.out) | exact HB.out))))
  have n2_ := AM (kb (g := gb221) (o := .cells #[.slice A0_0 l0_0.length c0_0, .slice A0_1 l0_1.length c0_1, .slice A0_2 l0_2.length c0_2] 27 (0, 0)) (lfK BK221.out) hb)
  have n3_ := AM (kb (g := gb222) (o := .cells #[.slice none 0 0, .slice none 0 0, .slice none 0 0] 27 (0, 0)) (lfK BK222.out) hb)
  have n4_ := AM (bp (by repeat (first | (with_reducible first | exact HB.out | apply ba | apply bn | apply bd | refine bs ?_ GE221.out | refine bs ?_ GE222.out) | exact HB.out)) hb)
  clear HO225 BK221 BK222 HB
  revert n0_ n1_ n2_ n3_ n4_
  intro HO225 HO228 BK221 BK222 HB
  (try clear hb)
  (try clear hb2)
  (try clear hk)
  (try clear hi)
  (try clear ho0)
  refine hK.out _ _ ⟨(kc BK221.out 0).trans rfl, (kc BK221.out 1).trans rfl, (kc BK221.out 2).trans rfl⟩ (fun hHeld => ?_)
  clear hK K
  refine norm_ (a' := ?_) ?_ ?_
  rotate_left
  · show Act.put _ (some 8) _ = _
    simp only [Act.put, sA, sZ, sS, i64_w, i32_w]
    rfl
  refine one_ (i := 8) (N := some 11) (mB 11 0x1ff) rfl rfl (one_of HT_.out (by kernel_rfl)) (by decide) (fun K hK => ?_)
  refine goes_ Try.func108 (by kernel_rfl) rfl #[.slice A0_2 l0_2.length c0_2] (by rfl) rfl rfl (by (try simp only [List.map_toArray, List.map_cons, List.map_nil]); first | done | rfl | (simp only [List.length_drop, List.length_take]; rfl)) ?_
  with_reducible refine (slices_Clone_int_int.calls _ _ l0_2 t229 _ ?side1 ?side2 A4.out).mono ?_
  (case side1 => repeat (first | exact (Cb HR0_2.out HB.out) | (with_reducible refine Ca ?_ _) | (with_reducible refine Cn ?_ _) | (with_reducible refine Cd ?_)))
  (case side2 => exact HC0_2.out)
  rintro e w10 ⟨v230, rfl, ho0, hb⟩
  refine ⟨_, rfl, ?_⟩
  have n0_ := AM (Rb (lfR HO225.out) hb)
  have n1_ := AM (Rb (lfR HO228.out) hb)
  have n2_ := AM (Rl ho0 (bz (by repeat (first | (with_reducible first | exact HB.out | apply ba | apply bn | apply bd | refine bs ?_ GE221.out | refine bs ?_ GE222.out) | exact HB.out))))
  have n3_ := AM (kb (g := gb221) (o := .cells #[.slice A0_0 l0_0.length c0_0, .slice A0_1 l0_1.length c0_1, .slice A0_2 l0_2.length c0_2] 27 (0, 0)) (lfK BK221.out) hb)
  have n4_ := AM (kb (g := gb222) (o := .cells #[.slice none 0 0, .slice none 0 0, .slice none 0 0] 27 (0, 0)) (lfK BK222.out) hb)
  have n5_ := AM (bp (by repeat (first | (with_reducible first | exact HB.out | apply ba | apply bn | apply bd | refine bs ?_ GE221.out | refine bs ?_ GE222.out) | exact HB.out)) hb)
  clear HO225 HO228 BK221 BK222 HB
  revert n0_ n1_ n2_ n3_ n4_ n5_
  intro HO225 HO228 HO231 BK221 BK222 HB
  (try clear hb)
  (try clear hb2)
  (try clear hk)
  (try clear hi)
  (try clear ho0)
  obtain ⟨Ao11, co11, eo11⟩ := Ri HO231.out
  (first | subst eo11 | (injection eo11 with f1_ f2_ f3_; have f4_ := f1_.symm; have f5_ := f3_.symm; clear f1_ f2_ f3_; subst f4_; subst f5_))
  obtain ⟨Ao12, co12, eo12⟩ := Ri HO228.out
  (first | subst eo12 | (injection eo12 with f1_ f2_ f3_; have f4_ := f1_.symm; have f5_ := f3_.symm; clear f1_ f2_ f3_; subst f4_; subst f5_))
  obtain ⟨Ao13, co13, eo13⟩ := Ri HO225.out
  (first | subst eo13 | (injection eo13 with f1_ f2_ f3_; have f4_ := f1_.symm; have f5_ := f3_.symm; clear f1_ f2_ f3_; subst f4_; subst f5_))
  refine hK.out _ _ ⟨(kc BK221.out 0).trans rfl, (kc BK221.out 1).trans rfl, (kc BK221.out 2).trans rfl⟩ (fun hHeld => ?_)
  clear hK K
  refine norm_ (a' := ?_) ?_ ?_
  rotate_left
  · show Act.put _ (some 11) _ = _
    simp only [Act.put, sA, sZ, sS, i64_w, i32_w]
    rfl
  refine plan_ 11 [(9, 12, 0x3ff)] ?_; (refine puP (v := ?_) (a' := ?_) rfl rfl HT_.out (he := ?_) (ha := ?_) (h := ?_); rotate_left; (focus intro w'; go_simp; with_reducible rfl); rotate_left; (focus simp only [Act.put, sA, sZ, sS, i64_w, i32_w]; rfl)); refine planE ?_
  refine one_ (i := 10) (N := none) (mB 11 0x7ff) rfl rfl (one_of HT_.out (by kernel_rfl)) (by decide) (fun K hK => ?_)
  have hs14 : w10.cell? ⟨gb222, 0, none⟩ = some (.slice none 0 0) := (kc BK222.out 0).trans rfl
  have hfs14 := kz BK222.out 0
  have hns14_0 := NB221_222.out
  have hms14_0 := NB222_221.out
  have hs15 : w10.cell? ⟨gb222, 1, none⟩ = some (.slice none 0 0) := (kc BK222.out 1).trans rfl
  have hfs15 := kz BK222.out 1
  have hns15_0 := NB221_222.out
  have hms15_0 := NB222_221.out
  have hs16 : w10.cell? ⟨gb222, 2, none⟩ = some (.slice none 0 0) := (kc BK222.out 2).trans rfl
  have hfs16 := kz BK222.out 2
  have hns16_0 := NB221_222.out
  have hms16_0 := NB222_221.out
  refine skip_ (w1 := ?_) (by rfl) rfl ?_ ?_
  rotate_left
  · go_simp
    rfl
  refine hK.out _ _ ⟨((cell_far (p := ⟨gb222, _, none⟩) NB221_222.out _).trans (((cell_far (p := ⟨gb222, _, none⟩) NB221_222.out _).trans (((cell_far (p := ⟨gb222, _, none⟩) NB221_222.out _).trans (hHeld.1)))))), ((cell_far (p := ⟨gb222, _, none⟩) NB221_222.out _).trans (((cell_far (p := ⟨gb222, _, none⟩) NB221_222.out _).trans (((cell_far (p := ⟨gb222, _, none⟩) NB221_222.out _).trans (hHeld.2.1)))))), ((cell_far (p := ⟨gb222, _, none⟩) NB221_222.out _).trans (((cell_far (p := ⟨gb222, _, none⟩) NB221_222.out _).trans (((cell_far (p := ⟨gb222, _, none⟩) NB221_222.out _).trans (hHeld.2.2))))))⟩ (fun hHeld => ?_)
  clear hK K
  refine done_ (done_of HT_.out (by kernel_rfl)) ?_
  try go_wp2
  refine bodyPost_ret (results_cell_row rfl _ _ gb222 27 #[.slice Ao13 t223.length co13, .slice Ao12 t226.length co12, .slice Ao11 t229.length co11] (0, 0) _ rfl (by (with_reducible repeat (first | refine kn ?_ _ | refine kd ?_ | refine ka ?_ _)); refine blk_put (cs := #[.slice Ao13 t223.length co13, .slice Ao12 t226.length co12, .slice none 0 0]) ?_ 2 _ rfl; (with_reducible repeat (first | refine kn ?_ _ | refine kd ?_ | refine ka ?_ _)); refine blk_put (cs := #[.slice Ao13 t223.length co13, .slice none 0 0, .slice none 0 0]) ?_ 1 _ rfl; (with_reducible repeat (first | refine kn ?_ _ | refine kd ?_ | refine ka ?_ _)); refine blk_put (cs := #[.slice none 0 0, .slice none 0 0, .slice none 0 0]) ?_ 0 _ rfl; (with_reducible repeat (first | refine kn ?_ _ | refine kd ?_ | refine ka ?_ _)); exact BK222.out) Try.underlying27 rfl (by kernel_rfl)) rfl ?_
  exact ⟨_, _, _, by first | rfl | (simp [errW_none, errW_some] <;> rfl) | (simp [*, errW_none, errW_some] <;> rfl), by (with_reducible repeat (first | apply Ra | apply Rn | apply Rd)); exact Rm (Rf (p := ⟨gb222, 2, none⟩) (Rf (p := ⟨gb222, 1, none⟩) (Rf (p := ⟨gb222, 0, none⟩) (Rt HO225.out BK222.out (by decide)) (fun _ hk => hk.2) (.slice Ao13 t223.length co13)) (fun _ hk => hk.2) (.slice Ao12 t226.length co12)) (fun _ hk => hk.2) (.slice Ao11 t229.length co11)) (fun _ hk => hk.1.2), by (with_reducible repeat (first | apply Ra | apply Rn | apply Rd)); exact Rm (Rf (p := ⟨gb222, 2, none⟩) (Rf (p := ⟨gb222, 1, none⟩) (Rf (p := ⟨gb222, 0, none⟩) (Rt HO228.out BK222.out (by decide)) (fun _ hk => hk.2) (.slice Ao13 t223.length co13)) (fun _ hk => hk.2) (.slice Ao12 t226.length co12)) (fun _ hk => hk.2) (.slice Ao11 t229.length co11)) (fun _ hk => hk.1.2), by (with_reducible repeat (first | apply Ra | apply Rn | apply Rd)); exact Rm (Rf (p := ⟨gb222, 2, none⟩) (Rf (p := ⟨gb222, 1, none⟩) (Rf (p := ⟨gb222, 0, none⟩) (Rt HO231.out BK222.out (by decide)) (fun _ hk => hk.2) (.slice Ao13 t223.length co13)) (fun _ hk => hk.2) (.slice Ao12 t226.length co12)) (fun _ hk => hk.2) (.slice Ao11 t229.length co11)) (fun _ hk => trivial), by repeat (first | (with_reducible first | exact HB.out | apply ba | apply bn | apply bd | refine bs ?_ GE221.out | refine bs ?_ GE222.out) | exact HB.out)⟩

/-! ### impl_usual: function 109 -/
open Go.Proofs.YtpcohpkflkhfbaaW.PrintWords.Aside0 renaming mk → AM
def impl_usual.j0 : Nat → Int → Bool → Option (Int)
  | 0, _, _ => none
  | k + 1, x3, x4 => if x4 = true then (some 2) else (if x3 = 3 then (some 3) else (if x3 = 4 then (some 1) else (if x3 = 7 then (some 1) else (some 0))))
def impl_usual.f (k : Nat) (a0 : Int) : Option (Int) := if a0 = 2 then (impl_usual.j0 k a0 (a0 == 2)) else (impl_usual.j0 k a0 (a0 == 6))
theorem impl_usual.mono_l : ∀ k, (∀ y0 y1, LeO (impl_usual.j0 k y0 y1) (impl_usual.j0 (k + 1) y0 y1))
  | 0 => fun _ _ r h => by simp [impl_usual.j0] at h
  | k + 1 => by
    have ih0 := impl_usual.mono_l k
    · intro y0 y1
      unfold impl_usual.j0
      repeat' first
      | (with_reducible exact ih0 _ _)
      | (with_reducible exact LeO.refl _)
      | (with_reducible exact LeO.none _)
      | (with_reducible refine LeO.ite ?_ ?_)
      | (with_reducible refine LeO.bind ?_ (fun _ => ?_))
      | exact ih0 _ _
      | exact LeO.none _
      | refine LeO.ite ?_ ?_
      | refine LeO.bind ?_ (fun _ => ?_)
theorem impl_usual.mono : ∀ a0 k, LeO (impl_usual.f k a0) (impl_usual.f (k + 1) a0) := by
  intro a0 k
  have ih0 := impl_usual.mono_l k
  unfold impl_usual.f
  repeat' first
      | (with_reducible exact ih0 _ _)
      | (with_reducible exact LeO.refl _)
      | (with_reducible exact LeO.none _)
      | (with_reducible refine LeO.ite ?_ ?_)
      | (with_reducible refine LeO.bind ?_ (fun _ => ?_))
      | exact ih0 _ _
      | exact LeO.none _
      | refine LeO.ite ?_ ?_
      | refine LeO.bind ?_ (fun _ => ?_)
set_option maxHeartbeats 8000000 in
set_option maxRecDepth 100000 in
theorem impl_usual.calls (k : Nat) (a0 : Int) (r : Int) (w : World) (h : impl_usual.f k a0 = some r) :
    Calls Try.prog 109 #[.int .i64 a0] w fun e w' => e = .returned (.int .i64 r) ∧ Drawn0 w w' := by
  have H : (if a0 = 2 then (impl_usual.j0 k a0 (a0 == 2)) else (impl_usual.j0 k a0 (a0 == 6))) = some r := h
  clear h
  have HC2 := AM H
  clear H
  go_enter Try.func109, Try.ntmps109
  go_upto_if 4 with (fail)
  go_cut [4] (fun v4 wc => ∃ (kq : Nat) (x4_1 : Bool), v4 = .bool x4_1 ∧ Aside0 (impl_usual.j0 kq a0 x4_1 = some r) ∧ Aside0 (kq ≤ k) ∧ Drawn0 w wc)
  case first =>
    have H := HC2.out
    clear HC2
    by_cases c3 : a0 = 2
    · rw [if_pos c3] at H
      have c3b0 : (a0 == 2) = true := beq_iff_eq.mpr c3
      have c3b1 : (a0 != 2) = false := bne_eq_false_iff_eq.mpr c3
      clear c3
      (first | rw [c3b0] | (simp only [i64_w, i32_w]; rw [c3b0]) | skip)
      have H' := AM H
      clear H
      go_wp2
      go_meet
      case rel => exact ⟨_, ((a0 == 2)), (by first | rfl | (simp; done) | (simp [*]; done)), H', ⟨by first | omega | exact Nat.le_refl _⟩, by repeat (first | exact Drawn0.refl _ | apply Drawn0.step)⟩
    · rw [if_neg c3] at H
      have c3b0 : (a0 == 2) = false := beq_eq_false_iff_ne.mpr c3
      have c3b1 : (a0 != 2) = true := bne_iff_ne.mpr c3
      (first | rw [c3b0] | (simp only [i64_w, i32_w]; rw [c3b0]) | skip)
      have H' := AM H
      clear H
      go_wp2
      go_meet
      case rel => exact ⟨_, ((a0 == 6)), (by first | rfl | (simp; done) | (simp [*]; done)), H', ⟨by first | omega | exact Nat.le_refl _⟩, by repeat (first | exact Drawn0.refl _ | apply Drawn0.step)⟩
  case rest =>
    clear HC2
    obtain ⟨kq, x4_1, rfl, HA, HJ1, ⟨mc1, rfl⟩⟩ := hcut
    cases kq with
    | zero => exact absurd HA.out (by simp [impl_usual.j0])
    | succ kj1 =>
      have H := HA.out
      clear HA
      simp only [impl_usual.j0] at H
      by_cases c4 : x4_1 = true
      · subst c4
        have H1 : (some 2) = some r := by rw [if_pos rfl] at H; exact H
        clear H
        have H := H1
        clear H1
        obtain rfl := Option.some.inj H
        go_wp2
        go_ret
        exact ⟨by first | rfl | (simp; done) | (simp [*]; done), by repeat (first | exact Drawn0.refl _ | apply Drawn0.step)⟩
      · replace c4 := Bool.eq_false_iff.mpr c4
        subst c4
        have H1 : (if a0 = 3 then (some 3) else (if a0 = 4 then (some 1) else (if a0 = 7 then (some 1) else (some 0)))) = some r := by rw [if_neg (show ¬ (false = true) by decide)] at H; exact H
        clear H
        have H := H1
        clear H1
        by_cases c5 : a0 = 3
        · rw [if_pos c5] at H
          have c5b0 : (a0 == 3) = true := beq_iff_eq.mpr c5
          have c5b1 : (a0 != 3) = false := bne_eq_false_iff_eq.mpr c5
          clear c5
          obtain rfl := Option.some.inj H
          go_wp2
          go_ret
          exact ⟨by first | rfl | (simp; done) | (simp [*]; done), by repeat (first | exact Drawn0.refl _ | apply Drawn0.step)⟩
        · rw [if_neg c5] at H
          have c5b0 : (a0 == 3) = false := beq_eq_false_iff_ne.mpr c5
          have c5b1 : (a0 != 3) = true := bne_iff_ne.mpr c5
          by_cases c6 : a0 = 4
          · rw [if_pos c6] at H
            have c6b0 : (a0 == 4) = true := beq_iff_eq.mpr c6
            have c6b1 : (a0 != 4) = false := bne_eq_false_iff_eq.mpr c6
            clear c6
            obtain rfl := Option.some.inj H
            go_wp2
            go_ret
            exact ⟨by first | rfl | (simp; done) | (simp [*]; done), by repeat (first | exact Drawn0.refl _ | apply Drawn0.step)⟩
          · rw [if_neg c6] at H
            have c6b0 : (a0 == 4) = false := beq_eq_false_iff_ne.mpr c6
            have c6b1 : (a0 != 4) = true := bne_iff_ne.mpr c6
            by_cases c7 : a0 = 7
            · rw [if_pos c7] at H
              have c7b0 : (a0 == 7) = true := beq_iff_eq.mpr c7
              have c7b1 : (a0 != 7) = false := bne_eq_false_iff_eq.mpr c7
              clear c7
              obtain rfl := Option.some.inj H
              go_wp2
              go_ret
              exact ⟨by first | rfl | (simp; done) | (simp [*]; done), by repeat (first | exact Drawn0.refl _ | apply Drawn0.step)⟩
            · rw [if_neg c7] at H
              have c7b0 : (a0 == 7) = false := beq_eq_false_iff_ne.mpr c7
              have c7b1 : (a0 != 7) = true := bne_iff_ne.mpr c7
              obtain rfl := Option.some.inj H
              go_wp2
              go_ret
              exact ⟨by first | rfl | (simp; done) | (simp [*]; done), by repeat (first | exact Drawn0.refl _ | apply Drawn0.step)⟩

/-! ### impl_Sigs_does: function 64 -/
open Go.Proofs.YtpcohpkflkhfbaaW.PrintWords.Aside0 renaming mk → AM
open Go.Proofs.YtpcohpkflkhfbaaW.PrintWords renaming below_alloc → ba, pw_below_drewN → bn, below_drew1 → bd, below_set → bs, blk_cell → kc, blk_frozen → kz, below_size → bz, below_step → bp, box_event → xe, gate_callee → gc, gate_dst → gd
def impl_Sigs_does.f (k : Nat) (l0_0 : List Bool) (l0_1 : List Bool) (l0_2 : List Int) (a1 : Int) : Option (Int) := if 0 ≤ (wrap64 (a1 - 1)) then (if (wrap64 (a1 - 1)) < (l0_2.length : Int) then (if (rd l0_2 (wrap64 (a1 - 1))) = 0 then ((impl_usual.f k a1).bind fun t234 => (some t234)) else (some (rd l0_2 (wrap64 (a1 - 1))))) else (none)) else (none)
theorem impl_Sigs_does.mono : ∀ a0 a1 a2 a3 k, LeO (impl_Sigs_does.f k a0 a1 a2 a3) (impl_Sigs_does.f (k + 1) a0 a1 a2 a3) := by
  intro a0 a1 a2 a3 k
  unfold impl_Sigs_does.f
  repeat' first
      | (with_reducible exact impl_usual.mono _ _)
      | (with_reducible exact LeO.refl _)
      | (with_reducible exact LeO.none _)
      | (with_reducible refine LeO.ite ?_ ?_)
      | (with_reducible refine LeO.bind ?_ (fun _ => ?_))
      | exact impl_usual.mono _ _
      | exact LeO.none _
      | refine LeO.ite ?_ ?_
      | refine LeO.bind ?_ (fun _ => ?_)
set_option maxHeartbeats 8000000 in
set_option maxRecDepth 100000 in
theorem impl_Sigs_does.calls (k : Nat) (A0_0 : Option Addr) (c0_0 : Nat) (l0_0 : List Bool) (A0_1 : Option Addr) (c0_1 : Nat) (l0_1 : List Bool) (A0_2 : Option Addr) (c0_2 : Nat) (l0_2 : List Int) (a1 : Int) (r : Int) (w : World) (hr0_0 : Kd.C Kd.bool w A0_0 l0_0.length l0_0) (hc0_0 : l0_0.length ≤ c0_0) (hr0_1 : Kd.C Kd.bool w A0_1 l0_1.length l0_1) (hc0_1 : l0_1.length ≤ c0_1) (hr0_2 : Kd.C (Kd.int .i64) w A0_2 l0_2.length l0_2) (hc0_2 : l0_2.length ≤ c0_2) (h : impl_Sigs_does.f k l0_0 l0_1 l0_2 a1 = some r) :
    Calls Try.prog 64 #[.agg #[.slice A0_0 l0_0.length c0_0, .slice A0_1 l0_1.length c0_1, .slice A0_2 l0_2.length c0_2], .int .i64 a1] w fun e w' => e = .returned (.int .i64 r) ∧ Below w.heap.size w w' := by
  have hu27 := Try.underlying27
  have HR0_0 := AM hr0_0
  have HC0_0 := AM hc0_0
  clear hr0_0 hc0_0
  have HR0_1 := AM hr0_1
  have HC0_1 := AM hc0_1
  clear hr0_1 hc0_1
  have HR0_2 := AM hr0_2
  have HC0_2 := AM hc0_2
  clear hr0_2 hc0_2
  have HB := AM (Below.refl w.heap.size w)
  have H : (if 0 ≤ (wrap64 (a1 - 1)) then (if (wrap64 (a1 - 1)) < (l0_2.length : Int) then (if (rd l0_2 (wrap64 (a1 - 1))) = 0 then ((impl_usual.f k a1).bind fun t234 => (some t234)) else (some (rd l0_2 (wrap64 (a1 - 1))))) else (none)) else (none)) = some r := h
  clear h
  obtain ⟨ji3, hji3⟩ : ∃ j_ : Int, (wrap64 (a1 - 1)) = j_ := ⟨_, rfl⟩
  replace H : (if 0 ≤ (ji3) then (if (ji3) < (l0_2.length : Int) then (if (rd l0_2 (ji3)) = 0 then ((impl_usual.f k a1).bind fun t234 => (some t234)) else (some (rd l0_2 (ji3)))) else (none)) else (none)) = some r := by first | (rw [hji3] at H; exact H) | (simp only [hji3] at H ⊢; exact H)
  have hji3w : (IntKind.i64.wrap (a1 - 1)) = ji3 := (i64_w _).trans hji3
  by_cases c4 : 0 ≤ (ji3)
  · rw [if_pos c4] at H
    have c4b0 : decide (0 ≤ (ji3)) = true := decide_eq_true c4
    clear c4
    by_cases c5 : (ji3) < (l0_2.length : Int)
    · rw [if_pos c5] at H
      have c5b0 : decide ((ji3) < (l0_2.length : Int)) = true := decide_eq_true c5
      clear c5
      by_cases c6 : (rd l0_2 (ji3)) = 0
      · rw [if_pos c6] at H
        have c6b0 : ((rd l0_2 (ji3)) == 0) = true := beq_iff_eq.mpr c6
        have c6b1 : ((rd l0_2 (ji3)) != 0) = false := bne_eq_false_iff_eq.mpr c6
        clear c6
        replace H := Option.bind_eq_some_iff.mp H
        obtain ⟨t234, A70, H⟩ := H
        replace H : (some t234) = some r := H
        have A7 := AM A70
        clear A70
        obtain rfl := Option.some.inj H
        go_enter Try.func64, Try.ntmps64
        go_wp2_with (first | ((with_reducible refine gd (N := 2) rfl ?_); refine xe ?hg (N := 2) ?hd (cs := #[.slice A0_0 l0_0.length c0_0, .slice A0_1 l0_1.length c0_1, .slice A0_2 l0_2.length c0_2]) (t := 27) ?hr ?_; (case hd => rfl); (case hg => rfl); (case hr => first | (go_simp; done) | (go_simp; rfl)); intro gb232 hg w8 hbox hb; have n0_ := AM (bp (lfB HB.out) hb); have n1_ := AM (hbox); have n2_ := AM ((by rw [hg]; exact (bz (lfB HB.out)) : w.heap.size ≤ gb232)); have n3_ := AM ((by rw [hg]; exact (bz (lfB HB.out)) : w.heap.size ≤ gb232)); clear HB; revert n0_ n1_ n2_ n3_; intro HB BK232 GW232 GE232; clear hb hbox hg; have hcz9_0 : w8.cell? ⟨gb232, 0, none⟩ = some (.slice A0_0 l0_0.length c0_0) := (kc BK232.out 0).trans rfl; have hcz9_1 : w8.cell? ⟨gb232, 1, none⟩ = some (.slice A0_1 l0_1.length c0_1) := (kc BK232.out 1).trans rfl; have hcz9_2 : w8.cell? ⟨gb232, 2, none⟩ = some (.slice A0_2 l0_2.length c0_2) := (kc BK232.out 2).trans rfl; have hfz9_0 := kz BK232.out 0; have hfz9_1 := kz BK232.out 1; have hfz9_2 := kz BK232.out 2; have p233 : 0 ≤ ((ji3) : Int) := of_decide_eq_true (by first | (with_reducible assumption) | assumption); have q233 : (ji3) < (l0_2.length : Int) := of_decide_eq_true (by first | (with_reducible assumption) | assumption); obtain ⟨ad233, e233, hx233_0⟩ := Kd.at_int HR0_2.out (ji3) p233 q233; cases e233; replace hx233_0 := (HB.out.cell (World.block_lt_of_cell? w _ hx233_0)).trans hx233_0; replace p233 := eq_true p233; replace q233 := eq_true q233) | ((with_reducible refine gc (f := 109) rfl ?_); refine goesL_ (some 13) rfl rfl Try.func109 (by kernel_rfl) rfl #[.int .i64 a1] rfl (by (try simp only [List.map_toArray, List.map_cons, List.map_nil]); first | done | rfl | (simp only [List.length_drop, List.length_take]; rfl)) ?_; (with_reducible refine (impl_usual.calls k a1 t234 _ A7.out).mono ?_); rintro e w' ⟨rfl, ⟨nd, rfl⟩⟩; refine ⟨_, rfl, ?_⟩))
        go_ret
        exact ⟨by first | rfl | (simp [errW_none, errW_some] <;> rfl) | (simp only [← hji3]; first | rfl | (simp [errW_none, errW_some] <;> rfl)) | (simp [*, errW_none, errW_some] <;> rfl), by repeat (first | (with_reducible first | exact HB.out | apply ba | apply bn | apply bd | refine bs ?_ GE232.out) | exact HB.out)⟩
      · rw [if_neg c6] at H
        have c6b0 : ((rd l0_2 (ji3)) == 0) = false := beq_eq_false_iff_ne.mpr c6
        have c6b1 : ((rd l0_2 (ji3)) != 0) = true := bne_iff_ne.mpr c6
        obtain rfl := Option.some.inj H
        go_enter Try.func64, Try.ntmps64
        go_wp2_with (first | ((with_reducible refine gd (N := 2) rfl ?_); refine xe ?hg (N := 2) ?hd (cs := #[.slice A0_0 l0_0.length c0_0, .slice A0_1 l0_1.length c0_1, .slice A0_2 l0_2.length c0_2]) (t := 27) ?hr ?_; (case hd => rfl); (case hg => rfl); (case hr => first | (go_simp; done) | (go_simp; rfl)); intro gb232 hg w10 hbox hb; have n0_ := AM (bp (lfB HB.out) hb); have n1_ := AM (hbox); have n2_ := AM ((by rw [hg]; exact (bz (lfB HB.out)) : w.heap.size ≤ gb232)); have n3_ := AM ((by rw [hg]; exact (bz (lfB HB.out)) : w.heap.size ≤ gb232)); clear HB; revert n0_ n1_ n2_ n3_; intro HB BK232 GW232 GE232; clear hb hbox hg; have hcz11_0 : w10.cell? ⟨gb232, 0, none⟩ = some (.slice A0_0 l0_0.length c0_0) := (kc BK232.out 0).trans rfl; have hcz11_1 : w10.cell? ⟨gb232, 1, none⟩ = some (.slice A0_1 l0_1.length c0_1) := (kc BK232.out 1).trans rfl; have hcz11_2 : w10.cell? ⟨gb232, 2, none⟩ = some (.slice A0_2 l0_2.length c0_2) := (kc BK232.out 2).trans rfl; have hfz11_0 := kz BK232.out 0; have hfz11_1 := kz BK232.out 1; have hfz11_2 := kz BK232.out 2; have p233 : 0 ≤ ((ji3) : Int) := of_decide_eq_true (by first | (with_reducible assumption) | assumption); have q233 : (ji3) < (l0_2.length : Int) := of_decide_eq_true (by first | (with_reducible assumption) | assumption); obtain ⟨ad233, e233, hx233_0⟩ := Kd.at_int HR0_2.out (ji3) p233 q233; cases e233; replace hx233_0 := (HB.out.cell (World.block_lt_of_cell? w _ hx233_0)).trans hx233_0; replace p233 := eq_true p233; replace q233 := eq_true q233; have p235 : 0 ≤ ((ji3) : Int) := of_decide_eq_true (by first | (with_reducible assumption) | assumption); have q235 : (ji3) < (l0_2.length : Int) := of_decide_eq_true (by first | (with_reducible assumption) | assumption); obtain ⟨ad235, e235, hx235_0⟩ := Kd.at_int HR0_2.out (ji3) p235 q235; obtain rfl : ad233 = ad235 := (by injection e235); replace hx235_0 := (HB.out.cell (World.block_lt_of_cell? w _ hx235_0)).trans hx235_0; replace p235 := eq_true p235; replace q235 := eq_true q235))
        go_ret
        exact ⟨by first | rfl | (simp [errW_none, errW_some] <;> rfl) | (simp only [← hji3]; first | rfl | (simp [errW_none, errW_some] <;> rfl)) | (simp [*, errW_none, errW_some] <;> rfl), by repeat (first | (with_reducible first | exact HB.out | apply ba | apply bn | apply bd | refine bs ?_ GE232.out) | exact HB.out)⟩
    · rw [if_neg c5] at H
      exact absurd H (by simp)
  · rw [if_neg c4] at H
    exact absurd H (by simp)

/-! ### impl_Sigs_first: function 71 -/
open Go.Proofs.YtpcohpkflkhfbaaW.PrintWords.Aside0 renaming mk → AM
open Go.Proofs.YtpcohpkflkhfbaaW.PrintWords renaming below_alloc → ba, pw_below_drewN → bn, below_drew1 → bd, below_set → bs, blk_drewN → kn, blk_drew → kd, blk_alloc → ka, blk_cell → kc, blk_frozen → kz, below_size → bz, below_step → bp, box_event → xe, gate_dst → gd
theorem impl_Sigs_first.yes (x : Int) (w : World) : Calls Try.prog 72 #[.int .i64 x] w fun e w' => e = .returned (.bool true) ∧ w = w' := by
  go_enter Try.func72, Try.ntmps72
  go_wp2
  go_ret
  exact ⟨rfl, rfl⟩
def impl_Sigs_first.l0 : Nat → Int → List Bool → List Bool → List Int → Option (Int)
  | 0, _, _, _, _ => none
  | k + 1, x5, x237000, x237001, x237002 => if x5 ≤ 8 then (if 0 ≤ (wrap64 (x5 - 1)) then (if (wrap64 (x5 - 1)) < (x237000.length : Int) then (if rdOf false x237000 (wrap64 (x5 - 1)) = true then (if (wrap64 (x5 - 1)) < (x237001.length : Int) then (if (rdOf false x237001 (wrap64 (x5 - 1)) = true) then (impl_Sigs_first.l0 k (wrap64 (x5 + 1)) x237000 x237001 x237002) else (some x5)) else (none)) else (impl_Sigs_first.l0 k (wrap64 (x5 + 1)) x237000 x237001 x237002)) else (none)) else (none)) else (some 0)
def impl_Sigs_first.f (k : Nat) (l0_0 : List Bool) (l0_1 : List Bool) (l0_2 : List Int) : Option (Int) := impl_Sigs_first.l0 k 1 l0_0 l0_1 l0_2
theorem impl_Sigs_first.mono_l : ∀ k, (∀ y0 y1 y2 y3, LeO (impl_Sigs_first.l0 k y0 y1 y2 y3) (impl_Sigs_first.l0 (k + 1) y0 y1 y2 y3))
  | 0 => fun _ _ _ _ r h => by simp [impl_Sigs_first.l0] at h
  | k + 1 => by
    have ih0 := impl_Sigs_first.mono_l k
    · intro y0 y1 y2 y3
      unfold impl_Sigs_first.l0
      repeat' first
      | (with_reducible exact ih0 _ _ _ _)
      | (with_reducible exact LeO.refl _)
      | (with_reducible exact LeO.none _)
      | (with_reducible refine LeO.ite ?_ ?_)
      | (with_reducible refine LeO.bind ?_ (fun _ => ?_))
      | exact ih0 _ _ _ _
      | exact LeO.none _
      | refine LeO.ite ?_ ?_
      | refine LeO.bind ?_ (fun _ => ?_)
theorem impl_Sigs_first.mono : ∀ a0 a1 a2 k, LeO (impl_Sigs_first.f k a0 a1 a2) (impl_Sigs_first.f (k + 1) a0 a1 a2) := by
  intro a0 a1 a2 k
  have ih0 := impl_Sigs_first.mono_l k
  unfold impl_Sigs_first.f
  repeat' first
      | (with_reducible exact ih0 _ _ _ _)
      | (with_reducible exact LeO.refl _)
      | (with_reducible exact LeO.none _)
      | (with_reducible refine LeO.ite ?_ ?_)
      | (with_reducible refine LeO.bind ?_ (fun _ => ?_))
      | exact ih0 _ _ _ _
      | exact LeO.none _
      | refine LeO.ite ?_ ?_
      | refine LeO.bind ?_ (fun _ => ?_)
set_option maxHeartbeats 8000000 in
set_option maxRecDepth 100000 in
theorem impl_Sigs_first.calls (k : Nat) (A0_0 : Option Addr) (c0_0 : Nat) (l0_0 : List Bool) (A0_1 : Option Addr) (c0_1 : Nat) (l0_1 : List Bool) (A0_2 : Option Addr) (c0_2 : Nat) (l0_2 : List Int) (r : Int) (w : World) (hr0_0 : Kd.C Kd.bool w A0_0 l0_0.length l0_0) (hc0_0 : l0_0.length ≤ c0_0) (hr0_1 : Kd.C Kd.bool w A0_1 l0_1.length l0_1) (hc0_1 : l0_1.length ≤ c0_1) (hr0_2 : Kd.C (Kd.int .i64) w A0_2 l0_2.length l0_2) (hc0_2 : l0_2.length ≤ c0_2) (h : impl_Sigs_first.f k l0_0 l0_1 l0_2 = some r) :
    Calls Try.prog 71 #[.agg #[.slice A0_0 l0_0.length c0_0, .slice A0_1 l0_1.length c0_1, .slice A0_2 l0_2.length c0_2], .func (.func 72) #[] #[]] w fun e w' => e = .returned (.int .i64 r) ∧ Below w.heap.size w w' := by
  have hu27 := Try.underlying27
  have HR0_0 := AM hr0_0
  have HC0_0 := AM hc0_0
  clear hr0_0 hc0_0
  have HR0_1 := AM hr0_1
  have HC0_1 := AM hc0_1
  clear hr0_1 hc0_1
  have HR0_2 := AM hr0_2
  have HC0_2 := AM hc0_2
  clear hr0_2 hc0_2
  have HB := AM (Below.refl w.heap.size w)
  have H : (impl_Sigs_first.l0 k 1 l0_0 l0_1 l0_2) = some r := h
  clear h
  have H' := AM H
  clear H
  go_enter Try.func71, Try.ntmps71
  go_wp2_with (first | ((with_reducible refine gd (N := 2) rfl ?_); refine xe ?hg (N := 2) ?hd (cs := #[.slice A0_0 l0_0.length c0_0, .slice A0_1 l0_1.length c0_1, .slice A0_2 l0_2.length c0_2]) (t := 27) ?hr ?_; (case hd => rfl); (case hg => rfl); (case hr => first | (go_simp; done) | (go_simp; rfl)); intro gb236 hg w2 hbox hb; have n0_ := AM (bp (lfB HB.out) hb); have n1_ := AM (hbox); have n2_ := AM ((by rw [hg]; exact (bz (lfB HB.out)) : w.heap.size ≤ gb236)); have n3_ := AM ((by rw [hg]; exact (bz (lfB HB.out)) : w.heap.size ≤ gb236)); clear HB; revert n0_ n1_ n2_ n3_; intro HB BK236 GW236 GE236; clear hb hbox hg))
  go_loopg [5] k (fun kq v5 w' => ∃ (x5_1 : Int), v5 = .int .i64 x5_1 ∧ Aside0 (impl_Sigs_first.l0 kq x5_1 l0_0 l0_1 l0_2 = some r) ∧ Aside0 (kq ≤ k) ∧ Aside0 (w'.heap[gb236]? = some (.cells #[(.slice A0_0 l0_0.length c0_0), (.slice A0_1 l0_1.length c0_1), (.slice A0_2 l0_2.length c0_2)] 27 (0, 0))) ∧ Aside0 (Below w.heap.size w w'))
  case atStart => exact ⟨(1), (by first | rfl | (simp; done) | (simp [*]; done)), H', ⟨Nat.le_refl _⟩, ⟨by (with_reducible repeat (first | refine kn ?_ _ | refine kd ?_ | refine ka ?_ _)); exact BK236.out⟩, ⟨by repeat (first | (with_reducible first | exact HB.out | apply ba | apply bn | apply bd | refine bs ?_ GE236.out) | exact HB.out)⟩⟩
  case round =>
    clear H'
    obtain ⟨x5_1, rfl, HA, HK1, BK236, HB⟩ := hrel
    cases gk with
    | zero => exact absurd HA.out (by simp [impl_Sigs_first.l0])
    | succ k1 =>
      have H := HA.out
      clear HA
      simp only [impl_Sigs_first.l0] at H
      by_cases c3 : x5_1 ≤ 8
      · rw [if_pos c3] at H
        have c3b0 : decide (x5_1 ≤ 8) = true := decide_eq_true c3
        clear c3
        obtain ⟨ji4, hji4⟩ : ∃ j_ : Int, (wrap64 (x5_1 - 1)) = j_ := ⟨_, rfl⟩
        replace H : (if 0 ≤ (ji4) then (if (ji4) < (l0_0.length : Int) then (if rdOf false l0_0 (ji4) = true then (if (ji4) < (l0_1.length : Int) then (if (rdOf false l0_1 (ji4) = true) then (impl_Sigs_first.l0 k1 (wrap64 (x5_1 + 1)) l0_0 l0_1 l0_2) else (some x5_1)) else (none)) else (impl_Sigs_first.l0 k1 (wrap64 (x5_1 + 1)) l0_0 l0_1 l0_2)) else (none)) else (none)) = some r := by first | (rw [hji4] at H; exact H) | (simp only [hji4] at H ⊢; exact H)
        have hji4w : (IntKind.i64.wrap (x5_1 - 1)) = ji4 := (i64_w _).trans hji4
        by_cases c5 : 0 ≤ (ji4)
        · rw [if_pos c5] at H
          have c5b0 : decide (0 ≤ (ji4)) = true := decide_eq_true c5
          clear c5
          by_cases c6 : (ji4) < (l0_0.length : Int)
          · rw [if_pos c6] at H
            have c6b0 : decide ((ji4) < (l0_0.length : Int)) = true := decide_eq_true c6
            clear c6
            obtain ⟨bq7, hbq7⟩ : ∃ b_ : Bool, b_ = (rdOf false l0_0 (ji4)) := ⟨_, rfl⟩
            replace H : (if bq7 = true then (if (ji4) < (l0_1.length : Int) then (if (rdOf false l0_1 (ji4) = true) then (impl_Sigs_first.l0 k1 (wrap64 (x5_1 + 1)) l0_0 l0_1 l0_2) else (some x5_1)) else (none)) else (impl_Sigs_first.l0 k1 (wrap64 (x5_1 + 1)) l0_0 l0_1 l0_2)) = some r := by rw [← hbq7] at H; exact H
            have Nbq7 := AM hbq7
            clear hbq7
            by_cases c8 : bq7 = true
            · subst c8
              have H1 : (if (ji4) < (l0_1.length : Int) then (if (rdOf false l0_1 (ji4) = true) then (impl_Sigs_first.l0 k1 (wrap64 (x5_1 + 1)) l0_0 l0_1 l0_2) else (some x5_1)) else (none)) = some r := by rw [if_pos rfl] at H; exact H
              clear H
              have H := H1
              clear H1
              by_cases c9 : (ji4) < (l0_1.length : Int)
              · rw [if_pos c9] at H
                have c9b0 : decide ((ji4) < (l0_1.length : Int)) = true := decide_eq_true c9
                clear c9
                obtain ⟨bq10, hbq10⟩ : ∃ b_ : Bool, b_ = (rdOf false l0_1 (ji4)) := ⟨_, rfl⟩
                replace H : (if (bq10 = true) then (impl_Sigs_first.l0 k1 (wrap64 (x5_1 + 1)) l0_0 l0_1 l0_2) else (some x5_1)) = some r := by rw [← hbq10] at H; exact H
                have Nbq10 := AM hbq10
                clear hbq10
                by_cases c11 : (bq10 = true)
                · subst c11
                  have H1 : (impl_Sigs_first.l0 k1 (wrap64 (x5_1 + 1)) l0_0 l0_1 l0_2) = some r := by rw [if_pos rfl] at H; exact H
                  clear H
                  have H := H1
                  clear H1
                  have H' := AM H
                  clear H
                  have hcz12_0 : wr.cell? ⟨gb236, 0, none⟩ = some (.slice A0_0 l0_0.length c0_0) := (kc BK236.out 0).trans rfl
                  have hcz12_1 : wr.cell? ⟨gb236, 1, none⟩ = some (.slice A0_1 l0_1.length c0_1) := (kc BK236.out 1).trans rfl
                  have hcz12_2 : wr.cell? ⟨gb236, 2, none⟩ = some (.slice A0_2 l0_2.length c0_2) := (kc BK236.out 2).trans rfl
                  have hfz12_0 := kz BK236.out 0
                  have hfz12_1 := kz BK236.out 1
                  have hfz12_2 := kz BK236.out 2
                  have p237 : 0 ≤ ((ji4) : Int) := of_decide_eq_true (by first | (with_reducible assumption) | assumption)
                  have q237 : (ji4) < (l0_0.length : Int) := of_decide_eq_true (by first | (with_reducible assumption) | assumption)
                  obtain ⟨ad237, e237, hx237_0⟩ := Kd.at_bool HR0_0.out (ji4) p237 q237
                  (try rw [← Nbq7.out] at hx237_0)
                  (try rw [← Nbq10.out] at hx237_0)
                  cases e237
                  replace hx237_0 := (HB.out.cell (World.block_lt_of_cell? w _ hx237_0)).trans hx237_0
                  replace p237 := eq_true p237
                  replace q237 := eq_true q237
                  have p238 : 0 ≤ ((ji4) : Int) := of_decide_eq_true (by first | (with_reducible assumption) | assumption)
                  have q238 : (ji4) < (l0_1.length : Int) := of_decide_eq_true (by first | (with_reducible assumption) | assumption)
                  obtain ⟨ad238, e238, hx238_0⟩ := Kd.at_bool HR0_1.out (ji4) p238 q238
                  (try rw [← Nbq7.out] at hx238_0)
                  (try rw [← Nbq10.out] at hx238_0)
                  cases e238
                  replace hx238_0 := (HB.out.cell (World.block_lt_of_cell? w _ hx238_0)).trans hx238_0
                  replace p238 := eq_true p238
                  replace q238 := eq_true q238
                  go_wp2
                  go_roundg k1
                  case measure => have := HK1.out; omega
                  case rel => exact ⟨(wrap64 (x5_1 + 1)), (by first | rfl | (simp; done) | (simp [*]; done)), H', ⟨by have := HK1.out; omega⟩, ⟨by (with_reducible repeat (first | refine kn ?_ _ | refine kd ?_ | refine ka ?_ _)); exact BK236.out⟩, ⟨by repeat (first | (with_reducible first | exact HB.out | apply ba | apply bn | apply bd | refine bs ?_ GE236.out) | exact HB.out)⟩⟩
                · replace c11 := Bool.eq_false_iff.mpr c11
                  subst c11
                  have H1 : (some x5_1) = some r := by rw [if_neg (show ¬ (false = true) by decide)] at H; exact H
                  clear H
                  have H := H1
                  clear H1
                  obtain rfl := Option.some.inj H
                  have hcz13_0 : wr.cell? ⟨gb236, 0, none⟩ = some (.slice A0_0 l0_0.length c0_0) := (kc BK236.out 0).trans rfl
                  have hcz13_1 : wr.cell? ⟨gb236, 1, none⟩ = some (.slice A0_1 l0_1.length c0_1) := (kc BK236.out 1).trans rfl
                  have hcz13_2 : wr.cell? ⟨gb236, 2, none⟩ = some (.slice A0_2 l0_2.length c0_2) := (kc BK236.out 2).trans rfl
                  have hfz13_0 := kz BK236.out 0
                  have hfz13_1 := kz BK236.out 1
                  have hfz13_2 := kz BK236.out 2
                  have p237 : 0 ≤ ((ji4) : Int) := of_decide_eq_true (by first | (with_reducible assumption) | assumption)
                  have q237 : (ji4) < (l0_0.length : Int) := of_decide_eq_true (by first | (with_reducible assumption) | assumption)
                  obtain ⟨ad237, e237, hx237_0⟩ := Kd.at_bool HR0_0.out (ji4) p237 q237
                  (try rw [← Nbq7.out] at hx237_0)
                  (try rw [← Nbq10.out] at hx237_0)
                  cases e237
                  replace hx237_0 := (HB.out.cell (World.block_lt_of_cell? w _ hx237_0)).trans hx237_0
                  replace p237 := eq_true p237
                  replace q237 := eq_true q237
                  have p238 : 0 ≤ ((ji4) : Int) := of_decide_eq_true (by first | (with_reducible assumption) | assumption)
                  have q238 : (ji4) < (l0_1.length : Int) := of_decide_eq_true (by first | (with_reducible assumption) | assumption)
                  obtain ⟨ad238, e238, hx238_0⟩ := Kd.at_bool HR0_1.out (ji4) p238 q238
                  (try rw [← Nbq7.out] at hx238_0)
                  (try rw [← Nbq10.out] at hx238_0)
                  cases e238
                  replace hx238_0 := (HB.out.cell (World.block_lt_of_cell? w _ hx238_0)).trans hx238_0
                  replace p238 := eq_true p238
                  replace q238 := eq_true q238
                  go_wp2
                  go_ret
                  exact ⟨by first | rfl | (simp [errW_none, errW_some] <;> rfl) | (simp only [← hji4]; first | rfl | (simp [errW_none, errW_some] <;> rfl)) | (simp [*, errW_none, errW_some] <;> rfl), by repeat (first | (with_reducible first | exact HB.out | apply ba | apply bn | apply bd | refine bs ?_ GE236.out) | exact HB.out)⟩
              · rw [if_neg c9] at H
                exact absurd H (by simp)
            · replace c8 := Bool.eq_false_iff.mpr c8
              subst c8
              have H1 : (impl_Sigs_first.l0 k1 (wrap64 (x5_1 + 1)) l0_0 l0_1 l0_2) = some r := by rw [if_neg (show ¬ (false = true) by decide)] at H; exact H
              clear H
              have H := H1
              clear H1
              have H' := AM H
              clear H
              have hcz14_0 : wr.cell? ⟨gb236, 0, none⟩ = some (.slice A0_0 l0_0.length c0_0) := (kc BK236.out 0).trans rfl
              have hcz14_1 : wr.cell? ⟨gb236, 1, none⟩ = some (.slice A0_1 l0_1.length c0_1) := (kc BK236.out 1).trans rfl
              have hcz14_2 : wr.cell? ⟨gb236, 2, none⟩ = some (.slice A0_2 l0_2.length c0_2) := (kc BK236.out 2).trans rfl
              have hfz14_0 := kz BK236.out 0
              have hfz14_1 := kz BK236.out 1
              have hfz14_2 := kz BK236.out 2
              have p237 : 0 ≤ ((ji4) : Int) := of_decide_eq_true (by first | (with_reducible assumption) | assumption)
              have q237 : (ji4) < (l0_0.length : Int) := of_decide_eq_true (by first | (with_reducible assumption) | assumption)
              obtain ⟨ad237, e237, hx237_0⟩ := Kd.at_bool HR0_0.out (ji4) p237 q237
              (try rw [← Nbq7.out] at hx237_0)
              cases e237
              replace hx237_0 := (HB.out.cell (World.block_lt_of_cell? w _ hx237_0)).trans hx237_0
              replace p237 := eq_true p237
              replace q237 := eq_true q237
              go_wp2
              go_roundg k1
              case measure => have := HK1.out; omega
              case rel => exact ⟨(wrap64 (x5_1 + 1)), (by first | rfl | (simp; done) | (simp [*]; done)), H', ⟨by have := HK1.out; omega⟩, ⟨by (with_reducible repeat (first | refine kn ?_ _ | refine kd ?_ | refine ka ?_ _)); exact BK236.out⟩, ⟨by repeat (first | (with_reducible first | exact HB.out | apply ba | apply bn | apply bd | refine bs ?_ GE236.out) | exact HB.out)⟩⟩
          · rw [if_neg c6] at H
            exact absurd H (by simp)
        · rw [if_neg c5] at H
          exact absurd H (by simp)
      · rw [if_neg c3] at H
        have c3b0 : decide (x5_1 ≤ 8) = false := decide_eq_false c3
        clear c3
        obtain rfl := Option.some.inj H
        go_wp2
        go_ret
        exact ⟨by first | rfl | (simp [errW_none, errW_some] <;> rfl) | (simp [*, errW_none, errW_some] <;> rfl), by repeat (first | (with_reducible first | exact HB.out | apply ba | apply bn | apply bd | refine bs ?_ GE236.out) | exact HB.out)⟩

/-! ### impl_SigsNext: function 21 -/
open List renaming setIfInBounds_toArray → sA, set_cons_zero → sZ, set_cons_succ → sS
open Go.Proofs.YtpcohpkflkhfbaaW.PrintWords.Aside0 renaming mk → AM
open Go.Proofs.YtpcohpkflkhfbaaW.PrintWords renaming below_alloc → ba, pw_below_drewN → bn, below_drew1 → bd, below_set → bs, blk_drewN → kn, blk_drew → kd, blk_alloc → ka, blk_far → kf, blk_cell → kc, blk_frozen → kz, blk_below → kb, below_size → bz, below_step → bp, box_event → xe, store_event → se, gate_callee → gc, gate_dst → gd, gate_store → gs
open Go.Proofs.YtpcohpkflkhfbaaW.PrintWords.Kd renaming R_alloc → Ra, R_drewN → Rn, R_drew → Rd, R_mono → Rm, R_below → Rb, R_far → Rf, R_types → Rt, R_lower → Rl, C_alloc → Ca, C_drewN → Cn, C_drew → Cd, C_below → Cb, R_slice → Ri
def impl_SigsNext.f (k : Nat) (l0_0 : List Bool) (l0_1 : List Bool) (l0_2 : List Int) : Option (List Bool × List Bool × List Int × Int × Int × Bool) := (impl_SigsOk.f k l0_0 l0_1 l0_2).bind fun t241 => (if t241 = true then ((impl_Sigs_clone.f l0_0 l0_1 l0_2).bind fun bt242 => ((impl_Sigs_first.f k l0_0 l0_1 l0_2).bind fun t252 => (if t252 = 0 then (some (bt242.1, bt242.2.1, bt242.2.2, 0, 1, false)) else (if 0 ≤ (wrap64 (t252 - 1)) then (if (wrap64 (t252 - 1)) < (bt242.1.length : Int) then ((impl_Sigs_does.f k l0_0 l0_1 l0_2 t252).bind fun t254 => (some ((bt242.1.set ((wrap64 (t252 - 1)) : Int).toNat false), bt242.2.1, bt242.2.2, t252, t254, true))) else (none)) else (none))))) else (some (([] : List Bool), ([] : List Bool), ([] : List Int), 0, 1, false)))
theorem impl_SigsNext.mono : ∀ a0 a1 a2 k, LeO (impl_SigsNext.f k a0 a1 a2) (impl_SigsNext.f (k + 1) a0 a1 a2) := by
  intro a0 a1 a2 k
  unfold impl_SigsNext.f
  repeat' first
      | (with_reducible exact impl_SigsOk.mono _ _ _ _)
      | (with_reducible exact impl_Sigs_does.mono _ _ _ _ _)
      | (with_reducible exact impl_Sigs_first.mono _ _ _ _)
      | (with_reducible exact LeO.refl _)
      | (with_reducible exact LeO.none _)
      | (with_reducible refine LeO.ite ?_ ?_)
      | (with_reducible refine LeO.bind ?_ (fun _ => ?_))
      | exact impl_SigsOk.mono _ _ _ _
      | exact impl_Sigs_does.mono _ _ _ _ _
      | exact impl_Sigs_first.mono _ _ _ _
      | exact LeO.none _
      | refine LeO.ite ?_ ?_
      | refine LeO.bind ?_ (fun _ => ?_)
def impl_SigsNext.T8 : Bool × List (List Nat × List Nat) := (true, [([], []), ([], []), ([], []), ([], []), ([2, 3], [2, 3]), ([0, 4, 0], [0]), ([1, 5, 0, 1, 5], [1]), ([4, 6, 0, 1, 2, 3, 4, 5, 6], [4]), ([7, 0, 1, 2, 3, 4, 5, 6, 7], [])])
def impl_SigsNext.B8 : List Nat := [0, 0, 0, 0, 12, 29, 63, 127, 255]
theorem impl_SigsNext.tab8 : rtab .any (opsOf Try.f21 8) = impl_SigsNext.T8 := by kernel_rfl
theorem impl_SigsNext.bits8 : waitsOk impl_SigsNext.T8.2 impl_SigsNext.B8 = true := by kernel_rfl
set_option maxHeartbeats 8000000 in
set_option maxRecDepth 100000 in
theorem impl_SigsNext.calls (k : Nat) (A0_0 : Option Addr) (c0_0 : Nat) (l0_0 : List Bool) (A0_1 : Option Addr) (c0_1 : Nat) (l0_1 : List Bool) (A0_2 : Option Addr) (c0_2 : Nat) (l0_2 : List Int) (r1 : List Bool) (r2 : List Bool) (r3 : List Int) (r4 : Int) (r5 : Int) (r6 : Bool) (w : World) (hr0_0 : Kd.C Kd.bool w A0_0 l0_0.length l0_0) (hc0_0 : l0_0.length ≤ c0_0) (hr0_1 : Kd.C Kd.bool w A0_1 l0_1.length l0_1) (hc0_1 : l0_1.length ≤ c0_1) (hr0_2 : Kd.C (Kd.int .i64) w A0_2 l0_2.length l0_2) (hc0_2 : l0_2.length ≤ c0_2) (h : impl_SigsNext.f k l0_0 l0_1 l0_2 = some (r1, r2, r3, r4, r5, r6)) :
    Calls Try.prog 21 #[.agg #[.slice A0_0 l0_0.length c0_0, .slice A0_1 l0_1.length c0_1, .slice A0_2 l0_2.length c0_2]] w fun e w' => ∃ v0_ v1_ v2_ : Value, e = .returned (.tuple #[.agg #[v0_, v1_, v2_], .int .i64 r4, .int .i64 r5, .bool r6]) ∧ Kd.R Kd.bool 4 w' w.heap.size (fun k_ => some k_ ≠ (v1_ : Value).ownBlock) v0_ r1 ∧ Kd.R Kd.bool 4 w' w.heap.size (fun k_ => some k_ ≠ (v0_ : Value).ownBlock) v1_ r2 ∧ Kd.R (Kd.int .i64) 3 w' w.heap.size (fun _ => True) v2_ r3 ∧ Below w.heap.size w w' := by
  have hu27 := Try.underlying27
  have HR0_0 := AM hr0_0
  have HC0_0 := AM hc0_0
  clear hr0_0 hc0_0
  have HR0_1 := AM hr0_1
  have HC0_1 := AM hc0_1
  clear hr0_1 hc0_1
  have HR0_2 := AM hr0_2
  have HC0_2 := AM hc0_2
  clear hr0_2 hc0_2
  have HB := AM (Below.refl w.heap.size w)
  have H : ((impl_SigsOk.f k l0_0 l0_1 l0_2).bind fun t241 => (if t241 = true then ((impl_Sigs_clone.f l0_0 l0_1 l0_2).bind fun bt242 => ((impl_Sigs_first.f k l0_0 l0_1 l0_2).bind fun t252 => (if t252 = 0 then (some (bt242.1, bt242.2.1, bt242.2.2, 0, 1, false)) else (if 0 ≤ (wrap64 (t252 - 1)) then (if (wrap64 (t252 - 1)) < (bt242.1.length : Int) then ((impl_Sigs_does.f k l0_0 l0_1 l0_2 t252).bind fun t254 => (some ((bt242.1.set ((wrap64 (t252 - 1)) : Int).toNat false), bt242.2.1, bt242.2.2, t252, t254, true))) else (none)) else (none))))) else (some (([] : List Bool), ([] : List Bool), ([] : List Int), 0, 1, false)))) = some (r1, r2, r3, r4, r5, r6) := h
  clear h
  replace H := Option.bind_eq_some_iff.mp H
  obtain ⟨t241, A20, H⟩ := H
  replace H : (if t241 = true then ((impl_Sigs_clone.f l0_0 l0_1 l0_2).bind fun bt242 => ((impl_Sigs_first.f k l0_0 l0_1 l0_2).bind fun t252 => (if t252 = 0 then (some (bt242.1, bt242.2.1, bt242.2.2, 0, 1, false)) else (if 0 ≤ (wrap64 (t252 - 1)) then (if (wrap64 (t252 - 1)) < (bt242.1.length : Int) then ((impl_Sigs_does.f k l0_0 l0_1 l0_2 t252).bind fun t254 => (some ((bt242.1.set ((wrap64 (t252 - 1)) : Int).toNat false), bt242.2.1, bt242.2.2, t252, t254, true))) else (none)) else (none))))) else (some (([] : List Bool), ([] : List Bool), ([] : List Int), 0, 1, false))) = some (r1, r2, r3, r4, r5, r6) := H
  have A2 := AM A20
  clear A20
  by_cases c3 : t241 = true
  · subst c3
    have H1 : ((impl_Sigs_clone.f l0_0 l0_1 l0_2).bind fun bt242 => ((impl_Sigs_first.f k l0_0 l0_1 l0_2).bind fun t252 => (if t252 = 0 then (some (bt242.1, bt242.2.1, bt242.2.2, 0, 1, false)) else (if 0 ≤ (wrap64 (t252 - 1)) then (if (wrap64 (t252 - 1)) < (bt242.1.length : Int) then ((impl_Sigs_does.f k l0_0 l0_1 l0_2 t252).bind fun t254 => (some ((bt242.1.set ((wrap64 (t252 - 1)) : Int).toNat false), bt242.2.1, bt242.2.2, t252, t254, true))) else (none)) else (none))))) = some (r1, r2, r3, r4, r5, r6) := by rw [if_pos rfl] at H; exact H
    clear H
    have H := H1
    clear H1
    replace H := Option.bind_eq_some_iff.mp H
    obtain ⟨⟨t242, t245, t248⟩, A40, H⟩ := H
    replace H : ((impl_Sigs_first.f k l0_0 l0_1 l0_2).bind fun t252 => (if t252 = 0 then (some (t242, t245, t248, 0, 1, false)) else (if 0 ≤ (wrap64 (t252 - 1)) then (if (wrap64 (t252 - 1)) < (t242.length : Int) then ((impl_Sigs_does.f k l0_0 l0_1 l0_2 t252).bind fun t254 => (some ((t242.set ((wrap64 (t252 - 1)) : Int).toNat false), t245, t248, t252, t254, true))) else (none)) else (none)))) = some (r1, r2, r3, r4, r5, r6) := H
    have A4 := AM A40
    clear A40
    replace H := Option.bind_eq_some_iff.mp H
    obtain ⟨t252, A50, H⟩ := H
    replace H : (if t252 = 0 then (some (t242, t245, t248, 0, 1, false)) else (if 0 ≤ (wrap64 (t252 - 1)) then (if (wrap64 (t252 - 1)) < (t242.length : Int) then ((impl_Sigs_does.f k l0_0 l0_1 l0_2 t252).bind fun t254 => (some ((t242.set ((wrap64 (t252 - 1)) : Int).toNat false), t245, t248, t252, t254, true))) else (none)) else (none))) = some (r1, r2, r3, r4, r5, r6) := H
    have A5 := AM A50
    clear A50
    by_cases c6 : t252 = 0
    · rw [if_pos c6] at H
      have c6b0 : (t252 == 0) = true := beq_iff_eq.mpr c6
      have c6b1 : (t252 != 0) = false := bne_eq_false_iff_eq.mpr c6
      clear c6
      simp only [Option.some.injEq, Prod.mk.injEq] at H
      obtain ⟨rfl, rfl, rfl, rfl, rfl, rfl⟩ := H
      go_enter Try.func21, Try.ntmps21
      go_wp2_with (first | ((with_reducible refine gd (N := 1) rfl ?_); refine xe ?hg (N := 1) ?hd (cs := #[.slice A0_0 l0_0.length c0_0, .slice A0_1 l0_1.length c0_1, .slice A0_2 l0_2.length c0_2]) (t := 27) ?hr ?_; (case hd => rfl); (case hg => rfl); (case hr => first | (go_simp; done) | (go_simp; rfl)); intro gb239 hg w7 hbox hb; have n0_ := AM (bp (lfB HB.out) hb); have n1_ := AM (hbox); have n2_ := AM ((by rw [hg]; exact (bz (lfB HB.out)) : w.heap.size ≤ gb239)); have n3_ := AM ((by rw [hg]; exact (bz (lfB HB.out)) : w.heap.size ≤ gb239)); clear HB; revert n0_ n1_ n2_ n3_; intro HB BK239 GW239 GE239; clear hb hbox hg) | ((with_reducible refine gd (N := 2) rfl ?_); refine xe ?hg (N := 2) ?hd (cs := #[.slice none 0 0, .slice none 0 0, .slice none 0 0]) (t := 27) ?hr ?_; (case hd => rfl); (case hg => rfl); (case hr => first | (go_simp; done) | (go_simp; rfl)); intro gb240 hg w8 hbox hb; have n0_ := AM (kb (g := gb239) (o := .cells #[.slice A0_0 l0_0.length c0_0, .slice A0_1 l0_1.length c0_1, .slice A0_2 l0_2.length c0_2] 27 (0, 0)) (lfK BK239.out) hb); have n1_ := AM (bp (by repeat (first | (with_reducible first | exact HB.out | apply ba | apply bn | apply bd | refine bs ?_ GE239.out) | exact HB.out)) hb); have n2_ := AM (hbox); have n3_ := AM ((by rw [hg]; exact (bz (by repeat (first | (with_reducible first | exact HB.out | apply ba | apply bn | apply bd | refine bs ?_ GE239.out) | exact HB.out))) : w.heap.size ≤ gb240)); have n4_ := AM ((by rw [hg]; exact (bz (by repeat (first | (with_reducible first | exact HB.out | apply ba | apply bn | apply bd | refine bs ?_ GE239.out) | exact HB.out))) : w.heap.size ≤ gb240)); have n5_ := AM ((by rw [hg]; exact Nat.ne_of_lt (blk_lt (g := gb239) (o := .cells #[.slice A0_0 l0_0.length c0_0, .slice A0_1 l0_1.length c0_1, .slice A0_2 l0_2.length c0_2] 27 (0, 0)) (lfK BK239.out)) : gb239 ≠ gb240)); have n6_ := AM ((by rw [hg]; exact Nat.ne_of_gt (blk_lt (g := gb239) (o := .cells #[.slice A0_0 l0_0.length c0_0, .slice A0_1 l0_1.length c0_1, .slice A0_2 l0_2.length c0_2] 27 (0, 0)) (lfK BK239.out)) : gb240 ≠ gb239)); clear BK239 HB; revert n0_ n1_ n2_ n3_ n4_ n5_ n6_; intro BK239 HB BK240 GW240 GE240 NB239_240 NB240_239; clear hb hbox hg; have hnb9 := NB239_240.out; have hnc9 := NB240_239.out; have hcz10_0 : w8.cell? ⟨gb239, 0, none⟩ = some (.slice A0_0 l0_0.length c0_0) := (kc BK239.out 0).trans rfl; have hcz10_1 : w8.cell? ⟨gb239, 1, none⟩ = some (.slice A0_1 l0_1.length c0_1) := (kc BK239.out 1).trans rfl; have hcz10_2 : w8.cell? ⟨gb239, 2, none⟩ = some (.slice A0_2 l0_2.length c0_2) := (kc BK239.out 2).trans rfl; have hfz10_0 := kz BK239.out 0; have hfz10_1 := kz BK239.out 1; have hfz10_2 := kz BK239.out 2) | ((with_reducible refine gc (f := 61) rfl ?_); refine goesL_ (some 9) rfl rfl Try.func61 (by kernel_rfl) rfl #[.agg #[.slice A0_0 l0_0.length c0_0, .slice A0_1 l0_1.length c0_1, .slice A0_2 l0_2.length c0_2]] rfl (by (try simp only [List.map_toArray, List.map_cons, List.map_nil]); first | done | rfl | (simp only [List.length_drop, List.length_take]; rfl)) ?_; (with_reducible refine (impl_SigsOk.calls k _ _ l0_0 _ _ l0_1 _ _ l0_2 true _ ?side1 ?side2 ?side3 ?side4 ?side5 ?side6 A2.out).mono ?_); (case side1 => repeat (first | exact (Cb HR0_0.out HB.out) | (with_reducible refine Ca ?_ _) | (with_reducible refine Cn ?_ _) | (with_reducible refine Cd ?_))); (case side2 => exact HC0_0.out); (case side3 => repeat (first | exact (Cb HR0_1.out HB.out) | (with_reducible refine Ca ?_ _) | (with_reducible refine Cn ?_ _) | (with_reducible refine Cd ?_))); (case side4 => exact HC0_1.out); (case side5 => repeat (first | exact (Cb HR0_2.out HB.out) | (with_reducible refine Ca ?_ _) | (with_reducible refine Cn ?_ _) | (with_reducible refine Cd ?_))); (case side6 => exact HC0_2.out); rintro e w11 ⟨rfl, hb⟩; refine ⟨_, rfl, ?_⟩; have n0_ := AM (kb (g := gb239) (o := .cells #[.slice A0_0 l0_0.length c0_0, .slice A0_1 l0_1.length c0_1, .slice A0_2 l0_2.length c0_2] 27 (0, 0)) (lfK BK239.out) hb); have n1_ := AM (kb (g := gb240) (o := .cells #[.slice none 0 0, .slice none 0 0, .slice none 0 0] 27 (0, 0)) (lfK BK240.out) hb); have n2_ := AM (bp (by repeat (first | (with_reducible first | exact HB.out | apply ba | apply bn | apply bd | refine bs ?_ GE239.out | refine bs ?_ GE240.out) | exact HB.out)) hb); clear BK239 BK240 HB; revert n0_ n1_ n2_; intro BK239 BK240 HB; (try clear hb); have hcz12_0 : w11.cell? ⟨gb239, 0, none⟩ = some (.slice A0_0 l0_0.length c0_0) := (kc BK239.out 0).trans rfl; have hcz12_1 : w11.cell? ⟨gb239, 1, none⟩ = some (.slice A0_1 l0_1.length c0_1) := (kc BK239.out 1).trans rfl; have hcz12_2 : w11.cell? ⟨gb239, 2, none⟩ = some (.slice A0_2 l0_2.length c0_2) := (kc BK239.out 2).trans rfl; have hfz12_0 := kz BK239.out 0; have hfz12_1 := kz BK239.out 1; have hfz12_2 := kz BK239.out 2) | ((with_reducible refine gc (f := 63) rfl ?_); refine goesL_ (some 13) rfl rfl Try.func63 (by kernel_rfl) rfl #[.agg #[.slice A0_0 l0_0.length c0_0, .slice A0_1 l0_1.length c0_1, .slice A0_2 l0_2.length c0_2]] rfl (by (try simp only [List.map_toArray, List.map_cons, List.map_nil]); first | done | rfl | (simp only [List.length_drop, List.length_take]; rfl)) ?_; (with_reducible refine (impl_Sigs_clone.calls _ _ l0_0 _ _ l0_1 _ _ l0_2 t242 t245 t248 _ ?side1 ?side2 ?side3 ?side4 ?side5 ?side6 A4.out).mono ?_); (case side1 => repeat (first | exact (Cb HR0_0.out HB.out) | (with_reducible refine Ca ?_ _) | (with_reducible refine Cn ?_ _) | (with_reducible refine Cd ?_))); (case side2 => exact HC0_0.out); (case side3 => repeat (first | exact (Cb HR0_1.out HB.out) | (with_reducible refine Ca ?_ _) | (with_reducible refine Cn ?_ _) | (with_reducible refine Cd ?_))); (case side4 => exact HC0_1.out); (case side5 => repeat (first | exact (Cb HR0_2.out HB.out) | (with_reducible refine Ca ?_ _) | (with_reducible refine Cn ?_ _) | (with_reducible refine Cd ?_))); (case side6 => exact HC0_2.out); rintro e w13 ⟨v243, v246, v249, rfl, ho0, ho1, ho2, hb⟩; refine ⟨_, rfl, ?_⟩; have n0_ := AM (Rl ho0 (bz (by repeat (first | (with_reducible first | exact HB.out | apply ba | apply bn | apply bd | refine bs ?_ GE239.out | refine bs ?_ GE240.out) | exact HB.out)))); have n1_ := AM (Rl ho1 (bz (by repeat (first | (with_reducible first | exact HB.out | apply ba | apply bn | apply bd | refine bs ?_ GE239.out | refine bs ?_ GE240.out) | exact HB.out)))); have n2_ := AM (Rl ho2 (bz (by repeat (first | (with_reducible first | exact HB.out | apply ba | apply bn | apply bd | refine bs ?_ GE239.out | refine bs ?_ GE240.out) | exact HB.out)))); have n3_ := AM (kb (g := gb239) (o := .cells #[.slice A0_0 l0_0.length c0_0, .slice A0_1 l0_1.length c0_1, .slice A0_2 l0_2.length c0_2] 27 (0, 0)) (lfK BK239.out) hb); have n4_ := AM (kb (g := gb240) (o := .cells #[.slice none 0 0, .slice none 0 0, .slice none 0 0] 27 (0, 0)) (lfK BK240.out) hb); have n5_ := AM (bp (by repeat (first | (with_reducible first | exact HB.out | apply ba | apply bn | apply bd | refine bs ?_ GE239.out | refine bs ?_ GE240.out) | exact HB.out)) hb); clear BK239 BK240 HB; revert n0_ n1_ n2_ n3_ n4_ n5_; intro HO244 HO247 HO250 BK239 BK240 HB; (try clear hb ho0 ho1 ho2)) | ((with_reducible refine gd (N := 6) rfl ?_); refine xe ?hg (N := 6) ?hd (cs := #[.slice none 0 0, .slice none 0 0, .slice none 0 0]) (t := 27) ?hr ?_; (case hd => rfl); (case hg => rfl); (case hr => first | (go_simp; done) | (go_simp; rfl)); intro gb251 hg w14 hbox hb; have n0_ := AM (Rb (lfR HO244.out) hb); have n1_ := AM (Rb (lfR HO247.out) hb); have n2_ := AM (Rb (lfR HO250.out) hb); have n3_ := AM (kb (g := gb239) (o := .cells #[.slice A0_0 l0_0.length c0_0, .slice A0_1 l0_1.length c0_1, .slice A0_2 l0_2.length c0_2] 27 (0, 0)) (lfK BK239.out) hb); have n4_ := AM (kb (g := gb240) (o := .cells #[.slice none 0 0, .slice none 0 0, .slice none 0 0] 27 (0, 0)) (lfK BK240.out) hb); have n5_ := AM (bp (by repeat (first | (with_reducible first | exact HB.out | apply ba | apply bn | apply bd | refine bs ?_ GE239.out | refine bs ?_ GE240.out) | exact HB.out)) hb); have n6_ := AM (hbox); have n7_ := AM ((by rw [hg]; exact (bz (by repeat (first | (with_reducible first | exact HB.out | apply ba | apply bn | apply bd | refine bs ?_ GE239.out | refine bs ?_ GE240.out) | exact HB.out))) : w.heap.size ≤ gb251)); have n8_ := AM ((by rw [hg]; exact (bz (by repeat (first | (with_reducible first | exact HB.out | apply ba | apply bn | apply bd | refine bs ?_ GE239.out | refine bs ?_ GE240.out) | exact HB.out))) : w.heap.size ≤ gb251)); have n9_ := AM ((by rw [hg]; exact Nat.ne_of_lt (blk_lt (g := gb239) (o := .cells #[.slice A0_0 l0_0.length c0_0, .slice A0_1 l0_1.length c0_1, .slice A0_2 l0_2.length c0_2] 27 (0, 0)) (lfK BK239.out)) : gb239 ≠ gb251)); have n10_ := AM ((by rw [hg]; exact Nat.ne_of_gt (blk_lt (g := gb239) (o := .cells #[.slice A0_0 l0_0.length c0_0, .slice A0_1 l0_1.length c0_1, .slice A0_2 l0_2.length c0_2] 27 (0, 0)) (lfK BK239.out)) : gb251 ≠ gb239)); have n11_ := AM ((by rw [hg]; exact Nat.ne_of_lt (blk_lt (g := gb240) (o := .cells #[.slice none 0 0, .slice none 0 0, .slice none 0 0] 27 (0, 0)) (lfK BK240.out)) : gb240 ≠ gb251)); have n12_ := AM ((by rw [hg]; exact Nat.ne_of_gt (blk_lt (g := gb240) (o := .cells #[.slice none 0 0, .slice none 0 0, .slice none 0 0] 27 (0, 0)) (lfK BK240.out)) : gb251 ≠ gb240)); clear HO244 HO247 HO250 BK239 BK240 HB; revert n0_ n1_ n2_ n3_ n4_ n5_ n6_ n7_ n8_ n9_ n10_ n11_ n12_; intro HO244 HO247 HO250 BK239 BK240 HB BK251 GW251 GE251 NB239_251 NB251_239 NB240_251 NB251_240; clear hb hbox hg; obtain ⟨Ao15, co15, eo15⟩ := Ri HO244.out; subst eo15; have hnb16 := NB251_239.out; have hnc16 := NB239_251.out; have hnb17 := NB251_240.out; have hnc17 := NB240_251.out; have hcz18_0 : w14.cell? ⟨gb251, 0, none⟩ = some (.slice none 0 0) := (kc BK251.out 0).trans rfl; have hcz18_1 : w14.cell? ⟨gb251, 1, none⟩ = some (.slice none 0 0) := (kc BK251.out 1).trans rfl; have hcz18_2 : w14.cell? ⟨gb251, 2, none⟩ = some (.slice none 0 0) := (kc BK251.out 2).trans rfl; have hfz18_0 := kz BK251.out 0; have hfz18_1 := kz BK251.out 1; have hfz18_2 := kz BK251.out 2; obtain ⟨Ao19, co19, eo19⟩ := Ri HO247.out; subst eo19; obtain ⟨Ao20, co20, eo20⟩ := Ri HO250.out; subst eo20; have hcz21_0 : w14.cell? ⟨gb239, 0, none⟩ = some (.slice A0_0 l0_0.length c0_0) := (kc BK239.out 0).trans rfl; have hcz21_1 : w14.cell? ⟨gb239, 1, none⟩ = some (.slice A0_1 l0_1.length c0_1) := (kc BK239.out 1).trans rfl; have hcz21_2 : w14.cell? ⟨gb239, 2, none⟩ = some (.slice A0_2 l0_2.length c0_2) := (kc BK239.out 2).trans rfl; have hfz21_0 := kz BK239.out 0; have hfz21_1 := kz BK239.out 1; have hfz21_2 := kz BK239.out 2) | ((with_reducible refine gc (f := 71) rfl ?_); refine goesL_ (some 15) rfl rfl Try.func71 (by kernel_rfl) rfl #[.agg #[.slice A0_0 l0_0.length c0_0, .slice A0_1 l0_1.length c0_1, .slice A0_2 l0_2.length c0_2], .func (.func 72) #[] #[]] rfl (by (try simp only [List.map_toArray, List.map_cons, List.map_nil]); first | done | rfl | (simp only [List.length_drop, List.length_take]; rfl)) ?_; (with_reducible refine (impl_Sigs_first.calls k _ _ l0_0 _ _ l0_1 _ _ l0_2 t252 _ ?side1 ?side2 ?side3 ?side4 ?side5 ?side6 A5.out).mono ?_); (case side1 => exact Cb HR0_0.out (by repeat (first | (with_reducible first | exact HB.out | apply ba | apply bn | apply bd | refine bs ?_ GE239.out | refine bs ?_ GE240.out | refine bs ?_ GE251.out) | exact HB.out))); (case side2 => exact HC0_0.out); (case side3 => exact Cb HR0_1.out (by repeat (first | (with_reducible first | exact HB.out | apply ba | apply bn | apply bd | refine bs ?_ GE239.out | refine bs ?_ GE240.out | refine bs ?_ GE251.out) | exact HB.out))); (case side4 => exact HC0_1.out); (case side5 => exact Cb HR0_2.out (by repeat (first | (with_reducible first | exact HB.out | apply ba | apply bn | apply bd | refine bs ?_ GE239.out | refine bs ?_ GE240.out | refine bs ?_ GE251.out) | exact HB.out))); (case side6 => exact HC0_2.out); rintro e w22 ⟨rfl, hb⟩; refine ⟨_, rfl, ?_⟩; have n0_ := AM (Rb (by (with_reducible repeat (first | apply Ra | apply Rn | apply Rd)); exact (Rm (Rf (p := ⟨gb251, 2, none⟩) (Rf (p := ⟨gb251, 1, none⟩) (Rf (p := ⟨gb251, 0, none⟩) (Rt HO244.out BK251.out (by decide)) (fun _ hk => hk.2) (.slice Ao15 t242.length co15)) (fun _ hk => hk.2) (.slice Ao19 t245.length co19)) (fun _ hk => hk.2) (.slice Ao20 t248.length co20)) (fun _ h_ => h_.1))) hb); have n1_ := AM (Rb (by (with_reducible repeat (first | apply Ra | apply Rn | apply Rd)); exact (Rm (Rf (p := ⟨gb251, 2, none⟩) (Rf (p := ⟨gb251, 1, none⟩) (Rf (p := ⟨gb251, 0, none⟩) (Rt HO247.out BK251.out (by decide)) (fun _ hk => hk.2) (.slice Ao15 t242.length co15)) (fun _ hk => hk.2) (.slice Ao19 t245.length co19)) (fun _ hk => hk.2) (.slice Ao20 t248.length co20)) (fun _ h_ => h_.1))) hb); have n2_ := AM (Rb (by (with_reducible repeat (first | apply Ra | apply Rn | apply Rd)); exact (Rm (Rf (p := ⟨gb251, 2, none⟩) (Rf (p := ⟨gb251, 1, none⟩) (Rf (p := ⟨gb251, 0, none⟩) (Rt HO250.out BK251.out (by decide)) (fun _ hk => hk.2) (.slice Ao15 t242.length co15)) (fun _ hk => hk.2) (.slice Ao19 t245.length co19)) (fun _ hk => hk.2) (.slice Ao20 t248.length co20)) (fun _ h_ => h_.1))) hb); have n3_ := AM (kb (g := gb239) (o := .cells #[.slice A0_0 l0_0.length c0_0, .slice A0_1 l0_1.length c0_1, .slice A0_2 l0_2.length c0_2] 27 (0, 0)) (by (with_reducible repeat (first | refine kn ?_ _ | refine kd ?_ | refine ka ?_ _)); refine kf ?_ NB239_251.out _; (with_reducible repeat (first | refine kn ?_ _ | refine kd ?_ | refine ka ?_ _)); refine kf ?_ NB239_251.out _; (with_reducible repeat (first | refine kn ?_ _ | refine kd ?_ | refine ka ?_ _)); refine kf ?_ NB239_251.out _; (with_reducible repeat (first | refine kn ?_ _ | refine kd ?_ | refine ka ?_ _)); exact BK239.out) hb); have n4_ := AM (kb (g := gb240) (o := .cells #[.slice none 0 0, .slice none 0 0, .slice none 0 0] 27 (0, 0)) (by (with_reducible repeat (first | refine kn ?_ _ | refine kd ?_ | refine ka ?_ _)); refine kf ?_ NB240_251.out _; (with_reducible repeat (first | refine kn ?_ _ | refine kd ?_ | refine ka ?_ _)); refine kf ?_ NB240_251.out _; (with_reducible repeat (first | refine kn ?_ _ | refine kd ?_ | refine ka ?_ _)); refine kf ?_ NB240_251.out _; (with_reducible repeat (first | refine kn ?_ _ | refine kd ?_ | refine ka ?_ _)); exact BK240.out) hb); have n5_ := AM (kb (g := gb251) (o := .cells #[.slice Ao15 t242.length co15, .slice Ao19 t245.length co19, .slice Ao20 t248.length co20] 27 (0, 0)) (by (with_reducible repeat (first | refine kn ?_ _ | refine kd ?_ | refine ka ?_ _)); refine blk_put (cs := #[.slice Ao15 t242.length co15, .slice Ao19 t245.length co19, .slice none 0 0]) ?_ 2 _ rfl; (with_reducible repeat (first | refine kn ?_ _ | refine kd ?_ | refine ka ?_ _)); refine blk_put (cs := #[.slice Ao15 t242.length co15, .slice none 0 0, .slice none 0 0]) ?_ 1 _ rfl; (with_reducible repeat (first | refine kn ?_ _ | refine kd ?_ | refine ka ?_ _)); refine blk_put (cs := #[.slice none 0 0, .slice none 0 0, .slice none 0 0]) ?_ 0 _ rfl; (with_reducible repeat (first | refine kn ?_ _ | refine kd ?_ | refine ka ?_ _)); exact BK251.out) hb); have n6_ := AM (bp (by repeat (first | (with_reducible first | exact HB.out | apply ba | apply bn | apply bd | refine bs ?_ GE239.out | refine bs ?_ GE240.out | refine bs ?_ GE251.out) | exact HB.out)) hb); clear HO244 HO247 HO250 BK239 BK240 BK251 HB; revert n0_ n1_ n2_ n3_ n4_ n5_ n6_; intro HO244 HO247 HO250 BK239 BK240 BK251 HB; (try clear hb hk); have hcz23_0 : w22.cell? ⟨gb251, 0, none⟩ = some (.slice Ao15 t242.length co15) := (kc BK251.out 0).trans rfl; have hcz23_1 : w22.cell? ⟨gb251, 1, none⟩ = some (.slice Ao19 t245.length co19) := (kc BK251.out 1).trans rfl; have hcz23_2 : w22.cell? ⟨gb251, 2, none⟩ = some (.slice Ao20 t248.length co20) := (kc BK251.out 2).trans rfl; have hfz23_0 := kz BK251.out 0; have hfz23_1 := kz BK251.out 1; have hfz23_2 := kz BK251.out 2; have hcz24_0 : w22.cell? ⟨gb240, 0, none⟩ = some (.slice none 0 0) := (kc BK240.out 0).trans rfl; have hcz24_1 : w22.cell? ⟨gb240, 1, none⟩ = some (.slice none 0 0) := (kc BK240.out 1).trans rfl; have hcz24_2 : w22.cell? ⟨gb240, 2, none⟩ = some (.slice none 0 0) := (kc BK240.out 2).trans rfl; have hfz24_0 := kz BK240.out 0; have hfz24_1 := kz BK240.out 1; have hfz24_2 := kz BK240.out 2))
      refine bodyPost_ret (results_list (rs := [.cell 2 27, .tmp 3, .tmp 4, .tmp 5]) rfl (by simp) (.cell gb240 27 #[.slice Ao15 t242.length co15, .slice Ao19 t245.length co19, .slice Ao20 t248.length co20] (0, 0) _ rfl (by (with_reducible repeat (first | refine kn ?_ _ | refine kd ?_ | refine ka ?_ _)); refine blk_put (cs := #[.slice Ao15 t242.length co15, .slice Ao19 t245.length co19, .slice none 0 0]) ?_ 2 _ rfl; (with_reducible repeat (first | refine kn ?_ _ | refine kd ?_ | refine ka ?_ _)); refine blk_put (cs := #[.slice Ao15 t242.length co15, .slice none 0 0, .slice none 0 0]) ?_ 1 _ rfl; (with_reducible repeat (first | refine kn ?_ _ | refine kd ?_ | refine ka ?_ _)); refine blk_put (cs := #[.slice none 0 0, .slice none 0 0, .slice none 0 0]) ?_ 0 _ rfl; (with_reducible repeat (first | refine kn ?_ _ | refine kd ?_ | refine ka ?_ _)); exact BK240.out) Try.underlying27 rfl (by kernel_rfl) (.tmp (.tmp (.tmp .nil))))) rfl ?_
      exact ⟨_, _, _, by first | rfl | (simp [errW_none, errW_some] <;> rfl) | (simp [*, errW_none, errW_some] <;> rfl), by (with_reducible repeat (first | apply Ra | apply Rn | apply Rd)); exact Rm (Rf (p := ⟨gb240, 2, none⟩) (Rf (p := ⟨gb240, 1, none⟩) (Rf (p := ⟨gb240, 0, none⟩) (Rt HO244.out BK240.out (by decide)) (fun _ hk => hk.2) (.slice Ao15 t242.length co15)) (fun _ hk => hk.2) (.slice Ao19 t245.length co19)) (fun _ hk => hk.2) (.slice Ao20 t248.length co20)) (fun _ hk => hk.1), by (with_reducible repeat (first | apply Ra | apply Rn | apply Rd)); exact Rm (Rf (p := ⟨gb240, 2, none⟩) (Rf (p := ⟨gb240, 1, none⟩) (Rf (p := ⟨gb240, 0, none⟩) (Rt HO247.out BK240.out (by decide)) (fun _ hk => hk.2) (.slice Ao15 t242.length co15)) (fun _ hk => hk.2) (.slice Ao19 t245.length co19)) (fun _ hk => hk.2) (.slice Ao20 t248.length co20)) (fun _ hk => hk.1), by (with_reducible repeat (first | apply Ra | apply Rn | apply Rd)); exact Rm (Rf (p := ⟨gb240, 2, none⟩) (Rf (p := ⟨gb240, 1, none⟩) (Rf (p := ⟨gb240, 0, none⟩) (Rt HO250.out BK240.out (by decide)) (fun _ hk => hk.2) (.slice Ao15 t242.length co15)) (fun _ hk => hk.2) (.slice Ao19 t245.length co19)) (fun _ hk => hk.2) (.slice Ao20 t248.length co20)) (fun _ hk => trivial), by repeat (first | (with_reducible first | exact HB.out | apply ba | apply bn | apply bd | refine bs ?_ GE239.out | refine bs ?_ GE240.out | refine bs ?_ GE251.out) | exact HB.out)⟩
    · rw [if_neg c6] at H
      have c6b0 : (t252 == 0) = false := beq_eq_false_iff_ne.mpr c6
      have c6b1 : (t252 != 0) = true := bne_iff_ne.mpr c6
      obtain ⟨ji25, hji25⟩ : ∃ j_ : Int, (wrap64 (t252 - 1)) = j_ := ⟨_, rfl⟩
      replace H : (if 0 ≤ (ji25) then (if (ji25) < (t242.length : Int) then ((impl_Sigs_does.f k l0_0 l0_1 l0_2 t252).bind fun t254 => (some ((t242.set ((ji25) : Int).toNat false), t245, t248, t252, t254, true))) else (none)) else (none)) = some (r1, r2, r3, r4, r5, r6) := by first | (rw [hji25] at H; exact H) | (simp only [hji25] at H ⊢; exact H)
      (try rw [hji25] at A2)
      (try rw [hji25] at A4)
      (try rw [hji25] at A5)
      have hji25w : (IntKind.i64.wrap (t252 - 1)) = ji25 := (i64_w _).trans hji25
      by_cases c26 : 0 ≤ (ji25)
      · rw [if_pos c26] at H
        have c26b0 : decide (0 ≤ (ji25)) = true := decide_eq_true c26
        clear c26
        by_cases c27 : (ji25) < (t242.length : Int)
        · rw [if_pos c27] at H
          have c27b0 : decide ((ji25) < (t242.length : Int)) = true := decide_eq_true c27
          clear c27
          obtain ⟨y253, hy253⟩ : ∃ y_ : List Bool, y_ = (t242.set ((ji25) : Int).toNat false) := ⟨_, rfl⟩
          replace H : ((impl_Sigs_does.f k l0_0 l0_1 l0_2 t252).bind fun t254 => (some (y253, t245, t248, t252, t254, true))) = some (r1, r2, r3, r4, r5, r6) := by first | (rw [hy253]; with_reducible exact H) | (have H2_ := (Option.bind_some _ _).symm.trans H; rw [hy253]; with_reducible exact H2_) | (have H2_ := (Option.bind_some _ _).symm.trans H; with_reducible exact H2_) | with_reducible exact H | (rw [hy253]; exact H) | exact H
          have Ny253 := AM hy253
          clear hy253
          replace H := Option.bind_eq_some_iff.mp H
          obtain ⟨t254, A290, H⟩ := H
          replace H : (some (y253, t245, t248, t252, t254, true)) = some (r1, r2, r3, r4, r5, r6) := H
          have A29 := AM A290
          clear A290
          simp only [Option.some.injEq, Prod.mk.injEq] at H
          obtain ⟨rfl, rfl, rfl, rfl, rfl, rfl⟩ := H
          go_enter Try.func21, Try.ntmps21
          try go_wp2_with (first | ((with_reducible refine gd (N := 1) rfl ?_); refine xe ?hg (N := 1) ?hd (cs := #[.slice A0_0 l0_0.length c0_0, .slice A0_1 l0_1.length c0_1, .slice A0_2 l0_2.length c0_2]) (t := 27) ?hr ?_; (case hd => rfl); (case hg => rfl); (case hr => first | (go_simp; done) | (go_simp; rfl)); intro gb239 hg w30 hbox hb; have n0_ := AM (bp (lfB HB.out) hb); have n1_ := AM (hbox); have n2_ := AM ((by rw [hg]; exact (bz (lfB HB.out)) : w.heap.size ≤ gb239)); have n3_ := AM ((by rw [hg]; exact (bz (lfB HB.out)) : w.heap.size ≤ gb239)); clear HB; revert n0_ n1_ n2_ n3_; intro HB BK239 GW239 GE239; clear hb hbox hg) | ((with_reducible refine gd (N := 2) rfl ?_); refine xe ?hg (N := 2) ?hd (cs := #[.slice none 0 0, .slice none 0 0, .slice none 0 0]) (t := 27) ?hr ?_; (case hd => rfl); (case hg => rfl); (case hr => first | (go_simp; done) | (go_simp; rfl)); intro gb240 hg w31 hbox hb; have n0_ := AM (kb (g := gb239) (o := .cells #[.slice A0_0 l0_0.length c0_0, .slice A0_1 l0_1.length c0_1, .slice A0_2 l0_2.length c0_2] 27 (0, 0)) (lfK BK239.out) hb); have n1_ := AM (bp (by repeat (first | (with_reducible first | exact HB.out | apply ba | apply bn | apply bd | refine bs ?_ GE239.out) | exact HB.out)) hb); have n2_ := AM (hbox); have n3_ := AM ((by rw [hg]; exact (bz (by repeat (first | (with_reducible first | exact HB.out | apply ba | apply bn | apply bd | refine bs ?_ GE239.out) | exact HB.out))) : w.heap.size ≤ gb240)); have n4_ := AM ((by rw [hg]; exact (bz (by repeat (first | (with_reducible first | exact HB.out | apply ba | apply bn | apply bd | refine bs ?_ GE239.out) | exact HB.out))) : w.heap.size ≤ gb240)); have n5_ := AM ((by rw [hg]; exact Nat.ne_of_lt (blk_lt (g := gb239) (o := .cells #[.slice A0_0 l0_0.length c0_0, .slice A0_1 l0_1.length c0_1, .slice A0_2 l0_2.length c0_2] 27 (0, 0)) (lfK BK239.out)) : gb239 ≠ gb240)); have n6_ := AM ((by rw [hg]; exact Nat.ne_of_gt (blk_lt (g := gb239) (o := .cells #[.slice A0_0 l0_0.length c0_0, .slice A0_1 l0_1.length c0_1, .slice A0_2 l0_2.length c0_2] 27 (0, 0)) (lfK BK239.out)) : gb240 ≠ gb239)); clear BK239 HB; revert n0_ n1_ n2_ n3_ n4_ n5_ n6_; intro BK239 HB BK240 GW240 GE240 NB239_240 NB240_239; clear hb hbox hg; have hnb32 := NB239_240.out; have hnc32 := NB240_239.out; have hcz33_0 : w31.cell? ⟨gb239, 0, none⟩ = some (.slice A0_0 l0_0.length c0_0) := (kc BK239.out 0).trans rfl; have hcz33_1 : w31.cell? ⟨gb239, 1, none⟩ = some (.slice A0_1 l0_1.length c0_1) := (kc BK239.out 1).trans rfl; have hcz33_2 : w31.cell? ⟨gb239, 2, none⟩ = some (.slice A0_2 l0_2.length c0_2) := (kc BK239.out 2).trans rfl; have hfz33_0 := kz BK239.out 0; have hfz33_1 := kz BK239.out 1; have hfz33_2 := kz BK239.out 2) | ((with_reducible refine gc (f := 61) rfl ?_); refine goesL_ (some 9) rfl rfl Try.func61 (by kernel_rfl) rfl #[.agg #[.slice A0_0 l0_0.length c0_0, .slice A0_1 l0_1.length c0_1, .slice A0_2 l0_2.length c0_2]] rfl (by (try simp only [List.map_toArray, List.map_cons, List.map_nil]); first | done | rfl | (simp only [List.length_drop, List.length_take]; rfl)) ?_; (with_reducible refine (impl_SigsOk.calls k _ _ l0_0 _ _ l0_1 _ _ l0_2 true _ ?side1 ?side2 ?side3 ?side4 ?side5 ?side6 A2.out).mono ?_); (case side1 => repeat (first | exact (Cb HR0_0.out HB.out) | (with_reducible refine Ca ?_ _) | (with_reducible refine Cn ?_ _) | (with_reducible refine Cd ?_))); (case side2 => exact HC0_0.out); (case side3 => repeat (first | exact (Cb HR0_1.out HB.out) | (with_reducible refine Ca ?_ _) | (with_reducible refine Cn ?_ _) | (with_reducible refine Cd ?_))); (case side4 => exact HC0_1.out); (case side5 => repeat (first | exact (Cb HR0_2.out HB.out) | (with_reducible refine Ca ?_ _) | (with_reducible refine Cn ?_ _) | (with_reducible refine Cd ?_))); (case side6 => exact HC0_2.out); rintro e w34 ⟨rfl, hb⟩; refine ⟨_, rfl, ?_⟩; have n0_ := AM (kb (g := gb239) (o := .cells #[.slice A0_0 l0_0.length c0_0, .slice A0_1 l0_1.length c0_1, .slice A0_2 l0_2.length c0_2] 27 (0, 0)) (lfK BK239.out) hb); have n1_ := AM (kb (g := gb240) (o := .cells #[.slice none 0 0, .slice none 0 0, .slice none 0 0] 27 (0, 0)) (lfK BK240.out) hb); have n2_ := AM (bp (by repeat (first | (with_reducible first | exact HB.out | apply ba | apply bn | apply bd | refine bs ?_ GE239.out | refine bs ?_ GE240.out) | exact HB.out)) hb); clear BK239 BK240 HB; revert n0_ n1_ n2_; intro BK239 BK240 HB; (try clear hb); have hcz35_0 : w34.cell? ⟨gb239, 0, none⟩ = some (.slice A0_0 l0_0.length c0_0) := (kc BK239.out 0).trans rfl; have hcz35_1 : w34.cell? ⟨gb239, 1, none⟩ = some (.slice A0_1 l0_1.length c0_1) := (kc BK239.out 1).trans rfl; have hcz35_2 : w34.cell? ⟨gb239, 2, none⟩ = some (.slice A0_2 l0_2.length c0_2) := (kc BK239.out 2).trans rfl; have hfz35_0 := kz BK239.out 0; have hfz35_1 := kz BK239.out 1; have hfz35_2 := kz BK239.out 2) | ((with_reducible refine gc (f := 63) rfl ?_); refine goesL_ (some 13) rfl rfl Try.func63 (by kernel_rfl) rfl #[.agg #[.slice A0_0 l0_0.length c0_0, .slice A0_1 l0_1.length c0_1, .slice A0_2 l0_2.length c0_2]] rfl (by (try simp only [List.map_toArray, List.map_cons, List.map_nil]); first | done | rfl | (simp only [List.length_drop, List.length_take]; rfl)) ?_; (with_reducible refine (impl_Sigs_clone.calls _ _ l0_0 _ _ l0_1 _ _ l0_2 t242 t245 t248 _ ?side1 ?side2 ?side3 ?side4 ?side5 ?side6 A4.out).mono ?_); (case side1 => repeat (first | exact (Cb HR0_0.out HB.out) | (with_reducible refine Ca ?_ _) | (with_reducible refine Cn ?_ _) | (with_reducible refine Cd ?_))); (case side2 => exact HC0_0.out); (case side3 => repeat (first | exact (Cb HR0_1.out HB.out) | (with_reducible refine Ca ?_ _) | (with_reducible refine Cn ?_ _) | (with_reducible refine Cd ?_))); (case side4 => exact HC0_1.out); (case side5 => repeat (first | exact (Cb HR0_2.out HB.out) | (with_reducible refine Ca ?_ _) | (with_reducible refine Cn ?_ _) | (with_reducible refine Cd ?_))); (case side6 => exact HC0_2.out); rintro e w36 ⟨v243, v246, v249, rfl, ho0, ho1, ho2, hb⟩; refine ⟨_, rfl, ?_⟩; have n0_ := AM (Rl ho0 (bz (by repeat (first | (with_reducible first | exact HB.out | apply ba | apply bn | apply bd | refine bs ?_ GE239.out | refine bs ?_ GE240.out) | exact HB.out)))); have n1_ := AM (Rl ho1 (bz (by repeat (first | (with_reducible first | exact HB.out | apply ba | apply bn | apply bd | refine bs ?_ GE239.out | refine bs ?_ GE240.out) | exact HB.out)))); have n2_ := AM (Rl ho2 (bz (by repeat (first | (with_reducible first | exact HB.out | apply ba | apply bn | apply bd | refine bs ?_ GE239.out | refine bs ?_ GE240.out) | exact HB.out)))); have n3_ := AM (kb (g := gb239) (o := .cells #[.slice A0_0 l0_0.length c0_0, .slice A0_1 l0_1.length c0_1, .slice A0_2 l0_2.length c0_2] 27 (0, 0)) (lfK BK239.out) hb); have n4_ := AM (kb (g := gb240) (o := .cells #[.slice none 0 0, .slice none 0 0, .slice none 0 0] 27 (0, 0)) (lfK BK240.out) hb); have n5_ := AM (bp (by repeat (first | (with_reducible first | exact HB.out | apply ba | apply bn | apply bd | refine bs ?_ GE239.out | refine bs ?_ GE240.out) | exact HB.out)) hb); clear BK239 BK240 HB; revert n0_ n1_ n2_ n3_ n4_ n5_; intro HO244 HO247 HO250 BK239 BK240 HB; (try clear hb ho0 ho1 ho2)) | ((with_reducible refine gd (N := 6) rfl ?_); refine xe ?hg (N := 6) ?hd (cs := #[.slice none 0 0, .slice none 0 0, .slice none 0 0]) (t := 27) ?hr ?_; (case hd => rfl); (case hg => rfl); (case hr => first | (go_simp; done) | (go_simp; rfl)); intro gb251 hg w37 hbox hb; have n0_ := AM (Rb (lfR HO244.out) hb); have n1_ := AM (Rb (lfR HO247.out) hb); have n2_ := AM (Rb (lfR HO250.out) hb); have n3_ := AM (kb (g := gb239) (o := .cells #[.slice A0_0 l0_0.length c0_0, .slice A0_1 l0_1.length c0_1, .slice A0_2 l0_2.length c0_2] 27 (0, 0)) (lfK BK239.out) hb); have n4_ := AM (kb (g := gb240) (o := .cells #[.slice none 0 0, .slice none 0 0, .slice none 0 0] 27 (0, 0)) (lfK BK240.out) hb); have n5_ := AM (bp (by repeat (first | (with_reducible first | exact HB.out | apply ba | apply bn | apply bd | refine bs ?_ GE239.out | refine bs ?_ GE240.out) | exact HB.out)) hb); have n6_ := AM (hbox); have n7_ := AM ((by rw [hg]; exact (bz (by repeat (first | (with_reducible first | exact HB.out | apply ba | apply bn | apply bd | refine bs ?_ GE239.out | refine bs ?_ GE240.out) | exact HB.out))) : w.heap.size ≤ gb251)); have n8_ := AM ((by rw [hg]; exact (bz (by repeat (first | (with_reducible first | exact HB.out | apply ba | apply bn | apply bd | refine bs ?_ GE239.out | refine bs ?_ GE240.out) | exact HB.out))) : w.heap.size ≤ gb251)); have n9_ := AM ((by rw [hg]; exact Nat.ne_of_lt (blk_lt (g := gb239) (o := .cells #[.slice A0_0 l0_0.length c0_0, .slice A0_1 l0_1.length c0_1, .slice A0_2 l0_2.length c0_2] 27 (0, 0)) (lfK BK239.out)) : gb239 ≠ gb251)); have n10_ := AM ((by rw [hg]; exact Nat.ne_of_gt (blk_lt (g := gb239) (o := .cells #[.slice A0_0 l0_0.length c0_0, .slice A0_1 l0_1.length c0_1, .slice A0_2 l0_2.length c0_2] 27 (0, 0)) (lfK BK239.out)) : gb251 ≠ gb239)); have n11_ := AM ((by rw [hg]; exact Nat.ne_of_lt (blk_lt (g := gb240) (o := .cells #[.slice none 0 0, .slice none 0 0, .slice none 0 0] 27 (0, 0)) (lfK BK240.out)) : gb240 ≠ gb251)); have n12_ := AM ((by rw [hg]; exact Nat.ne_of_gt (blk_lt (g := gb240) (o := .cells #[.slice none 0 0, .slice none 0 0, .slice none 0 0] 27 (0, 0)) (lfK BK240.out)) : gb251 ≠ gb240)); clear HO244 HO247 HO250 BK239 BK240 HB; revert n0_ n1_ n2_ n3_ n4_ n5_ n6_ n7_ n8_ n9_ n10_ n11_ n12_; intro HO244 HO247 HO250 BK239 BK240 HB BK251 GW251 GE251 NB239_251 NB251_239 NB240_251 NB251_240; clear hb hbox hg; obtain ⟨Ao38, co38, eo38⟩ := Ri HO244.out; subst eo38; have hnb39 := NB251_239.out; have hnc39 := NB239_251.out; have hnb40 := NB251_240.out; have hnc40 := NB240_251.out; have hcz41_0 : w37.cell? ⟨gb251, 0, none⟩ = some (.slice none 0 0) := (kc BK251.out 0).trans rfl; have hcz41_1 : w37.cell? ⟨gb251, 1, none⟩ = some (.slice none 0 0) := (kc BK251.out 1).trans rfl; have hcz41_2 : w37.cell? ⟨gb251, 2, none⟩ = some (.slice none 0 0) := (kc BK251.out 2).trans rfl; have hfz41_0 := kz BK251.out 0; have hfz41_1 := kz BK251.out 1; have hfz41_2 := kz BK251.out 2; obtain ⟨Ao42, co42, eo42⟩ := Ri HO247.out; subst eo42; obtain ⟨Ao43, co43, eo43⟩ := Ri HO250.out; subst eo43; have hcz44_0 : w37.cell? ⟨gb239, 0, none⟩ = some (.slice A0_0 l0_0.length c0_0) := (kc BK239.out 0).trans rfl; have hcz44_1 : w37.cell? ⟨gb239, 1, none⟩ = some (.slice A0_1 l0_1.length c0_1) := (kc BK239.out 1).trans rfl; have hcz44_2 : w37.cell? ⟨gb239, 2, none⟩ = some (.slice A0_2 l0_2.length c0_2) := (kc BK239.out 2).trans rfl; have hfz44_0 := kz BK239.out 0; have hfz44_1 := kz BK239.out 1; have hfz44_2 := kz BK239.out 2) | ((with_reducible refine gc (f := 71) rfl ?_); refine goesL_ (some 15) rfl rfl Try.func71 (by kernel_rfl) rfl #[.agg #[.slice A0_0 l0_0.length c0_0, .slice A0_1 l0_1.length c0_1, .slice A0_2 l0_2.length c0_2], .func (.func 72) #[] #[]] rfl (by (try simp only [List.map_toArray, List.map_cons, List.map_nil]); first | done | rfl | (simp only [List.length_drop, List.length_take]; rfl)) ?_; (with_reducible refine (impl_Sigs_first.calls k _ _ l0_0 _ _ l0_1 _ _ l0_2 t252 _ ?side1 ?side2 ?side3 ?side4 ?side5 ?side6 A5.out).mono ?_); (case side1 => exact Cb HR0_0.out (by repeat (first | (with_reducible first | exact HB.out | apply ba | apply bn | apply bd | refine bs ?_ GE239.out | refine bs ?_ GE240.out | refine bs ?_ GE251.out) | exact HB.out))); (case side2 => exact HC0_0.out); (case side3 => exact Cb HR0_1.out (by repeat (first | (with_reducible first | exact HB.out | apply ba | apply bn | apply bd | refine bs ?_ GE239.out | refine bs ?_ GE240.out | refine bs ?_ GE251.out) | exact HB.out))); (case side4 => exact HC0_1.out); (case side5 => exact Cb HR0_2.out (by repeat (first | (with_reducible first | exact HB.out | apply ba | apply bn | apply bd | refine bs ?_ GE239.out | refine bs ?_ GE240.out | refine bs ?_ GE251.out) | exact HB.out))); (case side6 => exact HC0_2.out); rintro e w45 ⟨rfl, hb⟩; refine ⟨_, rfl, ?_⟩; have n0_ := AM (Rb (by (with_reducible repeat (first | apply Ra | apply Rn | apply Rd)); exact (Rm (Rf (p := ⟨gb251, 2, none⟩) (Rf (p := ⟨gb251, 1, none⟩) (Rf (p := ⟨gb251, 0, none⟩) (Rt HO244.out BK251.out (by decide)) (fun _ hk => hk.2) (.slice Ao38 t242.length co38)) (fun _ hk => hk.2) (.slice Ao42 t245.length co42)) (fun _ hk => hk.2) (.slice Ao43 t248.length co43)) (fun _ h_ => h_.1))) hb); have n1_ := AM (Rb (by (with_reducible repeat (first | apply Ra | apply Rn | apply Rd)); exact (Rm (Rf (p := ⟨gb251, 2, none⟩) (Rf (p := ⟨gb251, 1, none⟩) (Rf (p := ⟨gb251, 0, none⟩) (Rt HO247.out BK251.out (by decide)) (fun _ hk => hk.2) (.slice Ao38 t242.length co38)) (fun _ hk => hk.2) (.slice Ao42 t245.length co42)) (fun _ hk => hk.2) (.slice Ao43 t248.length co43)) (fun _ h_ => h_.1))) hb); have n2_ := AM (Rb (by (with_reducible repeat (first | apply Ra | apply Rn | apply Rd)); exact (Rm (Rf (p := ⟨gb251, 2, none⟩) (Rf (p := ⟨gb251, 1, none⟩) (Rf (p := ⟨gb251, 0, none⟩) (Rt HO250.out BK251.out (by decide)) (fun _ hk => hk.2) (.slice Ao38 t242.length co38)) (fun _ hk => hk.2) (.slice Ao42 t245.length co42)) (fun _ hk => hk.2) (.slice Ao43 t248.length co43)) (fun _ h_ => h_.1))) hb); have n3_ := AM (kb (g := gb239) (o := .cells #[.slice A0_0 l0_0.length c0_0, .slice A0_1 l0_1.length c0_1, .slice A0_2 l0_2.length c0_2] 27 (0, 0)) (by (with_reducible repeat (first | refine kn ?_ _ | refine kd ?_ | refine ka ?_ _)); refine kf ?_ NB239_251.out _; (with_reducible repeat (first | refine kn ?_ _ | refine kd ?_ | refine ka ?_ _)); refine kf ?_ NB239_251.out _; (with_reducible repeat (first | refine kn ?_ _ | refine kd ?_ | refine ka ?_ _)); refine kf ?_ NB239_251.out _; (with_reducible repeat (first | refine kn ?_ _ | refine kd ?_ | refine ka ?_ _)); exact BK239.out) hb); have n4_ := AM (kb (g := gb240) (o := .cells #[.slice none 0 0, .slice none 0 0, .slice none 0 0] 27 (0, 0)) (by (with_reducible repeat (first | refine kn ?_ _ | refine kd ?_ | refine ka ?_ _)); refine kf ?_ NB240_251.out _; (with_reducible repeat (first | refine kn ?_ _ | refine kd ?_ | refine ka ?_ _)); refine kf ?_ NB240_251.out _; (with_reducible repeat (first | refine kn ?_ _ | refine kd ?_ | refine ka ?_ _)); refine kf ?_ NB240_251.out _; (with_reducible repeat (first | refine kn ?_ _ | refine kd ?_ | refine ka ?_ _)); exact BK240.out) hb); have n5_ := AM (kb (g := gb251) (o := .cells #[.slice Ao38 t242.length co38, .slice Ao42 t245.length co42, .slice Ao43 t248.length co43] 27 (0, 0)) (by (with_reducible repeat (first | refine kn ?_ _ | refine kd ?_ | refine ka ?_ _)); refine blk_put (cs := #[.slice Ao38 t242.length co38, .slice Ao42 t245.length co42, .slice none 0 0]) ?_ 2 _ rfl; (with_reducible repeat (first | refine kn ?_ _ | refine kd ?_ | refine ka ?_ _)); refine blk_put (cs := #[.slice Ao38 t242.length co38, .slice none 0 0, .slice none 0 0]) ?_ 1 _ rfl; (with_reducible repeat (first | refine kn ?_ _ | refine kd ?_ | refine ka ?_ _)); refine blk_put (cs := #[.slice none 0 0, .slice none 0 0, .slice none 0 0]) ?_ 0 _ rfl; (with_reducible repeat (first | refine kn ?_ _ | refine kd ?_ | refine ka ?_ _)); exact BK251.out) hb); have n6_ := AM (bp (by repeat (first | (with_reducible first | exact HB.out | apply ba | apply bn | apply bd | refine bs ?_ GE239.out | refine bs ?_ GE240.out | refine bs ?_ GE251.out) | exact HB.out)) hb); clear HO244 HO247 HO250 BK239 BK240 BK251 HB; revert n0_ n1_ n2_ n3_ n4_ n5_ n6_; intro HO244 HO247 HO250 BK239 BK240 BK251 HB; (try clear hb hk); have hcz46_0 : w45.cell? ⟨gb251, 0, none⟩ = some (.slice Ao38 t242.length co38) := (kc BK251.out 0).trans rfl; have hcz46_1 : w45.cell? ⟨gb251, 1, none⟩ = some (.slice Ao42 t245.length co42) := (kc BK251.out 1).trans rfl; have hcz46_2 : w45.cell? ⟨gb251, 2, none⟩ = some (.slice Ao43 t248.length co43) := (kc BK251.out 2).trans rfl; have hfz46_0 := kz BK251.out 0; have hfz46_1 := kz BK251.out 1; have hfz46_2 := kz BK251.out 2; have p28 : 0 ≤ ((ji25) : Int) := of_decide_eq_true (by first | (with_reducible assumption) | assumption); have q28 : ((ji25) : Int) < ((t242.length : Int) : Int) := of_decide_eq_true (by first | (with_reducible assumption) | assumption); obtain ⟨go28, co28, eo28, gb28, gl28, cl28, HG28⟩ := Kd.R_form HO244.out (by omega); (first | cases eo28 | (injection eo28 with ea_ en_ ec_; (first | subst ea_ | (injection ea_ with ea_; subst ea_)); subst ec_; clear en_)); have GB28 := AM gb28; have GG28 := AM HG28; clear gb28 gl28 HG28; obtain ⟨hx28_0, hf28_0⟩ := Kd.R_celln false HO244.out ((ji25) : Int) p28 q28; replace p28 := eq_true p28; replace q28 := eq_true q28; obtain ⟨hy47_, hz47_⟩ := Kd.R_celln false HO244.out ((ji25) : Int) (of_decide_eq_true (by first | (with_reducible assumption) | assumption)) (of_decide_eq_true (by first | (with_reducible assumption) | assumption)); have HP47 := Kd.R_putg HO244.out ((ji25) : Int) false) | ((with_reducible refine gs (t := 4) (p := 23) rfl ?_); refine se (t := 4) (p := 23) (v := ?vo_w48) (w1 := (w45.setCell ⟨go28, ((ji25) : Int).toNat, none⟩ (.bool false))) ?hg ?ho ?hn ?hr ?_; (case ho => rfl); (case hg => rfl); (case hn => rfl); (case hr => first | (go_simp; done) | (go_simp; rfl)); intro w48 hw; have hg : w45.grownBy w48 (some go28) := (by rw [hw]; exact HP47.2); have hp_ : Kd.R Kd.bool 4 w48 w.heap.size (fun k_ => some k_ ≠ (.slice Ao42 t245.length co42 : Value).ownBlock) (.slice (some ⟨go28, 0, none⟩) t242.length co38) y253 := (by rw [hw, Ny253.out]; exact HP47.1); clear HP47; have n0_ := AM (blk_grown (g := gb239) (o := .cells #[.slice A0_0 l0_0.length c0_0, .slice A0_1 l0_1.length c0_1, .slice A0_2 l0_2.length c0_2] 27 (0, 0)) (lfK BK239.out) hg (Kd.R_ne HO244.out BK239.out (by decide))); have n1_ := AM (blk_grown (g := gb240) (o := .cells #[.slice none 0 0, .slice none 0 0, .slice none 0 0] 27 (0, 0)) (lfK BK240.out) hg (Kd.R_ne HO244.out BK240.out (by decide))); have n2_ := AM (hp_); have n3_ := AM (Kd.R_after (v := (.slice (some ⟨go28, 0, none⟩) t242.length co38)) (v1 := (.slice (some ⟨go28, 0, none⟩) t242.length co38)) (ok := (fun _ => True)) (by (with_reducible repeat (first | apply Ra | apply Rn | apply Rd)); exact Rm HO247.out (fun _ hk => ⟨trivial, hk⟩)) hg (.inl rfl)); have n4_ := AM (Kd.R_over' (v := (.slice (some ⟨go28, 0, none⟩) t242.length co38)) (lfR HO250.out) (Kd.R_typed HO244.out) (by decide) hg); have n5_ := AM (blk_grown (g := gb251) (o := .cells #[.slice (some ⟨go28, 0, none⟩) t242.length co38, .slice Ao42 t245.length co42, .slice Ao43 t248.length co43] 27 (0, 0)) (lfK BK251.out) hg (Kd.R_ne HO244.out BK251.out (by decide))); have n6_ := AM ((by rw [hw]; exact bs (HB.out) GB28.out : Below w.heap.size w w48)); clear BK239 BK240 HO244 HO247 HO250 BK251 HB; revert n0_ n1_ n2_ n3_ n4_ n5_ n6_; intro BK239 BK240 HO244 HO247 HO250 BK251 HB; clear hg hw hp_))
          have n0_ := AM (Rd HO244.out)
          have n1_ := AM (Rd HO247.out)
          have n2_ := AM (Rd HO250.out)
          have n3_ := AM (kd BK239.out)
          have n4_ := AM (kd BK240.out)
          have n5_ := AM (kd BK251.out)
          have n6_ := AM (bd HB.out)
          clear HO244 HO247 HO250 BK239 BK240 BK251 HB
          revert n0_ n1_ n2_ n3_ n4_ n5_ n6_
          intro HO244 HO247 HO250 BK239 BK240 BK251 HB
          refine start_ (n := 9) (S := fun w' => w'.cell? ⟨gb251, 0, none⟩ = some (.slice (some ⟨go28, 0, none⟩) t242.length co38) ∧ w'.cell? ⟨gb251, 1, none⟩ = some (.slice Ao42 t245.length co42) ∧ w'.cell? ⟨gb251, 2, none⟩ = some (.slice Ao43 t248.length co43) ∧ w'.cell? ⟨gb239, 0, none⟩ = some (.slice A0_0 l0_0.length c0_0) ∧ w'.cell? ⟨gb239, 1, none⟩ = some (.slice A0_1 l0_1.length c0_1) ∧ w'.cell? ⟨gb239, 2, none⟩ = some (.slice A0_2 l0_2.length c0_2)) (ds := []) (mB 9 0x0) (by kernel_rfl) rfl rfl ⟨(kc BK251.out 0).trans rfl, (kc BK251.out 1).trans rfl, (kc BK251.out 2).trans rfl, (kc BK239.out 0).trans rfl, (kc BK239.out 1).trans rfl, (kc BK239.out 2).trans rfl⟩ (fun hHeld => ?_); refine with_tabW impl_SigsNext.tab8 impl_SigsNext.bits8 (fun HT_ HW_ => ?_)
          generalize w48.drew = w49 at HO244 HO247 HO250 BK239 BK240 BK251 HB hHeld ⊢
          refine plan_ 9 [(1, 25, 0x2), (3, 27, 0xa)] ?_; (iterate 2 (refine puP (v := ?_) (a' := ?_) rfl rfl HT_.out (he := ?_) (ha := ?_) (h := ?_); rotate_left; (focus intro w'; go_simp; with_reducible rfl); rotate_left; (focus simp only [Act.put, sA, sZ, sS, i64_w, i32_w]; rfl))); refine planE ?_
          refine take_ (i := 0) (N := some 24) (v := ?_) (a' := ?_) (mB 9 0xb) rfl rfl (take_ofW HT_.out HW_.out (by kernel_rfl)) (fun _ _ _ h => h) (Or.inl ⟨by rfl, ?_⟩) hHeld ?_ ?_
          rotate_left
          · rintro w' ⟨s0, s1, s2, s3, s4, s5⟩; go_simp; with_reducible rfl
          rotate_left
          · simp only [Act.put, sA, sZ, sS, i64_w, i32_w]; rfl
          refine take_ (i := 2) (N := some 26) (v := ?_) (a' := ?_) (mB 9 0xf) rfl rfl (take_ofW HT_.out HW_.out (by kernel_rfl)) (fun _ _ _ h => h) (Or.inl ⟨by rfl, ?_⟩) hHeld ?_ ?_
          rotate_left
          · rintro w' ⟨s0, s1, s2, s3, s4, s5⟩; go_simp; with_reducible rfl
          rotate_left
          · simp only [Act.put, sA, sZ, sS, i64_w, i32_w]; rfl
          refine one_ (i := 4) (N := some 28) (mB 9 0x1f) rfl rfl (one_of HT_.out (by kernel_rfl)) (by decide) (fun K hK => ?_)
          refine goes_ Try.func64 (by kernel_rfl) rfl #[.agg #[.slice A0_0 l0_0.length c0_0, .slice A0_1 l0_1.length c0_1, .slice A0_2 l0_2.length c0_2], .int .i64 t252] (by rfl) rfl rfl (by (try simp only [List.map_toArray, List.map_cons, List.map_nil]); first | done | rfl | (simp only [List.length_drop, List.length_take]; rfl)) ?_
          with_reducible refine (impl_Sigs_does.calls k _ _ l0_0 _ _ l0_1 _ _ l0_2 t252 t254 _ ?side1 ?side2 ?side3 ?side4 ?side5 ?side6 A29.out).mono ?_
          (case side1 => repeat (first | exact (Cb HR0_0.out HB.out) | (with_reducible refine Ca ?_ _) | (with_reducible refine Cn ?_ _) | (with_reducible refine Cd ?_)))
          (case side2 => exact HC0_0.out)
          (case side3 => repeat (first | exact (Cb HR0_1.out HB.out) | (with_reducible refine Ca ?_ _) | (with_reducible refine Cn ?_ _) | (with_reducible refine Cd ?_)))
          (case side4 => exact HC0_1.out)
          (case side5 => repeat (first | exact (Cb HR0_2.out HB.out) | (with_reducible refine Ca ?_ _) | (with_reducible refine Cn ?_ _) | (with_reducible refine Cd ?_)))
          (case side6 => exact HC0_2.out)
          rintro e w50 ⟨rfl, hb⟩
          refine ⟨_, rfl, ?_⟩
          have n0_ := AM (Rb (lfR HO244.out) hb)
          have n1_ := AM (Rb (lfR HO247.out) hb)
          have n2_ := AM (Rb (lfR HO250.out) hb)
          have n3_ := AM (kb (g := gb239) (o := .cells #[.slice A0_0 l0_0.length c0_0, .slice A0_1 l0_1.length c0_1, .slice A0_2 l0_2.length c0_2] 27 (0, 0)) (lfK BK239.out) hb)
          have n4_ := AM (kb (g := gb240) (o := .cells #[.slice none 0 0, .slice none 0 0, .slice none 0 0] 27 (0, 0)) (lfK BK240.out) hb)
          have n5_ := AM (kb (g := gb251) (o := .cells #[.slice (some ⟨go28, 0, none⟩) t242.length co38, .slice Ao42 t245.length co42, .slice Ao43 t248.length co43] 27 (0, 0)) (lfK BK251.out) hb)
          have n6_ := AM (bp (by repeat (first | (with_reducible first | exact HB.out | apply ba | apply bn | apply bd | refine bs ?_ GE239.out | refine bs ?_ GE240.out | refine bs ?_ GE251.out) | exact HB.out)) hb)
          clear HO244 HO247 HO250 BK239 BK240 BK251 HB
          revert n0_ n1_ n2_ n3_ n4_ n5_ n6_
          intro HO244 HO247 HO250 BK239 BK240 BK251 HB
          (try clear hb)
          (try clear hb2)
          (try clear hk)
          (try clear hi)
          refine hK.out _ _ ⟨(kc BK251.out 0).trans rfl, (kc BK251.out 1).trans rfl, (kc BK251.out 2).trans rfl, (kc BK239.out 0).trans rfl, (kc BK239.out 1).trans rfl, (kc BK239.out 2).trans rfl⟩ (fun hHeld => ?_)
          clear hK K
          refine norm_ (a' := ?_) ?_ ?_
          rotate_left
          · show Act.put _ (some 28) _ = _
            simp only [Act.put, sA, sZ, sS, i64_w, i32_w]
            rfl
          refine one_ (i := 5) (N := none) (mB 9 0x3f) rfl rfl (one_of HT_.out (by kernel_rfl)) (by decide) (fun K hK => ?_)
          have hs51 : w50.cell? ⟨gb240, 0, none⟩ = some (.slice none 0 0) := (kc BK240.out 0).trans rfl
          have hfs51 := kz BK240.out 0
          have hns51_0 := NB239_240.out
          have hns51_2 := NB251_240.out
          have hms51_0 := NB240_239.out
          have hms51_2 := NB240_251.out
          have hs52 : w50.cell? ⟨gb240, 1, none⟩ = some (.slice none 0 0) := (kc BK240.out 1).trans rfl
          have hfs52 := kz BK240.out 1
          have hns52_0 := NB239_240.out
          have hns52_2 := NB251_240.out
          have hms52_0 := NB240_239.out
          have hms52_2 := NB240_251.out
          have hs53 : w50.cell? ⟨gb240, 2, none⟩ = some (.slice none 0 0) := (kc BK240.out 2).trans rfl
          have hfs53 := kz BK240.out 2
          have hns53_0 := NB239_240.out
          have hns53_2 := NB251_240.out
          have hms53_0 := NB240_239.out
          have hms53_2 := NB240_251.out
          refine skip_ (w1 := ?_) (by rfl) rfl ?_ ?_
          rotate_left
          · go_simp
            rfl
          refine hK.out _ _ ⟨((cell_far (p := ⟨gb240, _, none⟩) NB251_240.out _).trans (((cell_far (p := ⟨gb240, _, none⟩) NB251_240.out _).trans (((cell_far (p := ⟨gb240, _, none⟩) NB251_240.out _).trans (hHeld.1)))))), ((cell_far (p := ⟨gb240, _, none⟩) NB251_240.out _).trans (((cell_far (p := ⟨gb240, _, none⟩) NB251_240.out _).trans (((cell_far (p := ⟨gb240, _, none⟩) NB251_240.out _).trans (hHeld.2.1)))))), ((cell_far (p := ⟨gb240, _, none⟩) NB251_240.out _).trans (((cell_far (p := ⟨gb240, _, none⟩) NB251_240.out _).trans (((cell_far (p := ⟨gb240, _, none⟩) NB251_240.out _).trans (hHeld.2.2.1)))))), ((cell_far (p := ⟨gb240, _, none⟩) NB239_240.out _).trans (((cell_far (p := ⟨gb240, _, none⟩) NB239_240.out _).trans (((cell_far (p := ⟨gb240, _, none⟩) NB239_240.out _).trans (hHeld.2.2.2.1)))))), ((cell_far (p := ⟨gb240, _, none⟩) NB239_240.out _).trans (((cell_far (p := ⟨gb240, _, none⟩) NB239_240.out _).trans (((cell_far (p := ⟨gb240, _, none⟩) NB239_240.out _).trans (hHeld.2.2.2.2.1)))))), ((cell_far (p := ⟨gb240, _, none⟩) NB239_240.out _).trans (((cell_far (p := ⟨gb240, _, none⟩) NB239_240.out _).trans (((cell_far (p := ⟨gb240, _, none⟩) NB239_240.out _).trans (hHeld.2.2.2.2.2))))))⟩ (fun hHeld => ?_)
          clear hK K
          refine plan_ 9 [(6, 3, 0x7f), (7, 4, 0xff), (8, 5, 0x1ff)] ?_; (iterate 3 (refine puP (v := ?_) (a' := ?_) rfl rfl HT_.out (he := ?_) (ha := ?_) (h := ?_); rotate_left; (focus intro w'; go_simp; with_reducible rfl); rotate_left; (focus simp only [Act.put, sA, sZ, sS, i64_w, i32_w]; rfl))); refine planE ?_
          refine done_ (done_of HT_.out (by kernel_rfl)) ?_
          try go_wp2
          refine bodyPost_ret (results_list (rs := [.cell 2 27, .tmp 3, .tmp 4, .tmp 5]) rfl (by simp) (.cell gb240 27 #[.slice (some ⟨go28, 0, none⟩) t242.length co38, .slice Ao42 t245.length co42, .slice Ao43 t248.length co43] (0, 0) _ rfl (by (with_reducible repeat (first | refine kn ?_ _ | refine kd ?_ | refine ka ?_ _)); refine blk_put (cs := #[.slice (some ⟨go28, 0, none⟩) t242.length co38, .slice Ao42 t245.length co42, .slice none 0 0]) ?_ 2 _ rfl; (with_reducible repeat (first | refine kn ?_ _ | refine kd ?_ | refine ka ?_ _)); refine blk_put (cs := #[.slice (some ⟨go28, 0, none⟩) t242.length co38, .slice none 0 0, .slice none 0 0]) ?_ 1 _ rfl; (with_reducible repeat (first | refine kn ?_ _ | refine kd ?_ | refine ka ?_ _)); refine blk_put (cs := #[.slice none 0 0, .slice none 0 0, .slice none 0 0]) ?_ 0 _ rfl; (with_reducible repeat (first | refine kn ?_ _ | refine kd ?_ | refine ka ?_ _)); exact BK240.out) Try.underlying27 rfl (by kernel_rfl) (.tmp (.tmp (.tmp .nil))))) rfl ?_
          exact ⟨_, _, _, by first | rfl | (simp [errW_none, errW_some] <;> rfl) | (simp only [← hji25]; first | rfl | (simp [errW_none, errW_some] <;> rfl)) | (simp [*, errW_none, errW_some] <;> rfl), by (with_reducible repeat (first | apply Ra | apply Rn | apply Rd)); exact Rm (Rf (p := ⟨gb240, 2, none⟩) (Rf (p := ⟨gb240, 1, none⟩) (Rf (p := ⟨gb240, 0, none⟩) (Rt HO244.out BK240.out (by decide)) (fun _ hk => hk.2) (.slice (some ⟨go28, 0, none⟩) t242.length co38)) (fun _ hk => hk.2) (.slice Ao42 t245.length co42)) (fun _ hk => hk.2) (.slice Ao43 t248.length co43)) (fun _ hk => hk.1), by (with_reducible repeat (first | apply Ra | apply Rn | apply Rd)); exact Rm (Rf (p := ⟨gb240, 2, none⟩) (Rf (p := ⟨gb240, 1, none⟩) (Rf (p := ⟨gb240, 0, none⟩) (Rt HO247.out BK240.out (by decide)) (fun _ hk => hk.2) (.slice (some ⟨go28, 0, none⟩) t242.length co38)) (fun _ hk => hk.2) (.slice Ao42 t245.length co42)) (fun _ hk => hk.2) (.slice Ao43 t248.length co43)) (fun _ hk => hk.1.2), by (with_reducible repeat (first | apply Ra | apply Rn | apply Rd)); exact Rm (Rf (p := ⟨gb240, 2, none⟩) (Rf (p := ⟨gb240, 1, none⟩) (Rf (p := ⟨gb240, 0, none⟩) (Rt HO250.out BK240.out (by decide)) (fun _ hk => hk.2) (.slice (some ⟨go28, 0, none⟩) t242.length co38)) (fun _ hk => hk.2) (.slice Ao42 t245.length co42)) (fun _ hk => hk.2) (.slice Ao43 t248.length co43)) (fun _ hk => trivial), by repeat (first | (with_reducible first | exact HB.out | apply ba | apply bn | apply bd | refine bs ?_ GE239.out | refine bs ?_ GE240.out | refine bs ?_ GE251.out) | exact HB.out)⟩
        · rw [if_neg c27] at H
          exact absurd H (by simp)
      · rw [if_neg c26] at H
        exact absurd H (by simp)
  · replace c3 := Bool.eq_false_iff.mpr c3
    subst c3
    have H1 : (some (([] : List Bool), ([] : List Bool), ([] : List Int), 0, 1, false)) = some (r1, r2, r3, r4, r5, r6) := by rw [if_neg (show ¬ (false = true) by decide)] at H; exact H
    clear H
    have H := H1
    clear H1
    simp only [Option.some.injEq, Prod.mk.injEq] at H
    obtain ⟨rfl, rfl, rfl, rfl, rfl, rfl⟩ := H
    go_enter Try.func21, Try.ntmps21
    go_wp2_with (first | ((with_reducible refine gd (N := 1) rfl ?_); refine xe ?hg (N := 1) ?hd (cs := #[.slice A0_0 l0_0.length c0_0, .slice A0_1 l0_1.length c0_1, .slice A0_2 l0_2.length c0_2]) (t := 27) ?hr ?_; (case hd => rfl); (case hg => rfl); (case hr => first | (go_simp; done) | (go_simp; rfl)); intro gb239 hg w54 hbox hb; have n0_ := AM (bp (lfB HB.out) hb); have n1_ := AM (hbox); have n2_ := AM ((by rw [hg]; exact (bz (lfB HB.out)) : w.heap.size ≤ gb239)); have n3_ := AM ((by rw [hg]; exact (bz (lfB HB.out)) : w.heap.size ≤ gb239)); clear HB; revert n0_ n1_ n2_ n3_; intro HB BK239 GW239 GE239; clear hb hbox hg) | ((with_reducible refine gd (N := 2) rfl ?_); refine xe ?hg (N := 2) ?hd (cs := #[.slice none 0 0, .slice none 0 0, .slice none 0 0]) (t := 27) ?hr ?_; (case hd => rfl); (case hg => rfl); (case hr => first | (go_simp; done) | (go_simp; rfl)); intro gb240 hg w55 hbox hb; have n0_ := AM (kb (g := gb239) (o := .cells #[.slice A0_0 l0_0.length c0_0, .slice A0_1 l0_1.length c0_1, .slice A0_2 l0_2.length c0_2] 27 (0, 0)) (lfK BK239.out) hb); have n1_ := AM (bp (by repeat (first | (with_reducible first | exact HB.out | apply ba | apply bn | apply bd | refine bs ?_ GE239.out) | exact HB.out)) hb); have n2_ := AM (hbox); have n3_ := AM ((by rw [hg]; exact (bz (by repeat (first | (with_reducible first | exact HB.out | apply ba | apply bn | apply bd | refine bs ?_ GE239.out) | exact HB.out))) : w.heap.size ≤ gb240)); have n4_ := AM ((by rw [hg]; exact (bz (by repeat (first | (with_reducible first | exact HB.out | apply ba | apply bn | apply bd | refine bs ?_ GE239.out) | exact HB.out))) : w.heap.size ≤ gb240)); have n5_ := AM ((by rw [hg]; exact Nat.ne_of_lt (blk_lt (g := gb239) (o := .cells #[.slice A0_0 l0_0.length c0_0, .slice A0_1 l0_1.length c0_1, .slice A0_2 l0_2.length c0_2] 27 (0, 0)) (lfK BK239.out)) : gb239 ≠ gb240)); have n6_ := AM ((by rw [hg]; exact Nat.ne_of_gt (blk_lt (g := gb239) (o := .cells #[.slice A0_0 l0_0.length c0_0, .slice A0_1 l0_1.length c0_1, .slice A0_2 l0_2.length c0_2] 27 (0, 0)) (lfK BK239.out)) : gb240 ≠ gb239)); clear BK239 HB; revert n0_ n1_ n2_ n3_ n4_ n5_ n6_; intro BK239 HB BK240 GW240 GE240 NB239_240 NB240_239; clear hb hbox hg; have hnb56 := NB239_240.out; have hnc56 := NB240_239.out; have hcz57_0 : w55.cell? ⟨gb239, 0, none⟩ = some (.slice A0_0 l0_0.length c0_0) := (kc BK239.out 0).trans rfl; have hcz57_1 : w55.cell? ⟨gb239, 1, none⟩ = some (.slice A0_1 l0_1.length c0_1) := (kc BK239.out 1).trans rfl; have hcz57_2 : w55.cell? ⟨gb239, 2, none⟩ = some (.slice A0_2 l0_2.length c0_2) := (kc BK239.out 2).trans rfl; have hfz57_0 := kz BK239.out 0; have hfz57_1 := kz BK239.out 1; have hfz57_2 := kz BK239.out 2) | ((with_reducible refine gc (f := 61) rfl ?_); refine goesL_ (some 9) rfl rfl Try.func61 (by kernel_rfl) rfl #[.agg #[.slice A0_0 l0_0.length c0_0, .slice A0_1 l0_1.length c0_1, .slice A0_2 l0_2.length c0_2]] rfl (by (try simp only [List.map_toArray, List.map_cons, List.map_nil]); first | done | rfl | (simp only [List.length_drop, List.length_take]; rfl)) ?_; (with_reducible refine (impl_SigsOk.calls k _ _ l0_0 _ _ l0_1 _ _ l0_2 false _ ?side1 ?side2 ?side3 ?side4 ?side5 ?side6 A2.out).mono ?_); (case side1 => repeat (first | exact (Cb HR0_0.out HB.out) | (with_reducible refine Ca ?_ _) | (with_reducible refine Cn ?_ _) | (with_reducible refine Cd ?_))); (case side2 => exact HC0_0.out); (case side3 => repeat (first | exact (Cb HR0_1.out HB.out) | (with_reducible refine Ca ?_ _) | (with_reducible refine Cn ?_ _) | (with_reducible refine Cd ?_))); (case side4 => exact HC0_1.out); (case side5 => repeat (first | exact (Cb HR0_2.out HB.out) | (with_reducible refine Ca ?_ _) | (with_reducible refine Cn ?_ _) | (with_reducible refine Cd ?_))); (case side6 => exact HC0_2.out); rintro e w58 ⟨rfl, hb⟩; refine ⟨_, rfl, ?_⟩; have n0_ := AM (kb (g := gb239) (o := .cells #[.slice A0_0 l0_0.length c0_0, .slice A0_1 l0_1.length c0_1, .slice A0_2 l0_2.length c0_2] 27 (0, 0)) (lfK BK239.out) hb); have n1_ := AM (kb (g := gb240) (o := .cells #[.slice none 0 0, .slice none 0 0, .slice none 0 0] 27 (0, 0)) (lfK BK240.out) hb); have n2_ := AM (bp (by repeat (first | (with_reducible first | exact HB.out | apply ba | apply bn | apply bd | refine bs ?_ GE239.out | refine bs ?_ GE240.out) | exact HB.out)) hb); clear BK239 BK240 HB; revert n0_ n1_ n2_; intro BK239 BK240 HB; (try clear hb); have hcz59_0 : w58.cell? ⟨gb240, 0, none⟩ = some (.slice none 0 0) := (kc BK240.out 0).trans rfl; have hcz59_1 : w58.cell? ⟨gb240, 1, none⟩ = some (.slice none 0 0) := (kc BK240.out 1).trans rfl; have hcz59_2 : w58.cell? ⟨gb240, 2, none⟩ = some (.slice none 0 0) := (kc BK240.out 2).trans rfl; have hfz59_0 := kz BK240.out 0; have hfz59_1 := kz BK240.out 1; have hfz59_2 := kz BK240.out 2))
    refine bodyPost_ret (results_list (rs := [.cell 2 27, .tmp 3, .tmp 4, .tmp 5]) rfl (by simp) (.cell gb240 27 #[.slice none 0 0, .slice none 0 0, .slice none 0 0] (0, 0) _ rfl (by (with_reducible repeat (first | refine kn ?_ _ | refine kd ?_ | refine ka ?_ _)); refine blk_put (cs := #[.slice none 0 0, .slice none 0 0, .slice none 0 0]) ?_ 2 _ rfl; (with_reducible repeat (first | refine kn ?_ _ | refine kd ?_ | refine ka ?_ _)); refine blk_put (cs := #[.slice none 0 0, .slice none 0 0, .slice none 0 0]) ?_ 1 _ rfl; (with_reducible repeat (first | refine kn ?_ _ | refine kd ?_ | refine ka ?_ _)); refine blk_put (cs := #[.slice none 0 0, .slice none 0 0, .slice none 0 0]) ?_ 0 _ rfl; (with_reducible repeat (first | refine kn ?_ _ | refine kd ?_ | refine ka ?_ _)); exact BK240.out) Try.underlying27 rfl (by kernel_rfl) (.tmp (.tmp (.tmp .nil))))) rfl ?_
    exact ⟨_, _, _, by first | rfl | (simp [errW_none, errW_some] <;> rfl) | (simp [*, errW_none, errW_some] <;> rfl), by first | exact Kd.R_nil _ _ _ _ _ | exact Kd.N_nil _ _ _ _ _ | exact Kd.V_nil _ _ _ _ _ | exact Kd.Q_nil _ _ _ _ _ | exact Kd.S_nil _ _ _ _ _, by first | exact Kd.R_nil _ _ _ _ _ | exact Kd.N_nil _ _ _ _ _ | exact Kd.V_nil _ _ _ _ _ | exact Kd.Q_nil _ _ _ _ _ | exact Kd.S_nil _ _ _ _ _, by first | exact Kd.R_nil _ _ _ _ _ | exact Kd.N_nil _ _ _ _ _ | exact Kd.V_nil _ _ _ _ _ | exact Kd.Q_nil _ _ _ _ _ | exact Kd.S_nil _ _ _ _ _, by repeat (first | (with_reducible first | exact HB.out | apply ba | apply bn | apply bd | refine bs ?_ GE239.out | refine bs ?_ GE240.out) | exact HB.out)⟩

end Go.Proofs.Ytpcohpkflkhfbaa.GSnx
