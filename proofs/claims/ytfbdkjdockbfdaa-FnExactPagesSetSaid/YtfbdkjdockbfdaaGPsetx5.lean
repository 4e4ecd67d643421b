-- Written by this session's program hp.py (over the kit's printer) and out of its own hand texts. Not trusted: Lean checks it.
import Derived.Test.YtfbdkjdockbfdaaGPsetx0
import Derived.Test.YtfbdkjdockbfdaaGPsetx3
import Derived.Test.YtfbdkjdockbfdaaGPsetx4
namespace Go.Proofs.Ytfbdkjdockbfdaa.GPset
open Go.RowKit Go.Proofs.YtfbdkjdockbfdaaW.PrintWords Go.Proofs.YtfbdkjdockbfdaaW.PrintLast Go.Proofs.YtfbdkjdockbfdaaW.PrintMore
attribute [local go_sem] max2_int min2_int max_two min_two max_three min_three max_four min_four   -- for this text's walks alone
set_option linter.unusedVariables false
set_option linter.unusedSimpArgs false

/-! ### spec_PagesSet: function 22 -/
open Go.Proofs.YtfbdkjdockbfdaaW.PrintWords.Aside0 renaming mk → AM
open Go.Proofs.YtfbdkjdockbfdaaW.PrintWords renaming below_alloc → ba, pw_below_drewN → bn, below_drew1 → bd, below_set → bs, blk_drewN → kn, blk_drew → kd, blk_alloc → ka, blk_far → kf, blk_cell → kc, blk_frozen → kz, blk_below → kb, below_size → bz, below_step → bp, box_event → xe, gate_callee → gc, gate_dst → gd
open Go.Proofs.YtfbdkjdockbfdaaW.PrintWords.Kd renaming R_alloc → Ra, R_drewN → Rn, R_drew → Rd, R_mono → Rm, R_below → Rb, R_far → Rf, R_reads' → Rr, R_types → Rt, R_lower → Rl, C_alloc → Ca, C_drewN → Cn, C_drew → Cd, C_below → Cb, R_slice → Ri
def spec_PagesSet.j0 : Nat → Int → Int → Int → Bool → List ByteArray → List Int → Option (List ByteArray × List Int × Bool)
  | 0, _, _, _, _, _, _ => none
  | k + 1, x1, x2, x3, x29, x179000, x179001 => if x29 = true then (some (([] : List ByteArray), ([] : List Int), false)) else ((spec_l1Copy.f x179000 x179001).bind fun bt184 => (if 0 ≤ x1 then (if x1 < (bt184.1.length : Int) then ((spec_l1Set.f (rdOf ByteArray.empty bt184.1 x1) x2 x3).bind fun t192 => (some ((bt184.1.set (x1 : Int).toNat t192), bt184.2, true))) else (none)) else (none)))
def spec_PagesSet.f (k : Nat) (l0_0 : List ByteArray) (l0_1 : List Int) (a1 : Int) (a2 : Int) (a3 : Int) : Option (List ByteArray × List Int × Bool) := (spec_PagesOk.f k l0_0 l0_1).bind fun t180 => (if t180 = true then ((spec_l1Used.f l0_0 l0_1 a1).bind fun t181 => (if t181 = true then ((spec_l6In.f a2 0 3).bind fun t182 => (if t182 = true then ((spec_l6In.f a3 0 255).bind fun t183 => (spec_PagesSet.j0 k a1 a2 a3 (!t183) l0_0 l0_1)) else (spec_PagesSet.j0 k a1 a2 a3 true l0_0 l0_1))) else (spec_PagesSet.j0 k a1 a2 a3 true l0_0 l0_1))) else (spec_PagesSet.j0 k a1 a2 a3 true l0_0 l0_1))
theorem spec_PagesSet.mono_l : ∀ k, (∀ y0 y1 y2 y3 y4 y5, LeO (spec_PagesSet.j0 k y0 y1 y2 y3 y4 y5) (spec_PagesSet.j0 (k + 1) y0 y1 y2 y3 y4 y5))
  | 0 => fun _ _ _ _ _ _ r h => by simp [spec_PagesSet.j0] at h
  | k + 1 => by
    have ih0 := spec_PagesSet.mono_l k
    · intro y0 y1 y2 y3 y4 y5
      unfold spec_PagesSet.j0
      repeat' first
      | (with_reducible exact ih0 _ _ _ _ _ _)
      | (with_reducible exact spec_PagesOk.mono _ _ _)
      | (with_reducible exact LeO.refl _)
      | (with_reducible exact LeO.none _)
      | (with_reducible refine LeO.ite ?_ ?_)
      | (with_reducible refine LeO.bind ?_ (fun _ => ?_))
      | exact ih0 _ _ _ _ _ _
      | exact spec_PagesOk.mono _ _ _
      | exact LeO.none _
      | refine LeO.ite ?_ ?_
      | refine LeO.bind ?_ (fun _ => ?_)
theorem spec_PagesSet.mono : ∀ a0 a1 a2 a3 a4 k, LeO (spec_PagesSet.f k a0 a1 a2 a3 a4) (spec_PagesSet.f (k + 1) a0 a1 a2 a3 a4) := by
  intro a0 a1 a2 a3 a4 k
  have ih0 := spec_PagesSet.mono_l k
  unfold spec_PagesSet.f
  repeat' first
      | (with_reducible exact ih0 _ _ _ _ _ _)
      | (with_reducible exact spec_PagesOk.mono _ _ _)
      | (with_reducible exact LeO.refl _)
      | (with_reducible exact LeO.none _)
      | (with_reducible refine LeO.ite ?_ ?_)
      | (with_reducible refine LeO.bind ?_ (fun _ => ?_))
      | exact ih0 _ _ _ _ _ _
      | exact spec_PagesOk.mono _ _ _
      | exact LeO.none _
      | refine LeO.ite ?_ ?_
      | refine LeO.bind ?_ (fun _ => ?_)
def spec_PagesSet.T4 : Bool × List (List Nat × List Nat) := (true, [([], []), ([0], [0]), ([], []), ([], []), ([3], [3]), ([], []), ([4, 5], [4, 5]), ([6], [6]), ([], []), ([], []), ([7, 8, 9], [7, 8, 9]), ([1, 2, 0, 1, 2, 3, 4, 5, 6, 7, 8, 9, 10], [1, 2]), ([11, 10, 10, 0, 1, 2, 3, 4, 5, 6, 7, 8, 9, 10], [10, 11])])
def spec_PagesSet.B4 : List Nat := [0, 1, 0, 0, 8, 0, 56, 120, 0, 0, 1016, 2047, 4095]
theorem spec_PagesSet.tab4 : rtab .any (opsOf Try.f22 4) = spec_PagesSet.T4 := by kernel_rfl
theorem spec_PagesSet.bits4 : waitsOk spec_PagesSet.T4.2 spec_PagesSet.B4 = true := by kernel_rfl
set_option maxHeartbeats 8000000 in
set_option maxRecDepth 100000 in
theorem spec_PagesSet.calls (k : Nat) (A0_0 : Option Addr) (c0_0 : Nat) (l0_0 : List ByteArray) (A0_1 : Option Addr) (c0_1 : Nat) (l0_1 : List Int) (a1 : Int) (a2 : Int) (a3 : Int) (r1 : List ByteArray) (r2 : List Int) (r3 : Bool) (w : World) (hr0_0 : Kd.C Kd.string w A0_0 l0_0.length l0_0) (hc0_0 : l0_0.length ≤ c0_0) (hr0_1 : Kd.C (Kd.int .i64) w A0_1 l0_1.length l0_1) (hc0_1 : l0_1.length ≤ c0_1) (h : spec_PagesSet.f k l0_0 l0_1 a1 a2 a3 = some (r1, r2, r3)) :
    Calls Try.prog 22 #[.agg #[.slice A0_0 l0_0.length c0_0, .slice A0_1 l0_1.length c0_1], .int .i64 a1, .int .i64 a2, .int .i64 a3] w fun e w' => ∃ v0_ v1_ : Value, e = .returned (.tuple #[.agg #[v0_, v1_], .bool r3]) ∧ Kd.R Kd.string 9 w' w.heap.size (fun _ => True) v0_ r1 ∧ Kd.R (Kd.int .i64) 3 w' w.heap.size (fun _ => True) v1_ r2 ∧ Below w.heap.size w w' := by
  have hu40 := Try.underlying40
  have HR0_0 := AM hr0_0
  have HC0_0 := AM hc0_0
  clear hr0_0 hc0_0
  have HR0_1 := AM hr0_1
  have HC0_1 := AM hc0_1
  clear hr0_1 hc0_1
  have HB := AM (Below.refl w.heap.size w)
  have H : ((spec_PagesOk.f k l0_0 l0_1).bind fun t180 => (if t180 = true then ((spec_l1Used.f l0_0 l0_1 a1).bind fun t181 => (if t181 = true then ((spec_l6In.f a2 0 3).bind fun t182 => (if t182 = true then ((spec_l6In.f a3 0 255).bind fun t183 => (spec_PagesSet.j0 k a1 a2 a3 (!t183) l0_0 l0_1)) else (spec_PagesSet.j0 k a1 a2 a3 true l0_0 l0_1))) else (spec_PagesSet.j0 k a1 a2 a3 true l0_0 l0_1))) else (spec_PagesSet.j0 k a1 a2 a3 true l0_0 l0_1))) = some (r1, r2, r3) := h
  clear h
  have HC5 := AM H
  clear H
  go_enter Try.func22, Try.ntmps22
  go_upto_region 1 with (first | ((with_reducible refine gd (N := 4) rfl ?_); refine xe ?hg (N := 4) ?hd (cs := #[.slice A0_0 l0_0.length c0_0, .slice A0_1 l0_1.length c0_1]) (t := 40) ?hr ?_; (case hd => rfl); (case hg => rfl); (case hr => first | (go_simp; done) | (go_simp; rfl)); intro gb178 hg w6 hbox hb; have n0_ := AM (bp (by repeat (first | (with_reducible first | exact HB.out | apply ba | apply bn | apply bd) | exact HB.out)) hb); have n1_ := AM (hbox); have n2_ := AM ((by rw [hg]; exact (bz (by repeat (first | (with_reducible first | exact HB.out | apply ba | apply bn | apply bd) | exact HB.out))) : w.heap.size ≤ gb178)); have n3_ := AM ((by rw [hg]; exact (bz (by repeat (first | (with_reducible first | exact HB.out | apply ba | apply bn | apply bd) | exact HB.out))) : w.heap.size ≤ gb178)); clear HB; have HB := n0_; have BK178 := n1_; have GW178 := n2_; have GE178 := n3_; clear n0_ n1_ n2_ n3_; clear hb hbox hg) | ((with_reducible refine gd (N := 8) rfl ?_); refine xe ?hg (N := 8) ?hd (cs := #[.slice none 0 0, .slice none 0 0]) (t := 40) ?hr ?_; (case hd => rfl); (case hg => rfl); (case hr => first | (go_simp; done) | (go_simp; rfl)); intro gb179 hg w7 hbox hb; have n0_ := AM (kb (g := gb178) (o := .cells #[.slice A0_0 l0_0.length c0_0, .slice A0_1 l0_1.length c0_1] 40 (0, 0)) (by (with_reducible repeat (first | refine kn ?_ _ | refine kd ?_ | refine ka ?_ _)); exact BK178.out) hb); have n1_ := AM (bp (by repeat (first | (with_reducible first | exact HB.out | apply ba | apply bn | apply bd | refine bs ?_ GE178.out) | exact HB.out)) hb); have n2_ := AM (hbox); have n3_ := AM ((by rw [hg]; exact (bz (by repeat (first | (with_reducible first | exact HB.out | apply ba | apply bn | apply bd | refine bs ?_ GE178.out) | exact HB.out))) : w.heap.size ≤ gb179)); have n4_ := AM ((by rw [hg]; exact (bz (by repeat (first | (with_reducible first | exact HB.out | apply ba | apply bn | apply bd | refine bs ?_ GE178.out) | exact HB.out))) : w.heap.size ≤ gb179)); have n5_ := AM ((by rw [hg]; exact Nat.ne_of_lt (blk_lt (g := gb178) (o := .cells #[.slice A0_0 l0_0.length c0_0, .slice A0_1 l0_1.length c0_1] 40 (0, 0)) (by (with_reducible repeat (first | refine kn ?_ _ | refine kd ?_ | refine ka ?_ _)); exact BK178.out)) : gb178 ≠ gb179)); have n6_ := AM ((by rw [hg]; exact Nat.ne_of_gt (blk_lt (g := gb178) (o := .cells #[.slice A0_0 l0_0.length c0_0, .slice A0_1 l0_1.length c0_1] 40 (0, 0)) (by (with_reducible repeat (first | refine kn ?_ _ | refine kd ?_ | refine ka ?_ _)); exact BK178.out)) : gb179 ≠ gb178)); clear BK178; clear HB; have BK178 := n0_; have HB := n1_; have BK179 := n2_; have GW179 := n3_; have GE179 := n4_; have NB178_179 := n5_; have NB179_178 := n6_; clear n0_ n1_ n2_ n3_ n4_ n5_ n6_; clear hb hbox hg))
  (try simp only [Act.put, List.setIfInBounds_toArray, List.set_cons_zero, List.set_cons_succ])
  go_cut [29] (fun v29 wc => ∃ (kq : Nat) (x29_4 : Bool), v29 = .bool x29_4 ∧ Aside0 (spec_PagesSet.j0 kq a1 a2 a3 x29_4 l0_0 l0_1 = some (r1, r2, r3)) ∧ Aside0 (kq ≤ k) ∧ Aside0 (wc.heap[gb178]? = some (.cells #[(.slice A0_0 l0_0.length c0_0), (.slice A0_1 l0_1.length c0_1)] 40 (0, 0))) ∧ Aside0 (wc.heap[gb179]? = some (.cells #[(.slice none 0 0), (.slice none 0 0)] 40 (0, 0))) ∧ Aside0 (Below w.heap.size w wc))
  case first =>
    have H := HC5.out
    clear HC5
    replace H := Option.bind_eq_some_iff.mp H
    obtain ⟨t180, A80, H⟩ := H
    replace H : (if t180 = true then ((spec_l1Used.f l0_0 l0_1 a1).bind fun t181 => (if t181 = true then ((spec_l6In.f a2 0 3).bind fun t182 => (if t182 = true then ((spec_l6In.f a3 0 255).bind fun t183 => (spec_PagesSet.j0 k a1 a2 a3 (!t183) l0_0 l0_1)) else (spec_PagesSet.j0 k a1 a2 a3 true l0_0 l0_1))) else (spec_PagesSet.j0 k a1 a2 a3 true l0_0 l0_1))) else (spec_PagesSet.j0 k a1 a2 a3 true l0_0 l0_1)) = some (r1, r2, r3) := H
    have A8 := AM A80
    clear A80
    by_cases c9 : t180 = true
    · subst c9
      have H1 : ((spec_l1Used.f l0_0 l0_1 a1).bind fun t181 => (if t181 = true then ((spec_l6In.f a2 0 3).bind fun t182 => (if t182 = true then ((spec_l6In.f a3 0 255).bind fun t183 => (spec_PagesSet.j0 k a1 a2 a3 (!t183) l0_0 l0_1)) else (spec_PagesSet.j0 k a1 a2 a3 true l0_0 l0_1))) else (spec_PagesSet.j0 k a1 a2 a3 true l0_0 l0_1))) = some (r1, r2, r3) := by rw [if_pos rfl] at H; exact H
      clear H
      have H := H1
      clear H1
      replace H := Option.bind_eq_some_iff.mp H
      obtain ⟨t181, A100, H⟩ := H
      replace H : (if t181 = true then ((spec_l6In.f a2 0 3).bind fun t182 => (if t182 = true then ((spec_l6In.f a3 0 255).bind fun t183 => (spec_PagesSet.j0 k a1 a2 a3 (!t183) l0_0 l0_1)) else (spec_PagesSet.j0 k a1 a2 a3 true l0_0 l0_1))) else (spec_PagesSet.j0 k a1 a2 a3 true l0_0 l0_1)) = some (r1, r2, r3) := H
      have A10 := AM A100
      clear A100
      by_cases c11 : t181 = true
      · subst c11
        have H1 : ((spec_l6In.f a2 0 3).bind fun t182 => (if t182 = true then ((spec_l6In.f a3 0 255).bind fun t183 => (spec_PagesSet.j0 k a1 a2 a3 (!t183) l0_0 l0_1)) else (spec_PagesSet.j0 k a1 a2 a3 true l0_0 l0_1))) = some (r1, r2, r3) := by rw [if_pos rfl] at H; exact H
        clear H
        have H := H1
        clear H1
        replace H := Option.bind_eq_some_iff.mp H
        obtain ⟨t182, A120, H⟩ := H
        replace H : (if t182 = true then ((spec_l6In.f a3 0 255).bind fun t183 => (spec_PagesSet.j0 k a1 a2 a3 (!t183) l0_0 l0_1)) else (spec_PagesSet.j0 k a1 a2 a3 true l0_0 l0_1)) = some (r1, r2, r3) := H
        have A12 := AM A120
        clear A120
        by_cases c13 : t182 = true
        · subst c13
          have H1 : ((spec_l6In.f a3 0 255).bind fun t183 => (spec_PagesSet.j0 k a1 a2 a3 (!t183) l0_0 l0_1)) = some (r1, r2, r3) := by rw [if_pos rfl] at H; exact H
          clear H
          have H := H1
          clear H1
          replace H := Option.bind_eq_some_iff.mp H
          obtain ⟨t183, A140, H⟩ := H
          replace H : (spec_PagesSet.j0 k a1 a2 a3 (!t183) l0_0 l0_1) = some (r1, r2, r3) := H
          have A14 := AM A140
          clear A140
          have H' := AM H
          clear H
          have hnb15 := NB178_179.out
          have hnc15 := NB179_178.out
          have hcz16_0 : w7.cell? ⟨gb178, 0, none⟩ = some (.slice A0_0 l0_0.length c0_0) := (kc BK178.out 0).trans rfl
          have hcz16_1 : w7.cell? ⟨gb178, 1, none⟩ = some (.slice A0_1 l0_1.length c0_1) := (kc BK178.out 1).trans rfl
          have hfz16_0 := kz BK178.out 0
          have hfz16_1 := kz BK178.out 1
          go_wp2_with (first | ((with_reducible refine gc (f := 55) rfl ?_); refine goesL_ (some 12) rfl rfl Try.func55 (by kernel_rfl) rfl #[.agg #[.slice A0_0 l0_0.length c0_0, .slice A0_1 l0_1.length c0_1]] rfl (by (try simp only [List.map_toArray, List.map_cons, List.map_nil]); first | done | rfl | (simp only [List.length_drop, List.length_take]; rfl)) ?_; (with_reducible refine (spec_PagesOk.calls k _ _ l0_0 _ _ l0_1 true _ ?side1 ?side2 ?side3 ?side4 A8.out).mono ?_); (case side1 => repeat (first | exact (Cb HR0_0.out HB.out) | (with_reducible refine Ca ?_ _) | (with_reducible refine Cn ?_ _) | (with_reducible refine Cd ?_))); (case side2 => exact HC0_0.out); (case side3 => repeat (first | exact (Cb HR0_1.out HB.out) | (with_reducible refine Ca ?_ _) | (with_reducible refine Cn ?_ _) | (with_reducible refine Cd ?_))); (case side4 => exact HC0_1.out); rintro e w17 ⟨rfl, hb⟩; refine ⟨_, rfl, ?_⟩; have n0_ := AM (kb (g := gb178) (o := .cells #[.slice A0_0 l0_0.length c0_0, .slice A0_1 l0_1.length c0_1] 40 (0, 0)) (by (with_reducible repeat (first | refine kn ?_ _ | refine kd ?_ | refine ka ?_ _)); exact BK178.out) hb); have n1_ := AM (kb (g := gb179) (o := .cells #[.slice none 0 0, .slice none 0 0] 40 (0, 0)) (by (with_reducible repeat (first | refine kn ?_ _ | refine kd ?_ | refine ka ?_ _)); exact BK179.out) hb); have n2_ := AM (bp (by repeat (first | (with_reducible first | exact HB.out | apply ba | apply bn | apply bd | refine bs ?_ GE178.out | refine bs ?_ GE179.out) | exact HB.out)) hb); clear BK178; clear BK179; clear HB; have BK178 := n0_; have BK179 := n1_; have HB := n2_; clear n0_ n1_ n2_; (try clear hb); have hcz18_0 : w17.cell? ⟨gb178, 0, none⟩ = some (.slice A0_0 l0_0.length c0_0) := (kc BK178.out 0).trans rfl; have hcz18_1 : w17.cell? ⟨gb178, 1, none⟩ = some (.slice A0_1 l0_1.length c0_1) := (kc BK178.out 1).trans rfl; have hfz18_0 := kz BK178.out 0; have hfz18_1 := kz BK178.out 1) | (go_at_call 56; (with_reducible refine (spec_l1Used.calls _ _ l0_0 _ _ l0_1 a1 true _ ?side1 ?side2 ?side3 ?side4 A10.out).mono ?_); (case side1 => repeat (first | exact (Cb HR0_0.out HB.out) | (with_reducible refine Ca ?_ _) | (with_reducible refine Cn ?_ _) | (with_reducible refine Cd ?_))); (case side2 => exact HC0_0.out); (case side3 => repeat (first | exact (Cb HR0_1.out HB.out) | (with_reducible refine Ca ?_ _) | (with_reducible refine Cn ?_ _) | (with_reducible refine Cd ?_))); (case side4 => exact HC0_1.out); rintro e w19 ⟨rfl, hb⟩; have n0_ := AM (kb (g := gb178) (o := .cells #[.slice A0_0 l0_0.length c0_0, .slice A0_1 l0_1.length c0_1] 40 (0, 0)) (by (with_reducible repeat (first | refine kn ?_ _ | refine kd ?_ | refine ka ?_ _)); exact BK178.out) hb); have n1_ := AM (kb (g := gb179) (o := .cells #[.slice none 0 0, .slice none 0 0] 40 (0, 0)) (by (with_reducible repeat (first | refine kn ?_ _ | refine kd ?_ | refine ka ?_ _)); exact BK179.out) hb); have n2_ := AM (bp (by repeat (first | (with_reducible first | exact HB.out | apply ba | apply bn | apply bd | refine bs ?_ GE178.out | refine bs ?_ GE179.out) | exact HB.out)) hb); clear BK178; clear BK179; clear HB; have BK178 := n0_; have BK179 := n1_; have HB := n2_; clear n0_ n1_ n2_; (try clear hb)) | (go_at_call 46; (with_reducible refine (spec_l6In.calls a2 0 3 true _ A12.out).mono ?_); rintro e w' ⟨rfl, ⟨nd, rfl⟩⟩) | (go_at_call 46; (with_reducible refine (spec_l6In.calls a3 0 255 t183 _ A14.out).mono ?_); rintro e w' ⟨rfl, ⟨nd, rfl⟩⟩))
          go_meet
          case rel => exact ⟨_, (!t183), (by first | rfl | (simp; done) | (simp [*]; done)), H', ⟨by first | omega | exact Nat.le_refl _⟩, ⟨by (with_reducible repeat (first | refine kn ?_ _ | refine kd ?_ | refine ka ?_ _)); exact BK178.out⟩, ⟨by (with_reducible repeat (first | refine kn ?_ _ | refine kd ?_ | refine ka ?_ _)); exact BK179.out⟩, ⟨by repeat (first | (with_reducible first | exact HB.out | apply ba | apply bn | apply bd | refine bs ?_ GE178.out | refine bs ?_ GE179.out) | exact HB.out)⟩⟩
        · replace c13 := Bool.eq_false_iff.mpr c13
          subst c13
          have H1 : (spec_PagesSet.j0 k a1 a2 a3 true l0_0 l0_1) = some (r1, r2, r3) := by rw [if_neg (show ¬ (false = true) by decide)] at H; exact H
          clear H
          have H := H1
          clear H1
          have H' := AM H
          clear H
          have hnb20 := NB178_179.out
          have hnc20 := NB179_178.out
          have hcz21_0 : w7.cell? ⟨gb178, 0, none⟩ = some (.slice A0_0 l0_0.length c0_0) := (kc BK178.out 0).trans rfl
          have hcz21_1 : w7.cell? ⟨gb178, 1, none⟩ = some (.slice A0_1 l0_1.length c0_1) := (kc BK178.out 1).trans rfl
          have hfz21_0 := kz BK178.out 0
          have hfz21_1 := kz BK178.out 1
          go_wp2_with (first | ((with_reducible refine gc (f := 55) rfl ?_); refine goesL_ (some 12) rfl rfl Try.func55 (by kernel_rfl) rfl #[.agg #[.slice A0_0 l0_0.length c0_0, .slice A0_1 l0_1.length c0_1]] rfl (by (try simp only [List.map_toArray, List.map_cons, List.map_nil]); first | done | rfl | (simp only [List.length_drop, List.length_take]; rfl)) ?_; (with_reducible refine (spec_PagesOk.calls k _ _ l0_0 _ _ l0_1 true _ ?side1 ?side2 ?side3 ?side4 A8.out).mono ?_); (case side1 => repeat (first | exact (Cb HR0_0.out HB.out) | (with_reducible refine Ca ?_ _) | (with_reducible refine Cn ?_ _) | (with_reducible refine Cd ?_))); (case side2 => exact HC0_0.out); (case side3 => repeat (first | exact (Cb HR0_1.out HB.out) | (with_reducible refine Ca ?_ _) | (with_reducible refine Cn ?_ _) | (with_reducible refine Cd ?_))); (case side4 => exact HC0_1.out); rintro e w22 ⟨rfl, hb⟩; refine ⟨_, rfl, ?_⟩; have n0_ := AM (kb (g := gb178) (o := .cells #[.slice A0_0 l0_0.length c0_0, .slice A0_1 l0_1.length c0_1] 40 (0, 0)) (by (with_reducible repeat (first | refine kn ?_ _ | refine kd ?_ | refine ka ?_ _)); exact BK178.out) hb); have n1_ := AM (kb (g := gb179) (o := .cells #[.slice none 0 0, .slice none 0 0] 40 (0, 0)) (by (with_reducible repeat (first | refine kn ?_ _ | refine kd ?_ | refine ka ?_ _)); exact BK179.out) hb); have n2_ := AM (bp (by repeat (first | (with_reducible first | exact HB.out | apply ba | apply bn | apply bd | refine bs ?_ GE178.out | refine bs ?_ GE179.out) | exact HB.out)) hb); clear BK178; clear BK179; clear HB; have BK178 := n0_; have BK179 := n1_; have HB := n2_; clear n0_ n1_ n2_; (try clear hb); have hcz23_0 : w22.cell? ⟨gb178, 0, none⟩ = some (.slice A0_0 l0_0.length c0_0) := (kc BK178.out 0).trans rfl; have hcz23_1 : w22.cell? ⟨gb178, 1, none⟩ = some (.slice A0_1 l0_1.length c0_1) := (kc BK178.out 1).trans rfl; have hfz23_0 := kz BK178.out 0; have hfz23_1 := kz BK178.out 1) | (go_at_call 56; (with_reducible refine (spec_l1Used.calls _ _ l0_0 _ _ l0_1 a1 true _ ?side1 ?side2 ?side3 ?side4 A10.out).mono ?_); (case side1 => repeat (first | exact (Cb HR0_0.out HB.out) | (with_reducible refine Ca ?_ _) | (with_reducible refine Cn ?_ _) | (with_reducible refine Cd ?_))); (case side2 => exact HC0_0.out); (case side3 => repeat (first | exact (Cb HR0_1.out HB.out) | (with_reducible refine Ca ?_ _) | (with_reducible refine Cn ?_ _) | (with_reducible refine Cd ?_))); (case side4 => exact HC0_1.out); rintro e w24 ⟨rfl, hb⟩; have n0_ := AM (kb (g := gb178) (o := .cells #[.slice A0_0 l0_0.length c0_0, .slice A0_1 l0_1.length c0_1] 40 (0, 0)) (by (with_reducible repeat (first | refine kn ?_ _ | refine kd ?_ | refine ka ?_ _)); exact BK178.out) hb); have n1_ := AM (kb (g := gb179) (o := .cells #[.slice none 0 0, .slice none 0 0] 40 (0, 0)) (by (with_reducible repeat (first | refine kn ?_ _ | refine kd ?_ | refine ka ?_ _)); exact BK179.out) hb); have n2_ := AM (bp (by repeat (first | (with_reducible first | exact HB.out | apply ba | apply bn | apply bd | refine bs ?_ GE178.out | refine bs ?_ GE179.out) | exact HB.out)) hb); clear BK178; clear BK179; clear HB; have BK178 := n0_; have BK179 := n1_; have HB := n2_; clear n0_ n1_ n2_; (try clear hb)) | (go_at_call 46; (with_reducible refine (spec_l6In.calls a2 0 3 false _ A12.out).mono ?_); rintro e w' ⟨rfl, ⟨nd, rfl⟩⟩))
          go_meet
          case rel => exact ⟨_, (true), (by first | rfl | (simp; done) | (simp [*]; done)), H', ⟨by first | omega | exact Nat.le_refl _⟩, ⟨by (with_reducible repeat (first | refine kn ?_ _ | refine kd ?_ | refine ka ?_ _)); exact BK178.out⟩, ⟨by (with_reducible repeat (first | refine kn ?_ _ | refine kd ?_ | refine ka ?_ _)); exact BK179.out⟩, ⟨by repeat (first | (with_reducible first | exact HB.out | apply ba | apply bn | apply bd | refine bs ?_ GE178.out | refine bs ?_ GE179.out) | exact HB.out)⟩⟩
      · replace c11 := Bool.eq_false_iff.mpr c11
        subst c11
        have H1 : (spec_PagesSet.j0 k a1 a2 a3 true l0_0 l0_1) = some (r1, r2, r3) := by rw [if_neg (show ¬ (false = true) by decide)] at H; exact H
        clear H
        have H := H1
        clear H1
        have H' := AM H
        clear H
        have hnb25 := NB178_179.out
        have hnc25 := NB179_178.out
        have hcz26_0 : w7.cell? ⟨gb178, 0, none⟩ = some (.slice A0_0 l0_0.length c0_0) := (kc BK178.out 0).trans rfl
        have hcz26_1 : w7.cell? ⟨gb178, 1, none⟩ = some (.slice A0_1 l0_1.length c0_1) := (kc BK178.out 1).trans rfl
        have hfz26_0 := kz BK178.out 0
        have hfz26_1 := kz BK178.out 1
        go_wp2_with (first | ((with_reducible refine gc (f := 55) rfl ?_); refine goesL_ (some 12) rfl rfl Try.func55 (by kernel_rfl) rfl #[.agg #[.slice A0_0 l0_0.length c0_0, .slice A0_1 l0_1.length c0_1]] rfl (by (try simp only [List.map_toArray, List.map_cons, List.map_nil]); first | done | rfl | (simp only [List.length_drop, List.length_take]; rfl)) ?_; (with_reducible refine (spec_PagesOk.calls k _ _ l0_0 _ _ l0_1 true _ ?side1 ?side2 ?side3 ?side4 A8.out).mono ?_); (case side1 => repeat (first | exact (Cb HR0_0.out HB.out) | (with_reducible refine Ca ?_ _) | (with_reducible refine Cn ?_ _) | (with_reducible refine Cd ?_))); (case side2 => exact HC0_0.out); (case side3 => repeat (first | exact (Cb HR0_1.out HB.out) | (with_reducible refine Ca ?_ _) | (with_reducible refine Cn ?_ _) | (with_reducible refine Cd ?_))); (case side4 => exact HC0_1.out); rintro e w27 ⟨rfl, hb⟩; refine ⟨_, rfl, ?_⟩; have n0_ := AM (kb (g := gb178) (o := .cells #[.slice A0_0 l0_0.length c0_0, .slice A0_1 l0_1.length c0_1] 40 (0, 0)) (by (with_reducible repeat (first | refine kn ?_ _ | refine kd ?_ | refine ka ?_ _)); exact BK178.out) hb); have n1_ := AM (kb (g := gb179) (o := .cells #[.slice none 0 0, .slice none 0 0] 40 (0, 0)) (by (with_reducible repeat (first | refine kn ?_ _ | refine kd ?_ | refine ka ?_ _)); exact BK179.out) hb); have n2_ := AM (bp (by repeat (first | (with_reducible first | exact HB.out | apply ba | apply bn | apply bd | refine bs ?_ GE178.out | refine bs ?_ GE179.out) | exact HB.out)) hb); clear BK178; clear BK179; clear HB; have BK178 := n0_; have BK179 := n1_; have HB := n2_; clear n0_ n1_ n2_; (try clear hb); have hcz28_0 : w27.cell? ⟨gb178, 0, none⟩ = some (.slice A0_0 l0_0.length c0_0) := (kc BK178.out 0).trans rfl; have hcz28_1 : w27.cell? ⟨gb178, 1, none⟩ = some (.slice A0_1 l0_1.length c0_1) := (kc BK178.out 1).trans rfl; have hfz28_0 := kz BK178.out 0; have hfz28_1 := kz BK178.out 1) | (go_at_call 56; (with_reducible refine (spec_l1Used.calls _ _ l0_0 _ _ l0_1 a1 false _ ?side1 ?side2 ?side3 ?side4 A10.out).mono ?_); (case side1 => repeat (first | exact (Cb HR0_0.out HB.out) | (with_reducible refine Ca ?_ _) | (with_reducible refine Cn ?_ _) | (with_reducible refine Cd ?_))); (case side2 => exact HC0_0.out); (case side3 => repeat (first | exact (Cb HR0_1.out HB.out) | (with_reducible refine Ca ?_ _) | (with_reducible refine Cn ?_ _) | (with_reducible refine Cd ?_))); (case side4 => exact HC0_1.out); rintro e w29 ⟨rfl, hb⟩; have n0_ := AM (kb (g := gb178) (o := .cells #[.slice A0_0 l0_0.length c0_0, .slice A0_1 l0_1.length c0_1] 40 (0, 0)) (by (with_reducible repeat (first | refine kn ?_ _ | refine kd ?_ | refine ka ?_ _)); exact BK178.out) hb); have n1_ := AM (kb (g := gb179) (o := .cells #[.slice none 0 0, .slice none 0 0] 40 (0, 0)) (by (with_reducible repeat (first | refine kn ?_ _ | refine kd ?_ | refine ka ?_ _)); exact BK179.out) hb); have n2_ := AM (bp (by repeat (first | (with_reducible first | exact HB.out | apply ba | apply bn | apply bd | refine bs ?_ GE178.out | refine bs ?_ GE179.out) | exact HB.out)) hb); clear BK178; clear BK179; clear HB; have BK178 := n0_; have BK179 := n1_; have HB := n2_; clear n0_ n1_ n2_; (try clear hb)))
        go_meet
        case rel => exact ⟨_, (true), (by first | rfl | (simp; done) | (simp [*]; done)), H', ⟨by first | omega | exact Nat.le_refl _⟩, ⟨by (with_reducible repeat (first | refine kn ?_ _ | refine kd ?_ | refine ka ?_ _)); exact BK178.out⟩, ⟨by (with_reducible repeat (first | refine kn ?_ _ | refine kd ?_ | refine ka ?_ _)); exact BK179.out⟩, ⟨by repeat (first | (with_reducible first | exact HB.out | apply ba | apply bn | apply bd | refine bs ?_ GE178.out | refine bs ?_ GE179.out) | exact HB.out)⟩⟩
    · replace c9 := Bool.eq_false_iff.mpr c9
      subst c9
      have H1 : (spec_PagesSet.j0 k a1 a2 a3 true l0_0 l0_1) = some (r1, r2, r3) := by rw [if_neg (show ¬ (false = true) by decide)] at H; exact H
      clear H
      have H := H1
      clear H1
      have H' := AM H
      clear H
      have hnb30 := NB178_179.out
      have hnc30 := NB179_178.out
      have hcz31_0 : w7.cell? ⟨gb178, 0, none⟩ = some (.slice A0_0 l0_0.length c0_0) := (kc BK178.out 0).trans rfl
      have hcz31_1 : w7.cell? ⟨gb178, 1, none⟩ = some (.slice A0_1 l0_1.length c0_1) := (kc BK178.out 1).trans rfl
      have hfz31_0 := kz BK178.out 0
      have hfz31_1 := kz BK178.out 1
      go_wp2_with (first | ((with_reducible refine gc (f := 55) rfl ?_); refine goesL_ (some 12) rfl rfl Try.func55 (by kernel_rfl) rfl #[.agg #[.slice A0_0 l0_0.length c0_0, .slice A0_1 l0_1.length c0_1]] rfl (by (try simp only [List.map_toArray, List.map_cons, List.map_nil]); first | done | rfl | (simp only [List.length_drop, List.length_take]; rfl)) ?_; (with_reducible refine (spec_PagesOk.calls k _ _ l0_0 _ _ l0_1 false _ ?side1 ?side2 ?side3 ?side4 A8.out).mono ?_); (case side1 => repeat (first | exact (Cb HR0_0.out HB.out) | (with_reducible refine Ca ?_ _) | (with_reducible refine Cn ?_ _) | (with_reducible refine Cd ?_))); (case side2 => exact HC0_0.out); (case side3 => repeat (first | exact (Cb HR0_1.out HB.out) | (with_reducible refine Ca ?_ _) | (with_reducible refine Cn ?_ _) | (with_reducible refine Cd ?_))); (case side4 => exact HC0_1.out); rintro e w32 ⟨rfl, hb⟩; refine ⟨_, rfl, ?_⟩; have n0_ := AM (kb (g := gb178) (o := .cells #[.slice A0_0 l0_0.length c0_0, .slice A0_1 l0_1.length c0_1] 40 (0, 0)) (by (with_reducible repeat (first | refine kn ?_ _ | refine kd ?_ | refine ka ?_ _)); exact BK178.out) hb); have n1_ := AM (kb (g := gb179) (o := .cells #[.slice none 0 0, .slice none 0 0] 40 (0, 0)) (by (with_reducible repeat (first | refine kn ?_ _ | refine kd ?_ | refine ka ?_ _)); exact BK179.out) hb); have n2_ := AM (bp (by repeat (first | (with_reducible first | exact HB.out | apply ba | apply bn | apply bd | refine bs ?_ GE178.out | refine bs ?_ GE179.out) | exact HB.out)) hb); clear BK178; clear BK179; clear HB; have BK178 := n0_; have BK179 := n1_; have HB := n2_; clear n0_ n1_ n2_; (try clear hb)))
      go_meet
      case rel => exact ⟨_, (true), (by first | rfl | (simp; done) | (simp [*]; done)), H', ⟨by first | omega | exact Nat.le_refl _⟩, ⟨by (with_reducible repeat (first | refine kn ?_ _ | refine kd ?_ | refine ka ?_ _)); exact BK178.out⟩, ⟨by (with_reducible repeat (first | refine kn ?_ _ | refine kd ?_ | refine ka ?_ _)); exact BK179.out⟩, ⟨by repeat (first | (with_reducible first | exact HB.out | apply ba | apply bn | apply bd | refine bs ?_ GE178.out | refine bs ?_ GE179.out) | exact HB.out)⟩⟩
  case rest =>
    clear HC5
    obtain ⟨kq, x29_4, rfl, HA, HJ4, BK178, BK179, HB⟩ := hcut
    cases kq with
    | zero => exact absurd HA.out (by simp [spec_PagesSet.j0])
    | succ kj4 =>
      have H := HA.out
      clear HA
      simp only [spec_PagesSet.j0] at H
      by_cases c33 : x29_4 = true
      · subst c33
        have H1 : (some (([] : List ByteArray), ([] : List Int), false)) = some (r1, r2, r3) := by rw [if_pos rfl] at H; exact H
        clear H
        have H := H1
        clear H1
        simp only [Option.some.injEq, Prod.mk.injEq] at H
        obtain ⟨rfl, rfl, rfl⟩ := H
        have hnb34 := NB179_178.out
        have hnc34 := NB178_179.out
        have hcz35_0 : wc.cell? ⟨gb179, 0, none⟩ = some (.slice none 0 0) := (kc BK179.out 0).trans rfl
        have hcz35_1 : wc.cell? ⟨gb179, 1, none⟩ = some (.slice none 0 0) := (kc BK179.out 1).trans rfl
        have hfz35_0 := kz BK179.out 0
        have hfz35_1 := kz BK179.out 1
        go_wp2
        refine bodyPost_ret (results_ct rfl _ _ gb179 40 #[.slice none 0 0, .slice none 0 0] (0, 0) _ rfl (by (with_reducible repeat (first | refine kn ?_ _ | refine kd ?_ | refine ka ?_ _)); refine blk_put (cs := #[.slice none 0 0, .slice none 0 0]) ?_ 1 _ rfl; (with_reducible repeat (first | refine kn ?_ _ | refine kd ?_ | refine ka ?_ _)); refine blk_put (cs := #[.slice none 0 0, .slice none 0 0]) ?_ 0 _ rfl; (with_reducible repeat (first | refine kn ?_ _ | refine kd ?_ | refine ka ?_ _)); exact BK179.out) Try.underlying40 rfl (by kernel_rfl)) rfl ?_
        exact ⟨_, _, by first | rfl | (simp [errW_none, errW_some] <;> rfl) | (simp [*, errW_none, errW_some] <;> rfl), by first | exact Kd.R_nil _ _ _ _ _ | exact Kd.N_nil _ _ _ _ _ | exact Kd.V_nil _ _ _ _ _ | exact Kd.Q_nil _ _ _ _ _ | exact Kd.S_nil _ _ _ _ _, by first | exact Kd.R_nil _ _ _ _ _ | exact Kd.N_nil _ _ _ _ _ | exact Kd.V_nil _ _ _ _ _ | exact Kd.Q_nil _ _ _ _ _ | exact Kd.S_nil _ _ _ _ _, by repeat (first | (with_reducible first | exact HB.out | apply ba | apply bn | apply bd | refine bs ?_ GE178.out | refine bs ?_ GE179.out) | exact HB.out)⟩
      · replace c33 := Bool.eq_false_iff.mpr c33
        subst c33
        have H1 : ((spec_l1Copy.f l0_0 l0_1).bind fun bt184 => (if 0 ≤ a1 then (if a1 < (bt184.1.length : Int) then ((spec_l1Set.f (rdOf ByteArray.empty bt184.1 a1) a2 a3).bind fun t192 => (some ((bt184.1.set (a1 : Int).toNat t192), bt184.2, true))) else (none)) else (none))) = some (r1, r2, r3) := by rw [if_neg (show ¬ (false = true) by decide)] at H; exact H
        clear H
        have H := H1
        clear H1
        replace H := Option.bind_eq_some_iff.mp H
        obtain ⟨⟨t184, t187⟩, A360, H⟩ := H
        replace H : (if 0 ≤ a1 then (if a1 < (t184.length : Int) then ((spec_l1Set.f (rdOf ByteArray.empty t184 a1) a2 a3).bind fun t192 => (some ((t184.set (a1 : Int).toNat t192), t187, true))) else (none)) else (none)) = some (r1, r2, r3) := H
        have A36 := AM A360
        clear A360
        by_cases c37 : 0 ≤ a1
        · rw [if_pos c37] at H
          have c37b0 : decide (0 ≤ a1) = true := decide_eq_true c37
          clear c37
          by_cases c38 : a1 < (t184.length : Int)
          · rw [if_pos c38] at H
            have c38b0 : decide (a1 < (t184.length : Int)) = true := decide_eq_true c38
            clear c38
            replace H := Option.bind_eq_some_iff.mp H
            obtain ⟨t192, A390, H⟩ := H
            replace H : (some ((t184.set (a1 : Int).toNat t192), t187, true)) = some (r1, r2, r3) := H
            have A39 := AM A390
            clear A390
            obtain ⟨y193, hy193⟩ : ∃ y_ : List ByteArray, y_ = (t184.set (a1 : Int).toNat t192) := ⟨_, rfl⟩
            replace H : (some (y193, t187, true)) = some (r1, r2, r3) := by first | (rw [hy193]; with_reducible exact H) | (have H2_ := (Option.bind_some _ _).symm.trans H; rw [hy193]; with_reducible exact H2_) | (have H2_ := (Option.bind_some _ _).symm.trans H; with_reducible exact H2_) | with_reducible exact H | (rw [hy193]; exact H) | exact H
            have Ny193 := AM hy193
            clear hy193
            simp only [Option.some.injEq, Prod.mk.injEq] at H
            obtain ⟨rfl, rfl, rfl⟩ := H
            have hnb41 := NB178_179.out
            have hnc41 := NB179_178.out
            have hcz42_0 : wc.cell? ⟨gb178, 0, none⟩ = some (.slice A0_0 l0_0.length c0_0) := (kc BK178.out 0).trans rfl
            have hcz42_1 : wc.cell? ⟨gb178, 1, none⟩ = some (.slice A0_1 l0_1.length c0_1) := (kc BK178.out 1).trans rfl
            have hfz42_0 := kz BK178.out 0
            have hfz42_1 := kz BK178.out 1
            try go_wp2_with (first | ((with_reducible refine gc (f := 58) rfl ?_); refine goesL_ (some 32) rfl rfl Try.func58 (by kernel_rfl) rfl #[.agg #[.slice A0_0 l0_0.length c0_0, .slice A0_1 l0_1.length c0_1]] rfl (by (try simp only [List.map_toArray, List.map_cons, List.map_nil]); first | done | rfl | (simp only [List.length_drop, List.length_take]; rfl)) ?_; (with_reducible refine (spec_l1Copy.calls _ _ l0_0 _ _ l0_1 t184 t187 _ ?side1 ?side2 ?side3 ?side4 A36.out).mono ?_); (case side1 => repeat (first | exact (Cb HR0_0.out HB.out) | (with_reducible refine Ca ?_ _) | (with_reducible refine Cn ?_ _) | (with_reducible refine Cd ?_))); (case side2 => exact HC0_0.out); (case side3 => repeat (first | exact (Cb HR0_1.out HB.out) | (with_reducible refine Ca ?_ _) | (with_reducible refine Cn ?_ _) | (with_reducible refine Cd ?_))); (case side4 => exact HC0_1.out); rintro e w43 ⟨v185, v188, rfl, ho0, ho1, hb⟩; refine ⟨_, rfl, ?_⟩; have n0_ := AM (Rl ho0 (bz (by repeat (first | (with_reducible first | exact HB.out | apply ba | apply bn | apply bd | refine bs ?_ GE178.out | refine bs ?_ GE179.out) | exact HB.out)))); have n1_ := AM (Rl ho1 (bz (by repeat (first | (with_reducible first | exact HB.out | apply ba | apply bn | apply bd | refine bs ?_ GE178.out | refine bs ?_ GE179.out) | exact HB.out)))); have n2_ := AM (kb (g := gb178) (o := .cells #[.slice A0_0 l0_0.length c0_0, .slice A0_1 l0_1.length c0_1] 40 (0, 0)) (by (with_reducible repeat (first | refine kn ?_ _ | refine kd ?_ | refine ka ?_ _)); exact BK178.out) hb); have n3_ := AM (kb (g := gb179) (o := .cells #[.slice none 0 0, .slice none 0 0] 40 (0, 0)) (by (with_reducible repeat (first | refine kn ?_ _ | refine kd ?_ | refine ka ?_ _)); exact BK179.out) hb); have n4_ := AM (bp (by repeat (first | (with_reducible first | exact HB.out | apply ba | apply bn | apply bd | refine bs ?_ GE178.out | refine bs ?_ GE179.out) | exact HB.out)) hb); clear BK178; clear BK179; clear HB; have HO186 := n0_; have HO189 := n1_; have BK178 := n2_; have BK179 := n3_; have HB := n4_; clear n0_ n1_ n2_ n3_ n4_; (try clear hb); (try clear ho0); (try clear ho1)) | ((with_reducible refine gd (N := 10) rfl ?_); refine xe ?hg (N := 10) ?hd (cs := #[.slice none 0 0, .slice none 0 0]) (t := 40) ?hr ?_; (case hd => rfl); (case hg => rfl); (case hr => first | (go_simp; done) | (go_simp; rfl)); intro gb190 hg w44 hbox hb; have n0_ := AM (Rb (by (with_reducible repeat (first | apply Ra | apply Rn | apply Rd)); exact HO186.out) hb); have n1_ := AM (Rb (by (with_reducible repeat (first | apply Ra | apply Rn | apply Rd)); exact HO189.out) hb); have n2_ := AM (kb (g := gb178) (o := .cells #[.slice A0_0 l0_0.length c0_0, .slice A0_1 l0_1.length c0_1] 40 (0, 0)) (by (with_reducible repeat (first | refine kn ?_ _ | refine kd ?_ | refine ka ?_ _)); exact BK178.out) hb); have n3_ := AM (kb (g := gb179) (o := .cells #[.slice none 0 0, .slice none 0 0] 40 (0, 0)) (by (with_reducible repeat (first | refine kn ?_ _ | refine kd ?_ | refine ka ?_ _)); exact BK179.out) hb); have n4_ := AM (bp (by repeat (first | (with_reducible first | exact HB.out | apply ba | apply bn | apply bd | refine bs ?_ GE178.out | refine bs ?_ GE179.out) | exact HB.out)) hb); have n5_ := AM (hbox); have n6_ := AM ((by rw [hg]; exact (bz (by repeat (first | (with_reducible first | exact HB.out | apply ba | apply bn | apply bd | refine bs ?_ GE178.out | refine bs ?_ GE179.out) | exact HB.out))) : w.heap.size ≤ gb190)); have n7_ := AM ((by rw [hg]; exact (bz (by repeat (first | (with_reducible first | exact HB.out | apply ba | apply bn | apply bd | refine bs ?_ GE178.out | refine bs ?_ GE179.out) | exact HB.out))) : w.heap.size ≤ gb190)); have n8_ := AM ((by rw [hg]; exact Nat.ne_of_lt (blk_lt (g := gb178) (o := .cells #[.slice A0_0 l0_0.length c0_0, .slice A0_1 l0_1.length c0_1] 40 (0, 0)) (by (with_reducible repeat (first | refine kn ?_ _ | refine kd ?_ | refine ka ?_ _)); exact BK178.out)) : gb178 ≠ gb190)); have n9_ := AM ((by rw [hg]; exact Nat.ne_of_gt (blk_lt (g := gb178) (o := .cells #[.slice A0_0 l0_0.length c0_0, .slice A0_1 l0_1.length c0_1] 40 (0, 0)) (by (with_reducible repeat (first | refine kn ?_ _ | refine kd ?_ | refine ka ?_ _)); exact BK178.out)) : gb190 ≠ gb178)); have n10_ := AM ((by rw [hg]; exact Nat.ne_of_lt (blk_lt (g := gb179) (o := .cells #[.slice none 0 0, .slice none 0 0] 40 (0, 0)) (by (with_reducible repeat (first | refine kn ?_ _ | refine kd ?_ | refine ka ?_ _)); exact BK179.out)) : gb179 ≠ gb190)); have n11_ := AM ((by rw [hg]; exact Nat.ne_of_gt (blk_lt (g := gb179) (o := .cells #[.slice none 0 0, .slice none 0 0] 40 (0, 0)) (by (with_reducible repeat (first | refine kn ?_ _ | refine kd ?_ | refine ka ?_ _)); exact BK179.out)) : gb190 ≠ gb179)); clear HO186; clear HO189; clear BK178; clear BK179; clear HB; have HO186 := n0_; have HO189 := n1_; have BK178 := n2_; have BK179 := n3_; have HB := n4_; have BK190 := n5_; have GW190 := n6_; have GE190 := n7_; have NB178_190 := n8_; have NB190_178 := n9_; have NB179_190 := n10_; have NB190_179 := n11_; clear n0_ n1_ n2_ n3_ n4_ n5_ n6_ n7_ n8_ n9_ n10_ n11_; clear hb hbox hg; obtain ⟨Ao45, co45, eo45⟩ := Ri HO186.out; subst eo45; have hnb46 := NB190_178.out; have hnc46 := NB178_190.out; have hnb47 := NB190_179.out; have hnc47 := NB179_190.out; have hcz48_0 : w44.cell? ⟨gb190, 0, none⟩ = some (.slice none 0 0) := (kc BK190.out 0).trans rfl; have hcz48_1 : w44.cell? ⟨gb190, 1, none⟩ = some (.slice none 0 0) := (kc BK190.out 1).trans rfl; have hfz48_0 := kz BK190.out 0; have hfz48_1 := kz BK190.out 1; obtain ⟨Ao49, co49, eo49⟩ := Ri HO189.out; subst eo49))
            have n0_ : Aside0 (Kd.R Kd.string 9 ((w44.setCell ⟨gb190, 0, none⟩ (.slice Ao45 t184.length co45)).setCell ⟨gb190, 1, none⟩ (.slice Ao49 t187.length co49)) w.heap.size (fun _ => True) (.slice Ao45 t184.length co45) t184) := ⟨by (with_reducible repeat (first | apply Ra | apply Rn | apply Rd)); exact Rm (Rf (p := ⟨gb190, 1, none⟩) (Rf (p := ⟨gb190, 0, none⟩) (Rt HO186.out BK190.out (by decide)) (fun _ hk => hk.2) (.slice Ao45 t184.length co45)) (fun _ hk => hk.2) (.slice Ao49 t187.length co49)) (fun _ hk => trivial)⟩
            have n1_ : Aside0 (Kd.R (Kd.int .i64) 3 ((w44.setCell ⟨gb190, 0, none⟩ (.slice Ao45 t184.length co45)).setCell ⟨gb190, 1, none⟩ (.slice Ao49 t187.length co49)) w.heap.size (fun _ => True) (.slice Ao49 t187.length co49) t187) := ⟨by (with_reducible repeat (first | apply Ra | apply Rn | apply Rd)); exact Rm (Rf (p := ⟨gb190, 1, none⟩) (Rf (p := ⟨gb190, 0, none⟩) (Rt HO189.out BK190.out (by decide)) (fun _ hk => hk.2) (.slice Ao45 t184.length co45)) (fun _ hk => hk.2) (.slice Ao49 t187.length co49)) (fun _ hk => trivial)⟩
            have n2_ : Aside0 (((w44.setCell ⟨gb190, 0, none⟩ (.slice Ao45 t184.length co45)).setCell ⟨gb190, 1, none⟩ (.slice Ao49 t187.length co49)).heap[gb178]? = some (.cells #[.slice A0_0 l0_0.length c0_0, .slice A0_1 l0_1.length c0_1] 40 (0, 0))) := ⟨by (with_reducible repeat (first | refine kn ?_ _ | refine kd ?_ | refine ka ?_ _)); refine kf ?_ NB178_190.out _; (with_reducible repeat (first | refine kn ?_ _ | refine kd ?_ | refine ka ?_ _)); refine kf ?_ NB178_190.out _; (with_reducible repeat (first | refine kn ?_ _ | refine kd ?_ | refine ka ?_ _)); exact BK178.out⟩
            have n3_ : Aside0 (((w44.setCell ⟨gb190, 0, none⟩ (.slice Ao45 t184.length co45)).setCell ⟨gb190, 1, none⟩ (.slice Ao49 t187.length co49)).heap[gb179]? = some (.cells #[.slice none 0 0, .slice none 0 0] 40 (0, 0))) := ⟨by (with_reducible repeat (first | refine kn ?_ _ | refine kd ?_ | refine ka ?_ _)); refine kf ?_ NB179_190.out _; (with_reducible repeat (first | refine kn ?_ _ | refine kd ?_ | refine ka ?_ _)); refine kf ?_ NB179_190.out _; (with_reducible repeat (first | refine kn ?_ _ | refine kd ?_ | refine ka ?_ _)); exact BK179.out⟩
            have n4_ : Aside0 (((w44.setCell ⟨gb190, 0, none⟩ (.slice Ao45 t184.length co45)).setCell ⟨gb190, 1, none⟩ (.slice Ao49 t187.length co49)).heap[gb190]? = some (.cells #[.slice Ao45 t184.length co45, .slice Ao49 t187.length co49] 40 (0, 0))) := ⟨by (with_reducible repeat (first | refine kn ?_ _ | refine kd ?_ | refine ka ?_ _)); refine blk_put (cs := #[.slice Ao45 t184.length co45, .slice none 0 0]) ?_ 1 _ rfl; (with_reducible repeat (first | refine kn ?_ _ | refine kd ?_ | refine ka ?_ _)); refine blk_put (cs := #[.slice none 0 0, .slice none 0 0]) ?_ 0 _ rfl; (with_reducible repeat (first | refine kn ?_ _ | refine kd ?_ | refine ka ?_ _)); exact BK190.out⟩
            have n5_ : Aside0 (Below w.heap.size w ((w44.setCell ⟨gb190, 0, none⟩ (.slice Ao45 t184.length co45)).setCell ⟨gb190, 1, none⟩ (.slice Ao49 t187.length co49))) := ⟨by repeat (first | (with_reducible first | exact HB.out | apply ba | apply bn | apply bd | refine bs ?_ GE178.out | refine bs ?_ GE179.out | refine bs ?_ GE190.out) | exact HB.out)⟩
            (try clear HO186)
            (try clear HO189)
            (try clear BK178)
            (try clear BK179)
            (try clear BK190)
            (try clear HB)
            generalize ((w44.setCell ⟨gb190, 0, none⟩ (.slice Ao45 t184.length co45)).setCell ⟨gb190, 1, none⟩ (.slice Ao49 t187.length co49)) = w50 at n0_ n1_ n2_ n3_ n4_ n5_ ⊢
            have HO186 := n0_
            have HO189 := n1_
            have BK178 := n2_
            have BK179 := n3_
            have BK190 := n4_
            have HB := n5_
            clear n0_ n1_ n2_ n3_ n4_ n5_
            have n0_ := AM (Rd HO186.out)
            have n1_ := AM (Rd HO189.out)
            have n2_ := AM (kd BK178.out)
            have n3_ := AM (kd BK179.out)
            have n4_ := AM (kd BK190.out)
            have n5_ := AM (bd HB.out)
            clear HO186
            clear HO189
            clear BK178
            clear BK179
            clear BK190
            clear HB
            have HO186 := n0_
            have HO189 := n1_
            have BK178 := n2_
            have BK179 := n3_
            have BK190 := n4_
            have HB := n5_
            clear n0_ n1_ n2_ n3_ n4_ n5_
            have p191 : 0 ≤ (a1 : Int) := of_decide_eq_true (by first | (with_reducible assumption) | assumption)
            have q191 : a1 < (t184.length : Int) := of_decide_eq_true (by first | (with_reducible assumption) | assumption)
            obtain ⟨ad191, e191, hx191_0⟩ := Kd.at_string (Rr HO186.out).2.2 a1 p191 q191
            cases e191
            replace p191 := eq_true p191
            replace q191 := eq_true q191
            refine start_ (n := 13) (S := fun w' => w'.cell? ⟨gb190, 0, none⟩ = some (.slice (some ad191) t184.length co45) ∧ w'.cell? ⟨gb190, 1, none⟩ = some (.slice Ao49 t187.length co49) ∧ w'.cell? (ad191.add (a1).toNat) = some (.string (rdOf ByteArray.empty t184 a1))) (ds := [12]) #[false, false, false, false, false, false, false, false, false, false, false, false, false] (by kernel_rfl) rfl rfl ⟨(kc BK190.out 0).trans rfl, (kc BK190.out 1).trans rfl, hx191_0⟩ (fun hHeld => ?_); refine with_tabW spec_PagesSet.tab4 spec_PagesSet.bits4 (fun HT_ HW_ => ?_)
            generalize w50.drew = w51 at HO186 HO189 BK178 BK179 BK190 HB hx191_0 hHeld ⊢
            refine pure_ (i := 0) (N := some 33) (v := ?_) (a' := ?_) #[true, false, false, false, false, false, false, false, false, false, false, false, false] rfl rfl (any_of HT_.out (by kernel_rfl)) (fun _ _ _ h => h) (Or.inl ⟨by rfl, ?_⟩) ?_ ?_
            rotate_left
            · intro w'
              go_simp
              with_reducible rfl
            rotate_left
            · simp only [Act.put, List.setIfInBounds_toArray, List.set_cons_zero, List.set_cons_succ, i64_w, i32_w]
              rfl
            refine pure_ (i := 2) (N := some 35) (v := ?_) (a' := ?_) #[true, false, true, false, false, false, false, false, false, false, false, false, false] rfl rfl (any_of HT_.out (by kernel_rfl)) (fun _ _ _ h => h) (Or.inl ⟨by rfl, ?_⟩) ?_ ?_
            rotate_left
            · intro w'
              go_simp
              with_reducible rfl
            rotate_left
            · simp only [Act.put, List.setIfInBounds_toArray, List.set_cons_zero, List.set_cons_succ, i64_w, i32_w]
              rfl
            refine pure_ (i := 3) (N := some 36) (v := ?_) (a' := ?_) #[true, false, true, true, false, false, false, false, false, false, false, false, false] rfl rfl (any_of HT_.out (by kernel_rfl)) (fun _ _ _ h => h) (Or.inl ⟨by rfl, ?_⟩) ?_ ?_
            rotate_left
            · intro w'
              go_simp
              with_reducible rfl
            rotate_left
            · simp only [Act.put, List.setIfInBounds_toArray, List.set_cons_zero, List.set_cons_succ, i64_w, i32_w]
              rfl
            refine pure_ (i := 5) (N := some 38) (v := ?_) (a' := ?_) #[true, false, true, true, false, true, false, false, false, false, false, false, false] rfl rfl (any_of HT_.out (by kernel_rfl)) (fun _ _ _ h => h) (Or.inl ⟨by rfl, ?_⟩) ?_ ?_
            rotate_left
            · intro w'
              go_simp
              with_reducible rfl
            rotate_left
            · simp only [Act.put, List.setIfInBounds_toArray, List.set_cons_zero, List.set_cons_succ, i64_w, i32_w]
              rfl
            refine pure_ (i := 8) (N := some 41) (v := ?_) (a' := ?_) #[true, false, true, true, false, true, false, false, true, false, false, false, false] rfl rfl (any_of HT_.out (by kernel_rfl)) (fun _ _ _ h => h) (Or.inl ⟨by rfl, ?_⟩) ?_ ?_
            rotate_left
            · intro w'
              go_simp
              with_reducible rfl
            rotate_left
            · simp only [Act.put, List.setIfInBounds_toArray, List.set_cons_zero, List.set_cons_succ, i64_w, i32_w]
              rfl
            refine pure_ (i := 9) (N := some 42) (v := ?_) (a' := ?_) #[true, false, true, true, false, true, false, false, true, true, false, false, false] rfl rfl (any_of HT_.out (by kernel_rfl)) (fun _ _ _ h => h) (Or.inl ⟨by rfl, ?_⟩) ?_ ?_
            rotate_left
            · intro w'
              go_simp
              with_reducible rfl
            rotate_left
            · simp only [Act.put, List.setIfInBounds_toArray, List.set_cons_zero, List.set_cons_succ, i64_w, i32_w]
              rfl
            refine take_ (i := 1) (N := some 34) (v := ?_) (a' := ?_) #[true, true, true, true, false, true, false, false, true, true, false, false, false] rfl rfl (take_ofW HT_.out HW_.out (by kernel_rfl)) (fun _ _ _ h => h) (Or.inl ⟨by rfl, ?_⟩) hHeld ?_ ?_
            rotate_left
            · rintro w' ⟨s0, s1, s2⟩
              go_simp
              with_reducible rfl
            rotate_left
            · simp only [Act.put, List.setIfInBounds_toArray, List.set_cons_zero, List.set_cons_succ, i64_w, i32_w]
              rfl
            refine take_ (i := 4) (N := some 37) (v := ?_) (a' := ?_) #[true, true, true, true, true, true, false, false, true, true, false, false, false] rfl rfl (take_ofW HT_.out HW_.out (by kernel_rfl)) (fun _ _ _ h => h) (Or.inl ⟨by rfl, ?_⟩) hHeld ?_ ?_
            rotate_left
            · rintro w' ⟨s0, s1, s2⟩
              go_simp
              with_reducible rfl
            rotate_left
            · simp only [Act.put, List.setIfInBounds_toArray, List.set_cons_zero, List.set_cons_succ, i64_w, i32_w]
              rfl
            refine pure_ (i := 6) (N := some 39) (v := ?_) (a' := ?_) #[true, true, true, true, true, true, true, false, true, true, false, false, false] rfl rfl (any_of HT_.out (by kernel_rfl)) (fun _ _ _ h => h) (Or.inl ⟨by rfl, ?_⟩) ?_ ?_
            rotate_left
            · intro w'
              go_simp
              with_reducible rfl
            rotate_left
            · simp only [Act.put, List.setIfInBounds_toArray, List.set_cons_zero, List.set_cons_succ, i64_w, i32_w]
              rfl
            refine take_ (i := 7) (N := some 40) (v := ?_) (a' := ?_) #[true, true, true, true, true, true, true, true, true, true, false, false, false] rfl rfl (take_ofW HT_.out HW_.out (by kernel_rfl)) (fun _ _ _ h => h) (Or.inl ⟨by rfl, ?_⟩) hHeld ?_ ?_
            rotate_left
            · rintro w' ⟨s0, s1, s2⟩
              go_simp
              with_reducible rfl
            rotate_left
            · simp only [Act.put, List.setIfInBounds_toArray, List.set_cons_zero, List.set_cons_succ, i64_w, i32_w]
              rfl
            refine one_ (i := 10) (N := some 43) #[true, true, true, true, true, true, true, true, true, true, true, false, false] rfl rfl (one_of HT_.out (by kernel_rfl)) (by decide) (fun K hK => ?_)
            refine goes_ Try.func71 (by kernel_rfl) rfl #[.string (rdOf ByteArray.empty t184 a1), .int .i64 a2, .int .i64 a3] (by rfl) rfl rfl (by (try simp only [List.map_toArray, List.map_cons, List.map_nil]); first | done | rfl | (simp only [List.length_drop, List.length_take]; rfl)) ?_
            with_reducible refine (spec_l1Set.calls (rdOf ByteArray.empty t184 a1) a2 a3 t192 _ A39.out).mono ?_
            rintro e w52 ⟨rfl, hb⟩
            have HS2_ := (hb.cell (World.block_lt_of_cell? _ _ (hHeld.2.2))).trans (hHeld.2.2)
            refine ⟨_, rfl, ?_⟩
            have n0_ := AM (Rb (by (with_reducible repeat (first | apply Ra | apply Rn | apply Rd)); exact HO186.out) hb)
            have n1_ := AM (Rb (by (with_reducible repeat (first | apply Ra | apply Rn | apply Rd)); exact HO189.out) hb)
            have n2_ := AM (kb (g := gb178) (o := .cells #[.slice A0_0 l0_0.length c0_0, .slice A0_1 l0_1.length c0_1] 40 (0, 0)) (by (with_reducible repeat (first | refine kn ?_ _ | refine kd ?_ | refine ka ?_ _)); exact BK178.out) hb)
            have n3_ := AM (kb (g := gb179) (o := .cells #[.slice none 0 0, .slice none 0 0] 40 (0, 0)) (by (with_reducible repeat (first | refine kn ?_ _ | refine kd ?_ | refine ka ?_ _)); exact BK179.out) hb)
            have n4_ := AM (kb (g := gb190) (o := .cells #[.slice (some ad191) t184.length co45, .slice Ao49 t187.length co49] 40 (0, 0)) (by (with_reducible repeat (first | refine kn ?_ _ | refine kd ?_ | refine ka ?_ _)); exact BK190.out) hb)
            have n5_ := AM (bp (by repeat (first | (with_reducible first | exact HB.out | apply ba | apply bn | apply bd | refine bs ?_ GE178.out | refine bs ?_ GE179.out | refine bs ?_ GE190.out) | exact HB.out)) hb)
            clear HO186
            clear HO189
            clear BK178
            clear BK179
            clear BK190
            clear HB
            have HO186 := n0_
            have HO189 := n1_
            have BK178 := n2_
            have BK179 := n3_
            have BK190 := n4_
            have HB := n5_
            clear n0_ n1_ n2_ n3_ n4_ n5_
            (try clear hb)
            (try clear hb2)
            (try clear hk)
            (try clear hi)
            have p40 : 0 ≤ (a1 : Int) := of_decide_eq_true (by first | (with_reducible assumption) | assumption)
            have q40 : (a1 : Int) < ((t184.length : Int) : Int) := of_decide_eq_true (by first | (with_reducible assumption) | assumption)
            obtain ⟨go40, co40, eo40, gb40, gl40, cl40, HG40⟩ := Kd.R_form HO186.out (by omega)
            (first | cases eo40 | (injection eo40 with ea_ en_ ec_; (first | subst ea_ | (injection ea_ with ea_; subst ea_)); subst ec_; clear en_))
            have GB40 := AM gb40
            have GG40 := AM HG40
            clear gb40 gl40 HG40
            (first | simp only [add_plain] at hx191_0 | skip)
            obtain ⟨hx40_0, hf40_0⟩ := Kd.R_celln (⟨#[]⟩ : ByteArray) HO186.out (a1 : Int) p40 q40
            replace p40 := eq_true p40
            replace q40 := eq_true q40
            have HP53 := Kd.R_putn HO186.out (a1 : Int) t192
            rw [← Ny193.out] at HP53
            have HQ53 := AM HP53
            clear HP53
            refine hK.out _ _ ⟨(kc BK190.out 0).trans rfl, (kc BK190.out 1).trans rfl, HS2_⟩ (fun hHeld => ?_)
            clear hK K
            refine norm_ (a' := ?_) ?_ ?_
            rotate_left
            · show Act.put _ (some 43) _ = _
              simp only [Act.put, List.setIfInBounds_toArray, List.set_cons_zero, List.set_cons_succ, i64_w, i32_w]
              rfl
            refine pure_ (i := 11) (N := some 44) (v := ?_) (a' := ?_) #[true, true, true, true, true, true, true, true, true, true, true, true, false] rfl rfl (any_of HT_.out (by kernel_rfl)) (fun _ _ _ h => h) (Or.inl ⟨by rfl, ?_⟩) ?_ ?_
            rotate_left
            · intro w'
              go_simp
              with_reducible rfl
            rotate_left
            · simp only [Act.put, List.setIfInBounds_toArray, List.set_cons_zero, List.set_cons_succ, i64_w, i32_w]
              rfl
            refine last_ (i := 12) (N := none) #[true, true, true, true, true, true, true, true, true, true, true, true, true] rfl rfl (one_of HT_.out (by kernel_rfl)) (by decide) (fun K hK => ?_)
            refine skip_ (w1 := ?_) (by rfl) rfl ?_ ?_
            rotate_left
            · go_simp
              rfl
            refine hK.out _ _ ?_
            clear hK K
            refine done_ (done_of HT_.out (by kernel_rfl)) ?_
            have n0_ : Aside0 (Kd.R Kd.string 9 (w52.setCell ⟨go40, (a1 : Int).toNat, none⟩ (.string t192)) w.heap.size (fun _ => True) (.slice (some ⟨go40, 0, none⟩) t184.length co45) y193) := ⟨by (with_reducible repeat (first | apply Ra | apply Rn | apply Rd)); exact HQ53.out⟩
            have n1_ : Aside0 (Kd.R (Kd.int .i64) 3 (w52.setCell ⟨go40, (a1 : Int).toNat, none⟩ (.string t192)) w.heap.size (fun _ => True) (.slice Ao49 t187.length co49) t187) := ⟨by (with_reducible repeat (first | apply Ra | apply Rn | apply Rd)); exact Rm (Rf (p := ⟨go40, (a1 : Int).toNat, none⟩) (Rt HO189.out GG40.out (by decide)) (fun _ hk => hk.2) (.string t192)) (fun _ hk => trivial)⟩
            have n2_ : Aside0 ((w52.setCell ⟨go40, (a1 : Int).toNat, none⟩ (.string t192)).heap[gb178]? = some (.cells #[.slice A0_0 l0_0.length c0_0, .slice A0_1 l0_1.length c0_1] 40 (0, 0))) := ⟨by (with_reducible repeat (first | refine kn ?_ _ | refine kd ?_ | refine ka ?_ _)); refine kf ?_ (by have h_ := Kd.R_ne HO186.out BK178.out (by decide); intro e_; exact h_ (by rw [e_]; rfl)) _; (with_reducible repeat (first | refine kn ?_ _ | refine kd ?_ | refine ka ?_ _)); exact BK178.out⟩
            have n3_ : Aside0 ((w52.setCell ⟨go40, (a1 : Int).toNat, none⟩ (.string t192)).heap[gb179]? = some (.cells #[.slice none 0 0, .slice none 0 0] 40 (0, 0))) := ⟨by (with_reducible repeat (first | refine kn ?_ _ | refine kd ?_ | refine ka ?_ _)); refine kf ?_ (by have h_ := Kd.R_ne HO186.out BK179.out (by decide); intro e_; exact h_ (by rw [e_]; rfl)) _; (with_reducible repeat (first | refine kn ?_ _ | refine kd ?_ | refine ka ?_ _)); exact BK179.out⟩
            have n4_ : Aside0 ((w52.setCell ⟨go40, (a1 : Int).toNat, none⟩ (.string t192)).heap[gb190]? = some (.cells #[.slice (some ⟨go40, 0, none⟩) t184.length co45, .slice Ao49 t187.length co49] 40 (0, 0))) := ⟨by (with_reducible repeat (first | refine kn ?_ _ | refine kd ?_ | refine ka ?_ _)); refine kf ?_ (by have h_ := Kd.R_ne HO186.out BK190.out (by decide); intro e_; exact h_ (by rw [e_]; rfl)) _; (with_reducible repeat (first | refine kn ?_ _ | refine kd ?_ | refine ka ?_ _)); exact BK190.out⟩
            have n5_ : Aside0 (Below w.heap.size w (w52.setCell ⟨go40, (a1 : Int).toNat, none⟩ (.string t192))) := ⟨by repeat (first | (with_reducible first | exact HB.out | apply ba | apply bn | apply bd | refine bs ?_ GB40.out | refine bs ?_ GE178.out | refine bs ?_ GE179.out | refine bs ?_ GE190.out) | exact HB.out)⟩
            (try clear HO186)
            (try clear HO189)
            (try clear BK178)
            (try clear BK179)
            (try clear BK190)
            (try clear HB)
            generalize (w52.setCell ⟨go40, (a1 : Int).toNat, none⟩ (.string t192)) = w54 at n0_ n1_ n2_ n3_ n4_ n5_ ⊢
            have HO186 := n0_
            have HO189 := n1_
            have BK178 := n2_
            have BK179 := n3_
            have BK190 := n4_
            have HB := n5_
            clear n0_ n1_ n2_ n3_ n4_ n5_
            have hcz55_0 : w54.cell? ⟨gb190, 0, none⟩ = some (.slice (some ⟨go40, 0, none⟩) t184.length co45) := (kc BK190.out 0).trans rfl
            have hcz55_1 : w54.cell? ⟨gb190, 1, none⟩ = some (.slice Ao49 t187.length co49) := (kc BK190.out 1).trans rfl
            have hfz55_0 := kz BK190.out 0
            have hfz55_1 := kz BK190.out 1
            have hcz56_0 : w54.cell? ⟨gb179, 0, none⟩ = some (.slice none 0 0) := (kc BK179.out 0).trans rfl
            have hcz56_1 : w54.cell? ⟨gb179, 1, none⟩ = some (.slice none 0 0) := (kc BK179.out 1).trans rfl
            have hfz56_0 := kz BK179.out 0
            have hfz56_1 := kz BK179.out 1
            try go_wp2
            refine bodyPost_ret (results_ct rfl _ _ gb179 40 #[.slice (some ⟨go40, 0, none⟩) t184.length co45, .slice Ao49 t187.length co49] (0, 0) _ rfl (by (with_reducible repeat (first | refine kn ?_ _ | refine kd ?_ | refine ka ?_ _)); refine blk_put (cs := #[.slice (some ⟨go40, 0, none⟩) t184.length co45, .slice none 0 0]) ?_ 1 _ rfl; (with_reducible repeat (first | refine kn ?_ _ | refine kd ?_ | refine ka ?_ _)); refine blk_put (cs := #[.slice none 0 0, .slice none 0 0]) ?_ 0 _ rfl; (with_reducible repeat (first | refine kn ?_ _ | refine kd ?_ | refine ka ?_ _)); exact BK179.out) Try.underlying40 rfl (by kernel_rfl)) rfl ?_
            exact ⟨_, _, by first | rfl | (simp [errW_none, errW_some] <;> rfl) | (simp [*, errW_none, errW_some] <;> rfl), by (with_reducible repeat (first | apply Ra | apply Rn | apply Rd)); exact Rm (Rf (p := ⟨gb179, 1, none⟩) (Rf (p := ⟨gb179, 0, none⟩) (Rt HO186.out BK179.out (by decide)) (fun _ hk => hk.2) (.slice (some ⟨go40, 0, none⟩) t184.length co45)) (fun _ hk => hk.2) (.slice Ao49 t187.length co49)) (fun _ hk => trivial), by (with_reducible repeat (first | apply Ra | apply Rn | apply Rd)); exact Rm (Rf (p := ⟨gb179, 1, none⟩) (Rf (p := ⟨gb179, 0, none⟩) (Rt HO189.out BK179.out (by decide)) (fun _ hk => hk.2) (.slice (some ⟨go40, 0, none⟩) t184.length co45)) (fun _ hk => hk.2) (.slice Ao49 t187.length co49)) (fun _ hk => trivial), by repeat (first | (with_reducible first | exact HB.out | apply ba | apply bn | apply bd | refine bs ?_ GE178.out | refine bs ?_ GE179.out | refine bs ?_ GE190.out) | exact HB.out)⟩
          · rw [if_neg c38] at H
            exact absurd H (by simp)
        · rw [if_neg c37] at H
          exact absurd H (by simp)

/-! ### impl_in: function 42 -/
def impl_in.f (a0 : Int) (a1 : Int) (a2 : Int) : Option (Bool) := if a0 ≥ a1 then (some (decide (a0 ≤ a2))) else (some false)
set_option maxHeartbeats 8000000 in
set_option maxRecDepth 100000 in
theorem impl_in.calls (a0 : Int) (a1 : Int) (a2 : Int) (r : Bool) (w : World) (h : impl_in.f a0 a1 a2 = some r) :
    Calls Try.prog 42 #[.int .i64 a0, .int .i64 a1, .int .i64 a2] w fun e w' => e = .returned (.bool r) ∧ Drawn0 w w' := by
  have H : (if a0 ≥ a1 then (some (decide (a0 ≤ a2))) else (some false)) = some r := h
  clear h
  by_cases c4 : a0 ≥ a1
  · rw [if_pos c4] at H
    have c4b0 : decide (a1 ≤ a0) = true := decide_eq_true c4
    clear c4
    obtain rfl := Option.some.inj H
    go_enter Try.func42, Try.ntmps42
    go_wp2
    go_ret
    exact ⟨by first | rfl | (simp; done) | (simp [*]; done), by repeat (first | exact Drawn0.refl _ | apply Drawn0.step)⟩
  · rw [if_neg c4] at H
    have c4b0 : decide (a1 ≤ a0) = false := decide_eq_false c4
    clear c4
    obtain rfl := Option.some.inj H
    go_enter Try.func42, Try.ntmps42
    go_wp2
    go_ret
    exact ⟨by first | rfl | (simp; done) | (simp [*]; done), by repeat (first | exact Drawn0.refl _ | apply Drawn0.step)⟩

end Go.Proofs.Ytfbdkjdockbfdaa.GPset
