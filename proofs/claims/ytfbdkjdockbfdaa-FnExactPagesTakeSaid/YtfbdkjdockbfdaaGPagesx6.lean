-- Written by this session's program hp.py (over the kit's printer) and out of its own hand texts. Not trusted: Lean checks it.
import Derived.Test.YtfbdkjdockbfdaaGPagesx0
import Derived.Test.YtfbdkjdockbfdaaGPagesx5
namespace Go.Proofs.Ytfbdkjdockbfdaa.GPages
open Go.RowKit Go.Proofs.YtfbdkjdockbfdaaW.PrintWords Go.Proofs.YtfbdkjdockbfdaaW.PrintLast Go.Proofs.YtfbdkjdockbfdaaW.PrintMore
attribute [local go_sem] max2_int min2_int max_two min_two max_three min_three max_four min_four   -- for this text's walks alone
set_option linter.unusedVariables false
set_option linter.unusedSimpArgs false

/-! ### impl_PagesTake: function 25 -/
open Go.Proofs.YtfbdkjdockbfdaaW.PrintWords.Aside0 renaming mk → AM
open Go.Proofs.YtfbdkjdockbfdaaW.PrintWords renaming below_alloc → ba, pw_below_drewN → bn, below_drew1 → bd, below_set → bs, blk_drewN → kn, blk_drew → kd, blk_alloc → ka, blk_far → kf, blk_cell → kc, blk_frozen → kz, blk_below → kb, below_size → bz, below_step → bp, box_event → xe, store_event → se, gate_callee → gc, gate_dst → gd, gate_store → gs, gate_guard → gg
open Go.Proofs.YtfbdkjdockbfdaaW.PrintWords.Kd renaming R_alloc → Ra, R_drewN → Rn, R_drew → Rd, R_mono → Rm, R_below → Rb, R_far → Rf, R_types → Rt, R_lower → Rl, C_alloc → Ca, C_drewN → Cn, C_drew → Cd, C_below → Cb, R_slice → Ri
def impl_PagesTake.j0 : Nat → ByteArray → Bool → List ByteArray → List Int → Option (List ByteArray × List Int × Int × Bool)
  | 0, _, _, _, _ => none
  | k + 1, x1, x21, x218000, x218001 => if x21 = true then (some (([] : List ByteArray), ([] : List Int), (-1), false)) else ((impl_Pages_free.f k x218000 x218001).bind fun t221 => ((impl_Pages_clone.f x218000 x218001).bind fun bt222 => (if 0 ≤ t221 then (if t221 < (bt222.1.length : Int) then (if t221 < (bt222.2.length : Int) then (some ((bt222.1.set (t221 : Int).toNat x1), (bt222.2.set (t221 : Int).toNat 1), t221, true)) else (none)) else (none)) else (none))))
def impl_PagesTake.f (k : Nat) (l0_0 : List ByteArray) (l0_1 : List Int) (a1 : ByteArray) : Option (List ByteArray × List Int × Int × Bool) := (impl_PagesOk.f k l0_0 l0_1).bind fun t219 => (if t219 = true then (if (a1.size : Int) = 4 then ((impl_Pages_free.f k l0_0 l0_1).bind fun t220 => (impl_PagesTake.j0 k a1 (decide (t220 < 0)) l0_0 l0_1)) else (impl_PagesTake.j0 k a1 true l0_0 l0_1)) else (impl_PagesTake.j0 k a1 true l0_0 l0_1))
theorem impl_PagesTake.mono_l : ∀ k, (∀ y0 y1 y2 y3, LeO (impl_PagesTake.j0 k y0 y1 y2 y3) (impl_PagesTake.j0 (k + 1) y0 y1 y2 y3))
  | 0 => fun _ _ _ _ r h => by simp [impl_PagesTake.j0] at h
  | k + 1 => by
    have ih0 := impl_PagesTake.mono_l k
    · intro y0 y1 y2 y3
      unfold impl_PagesTake.j0
      repeat' first
      | (with_reducible exact ih0 _ _ _ _)
      | (with_reducible exact impl_PagesOk.mono _ _ _)
      | (with_reducible exact impl_Pages_free.mono _ _ _)
      | (with_reducible exact LeO.refl _)
      | (with_reducible exact LeO.none _)
      | (with_reducible refine LeO.ite ?_ ?_)
      | (with_reducible refine LeO.bind ?_ (fun _ => ?_))
      | exact ih0 _ _ _ _
      | exact impl_PagesOk.mono _ _ _
      | exact impl_Pages_free.mono _ _ _
      | exact LeO.none _
      | refine LeO.ite ?_ ?_
      | refine LeO.bind ?_ (fun _ => ?_)
theorem impl_PagesTake.mono : ∀ a0 a1 a2 k, LeO (impl_PagesTake.f k a0 a1 a2) (impl_PagesTake.f (k + 1) a0 a1 a2) := by
  intro a0 a1 a2 k
  have ih0 := impl_PagesTake.mono_l k
  unfold impl_PagesTake.f
  repeat' first
      | (with_reducible exact ih0 _ _ _ _)
      | (with_reducible exact impl_PagesOk.mono _ _ _)
      | (with_reducible exact impl_Pages_free.mono _ _ _)
      | (with_reducible exact LeO.refl _)
      | (with_reducible exact LeO.none _)
      | (with_reducible refine LeO.ite ?_ ?_)
      | (with_reducible refine LeO.bind ?_ (fun _ => ?_))
      | exact ih0 _ _ _ _
      | exact impl_PagesOk.mono _ _ _
      | exact impl_Pages_free.mono _ _ _
      | exact LeO.none _
      | refine LeO.ite ?_ ?_
      | refine LeO.bind ?_ (fun _ => ?_)
set_option maxHeartbeats 8000000 in
set_option maxRecDepth 100000 in
theorem impl_PagesTake.calls (k : Nat) (A0_0 : Option Addr) (c0_0 : Nat) (l0_0 : List ByteArray) (A0_1 : Option Addr) (c0_1 : Nat) (l0_1 : List Int) (a1 : ByteArray) (r1 : List ByteArray) (r2 : List Int) (r3 : Int) (r4 : Bool) (w : World) (hr0_0 : Kd.C Kd.string w A0_0 l0_0.length l0_0) (hc0_0 : l0_0.length ≤ c0_0) (hr0_1 : Kd.C (Kd.int .i64) w A0_1 l0_1.length l0_1) (hc0_1 : l0_1.length ≤ c0_1) (h : impl_PagesTake.f k l0_0 l0_1 a1 = some (r1, r2, r3, r4)) :
    Calls Try.prog 25 #[.agg #[.slice A0_0 l0_0.length c0_0, .slice A0_1 l0_1.length c0_1], .string a1] w fun e w' => ∃ v0_ v1_ : Value, e = .returned (.tuple #[.agg #[v0_, v1_], .int .i64 r3, .bool r4]) ∧ Kd.R Kd.string 9 w' w.heap.size (fun _ => True) v0_ r1 ∧ Kd.R (Kd.int .i64) 3 w' w.heap.size (fun _ => True) v1_ r2 ∧ Below w.heap.size w w' := by
  have hu40 := Try.underlying40
  have HR0_0 := AM hr0_0
  have HC0_0 := AM hc0_0
  clear hr0_0 hc0_0
  have HR0_1 := AM hr0_1
  have HC0_1 := AM hc0_1
  clear hr0_1 hc0_1
  have HB := AM (Below.refl w.heap.size w)
  have H : ((impl_PagesOk.f k l0_0 l0_1).bind fun t219 => (if t219 = true then (if (a1.size : Int) = 4 then ((impl_Pages_free.f k l0_0 l0_1).bind fun t220 => (impl_PagesTake.j0 k a1 (decide (t220 < 0)) l0_0 l0_1)) else (impl_PagesTake.j0 k a1 true l0_0 l0_1)) else (impl_PagesTake.j0 k a1 true l0_0 l0_1))) = some (r1, r2, r3, r4) := h
  clear h
  have HC3 := AM H
  clear H
  go_enter Try.func25, Try.ntmps25
  go_upto_region 1 with (first | ((with_reducible refine gd (N := 2) rfl ?_); (try (refine gg (by rfl) ?_; dsimp only)); refine xe ?hg (N := 2) ?hd (cs := #[.slice A0_0 l0_0.length c0_0, .slice A0_1 l0_1.length c0_1]) (t := 40) ?hr ?_; (case hd => rfl); (case hg => rfl); (case hr => first | (go_simp; done) | (go_simp; rfl)); intro gb217 hg w4 hbox hb; have n0_ := AM (bp (by repeat (first | (with_reducible first | exact HB.out | apply ba | apply bn | apply bd) | exact HB.out)) hb); have n1_ := AM (hbox); have n2_ := AM ((by rw [hg]; exact (bz (by repeat (first | (with_reducible first | exact HB.out | apply ba | apply bn | apply bd) | exact HB.out))) : w.heap.size ≤ gb217)); have n3_ := AM ((by rw [hg]; exact (bz (by repeat (first | (with_reducible first | exact HB.out | apply ba | apply bn | apply bd) | exact HB.out))) : w.heap.size ≤ gb217)); clear HB; have HB := n0_; have BK217 := n1_; have GW217 := n2_; have GE217 := n3_; clear n0_ n1_ n2_ n3_; clear hb hbox hg) | ((with_reducible refine gd (N := 4) rfl ?_); (try (refine gg (by rfl) ?_; dsimp only)); refine xe ?hg (N := 4) ?hd (cs := #[.slice none 0 0, .slice none 0 0]) (t := 40) ?hr ?_; (case hd => rfl); (case hg => rfl); (case hr => first | (go_simp; done) | (go_simp; rfl)); intro gb218 hg w5 hbox hb; have n0_ := AM (kb (g := gb217) (o := .cells #[.slice A0_0 l0_0.length c0_0, .slice A0_1 l0_1.length c0_1] 40 (0, 0)) (by (with_reducible repeat (first | refine kn ?_ _ | refine kd ?_ | refine ka ?_ _)); exact BK217.out) hb); have n1_ := AM (bp (by repeat (first | (with_reducible first | exact HB.out | apply ba | apply bn | apply bd | refine bs ?_ GE217.out) | exact HB.out)) hb); have n2_ := AM (hbox); have n3_ := AM ((by rw [hg]; exact (bz (by repeat (first | (with_reducible first | exact HB.out | apply ba | apply bn | apply bd | refine bs ?_ GE217.out) | exact HB.out))) : w.heap.size ≤ gb218)); have n4_ := AM ((by rw [hg]; exact (bz (by repeat (first | (with_reducible first | exact HB.out | apply ba | apply bn | apply bd | refine bs ?_ GE217.out) | exact HB.out))) : w.heap.size ≤ gb218)); have n5_ := AM ((by rw [hg]; exact Nat.ne_of_lt (blk_lt (g := gb217) (o := .cells #[.slice A0_0 l0_0.length c0_0, .slice A0_1 l0_1.length c0_1] 40 (0, 0)) (by (with_reducible repeat (first | refine kn ?_ _ | refine kd ?_ | refine ka ?_ _)); exact BK217.out)) : gb217 ≠ gb218)); have n6_ := AM ((by rw [hg]; exact Nat.ne_of_gt (blk_lt (g := gb217) (o := .cells #[.slice A0_0 l0_0.length c0_0, .slice A0_1 l0_1.length c0_1] 40 (0, 0)) (by (with_reducible repeat (first | refine kn ?_ _ | refine kd ?_ | refine ka ?_ _)); exact BK217.out)) : gb218 ≠ gb217)); clear BK217; clear HB; have BK217 := n0_; have HB := n1_; have BK218 := n2_; have GW218 := n3_; have GE218 := n4_; have NB217_218 := n5_; have NB218_217 := n6_; clear n0_ n1_ n2_ n3_ n4_ n5_ n6_; clear hb hbox hg))
  (try simp only [Act.put, List.setIfInBounds_toArray, List.set_cons_zero, List.set_cons_succ])
  go_cut [21] (fun v21 wc => ∃ (kq : Nat) (x21_2 : Bool), v21 = .bool x21_2 ∧ Aside0 (impl_PagesTake.j0 kq a1 x21_2 l0_0 l0_1 = some (r1, r2, r3, r4)) ∧ Aside0 (kq ≤ k) ∧ Aside0 (wc.heap[gb217]? = some (.cells #[(.slice A0_0 l0_0.length c0_0), (.slice A0_1 l0_1.length c0_1)] 40 (0, 0))) ∧ Aside0 (wc.heap[gb218]? = some (.cells #[(.slice none 0 0), (.slice none 0 0)] 40 (0, 0))) ∧ Aside0 (Below w.heap.size w wc))
  case first =>
    have H := HC3.out
    clear HC3
    replace H := Option.bind_eq_some_iff.mp H
    obtain ⟨t219, A60, H⟩ := H
    replace H : (if t219 = true then (if (a1.size : Int) = 4 then ((impl_Pages_free.f k l0_0 l0_1).bind fun t220 => (impl_PagesTake.j0 k a1 (decide (t220 < 0)) l0_0 l0_1)) else (impl_PagesTake.j0 k a1 true l0_0 l0_1)) else (impl_PagesTake.j0 k a1 true l0_0 l0_1)) = some (r1, r2, r3, r4) := H
    have A6 := AM A60
    clear A60
    by_cases c7 : t219 = true
    · subst c7
      have H1 : (if (a1.size : Int) = 4 then ((impl_Pages_free.f k l0_0 l0_1).bind fun t220 => (impl_PagesTake.j0 k a1 (decide (t220 < 0)) l0_0 l0_1)) else (impl_PagesTake.j0 k a1 true l0_0 l0_1)) = some (r1, r2, r3, r4) := by rw [if_pos rfl] at H; exact H
      clear H
      have H := H1
      clear H1
      by_cases c8 : (a1.size : Int) = 4
      · rw [if_pos c8] at H
        have c8b0 : ((a1.size : Int) == 4) = true := beq_iff_eq.mpr c8
        have c8b1 : ((a1.size : Int) != 4) = false := bne_eq_false_iff_eq.mpr c8
        clear c8
        (first | rw [c8b0] | (simp only [i64_w, i32_w]; rw [c8b0]) | skip)
        replace H := Option.bind_eq_some_iff.mp H
        obtain ⟨t220, A90, H⟩ := H
        replace H : (impl_PagesTake.j0 k a1 (decide (t220 < 0)) l0_0 l0_1) = some (r1, r2, r3, r4) := H
        have A9 := AM A90
        clear A90
        have H' := AM H
        clear H
        have hnb10 := NB217_218.out
        have hnc10 := NB218_217.out
        have hcz11_0 : w5.cell? ⟨gb217, 0, none⟩ = some (.slice A0_0 l0_0.length c0_0) := (kc BK217.out 0).trans rfl
        have hcz11_1 : w5.cell? ⟨gb217, 1, none⟩ = some (.slice A0_1 l0_1.length c0_1) := (kc BK217.out 1).trans rfl
        have hfz11_0 := kz BK217.out 0
        have hfz11_1 := kz BK217.out 1
        go_wp2_with (first | ((with_reducible refine gc (f := 61) rfl ?_); refine goesL_ (some 10) rfl rfl Try.func61 (by kernel_rfl) rfl #[.agg #[.slice A0_0 l0_0.length c0_0, .slice A0_1 l0_1.length c0_1]] rfl (by (try simp only [List.map_toArray, List.map_cons, List.map_nil]); first | done | rfl | (simp only [List.length_drop, List.length_take]; rfl)) ?_; (with_reducible refine (impl_PagesOk.calls k _ _ l0_0 _ _ l0_1 true _ ?side1 ?side2 ?side3 ?side4 A6.out).mono ?_); (case side1 => repeat (first | exact (Cb HR0_0.out HB.out) | (with_reducible refine Ca ?_ _) | (with_reducible refine Cn ?_ _) | (with_reducible refine Cd ?_))); (case side2 => exact HC0_0.out); (case side3 => repeat (first | exact (Cb HR0_1.out HB.out) | (with_reducible refine Ca ?_ _) | (with_reducible refine Cn ?_ _) | (with_reducible refine Cd ?_))); (case side4 => exact HC0_1.out); rintro e w12 ⟨rfl, hb⟩; refine ⟨_, rfl, ?_⟩; have n0_ := AM (kb (g := gb217) (o := .cells #[.slice A0_0 l0_0.length c0_0, .slice A0_1 l0_1.length c0_1] 40 (0, 0)) (by (with_reducible repeat (first | refine kn ?_ _ | refine kd ?_ | refine ka ?_ _)); exact BK217.out) hb); have n1_ := AM (kb (g := gb218) (o := .cells #[.slice none 0 0, .slice none 0 0] 40 (0, 0)) (by (with_reducible repeat (first | refine kn ?_ _ | refine kd ?_ | refine ka ?_ _)); exact BK218.out) hb); have n2_ := AM (bp (by repeat (first | (with_reducible first | exact HB.out | apply ba | apply bn | apply bd | refine bs ?_ GE217.out | refine bs ?_ GE218.out) | exact HB.out)) hb); clear BK217; clear BK218; clear HB; have BK217 := n0_; have BK218 := n1_; have HB := n2_; clear n0_ n1_ n2_; (try clear hb); have hcz13_0 : w12.cell? ⟨gb217, 0, none⟩ = some (.slice A0_0 l0_0.length c0_0) := (kc BK217.out 0).trans rfl; have hcz13_1 : w12.cell? ⟨gb217, 1, none⟩ = some (.slice A0_1 l0_1.length c0_1) := (kc BK217.out 1).trans rfl; have hfz13_0 := kz BK217.out 0; have hfz13_1 := kz BK217.out 1) | (go_at_call 75; (with_reducible refine (impl_Pages_free.calls k _ _ l0_0 _ _ l0_1 t220 _ ?side1 ?side2 ?side3 ?side4 A9.out).mono ?_); (case side1 => repeat (first | exact (Cb HR0_0.out HB.out) | (with_reducible refine Ca ?_ _) | (with_reducible refine Cn ?_ _) | (with_reducible refine Cd ?_))); (case side2 => exact HC0_0.out); (case side3 => repeat (first | exact (Cb HR0_1.out HB.out) | (with_reducible refine Ca ?_ _) | (with_reducible refine Cn ?_ _) | (with_reducible refine Cd ?_))); (case side4 => exact HC0_1.out); rintro e w14 ⟨rfl, hb⟩; have n0_ := AM (kb (g := gb217) (o := .cells #[.slice A0_0 l0_0.length c0_0, .slice A0_1 l0_1.length c0_1] 40 (0, 0)) (by (with_reducible repeat (first | refine kn ?_ _ | refine kd ?_ | refine ka ?_ _)); exact BK217.out) hb); have n1_ := AM (kb (g := gb218) (o := .cells #[.slice none 0 0, .slice none 0 0] 40 (0, 0)) (by (with_reducible repeat (first | refine kn ?_ _ | refine kd ?_ | refine ka ?_ _)); exact BK218.out) hb); have n2_ := AM (bp (by repeat (first | (with_reducible first | exact HB.out | apply ba | apply bn | apply bd | refine bs ?_ GE217.out | refine bs ?_ GE218.out) | exact HB.out)) hb); clear BK217; clear BK218; clear HB; have BK217 := n0_; have BK218 := n1_; have HB := n2_; clear n0_ n1_ n2_; (try clear hb)))
        go_meet
        case rel => exact ⟨_, (decide (t220 < 0)), (by first | rfl | (simp; done) | (simp [*]; done)), H', ⟨by first | omega | exact Nat.le_refl _⟩, ⟨by (with_reducible repeat (first | refine kn ?_ _ | refine kd ?_ | refine ka ?_ _)); exact BK217.out⟩, ⟨by (with_reducible repeat (first | refine kn ?_ _ | refine kd ?_ | refine ka ?_ _)); exact BK218.out⟩, ⟨by repeat (first | (with_reducible first | exact HB.out | apply ba | apply bn | apply bd | refine bs ?_ GE217.out | refine bs ?_ GE218.out) | exact HB.out)⟩⟩
      · rw [if_neg c8] at H
        have c8b0 : ((a1.size : Int) == 4) = false := beq_eq_false_iff_ne.mpr c8
        have c8b1 : ((a1.size : Int) != 4) = true := bne_iff_ne.mpr c8
        (first | rw [c8b0] | (simp only [i64_w, i32_w]; rw [c8b0]) | skip)
        have H' := AM H
        clear H
        have hnb15 := NB217_218.out
        have hnc15 := NB218_217.out
        have hcz16_0 : w5.cell? ⟨gb217, 0, none⟩ = some (.slice A0_0 l0_0.length c0_0) := (kc BK217.out 0).trans rfl
        have hcz16_1 : w5.cell? ⟨gb217, 1, none⟩ = some (.slice A0_1 l0_1.length c0_1) := (kc BK217.out 1).trans rfl
        have hfz16_0 := kz BK217.out 0
        have hfz16_1 := kz BK217.out 1
        go_wp2_with (first | ((with_reducible refine gc (f := 61) rfl ?_); refine goesL_ (some 10) rfl rfl Try.func61 (by kernel_rfl) rfl #[.agg #[.slice A0_0 l0_0.length c0_0, .slice A0_1 l0_1.length c0_1]] rfl (by (try simp only [List.map_toArray, List.map_cons, List.map_nil]); first | done | rfl | (simp only [List.length_drop, List.length_take]; rfl)) ?_; (with_reducible refine (impl_PagesOk.calls k _ _ l0_0 _ _ l0_1 true _ ?side1 ?side2 ?side3 ?side4 A6.out).mono ?_); (case side1 => repeat (first | exact (Cb HR0_0.out HB.out) | (with_reducible refine Ca ?_ _) | (with_reducible refine Cn ?_ _) | (with_reducible refine Cd ?_))); (case side2 => exact HC0_0.out); (case side3 => repeat (first | exact (Cb HR0_1.out HB.out) | (with_reducible refine Ca ?_ _) | (with_reducible refine Cn ?_ _) | (with_reducible refine Cd ?_))); (case side4 => exact HC0_1.out); rintro e w17 ⟨rfl, hb⟩; refine ⟨_, rfl, ?_⟩; have n0_ := AM (kb (g := gb217) (o := .cells #[.slice A0_0 l0_0.length c0_0, .slice A0_1 l0_1.length c0_1] 40 (0, 0)) (by (with_reducible repeat (first | refine kn ?_ _ | refine kd ?_ | refine ka ?_ _)); exact BK217.out) hb); have n1_ := AM (kb (g := gb218) (o := .cells #[.slice none 0 0, .slice none 0 0] 40 (0, 0)) (by (with_reducible repeat (first | refine kn ?_ _ | refine kd ?_ | refine ka ?_ _)); exact BK218.out) hb); have n2_ := AM (bp (by repeat (first | (with_reducible first | exact HB.out | apply ba | apply bn | apply bd | refine bs ?_ GE217.out | refine bs ?_ GE218.out) | exact HB.out)) hb); clear BK217; clear BK218; clear HB; have BK217 := n0_; have BK218 := n1_; have HB := n2_; clear n0_ n1_ n2_; (try clear hb)))
        go_meet
        case rel => exact ⟨_, (true), (by first | rfl | (simp; done) | (simp [*]; done)), H', ⟨by first | omega | exact Nat.le_refl _⟩, ⟨by (with_reducible repeat (first | refine kn ?_ _ | refine kd ?_ | refine ka ?_ _)); exact BK217.out⟩, ⟨by (with_reducible repeat (first | refine kn ?_ _ | refine kd ?_ | refine ka ?_ _)); exact BK218.out⟩, ⟨by repeat (first | (with_reducible first | exact HB.out | apply ba | apply bn | apply bd | refine bs ?_ GE217.out | refine bs ?_ GE218.out) | exact HB.out)⟩⟩
    · replace c7 := Bool.eq_false_iff.mpr c7
      subst c7
      have H1 : (impl_PagesTake.j0 k a1 true l0_0 l0_1) = some (r1, r2, r3, r4) := by rw [if_neg (show ¬ (false = true) by decide)] at H; exact H
      clear H
      have H := H1
      clear H1
      have H' := AM H
      clear H
      have hnb18 := NB217_218.out
      have hnc18 := NB218_217.out
      have hcz19_0 : w5.cell? ⟨gb217, 0, none⟩ = some (.slice A0_0 l0_0.length c0_0) := (kc BK217.out 0).trans rfl
      have hcz19_1 : w5.cell? ⟨gb217, 1, none⟩ = some (.slice A0_1 l0_1.length c0_1) := (kc BK217.out 1).trans rfl
      have hfz19_0 := kz BK217.out 0
      have hfz19_1 := kz BK217.out 1
      go_wp2_with (first | ((with_reducible refine gc (f := 61) rfl ?_); refine goesL_ (some 10) rfl rfl Try.func61 (by kernel_rfl) rfl #[.agg #[.slice A0_0 l0_0.length c0_0, .slice A0_1 l0_1.length c0_1]] rfl (by (try simp only [List.map_toArray, List.map_cons, List.map_nil]); first | done | rfl | (simp only [List.length_drop, List.length_take]; rfl)) ?_; (with_reducible refine (impl_PagesOk.calls k _ _ l0_0 _ _ l0_1 false _ ?side1 ?side2 ?side3 ?side4 A6.out).mono ?_); (case side1 => repeat (first | exact (Cb HR0_0.out HB.out) | (with_reducible refine Ca ?_ _) | (with_reducible refine Cn ?_ _) | (with_reducible refine Cd ?_))); (case side2 => exact HC0_0.out); (case side3 => repeat (first | exact (Cb HR0_1.out HB.out) | (with_reducible refine Ca ?_ _) | (with_reducible refine Cn ?_ _) | (with_reducible refine Cd ?_))); (case side4 => exact HC0_1.out); rintro e w20 ⟨rfl, hb⟩; refine ⟨_, rfl, ?_⟩; have n0_ := AM (kb (g := gb217) (o := .cells #[.slice A0_0 l0_0.length c0_0, .slice A0_1 l0_1.length c0_1] 40 (0, 0)) (by (with_reducible repeat (first | refine kn ?_ _ | refine kd ?_ | refine ka ?_ _)); exact BK217.out) hb); have n1_ := AM (kb (g := gb218) (o := .cells #[.slice none 0 0, .slice none 0 0] 40 (0, 0)) (by (with_reducible repeat (first | refine kn ?_ _ | refine kd ?_ | refine ka ?_ _)); exact BK218.out) hb); have n2_ := AM (bp (by repeat (first | (with_reducible first | exact HB.out | apply ba | apply bn | apply bd | refine bs ?_ GE217.out | refine bs ?_ GE218.out) | exact HB.out)) hb); clear BK217; clear BK218; clear HB; have BK217 := n0_; have BK218 := n1_; have HB := n2_; clear n0_ n1_ n2_; (try clear hb)))
      go_meet
      case rel => exact ⟨_, (true), (by first | rfl | (simp; done) | (simp [*]; done)), H', ⟨by first | omega | exact Nat.le_refl _⟩, ⟨by (with_reducible repeat (first | refine kn ?_ _ | refine kd ?_ | refine ka ?_ _)); exact BK217.out⟩, ⟨by (with_reducible repeat (first | refine kn ?_ _ | refine kd ?_ | refine ka ?_ _)); exact BK218.out⟩, ⟨by repeat (first | (with_reducible first | exact HB.out | apply ba | apply bn | apply bd | refine bs ?_ GE217.out | refine bs ?_ GE218.out) | exact HB.out)⟩⟩
  case rest =>
    clear HC3
    obtain ⟨kq, x21_2, rfl, HA, HJ2, BK217, BK218, HB⟩ := hcut
    cases kq with
    | zero => exact absurd HA.out (by simp [impl_PagesTake.j0])
    | succ kj2 =>
      have H := HA.out
      clear HA
      simp only [impl_PagesTake.j0] at H
      by_cases c21 : x21_2 = true
      · subst c21
        have H1 : (some (([] : List ByteArray), ([] : List Int), (-1), false)) = some (r1, r2, r3, r4) := by rw [if_pos rfl] at H; exact H
        clear H
        have H := H1
        clear H1
        simp only [Option.some.injEq, Prod.mk.injEq] at H
        obtain ⟨rfl, rfl, rfl, rfl⟩ := H
        have hnb22 := NB218_217.out
        have hnc22 := NB217_218.out
        have hcz23_0 : wc.cell? ⟨gb218, 0, none⟩ = some (.slice none 0 0) := (kc BK218.out 0).trans rfl
        have hcz23_1 : wc.cell? ⟨gb218, 1, none⟩ = some (.slice none 0 0) := (kc BK218.out 1).trans rfl
        have hfz23_0 := kz BK218.out 0
        have hfz23_1 := kz BK218.out 1
        go_wp2
        refine bodyPost_ret (results_ctt rfl _ _ gb218 40 #[.slice none 0 0, .slice none 0 0] (0, 0) _ rfl (by (with_reducible repeat (first | refine kn ?_ _ | refine kd ?_ | refine ka ?_ _)); refine blk_put (cs := #[.slice none 0 0, .slice none 0 0]) ?_ 1 _ rfl; (with_reducible repeat (first | refine kn ?_ _ | refine kd ?_ | refine ka ?_ _)); refine blk_put (cs := #[.slice none 0 0, .slice none 0 0]) ?_ 0 _ rfl; (with_reducible repeat (first | refine kn ?_ _ | refine kd ?_ | refine ka ?_ _)); exact BK218.out) Try.underlying40 rfl (by kernel_rfl)) rfl ?_
        exact ⟨_, _, by first | rfl | (simp [errW_none, errW_some] <;> rfl) | (simp [*, errW_none, errW_some] <;> rfl), by first | exact Kd.R_nil _ _ _ _ _ | exact Kd.N_nil _ _ _ _ _ | exact Kd.V_nil _ _ _ _ _ | exact Kd.Q_nil _ _ _ _ _ | exact Kd.S_nil _ _ _ _ _, by first | exact Kd.R_nil _ _ _ _ _ | exact Kd.N_nil _ _ _ _ _ | exact Kd.V_nil _ _ _ _ _ | exact Kd.Q_nil _ _ _ _ _ | exact Kd.S_nil _ _ _ _ _, by repeat (first | (with_reducible first | exact HB.out | apply ba | apply bn | apply bd | refine bs ?_ GE217.out | refine bs ?_ GE218.out) | exact HB.out)⟩
      · replace c21 := Bool.eq_false_iff.mpr c21
        subst c21
        have H1 : ((impl_Pages_free.f kj2 l0_0 l0_1).bind fun t221 => ((impl_Pages_clone.f l0_0 l0_1).bind fun bt222 => (if 0 ≤ t221 then (if t221 < (bt222.1.length : Int) then (if t221 < (bt222.2.length : Int) then (some ((bt222.1.set (t221 : Int).toNat a1), (bt222.2.set (t221 : Int).toNat 1), t221, true)) else (none)) else (none)) else (none)))) = some (r1, r2, r3, r4) := by rw [if_neg (show ¬ (false = true) by decide)] at H; exact H
        clear H
        have H := H1
        clear H1
        replace H := Option.bind_eq_some_iff.mp H
        obtain ⟨t221, A240, H⟩ := H
        replace H : ((impl_Pages_clone.f l0_0 l0_1).bind fun bt222 => (if 0 ≤ t221 then (if t221 < (bt222.1.length : Int) then (if t221 < (bt222.2.length : Int) then (some ((bt222.1.set (t221 : Int).toNat a1), (bt222.2.set (t221 : Int).toNat 1), t221, true)) else (none)) else (none)) else (none))) = some (r1, r2, r3, r4) := H
        have A24 := AM A240
        clear A240
        replace H := Option.bind_eq_some_iff.mp H
        obtain ⟨⟨t222, t225⟩, A250, H⟩ := H
        replace H : (if 0 ≤ t221 then (if t221 < (t222.length : Int) then (if t221 < (t225.length : Int) then (some ((t222.set (t221 : Int).toNat a1), (t225.set (t221 : Int).toNat 1), t221, true)) else (none)) else (none)) else (none)) = some (r1, r2, r3, r4) := H
        have A25 := AM A250
        clear A250
        by_cases c26 : 0 ≤ t221
        · rw [if_pos c26] at H
          have c26b0 : decide (0 ≤ t221) = true := decide_eq_true c26
          clear c26
          by_cases c27 : t221 < (t222.length : Int)
          · rw [if_pos c27] at H
            have c27b0 : decide (t221 < (t222.length : Int)) = true := decide_eq_true c27
            clear c27
            obtain ⟨y229, hy229⟩ : ∃ y_ : List ByteArray, y_ = (t222.set (t221 : Int).toNat a1) := ⟨_, rfl⟩
            replace H : (if t221 < (t225.length : Int) then (some (y229, (t225.set (t221 : Int).toNat 1), t221, true)) else (none)) = some (r1, r2, r3, r4) := by first | (rw [hy229]; with_reducible exact H) | (have H2_ := (Option.bind_some _ _).symm.trans H; rw [hy229]; with_reducible exact H2_) | (have H2_ := (Option.bind_some _ _).symm.trans H; with_reducible exact H2_) | with_reducible exact H | (rw [hy229]; exact H) | exact H
            have Ny229 := AM hy229
            clear hy229
            by_cases c29 : t221 < (t225.length : Int)
            · rw [if_pos c29] at H
              have c29b0 : decide (t221 < (t225.length : Int)) = true := decide_eq_true c29
              clear c29
              obtain ⟨y230, hy230⟩ : ∃ y_ : List Int, y_ = (t225.set (t221 : Int).toNat 1) := ⟨_, rfl⟩
              replace H : (some (y229, y230, t221, true)) = some (r1, r2, r3, r4) := by first | (rw [hy230]; with_reducible exact H) | (have H2_ := (Option.bind_some _ _).symm.trans H; rw [hy230]; with_reducible exact H2_) | (have H2_ := (Option.bind_some _ _).symm.trans H; with_reducible exact H2_) | with_reducible exact H | (rw [hy230]; exact H) | exact H
              have Ny230 := AM hy230
              clear hy230
              simp only [Option.some.injEq, Prod.mk.injEq] at H
              obtain ⟨rfl, rfl, rfl, rfl⟩ := H
              have hnb31 := NB217_218.out
              have hnc31 := NB218_217.out
              have hcz32_0 : wc.cell? ⟨gb217, 0, none⟩ = some (.slice A0_0 l0_0.length c0_0) := (kc BK217.out 0).trans rfl
              have hcz32_1 : wc.cell? ⟨gb217, 1, none⟩ = some (.slice A0_1 l0_1.length c0_1) := (kc BK217.out 1).trans rfl
              have hfz32_0 := kz BK217.out 0
              have hfz32_1 := kz BK217.out 1
              go_wp2_with (first | ((with_reducible refine gc (f := 75) rfl ?_); refine goesL_ (some 24) rfl rfl Try.func75 (by kernel_rfl) rfl #[.agg #[.slice A0_0 l0_0.length c0_0, .slice A0_1 l0_1.length c0_1]] rfl (by (try simp only [List.map_toArray, List.map_cons, List.map_nil]); first | done | rfl | (simp only [List.length_drop, List.length_take]; rfl)) ?_; (with_reducible refine (impl_Pages_free.calls kj2 _ _ l0_0 _ _ l0_1 t221 _ ?side1 ?side2 ?side3 ?side4 A24.out).mono ?_); (case side1 => repeat (first | exact (Cb HR0_0.out HB.out) | (with_reducible refine Ca ?_ _) | (with_reducible refine Cn ?_ _) | (with_reducible refine Cd ?_))); (case side2 => exact HC0_0.out); (case side3 => repeat (first | exact (Cb HR0_1.out HB.out) | (with_reducible refine Ca ?_ _) | (with_reducible refine Cn ?_ _) | (with_reducible refine Cd ?_))); (case side4 => exact HC0_1.out); rintro e w33 ⟨rfl, hb⟩; refine ⟨_, rfl, ?_⟩; have n0_ := AM (kb (g := gb217) (o := .cells #[.slice A0_0 l0_0.length c0_0, .slice A0_1 l0_1.length c0_1] 40 (0, 0)) (by (with_reducible repeat (first | refine kn ?_ _ | refine kd ?_ | refine ka ?_ _)); exact BK217.out) hb); have n1_ := AM (kb (g := gb218) (o := .cells #[.slice none 0 0, .slice none 0 0] 40 (0, 0)) (by (with_reducible repeat (first | refine kn ?_ _ | refine kd ?_ | refine ka ?_ _)); exact BK218.out) hb); have n2_ := AM (bp (by repeat (first | (with_reducible first | exact HB.out | apply ba | apply bn | apply bd | refine bs ?_ GE217.out | refine bs ?_ GE218.out) | exact HB.out)) hb); clear BK217; clear BK218; clear HB; have BK217 := n0_; have BK218 := n1_; have HB := n2_; clear n0_ n1_ n2_; (try clear hb); have hcz34_0 : w33.cell? ⟨gb217, 0, none⟩ = some (.slice A0_0 l0_0.length c0_0) := (kc BK217.out 0).trans rfl; have hcz34_1 : w33.cell? ⟨gb217, 1, none⟩ = some (.slice A0_1 l0_1.length c0_1) := (kc BK217.out 1).trans rfl; have hfz34_0 := kz BK217.out 0; have hfz34_1 := kz BK217.out 1) | ((with_reducible refine gc (f := 63) rfl ?_); refine goesL_ (some 26) rfl rfl Try.func63 (by kernel_rfl) rfl #[.agg #[.slice A0_0 l0_0.length c0_0, .slice A0_1 l0_1.length c0_1]] rfl (by (try simp only [List.map_toArray, List.map_cons, List.map_nil]); first | done | rfl | (simp only [List.length_drop, List.length_take]; rfl)) ?_; (with_reducible refine (impl_Pages_clone.calls _ _ l0_0 _ _ l0_1 t222 t225 _ ?side1 ?side2 ?side3 ?side4 A25.out).mono ?_); (case side1 => repeat (first | exact (Cb HR0_0.out HB.out) | (with_reducible refine Ca ?_ _) | (with_reducible refine Cn ?_ _) | (with_reducible refine Cd ?_))); (case side2 => exact HC0_0.out); (case side3 => repeat (first | exact (Cb HR0_1.out HB.out) | (with_reducible refine Ca ?_ _) | (with_reducible refine Cn ?_ _) | (with_reducible refine Cd ?_))); (case side4 => exact HC0_1.out); rintro e w35 ⟨v223, v226, rfl, ho0, ho1, hb⟩; refine ⟨_, rfl, ?_⟩; have n0_ := AM (Rl ho0 (bz (by repeat (first | (with_reducible first | exact HB.out | apply ba | apply bn | apply bd | refine bs ?_ GE217.out | refine bs ?_ GE218.out) | exact HB.out)))); have n1_ := AM (Rl ho1 (bz (by repeat (first | (with_reducible first | exact HB.out | apply ba | apply bn | apply bd | refine bs ?_ GE217.out | refine bs ?_ GE218.out) | exact HB.out)))); have n2_ := AM (kb (g := gb217) (o := .cells #[.slice A0_0 l0_0.length c0_0, .slice A0_1 l0_1.length c0_1] 40 (0, 0)) (by (with_reducible repeat (first | refine kn ?_ _ | refine kd ?_ | refine ka ?_ _)); exact BK217.out) hb); have n3_ := AM (kb (g := gb218) (o := .cells #[.slice none 0 0, .slice none 0 0] 40 (0, 0)) (by (with_reducible repeat (first | refine kn ?_ _ | refine kd ?_ | refine ka ?_ _)); exact BK218.out) hb); have n4_ := AM (bp (by repeat (first | (with_reducible first | exact HB.out | apply ba | apply bn | apply bd | refine bs ?_ GE217.out | refine bs ?_ GE218.out) | exact HB.out)) hb); clear BK217; clear BK218; clear HB; have HO224 := n0_; have HO227 := n1_; have BK217 := n2_; have BK218 := n3_; have HB := n4_; clear n0_ n1_ n2_ n3_ n4_; (try clear hb); (try clear ho0); (try clear ho1)) | ((with_reducible refine gd (N := 8) rfl ?_); (try (refine gg (by rfl) ?_; dsimp only)); refine xe ?hg (N := 8) ?hd (cs := #[.slice none 0 0, .slice none 0 0]) (t := 40) ?hr ?_; (case hd => rfl); (case hg => rfl); (case hr => first | (go_simp; done) | (go_simp; rfl)); intro gb228 hg w36 hbox hb; have n0_ := AM (Rb (by (with_reducible repeat (first | apply Ra | apply Rn | apply Rd)); exact HO224.out) hb); have n1_ := AM (Rb (by (with_reducible repeat (first | apply Ra | apply Rn | apply Rd)); exact HO227.out) hb); have n2_ := AM (kb (g := gb217) (o := .cells #[.slice A0_0 l0_0.length c0_0, .slice A0_1 l0_1.length c0_1] 40 (0, 0)) (by (with_reducible repeat (first | refine kn ?_ _ | refine kd ?_ | refine ka ?_ _)); exact BK217.out) hb); have n3_ := AM (kb (g := gb218) (o := .cells #[.slice none 0 0, .slice none 0 0] 40 (0, 0)) (by (with_reducible repeat (first | refine kn ?_ _ | refine kd ?_ | refine ka ?_ _)); exact BK218.out) hb); have n4_ := AM (bp (by repeat (first | (with_reducible first | exact HB.out | apply ba | apply bn | apply bd | refine bs ?_ GE217.out | refine bs ?_ GE218.out) | exact HB.out)) hb); have n5_ := AM (hbox); have n6_ := AM ((by rw [hg]; exact (bz (by repeat (first | (with_reducible first | exact HB.out | apply ba | apply bn | apply bd | refine bs ?_ GE217.out | refine bs ?_ GE218.out) | exact HB.out))) : w.heap.size ≤ gb228)); have n7_ := AM ((by rw [hg]; exact (bz (by repeat (first | (with_reducible first | exact HB.out | apply ba | apply bn | apply bd | refine bs ?_ GE217.out | refine bs ?_ GE218.out) | exact HB.out))) : w.heap.size ≤ gb228)); have n8_ := AM ((by rw [hg]; exact Nat.ne_of_lt (blk_lt (g := gb217) (o := .cells #[.slice A0_0 l0_0.length c0_0, .slice A0_1 l0_1.length c0_1] 40 (0, 0)) (by (with_reducible repeat (first | refine kn ?_ _ | refine kd ?_ | refine ka ?_ _)); exact BK217.out)) : gb217 ≠ gb228)); have n9_ := AM ((by rw [hg]; exact Nat.ne_of_gt (blk_lt (g := gb217) (o := .cells #[.slice A0_0 l0_0.length c0_0, .slice A0_1 l0_1.length c0_1] 40 (0, 0)) (by (with_reducible repeat (first | refine kn ?_ _ | refine kd ?_ | refine ka ?_ _)); exact BK217.out)) : gb228 ≠ gb217)); have n10_ := AM ((by rw [hg]; exact Nat.ne_of_lt (blk_lt (g := gb218) (o := .cells #[.slice none 0 0, .slice none 0 0] 40 (0, 0)) (by (with_reducible repeat (first | refine kn ?_ _ | refine kd ?_ | refine ka ?_ _)); exact BK218.out)) : gb218 ≠ gb228)); have n11_ := AM ((by rw [hg]; exact Nat.ne_of_gt (blk_lt (g := gb218) (o := .cells #[.slice none 0 0, .slice none 0 0] 40 (0, 0)) (by (with_reducible repeat (first | refine kn ?_ _ | refine kd ?_ | refine ka ?_ _)); exact BK218.out)) : gb228 ≠ gb218)); clear HO224; clear HO227; clear BK217; clear BK218; clear HB; have HO224 := n0_; have HO227 := n1_; have BK217 := n2_; have BK218 := n3_; have HB := n4_; have BK228 := n5_; have GW228 := n6_; have GE228 := n7_; have NB217_228 := n8_; have NB228_217 := n9_; have NB218_228 := n10_; have NB228_218 := n11_; clear n0_ n1_ n2_ n3_ n4_ n5_ n6_ n7_ n8_ n9_ n10_ n11_; clear hb hbox hg; obtain ⟨Ao37, co37, eo37⟩ := Ri HO224.out; subst eo37; have hnb38 := NB228_217.out; have hnc38 := NB217_228.out; have hnb39 := NB228_218.out; have hnc39 := NB218_228.out; have hcz40_0 : w36.cell? ⟨gb228, 0, none⟩ = some (.slice none 0 0) := (kc BK228.out 0).trans rfl; have hcz40_1 : w36.cell? ⟨gb228, 1, none⟩ = some (.slice none 0 0) := (kc BK228.out 1).trans rfl; have hfz40_0 := kz BK228.out 0; have hfz40_1 := kz BK228.out 1; obtain ⟨Ao41, co41, eo41⟩ := Ri HO227.out; subst eo41) | ((with_reducible refine gs (t := 40) (p := 8) rfl ?_); refine se (t := 40) (p := 8) (v := ?vo_w42) (w1 := ((w36.setCell ⟨gb228, 0, none⟩ (.slice Ao37 t222.length co37)).setCell ⟨gb228, 1, none⟩ (.slice Ao41 t225.length co41))) ?hg ?ho ?hn ?hr ?_; (case ho => rfl); (case hg => rfl); (case hn => rfl); (case hr => first | (go_simp; done) | (go_simp; rfl)); intro w42 hw; have n0_ : Aside0 (Kd.R Kd.string 9 w42 w.heap.size (fun _ => True) (.slice Ao37 t222.length co37) t222) := ⟨(by rw [hw]; exact (by (with_reducible repeat (first | apply Ra | apply Rn | apply Rd)); exact Rm (Rf (p := ⟨gb228, 1, none⟩) (Rf (p := ⟨gb228, 0, none⟩) (Rt HO224.out BK228.out (by decide)) (fun _ hk => hk.2) (.slice Ao37 t222.length co37)) (fun _ hk => hk.2) (.slice Ao41 t225.length co41)) (fun _ hk => trivial)))⟩; have n1_ : Aside0 (Kd.R (Kd.int .i64) 3 w42 w.heap.size (fun _ => True) (.slice Ao41 t225.length co41) t225) := ⟨(by rw [hw]; exact (by (with_reducible repeat (first | apply Ra | apply Rn | apply Rd)); exact Rm (Rf (p := ⟨gb228, 1, none⟩) (Rf (p := ⟨gb228, 0, none⟩) (Rt HO227.out BK228.out (by decide)) (fun _ hk => hk.2) (.slice Ao37 t222.length co37)) (fun _ hk => hk.2) (.slice Ao41 t225.length co41)) (fun _ hk => trivial)))⟩; have n2_ : Aside0 (w42.heap[gb217]? = some (.cells #[.slice A0_0 l0_0.length c0_0, .slice A0_1 l0_1.length c0_1] 40 (0, 0))) := ⟨(by rw [hw]; exact (by (with_reducible repeat (first | refine kn ?_ _ | refine kd ?_ | refine ka ?_ _)); refine kf ?_ NB217_228.out _; (with_reducible repeat (first | refine kn ?_ _ | refine kd ?_ | refine ka ?_ _)); refine kf ?_ NB217_228.out _; (with_reducible repeat (first | refine kn ?_ _ | refine kd ?_ | refine ka ?_ _)); exact BK217.out))⟩; have n3_ : Aside0 (w42.heap[gb218]? = some (.cells #[.slice none 0 0, .slice none 0 0] 40 (0, 0))) := ⟨(by rw [hw]; exact (by (with_reducible repeat (first | refine kn ?_ _ | refine kd ?_ | refine ka ?_ _)); refine kf ?_ NB218_228.out _; (with_reducible repeat (first | refine kn ?_ _ | refine kd ?_ | refine ka ?_ _)); refine kf ?_ NB218_228.out _; (with_reducible repeat (first | refine kn ?_ _ | refine kd ?_ | refine ka ?_ _)); exact BK218.out))⟩; have n4_ : Aside0 (w42.heap[gb228]? = some (.cells #[.slice Ao37 t222.length co37, .slice Ao41 t225.length co41] 40 (0, 0))) := ⟨(by rw [hw]; exact (by (with_reducible repeat (first | refine kn ?_ _ | refine kd ?_ | refine ka ?_ _)); refine blk_put (cs := #[.slice Ao37 t222.length co37, .slice none 0 0]) ?_ 1 _ rfl; (with_reducible repeat (first | refine kn ?_ _ | refine kd ?_ | refine ka ?_ _)); refine blk_put (cs := #[.slice none 0 0, .slice none 0 0]) ?_ 0 _ rfl; (with_reducible repeat (first | refine kn ?_ _ | refine kd ?_ | refine ka ?_ _)); exact BK228.out))⟩; have n5_ : Aside0 (Below w.heap.size w w42) := ⟨(by rw [hw]; exact (by repeat (first | (with_reducible first | exact HB.out | apply ba | apply bn | apply bd | refine bs ?_ GE217.out | refine bs ?_ GE218.out | refine bs ?_ GE228.out) | exact HB.out)))⟩; clear hw; clear HO224; clear HO227; clear BK217; clear BK218; clear BK228; clear HB; have HO224 := n0_; have HO227 := n1_; have BK217 := n2_; have BK218 := n3_; have BK228 := n4_; have HB := n5_; clear n0_ n1_ n2_ n3_ n4_ n5_; have hcz43_0 : w42.cell? ⟨gb228, 0, none⟩ = some (.slice Ao37 t222.length co37) := (kc BK228.out 0).trans rfl; have hcz43_1 : w42.cell? ⟨gb228, 1, none⟩ = some (.slice Ao41 t225.length co41) := (kc BK228.out 1).trans rfl; have hfz43_0 := kz BK228.out 0; have hfz43_1 := kz BK228.out 1))
              have p28 : 0 ≤ (t221 : Int) := of_decide_eq_true (by first | (with_reducible assumption) | assumption); have q28 : (t221 : Int) < ((t222.length : Int) : Int) := of_decide_eq_true (by first | (with_reducible assumption) | assumption); obtain ⟨go28, co28, eo28, gb28, gl28, cl28, HG28⟩ := Kd.R_form HO224.out (by omega); (first | cases eo28 | (injection eo28 with ea_ en_ ec_; (first | subst ea_ | (injection ea_ with ea_; subst ea_)); subst ec_; clear en_)); have GB28 := AM gb28; have GG28 := AM HG28; clear gb28 gl28 HG28; obtain ⟨hx28_0, hf28_0⟩ := Kd.R_celln (⟨#[]⟩ : ByteArray) HO224.out (t221 : Int) p28 q28; replace p28 := eq_true p28; replace q28 := eq_true q28
              have p30 : 0 ≤ (t221 : Int) := of_decide_eq_true (by first | (with_reducible assumption) | assumption); have q30 : (t221 : Int) < ((t225.length : Int) : Int) := of_decide_eq_true (by first | (with_reducible assumption) | assumption); obtain ⟨go30, co30, eo30, gb30, gl30, cl30, HG30⟩ := Kd.R_form HO227.out (by omega); (first | cases eo30 | (injection eo30 with ea_ en_ ec_; (first | subst ea_ | (injection ea_ with ea_; subst ea_)); subst ec_; clear en_)); have GB30 := AM gb30; have GG30 := AM HG30; clear gb30 gl30 HG30; obtain ⟨hx30_0, hf30_0⟩ := Kd.R_celln 0 HO227.out (t221 : Int) p30 q30; replace p30 := eq_true p30; replace q30 := eq_true q30
              have hq0_1_ := (World.cell?_setCell_other w42 ⟨go28, (t221 : Int).toNat, none⟩ _ (.string a1) (by intro h_; injection h_ with h_; exact blk_ne GG28.out GG30.out (by decide) h_)).trans hx30_0
              have hr0_hcz43_0_ := (World.cell?_setCell_other w42 ⟨go28, (t221 : Int).toNat, none⟩ _ (.string a1) (by intro h_; injection h_ with h_; exact blk_ne GG28.out BK228.out (by decide) h_)).trans hcz43_0
              have hr0_hcz43_1_ := (World.cell?_setCell_other w42 ⟨go28, (t221 : Int).toNat, none⟩ _ (.string a1) (by intro h_; injection h_ with h_; exact blk_ne GG28.out BK228.out (by decide) h_)).trans hcz43_1
              have hq1_0_ := (World.cell?_setCell_other w42 ⟨go30, (t221 : Int).toNat, none⟩ _ (.int .i64 1) (by intro h_; injection h_ with h_; exact blk_ne GG30.out GG28.out (by decide) h_)).trans hx28_0
              have hr1_hcz43_0_ := (World.cell?_setCell_other w42 ⟨go30, (t221 : Int).toNat, none⟩ _ (.int .i64 1) (by intro h_; injection h_ with h_; exact blk_ne GG30.out BK228.out (by decide) h_)).trans hcz43_0
              have hr1_hcz43_1_ := (World.cell?_setCell_other w42 ⟨go30, (t221 : Int).toNat, none⟩ _ (.int .i64 1) (by intro h_; injection h_ with h_; exact blk_ne GG30.out BK228.out (by decide) h_)).trans hcz43_1
              go_region
              all_goals
                (try rw [show (w42.setCell ⟨go30, (t221 : Int).toNat, none⟩ (.int .i64 1)).setCell ⟨go28, (t221 : Int).toNat, none⟩ (.string a1) = (w42.setCell ⟨go28, (t221 : Int).toNat, none⟩ (.string a1)).setCell ⟨go30, (t221 : Int).toNat, none⟩ (.int .i64 1) from setCell_swap _ _ _ _ _ (by intro h_; exact blk_ne GG30.out GG28.out (by decide) h_)])
                have HP44 := Kd.R_putg HO224.out (t221 : Int) a1
                obtain ⟨w45, hw⟩ : ∃ w_, w_ = w42.setCell ⟨go28, (t221 : Int).toNat, none⟩ (.string a1) := ⟨_, rfl⟩
                rw [← hw]
                have hg : w42.grownBy w45 (some go28) := (by rw [hw]; exact HP44.2); have hp_ : Kd.R Kd.string 9 w45 w.heap.size (fun _ => True) (.slice (some ⟨go28, 0, none⟩) t222.length co37) y229 := (by rw [hw, Ny229.out]; exact HP44.1); clear HP44; have n0_ := AM (blk_grown (g := gb217) (o := .cells #[.slice A0_0 l0_0.length c0_0, .slice A0_1 l0_1.length c0_1] 40 (0, 0)) (by (with_reducible repeat (first | refine kn ?_ _ | refine kd ?_ | refine ka ?_ _)); exact BK217.out) hg (Kd.R_ne HO224.out BK217.out (by decide))); have n1_ := AM (blk_grown (g := gb218) (o := .cells #[.slice none 0 0, .slice none 0 0] 40 (0, 0)) (by (with_reducible repeat (first | refine kn ?_ _ | refine kd ?_ | refine ka ?_ _)); exact BK218.out) hg (Kd.R_ne HO224.out BK218.out (by decide))); have n2_ := AM (hp_); have n3_ := AM (Kd.R_over' (v := (.slice (some ⟨go28, 0, none⟩) t222.length co37)) (by (with_reducible repeat (first | apply Ra | apply Rn | apply Rd)); exact HO227.out) (Kd.R_typed HO224.out) (by decide) hg); have n4_ := AM (blk_grown (g := gb228) (o := .cells #[.slice (some ⟨go28, 0, none⟩) t222.length co37, .slice (some ⟨go30, 0, none⟩) t225.length co41] 40 (0, 0)) (by (with_reducible repeat (first | refine kn ?_ _ | refine kd ?_ | refine ka ?_ _)); exact BK228.out) hg (Kd.R_ne HO224.out BK228.out (by decide))); have n5_ := AM ((by rw [hw]; exact bs (HB.out) GB28.out : Below w.heap.size w w45)); clear BK217; clear BK218; clear HO224; clear HO227; clear BK228; clear HB; have BK217 := n0_; have BK218 := n1_; have HO224 := n2_; have HO227 := n3_; have BK228 := n4_; have HB := n5_; clear n0_ n1_ n2_ n3_ n4_ n5_; clear hg hw hp_
                have HP46 := Kd.R_putg HO227.out (t221 : Int) 1
                obtain ⟨w47, hw⟩ : ∃ w_, w_ = w45.setCell ⟨go30, (t221 : Int).toNat, none⟩ (.int .i64 1) := ⟨_, rfl⟩
                rw [← hw]
                have hg : w45.grownBy w47 (some go30) := (by rw [hw]; exact HP46.2); have hp_ : Kd.R (Kd.int .i64) 3 w47 w.heap.size (fun _ => True) (.slice (some ⟨go30, 0, none⟩) t225.length co41) y230 := (by rw [hw, Ny230.out]; exact HP46.1); clear HP46; have n0_ := AM (blk_grown (g := gb217) (o := .cells #[.slice A0_0 l0_0.length c0_0, .slice A0_1 l0_1.length c0_1] 40 (0, 0)) (by (with_reducible repeat (first | refine kn ?_ _ | refine kd ?_ | refine ka ?_ _)); exact BK217.out) hg (Kd.R_ne HO227.out BK217.out (by decide))); have n1_ := AM (blk_grown (g := gb218) (o := .cells #[.slice none 0 0, .slice none 0 0] 40 (0, 0)) (by (with_reducible repeat (first | refine kn ?_ _ | refine kd ?_ | refine ka ?_ _)); exact BK218.out) hg (Kd.R_ne HO227.out BK218.out (by decide))); have n2_ := AM (Kd.R_over' (v := (.slice (some ⟨go30, 0, none⟩) t225.length co41)) (by (with_reducible repeat (first | apply Ra | apply Rn | apply Rd)); exact HO224.out) (Kd.R_typed HO227.out) (by decide) hg); have n3_ := AM (hp_); have n4_ := AM (blk_grown (g := gb228) (o := .cells #[.slice (some ⟨go28, 0, none⟩) t222.length co37, .slice (some ⟨go30, 0, none⟩) t225.length co41] 40 (0, 0)) (by (with_reducible repeat (first | refine kn ?_ _ | refine kd ?_ | refine ka ?_ _)); exact BK228.out) hg (Kd.R_ne HO227.out BK228.out (by decide))); have n5_ := AM ((by rw [hw]; exact bs (HB.out) GB30.out : Below w.heap.size w w47)); clear BK217; clear BK218; clear HO224; clear HO227; clear BK228; clear HB; have BK217 := n0_; have BK218 := n1_; have HO224 := n2_; have HO227 := n3_; have BK228 := n4_; have HB := n5_; clear n0_ n1_ n2_ n3_ n4_ n5_; clear hg hw hp_; have hcz48_0 : w47.cell? ⟨gb228, 0, none⟩ = some (.slice (some ⟨go28, 0, none⟩) t222.length co37) := (kc BK228.out 0).trans rfl; have hcz48_1 : w47.cell? ⟨gb228, 1, none⟩ = some (.slice (some ⟨go30, 0, none⟩) t225.length co41) := (kc BK228.out 1).trans rfl; have hfz48_0 := kz BK228.out 0; have hfz48_1 := kz BK228.out 1; have hcz49_0 : w47.cell? ⟨gb218, 0, none⟩ = some (.slice none 0 0) := (kc BK218.out 0).trans rfl; have hcz49_1 : w47.cell? ⟨gb218, 1, none⟩ = some (.slice none 0 0) := (kc BK218.out 1).trans rfl; have hfz49_0 := kz BK218.out 0; have hfz49_1 := kz BK218.out 1
                go_wp2
                refine bodyPost_ret (results_ctt rfl _ _ gb218 40 #[.slice (some ⟨go28, 0, none⟩) t222.length co37, .slice (some ⟨go30, 0, none⟩) t225.length co41] (0, 0) _ rfl (by (with_reducible repeat (first | refine kn ?_ _ | refine kd ?_ | refine ka ?_ _)); refine blk_put (cs := #[.slice (some ⟨go28, 0, none⟩) t222.length co37, .slice none 0 0]) ?_ 1 _ rfl; (with_reducible repeat (first | refine kn ?_ _ | refine kd ?_ | refine ka ?_ _)); refine blk_put (cs := #[.slice none 0 0, .slice none 0 0]) ?_ 0 _ rfl; (with_reducible repeat (first | refine kn ?_ _ | refine kd ?_ | refine ka ?_ _)); exact BK218.out) Try.underlying40 rfl (by kernel_rfl)) rfl ?_
                exact ⟨_, _, by first | rfl | (simp [errW_none, errW_some] <;> rfl) | (simp [*, errW_none, errW_some] <;> rfl), by (with_reducible repeat (first | apply Ra | apply Rn | apply Rd)); exact Rm (Rf (p := ⟨gb218, 1, none⟩) (Rf (p := ⟨gb218, 0, none⟩) (Rt HO224.out BK218.out (by decide)) (fun _ hk => hk.2) (.slice (some ⟨go28, 0, none⟩) t222.length co37)) (fun _ hk => hk.2) (.slice (some ⟨go30, 0, none⟩) t225.length co41)) (fun _ hk => trivial), by (with_reducible repeat (first | apply Ra | apply Rn | apply Rd)); exact Rm (Rf (p := ⟨gb218, 1, none⟩) (Rf (p := ⟨gb218, 0, none⟩) (Rt HO227.out BK218.out (by decide)) (fun _ hk => hk.2) (.slice (some ⟨go28, 0, none⟩) t222.length co37)) (fun _ hk => hk.2) (.slice (some ⟨go30, 0, none⟩) t225.length co41)) (fun _ hk => trivial), by repeat (first | (with_reducible first | exact HB.out | apply ba | apply bn | apply bd | refine bs ?_ GE217.out | refine bs ?_ GE218.out | refine bs ?_ GE228.out) | exact HB.out)⟩
            · rw [if_neg c29] at H
              exact absurd H (by simp)
          · rw [if_neg c27] at H
            exact absurd H (by simp)
        · rw [if_neg c26] at H
          exact absurd H (by simp)

end Go.Proofs.Ytfbdkjdockbfdaa.GPages
