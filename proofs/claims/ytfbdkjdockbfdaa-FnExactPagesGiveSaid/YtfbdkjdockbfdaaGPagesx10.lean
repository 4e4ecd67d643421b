-- Written by this session's program hp.py (over the kit's printer) and out of its own hand texts. Not trusted: Lean checks it.
import Derived.Test.YtfbdkjdockbfdaaGPagesx0
import Derived.Test.YtfbdkjdockbfdaaGPagesx1
import Derived.Test.YtfbdkjdockbfdaaGPagesx2
import Derived.Test.YtfbdkjdockbfdaaGPagesx3
import Derived.Test.YtfbdkjdockbfdaaGPagesx8
import Derived.Test.YtfbdkjdockbfdaaGPagesx9
namespace Go.Proofs.Ytfbdkjdockbfdaa.GPages
open Go.RowKit Go.Proofs.YtfbdkjdockbfdaaW.PrintWords Go.Proofs.YtfbdkjdockbfdaaW.PrintLast Go.Proofs.YtfbdkjdockbfdaaW.PrintMore
attribute [local go_sem] max2_int min2_int max_two min_two max_three min_three max_four min_four   -- for this text's walks alone
set_option linter.unusedVariables false
set_option linter.unusedSimpArgs false

/-! ### laws_FnExactPagesGive: function 4 -/
mutual
def laws_FnExactPagesGive.j0 : Nat → Int → Bool → Bool → Bool → List ByteArray → List Int → List ByteArray → List Int → List ByteArray → List Int → List ByteArray → List Int → Option (Bool)
  | 0, _, _, _, _, _, _, _, _, _, _, _, _ => none
  | k + 1, x1, x7, x10, x44, x326000, x326001, x341000, x341001, x348000, x348001, x356000, x356001 => if x44 = true then (some false) else ((laws_toPages.f k x326000 x326001).bind fun bt357 => ((laws_eqPages.f k x348000 x348001 bt357.1 bt357.2).bind fun t363 => (if t363 = true then ((laws_markPages.f k x348000 x348001 1).bind fun bt364 => (if bt364.1 < 0 then (laws_FnExactPagesGive.j1 k x1 x7 true x326000 x326001 x341000 x341001 x356000 x356001) else ((laws_eqPages.f k x356000 x356001 x341000 x341001).bind fun t367 => (if t367 = true then (laws_FnExactPagesGive.j1 k x1 x7 (x10 != x7) x326000 x326001 x341000 x341001 x356000 x356001) else (laws_FnExactPagesGive.j1 k x1 x7 true x326000 x326001 x341000 x341001 x356000 x356001))))) else (some false))))
def laws_FnExactPagesGive.j1 : Nat → Int → Bool → Bool → List ByteArray → List Int → List ByteArray → List Int → List ByteArray → List Int → Option (Bool)
  | 0, _, _, _, _, _, _, _, _, _ => none
  | k + 1, x1, x7, x65, x326000, x326001, x341000, x341001, x356000, x356001 => if x65 = true then (some false) else ((laws_markPages.f k x356000 x356001 1).bind fun bt368 => ((laws_heldPages.f k bt368.2.1 bt368.2.2 1).bind fun t371 => (if t371 < 0 then (some false) else (if t371 = bt368.1 then ((laws_toPages.f k x326000 x326001).bind fun bt372 => ((impl_PagesGive.f k bt372.1 bt372.2 x1).bind fun bt378 => ((laws_eqPages.f k bt378.1 bt378.2.1 x341000 x341001).bind fun t386 => (if t386 = true then (laws_FnExactPagesGive.j2 k bt368.1 (bt378.2.2 != x7) bt368.2.1 bt368.2.2) else (laws_FnExactPagesGive.j2 k bt368.1 true bt368.2.1 bt368.2.2))))) else (some false)))))
def laws_FnExactPagesGive.j2 : Nat → Int → Bool → List ByteArray → List Int → Option (Bool)
  | 0, _, _, _, _ => none
  | k + 1, x12, x92, x356000, x356001 => if x92 = true then (some false) else ((laws_heldPages.f k x356000 x356001 1).bind fun t387 => (if t387 < 0 then (some false) else (if t387 = x12 then (some true) else (some false))))
end
def laws_FnExactPagesGive.f (k : Nat) (l0_0 : List ByteArray) (l0_1 : List Int) (a1 : Int) : Option (Bool) := (laws_szPages.f k l0_0 l0_1 1048576).bind fun t326 => (if t326 < 0 then (some true) else ((laws_toPages.f k l0_0 l0_1).bind fun bt327 => ((spec_PagesGive.f k bt327.1 bt327.2 a1).bind fun bt333 => ((laws_toPages.f k l0_0 l0_1).bind fun bt341 => ((impl_PagesGive.f k bt341.1 bt341.2 a1).bind fun bt348 => ((laws_eqPages.f k bt348.1 bt348.2.1 bt333.1 bt333.2.1).bind fun t356 => (if t356 = true then (laws_FnExactPagesGive.j0 k a1 bt333.2.2 bt348.2.2 (bt348.2.2 != bt333.2.2) l0_0 l0_1 bt333.1 bt333.2.1 bt341.1 bt341.2 bt348.1 bt348.2.1) else (laws_FnExactPagesGive.j0 k a1 bt333.2.2 bt348.2.2 true l0_0 l0_1 bt333.1 bt333.2.1 bt341.1 bt341.2 bt348.1 bt348.2.1))))))))
theorem laws_FnExactPagesGive.mono_l : ∀ k, (∀ y0 y1 y2 y3 y4 y5 y6 y7 y8 y9 y10 y11, LeO (laws_FnExactPagesGive.j0 k y0 y1 y2 y3 y4 y5 y6 y7 y8 y9 y10 y11) (laws_FnExactPagesGive.j0 (k + 1) y0 y1 y2 y3 y4 y5 y6 y7 y8 y9 y10 y11)) ∧ (∀ y0 y1 y2 y3 y4 y5 y6 y7 y8, LeO (laws_FnExactPagesGive.j1 k y0 y1 y2 y3 y4 y5 y6 y7 y8) (laws_FnExactPagesGive.j1 (k + 1) y0 y1 y2 y3 y4 y5 y6 y7 y8)) ∧ (∀ y0 y1 y2 y3, LeO (laws_FnExactPagesGive.j2 k y0 y1 y2 y3) (laws_FnExactPagesGive.j2 (k + 1) y0 y1 y2 y3))
  | 0 => ⟨fun _ _ _ _ _ _ _ _ _ _ _ _ r h => by simp [laws_FnExactPagesGive.j0] at h, fun _ _ _ _ _ _ _ _ _ r h => by simp [laws_FnExactPagesGive.j1] at h, fun _ _ _ _ r h => by simp [laws_FnExactPagesGive.j2] at h⟩
  | k + 1 => by
    obtain ⟨ih0, ih1, ih2⟩ := laws_FnExactPagesGive.mono_l k
    refine ⟨?_, ?_, ?_⟩
    · intro y0 y1 y2 y3 y4 y5 y6 y7 y8 y9 y10 y11
      unfold laws_FnExactPagesGive.j0
      repeat' first
      | (with_reducible exact ih0 _ _ _ _ _ _ _ _ _ _ _ _)
      | (with_reducible exact ih1 _ _ _ _ _ _ _ _ _)
      | (with_reducible exact ih2 _ _ _ _)
      | (with_reducible exact impl_PagesGive.mono _ _ _ _)
      | (with_reducible exact laws_eqPages.mono _ _ _ _ _)
      | (with_reducible exact laws_heldPages.mono _ _ _ _)
      | (with_reducible exact laws_markPages.mono _ _ _ _)
      | (with_reducible exact laws_szPages.mono _ _ _ _)
      | (with_reducible exact laws_toPages.mono _ _ _)
      | (with_reducible exact spec_PagesGive.mono _ _ _ _)
      | (with_reducible exact LeO.refl _)
      | (with_reducible exact LeO.none _)
      | (with_reducible refine LeO.ite ?_ ?_)
      | (with_reducible refine LeO.bind ?_ (fun _ => ?_))
      | exact ih0 _ _ _ _ _ _ _ _ _ _ _ _
      | exact ih1 _ _ _ _ _ _ _ _ _
      | exact ih2 _ _ _ _
      | exact impl_PagesGive.mono _ _ _ _
      | exact laws_eqPages.mono _ _ _ _ _
      | exact laws_heldPages.mono _ _ _ _
      | exact laws_markPages.mono _ _ _ _
      | exact laws_szPages.mono _ _ _ _
      | exact laws_toPages.mono _ _ _
      | exact spec_PagesGive.mono _ _ _ _
      | exact LeO.none _
      | refine LeO.ite ?_ ?_
      | refine LeO.bind ?_ (fun _ => ?_)
    · intro y0 y1 y2 y3 y4 y5 y6 y7 y8
      unfold laws_FnExactPagesGive.j1
      repeat' first
      | (with_reducible exact ih0 _ _ _ _ _ _ _ _ _ _ _ _)
      | (with_reducible exact ih1 _ _ _ _ _ _ _ _ _)
      | (with_reducible exact ih2 _ _ _ _)
      | (with_reducible exact impl_PagesGive.mono _ _ _ _)
      | (with_reducible exact laws_eqPages.mono _ _ _ _ _)
      | (with_reducible exact laws_heldPages.mono _ _ _ _)
      | (with_reducible exact laws_markPages.mono _ _ _ _)
      | (with_reducible exact laws_szPages.mono _ _ _ _)
      | (with_reducible exact laws_toPages.mono _ _ _)
      | (with_reducible exact spec_PagesGive.mono _ _ _ _)
      | (with_reducible exact LeO.refl _)
      | (with_reducible exact LeO.none _)
      | (with_reducible refine LeO.ite ?_ ?_)
      | (with_reducible refine LeO.bind ?_ (fun _ => ?_))
      | exact ih0 _ _ _ _ _ _ _ _ _ _ _ _
      | exact ih1 _ _ _ _ _ _ _ _ _
      | exact ih2 _ _ _ _
      | exact impl_PagesGive.mono _ _ _ _
      | exact laws_eqPages.mono _ _ _ _ _
      | exact laws_heldPages.mono _ _ _ _
      | exact laws_markPages.mono _ _ _ _
      | exact laws_szPages.mono _ _ _ _
      | exact laws_toPages.mono _ _ _
      | exact spec_PagesGive.mono _ _ _ _
      | exact LeO.none _
      | refine LeO.ite ?_ ?_
      | refine LeO.bind ?_ (fun _ => ?_)
    · intro y0 y1 y2 y3
      unfold laws_FnExactPagesGive.j2
      repeat' first
      | (with_reducible exact ih0 _ _ _ _ _ _ _ _ _ _ _ _)
      | (with_reducible exact ih1 _ _ _ _ _ _ _ _ _)
      | (with_reducible exact ih2 _ _ _ _)
      | (with_reducible exact impl_PagesGive.mono _ _ _ _)
      | (with_reducible exact laws_eqPages.mono _ _ _ _ _)
      | (with_reducible exact laws_heldPages.mono _ _ _ _)
      | (with_reducible exact laws_markPages.mono _ _ _ _)
      | (with_reducible exact laws_szPages.mono _ _ _ _)
      | (with_reducible exact laws_toPages.mono _ _ _)
      | (with_reducible exact spec_PagesGive.mono _ _ _ _)
      | (with_reducible exact LeO.refl _)
      | (with_reducible exact LeO.none _)
      | (with_reducible refine LeO.ite ?_ ?_)
      | (with_reducible refine LeO.bind ?_ (fun _ => ?_))
      | exact ih0 _ _ _ _ _ _ _ _ _ _ _ _
      | exact ih1 _ _ _ _ _ _ _ _ _
      | exact ih2 _ _ _ _
      | exact impl_PagesGive.mono _ _ _ _
      | exact laws_eqPages.mono _ _ _ _ _
      | exact laws_heldPages.mono _ _ _ _
      | exact laws_markPages.mono _ _ _ _
      | exact laws_szPages.mono _ _ _ _
      | exact laws_toPages.mono _ _ _
      | exact spec_PagesGive.mono _ _ _ _
      | exact LeO.none _
      | refine LeO.ite ?_ ?_
      | refine LeO.bind ?_ (fun _ => ?_)
theorem laws_FnExactPagesGive.mono : ∀ a0 a1 a2 k, LeO (laws_FnExactPagesGive.f k a0 a1 a2) (laws_FnExactPagesGive.f (k + 1) a0 a1 a2) := by
  intro a0 a1 a2 k
  obtain ⟨ih0, ih1, ih2⟩ := laws_FnExactPagesGive.mono_l k
  unfold laws_FnExactPagesGive.f
  repeat' first
      | (with_reducible exact ih0 _ _ _ _ _ _ _ _ _ _ _ _)
      | (with_reducible exact ih1 _ _ _ _ _ _ _ _ _)
      | (with_reducible exact ih2 _ _ _ _)
      | (with_reducible exact impl_PagesGive.mono _ _ _ _)
      | (with_reducible exact laws_eqPages.mono _ _ _ _ _)
      | (with_reducible exact laws_heldPages.mono _ _ _ _)
      | (with_reducible exact laws_markPages.mono _ _ _ _)
      | (with_reducible exact laws_szPages.mono _ _ _ _)
      | (with_reducible exact laws_toPages.mono _ _ _)
      | (with_reducible exact spec_PagesGive.mono _ _ _ _)
      | (with_reducible exact LeO.refl _)
      | (with_reducible exact LeO.none _)
      | (with_reducible refine LeO.ite ?_ ?_)
      | (with_reducible refine LeO.bind ?_ (fun _ => ?_))
      | exact ih0 _ _ _ _ _ _ _ _ _ _ _ _
      | exact ih1 _ _ _ _ _ _ _ _ _
      | exact ih2 _ _ _ _
      | exact impl_PagesGive.mono _ _ _ _
      | exact laws_eqPages.mono _ _ _ _ _
      | exact laws_heldPages.mono _ _ _ _
      | exact laws_markPages.mono _ _ _ _
      | exact laws_szPages.mono _ _ _ _
      | exact laws_toPages.mono _ _ _
      | exact spec_PagesGive.mono _ _ _ _
      | exact LeO.none _
      | refine LeO.ite ?_ ?_
      | refine LeO.bind ?_ (fun _ => ?_)
set_option maxHeartbeats 8000000 in
set_option maxRecDepth 100000 in
theorem laws_FnExactPagesGive.calls (k : Nat) (A0_0 : Option Addr) (c0_0 : Nat) (l0_0 : List ByteArray) (A0_1 : Option Addr) (c0_1 : Nat) (l0_1 : List Int) (a1 : Int) (r : Bool) (w : World) (hr0_0 : Kd.C Kd.string w A0_0 l0_0.length l0_0) (hc0_0 : l0_0.length ≤ c0_0) (hr0_1 : Kd.C (Kd.int .i64) w A0_1 l0_1.length l0_1) (hc0_1 : l0_1.length ≤ c0_1) (h : laws_FnExactPagesGive.f k l0_0 l0_1 a1 = some r) :
    Calls Try.prog 4 #[.agg #[.slice A0_0 l0_0.length c0_0, .slice A0_1 l0_1.length c0_1], .int .i64 a1] w fun e w' => e = .returned (.bool r) ∧ Below w.heap.size w w' := by
  have hu38 := Try.underlying38
  have hu40 := Try.underlying40
  have HR0_0 := Aside0.mk hr0_0
  have HC0_0 := Aside0.mk hc0_0
  clear hr0_0 hc0_0
  have HR0_1 := Aside0.mk hr0_1
  have HC0_1 := Aside0.mk hc0_1
  clear hr0_1 hc0_1
  have HB := Aside0.mk (Below.refl w.heap.size w)
  have H : ((laws_szPages.f k l0_0 l0_1 1048576).bind fun t326 => (if t326 < 0 then (some true) else ((laws_toPages.f k l0_0 l0_1).bind fun bt327 => ((spec_PagesGive.f k bt327.1 bt327.2 a1).bind fun bt333 => ((laws_toPages.f k l0_0 l0_1).bind fun bt341 => ((impl_PagesGive.f k bt341.1 bt341.2 a1).bind fun bt348 => ((laws_eqPages.f k bt348.1 bt348.2.1 bt333.1 bt333.2.1).bind fun t356 => (if t356 = true then (laws_FnExactPagesGive.j0 k a1 bt333.2.2 bt348.2.2 (bt348.2.2 != bt333.2.2) l0_0 l0_1 bt333.1 bt333.2.1 bt341.1 bt341.2 bt348.1 bt348.2.1) else (laws_FnExactPagesGive.j0 k a1 bt333.2.2 bt348.2.2 true l0_0 l0_1 bt333.1 bt333.2.1 bt341.1 bt341.2 bt348.1 bt348.2.1))))))))) = some r := h
  clear h
  replace H := Option.bind_eq_some_iff.mp H
  obtain ⟨t326, A30, H⟩ := H
  replace H : (if t326 < 0 then (some true) else ((laws_toPages.f k l0_0 l0_1).bind fun bt327 => ((spec_PagesGive.f k bt327.1 bt327.2 a1).bind fun bt333 => ((laws_toPages.f k l0_0 l0_1).bind fun bt341 => ((impl_PagesGive.f k bt341.1 bt341.2 a1).bind fun bt348 => ((laws_eqPages.f k bt348.1 bt348.2.1 bt333.1 bt333.2.1).bind fun t356 => (if t356 = true then (laws_FnExactPagesGive.j0 k a1 bt333.2.2 bt348.2.2 (bt348.2.2 != bt333.2.2) l0_0 l0_1 bt333.1 bt333.2.1 bt341.1 bt341.2 bt348.1 bt348.2.1) else (laws_FnExactPagesGive.j0 k a1 bt333.2.2 bt348.2.2 true l0_0 l0_1 bt333.1 bt333.2.1 bt341.1 bt341.2 bt348.1 bt348.2.1)))))))) = some r := H
  have A3 := Aside0.mk A30
  clear A30
  by_cases c4 : t326 < 0
  · rw [if_pos c4] at H
    have c4b0 : decide (t326 < 0) = true := decide_eq_true c4
    clear c4
    obtain rfl := Option.some.inj H
    go_enter Try.func4, Try.ntmps4
    go_wp2_with (first | ((with_reducible refine gate_dst (N := 2) rfl ?_); refine box_event ?hg (N := 2) ?hd (cs := #[.slice A0_0 l0_0.length c0_0, .slice A0_1 l0_1.length c0_1]) (t := 38) ?hr ?_; (case hd => rfl); (case hg => rfl); (case hr => first | (go_simp; done) | (go_simp; rfl)); intro gb325 hg w5 hbox hb; have n0_ := Aside0.mk (below_step (by repeat (first | (with_reducible first | exact HB.out | apply below_alloc | apply pw_below_drewN | apply below_drew1) | exact HB.out)) hb); have n1_ := Aside0.mk (hbox); have n2_ := Aside0.mk ((by rw [hg]; exact (below_size (by repeat (first | (with_reducible first | exact HB.out | apply below_alloc | apply pw_below_drewN | apply below_drew1) | exact HB.out))) : w.heap.size ≤ gb325)); have n3_ := Aside0.mk ((by rw [hg]; exact (below_size (by repeat (first | (with_reducible first | exact HB.out | apply below_alloc | apply pw_below_drewN | apply below_drew1) | exact HB.out))) : w.heap.size ≤ gb325)); clear HB; have HB := n0_; have BK325 := n1_; have GW325 := n2_; have GE325 := n3_; clear n0_ n1_ n2_ n3_; clear hb hbox hg; have hcz6_0 : w5.cell? ⟨gb325, 0, none⟩ = some (.slice A0_0 l0_0.length c0_0) := (blk_cell BK325.out 0).trans rfl; have hcz6_1 : w5.cell? ⟨gb325, 1, none⟩ = some (.slice A0_1 l0_1.length c0_1) := (blk_cell BK325.out 1).trans rfl; have hfz6_0 := blk_frozen BK325.out 0; have hfz6_1 := blk_frozen BK325.out 1) | ((with_reducible refine gate_callee (f := 15) rfl ?_); refine goesL_ (some 18) rfl rfl Try.func15 (by kernel_rfl) rfl #[.agg #[.slice A0_0 l0_0.length c0_0, .slice A0_1 l0_1.length c0_1], .int .i64 1048576] rfl (by (try simp only [List.map_toArray, List.map_cons, List.map_nil]); first | done | rfl | (simp only [List.length_drop, List.length_take]; rfl)) ?_; (with_reducible refine (laws_szPages.calls k _ _ l0_0 _ _ l0_1 1048576 t326 _ ?side1 ?side2 ?side3 ?side4 A3.out).mono ?_); (case side1 => repeat (first | exact (Kd.C_below HR0_0.out HB.out) | (with_reducible refine Kd.C_alloc ?_ _) | (with_reducible refine Kd.C_drewN ?_ _) | (with_reducible refine Kd.C_drew ?_))); (case side2 => exact HC0_0.out); (case side3 => repeat (first | exact (Kd.C_below HR0_1.out HB.out) | (with_reducible refine Kd.C_alloc ?_ _) | (with_reducible refine Kd.C_drewN ?_ _) | (with_reducible refine Kd.C_drew ?_))); (case side4 => exact HC0_1.out); rintro e w7 ⟨rfl, hb⟩; refine ⟨_, rfl, ?_⟩; have n0_ := Aside0.mk (blk_below (g := gb325) (o := .cells #[.slice A0_0 l0_0.length c0_0, .slice A0_1 l0_1.length c0_1] 38 (0, 0)) (by (with_reducible repeat (first | refine blk_drewN ?_ _ | refine blk_drew ?_ | refine blk_alloc ?_ _)); exact BK325.out) hb); have n1_ := Aside0.mk (below_step (by repeat (first | (with_reducible first | exact HB.out | apply below_alloc | apply pw_below_drewN | apply below_drew1 | refine below_set ?_ GE325.out) | exact HB.out)) hb); clear BK325; clear HB; have BK325 := n0_; have HB := n1_; clear n0_ n1_; (try clear hb); (try clear hb2); (try clear hk); (try clear hi)))
    go_ret
    exact ⟨by first | rfl | (simp [errW_none, errW_some] <;> rfl) | (simp [*, errW_none, errW_some] <;> rfl), by repeat (first | (with_reducible first | exact HB.out | apply below_alloc | apply pw_below_drewN | apply below_drew1 | refine below_set ?_ GE325.out) | exact HB.out)⟩
  · rw [if_neg c4] at H
    have c4b0 : decide (t326 < 0) = false := decide_eq_false c4
    clear c4
    replace H := Option.bind_eq_some_iff.mp H
    obtain ⟨⟨t327, t330⟩, A80, H⟩ := H
    replace H : ((spec_PagesGive.f k t327 t330 a1).bind fun bt333 => ((laws_toPages.f k l0_0 l0_1).bind fun bt341 => ((impl_PagesGive.f k bt341.1 bt341.2 a1).bind fun bt348 => ((laws_eqPages.f k bt348.1 bt348.2.1 bt333.1 bt333.2.1).bind fun t356 => (if t356 = true then (laws_FnExactPagesGive.j0 k a1 bt333.2.2 bt348.2.2 (bt348.2.2 != bt333.2.2) l0_0 l0_1 bt333.1 bt333.2.1 bt341.1 bt341.2 bt348.1 bt348.2.1) else (laws_FnExactPagesGive.j0 k a1 bt333.2.2 bt348.2.2 true l0_0 l0_1 bt333.1 bt333.2.1 bt341.1 bt341.2 bt348.1 bt348.2.1)))))) = some r := H
    have A8 := Aside0.mk A80
    clear A80
    replace H := Option.bind_eq_some_iff.mp H
    obtain ⟨⟨t333, t336, t339⟩, A90, H⟩ := H
    replace H : ((laws_toPages.f k l0_0 l0_1).bind fun bt341 => ((impl_PagesGive.f k bt341.1 bt341.2 a1).bind fun bt348 => ((laws_eqPages.f k bt348.1 bt348.2.1 t333 t336).bind fun t356 => (if t356 = true then (laws_FnExactPagesGive.j0 k a1 t339 bt348.2.2 (bt348.2.2 != t339) l0_0 l0_1 t333 t336 bt341.1 bt341.2 bt348.1 bt348.2.1) else (laws_FnExactPagesGive.j0 k a1 t339 bt348.2.2 true l0_0 l0_1 t333 t336 bt341.1 bt341.2 bt348.1 bt348.2.1))))) = some r := H
    have A9 := Aside0.mk A90
    clear A90
    replace H := Option.bind_eq_some_iff.mp H
    obtain ⟨⟨t341, t344⟩, A100, H⟩ := H
    replace H : ((impl_PagesGive.f k t341 t344 a1).bind fun bt348 => ((laws_eqPages.f k bt348.1 bt348.2.1 t333 t336).bind fun t356 => (if t356 = true then (laws_FnExactPagesGive.j0 k a1 t339 bt348.2.2 (bt348.2.2 != t339) l0_0 l0_1 t333 t336 t341 t344 bt348.1 bt348.2.1) else (laws_FnExactPagesGive.j0 k a1 t339 bt348.2.2 true l0_0 l0_1 t333 t336 t341 t344 bt348.1 bt348.2.1)))) = some r := H
    have A10 := Aside0.mk A100
    clear A100
    replace H := Option.bind_eq_some_iff.mp H
    obtain ⟨⟨t348, t351, t354⟩, A110, H⟩ := H
    replace H : ((laws_eqPages.f k t348 t351 t333 t336).bind fun t356 => (if t356 = true then (laws_FnExactPagesGive.j0 k a1 t339 t354 (t354 != t339) l0_0 l0_1 t333 t336 t341 t344 t348 t351) else (laws_FnExactPagesGive.j0 k a1 t339 t354 true l0_0 l0_1 t333 t336 t341 t344 t348 t351))) = some r := H
    have A11 := Aside0.mk A110
    clear A110
    have HC12 := Aside0.mk H
    clear H
    go_enter Try.func4, Try.ntmps4
    go_upto_region 8 with (first | ((with_reducible refine gate_dst (N := 2) rfl ?_); refine box_event ?hg (N := 2) ?hd (cs := #[.slice A0_0 l0_0.length c0_0, .slice A0_1 l0_1.length c0_1]) (t := 38) ?hr ?_; (case hd => rfl); (case hg => rfl); (case hr => first | (go_simp; done) | (go_simp; rfl)); intro gb325 hg w13 hbox hb; have n0_ := Aside0.mk (below_step (by repeat (first | (with_reducible first | exact HB.out | apply below_alloc | apply pw_below_drewN | apply below_drew1) | exact HB.out)) hb); have n1_ := Aside0.mk (hbox); have n2_ := Aside0.mk ((by rw [hg]; exact (below_size (by repeat (first | (with_reducible first | exact HB.out | apply below_alloc | apply pw_below_drewN | apply below_drew1) | exact HB.out))) : w.heap.size ≤ gb325)); have n3_ := Aside0.mk ((by rw [hg]; exact (below_size (by repeat (first | (with_reducible first | exact HB.out | apply below_alloc | apply pw_below_drewN | apply below_drew1) | exact HB.out))) : w.heap.size ≤ gb325)); clear HB; have HB := n0_; have BK325 := n1_; have GW325 := n2_; have GE325 := n3_; clear n0_ n1_ n2_ n3_; clear hb hbox hg; have hcz14_0 : w13.cell? ⟨gb325, 0, none⟩ = some (.slice A0_0 l0_0.length c0_0) := (blk_cell BK325.out 0).trans rfl; have hcz14_1 : w13.cell? ⟨gb325, 1, none⟩ = some (.slice A0_1 l0_1.length c0_1) := (blk_cell BK325.out 1).trans rfl; have hfz14_0 := blk_frozen BK325.out 0; have hfz14_1 := blk_frozen BK325.out 1) | ((with_reducible refine gate_callee (f := 15) rfl ?_); refine goesL_ (some 18) rfl rfl Try.func15 (by kernel_rfl) rfl #[.agg #[.slice A0_0 l0_0.length c0_0, .slice A0_1 l0_1.length c0_1], .int .i64 1048576] rfl (by (try simp only [List.map_toArray, List.map_cons, List.map_nil]); first | done | rfl | (simp only [List.length_drop, List.length_take]; rfl)) ?_; (with_reducible refine (laws_szPages.calls k _ _ l0_0 _ _ l0_1 1048576 t326 _ ?side1 ?side2 ?side3 ?side4 A3.out).mono ?_); (case side1 => repeat (first | exact (Kd.C_below HR0_0.out HB.out) | (with_reducible refine Kd.C_alloc ?_ _) | (with_reducible refine Kd.C_drewN ?_ _) | (with_reducible refine Kd.C_drew ?_))); (case side2 => exact HC0_0.out); (case side3 => repeat (first | exact (Kd.C_below HR0_1.out HB.out) | (with_reducible refine Kd.C_alloc ?_ _) | (with_reducible refine Kd.C_drewN ?_ _) | (with_reducible refine Kd.C_drew ?_))); (case side4 => exact HC0_1.out); rintro e w15 ⟨rfl, hb⟩; refine ⟨_, rfl, ?_⟩; have n0_ := Aside0.mk (blk_below (g := gb325) (o := .cells #[.slice A0_0 l0_0.length c0_0, .slice A0_1 l0_1.length c0_1] 38 (0, 0)) (by (with_reducible repeat (first | refine blk_drewN ?_ _ | refine blk_drew ?_ | refine blk_alloc ?_ _)); exact BK325.out) hb); have n1_ := Aside0.mk (below_step (by repeat (first | (with_reducible first | exact HB.out | apply below_alloc | apply pw_below_drewN | apply below_drew1 | refine below_set ?_ GE325.out) | exact HB.out)) hb); clear BK325; clear HB; have BK325 := n0_; have HB := n1_; clear n0_ n1_; (try clear hb); (try clear hb2); (try clear hk); (try clear hi); have hcz16_0 : w15.cell? ⟨gb325, 0, none⟩ = some (.slice A0_0 l0_0.length c0_0) := (blk_cell BK325.out 0).trans rfl; have hcz16_1 : w15.cell? ⟨gb325, 1, none⟩ = some (.slice A0_1 l0_1.length c0_1) := (blk_cell BK325.out 1).trans rfl; have hfz16_0 := blk_frozen BK325.out 0; have hfz16_1 := blk_frozen BK325.out 1) | ((with_reducible refine gate_callee (f := 17) rfl ?_); refine goesL_ (some 23) rfl rfl Try.func17 (by kernel_rfl) rfl #[.agg #[.slice A0_0 l0_0.length c0_0, .slice A0_1 l0_1.length c0_1]] rfl (by (try simp only [List.map_toArray, List.map_cons, List.map_nil]); first | done | rfl | (simp only [List.length_drop, List.length_take]; rfl)) ?_; (with_reducible refine (laws_toPages.calls k _ _ l0_0 _ _ l0_1 t327 t330 _ ?side1 ?side2 ?side3 ?side4 A8.out).mono ?_); (case side1 => repeat (first | exact (Kd.C_below HR0_0.out HB.out) | (with_reducible refine Kd.C_alloc ?_ _) | (with_reducible refine Kd.C_drewN ?_ _) | (with_reducible refine Kd.C_drew ?_))); (case side2 => exact HC0_0.out); (case side3 => repeat (first | exact (Kd.C_below HR0_1.out HB.out) | (with_reducible refine Kd.C_alloc ?_ _) | (with_reducible refine Kd.C_drewN ?_ _) | (with_reducible refine Kd.C_drew ?_))); (case side4 => exact HC0_1.out); rintro e w17 ⟨v328, v331, rfl, ho0, ho1, hb⟩; refine ⟨_, rfl, ?_⟩; have n0_ := Aside0.mk (Kd.R_lower ho0 (below_size (by repeat (first | (with_reducible first | exact HB.out | apply below_alloc | apply pw_below_drewN | apply below_drew1 | refine below_set ?_ GE325.out) | exact HB.out)))); have n1_ := Aside0.mk (Kd.R_lower ho1 (below_size (by repeat (first | (with_reducible first | exact HB.out | apply below_alloc | apply pw_below_drewN | apply below_drew1 | refine below_set ?_ GE325.out) | exact HB.out)))); have n2_ := Aside0.mk (blk_below (g := gb325) (o := .cells #[.slice A0_0 l0_0.length c0_0, .slice A0_1 l0_1.length c0_1] 38 (0, 0)) (by (with_reducible repeat (first | refine blk_drewN ?_ _ | refine blk_drew ?_ | refine blk_alloc ?_ _)); exact BK325.out) hb); have n3_ := Aside0.mk (below_step (by repeat (first | (with_reducible first | exact HB.out | apply below_alloc | apply pw_below_drewN | apply below_drew1 | refine below_set ?_ GE325.out) | exact HB.out)) hb); clear BK325; clear HB; have HO329 := n0_; have HO332 := n1_; have BK325 := n2_; have HB := n3_; clear n0_ n1_ n2_ n3_; (try clear hb); (try clear hb2); (try clear hk); (try clear hi); (try clear ho0); (try clear ho1); obtain ⟨Ao18, co18, eo18⟩ := Kd.R_slice HO329.out; subst eo18; obtain ⟨Ao19, co19, eo19⟩ := Kd.R_slice HO332.out; subst eo19) | ((with_reducible refine gate_callee (f := 16) rfl ?_); refine goesL_ (some 25) rfl rfl Try.func16 (by kernel_rfl) rfl #[.agg #[.slice Ao18 t327.length co18, .slice Ao19 t330.length co19], .int .i64 a1] rfl (by (try simp only [List.map_toArray, List.map_cons, List.map_nil]); first | done | rfl | (simp only [List.length_drop, List.length_take]; rfl)) ?_; (with_reducible refine (spec_PagesGive.calls k _ _ t327 _ _ t330 a1 t333 t336 t339 _ ?side1 ?side2 ?side3 ?side4 A9.out).mono ?_); (case side1 => repeat (first | exact (Kd.R_reads' HO329.out).2.2 | (with_reducible refine Kd.C_alloc ?_ _) | (with_reducible refine Kd.C_drewN ?_ _) | (with_reducible refine Kd.C_drew ?_))); (case side2 => exact (Kd.R_reads' HO329.out).2.1); (case side3 => repeat (first | exact (Kd.R_reads' HO332.out).2.2 | (with_reducible refine Kd.C_alloc ?_ _) | (with_reducible refine Kd.C_drewN ?_ _) | (with_reducible refine Kd.C_drew ?_))); (case side4 => exact (Kd.R_reads' HO332.out).2.1); rintro e w20 ⟨v334, v337, rfl, ho0, ho1, hb⟩; refine ⟨_, rfl, ?_⟩; have n0_ := Aside0.mk (Kd.R_elder' (by (with_reducible repeat (first | apply Kd.R_alloc | apply Kd.R_drewN | apply Kd.R_drew)); exact HO329.out) (Kd.R_base ho0) hb); have n1_ := Aside0.mk (Kd.R_elder' (by (with_reducible repeat (first | apply Kd.R_alloc | apply Kd.R_drewN | apply Kd.R_drew)); exact HO332.out) (Kd.R_base ho1) hb); have n2_ := Aside0.mk (Kd.R_lower (Kd.R_new' ho0 (Kd.R_lt (by (with_reducible repeat (first | apply Kd.R_alloc | apply Kd.R_drewN | apply Kd.R_drew)); exact HO329.out))) (below_size (by repeat (first | (with_reducible first | exact HB.out | apply below_alloc | apply pw_below_drewN | apply below_drew1 | refine below_set ?_ GE325.out) | exact HB.out)))); have n3_ := Aside0.mk (Kd.R_lower (Kd.R_new' ho1 (Kd.R_lt (by (with_reducible repeat (first | apply Kd.R_alloc | apply Kd.R_drewN | apply Kd.R_drew)); exact HO332.out))) (below_size (by repeat (first | (with_reducible first | exact HB.out | apply below_alloc | apply pw_below_drewN | apply below_drew1 | refine below_set ?_ GE325.out) | exact HB.out)))); have n4_ := Aside0.mk (blk_below (g := gb325) (o := .cells #[.slice A0_0 l0_0.length c0_0, .slice A0_1 l0_1.length c0_1] 38 (0, 0)) (by (with_reducible repeat (first | refine blk_drewN ?_ _ | refine blk_drew ?_ | refine blk_alloc ?_ _)); exact BK325.out) hb); have n5_ := Aside0.mk (below_step (by repeat (first | (with_reducible first | exact HB.out | apply below_alloc | apply pw_below_drewN | apply below_drew1 | refine below_set ?_ GE325.out) | exact HB.out)) hb); clear HO329; clear HO332; clear BK325; clear HB; have HO329 := n0_; have HO332 := n1_; have HO335 := n2_; have HO338 := n3_; have BK325 := n4_; have HB := n5_; clear n0_ n1_ n2_ n3_ n4_ n5_; (try clear hb); (try clear hb2); (try clear hk); (try clear hi); (try clear ho0); (try clear ho1)) | ((with_reducible refine gate_dst (N := 6) rfl ?_); refine box_event ?hg (N := 6) ?hd (cs := #[.slice none 0 0, .slice none 0 0]) (t := 40) ?hr ?_; (case hd => rfl); (case hg => rfl); (case hr => first | (go_simp; done) | (go_simp; rfl)); intro gb340 hg w21 hbox hb; have n0_ := Aside0.mk (Kd.R_below (by (with_reducible repeat (first | apply Kd.R_alloc | apply Kd.R_drewN | apply Kd.R_drew)); exact HO329.out) hb); have n1_ := Aside0.mk (Kd.R_below (by (with_reducible repeat (first | apply Kd.R_alloc | apply Kd.R_drewN | apply Kd.R_drew)); exact HO332.out) hb); have n2_ := Aside0.mk (Kd.R_below (by (with_reducible repeat (first | apply Kd.R_alloc | apply Kd.R_drewN | apply Kd.R_drew)); exact HO335.out) hb); have n3_ := Aside0.mk (Kd.R_below (by (with_reducible repeat (first | apply Kd.R_alloc | apply Kd.R_drewN | apply Kd.R_drew)); exact HO338.out) hb); have n4_ := Aside0.mk (blk_below (g := gb325) (o := .cells #[.slice A0_0 l0_0.length c0_0, .slice A0_1 l0_1.length c0_1] 38 (0, 0)) (by (with_reducible repeat (first | refine blk_drewN ?_ _ | refine blk_drew ?_ | refine blk_alloc ?_ _)); exact BK325.out) hb); have n5_ := Aside0.mk (below_step (by repeat (first | (with_reducible first | exact HB.out | apply below_alloc | apply pw_below_drewN | apply below_drew1 | refine below_set ?_ GE325.out) | exact HB.out)) hb); have n6_ := Aside0.mk (hbox); have n7_ := Aside0.mk ((by rw [hg]; exact (below_size (by repeat (first | (with_reducible first | exact HB.out | apply below_alloc | apply pw_below_drewN | apply below_drew1 | refine below_set ?_ GE325.out) | exact HB.out))) : w.heap.size ≤ gb340)); have n8_ := Aside0.mk ((by rw [hg]; exact (below_size (by repeat (first | (with_reducible first | exact HB.out | apply below_alloc | apply pw_below_drewN | apply below_drew1 | refine below_set ?_ GE325.out) | exact HB.out))) : w.heap.size ≤ gb340)); have n9_ := Aside0.mk ((by rw [hg]; exact Nat.ne_of_lt (blk_lt (g := gb325) (o := .cells #[.slice A0_0 l0_0.length c0_0, .slice A0_1 l0_1.length c0_1] 38 (0, 0)) (by (with_reducible repeat (first | refine blk_drewN ?_ _ | refine blk_drew ?_ | refine blk_alloc ?_ _)); exact BK325.out)) : gb325 ≠ gb340)); have n10_ := Aside0.mk ((by rw [hg]; exact Nat.ne_of_gt (blk_lt (g := gb325) (o := .cells #[.slice A0_0 l0_0.length c0_0, .slice A0_1 l0_1.length c0_1] 38 (0, 0)) (by (with_reducible repeat (first | refine blk_drewN ?_ _ | refine blk_drew ?_ | refine blk_alloc ?_ _)); exact BK325.out)) : gb340 ≠ gb325)); clear HO329; clear HO332; clear HO335; clear HO338; clear BK325; clear HB; have HO329 := n0_; have HO332 := n1_; have HO335 := n2_; have HO338 := n3_; have BK325 := n4_; have HB := n5_; have BK340 := n6_; have GW340 := n7_; have GE340 := n8_; have NB325_340 := n9_; have NB340_325 := n10_; clear n0_ n1_ n2_ n3_ n4_ n5_ n6_ n7_ n8_ n9_ n10_; clear hb hbox hg; obtain ⟨Ao22, co22, eo22⟩ := Kd.R_slice HO335.out; subst eo22; have hnb23 := NB340_325.out; have hnc23 := NB325_340.out; have hcz24_0 : w21.cell? ⟨gb340, 0, none⟩ = some (.slice none 0 0) := (blk_cell BK340.out 0).trans rfl; have hcz24_1 : w21.cell? ⟨gb340, 1, none⟩ = some (.slice none 0 0) := (blk_cell BK340.out 1).trans rfl; have hfz24_0 := blk_frozen BK340.out 0; have hfz24_1 := blk_frozen BK340.out 1; obtain ⟨Ao25, co25, eo25⟩ := Kd.R_slice HO338.out; subst eo25; have hcz26_0 : w21.cell? ⟨gb325, 0, none⟩ = some (.slice A0_0 l0_0.length c0_0) := (blk_cell BK325.out 0).trans rfl; have hcz26_1 : w21.cell? ⟨gb325, 1, none⟩ = some (.slice A0_1 l0_1.length c0_1) := (blk_cell BK325.out 1).trans rfl; have hfz26_0 := blk_frozen BK325.out 0; have hfz26_1 := blk_frozen BK325.out 1) | ((with_reducible refine gate_callee (f := 17) rfl ?_); refine goesL_ (some 29) rfl rfl Try.func17 (by kernel_rfl) rfl #[.agg #[.slice A0_0 l0_0.length c0_0, .slice A0_1 l0_1.length c0_1]] rfl (by (try simp only [List.map_toArray, List.map_cons, List.map_nil]); first | done | rfl | (simp only [List.length_drop, List.length_take]; rfl)) ?_; (with_reducible refine (laws_toPages.calls k _ _ l0_0 _ _ l0_1 t341 t344 _ ?side1 ?side2 ?side3 ?side4 A10.out).mono ?_); (case side1 => exact Kd.C_below HR0_0.out (by repeat (first | (with_reducible first | exact HB.out | apply below_alloc | apply pw_below_drewN | apply below_drew1 | refine below_set ?_ GE325.out | refine below_set ?_ GE340.out) | exact HB.out))); (case side2 => exact HC0_0.out); (case side3 => exact Kd.C_below HR0_1.out (by repeat (first | (with_reducible first | exact HB.out | apply below_alloc | apply pw_below_drewN | apply below_drew1 | refine below_set ?_ GE325.out | refine below_set ?_ GE340.out) | exact HB.out))); (case side4 => exact HC0_1.out); rintro e w27 ⟨v342, v345, rfl, ho0, ho1, hb⟩; refine ⟨_, rfl, ?_⟩; have n0_ := Aside0.mk (Kd.R_elder' (by (with_reducible repeat (first | apply Kd.R_alloc | apply Kd.R_drewN | apply Kd.R_drew)); exact (Kd.R_mono (Kd.R_far (p := ⟨gb340, 1, none⟩) (Kd.R_far (p := ⟨gb340, 0, none⟩) (Kd.R_types HO329.out BK340.out (by decide)) (fun _ hk => hk.2) (.slice Ao22 t333.length co22)) (fun _ hk => hk.2) (.slice Ao25 t336.length co25)) (fun _ h_ => h_.1))) (Kd.R_base ho0) hb); have n1_ := Aside0.mk (Kd.R_elder' (by (with_reducible repeat (first | apply Kd.R_alloc | apply Kd.R_drewN | apply Kd.R_drew)); exact (Kd.R_mono (Kd.R_far (p := ⟨gb340, 1, none⟩) (Kd.R_far (p := ⟨gb340, 0, none⟩) (Kd.R_types HO332.out BK340.out (by decide)) (fun _ hk => hk.2) (.slice Ao22 t333.length co22)) (fun _ hk => hk.2) (.slice Ao25 t336.length co25)) (fun _ h_ => h_.1))) (Kd.R_base ho1) hb); have n2_ := Aside0.mk (Kd.R_elder' (by (with_reducible repeat (first | apply Kd.R_alloc | apply Kd.R_drewN | apply Kd.R_drew)); exact (Kd.R_mono (Kd.R_far (p := ⟨gb340, 1, none⟩) (Kd.R_far (p := ⟨gb340, 0, none⟩) (Kd.R_types HO335.out BK340.out (by decide)) (fun _ hk => hk.2) (.slice Ao22 t333.length co22)) (fun _ hk => hk.2) (.slice Ao25 t336.length co25)) (fun _ h_ => h_.1))) (Kd.R_base ho0) hb); have n3_ := Aside0.mk (Kd.R_elder' (by (with_reducible repeat (first | apply Kd.R_alloc | apply Kd.R_drewN | apply Kd.R_drew)); exact (Kd.R_mono (Kd.R_far (p := ⟨gb340, 1, none⟩) (Kd.R_far (p := ⟨gb340, 0, none⟩) (Kd.R_types HO338.out BK340.out (by decide)) (fun _ hk => hk.2) (.slice Ao22 t333.length co22)) (fun _ hk => hk.2) (.slice Ao25 t336.length co25)) (fun _ h_ => h_.1))) (Kd.R_base ho1) hb); have n4_ := Aside0.mk (Kd.R_lower (Kd.R_new' (Kd.R_new' ho0 (Kd.R_lt (by (with_reducible repeat (first | apply Kd.R_alloc | apply Kd.R_drewN | apply Kd.R_drew)); exact (Kd.R_mono (Kd.R_far (p := ⟨gb340, 1, none⟩) (Kd.R_far (p := ⟨gb340, 0, none⟩) (Kd.R_types HO329.out BK340.out (by decide)) (fun _ hk => hk.2) (.slice Ao22 t333.length co22)) (fun _ hk => hk.2) (.slice Ao25 t336.length co25)) (fun _ h_ => h_.1))))) (Kd.R_lt (by (with_reducible repeat (first | apply Kd.R_alloc | apply Kd.R_drewN | apply Kd.R_drew)); exact (Kd.R_mono (Kd.R_far (p := ⟨gb340, 1, none⟩) (Kd.R_far (p := ⟨gb340, 0, none⟩) (Kd.R_types HO335.out BK340.out (by decide)) (fun _ hk => hk.2) (.slice Ao22 t333.length co22)) (fun _ hk => hk.2) (.slice Ao25 t336.length co25)) (fun _ h_ => h_.1))))) (below_size (by repeat (first | (with_reducible first | exact HB.out | apply below_alloc | apply pw_below_drewN | apply below_drew1 | refine below_set ?_ GE325.out | refine below_set ?_ GE340.out) | exact HB.out)))); have n5_ := Aside0.mk (Kd.R_lower (Kd.R_new' (Kd.R_new' ho1 (Kd.R_lt (by (with_reducible repeat (first | apply Kd.R_alloc | apply Kd.R_drewN | apply Kd.R_drew)); exact (Kd.R_mono (Kd.R_far (p := ⟨gb340, 1, none⟩) (Kd.R_far (p := ⟨gb340, 0, none⟩) (Kd.R_types HO332.out BK340.out (by decide)) (fun _ hk => hk.2) (.slice Ao22 t333.length co22)) (fun _ hk => hk.2) (.slice Ao25 t336.length co25)) (fun _ h_ => h_.1))))) (Kd.R_lt (by (with_reducible repeat (first | apply Kd.R_alloc | apply Kd.R_drewN | apply Kd.R_drew)); exact (Kd.R_mono (Kd.R_far (p := ⟨gb340, 1, none⟩) (Kd.R_far (p := ⟨gb340, 0, none⟩) (Kd.R_types HO338.out BK340.out (by decide)) (fun _ hk => hk.2) (.slice Ao22 t333.length co22)) (fun _ hk => hk.2) (.slice Ao25 t336.length co25)) (fun _ h_ => h_.1))))) (below_size (by repeat (first | (with_reducible first | exact HB.out | apply below_alloc | apply pw_below_drewN | apply below_drew1 | refine below_set ?_ GE325.out | refine below_set ?_ GE340.out) | exact HB.out)))); have n6_ := Aside0.mk (blk_below (g := gb325) (o := .cells #[.slice A0_0 l0_0.length c0_0, .slice A0_1 l0_1.length c0_1] 38 (0, 0)) (by (with_reducible repeat (first | refine blk_drewN ?_ _ | refine blk_drew ?_ | refine blk_alloc ?_ _)); refine blk_far ?_ NB325_340.out _; (with_reducible repeat (first | refine blk_drewN ?_ _ | refine blk_drew ?_ | refine blk_alloc ?_ _)); refine blk_far ?_ NB325_340.out _; (with_reducible repeat (first | refine blk_drewN ?_ _ | refine blk_drew ?_ | refine blk_alloc ?_ _)); exact BK325.out) hb); have n7_ := Aside0.mk (blk_below (g := gb340) (o := .cells #[.slice Ao22 t333.length co22, .slice Ao25 t336.length co25] 40 (0, 0)) (by (with_reducible repeat (first | refine blk_drewN ?_ _ | refine blk_drew ?_ | refine blk_alloc ?_ _)); refine blk_put (cs := #[.slice Ao22 t333.length co22, .slice none 0 0]) ?_ 1 _ rfl; (with_reducible repeat (first | refine blk_drewN ?_ _ | refine blk_drew ?_ | refine blk_alloc ?_ _)); refine blk_put (cs := #[.slice none 0 0, .slice none 0 0]) ?_ 0 _ rfl; (with_reducible repeat (first | refine blk_drewN ?_ _ | refine blk_drew ?_ | refine blk_alloc ?_ _)); exact BK340.out) hb); have n8_ := Aside0.mk (below_step (by repeat (first | (with_reducible first | exact HB.out | apply below_alloc | apply pw_below_drewN | apply below_drew1 | refine below_set ?_ GE325.out | refine below_set ?_ GE340.out) | exact HB.out)) hb); clear HO329; clear HO332; clear HO335; clear HO338; clear BK325; clear BK340; clear HB; have HO329 := n0_; have HO332 := n1_; have HO335 := n2_; have HO338 := n3_; have HO343 := n4_; have HO346 := n5_; have BK325 := n6_; have BK340 := n7_; have HB := n8_; clear n0_ n1_ n2_ n3_ n4_ n5_ n6_ n7_ n8_; (try clear hb); (try clear hb2); (try clear hk); (try clear hi); (try clear ho0); (try clear ho1)) | ((with_reducible refine gate_dst (N := 8) rfl ?_); refine box_event ?hg (N := 8) ?hd (cs := #[.slice none 0 0, .slice none 0 0]) (t := 40) ?hr ?_; (case hd => rfl); (case hg => rfl); (case hr => first | (go_simp; done) | (go_simp; rfl)); intro gb347 hg w28 hbox hb; have n0_ := Aside0.mk (Kd.R_below (by (with_reducible repeat (first | apply Kd.R_alloc | apply Kd.R_drewN | apply Kd.R_drew)); exact HO329.out) hb); have n1_ := Aside0.mk (Kd.R_below (by (with_reducible repeat (first | apply Kd.R_alloc | apply Kd.R_drewN | apply Kd.R_drew)); exact HO332.out) hb); have n2_ := Aside0.mk (Kd.R_below (by (with_reducible repeat (first | apply Kd.R_alloc | apply Kd.R_drewN | apply Kd.R_drew)); exact HO335.out) hb); have n3_ := Aside0.mk (Kd.R_below (by (with_reducible repeat (first | apply Kd.R_alloc | apply Kd.R_drewN | apply Kd.R_drew)); exact HO338.out) hb); have n4_ := Aside0.mk (Kd.R_below (by (with_reducible repeat (first | apply Kd.R_alloc | apply Kd.R_drewN | apply Kd.R_drew)); exact HO343.out) hb); have n5_ := Aside0.mk (Kd.R_below (by (with_reducible repeat (first | apply Kd.R_alloc | apply Kd.R_drewN | apply Kd.R_drew)); exact HO346.out) hb); have n6_ := Aside0.mk (blk_below (g := gb325) (o := .cells #[.slice A0_0 l0_0.length c0_0, .slice A0_1 l0_1.length c0_1] 38 (0, 0)) (by (with_reducible repeat (first | refine blk_drewN ?_ _ | refine blk_drew ?_ | refine blk_alloc ?_ _)); exact BK325.out) hb); have n7_ := Aside0.mk (blk_below (g := gb340) (o := .cells #[.slice Ao22 t333.length co22, .slice Ao25 t336.length co25] 40 (0, 0)) (by (with_reducible repeat (first | refine blk_drewN ?_ _ | refine blk_drew ?_ | refine blk_alloc ?_ _)); exact BK340.out) hb); have n8_ := Aside0.mk (below_step (by repeat (first | (with_reducible first | exact HB.out | apply below_alloc | apply pw_below_drewN | apply below_drew1 | refine below_set ?_ GE325.out | refine below_set ?_ GE340.out) | exact HB.out)) hb); have n9_ := Aside0.mk (hbox); have n10_ := Aside0.mk ((by rw [hg]; exact (below_size (by repeat (first | (with_reducible first | exact HB.out | apply below_alloc | apply pw_below_drewN | apply below_drew1 | refine below_set ?_ GE325.out | refine below_set ?_ GE340.out) | exact HB.out))) : w.heap.size ≤ gb347)); have n11_ := Aside0.mk ((by rw [hg]; exact (below_size (by repeat (first | (with_reducible first | exact HB.out | apply below_alloc | apply pw_below_drewN | apply below_drew1 | refine below_set ?_ GE325.out | refine below_set ?_ GE340.out) | exact HB.out))) : w.heap.size ≤ gb347)); have n12_ := Aside0.mk ((by rw [hg]; exact Nat.ne_of_lt (blk_lt (g := gb325) (o := .cells #[.slice A0_0 l0_0.length c0_0, .slice A0_1 l0_1.length c0_1] 38 (0, 0)) (by (with_reducible repeat (first | refine blk_drewN ?_ _ | refine blk_drew ?_ | refine blk_alloc ?_ _)); exact BK325.out)) : gb325 ≠ gb347)); have n13_ := Aside0.mk ((by rw [hg]; exact Nat.ne_of_gt (blk_lt (g := gb325) (o := .cells #[.slice A0_0 l0_0.length c0_0, .slice A0_1 l0_1.length c0_1] 38 (0, 0)) (by (with_reducible repeat (first | refine blk_drewN ?_ _ | refine blk_drew ?_ | refine blk_alloc ?_ _)); exact BK325.out)) : gb347 ≠ gb325)); have n14_ := Aside0.mk ((by rw [hg]; exact Nat.ne_of_lt (blk_lt (g := gb340) (o := .cells #[.slice Ao22 t333.length co22, .slice Ao25 t336.length co25] 40 (0, 0)) (by (with_reducible repeat (first | refine blk_drewN ?_ _ | refine blk_drew ?_ | refine blk_alloc ?_ _)); exact BK340.out)) : gb340 ≠ gb347)); have n15_ := Aside0.mk ((by rw [hg]; exact Nat.ne_of_gt (blk_lt (g := gb340) (o := .cells #[.slice Ao22 t333.length co22, .slice Ao25 t336.length co25] 40 (0, 0)) (by (with_reducible repeat (first | refine blk_drewN ?_ _ | refine blk_drew ?_ | refine blk_alloc ?_ _)); exact BK340.out)) : gb347 ≠ gb340)); clear HO329; clear HO332; clear HO335; clear HO338; clear HO343; clear HO346; clear BK325; clear BK340; clear HB; have HO329 := n0_; have HO332 := n1_; have HO335 := n2_; have HO338 := n3_; have HO343 := n4_; have HO346 := n5_; have BK325 := n6_; have BK340 := n7_; have HB := n8_; have BK347 := n9_; have GW347 := n10_; have GE347 := n11_; have NB325_347 := n12_; have NB347_325 := n13_; have NB340_347 := n14_; have NB347_340 := n15_; clear n0_ n1_ n2_ n3_ n4_ n5_ n6_ n7_ n8_ n9_ n10_ n11_ n12_ n13_ n14_ n15_; clear hb hbox hg; obtain ⟨Ao29, co29, eo29⟩ := Kd.R_slice HO343.out; subst eo29; have hnb30 := NB347_325.out; have hnc30 := NB325_347.out; have hnb31 := NB347_340.out; have hnc31 := NB340_347.out; have hcz32_0 : w28.cell? ⟨gb347, 0, none⟩ = some (.slice none 0 0) := (blk_cell BK347.out 0).trans rfl; have hcz32_1 : w28.cell? ⟨gb347, 1, none⟩ = some (.slice none 0 0) := (blk_cell BK347.out 1).trans rfl; have hfz32_0 := blk_frozen BK347.out 0; have hfz32_1 := blk_frozen BK347.out 1; obtain ⟨Ao33, co33, eo33⟩ := Kd.R_slice HO346.out; subst eo33) | ((with_reducible refine gate_callee (f := 18) rfl ?_); refine goesL_ (some 33) rfl rfl Try.func18 (by kernel_rfl) rfl #[.agg #[.slice Ao29 t341.length co29, .slice Ao33 t344.length co33], .int .i64 a1] rfl (by (try simp only [List.map_toArray, List.map_cons, List.map_nil]); first | done | rfl | (simp only [List.length_drop, List.length_take]; rfl)) ?_; (with_reducible refine (impl_PagesGive.calls k _ _ t341 _ _ t344 a1 t348 t351 t354 _ ?side1 ?side2 ?side3 ?side4 A11.out).mono ?_); (case side1 => refine (Kd.R_reads' (e := 9) (base := w.heap.size) (ok := fun k_ => ((True ∧ some k_ ≠ (.slice Ao18 t327.length co18 : Value).ownBlock) ∧ some k_ ≠ (.slice Ao22 t333.length co22 : Value).ownBlock)) (n := t341.length) (c := co29) ?_).2.2; exact (by (with_reducible repeat (first | apply Kd.R_alloc | apply Kd.R_drewN | apply Kd.R_drew)); exact (Kd.R_mono (Kd.R_far (p := ⟨gb347, 1, none⟩) (Kd.R_far (p := ⟨gb347, 0, none⟩) (Kd.R_types HO343.out BK347.out (by decide)) (fun _ hk => hk.2) (.slice Ao29 t341.length co29)) (fun _ hk => hk.2) (.slice Ao33 t344.length co33)) (fun _ h_ => h_.1)))); (case side2 => exact (Kd.R_reads' HO343.out).2.1); (case side3 => refine (Kd.R_reads' (e := 3) (base := w.heap.size) (ok := fun k_ => ((True ∧ some k_ ≠ (.slice Ao19 t330.length co19 : Value).ownBlock) ∧ some k_ ≠ (.slice Ao25 t336.length co25 : Value).ownBlock)) (n := t344.length) (c := co33) ?_).2.2; exact (by (with_reducible repeat (first | apply Kd.R_alloc | apply Kd.R_drewN | apply Kd.R_drew)); exact (Kd.R_mono (Kd.R_far (p := ⟨gb347, 1, none⟩) (Kd.R_far (p := ⟨gb347, 0, none⟩) (Kd.R_types HO346.out BK347.out (by decide)) (fun _ hk => hk.2) (.slice Ao29 t341.length co29)) (fun _ hk => hk.2) (.slice Ao33 t344.length co33)) (fun _ h_ => h_.1)))); (case side4 => exact (Kd.R_reads' HO346.out).2.1); rintro e w34 ⟨v349, v352, rfl, ho0, ho1, hb⟩; refine ⟨_, rfl, ?_⟩; have n0_ := Aside0.mk (Kd.R_elder' (by (with_reducible repeat (first | apply Kd.R_alloc | apply Kd.R_drewN | apply Kd.R_drew)); exact (Kd.R_mono (Kd.R_far (p := ⟨gb347, 1, none⟩) (Kd.R_far (p := ⟨gb347, 0, none⟩) (Kd.R_types HO329.out BK347.out (by decide)) (fun _ hk => hk.2) (.slice Ao29 t341.length co29)) (fun _ hk => hk.2) (.slice Ao33 t344.length co33)) (fun _ h_ => h_.1))) (Kd.R_base ho0) hb); have n1_ := Aside0.mk (Kd.R_elder' (by (with_reducible repeat (first | apply Kd.R_alloc | apply Kd.R_drewN | apply Kd.R_drew)); exact (Kd.R_mono (Kd.R_far (p := ⟨gb347, 1, none⟩) (Kd.R_far (p := ⟨gb347, 0, none⟩) (Kd.R_types HO332.out BK347.out (by decide)) (fun _ hk => hk.2) (.slice Ao29 t341.length co29)) (fun _ hk => hk.2) (.slice Ao33 t344.length co33)) (fun _ h_ => h_.1))) (Kd.R_base ho1) hb); have n2_ := Aside0.mk (Kd.R_elder' (by (with_reducible repeat (first | apply Kd.R_alloc | apply Kd.R_drewN | apply Kd.R_drew)); exact (Kd.R_mono (Kd.R_far (p := ⟨gb347, 1, none⟩) (Kd.R_far (p := ⟨gb347, 0, none⟩) (Kd.R_types HO335.out BK347.out (by decide)) (fun _ hk => hk.2) (.slice Ao29 t341.length co29)) (fun _ hk => hk.2) (.slice Ao33 t344.length co33)) (fun _ h_ => h_.1))) (Kd.R_base ho0) hb); have n3_ := Aside0.mk (Kd.R_elder' (by (with_reducible repeat (first | apply Kd.R_alloc | apply Kd.R_drewN | apply Kd.R_drew)); exact (Kd.R_mono (Kd.R_far (p := ⟨gb347, 1, none⟩) (Kd.R_far (p := ⟨gb347, 0, none⟩) (Kd.R_types HO338.out BK347.out (by decide)) (fun _ hk => hk.2) (.slice Ao29 t341.length co29)) (fun _ hk => hk.2) (.slice Ao33 t344.length co33)) (fun _ h_ => h_.1))) (Kd.R_base ho1) hb); have n4_ := Aside0.mk (Kd.R_elder' (by (with_reducible repeat (first | apply Kd.R_alloc | apply Kd.R_drewN | apply Kd.R_drew)); exact (Kd.R_mono (Kd.R_far (p := ⟨gb347, 1, none⟩) (Kd.R_far (p := ⟨gb347, 0, none⟩) (Kd.R_types HO343.out BK347.out (by decide)) (fun _ hk => hk.2) (.slice Ao29 t341.length co29)) (fun _ hk => hk.2) (.slice Ao33 t344.length co33)) (fun _ h_ => h_.1))) (Kd.R_base ho0) hb); have n5_ := Aside0.mk (Kd.R_elder' (by (with_reducible repeat (first | apply Kd.R_alloc | apply Kd.R_drewN | apply Kd.R_drew)); exact (Kd.R_mono (Kd.R_far (p := ⟨gb347, 1, none⟩) (Kd.R_far (p := ⟨gb347, 0, none⟩) (Kd.R_types HO346.out BK347.out (by decide)) (fun _ hk => hk.2) (.slice Ao29 t341.length co29)) (fun _ hk => hk.2) (.slice Ao33 t344.length co33)) (fun _ h_ => h_.1))) (Kd.R_base ho1) hb); have n6_ := Aside0.mk (Kd.R_lower (Kd.R_new' (Kd.R_new' (Kd.R_new' ho0 (Kd.R_lt (by (with_reducible repeat (first | apply Kd.R_alloc | apply Kd.R_drewN | apply Kd.R_drew)); exact (Kd.R_mono (Kd.R_far (p := ⟨gb347, 1, none⟩) (Kd.R_far (p := ⟨gb347, 0, none⟩) (Kd.R_types HO329.out BK347.out (by decide)) (fun _ hk => hk.2) (.slice Ao29 t341.length co29)) (fun _ hk => hk.2) (.slice Ao33 t344.length co33)) (fun _ h_ => h_.1))))) (Kd.R_lt (by (with_reducible repeat (first | apply Kd.R_alloc | apply Kd.R_drewN | apply Kd.R_drew)); exact (Kd.R_mono (Kd.R_far (p := ⟨gb347, 1, none⟩) (Kd.R_far (p := ⟨gb347, 0, none⟩) (Kd.R_types HO335.out BK347.out (by decide)) (fun _ hk => hk.2) (.slice Ao29 t341.length co29)) (fun _ hk => hk.2) (.slice Ao33 t344.length co33)) (fun _ h_ => h_.1))))) (Kd.R_lt (by (with_reducible repeat (first | apply Kd.R_alloc | apply Kd.R_drewN | apply Kd.R_drew)); exact (Kd.R_mono (Kd.R_far (p := ⟨gb347, 1, none⟩) (Kd.R_far (p := ⟨gb347, 0, none⟩) (Kd.R_types HO343.out BK347.out (by decide)) (fun _ hk => hk.2) (.slice Ao29 t341.length co29)) (fun _ hk => hk.2) (.slice Ao33 t344.length co33)) (fun _ h_ => h_.1))))) (below_size (by repeat (first | (with_reducible first | exact HB.out | apply below_alloc | apply pw_below_drewN | apply below_drew1 | refine below_set ?_ GE325.out | refine below_set ?_ GE340.out | refine below_set ?_ GE347.out) | exact HB.out)))); have n7_ := Aside0.mk (Kd.R_lower (Kd.R_new' (Kd.R_new' (Kd.R_new' ho1 (Kd.R_lt (by (with_reducible repeat (first | apply Kd.R_alloc | apply Kd.R_drewN | apply Kd.R_drew)); exact (Kd.R_mono (Kd.R_far (p := ⟨gb347, 1, none⟩) (Kd.R_far (p := ⟨gb347, 0, none⟩) (Kd.R_types HO332.out BK347.out (by decide)) (fun _ hk => hk.2) (.slice Ao29 t341.length co29)) (fun _ hk => hk.2) (.slice Ao33 t344.length co33)) (fun _ h_ => h_.1))))) (Kd.R_lt (by (with_reducible repeat (first | apply Kd.R_alloc | apply Kd.R_drewN | apply Kd.R_drew)); exact (Kd.R_mono (Kd.R_far (p := ⟨gb347, 1, none⟩) (Kd.R_far (p := ⟨gb347, 0, none⟩) (Kd.R_types HO338.out BK347.out (by decide)) (fun _ hk => hk.2) (.slice Ao29 t341.length co29)) (fun _ hk => hk.2) (.slice Ao33 t344.length co33)) (fun _ h_ => h_.1))))) (Kd.R_lt (by (with_reducible repeat (first | apply Kd.R_alloc | apply Kd.R_drewN | apply Kd.R_drew)); exact (Kd.R_mono (Kd.R_far (p := ⟨gb347, 1, none⟩) (Kd.R_far (p := ⟨gb347, 0, none⟩) (Kd.R_types HO346.out BK347.out (by decide)) (fun _ hk => hk.2) (.slice Ao29 t341.length co29)) (fun _ hk => hk.2) (.slice Ao33 t344.length co33)) (fun _ h_ => h_.1))))) (below_size (by repeat (first | (with_reducible first | exact HB.out | apply below_alloc | apply pw_below_drewN | apply below_drew1 | refine below_set ?_ GE325.out | refine below_set ?_ GE340.out | refine below_set ?_ GE347.out) | exact HB.out)))); have n8_ := Aside0.mk (blk_below (g := gb325) (o := .cells #[.slice A0_0 l0_0.length c0_0, .slice A0_1 l0_1.length c0_1] 38 (0, 0)) (by (with_reducible repeat (first | refine blk_drewN ?_ _ | refine blk_drew ?_ | refine blk_alloc ?_ _)); refine blk_far ?_ NB325_347.out _; (with_reducible repeat (first | refine blk_drewN ?_ _ | refine blk_drew ?_ | refine blk_alloc ?_ _)); refine blk_far ?_ NB325_347.out _; (with_reducible repeat (first | refine blk_drewN ?_ _ | refine blk_drew ?_ | refine blk_alloc ?_ _)); exact BK325.out) hb); have n9_ := Aside0.mk (blk_below (g := gb340) (o := .cells #[.slice Ao22 t333.length co22, .slice Ao25 t336.length co25] 40 (0, 0)) (by (with_reducible repeat (first | refine blk_drewN ?_ _ | refine blk_drew ?_ | refine blk_alloc ?_ _)); refine blk_far ?_ NB340_347.out _; (with_reducible repeat (first | refine blk_drewN ?_ _ | refine blk_drew ?_ | refine blk_alloc ?_ _)); refine blk_far ?_ NB340_347.out _; (with_reducible repeat (first | refine blk_drewN ?_ _ | refine blk_drew ?_ | refine blk_alloc ?_ _)); exact BK340.out) hb); have n10_ := Aside0.mk (blk_below (g := gb347) (o := .cells #[.slice Ao29 t341.length co29, .slice Ao33 t344.length co33] 40 (0, 0)) (by (with_reducible repeat (first | refine blk_drewN ?_ _ | refine blk_drew ?_ | refine blk_alloc ?_ _)); refine blk_put (cs := #[.slice Ao29 t341.length co29, .slice none 0 0]) ?_ 1 _ rfl; (with_reducible repeat (first | refine blk_drewN ?_ _ | refine blk_drew ?_ | refine blk_alloc ?_ _)); refine blk_put (cs := #[.slice none 0 0, .slice none 0 0]) ?_ 0 _ rfl; (with_reducible repeat (first | refine blk_drewN ?_ _ | refine blk_drew ?_ | refine blk_alloc ?_ _)); exact BK347.out) hb); have n11_ := Aside0.mk (below_step (by repeat (first | (with_reducible first | exact HB.out | apply below_alloc | apply pw_below_drewN | apply below_drew1 | refine below_set ?_ GE325.out | refine below_set ?_ GE340.out | refine below_set ?_ GE347.out) | exact HB.out)) hb); clear HO329; clear HO332; clear HO335; clear HO338; clear HO343; clear HO346; clear BK325; clear BK340; clear BK347; clear HB; have HO329 := n0_; have HO332 := n1_; have HO335 := n2_; have HO338 := n3_; have HO343 := n4_; have HO346 := n5_; have HO350 := n6_; have HO353 := n7_; have BK325 := n8_; have BK340 := n9_; have BK347 := n10_; have HB := n11_; clear n0_ n1_ n2_ n3_ n4_ n5_ n6_ n7_ n8_ n9_ n10_ n11_; (try clear hb); (try clear hb2); (try clear hk); (try clear hi); (try clear ho0); (try clear ho1)) | ((with_reducible refine gate_dst (N := 9) rfl ?_); refine box_event ?hg (N := 9) ?hd (cs := #[.slice none 0 0, .slice none 0 0]) (t := 40) ?hr ?_; (case hd => rfl); (case hg => rfl); (case hr => first | (go_simp; done) | (go_simp; rfl)); intro gb355 hg w35 hbox hb; have n0_ := Aside0.mk (Kd.R_below (by (with_reducible repeat (first | apply Kd.R_alloc | apply Kd.R_drewN | apply Kd.R_drew)); exact HO329.out) hb); have n1_ := Aside0.mk (Kd.R_below (by (with_reducible repeat (first | apply Kd.R_alloc | apply Kd.R_drewN | apply Kd.R_drew)); exact HO332.out) hb); have n2_ := Aside0.mk (Kd.R_below (by (with_reducible repeat (first | apply Kd.R_alloc | apply Kd.R_drewN | apply Kd.R_drew)); exact HO335.out) hb); have n3_ := Aside0.mk (Kd.R_below (by (with_reducible repeat (first | apply Kd.R_alloc | apply Kd.R_drewN | apply Kd.R_drew)); exact HO338.out) hb); have n4_ := Aside0.mk (Kd.R_below (by (with_reducible repeat (first | apply Kd.R_alloc | apply Kd.R_drewN | apply Kd.R_drew)); exact HO343.out) hb); have n5_ := Aside0.mk (Kd.R_below (by (with_reducible repeat (first | apply Kd.R_alloc | apply Kd.R_drewN | apply Kd.R_drew)); exact HO346.out) hb); have n6_ := Aside0.mk (Kd.R_below (by (with_reducible repeat (first | apply Kd.R_alloc | apply Kd.R_drewN | apply Kd.R_drew)); exact HO350.out) hb); have n7_ := Aside0.mk (Kd.R_below (by (with_reducible repeat (first | apply Kd.R_alloc | apply Kd.R_drewN | apply Kd.R_drew)); exact HO353.out) hb); have n8_ := Aside0.mk (blk_below (g := gb325) (o := .cells #[.slice A0_0 l0_0.length c0_0, .slice A0_1 l0_1.length c0_1] 38 (0, 0)) (by (with_reducible repeat (first | refine blk_drewN ?_ _ | refine blk_drew ?_ | refine blk_alloc ?_ _)); exact BK325.out) hb); have n9_ := Aside0.mk (blk_below (g := gb340) (o := .cells #[.slice Ao22 t333.length co22, .slice Ao25 t336.length co25] 40 (0, 0)) (by (with_reducible repeat (first | refine blk_drewN ?_ _ | refine blk_drew ?_ | refine blk_alloc ?_ _)); exact BK340.out) hb); have n10_ := Aside0.mk (blk_below (g := gb347) (o := .cells #[.slice Ao29 t341.length co29, .slice Ao33 t344.length co33] 40 (0, 0)) (by (with_reducible repeat (first | refine blk_drewN ?_ _ | refine blk_drew ?_ | refine blk_alloc ?_ _)); exact BK347.out) hb); have n11_ := Aside0.mk (below_step (by repeat (first | (with_reducible first | exact HB.out | apply below_alloc | apply pw_below_drewN | apply below_drew1 | refine below_set ?_ GE325.out | refine below_set ?_ GE340.out | refine below_set ?_ GE347.out) | exact HB.out)) hb); have n12_ := Aside0.mk (hbox); have n13_ := Aside0.mk ((by rw [hg]; exact (below_size (by repeat (first | (with_reducible first | exact HB.out | apply below_alloc | apply pw_below_drewN | apply below_drew1 | refine below_set ?_ GE325.out | refine below_set ?_ GE340.out | refine below_set ?_ GE347.out) | exact HB.out))) : w.heap.size ≤ gb355)); have n14_ := Aside0.mk ((by rw [hg]; exact (below_size (by repeat (first | (with_reducible first | exact HB.out | apply below_alloc | apply pw_below_drewN | apply below_drew1 | refine below_set ?_ GE325.out | refine below_set ?_ GE340.out | refine below_set ?_ GE347.out) | exact HB.out))) : w.heap.size ≤ gb355)); have n15_ := Aside0.mk ((by rw [hg]; exact Nat.ne_of_lt (blk_lt (g := gb325) (o := .cells #[.slice A0_0 l0_0.length c0_0, .slice A0_1 l0_1.length c0_1] 38 (0, 0)) (by (with_reducible repeat (first | refine blk_drewN ?_ _ | refine blk_drew ?_ | refine blk_alloc ?_ _)); exact BK325.out)) : gb325 ≠ gb355)); have n16_ := Aside0.mk ((by rw [hg]; exact Nat.ne_of_gt (blk_lt (g := gb325) (o := .cells #[.slice A0_0 l0_0.length c0_0, .slice A0_1 l0_1.length c0_1] 38 (0, 0)) (by (with_reducible repeat (first | refine blk_drewN ?_ _ | refine blk_drew ?_ | refine blk_alloc ?_ _)); exact BK325.out)) : gb355 ≠ gb325)); have n17_ := Aside0.mk ((by rw [hg]; exact Nat.ne_of_lt (blk_lt (g := gb340) (o := .cells #[.slice Ao22 t333.length co22, .slice Ao25 t336.length co25] 40 (0, 0)) (by (with_reducible repeat (first | refine blk_drewN ?_ _ | refine blk_drew ?_ | refine blk_alloc ?_ _)); exact BK340.out)) : gb340 ≠ gb355)); have n18_ := Aside0.mk ((by rw [hg]; exact Nat.ne_of_gt (blk_lt (g := gb340) (o := .cells #[.slice Ao22 t333.length co22, .slice Ao25 t336.length co25] 40 (0, 0)) (by (with_reducible repeat (first | refine blk_drewN ?_ _ | refine blk_drew ?_ | refine blk_alloc ?_ _)); exact BK340.out)) : gb355 ≠ gb340)); have n19_ := Aside0.mk ((by rw [hg]; exact Nat.ne_of_lt (blk_lt (g := gb347) (o := .cells #[.slice Ao29 t341.length co29, .slice Ao33 t344.length co33] 40 (0, 0)) (by (with_reducible repeat (first | refine blk_drewN ?_ _ | refine blk_drew ?_ | refine blk_alloc ?_ _)); exact BK347.out)) : gb347 ≠ gb355)); have n20_ := Aside0.mk ((by rw [hg]; exact Nat.ne_of_gt (blk_lt (g := gb347) (o := .cells #[.slice Ao29 t341.length co29, .slice Ao33 t344.length co33] 40 (0, 0)) (by (with_reducible repeat (first | refine blk_drewN ?_ _ | refine blk_drew ?_ | refine blk_alloc ?_ _)); exact BK347.out)) : gb355 ≠ gb347)); clear HO329; clear HO332; clear HO335; clear HO338; clear HO343; clear HO346; clear HO350; clear HO353; clear BK325; clear BK340; clear BK347; clear HB; have HO329 := n0_; have HO332 := n1_; have HO335 := n2_; have HO338 := n3_; have HO343 := n4_; have HO346 := n5_; have HO350 := n6_; have HO353 := n7_; have BK325 := n8_; have BK340 := n9_; have BK347 := n10_; have HB := n11_; have BK355 := n12_; have GW355 := n13_; have GE355 := n14_; have NB325_355 := n15_; have NB355_325 := n16_; have NB340_355 := n17_; have NB355_340 := n18_; have NB347_355 := n19_; have NB355_347 := n20_; clear n0_ n1_ n2_ n3_ n4_ n5_ n6_ n7_ n8_ n9_ n10_ n11_ n12_ n13_ n14_ n15_ n16_ n17_ n18_ n19_ n20_; clear hb hbox hg; obtain ⟨Ao36, co36, eo36⟩ := Kd.R_slice HO350.out; subst eo36; have hnb37 := NB355_325.out; have hnc37 := NB325_355.out; have hnb38 := NB355_340.out; have hnc38 := NB340_355.out; have hnb39 := NB355_347.out; have hnc39 := NB347_355.out; have hcz40_0 : w35.cell? ⟨gb355, 0, none⟩ = some (.slice none 0 0) := (blk_cell BK355.out 0).trans rfl; have hcz40_1 : w35.cell? ⟨gb355, 1, none⟩ = some (.slice none 0 0) := (blk_cell BK355.out 1).trans rfl; have hfz40_0 := blk_frozen BK355.out 0; have hfz40_1 := blk_frozen BK355.out 1; obtain ⟨Ao41, co41, eo41⟩ := Kd.R_slice HO353.out; subst eo41))
    (try simp only [Act.put, List.setIfInBounds_toArray, List.set_cons_zero, List.set_cons_succ])
    go_cut [44] (fun v44 wc => ∃ (kq : Nat) (x44_11 : Bool), v44 = .bool x44_11 ∧ Aside0 (laws_FnExactPagesGive.j0 kq a1 t339 t354 x44_11 l0_0 l0_1 t333 t336 t341 t344 t348 t351 = some r) ∧ Aside0 (kq ≤ k) ∧ Aside0 (Kd.R Kd.string 9 wc w.heap.size (fun k_ => some k_ ≠ ((.slice Ao29 t341.length co29) : Value).ownBlock ∧ some k_ ≠ ((.slice Ao36 t348.length co36) : Value).ownBlock) (.slice Ao22 t333.length co22) t333) ∧ Aside0 (Kd.R (Kd.int .i64) 3 wc w.heap.size (fun k_ => some k_ ≠ ((.slice Ao33 t344.length co33) : Value).ownBlock ∧ some k_ ≠ ((.slice Ao41 t351.length co41) : Value).ownBlock) (.slice Ao25 t336.length co25) t336) ∧ Aside0 (Kd.R Kd.string 9 wc w.heap.size (fun k_ => some k_ ≠ ((.slice Ao22 t333.length co22) : Value).ownBlock ∧ some k_ ≠ ((.slice Ao36 t348.length co36) : Value).ownBlock) (.slice Ao29 t341.length co29) t341) ∧ Aside0 (Kd.R (Kd.int .i64) 3 wc w.heap.size (fun k_ => some k_ ≠ ((.slice Ao25 t336.length co25) : Value).ownBlock ∧ some k_ ≠ ((.slice Ao41 t351.length co41) : Value).ownBlock) (.slice Ao33 t344.length co33) t344) ∧ Aside0 (Kd.R Kd.string 9 wc w.heap.size (fun k_ => some k_ ≠ ((.slice Ao22 t333.length co22) : Value).ownBlock ∧ some k_ ≠ ((.slice Ao29 t341.length co29) : Value).ownBlock) (.slice Ao36 t348.length co36) t348) ∧ Aside0 (Kd.R (Kd.int .i64) 3 wc w.heap.size (fun k_ => some k_ ≠ ((.slice Ao25 t336.length co25) : Value).ownBlock ∧ some k_ ≠ ((.slice Ao33 t344.length co33) : Value).ownBlock) (.slice Ao41 t351.length co41) t351) ∧ Aside0 (wc.heap[gb325]? = some (.cells #[(.slice A0_0 l0_0.length c0_0), (.slice A0_1 l0_1.length c0_1)] 38 (0, 0))) ∧ Aside0 (wc.heap[gb340]? = some (.cells #[(.slice Ao22 t333.length co22), (.slice Ao25 t336.length co25)] 40 (0, 0))) ∧ Aside0 (wc.heap[gb347]? = some (.cells #[(.slice Ao29 t341.length co29), (.slice Ao33 t344.length co33)] 40 (0, 0))) ∧ Aside0 (wc.heap[gb355]? = some (.cells #[(.slice Ao36 t348.length co36), (.slice Ao41 t351.length co41)] 40 (0, 0))) ∧ Aside0 (Below w.heap.size w wc))
    case first =>
      have H := HC12.out
      clear HC12
      replace H := Option.bind_eq_some_iff.mp H
      obtain ⟨t356, A420, H⟩ := H
      replace H : (if t356 = true then (laws_FnExactPagesGive.j0 k a1 t339 t354 (t354 != t339) l0_0 l0_1 t333 t336 t341 t344 t348 t351) else (laws_FnExactPagesGive.j0 k a1 t339 t354 true l0_0 l0_1 t333 t336 t341 t344 t348 t351)) = some r := H
      have A42 := Aside0.mk A420
      clear A420
      by_cases c43 : t356 = true
      · subst c43
        have H1 : (laws_FnExactPagesGive.j0 k a1 t339 t354 (t354 != t339) l0_0 l0_1 t333 t336 t341 t344 t348 t351) = some r := by rw [if_pos rfl] at H; exact H
        clear H
        have H := H1
        clear H1
        have H' := Aside0.mk H
        clear H
        have hnb44 := NB355_325.out
        have hnc44 := NB325_355.out
        have hnb45 := NB355_340.out
        have hnc45 := NB340_355.out
        have hnb46 := NB355_347.out
        have hnc46 := NB347_355.out
        have hcz47_0 : w35.cell? ⟨gb355, 0, none⟩ = some (.slice none 0 0) := (blk_cell BK355.out 0).trans rfl
        have hcz47_1 : w35.cell? ⟨gb355, 1, none⟩ = some (.slice none 0 0) := (blk_cell BK355.out 1).trans rfl
        have hfz47_0 := blk_frozen BK355.out 0
        have hfz47_1 := blk_frozen BK355.out 1
        have hnb48 := NB340_325.out
        have hnc48 := NB325_340.out
        have hnb49 := NB340_347.out
        have hnc49 := NB347_340.out
        have hcz50_0 : w35.cell? ⟨gb340, 0, none⟩ = some (.slice Ao22 t333.length co22) := (blk_cell BK340.out 0).trans rfl
        have hcz50_1 : w35.cell? ⟨gb340, 1, none⟩ = some (.slice Ao25 t336.length co25) := (blk_cell BK340.out 1).trans rfl
        have hfz50_0 := blk_frozen BK340.out 0
        have hfz50_1 := blk_frozen BK340.out 1
        go_wp2_with (first | ((with_reducible refine gate_callee (f := 19) rfl ?_); refine goesL_ (some 38) rfl rfl Try.func19 (by kernel_rfl) rfl #[.agg #[.slice Ao36 t348.length co36, .slice Ao41 t351.length co41], .agg #[.slice Ao22 t333.length co22, .slice Ao25 t336.length co25]] rfl (by (try simp only [List.map_toArray, List.map_cons, List.map_nil]); first | done | rfl | (simp only [List.length_drop, List.length_take]; rfl)) ?_; (with_reducible refine (laws_eqPages.calls k _ _ t348 _ _ t351 _ _ t333 _ _ t336 true _ ?side1 ?side2 ?side3 ?side4 ?side5 ?side6 ?side7 ?side8 A42.out).mono ?_); (case side1 => refine (Kd.R_reads' (e := 9) (base := w.heap.size) (ok := fun k_ => (((True ∧ some k_ ≠ (.slice Ao18 t327.length co18 : Value).ownBlock) ∧ some k_ ≠ (.slice Ao22 t333.length co22 : Value).ownBlock) ∧ some k_ ≠ (.slice Ao29 t341.length co29 : Value).ownBlock)) (n := t348.length) (c := co36) ?_).2.2; exact (by (with_reducible repeat (first | apply Kd.R_alloc | apply Kd.R_drewN | apply Kd.R_drew)); exact (Kd.R_mono (Kd.R_far (p := ⟨gb355, 1, none⟩) (Kd.R_far (p := ⟨gb355, 0, none⟩) (Kd.R_types HO350.out BK355.out (by decide)) (fun _ hk => hk.2) (.slice Ao36 t348.length co36)) (fun _ hk => hk.2) (.slice Ao41 t351.length co41)) (fun _ h_ => h_.1)))); (case side2 => exact (Kd.R_reads' HO350.out).2.1); (case side3 => refine (Kd.R_reads' (e := 3) (base := w.heap.size) (ok := fun k_ => (((True ∧ some k_ ≠ (.slice Ao19 t330.length co19 : Value).ownBlock) ∧ some k_ ≠ (.slice Ao25 t336.length co25 : Value).ownBlock) ∧ some k_ ≠ (.slice Ao33 t344.length co33 : Value).ownBlock)) (n := t351.length) (c := co41) ?_).2.2; exact (by (with_reducible repeat (first | apply Kd.R_alloc | apply Kd.R_drewN | apply Kd.R_drew)); exact (Kd.R_mono (Kd.R_far (p := ⟨gb355, 1, none⟩) (Kd.R_far (p := ⟨gb355, 0, none⟩) (Kd.R_types HO353.out BK355.out (by decide)) (fun _ hk => hk.2) (.slice Ao36 t348.length co36)) (fun _ hk => hk.2) (.slice Ao41 t351.length co41)) (fun _ h_ => h_.1)))); (case side4 => exact (Kd.R_reads' HO353.out).2.1); (case side5 => refine (Kd.R_reads' (e := 9) (base := w.heap.size) (ok := fun k_ => (((True ∧ some k_ ≠ (.slice Ao18 t327.length co18 : Value).ownBlock) ∧ some k_ ≠ (.slice Ao29 t341.length co29 : Value).ownBlock) ∧ some k_ ≠ (.slice Ao36 t348.length co36 : Value).ownBlock)) (n := t333.length) (c := co22) ?_).2.2; exact (by (with_reducible repeat (first | apply Kd.R_alloc | apply Kd.R_drewN | apply Kd.R_drew)); exact (Kd.R_mono (Kd.R_far (p := ⟨gb355, 1, none⟩) (Kd.R_far (p := ⟨gb355, 0, none⟩) (Kd.R_types HO335.out BK355.out (by decide)) (fun _ hk => hk.2) (.slice Ao36 t348.length co36)) (fun _ hk => hk.2) (.slice Ao41 t351.length co41)) (fun _ h_ => h_.1)))); (case side6 => exact (Kd.R_reads' HO335.out).2.1); (case side7 => refine (Kd.R_reads' (e := 3) (base := w.heap.size) (ok := fun k_ => (((True ∧ some k_ ≠ (.slice Ao19 t330.length co19 : Value).ownBlock) ∧ some k_ ≠ (.slice Ao33 t344.length co33 : Value).ownBlock) ∧ some k_ ≠ (.slice Ao41 t351.length co41 : Value).ownBlock)) (n := t336.length) (c := co25) ?_).2.2; exact (by (with_reducible repeat (first | apply Kd.R_alloc | apply Kd.R_drewN | apply Kd.R_drew)); exact (Kd.R_mono (Kd.R_far (p := ⟨gb355, 1, none⟩) (Kd.R_far (p := ⟨gb355, 0, none⟩) (Kd.R_types HO338.out BK355.out (by decide)) (fun _ hk => hk.2) (.slice Ao36 t348.length co36)) (fun _ hk => hk.2) (.slice Ao41 t351.length co41)) (fun _ h_ => h_.1)))); (case side8 => exact (Kd.R_reads' HO338.out).2.1); rintro e w51 ⟨rfl, hb⟩; refine ⟨_, rfl, ?_⟩; have n0_ := Aside0.mk (Kd.R_below (by (with_reducible repeat (first | apply Kd.R_alloc | apply Kd.R_drewN | apply Kd.R_drew)); exact (Kd.R_mono (Kd.R_far (p := ⟨gb355, 1, none⟩) (Kd.R_far (p := ⟨gb355, 0, none⟩) (Kd.R_types HO329.out BK355.out (by decide)) (fun _ hk => hk.2) (.slice Ao36 t348.length co36)) (fun _ hk => hk.2) (.slice Ao41 t351.length co41)) (fun _ h_ => h_.1))) hb); have n1_ := Aside0.mk (Kd.R_below (by (with_reducible repeat (first | apply Kd.R_alloc | apply Kd.R_drewN | apply Kd.R_drew)); exact (Kd.R_mono (Kd.R_far (p := ⟨gb355, 1, none⟩) (Kd.R_far (p := ⟨gb355, 0, none⟩) (Kd.R_types HO332.out BK355.out (by decide)) (fun _ hk => hk.2) (.slice Ao36 t348.length co36)) (fun _ hk => hk.2) (.slice Ao41 t351.length co41)) (fun _ h_ => h_.1))) hb); have n2_ := Aside0.mk (Kd.R_below (by (with_reducible repeat (first | apply Kd.R_alloc | apply Kd.R_drewN | apply Kd.R_drew)); exact (Kd.R_mono (Kd.R_far (p := ⟨gb355, 1, none⟩) (Kd.R_far (p := ⟨gb355, 0, none⟩) (Kd.R_types HO335.out BK355.out (by decide)) (fun _ hk => hk.2) (.slice Ao36 t348.length co36)) (fun _ hk => hk.2) (.slice Ao41 t351.length co41)) (fun _ h_ => h_.1))) hb); have n3_ := Aside0.mk (Kd.R_below (by (with_reducible repeat (first | apply Kd.R_alloc | apply Kd.R_drewN | apply Kd.R_drew)); exact (Kd.R_mono (Kd.R_far (p := ⟨gb355, 1, none⟩) (Kd.R_far (p := ⟨gb355, 0, none⟩) (Kd.R_types HO338.out BK355.out (by decide)) (fun _ hk => hk.2) (.slice Ao36 t348.length co36)) (fun _ hk => hk.2) (.slice Ao41 t351.length co41)) (fun _ h_ => h_.1))) hb); have n4_ := Aside0.mk (Kd.R_below (by (with_reducible repeat (first | apply Kd.R_alloc | apply Kd.R_drewN | apply Kd.R_drew)); exact (Kd.R_mono (Kd.R_far (p := ⟨gb355, 1, none⟩) (Kd.R_far (p := ⟨gb355, 0, none⟩) (Kd.R_types HO343.out BK355.out (by decide)) (fun _ hk => hk.2) (.slice Ao36 t348.length co36)) (fun _ hk => hk.2) (.slice Ao41 t351.length co41)) (fun _ h_ => h_.1))) hb); have n5_ := Aside0.mk (Kd.R_below (by (with_reducible repeat (first | apply Kd.R_alloc | apply Kd.R_drewN | apply Kd.R_drew)); exact (Kd.R_mono (Kd.R_far (p := ⟨gb355, 1, none⟩) (Kd.R_far (p := ⟨gb355, 0, none⟩) (Kd.R_types HO346.out BK355.out (by decide)) (fun _ hk => hk.2) (.slice Ao36 t348.length co36)) (fun _ hk => hk.2) (.slice Ao41 t351.length co41)) (fun _ h_ => h_.1))) hb); have n6_ := Aside0.mk (Kd.R_below (by (with_reducible repeat (first | apply Kd.R_alloc | apply Kd.R_drewN | apply Kd.R_drew)); exact (Kd.R_mono (Kd.R_far (p := ⟨gb355, 1, none⟩) (Kd.R_far (p := ⟨gb355, 0, none⟩) (Kd.R_types HO350.out BK355.out (by decide)) (fun _ hk => hk.2) (.slice Ao36 t348.length co36)) (fun _ hk => hk.2) (.slice Ao41 t351.length co41)) (fun _ h_ => h_.1))) hb); have n7_ := Aside0.mk (Kd.R_below (by (with_reducible repeat (first | apply Kd.R_alloc | apply Kd.R_drewN | apply Kd.R_drew)); exact (Kd.R_mono (Kd.R_far (p := ⟨gb355, 1, none⟩) (Kd.R_far (p := ⟨gb355, 0, none⟩) (Kd.R_types HO353.out BK355.out (by decide)) (fun _ hk => hk.2) (.slice Ao36 t348.length co36)) (fun _ hk => hk.2) (.slice Ao41 t351.length co41)) (fun _ h_ => h_.1))) hb); have n8_ := Aside0.mk (blk_below (g := gb325) (o := .cells #[.slice A0_0 l0_0.length c0_0, .slice A0_1 l0_1.length c0_1] 38 (0, 0)) (by (with_reducible repeat (first | refine blk_drewN ?_ _ | refine blk_drew ?_ | refine blk_alloc ?_ _)); refine blk_far ?_ NB325_355.out _; (with_reducible repeat (first | refine blk_drewN ?_ _ | refine blk_drew ?_ | refine blk_alloc ?_ _)); refine blk_far ?_ NB325_355.out _; (with_reducible repeat (first | refine blk_drewN ?_ _ | refine blk_drew ?_ | refine blk_alloc ?_ _)); exact BK325.out) hb); have n9_ := Aside0.mk (blk_below (g := gb340) (o := .cells #[.slice Ao22 t333.length co22, .slice Ao25 t336.length co25] 40 (0, 0)) (by (with_reducible repeat (first | refine blk_drewN ?_ _ | refine blk_drew ?_ | refine blk_alloc ?_ _)); refine blk_far ?_ NB340_355.out _; (with_reducible repeat (first | refine blk_drewN ?_ _ | refine blk_drew ?_ | refine blk_alloc ?_ _)); refine blk_far ?_ NB340_355.out _; (with_reducible repeat (first | refine blk_drewN ?_ _ | refine blk_drew ?_ | refine blk_alloc ?_ _)); exact BK340.out) hb); have n10_ := Aside0.mk (blk_below (g := gb347) (o := .cells #[.slice Ao29 t341.length co29, .slice Ao33 t344.length co33] 40 (0, 0)) (by (with_reducible repeat (first | refine blk_drewN ?_ _ | refine blk_drew ?_ | refine blk_alloc ?_ _)); refine blk_far ?_ NB347_355.out _; (with_reducible repeat (first | refine blk_drewN ?_ _ | refine blk_drew ?_ | refine blk_alloc ?_ _)); refine blk_far ?_ NB347_355.out _; (with_reducible repeat (first | refine blk_drewN ?_ _ | refine blk_drew ?_ | refine blk_alloc ?_ _)); exact BK347.out) hb); have n11_ := Aside0.mk (blk_below (g := gb355) (o := .cells #[.slice Ao36 t348.length co36, .slice Ao41 t351.length co41] 40 (0, 0)) (by (with_reducible repeat (first | refine blk_drewN ?_ _ | refine blk_drew ?_ | refine blk_alloc ?_ _)); refine blk_put (cs := #[.slice Ao36 t348.length co36, .slice none 0 0]) ?_ 1 _ rfl; (with_reducible repeat (first | refine blk_drewN ?_ _ | refine blk_drew ?_ | refine blk_alloc ?_ _)); refine blk_put (cs := #[.slice none 0 0, .slice none 0 0]) ?_ 0 _ rfl; (with_reducible repeat (first | refine blk_drewN ?_ _ | refine blk_drew ?_ | refine blk_alloc ?_ _)); exact BK355.out) hb); have n12_ := Aside0.mk (below_step (by repeat (first | (with_reducible first | exact HB.out | apply below_alloc | apply pw_below_drewN | apply below_drew1 | refine below_set ?_ GE325.out | refine below_set ?_ GE340.out | refine below_set ?_ GE347.out | refine below_set ?_ GE355.out) | exact HB.out)) hb); clear HO329; clear HO332; clear HO335; clear HO338; clear HO343; clear HO346; clear HO350; clear HO353; clear BK325; clear BK340; clear BK347; clear BK355; clear HB; have HO329 := n0_; have HO332 := n1_; have HO335 := n2_; have HO338 := n3_; have HO343 := n4_; have HO346 := n5_; have HO350 := n6_; have HO353 := n7_; have BK325 := n8_; have BK340 := n9_; have BK347 := n10_; have BK355 := n11_; have HB := n12_; clear n0_ n1_ n2_ n3_ n4_ n5_ n6_ n7_ n8_ n9_ n10_ n11_ n12_; (try clear hb); (try clear hb2); (try clear hk); (try clear hi)))
        go_meet
        case rel => exact ⟨_, ((t354 != t339)), (by first | rfl | (simp; done) | (simp [*]; done)), H', ⟨by first | omega | exact Nat.le_refl _⟩, ⟨by (with_reducible repeat (first | apply Kd.R_alloc | apply Kd.R_drewN | apply Kd.R_drew)); exact Kd.R_mono HO335.out (fun _ hk => ⟨hk.1.2, hk.2⟩)⟩, ⟨by (with_reducible repeat (first | apply Kd.R_alloc | apply Kd.R_drewN | apply Kd.R_drew)); exact Kd.R_mono HO338.out (fun _ hk => ⟨hk.1.2, hk.2⟩)⟩, ⟨by (with_reducible repeat (first | apply Kd.R_alloc | apply Kd.R_drewN | apply Kd.R_drew)); exact Kd.R_mono HO343.out (fun _ hk => ⟨hk.1.2, hk.2⟩)⟩, ⟨by (with_reducible repeat (first | apply Kd.R_alloc | apply Kd.R_drewN | apply Kd.R_drew)); exact Kd.R_mono HO346.out (fun _ hk => ⟨hk.1.2, hk.2⟩)⟩, ⟨by (with_reducible repeat (first | apply Kd.R_alloc | apply Kd.R_drewN | apply Kd.R_drew)); exact Kd.R_mono HO350.out (fun _ hk => ⟨hk.1.2, hk.2⟩)⟩, ⟨by (with_reducible repeat (first | apply Kd.R_alloc | apply Kd.R_drewN | apply Kd.R_drew)); exact Kd.R_mono HO353.out (fun _ hk => ⟨hk.1.2, hk.2⟩)⟩, ⟨by (with_reducible repeat (first | refine blk_drewN ?_ _ | refine blk_drew ?_ | refine blk_alloc ?_ _)); exact BK325.out⟩, ⟨by (with_reducible repeat (first | refine blk_drewN ?_ _ | refine blk_drew ?_ | refine blk_alloc ?_ _)); exact BK340.out⟩, ⟨by (with_reducible repeat (first | refine blk_drewN ?_ _ | refine blk_drew ?_ | refine blk_alloc ?_ _)); exact BK347.out⟩, ⟨by (with_reducible repeat (first | refine blk_drewN ?_ _ | refine blk_drew ?_ | refine blk_alloc ?_ _)); exact BK355.out⟩, ⟨by repeat (first | (with_reducible first | exact HB.out | apply below_alloc | apply pw_below_drewN | apply below_drew1 | refine below_set ?_ GE325.out | refine below_set ?_ GE340.out | refine below_set ?_ GE347.out | refine below_set ?_ GE355.out) | exact HB.out)⟩⟩
      · replace c43 := Bool.eq_false_iff.mpr c43
        subst c43
        have H1 : (laws_FnExactPagesGive.j0 k a1 t339 t354 true l0_0 l0_1 t333 t336 t341 t344 t348 t351) = some r := by rw [if_neg (show ¬ (false = true) by decide)] at H; exact H
        clear H
        have H := H1
        clear H1
        have H' := Aside0.mk H
        clear H
        have hnb52 := NB355_325.out
        have hnc52 := NB325_355.out
        have hnb53 := NB355_340.out
        have hnc53 := NB340_355.out
        have hnb54 := NB355_347.out
        have hnc54 := NB347_355.out
        have hcz55_0 : w35.cell? ⟨gb355, 0, none⟩ = some (.slice none 0 0) := (blk_cell BK355.out 0).trans rfl
        have hcz55_1 : w35.cell? ⟨gb355, 1, none⟩ = some (.slice none 0 0) := (blk_cell BK355.out 1).trans rfl
        have hfz55_0 := blk_frozen BK355.out 0
        have hfz55_1 := blk_frozen BK355.out 1
        have hnb56 := NB340_325.out
        have hnc56 := NB325_340.out
        have hnb57 := NB340_347.out
        have hnc57 := NB347_340.out
        have hcz58_0 : w35.cell? ⟨gb340, 0, none⟩ = some (.slice Ao22 t333.length co22) := (blk_cell BK340.out 0).trans rfl
        have hcz58_1 : w35.cell? ⟨gb340, 1, none⟩ = some (.slice Ao25 t336.length co25) := (blk_cell BK340.out 1).trans rfl
        have hfz58_0 := blk_frozen BK340.out 0
        have hfz58_1 := blk_frozen BK340.out 1
        go_wp2_with (first | ((with_reducible refine gate_callee (f := 19) rfl ?_); refine goesL_ (some 38) rfl rfl Try.func19 (by kernel_rfl) rfl #[.agg #[.slice Ao36 t348.length co36, .slice Ao41 t351.length co41], .agg #[.slice Ao22 t333.length co22, .slice Ao25 t336.length co25]] rfl (by (try simp only [List.map_toArray, List.map_cons, List.map_nil]); first | done | rfl | (simp only [List.length_drop, List.length_take]; rfl)) ?_; (with_reducible refine (laws_eqPages.calls k _ _ t348 _ _ t351 _ _ t333 _ _ t336 false _ ?side1 ?side2 ?side3 ?side4 ?side5 ?side6 ?side7 ?side8 A42.out).mono ?_); (case side1 => refine (Kd.R_reads' (e := 9) (base := w.heap.size) (ok := fun k_ => (((True ∧ some k_ ≠ (.slice Ao18 t327.length co18 : Value).ownBlock) ∧ some k_ ≠ (.slice Ao22 t333.length co22 : Value).ownBlock) ∧ some k_ ≠ (.slice Ao29 t341.length co29 : Value).ownBlock)) (n := t348.length) (c := co36) ?_).2.2; exact (by (with_reducible repeat (first | apply Kd.R_alloc | apply Kd.R_drewN | apply Kd.R_drew)); exact (Kd.R_mono (Kd.R_far (p := ⟨gb355, 1, none⟩) (Kd.R_far (p := ⟨gb355, 0, none⟩) (Kd.R_types HO350.out BK355.out (by decide)) (fun _ hk => hk.2) (.slice Ao36 t348.length co36)) (fun _ hk => hk.2) (.slice Ao41 t351.length co41)) (fun _ h_ => h_.1)))); (case side2 => exact (Kd.R_reads' HO350.out).2.1); (case side3 => refine (Kd.R_reads' (e := 3) (base := w.heap.size) (ok := fun k_ => (((True ∧ some k_ ≠ (.slice Ao19 t330.length co19 : Value).ownBlock) ∧ some k_ ≠ (.slice Ao25 t336.length co25 : Value).ownBlock) ∧ some k_ ≠ (.slice Ao33 t344.length co33 : Value).ownBlock)) (n := t351.length) (c := co41) ?_).2.2; exact (by (with_reducible repeat (first | apply Kd.R_alloc | apply Kd.R_drewN | apply Kd.R_drew)); exact (Kd.R_mono (Kd.R_far (p := ⟨gb355, 1, none⟩) (Kd.R_far (p := ⟨gb355, 0, none⟩) (Kd.R_types HO353.out BK355.out (by decide)) (fun _ hk => hk.2) (.slice Ao36 t348.length co36)) (fun _ hk => hk.2) (.slice Ao41 t351.length co41)) (fun _ h_ => h_.1)))); (case side4 => exact (Kd.R_reads' HO353.out).2.1); (case side5 => refine (Kd.R_reads' (e := 9) (base := w.heap.size) (ok := fun k_ => (((True ∧ some k_ ≠ (.slice Ao18 t327.length co18 : Value).ownBlock) ∧ some k_ ≠ (.slice Ao29 t341.length co29 : Value).ownBlock) ∧ some k_ ≠ (.slice Ao36 t348.length co36 : Value).ownBlock)) (n := t333.length) (c := co22) ?_).2.2; exact (by (with_reducible repeat (first | apply Kd.R_alloc | apply Kd.R_drewN | apply Kd.R_drew)); exact (Kd.R_mono (Kd.R_far (p := ⟨gb355, 1, none⟩) (Kd.R_far (p := ⟨gb355, 0, none⟩) (Kd.R_types HO335.out BK355.out (by decide)) (fun _ hk => hk.2) (.slice Ao36 t348.length co36)) (fun _ hk => hk.2) (.slice Ao41 t351.length co41)) (fun _ h_ => h_.1)))); (case side6 => exact (Kd.R_reads' HO335.out).2.1); (case side7 => refine (Kd.R_reads' (e := 3) (base := w.heap.size) (ok := fun k_ => (((True ∧ some k_ ≠ (.slice Ao19 t330.length co19 : Value).ownBlock) ∧ some k_ ≠ (.slice Ao33 t344.length co33 : Value).ownBlock) ∧ some k_ ≠ (.slice Ao41 t351.length co41 : Value).ownBlock)) (n := t336.length) (c := co25) ?_).2.2; exact (by (with_reducible repeat (first | apply Kd.R_alloc | apply Kd.R_drewN | apply Kd.R_drew)); exact (Kd.R_mono (Kd.R_far (p := ⟨gb355, 1, none⟩) (Kd.R_far (p := ⟨gb355, 0, none⟩) (Kd.R_types HO338.out BK355.out (by decide)) (fun _ hk => hk.2) (.slice Ao36 t348.length co36)) (fun _ hk => hk.2) (.slice Ao41 t351.length co41)) (fun _ h_ => h_.1)))); (case side8 => exact (Kd.R_reads' HO338.out).2.1); rintro e w59 ⟨rfl, hb⟩; refine ⟨_, rfl, ?_⟩; have n0_ := Aside0.mk (Kd.R_below (by (with_reducible repeat (first | apply Kd.R_alloc | apply Kd.R_drewN | apply Kd.R_drew)); exact (Kd.R_mono (Kd.R_far (p := ⟨gb355, 1, none⟩) (Kd.R_far (p := ⟨gb355, 0, none⟩) (Kd.R_types HO329.out BK355.out (by decide)) (fun _ hk => hk.2) (.slice Ao36 t348.length co36)) (fun _ hk => hk.2) (.slice Ao41 t351.length co41)) (fun _ h_ => h_.1))) hb); have n1_ := Aside0.mk (Kd.R_below (by (with_reducible repeat (first | apply Kd.R_alloc | apply Kd.R_drewN | apply Kd.R_drew)); exact (Kd.R_mono (Kd.R_far (p := ⟨gb355, 1, none⟩) (Kd.R_far (p := ⟨gb355, 0, none⟩) (Kd.R_types HO332.out BK355.out (by decide)) (fun _ hk => hk.2) (.slice Ao36 t348.length co36)) (fun _ hk => hk.2) (.slice Ao41 t351.length co41)) (fun _ h_ => h_.1))) hb); have n2_ := Aside0.mk (Kd.R_below (by (with_reducible repeat (first | apply Kd.R_alloc | apply Kd.R_drewN | apply Kd.R_drew)); exact (Kd.R_mono (Kd.R_far (p := ⟨gb355, 1, none⟩) (Kd.R_far (p := ⟨gb355, 0, none⟩) (Kd.R_types HO335.out BK355.out (by decide)) (fun _ hk => hk.2) (.slice Ao36 t348.length co36)) (fun _ hk => hk.2) (.slice Ao41 t351.length co41)) (fun _ h_ => h_.1))) hb); have n3_ := Aside0.mk (Kd.R_below (by (with_reducible repeat (first | apply Kd.R_alloc | apply Kd.R_drewN | apply Kd.R_drew)); exact (Kd.R_mono (Kd.R_far (p := ⟨gb355, 1, none⟩) (Kd.R_far (p := ⟨gb355, 0, none⟩) (Kd.R_types HO338.out BK355.out (by decide)) (fun _ hk => hk.2) (.slice Ao36 t348.length co36)) (fun _ hk => hk.2) (.slice Ao41 t351.length co41)) (fun _ h_ => h_.1))) hb); have n4_ := Aside0.mk (Kd.R_below (by (with_reducible repeat (first | apply Kd.R_alloc | apply Kd.R_drewN | apply Kd.R_drew)); exact (Kd.R_mono (Kd.R_far (p := ⟨gb355, 1, none⟩) (Kd.R_far (p := ⟨gb355, 0, none⟩) (Kd.R_types HO343.out BK355.out (by decide)) (fun _ hk => hk.2) (.slice Ao36 t348.length co36)) (fun _ hk => hk.2) (.slice Ao41 t351.length co41)) (fun _ h_ => h_.1))) hb); have n5_ := Aside0.mk (Kd.R_below (by (with_reducible repeat (first | apply Kd.R_alloc | apply Kd.R_drewN | apply Kd.R_drew)); exact (Kd.R_mono (Kd.R_far (p := ⟨gb355, 1, none⟩) (Kd.R_far (p := ⟨gb355, 0, none⟩) (Kd.R_types HO346.out BK355.out (by decide)) (fun _ hk => hk.2) (.slice Ao36 t348.length co36)) (fun _ hk => hk.2) (.slice Ao41 t351.length co41)) (fun _ h_ => h_.1))) hb); have n6_ := Aside0.mk (Kd.R_below (by (with_reducible repeat (first | apply Kd.R_alloc | apply Kd.R_drewN | apply Kd.R_drew)); exact (Kd.R_mono (Kd.R_far (p := ⟨gb355, 1, none⟩) (Kd.R_far (p := ⟨gb355, 0, none⟩) (Kd.R_types HO350.out BK355.out (by decide)) (fun _ hk => hk.2) (.slice Ao36 t348.length co36)) (fun _ hk => hk.2) (.slice Ao41 t351.length co41)) (fun _ h_ => h_.1))) hb); have n7_ := Aside0.mk (Kd.R_below (by (with_reducible repeat (first | apply Kd.R_alloc | apply Kd.R_drewN | apply Kd.R_drew)); exact (Kd.R_mono (Kd.R_far (p := ⟨gb355, 1, none⟩) (Kd.R_far (p := ⟨gb355, 0, none⟩) (Kd.R_types HO353.out BK355.out (by decide)) (fun _ hk => hk.2) (.slice Ao36 t348.length co36)) (fun _ hk => hk.2) (.slice Ao41 t351.length co41)) (fun _ h_ => h_.1))) hb); have n8_ := Aside0.mk (blk_below (g := gb325) (o := .cells #[.slice A0_0 l0_0.length c0_0, .slice A0_1 l0_1.length c0_1] 38 (0, 0)) (by (with_reducible repeat (first | refine blk_drewN ?_ _ | refine blk_drew ?_ | refine blk_alloc ?_ _)); refine blk_far ?_ NB325_355.out _; (with_reducible repeat (first | refine blk_drewN ?_ _ | refine blk_drew ?_ | refine blk_alloc ?_ _)); refine blk_far ?_ NB325_355.out _; (with_reducible repeat (first | refine blk_drewN ?_ _ | refine blk_drew ?_ | refine blk_alloc ?_ _)); exact BK325.out) hb); have n9_ := Aside0.mk (blk_below (g := gb340) (o := .cells #[.slice Ao22 t333.length co22, .slice Ao25 t336.length co25] 40 (0, 0)) (by (with_reducible repeat (first | refine blk_drewN ?_ _ | refine blk_drew ?_ | refine blk_alloc ?_ _)); refine blk_far ?_ NB340_355.out _; (with_reducible repeat (first | refine blk_drewN ?_ _ | refine blk_drew ?_ | refine blk_alloc ?_ _)); refine blk_far ?_ NB340_355.out _; (with_reducible repeat (first | refine blk_drewN ?_ _ | refine blk_drew ?_ | refine blk_alloc ?_ _)); exact BK340.out) hb); have n10_ := Aside0.mk (blk_below (g := gb347) (o := .cells #[.slice Ao29 t341.length co29, .slice Ao33 t344.length co33] 40 (0, 0)) (by (with_reducible repeat (first | refine blk_drewN ?_ _ | refine blk_drew ?_ | refine blk_alloc ?_ _)); refine blk_far ?_ NB347_355.out _; (with_reducible repeat (first | refine blk_drewN ?_ _ | refine blk_drew ?_ | refine blk_alloc ?_ _)); refine blk_far ?_ NB347_355.out _; (with_reducible repeat (first | refine blk_drewN ?_ _ | refine blk_drew ?_ | refine blk_alloc ?_ _)); exact BK347.out) hb); have n11_ := Aside0.mk (blk_below (g := gb355) (o := .cells #[.slice Ao36 t348.length co36, .slice Ao41 t351.length co41] 40 (0, 0)) (by (with_reducible repeat (first | refine blk_drewN ?_ _ | refine blk_drew ?_ | refine blk_alloc ?_ _)); refine blk_put (cs := #[.slice Ao36 t348.length co36, .slice none 0 0]) ?_ 1 _ rfl; (with_reducible repeat (first | refine blk_drewN ?_ _ | refine blk_drew ?_ | refine blk_alloc ?_ _)); refine blk_put (cs := #[.slice none 0 0, .slice none 0 0]) ?_ 0 _ rfl; (with_reducible repeat (first | refine blk_drewN ?_ _ | refine blk_drew ?_ | refine blk_alloc ?_ _)); exact BK355.out) hb); have n12_ := Aside0.mk (below_step (by repeat (first | (with_reducible first | exact HB.out | apply below_alloc | apply pw_below_drewN | apply below_drew1 | refine below_set ?_ GE325.out | refine below_set ?_ GE340.out | refine below_set ?_ GE347.out | refine below_set ?_ GE355.out) | exact HB.out)) hb); clear HO329; clear HO332; clear HO335; clear HO338; clear HO343; clear HO346; clear HO350; clear HO353; clear BK325; clear BK340; clear BK347; clear BK355; clear HB; have HO329 := n0_; have HO332 := n1_; have HO335 := n2_; have HO338 := n3_; have HO343 := n4_; have HO346 := n5_; have HO350 := n6_; have HO353 := n7_; have BK325 := n8_; have BK340 := n9_; have BK347 := n10_; have BK355 := n11_; have HB := n12_; clear n0_ n1_ n2_ n3_ n4_ n5_ n6_ n7_ n8_ n9_ n10_ n11_ n12_; (try clear hb); (try clear hb2); (try clear hk); (try clear hi)))
        go_meet
        case rel => exact ⟨_, (true), (by first | rfl | (simp; done) | (simp [*]; done)), H', ⟨by first | omega | exact Nat.le_refl _⟩, ⟨by (with_reducible repeat (first | apply Kd.R_alloc | apply Kd.R_drewN | apply Kd.R_drew)); exact Kd.R_mono HO335.out (fun _ hk => ⟨hk.1.2, hk.2⟩)⟩, ⟨by (with_reducible repeat (first | apply Kd.R_alloc | apply Kd.R_drewN | apply Kd.R_drew)); exact Kd.R_mono HO338.out (fun _ hk => ⟨hk.1.2, hk.2⟩)⟩, ⟨by (with_reducible repeat (first | apply Kd.R_alloc | apply Kd.R_drewN | apply Kd.R_drew)); exact Kd.R_mono HO343.out (fun _ hk => ⟨hk.1.2, hk.2⟩)⟩, ⟨by (with_reducible repeat (first | apply Kd.R_alloc | apply Kd.R_drewN | apply Kd.R_drew)); exact Kd.R_mono HO346.out (fun _ hk => ⟨hk.1.2, hk.2⟩)⟩, ⟨by (with_reducible repeat (first | apply Kd.R_alloc | apply Kd.R_drewN | apply Kd.R_drew)); exact Kd.R_mono HO350.out (fun _ hk => ⟨hk.1.2, hk.2⟩)⟩, ⟨by (with_reducible repeat (first | apply Kd.R_alloc | apply Kd.R_drewN | apply Kd.R_drew)); exact Kd.R_mono HO353.out (fun _ hk => ⟨hk.1.2, hk.2⟩)⟩, ⟨by (with_reducible repeat (first | refine blk_drewN ?_ _ | refine blk_drew ?_ | refine blk_alloc ?_ _)); exact BK325.out⟩, ⟨by (with_reducible repeat (first | refine blk_drewN ?_ _ | refine blk_drew ?_ | refine blk_alloc ?_ _)); exact BK340.out⟩, ⟨by (with_reducible repeat (first | refine blk_drewN ?_ _ | refine blk_drew ?_ | refine blk_alloc ?_ _)); exact BK347.out⟩, ⟨by (with_reducible repeat (first | refine blk_drewN ?_ _ | refine blk_drew ?_ | refine blk_alloc ?_ _)); exact BK355.out⟩, ⟨by repeat (first | (with_reducible first | exact HB.out | apply below_alloc | apply pw_below_drewN | apply below_drew1 | refine below_set ?_ GE325.out | refine below_set ?_ GE340.out | refine below_set ?_ GE347.out | refine below_set ?_ GE355.out) | exact HB.out)⟩⟩
    case rest =>
      clear HC12
      try clear c1
      try clear c2
      try clear p2
      try clear c3
      try clear c4
      try clear c4b0
      try clear c5
      try clear c15
      try clear c16
      try clear c17
      try clear c18
      try clear c19
      try clear c23
      try clear c30
      try clear c31
      try clear c37
      try clear c38
      try clear c39
      try clear c43
      try clear c44
      try clear c45
      try clear c46
      try clear c48
      try clear c49
      try clear c52
      try clear c53
      try clear c54
      try clear c56
      try clear c57
      try clear hcz14_0
      try clear hcz14_1
      try clear hcz16_0
      try clear hcz16_1
      try clear hcz24_0
      try clear hcz24_1
      try clear hcz26_0
      try clear hcz26_1
      try clear hcz32_0
      try clear hcz32_1
      try clear hcz40_0
      try clear hcz40_1
      try clear hcz47_0
      try clear hcz47_1
      try clear hcz50_0
      try clear hcz50_1
      try clear hcz55_0
      try clear hcz55_1
      try clear hcz58_0
      try clear hcz58_1
      try clear hcz6_0
      try clear hcz6_1
      try clear hfz14_0
      try clear hfz14_1
      try clear hfz16_0
      try clear hfz16_1
      try clear hfz24_0
      try clear hfz24_1
      try clear hfz26_0
      try clear hfz26_1
      try clear hfz32_0
      try clear hfz32_1
      try clear hfz40_0
      try clear hfz40_1
      try clear hfz47_0
      try clear hfz47_1
      try clear hfz50_0
      try clear hfz50_1
      try clear hfz55_0
      try clear hfz55_1
      try clear hfz58_0
      try clear hfz58_1
      try clear hfz6_0
      try clear hfz6_1
      obtain ⟨kq, x44_11, rfl, HA, HJ11, HO_341000, HO_341001, HO_348000, HO_348001, HO_356000, HO_356001, BK325, BK340, BK347, BK355, HB⟩ := hcut
      cases kq with
      | zero => exact absurd HA.out (by simp [laws_FnExactPagesGive.j0])
      | succ kj11 =>
        have H := HA.out
        clear HA
        simp only [laws_FnExactPagesGive.j0] at H
        by_cases c60 : x44_11 = true
        · subst c60
          have H1 : (some false) = some r := by rw [if_pos rfl] at H; exact H
          clear H
          have H := H1
          clear H1
          obtain rfl := Option.some.inj H
          go_wp2
          go_ret
          exact ⟨by first | rfl | (simp [errW_none, errW_some] <;> rfl) | (simp [*, errW_none, errW_some] <;> rfl), by repeat (first | (with_reducible first | exact HB.out | apply below_alloc | apply pw_below_drewN | apply below_drew1 | refine below_set ?_ GE325.out | refine below_set ?_ GE340.out | refine below_set ?_ GE347.out | refine below_set ?_ GE355.out) | exact HB.out)⟩
        · replace c60 := Bool.eq_false_iff.mpr c60
          subst c60
          have H1 : ((laws_toPages.f kj11 l0_0 l0_1).bind fun bt357 => ((laws_eqPages.f kj11 t341 t344 bt357.1 bt357.2).bind fun t363 => (if t363 = true then ((laws_markPages.f kj11 t341 t344 1).bind fun bt364 => (if bt364.1 < 0 then (laws_FnExactPagesGive.j1 kj11 a1 t339 true l0_0 l0_1 t333 t336 t348 t351) else ((laws_eqPages.f kj11 t348 t351 t333 t336).bind fun t367 => (if t367 = true then (laws_FnExactPagesGive.j1 kj11 a1 t339 (t354 != t339) l0_0 l0_1 t333 t336 t348 t351) else (laws_FnExactPagesGive.j1 kj11 a1 t339 true l0_0 l0_1 t333 t336 t348 t351))))) else (some false)))) = some r := by rw [if_neg (show ¬ (false = true) by decide)] at H; exact H
          clear H
          have H := H1
          clear H1
          replace H := Option.bind_eq_some_iff.mp H
          obtain ⟨⟨t357, t360⟩, A610, H⟩ := H
          replace H : ((laws_eqPages.f kj11 t341 t344 t357 t360).bind fun t363 => (if t363 = true then ((laws_markPages.f kj11 t341 t344 1).bind fun bt364 => (if bt364.1 < 0 then (laws_FnExactPagesGive.j1 kj11 a1 t339 true l0_0 l0_1 t333 t336 t348 t351) else ((laws_eqPages.f kj11 t348 t351 t333 t336).bind fun t367 => (if t367 = true then (laws_FnExactPagesGive.j1 kj11 a1 t339 (t354 != t339) l0_0 l0_1 t333 t336 t348 t351) else (laws_FnExactPagesGive.j1 kj11 a1 t339 true l0_0 l0_1 t333 t336 t348 t351))))) else (some false))) = some r := H
          have A61 := Aside0.mk A610
          clear A610
          replace H := Option.bind_eq_some_iff.mp H
          obtain ⟨t363, A620, H⟩ := H
          replace H : (if t363 = true then ((laws_markPages.f kj11 t341 t344 1).bind fun bt364 => (if bt364.1 < 0 then (laws_FnExactPagesGive.j1 kj11 a1 t339 true l0_0 l0_1 t333 t336 t348 t351) else ((laws_eqPages.f kj11 t348 t351 t333 t336).bind fun t367 => (if t367 = true then (laws_FnExactPagesGive.j1 kj11 a1 t339 (t354 != t339) l0_0 l0_1 t333 t336 t348 t351) else (laws_FnExactPagesGive.j1 kj11 a1 t339 true l0_0 l0_1 t333 t336 t348 t351))))) else (some false)) = some r := H
          have A62 := Aside0.mk A620
          clear A620
          by_cases c63 : t363 = true
          · subst c63
            have H1 : ((laws_markPages.f kj11 t341 t344 1).bind fun bt364 => (if bt364.1 < 0 then (laws_FnExactPagesGive.j1 kj11 a1 t339 true l0_0 l0_1 t333 t336 t348 t351) else ((laws_eqPages.f kj11 t348 t351 t333 t336).bind fun t367 => (if t367 = true then (laws_FnExactPagesGive.j1 kj11 a1 t339 (t354 != t339) l0_0 l0_1 t333 t336 t348 t351) else (laws_FnExactPagesGive.j1 kj11 a1 t339 true l0_0 l0_1 t333 t336 t348 t351))))) = some r := by rw [if_pos rfl] at H; exact H
            clear H
            have H := H1
            clear H1
            replace H := Option.bind_eq_some_iff.mp H
            obtain ⟨⟨t364, t365, t366⟩, A640, H⟩ := H
            replace H : (if t364 < 0 then (laws_FnExactPagesGive.j1 kj11 a1 t339 true l0_0 l0_1 t333 t336 t348 t351) else ((laws_eqPages.f kj11 t348 t351 t333 t336).bind fun t367 => (if t367 = true then (laws_FnExactPagesGive.j1 kj11 a1 t339 (t354 != t339) l0_0 l0_1 t333 t336 t348 t351) else (laws_FnExactPagesGive.j1 kj11 a1 t339 true l0_0 l0_1 t333 t336 t348 t351)))) = some r := H
            have A64 := Aside0.mk A640
            clear A640
            have HC65 := Aside0.mk H
            clear H
            try go_wp2
            have n0_ := Aside0.mk (Kd.R_drew HO_341000.out)
            have n1_ := Aside0.mk (Kd.R_drew HO_341001.out)
            have n2_ := Aside0.mk (Kd.R_drew HO_348000.out)
            have n3_ := Aside0.mk (Kd.R_drew HO_348001.out)
            have n4_ := Aside0.mk (Kd.R_drew HO_356000.out)
            have n5_ := Aside0.mk (Kd.R_drew HO_356001.out)
            have n6_ := Aside0.mk (blk_drew BK325.out)
            have n7_ := Aside0.mk (blk_drew BK340.out)
            have n8_ := Aside0.mk (blk_drew BK347.out)
            have n9_ := Aside0.mk (blk_drew BK355.out)
            have n10_ := Aside0.mk (below_drew1 HB.out)
            clear HO_341000
            clear HO_341001
            clear HO_348000
            clear HO_348001
            clear HO_356000
            clear HO_356001
            clear BK325
            clear BK340
            clear BK347
            clear BK355
            clear HB
            have HO_341000 := n0_
            have HO_341001 := n1_
            have HO_348000 := n2_
            have HO_348001 := n3_
            have HO_356000 := n4_
            have HO_356001 := n5_
            have BK325 := n6_
            have BK340 := n7_
            have BK347 := n8_
            have BK355 := n9_
            have HB := n10_
            clear n0_ n1_ n2_ n3_ n4_ n5_ n6_ n7_ n8_ n9_ n10_
            refine start_ (n := 5) (S := fun w' => w'.cell? ⟨gb347, 0, none⟩ = some (.slice Ao29 t341.length co29) ∧ w'.cell? ⟨gb347, 1, none⟩ = some (.slice Ao33 t344.length co33) ∧ w'.cell? ⟨gb325, 0, none⟩ = some (.slice A0_0 l0_0.length c0_0) ∧ w'.cell? ⟨gb325, 1, none⟩ = some (.slice A0_1 l0_1.length c0_1)) (ds := []) #[false, false, false, false, false] (by kernel_rfl) rfl rfl ⟨(blk_cell BK347.out 0).trans rfl, (blk_cell BK347.out 1).trans rfl, (blk_cell BK325.out 0).trans rfl, (blk_cell BK325.out 1).trans rfl⟩ (fun hHeld => ?_)
            generalize wc.drew = w66 at HO_341000 HO_341001 HO_348000 HO_348001 HO_356000 HO_356001 BK325 BK340 BK347 BK355 HB hHeld ⊢
            refine take_ (i := 0) (N := some 45) (v := ?_) (a' := ?_) #[true, false, false, false, false] rfl rfl (by kernel_rfl) (fun _ _ _ h => h) (Or.inl ⟨by rfl, ?_⟩) hHeld ?_ ?_
            rotate_left
            · rintro w' ⟨s0, s1, s2, s3⟩
              go_simp
              with_reducible rfl
            rotate_left
            · simp only [Act.put, List.setIfInBounds_toArray, List.set_cons_zero, List.set_cons_succ, i64_w, i32_w]
              rfl
            refine take_ (i := 1) (N := some 46) (v := ?_) (a' := ?_) #[true, true, false, false, false] rfl rfl (by kernel_rfl) (fun _ _ _ h => h) (Or.inl ⟨by rfl, ?_⟩) hHeld ?_ ?_
            rotate_left
            · rintro w' ⟨s0, s1, s2, s3⟩
              go_simp
              with_reducible rfl
            rotate_left
            · simp only [Act.put, List.setIfInBounds_toArray, List.set_cons_zero, List.set_cons_succ, i64_w, i32_w]
              rfl
            refine one_ (i := 2) (N := some 47) #[true, true, true, false, false] rfl rfl (by kernel_rfl) (by decide) (fun K hK => ?_)
            refine goes_ Try.func17 (by kernel_rfl) rfl #[.agg #[.slice A0_0 l0_0.length c0_0, .slice A0_1 l0_1.length c0_1]] (by rfl) rfl rfl (by (try simp only [List.map_toArray, List.map_cons, List.map_nil]); first | done | rfl | (simp only [List.length_drop, List.length_take]; rfl)) ?_
            with_reducible refine (laws_toPages.calls kj11 _ _ l0_0 _ _ l0_1 t357 t360 _ ?side1 ?side2 ?side3 ?side4 A61.out).mono ?_
            (case side1 => repeat (first | exact (Kd.C_below HR0_0.out HB.out) | (with_reducible refine Kd.C_alloc ?_ _) | (with_reducible refine Kd.C_drewN ?_ _) | (with_reducible refine Kd.C_drew ?_)))
            (case side2 => exact HC0_0.out)
            (case side3 => repeat (first | exact (Kd.C_below HR0_1.out HB.out) | (with_reducible refine Kd.C_alloc ?_ _) | (with_reducible refine Kd.C_drewN ?_ _) | (with_reducible refine Kd.C_drew ?_)))
            (case side4 => exact HC0_1.out)
            rintro e w67 ⟨v358, v361, rfl, ho0, ho1, hb⟩
            refine ⟨_, rfl, ?_⟩
            have n0_ := Aside0.mk (Kd.R_elder' (by (with_reducible repeat (first | apply Kd.R_alloc | apply Kd.R_drewN | apply Kd.R_drew)); exact HO_341000.out) (Kd.R_base ho0) hb)
            have n1_ := Aside0.mk (Kd.R_elder' (by (with_reducible repeat (first | apply Kd.R_alloc | apply Kd.R_drewN | apply Kd.R_drew)); exact HO_341001.out) (Kd.R_base ho1) hb)
            have n2_ := Aside0.mk (Kd.R_elder' (by (with_reducible repeat (first | apply Kd.R_alloc | apply Kd.R_drewN | apply Kd.R_drew)); exact HO_348000.out) (Kd.R_base ho0) hb)
            have n3_ := Aside0.mk (Kd.R_elder' (by (with_reducible repeat (first | apply Kd.R_alloc | apply Kd.R_drewN | apply Kd.R_drew)); exact HO_348001.out) (Kd.R_base ho1) hb)
            have n4_ := Aside0.mk (Kd.R_elder' (by (with_reducible repeat (first | apply Kd.R_alloc | apply Kd.R_drewN | apply Kd.R_drew)); exact HO_356000.out) (Kd.R_base ho0) hb)
            have n5_ := Aside0.mk (Kd.R_elder' (by (with_reducible repeat (first | apply Kd.R_alloc | apply Kd.R_drewN | apply Kd.R_drew)); exact HO_356001.out) (Kd.R_base ho1) hb)
            have n6_ := Aside0.mk (Kd.R_lower (Kd.R_new' (Kd.R_new' (Kd.R_new' ho0 (Kd.R_lt (by (with_reducible repeat (first | apply Kd.R_alloc | apply Kd.R_drewN | apply Kd.R_drew)); exact HO_341000.out))) (Kd.R_lt (by (with_reducible repeat (first | apply Kd.R_alloc | apply Kd.R_drewN | apply Kd.R_drew)); exact HO_348000.out))) (Kd.R_lt (by (with_reducible repeat (first | apply Kd.R_alloc | apply Kd.R_drewN | apply Kd.R_drew)); exact HO_356000.out))) (below_size (by repeat (first | (with_reducible first | exact HB.out | apply below_alloc | apply pw_below_drewN | apply below_drew1 | refine below_set ?_ GE325.out | refine below_set ?_ GE340.out | refine below_set ?_ GE347.out | refine below_set ?_ GE355.out) | exact HB.out))))
            have n7_ := Aside0.mk (Kd.R_lower (Kd.R_new' (Kd.R_new' (Kd.R_new' ho1 (Kd.R_lt (by (with_reducible repeat (first | apply Kd.R_alloc | apply Kd.R_drewN | apply Kd.R_drew)); exact HO_341001.out))) (Kd.R_lt (by (with_reducible repeat (first | apply Kd.R_alloc | apply Kd.R_drewN | apply Kd.R_drew)); exact HO_348001.out))) (Kd.R_lt (by (with_reducible repeat (first | apply Kd.R_alloc | apply Kd.R_drewN | apply Kd.R_drew)); exact HO_356001.out))) (below_size (by repeat (first | (with_reducible first | exact HB.out | apply below_alloc | apply pw_below_drewN | apply below_drew1 | refine below_set ?_ GE325.out | refine below_set ?_ GE340.out | refine below_set ?_ GE347.out | refine below_set ?_ GE355.out) | exact HB.out))))
            have n8_ := Aside0.mk (blk_below (g := gb325) (o := .cells #[.slice A0_0 l0_0.length c0_0, .slice A0_1 l0_1.length c0_1] 38 (0, 0)) (by (with_reducible repeat (first | refine blk_drewN ?_ _ | refine blk_drew ?_ | refine blk_alloc ?_ _)); exact BK325.out) hb)
            have n9_ := Aside0.mk (blk_below (g := gb340) (o := .cells #[.slice Ao22 t333.length co22, .slice Ao25 t336.length co25] 40 (0, 0)) (by (with_reducible repeat (first | refine blk_drewN ?_ _ | refine blk_drew ?_ | refine blk_alloc ?_ _)); exact BK340.out) hb)
            have n10_ := Aside0.mk (blk_below (g := gb347) (o := .cells #[.slice Ao29 t341.length co29, .slice Ao33 t344.length co33] 40 (0, 0)) (by (with_reducible repeat (first | refine blk_drewN ?_ _ | refine blk_drew ?_ | refine blk_alloc ?_ _)); exact BK347.out) hb)
            have n11_ := Aside0.mk (blk_below (g := gb355) (o := .cells #[.slice Ao36 t348.length co36, .slice Ao41 t351.length co41] 40 (0, 0)) (by (with_reducible repeat (first | refine blk_drewN ?_ _ | refine blk_drew ?_ | refine blk_alloc ?_ _)); exact BK355.out) hb)
            have n12_ := Aside0.mk (below_step (by repeat (first | (with_reducible first | exact HB.out | apply below_alloc | apply pw_below_drewN | apply below_drew1 | refine below_set ?_ GE325.out | refine below_set ?_ GE340.out | refine below_set ?_ GE347.out | refine below_set ?_ GE355.out) | exact HB.out)) hb)
            clear HO_341000
            clear HO_341001
            clear HO_348000
            clear HO_348001
            clear HO_356000
            clear HO_356001
            clear BK325
            clear BK340
            clear BK347
            clear BK355
            clear HB
            have HO_341000 := n0_
            have HO_341001 := n1_
            have HO_348000 := n2_
            have HO_348001 := n3_
            have HO_356000 := n4_
            have HO_356001 := n5_
            have HO359 := n6_
            have HO362 := n7_
            have BK325 := n8_
            have BK340 := n9_
            have BK347 := n10_
            have BK355 := n11_
            have HB := n12_
            clear n0_ n1_ n2_ n3_ n4_ n5_ n6_ n7_ n8_ n9_ n10_ n11_ n12_
            (try clear hb)
            (try clear hb2)
            (try clear hk)
            (try clear hi)
            (try clear ho0)
            (try clear ho1)
            obtain ⟨Ao68, co68, eo68⟩ := Kd.R_slice HO359.out
            (first | subst eo68 | (injection eo68 with f1_ f2_ f3_; have f4_ := f1_.symm; have f5_ := f3_.symm; clear f1_ f2_ f3_; subst f4_; subst f5_))
            obtain ⟨Ao69, co69, eo69⟩ := Kd.R_slice HO362.out
            (first | subst eo69 | (injection eo69 with f1_ f2_ f3_; have f4_ := f1_.symm; have f5_ := f3_.symm; clear f1_ f2_ f3_; subst f4_; subst f5_))
            refine hK.out _ _ ⟨(blk_cell BK347.out 0).trans rfl, (blk_cell BK347.out 1).trans rfl, (blk_cell BK325.out 0).trans rfl, (blk_cell BK325.out 1).trans rfl⟩ (fun hHeld => ?_)
            clear hK K
            refine norm_ (a' := ?_) ?_ ?_
            rotate_left
            · show Act.put _ (some 47) _ = _
              simp only [Act.put, List.setIfInBounds_toArray, List.set_cons_zero, List.set_cons_succ, i64_w, i32_w]
              rfl
            refine one_ (i := 3) (N := some 48) #[true, true, true, true, false] rfl rfl (by kernel_rfl) (by decide) (fun K hK => ?_)
            refine goes_ Try.func19 (by kernel_rfl) rfl #[.agg #[.slice Ao29 t341.length co29, .slice Ao33 t344.length co33], .agg #[.slice Ao68 t357.length co68, .slice Ao69 t360.length co69]] (by rfl) rfl rfl (by (try simp only [List.map_toArray, List.map_cons, List.map_nil]); first | done | rfl | (simp only [List.length_drop, List.length_take]; rfl)) ?_
            with_reducible refine (laws_eqPages.calls kj11 _ _ t341 _ _ t344 _ _ t357 _ _ t360 true _ ?side1 ?side2 ?side3 ?side4 ?side5 ?side6 ?side7 ?side8 A62.out).mono ?_
            (case side1 => repeat (first | exact (Kd.R_reads' HO_348000.out).2.2 | (with_reducible refine Kd.C_alloc ?_ _) | (with_reducible refine Kd.C_drewN ?_ _) | (with_reducible refine Kd.C_drew ?_)))
            (case side2 => exact (Kd.R_reads' HO_348000.out).2.1)
            (case side3 => repeat (first | exact (Kd.R_reads' HO_348001.out).2.2 | (with_reducible refine Kd.C_alloc ?_ _) | (with_reducible refine Kd.C_drewN ?_ _) | (with_reducible refine Kd.C_drew ?_)))
            (case side4 => exact (Kd.R_reads' HO_348001.out).2.1)
            (case side5 => repeat (first | exact (Kd.R_reads' HO359.out).2.2 | (with_reducible refine Kd.C_alloc ?_ _) | (with_reducible refine Kd.C_drewN ?_ _) | (with_reducible refine Kd.C_drew ?_)))
            (case side6 => exact (Kd.R_reads' HO359.out).2.1)
            (case side7 => repeat (first | exact (Kd.R_reads' HO362.out).2.2 | (with_reducible refine Kd.C_alloc ?_ _) | (with_reducible refine Kd.C_drewN ?_ _) | (with_reducible refine Kd.C_drew ?_)))
            (case side8 => exact (Kd.R_reads' HO362.out).2.1)
            rintro e w70 ⟨rfl, hb⟩
            refine ⟨_, rfl, ?_⟩
            have n0_ := Aside0.mk (Kd.R_below (by (with_reducible repeat (first | apply Kd.R_alloc | apply Kd.R_drewN | apply Kd.R_drew)); exact HO_341000.out) hb)
            have n1_ := Aside0.mk (Kd.R_below (by (with_reducible repeat (first | apply Kd.R_alloc | apply Kd.R_drewN | apply Kd.R_drew)); exact HO_341001.out) hb)
            have n2_ := Aside0.mk (Kd.R_below (by (with_reducible repeat (first | apply Kd.R_alloc | apply Kd.R_drewN | apply Kd.R_drew)); exact HO_348000.out) hb)
            have n3_ := Aside0.mk (Kd.R_below (by (with_reducible repeat (first | apply Kd.R_alloc | apply Kd.R_drewN | apply Kd.R_drew)); exact HO_348001.out) hb)
            have n4_ := Aside0.mk (Kd.R_below (by (with_reducible repeat (first | apply Kd.R_alloc | apply Kd.R_drewN | apply Kd.R_drew)); exact HO_356000.out) hb)
            have n5_ := Aside0.mk (Kd.R_below (by (with_reducible repeat (first | apply Kd.R_alloc | apply Kd.R_drewN | apply Kd.R_drew)); exact HO_356001.out) hb)
            have n6_ := Aside0.mk (Kd.R_below (by (with_reducible repeat (first | apply Kd.R_alloc | apply Kd.R_drewN | apply Kd.R_drew)); exact HO359.out) hb)
            have n7_ := Aside0.mk (Kd.R_below (by (with_reducible repeat (first | apply Kd.R_alloc | apply Kd.R_drewN | apply Kd.R_drew)); exact HO362.out) hb)
            have n8_ := Aside0.mk (blk_below (g := gb325) (o := .cells #[.slice A0_0 l0_0.length c0_0, .slice A0_1 l0_1.length c0_1] 38 (0, 0)) (by (with_reducible repeat (first | refine blk_drewN ?_ _ | refine blk_drew ?_ | refine blk_alloc ?_ _)); exact BK325.out) hb)
            have n9_ := Aside0.mk (blk_below (g := gb340) (o := .cells #[.slice Ao22 t333.length co22, .slice Ao25 t336.length co25] 40 (0, 0)) (by (with_reducible repeat (first | refine blk_drewN ?_ _ | refine blk_drew ?_ | refine blk_alloc ?_ _)); exact BK340.out) hb)
            have n10_ := Aside0.mk (blk_below (g := gb347) (o := .cells #[.slice Ao29 t341.length co29, .slice Ao33 t344.length co33] 40 (0, 0)) (by (with_reducible repeat (first | refine blk_drewN ?_ _ | refine blk_drew ?_ | refine blk_alloc ?_ _)); exact BK347.out) hb)
            have n11_ := Aside0.mk (blk_below (g := gb355) (o := .cells #[.slice Ao36 t348.length co36, .slice Ao41 t351.length co41] 40 (0, 0)) (by (with_reducible repeat (first | refine blk_drewN ?_ _ | refine blk_drew ?_ | refine blk_alloc ?_ _)); exact BK355.out) hb)
            have n12_ := Aside0.mk (below_step (by repeat (first | (with_reducible first | exact HB.out | apply below_alloc | apply pw_below_drewN | apply below_drew1 | refine below_set ?_ GE325.out | refine below_set ?_ GE340.out | refine below_set ?_ GE347.out | refine below_set ?_ GE355.out) | exact HB.out)) hb)
            clear HO_341000
            clear HO_341001
            clear HO_348000
            clear HO_348001
            clear HO_356000
            clear HO_356001
            clear HO359
            clear HO362
            clear BK325
            clear BK340
            clear BK347
            clear BK355
            clear HB
            have HO_341000 := n0_
            have HO_341001 := n1_
            have HO_348000 := n2_
            have HO_348001 := n3_
            have HO_356000 := n4_
            have HO_356001 := n5_
            have HO359 := n6_
            have HO362 := n7_
            have BK325 := n8_
            have BK340 := n9_
            have BK347 := n10_
            have BK355 := n11_
            have HB := n12_
            clear n0_ n1_ n2_ n3_ n4_ n5_ n6_ n7_ n8_ n9_ n10_ n11_ n12_
            (try clear hb)
            (try clear hb2)
            (try clear hk)
            (try clear hi)
            refine hK.out _ _ ⟨(blk_cell BK347.out 0).trans rfl, (blk_cell BK347.out 1).trans rfl, (blk_cell BK325.out 0).trans rfl, (blk_cell BK325.out 1).trans rfl⟩ (fun hHeld => ?_)
            clear hK K
            refine norm_ (a' := ?_) ?_ ?_
            rotate_left
            · show Act.put _ (some 48) _ = _
              simp only [Act.put, List.setIfInBounds_toArray, List.set_cons_zero, List.set_cons_succ, i64_w, i32_w]
              rfl
            refine pure_ (i := 4) (N := some 49) (v := ?_) (a' := ?_) #[true, true, true, true, true] rfl rfl (by kernel_rfl) (fun _ _ _ h => h) (Or.inl ⟨by rfl, ?_⟩) ?_ ?_
            rotate_left
            · intro w'
              go_simp
              with_reducible rfl
            rotate_left
            · simp only [Act.put, List.setIfInBounds_toArray, List.set_cons_zero, List.set_cons_succ, i64_w, i32_w]
              rfl
            refine done_ (by kernel_rfl) ?_
            have hnb71 := NB347_325.out
            have hnc71 := NB325_347.out
            have hnb72 := NB347_340.out
            have hnc72 := NB340_347.out
            have hnb73 := NB347_355.out
            have hnc73 := NB355_347.out
            have hcz74_0 : w70.cell? ⟨gb347, 0, none⟩ = some (.slice Ao29 t341.length co29) := (blk_cell BK347.out 0).trans rfl
            have hcz74_1 : w70.cell? ⟨gb347, 1, none⟩ = some (.slice Ao33 t344.length co33) := (blk_cell BK347.out 1).trans rfl
            have hfz74_0 := blk_frozen BK347.out 0
            have hfz74_1 := blk_frozen BK347.out 1
            go_upto_region 14 with (first | ((with_reducible refine gate_callee (f := 20) rfl ?_); refine goesL_ (some 52) rfl rfl Try.func20 (by kernel_rfl) rfl #[.agg #[.slice Ao29 t341.length co29, .slice Ao33 t344.length co33], .int .i64 1] rfl (by (try simp only [List.map_toArray, List.map_cons, List.map_nil]); first | done | rfl | (simp only [List.length_drop, List.length_take]; rfl)) ?_; (with_reducible refine (laws_markPages.calls kj11 (fun k_ => some k_ = (.slice Ao29 t341.length co29 : Value).ownBlock) (.slice Ao29 t341.length co29) t341 (fun k_ => some k_ = (.slice Ao33 t344.length co33 : Value).ownBlock) (.slice Ao33 t344.length co33) t344 1 t364 t365 t366 w _ ?side1 ?side2 ?side3 A64.out).mono ?_); (case side1 => repeat (first | (with_reducible first | exact HB.out | apply below_alloc | apply pw_below_drewN | apply below_drew1 | refine below_set ?_ GE325.out | refine below_set ?_ GE340.out | refine below_set ?_ GE347.out | refine below_set ?_ GE355.out) | exact HB.out)); (case side2 => exact Kd.R_tight rfl HO_348000.out); (case side3 => exact Kd.R_tight rfl HO_348001.out); rintro e w75 ⟨rfl, hy0, hy1, hb, hkp⟩; refine ⟨_, rfl, ?_⟩; have n0_ := Aside0.mk (Kd.R_mono (ok' := fun k_ => some k_ ≠ (.slice Ao29 t341.length co29 : Value).ownBlock ∧ some k_ ≠ (.slice Ao36 t348.length co36 : Value).ownBlock ∧ some k_ ≠ (.slice Ao68 t357.length co68 : Value).ownBlock) (Kd.R_keptB ((Kd.R_apart' HO_341000.out (Kd.R_typed HO_348001.out) (by decide))) hkp (fun k_ hk_ hs_ => Or.elim hs_ (fun e_ => (hk_.1.1.1) e_) (fun e_ => (hk_.2) e_))) (fun k_ hk_ => ⟨hk_.1.1.1.1, hk_.1.1.1.2, hk_.1.1.2⟩)); have n1_ := Aside0.mk (Kd.R_mono (ok' := fun k_ => some k_ ≠ (.slice Ao33 t344.length co33 : Value).ownBlock ∧ some k_ ≠ (.slice Ao41 t351.length co41 : Value).ownBlock ∧ some k_ ≠ (.slice Ao69 t360.length co69 : Value).ownBlock) (Kd.R_keptB ((Kd.R_apart' HO_341001.out (Kd.R_typed HO_348000.out) (by decide))) hkp (fun k_ hk_ hs_ => Or.elim hs_ (fun e_ => (hk_.2) e_) (fun e_ => (hk_.1.1.1) e_))) (fun k_ hk_ => ⟨hk_.1.1.1.1, hk_.1.1.1.2, hk_.1.1.2⟩)); have n2_ := Aside0.mk (Kd.R_reok rfl hy0 (fun k_ e_ => HO_348000.out.1 k_ e_)); have n3_ := Aside0.mk (Kd.R_reok rfl hy1 (fun k_ e_ => HO_348001.out.1 k_ e_)); have n4_ := Aside0.mk (Kd.R_mono (ok' := fun k_ => some k_ ≠ (.slice Ao22 t333.length co22 : Value).ownBlock ∧ some k_ ≠ (.slice Ao29 t341.length co29 : Value).ownBlock ∧ some k_ ≠ (.slice Ao68 t357.length co68 : Value).ownBlock) (Kd.R_keptB ((Kd.R_apart' HO_356000.out (Kd.R_typed HO_348001.out) (by decide))) hkp (fun k_ hk_ hs_ => Or.elim hs_ (fun e_ => (hk_.1.1.2) e_) (fun e_ => (hk_.2) e_))) (fun k_ hk_ => ⟨hk_.1.1.1.1, hk_.1.1.1.2, hk_.1.1.2⟩)); have n5_ := Aside0.mk (Kd.R_mono (ok' := fun k_ => some k_ ≠ (.slice Ao25 t336.length co25 : Value).ownBlock ∧ some k_ ≠ (.slice Ao33 t344.length co33 : Value).ownBlock ∧ some k_ ≠ (.slice Ao69 t360.length co69 : Value).ownBlock) (Kd.R_keptB ((Kd.R_apart' HO_356001.out (Kd.R_typed HO_348000.out) (by decide))) hkp (fun k_ hk_ hs_ => Or.elim hs_ (fun e_ => (hk_.2) e_) (fun e_ => (hk_.1.1.2) e_))) (fun k_ hk_ => ⟨hk_.1.1.1.1, hk_.1.1.1.2, hk_.1.1.2⟩)); have n6_ := Aside0.mk (blk_kept (by (with_reducible repeat (first | refine blk_drewN ?_ _ | refine blk_drew ?_ | refine blk_alloc ?_ _)); exact BK325.out) hkp (fun hs_ => Or.elim hs_ (fun e_ => (fun e_ => (Kd.R_ne HO_348000.out BK325.out (by decide)) e_) e_) (fun e_ => (fun e_ => (Kd.R_ne HO_348001.out BK325.out (by decide)) e_) e_))); have n7_ := Aside0.mk (blk_kept (by (with_reducible repeat (first | refine blk_drewN ?_ _ | refine blk_drew ?_ | refine blk_alloc ?_ _)); exact BK340.out) hkp (fun hs_ => Or.elim hs_ (fun e_ => (fun e_ => (Kd.R_ne HO_348000.out BK340.out (by decide)) e_) e_) (fun e_ => (fun e_ => (Kd.R_ne HO_348001.out BK340.out (by decide)) e_) e_))); have n8_ := Aside0.mk (blk_kept (by (with_reducible repeat (first | refine blk_drewN ?_ _ | refine blk_drew ?_ | refine blk_alloc ?_ _)); exact BK347.out) hkp (fun hs_ => Or.elim hs_ (fun e_ => (fun e_ => (Kd.R_ne HO_348000.out BK347.out (by decide)) e_) e_) (fun e_ => (fun e_ => (Kd.R_ne HO_348001.out BK347.out (by decide)) e_) e_))); have n9_ := Aside0.mk (blk_kept (by (with_reducible repeat (first | refine blk_drewN ?_ _ | refine blk_drew ?_ | refine blk_alloc ?_ _)); exact BK355.out) hkp (fun hs_ => Or.elim hs_ (fun e_ => (fun e_ => (Kd.R_ne HO_348000.out BK355.out (by decide)) e_) e_) (fun e_ => (fun e_ => (Kd.R_ne HO_348001.out BK355.out (by decide)) e_) e_))); have n10_ := Aside0.mk (Kd.R_mono (ok' := fun k_ => some k_ ≠ (.slice Ao22 t333.length co22 : Value).ownBlock ∧ some k_ ≠ (.slice Ao29 t341.length co29 : Value).ownBlock ∧ some k_ ≠ (.slice Ao36 t348.length co36 : Value).ownBlock) (Kd.R_keptB ((Kd.R_apart' HO359.out (Kd.R_typed HO_348001.out) (by decide))) hkp (fun k_ hk_ hs_ => Or.elim hs_ (fun e_ => (hk_.1.1.2) e_) (fun e_ => (hk_.2) e_))) (fun k_ hk_ => ⟨hk_.1.1.1.1.2, hk_.1.1.1.2, hk_.1.1.2⟩)); have n11_ := Aside0.mk (Kd.R_mono (ok' := fun k_ => some k_ ≠ (.slice Ao25 t336.length co25 : Value).ownBlock ∧ some k_ ≠ (.slice Ao33 t344.length co33 : Value).ownBlock ∧ some k_ ≠ (.slice Ao41 t351.length co41 : Value).ownBlock) (Kd.R_keptB ((Kd.R_apart' HO362.out (Kd.R_typed HO_348000.out) (by decide))) hkp (fun k_ hk_ hs_ => Or.elim hs_ (fun e_ => (hk_.2) e_) (fun e_ => (hk_.1.1.2) e_))) (fun k_ hk_ => ⟨hk_.1.1.1.1.2, hk_.1.1.1.2, hk_.1.1.2⟩)); have n12_ := Aside0.mk (hb); clear HO_341000; clear HO_341001; clear HO_348000; clear HO_348001; clear HO_356000; clear HO_356001; clear BK325; clear BK340; clear BK347; clear BK355; clear HO359; clear HO362; clear HB; have HO_341000 := n0_; have HO_341001 := n1_; have HO_348000 := n2_; have HO_348001 := n3_; have HO_356000 := n4_; have HO_356001 := n5_; have BK325 := n6_; have BK340 := n7_; have BK347 := n8_; have BK355 := n9_; have HO359 := n10_; have HO362 := n11_; have HB := n12_; clear n0_ n1_ n2_ n3_ n4_ n5_ n6_ n7_ n8_ n9_ n10_ n11_ n12_; (try clear hb); (try clear hkp); (try clear hy0); (try clear hy1)))
            (try simp only [Act.put, List.setIfInBounds_toArray, List.set_cons_zero, List.set_cons_succ])
            go_cut [65] (fun v65 wc => ∃ (kq : Nat) (x65_64 : Bool), v65 = .bool x65_64 ∧ Aside0 (laws_FnExactPagesGive.j1 kq a1 t339 x65_64 l0_0 l0_1 t333 t336 t348 t351 = some r) ∧ Aside0 (kq ≤ kj11) ∧ Aside0 (Kd.R Kd.string 9 wc w.heap.size (fun k_ => some k_ ≠ ((.slice Ao29 t341.length co29) : Value).ownBlock ∧ some k_ ≠ ((.slice Ao36 t348.length co36) : Value).ownBlock) (.slice Ao22 t333.length co22) t333) ∧ Aside0 (Kd.R (Kd.int .i64) 3 wc w.heap.size (fun k_ => some k_ ≠ ((.slice Ao33 t344.length co33) : Value).ownBlock ∧ some k_ ≠ ((.slice Ao41 t351.length co41) : Value).ownBlock) (.slice Ao25 t336.length co25) t336) ∧ Aside0 (Kd.R Kd.string 9 wc w.heap.size (fun k_ => some k_ ≠ ((.slice Ao22 t333.length co22) : Value).ownBlock ∧ some k_ ≠ ((.slice Ao36 t348.length co36) : Value).ownBlock) (.slice Ao29 t341.length co29) t365) ∧ Aside0 (Kd.R (Kd.int .i64) 3 wc w.heap.size (fun k_ => some k_ ≠ ((.slice Ao25 t336.length co25) : Value).ownBlock ∧ some k_ ≠ ((.slice Ao41 t351.length co41) : Value).ownBlock) (.slice Ao33 t344.length co33) t366) ∧ Aside0 (Kd.R Kd.string 9 wc w.heap.size (fun k_ => some k_ ≠ ((.slice Ao22 t333.length co22) : Value).ownBlock ∧ some k_ ≠ ((.slice Ao29 t341.length co29) : Value).ownBlock) (.slice Ao36 t348.length co36) t348) ∧ Aside0 (Kd.R (Kd.int .i64) 3 wc w.heap.size (fun k_ => some k_ ≠ ((.slice Ao25 t336.length co25) : Value).ownBlock ∧ some k_ ≠ ((.slice Ao33 t344.length co33) : Value).ownBlock) (.slice Ao41 t351.length co41) t351) ∧ Aside0 (wc.heap[gb325]? = some (.cells #[(.slice A0_0 l0_0.length c0_0), (.slice A0_1 l0_1.length c0_1)] 38 (0, 0))) ∧ Aside0 (wc.heap[gb340]? = some (.cells #[(.slice Ao22 t333.length co22), (.slice Ao25 t336.length co25)] 40 (0, 0))) ∧ Aside0 (wc.heap[gb347]? = some (.cells #[(.slice Ao29 t341.length co29), (.slice Ao33 t344.length co33)] 40 (0, 0))) ∧ Aside0 (wc.heap[gb355]? = some (.cells #[(.slice Ao36 t348.length co36), (.slice Ao41 t351.length co41)] 40 (0, 0))) ∧ Aside0 (Below w.heap.size w wc))
            case first =>
              have H := HC65.out
              clear HC65
              by_cases c76 : t364 < 0
              · rw [if_pos c76] at H
                have c76b0 : decide (t364 < 0) = true := decide_eq_true c76
                clear c76
                (first | rw [c76b0] | (simp only [i64_w, i32_w]; rw [c76b0]) | skip)
                have H' := Aside0.mk H
                clear H
                go_wp2
                go_meet
                case rel => exact ⟨_, (true), (by first | rfl | (simp; done) | (simp [*]; done)), H', ⟨by have := HJ11.out; first | omega | exact Nat.le_refl _⟩, ⟨by (with_reducible repeat (first | apply Kd.R_alloc | apply Kd.R_drewN | apply Kd.R_drew)); exact Kd.R_mono HO_341000.out (fun _ hk => ⟨hk.1, hk.2.1⟩)⟩, ⟨by (with_reducible repeat (first | apply Kd.R_alloc | apply Kd.R_drewN | apply Kd.R_drew)); exact Kd.R_mono HO_341001.out (fun _ hk => ⟨hk.1, hk.2.1⟩)⟩, ⟨by (with_reducible repeat (first | apply Kd.R_alloc | apply Kd.R_drewN | apply Kd.R_drew)); exact Kd.R_mono HO_348000.out (fun _ hk => ⟨hk.1.1, hk.1.2⟩)⟩, ⟨by (with_reducible repeat (first | apply Kd.R_alloc | apply Kd.R_drewN | apply Kd.R_drew)); exact Kd.R_mono HO_348001.out (fun _ hk => ⟨hk.1.1, hk.1.2⟩)⟩, ⟨by (with_reducible repeat (first | apply Kd.R_alloc | apply Kd.R_drewN | apply Kd.R_drew)); exact Kd.R_mono HO_356000.out (fun _ hk => ⟨hk.1, hk.2.1⟩)⟩, ⟨by (with_reducible repeat (first | apply Kd.R_alloc | apply Kd.R_drewN | apply Kd.R_drew)); exact Kd.R_mono HO_356001.out (fun _ hk => ⟨hk.1, hk.2.1⟩)⟩, ⟨by (with_reducible repeat (first | refine blk_drewN ?_ _ | refine blk_drew ?_ | refine blk_alloc ?_ _)); exact BK325.out⟩, ⟨by (with_reducible repeat (first | refine blk_drewN ?_ _ | refine blk_drew ?_ | refine blk_alloc ?_ _)); exact BK340.out⟩, ⟨by (with_reducible repeat (first | refine blk_drewN ?_ _ | refine blk_drew ?_ | refine blk_alloc ?_ _)); exact BK347.out⟩, ⟨by (with_reducible repeat (first | refine blk_drewN ?_ _ | refine blk_drew ?_ | refine blk_alloc ?_ _)); exact BK355.out⟩, ⟨by repeat (first | (with_reducible first | exact HB.out | apply below_alloc | apply pw_below_drewN | apply below_drew1 | refine below_set ?_ GE325.out | refine below_set ?_ GE340.out | refine below_set ?_ GE347.out | refine below_set ?_ GE355.out) | exact HB.out)⟩⟩
              · rw [if_neg c76] at H
                have c76b0 : decide (t364 < 0) = false := decide_eq_false c76
                clear c76
                (first | rw [c76b0] | (simp only [i64_w, i32_w]; rw [c76b0]) | skip)
                replace H := Option.bind_eq_some_iff.mp H
                obtain ⟨t367, A770, H⟩ := H
                replace H : (if t367 = true then (laws_FnExactPagesGive.j1 kj11 a1 t339 (t354 != t339) l0_0 l0_1 t333 t336 t348 t351) else (laws_FnExactPagesGive.j1 kj11 a1 t339 true l0_0 l0_1 t333 t336 t348 t351)) = some r := H
                have A77 := Aside0.mk A770
                clear A770
                by_cases c78 : t367 = true
                · subst c78
                  have H1 : (laws_FnExactPagesGive.j1 kj11 a1 t339 (t354 != t339) l0_0 l0_1 t333 t336 t348 t351) = some r := by rw [if_pos rfl] at H; exact H
                  clear H
                  have H := H1
                  clear H1
                  have H' := Aside0.mk H
                  clear H
                  have hnb79 := NB355_325.out
                  have hnc79 := NB325_355.out
                  have hnb80 := NB355_340.out
                  have hnc80 := NB340_355.out
                  have hnb81 := NB355_347.out
                  have hnc81 := NB347_355.out
                  have hcz82_0 : w75.cell? ⟨gb355, 0, none⟩ = some (.slice Ao36 t348.length co36) := (blk_cell BK355.out 0).trans rfl
                  have hcz82_1 : w75.cell? ⟨gb355, 1, none⟩ = some (.slice Ao41 t351.length co41) := (blk_cell BK355.out 1).trans rfl
                  have hfz82_0 := blk_frozen BK355.out 0
                  have hfz82_1 := blk_frozen BK355.out 1
                  have hnb83 := NB340_325.out
                  have hnc83 := NB325_340.out
                  have hnb84 := NB340_347.out
                  have hnc84 := NB347_340.out
                  have hcz85_0 : w75.cell? ⟨gb340, 0, none⟩ = some (.slice Ao22 t333.length co22) := (blk_cell BK340.out 0).trans rfl
                  have hcz85_1 : w75.cell? ⟨gb340, 1, none⟩ = some (.slice Ao25 t336.length co25) := (blk_cell BK340.out 1).trans rfl
                  have hfz85_0 := blk_frozen BK340.out 0
                  have hfz85_1 := blk_frozen BK340.out 1
                  go_wp2_with (first | (go_at_call 19; (with_reducible refine (laws_eqPages.calls kj11 _ _ t348 _ _ t351 _ _ t333 _ _ t336 true _ ?side1 ?side2 ?side3 ?side4 ?side5 ?side6 ?side7 ?side8 A77.out).mono ?_); (case side1 => repeat (first | exact (Kd.R_reads' HO_356000.out).2.2 | (with_reducible refine Kd.C_alloc ?_ _) | (with_reducible refine Kd.C_drewN ?_ _) | (with_reducible refine Kd.C_drew ?_))); (case side2 => exact (Kd.R_reads' HO_356000.out).2.1); (case side3 => repeat (first | exact (Kd.R_reads' HO_356001.out).2.2 | (with_reducible refine Kd.C_alloc ?_ _) | (with_reducible refine Kd.C_drewN ?_ _) | (with_reducible refine Kd.C_drew ?_))); (case side4 => exact (Kd.R_reads' HO_356001.out).2.1); (case side5 => repeat (first | exact (Kd.R_reads' HO_341000.out).2.2 | (with_reducible refine Kd.C_alloc ?_ _) | (with_reducible refine Kd.C_drewN ?_ _) | (with_reducible refine Kd.C_drew ?_))); (case side6 => exact (Kd.R_reads' HO_341000.out).2.1); (case side7 => repeat (first | exact (Kd.R_reads' HO_341001.out).2.2 | (with_reducible refine Kd.C_alloc ?_ _) | (with_reducible refine Kd.C_drewN ?_ _) | (with_reducible refine Kd.C_drew ?_))); (case side8 => exact (Kd.R_reads' HO_341001.out).2.1); rintro e w86 ⟨rfl, hb⟩; have n0_ := Aside0.mk (Kd.R_below (by (with_reducible repeat (first | apply Kd.R_alloc | apply Kd.R_drewN | apply Kd.R_drew)); exact HO_341000.out) hb); have n1_ := Aside0.mk (Kd.R_below (by (with_reducible repeat (first | apply Kd.R_alloc | apply Kd.R_drewN | apply Kd.R_drew)); exact HO_341001.out) hb); have n2_ := Aside0.mk (Kd.R_below (by (with_reducible repeat (first | apply Kd.R_alloc | apply Kd.R_drewN | apply Kd.R_drew)); exact HO_348000.out) hb); have n3_ := Aside0.mk (Kd.R_below (by (with_reducible repeat (first | apply Kd.R_alloc | apply Kd.R_drewN | apply Kd.R_drew)); exact HO_348001.out) hb); have n4_ := Aside0.mk (Kd.R_below (by (with_reducible repeat (first | apply Kd.R_alloc | apply Kd.R_drewN | apply Kd.R_drew)); exact HO_356000.out) hb); have n5_ := Aside0.mk (Kd.R_below (by (with_reducible repeat (first | apply Kd.R_alloc | apply Kd.R_drewN | apply Kd.R_drew)); exact HO_356001.out) hb); have n6_ := Aside0.mk (Kd.R_below (by (with_reducible repeat (first | apply Kd.R_alloc | apply Kd.R_drewN | apply Kd.R_drew)); exact HO359.out) hb); have n7_ := Aside0.mk (Kd.R_below (by (with_reducible repeat (first | apply Kd.R_alloc | apply Kd.R_drewN | apply Kd.R_drew)); exact HO362.out) hb); have n8_ := Aside0.mk (blk_below (g := gb325) (o := .cells #[.slice A0_0 l0_0.length c0_0, .slice A0_1 l0_1.length c0_1] 38 (0, 0)) (by (with_reducible repeat (first | refine blk_drewN ?_ _ | refine blk_drew ?_ | refine blk_alloc ?_ _)); exact BK325.out) hb); have n9_ := Aside0.mk (blk_below (g := gb340) (o := .cells #[.slice Ao22 t333.length co22, .slice Ao25 t336.length co25] 40 (0, 0)) (by (with_reducible repeat (first | refine blk_drewN ?_ _ | refine blk_drew ?_ | refine blk_alloc ?_ _)); exact BK340.out) hb); have n10_ := Aside0.mk (blk_below (g := gb347) (o := .cells #[.slice Ao29 t341.length co29, .slice Ao33 t344.length co33] 40 (0, 0)) (by (with_reducible repeat (first | refine blk_drewN ?_ _ | refine blk_drew ?_ | refine blk_alloc ?_ _)); exact BK347.out) hb); have n11_ := Aside0.mk (blk_below (g := gb355) (o := .cells #[.slice Ao36 t348.length co36, .slice Ao41 t351.length co41] 40 (0, 0)) (by (with_reducible repeat (first | refine blk_drewN ?_ _ | refine blk_drew ?_ | refine blk_alloc ?_ _)); exact BK355.out) hb); have n12_ := Aside0.mk (below_step (by repeat (first | (with_reducible first | exact HB.out | apply below_alloc | apply pw_below_drewN | apply below_drew1 | refine below_set ?_ GE325.out | refine below_set ?_ GE340.out | refine below_set ?_ GE347.out | refine below_set ?_ GE355.out) | exact HB.out)) hb); clear HO_341000; clear HO_341001; clear HO_348000; clear HO_348001; clear HO_356000; clear HO_356001; clear HO359; clear HO362; clear BK325; clear BK340; clear BK347; clear BK355; clear HB; have HO_341000 := n0_; have HO_341001 := n1_; have HO_348000 := n2_; have HO_348001 := n3_; have HO_356000 := n4_; have HO_356001 := n5_; have HO359 := n6_; have HO362 := n7_; have BK325 := n8_; have BK340 := n9_; have BK347 := n10_; have BK355 := n11_; have HB := n12_; clear n0_ n1_ n2_ n3_ n4_ n5_ n6_ n7_ n8_ n9_ n10_ n11_ n12_; (try clear hb); (try clear hb2); (try clear hk); (try clear hi)))
                  go_meet
                  case rel => exact ⟨_, ((t354 != t339)), (by first | rfl | (simp; done) | (simp [*]; done)), H', ⟨by have := HJ11.out; first | omega | exact Nat.le_refl _⟩, ⟨by (with_reducible repeat (first | apply Kd.R_alloc | apply Kd.R_drewN | apply Kd.R_drew)); exact Kd.R_mono HO_341000.out (fun _ hk => ⟨hk.1, hk.2.1⟩)⟩, ⟨by (with_reducible repeat (first | apply Kd.R_alloc | apply Kd.R_drewN | apply Kd.R_drew)); exact Kd.R_mono HO_341001.out (fun _ hk => ⟨hk.1, hk.2.1⟩)⟩, ⟨by (with_reducible repeat (first | apply Kd.R_alloc | apply Kd.R_drewN | apply Kd.R_drew)); exact Kd.R_mono HO_348000.out (fun _ hk => ⟨hk.1.1, hk.1.2⟩)⟩, ⟨by (with_reducible repeat (first | apply Kd.R_alloc | apply Kd.R_drewN | apply Kd.R_drew)); exact Kd.R_mono HO_348001.out (fun _ hk => ⟨hk.1.1, hk.1.2⟩)⟩, ⟨by (with_reducible repeat (first | apply Kd.R_alloc | apply Kd.R_drewN | apply Kd.R_drew)); exact Kd.R_mono HO_356000.out (fun _ hk => ⟨hk.1, hk.2.1⟩)⟩, ⟨by (with_reducible repeat (first | apply Kd.R_alloc | apply Kd.R_drewN | apply Kd.R_drew)); exact Kd.R_mono HO_356001.out (fun _ hk => ⟨hk.1, hk.2.1⟩)⟩, ⟨by (with_reducible repeat (first | refine blk_drewN ?_ _ | refine blk_drew ?_ | refine blk_alloc ?_ _)); exact BK325.out⟩, ⟨by (with_reducible repeat (first | refine blk_drewN ?_ _ | refine blk_drew ?_ | refine blk_alloc ?_ _)); exact BK340.out⟩, ⟨by (with_reducible repeat (first | refine blk_drewN ?_ _ | refine blk_drew ?_ | refine blk_alloc ?_ _)); exact BK347.out⟩, ⟨by (with_reducible repeat (first | refine blk_drewN ?_ _ | refine blk_drew ?_ | refine blk_alloc ?_ _)); exact BK355.out⟩, ⟨by repeat (first | (with_reducible first | exact HB.out | apply below_alloc | apply pw_below_drewN | apply below_drew1 | refine below_set ?_ GE325.out | refine below_set ?_ GE340.out | refine below_set ?_ GE347.out | refine below_set ?_ GE355.out) | exact HB.out)⟩⟩
                · replace c78 := Bool.eq_false_iff.mpr c78
                  subst c78
                  have H1 : (laws_FnExactPagesGive.j1 kj11 a1 t339 true l0_0 l0_1 t333 t336 t348 t351) = some r := by rw [if_neg (show ¬ (false = true) by decide)] at H; exact H
                  clear H
                  have H := H1
                  clear H1
                  have H' := Aside0.mk H
                  clear H
                  have hnb87 := NB355_325.out
                  have hnc87 := NB325_355.out
                  have hnb88 := NB355_340.out
                  have hnc88 := NB340_355.out
                  have hnb89 := NB355_347.out
                  have hnc89 := NB347_355.out
                  have hcz90_0 : w75.cell? ⟨gb355, 0, none⟩ = some (.slice Ao36 t348.length co36) := (blk_cell BK355.out 0).trans rfl
                  have hcz90_1 : w75.cell? ⟨gb355, 1, none⟩ = some (.slice Ao41 t351.length co41) := (blk_cell BK355.out 1).trans rfl
                  have hfz90_0 := blk_frozen BK355.out 0
                  have hfz90_1 := blk_frozen BK355.out 1
                  have hnb91 := NB340_325.out
                  have hnc91 := NB325_340.out
                  have hnb92 := NB340_347.out
                  have hnc92 := NB347_340.out
                  have hcz93_0 : w75.cell? ⟨gb340, 0, none⟩ = some (.slice Ao22 t333.length co22) := (blk_cell BK340.out 0).trans rfl
                  have hcz93_1 : w75.cell? ⟨gb340, 1, none⟩ = some (.slice Ao25 t336.length co25) := (blk_cell BK340.out 1).trans rfl
                  have hfz93_0 := blk_frozen BK340.out 0
                  have hfz93_1 := blk_frozen BK340.out 1
                  go_wp2_with (first | (go_at_call 19; (with_reducible refine (laws_eqPages.calls kj11 _ _ t348 _ _ t351 _ _ t333 _ _ t336 false _ ?side1 ?side2 ?side3 ?side4 ?side5 ?side6 ?side7 ?side8 A77.out).mono ?_); (case side1 => repeat (first | exact (Kd.R_reads' HO_356000.out).2.2 | (with_reducible refine Kd.C_alloc ?_ _) | (with_reducible refine Kd.C_drewN ?_ _) | (with_reducible refine Kd.C_drew ?_))); (case side2 => exact (Kd.R_reads' HO_356000.out).2.1); (case side3 => repeat (first | exact (Kd.R_reads' HO_356001.out).2.2 | (with_reducible refine Kd.C_alloc ?_ _) | (with_reducible refine Kd.C_drewN ?_ _) | (with_reducible refine Kd.C_drew ?_))); (case side4 => exact (Kd.R_reads' HO_356001.out).2.1); (case side5 => repeat (first | exact (Kd.R_reads' HO_341000.out).2.2 | (with_reducible refine Kd.C_alloc ?_ _) | (with_reducible refine Kd.C_drewN ?_ _) | (with_reducible refine Kd.C_drew ?_))); (case side6 => exact (Kd.R_reads' HO_341000.out).2.1); (case side7 => repeat (first | exact (Kd.R_reads' HO_341001.out).2.2 | (with_reducible refine Kd.C_alloc ?_ _) | (with_reducible refine Kd.C_drewN ?_ _) | (with_reducible refine Kd.C_drew ?_))); (case side8 => exact (Kd.R_reads' HO_341001.out).2.1); rintro e w94 ⟨rfl, hb⟩; have n0_ := Aside0.mk (Kd.R_below (by (with_reducible repeat (first | apply Kd.R_alloc | apply Kd.R_drewN | apply Kd.R_drew)); exact HO_341000.out) hb); have n1_ := Aside0.mk (Kd.R_below (by (with_reducible repeat (first | apply Kd.R_alloc | apply Kd.R_drewN | apply Kd.R_drew)); exact HO_341001.out) hb); have n2_ := Aside0.mk (Kd.R_below (by (with_reducible repeat (first | apply Kd.R_alloc | apply Kd.R_drewN | apply Kd.R_drew)); exact HO_348000.out) hb); have n3_ := Aside0.mk (Kd.R_below (by (with_reducible repeat (first | apply Kd.R_alloc | apply Kd.R_drewN | apply Kd.R_drew)); exact HO_348001.out) hb); have n4_ := Aside0.mk (Kd.R_below (by (with_reducible repeat (first | apply Kd.R_alloc | apply Kd.R_drewN | apply Kd.R_drew)); exact HO_356000.out) hb); have n5_ := Aside0.mk (Kd.R_below (by (with_reducible repeat (first | apply Kd.R_alloc | apply Kd.R_drewN | apply Kd.R_drew)); exact HO_356001.out) hb); have n6_ := Aside0.mk (Kd.R_below (by (with_reducible repeat (first | apply Kd.R_alloc | apply Kd.R_drewN | apply Kd.R_drew)); exact HO359.out) hb); have n7_ := Aside0.mk (Kd.R_below (by (with_reducible repeat (first | apply Kd.R_alloc | apply Kd.R_drewN | apply Kd.R_drew)); exact HO362.out) hb); have n8_ := Aside0.mk (blk_below (g := gb325) (o := .cells #[.slice A0_0 l0_0.length c0_0, .slice A0_1 l0_1.length c0_1] 38 (0, 0)) (by (with_reducible repeat (first | refine blk_drewN ?_ _ | refine blk_drew ?_ | refine blk_alloc ?_ _)); exact BK325.out) hb); have n9_ := Aside0.mk (blk_below (g := gb340) (o := .cells #[.slice Ao22 t333.length co22, .slice Ao25 t336.length co25] 40 (0, 0)) (by (with_reducible repeat (first | refine blk_drewN ?_ _ | refine blk_drew ?_ | refine blk_alloc ?_ _)); exact BK340.out) hb); have n10_ := Aside0.mk (blk_below (g := gb347) (o := .cells #[.slice Ao29 t341.length co29, .slice Ao33 t344.length co33] 40 (0, 0)) (by (with_reducible repeat (first | refine blk_drewN ?_ _ | refine blk_drew ?_ | refine blk_alloc ?_ _)); exact BK347.out) hb); have n11_ := Aside0.mk (blk_below (g := gb355) (o := .cells #[.slice Ao36 t348.length co36, .slice Ao41 t351.length co41] 40 (0, 0)) (by (with_reducible repeat (first | refine blk_drewN ?_ _ | refine blk_drew ?_ | refine blk_alloc ?_ _)); exact BK355.out) hb); have n12_ := Aside0.mk (below_step (by repeat (first | (with_reducible first | exact HB.out | apply below_alloc | apply pw_below_drewN | apply below_drew1 | refine below_set ?_ GE325.out | refine below_set ?_ GE340.out | refine below_set ?_ GE347.out | refine below_set ?_ GE355.out) | exact HB.out)) hb); clear HO_341000; clear HO_341001; clear HO_348000; clear HO_348001; clear HO_356000; clear HO_356001; clear HO359; clear HO362; clear BK325; clear BK340; clear BK347; clear BK355; clear HB; have HO_341000 := n0_; have HO_341001 := n1_; have HO_348000 := n2_; have HO_348001 := n3_; have HO_356000 := n4_; have HO_356001 := n5_; have HO359 := n6_; have HO362 := n7_; have BK325 := n8_; have BK340 := n9_; have BK347 := n10_; have BK355 := n11_; have HB := n12_; clear n0_ n1_ n2_ n3_ n4_ n5_ n6_ n7_ n8_ n9_ n10_ n11_ n12_; (try clear hb); (try clear hb2); (try clear hk); (try clear hi)))
                  go_meet
                  case rel => exact ⟨_, (true), (by first | rfl | (simp; done) | (simp [*]; done)), H', ⟨by have := HJ11.out; first | omega | exact Nat.le_refl _⟩, ⟨by (with_reducible repeat (first | apply Kd.R_alloc | apply Kd.R_drewN | apply Kd.R_drew)); exact Kd.R_mono HO_341000.out (fun _ hk => ⟨hk.1, hk.2.1⟩)⟩, ⟨by (with_reducible repeat (first | apply Kd.R_alloc | apply Kd.R_drewN | apply Kd.R_drew)); exact Kd.R_mono HO_341001.out (fun _ hk => ⟨hk.1, hk.2.1⟩)⟩, ⟨by (with_reducible repeat (first | apply Kd.R_alloc | apply Kd.R_drewN | apply Kd.R_drew)); exact Kd.R_mono HO_348000.out (fun _ hk => ⟨hk.1.1, hk.1.2⟩)⟩, ⟨by (with_reducible repeat (first | apply Kd.R_alloc | apply Kd.R_drewN | apply Kd.R_drew)); exact Kd.R_mono HO_348001.out (fun _ hk => ⟨hk.1.1, hk.1.2⟩)⟩, ⟨by (with_reducible repeat (first | apply Kd.R_alloc | apply Kd.R_drewN | apply Kd.R_drew)); exact Kd.R_mono HO_356000.out (fun _ hk => ⟨hk.1, hk.2.1⟩)⟩, ⟨by (with_reducible repeat (first | apply Kd.R_alloc | apply Kd.R_drewN | apply Kd.R_drew)); exact Kd.R_mono HO_356001.out (fun _ hk => ⟨hk.1, hk.2.1⟩)⟩, ⟨by (with_reducible repeat (first | refine blk_drewN ?_ _ | refine blk_drew ?_ | refine blk_alloc ?_ _)); exact BK325.out⟩, ⟨by (with_reducible repeat (first | refine blk_drewN ?_ _ | refine blk_drew ?_ | refine blk_alloc ?_ _)); exact BK340.out⟩, ⟨by (with_reducible repeat (first | refine blk_drewN ?_ _ | refine blk_drew ?_ | refine blk_alloc ?_ _)); exact BK347.out⟩, ⟨by (with_reducible repeat (first | refine blk_drewN ?_ _ | refine blk_drew ?_ | refine blk_alloc ?_ _)); exact BK355.out⟩, ⟨by repeat (first | (with_reducible first | exact HB.out | apply below_alloc | apply pw_below_drewN | apply below_drew1 | refine below_set ?_ GE325.out | refine below_set ?_ GE340.out | refine below_set ?_ GE347.out | refine below_set ?_ GE355.out) | exact HB.out)⟩⟩
            case rest =>
              clear HC65
              try clear c1
              try clear c2
              try clear p2
              try clear c3
              try clear c4
              try clear c4b0
              try clear c5
              try clear c6
              try clear c7
              try clear c8
              try clear c9
              try clear c15
              try clear c16
              try clear c17
              try clear c18
              try clear c19
              try clear c20
              try clear c23
              try clear c30
              try clear c31
              try clear c37
              try clear c38
              try clear c39
              try clear c43
              try clear c44
              try clear c45
              try clear c46
              try clear c48
              try clear c49
              try clear c52
              try clear c53
              try clear c54
              try clear c56
              try clear c57
              try clear c60
              try clear c63
              try clear c71
              try clear c72
              try clear c73
              try clear c76
              try clear c76b0
              try clear c78
              try clear c79
              try clear c80
              try clear c81
              try clear c83
              try clear c84
              try clear c87
              try clear c88
              try clear c89
              try clear c91
              try clear c92
              try clear hcz14_0
              try clear hcz14_1
              try clear hcz16_0
              try clear hcz16_1
              try clear hcz24_0
              try clear hcz24_1
              try clear hcz26_0
              try clear hcz26_1
              try clear hcz32_0
              try clear hcz32_1
              try clear hcz40_0
              try clear hcz40_1
              try clear hcz47_0
              try clear hcz47_1
              try clear hcz50_0
              try clear hcz50_1
              try clear hcz55_0
              try clear hcz55_1
              try clear hcz58_0
              try clear hcz58_1
              try clear hcz6_0
              try clear hcz6_1
              try clear hcz74_0
              try clear hcz74_1
              try clear hcz82_0
              try clear hcz82_1
              try clear hcz85_0
              try clear hcz85_1
              try clear hcz90_0
              try clear hcz90_1
              try clear hcz93_0
              try clear hcz93_1
              try clear hfz14_0
              try clear hfz14_1
              try clear hfz16_0
              try clear hfz16_1
              try clear hfz24_0
              try clear hfz24_1
              try clear hfz26_0
              try clear hfz26_1
              try clear hfz32_0
              try clear hfz32_1
              try clear hfz40_0
              try clear hfz40_1
              try clear hfz47_0
              try clear hfz47_1
              try clear hfz50_0
              try clear hfz50_1
              try clear hfz55_0
              try clear hfz55_1
              try clear hfz58_0
              try clear hfz58_1
              try clear hfz6_0
              try clear hfz6_1
              try clear hfz74_0
              try clear hfz74_1
              try clear hfz82_0
              try clear hfz82_1
              try clear hfz85_0
              try clear hfz85_1
              try clear hfz90_0
              try clear hfz90_1
              try clear hfz93_0
              try clear hfz93_1
              try clear p2
              obtain ⟨kq, x65_64, rfl, HA, HJ64, HO_341000, HO_341001, HO_348000, HO_348001, HO_356000, HO_356001, BK325, BK340, BK347, BK355, HB⟩ := hcut
              have hl348000_64 := (Kd.R_reads' HO_348000.out).1
              rw [hl348000_64] at HO_348000
              (try simp only [hl348000_64])
              (try simp only [hl348000_64] at BK325)
              (try simp only [hl348000_64] at BK340)
              (try simp only [hl348000_64] at BK347)
              (try simp only [hl348000_64] at BK355)
              (try simp only [hl348000_64] at HO_341000)
              (try simp only [hl348000_64] at HO_341001)
              (try simp only [hl348000_64] at HO_348001)
              (try simp only [hl348000_64] at HO_356000)
              (try simp only [hl348000_64] at HO_356001)
              have hl348001_64 := (Kd.R_reads' HO_348001.out).1
              rw [hl348001_64] at HO_348001
              (try simp only [hl348001_64])
              (try simp only [hl348001_64] at BK325)
              (try simp only [hl348001_64] at BK340)
              (try simp only [hl348001_64] at BK347)
              (try simp only [hl348001_64] at BK355)
              (try simp only [hl348001_64] at HO_341000)
              (try simp only [hl348001_64] at HO_341001)
              (try simp only [hl348001_64] at HO_348000)
              (try simp only [hl348001_64] at HO_356000)
              (try simp only [hl348001_64] at HO_356001)
              cases kq with
              | zero => exact absurd HA.out (by simp [laws_FnExactPagesGive.j1])
              | succ kj64 =>
                have H := HA.out
                clear HA
                simp only [laws_FnExactPagesGive.j1] at H
                by_cases c95 : x65_64 = true
                · subst c95
                  have H1 : (some false) = some r := by rw [if_pos rfl] at H; exact H
                  clear H
                  have H := H1
                  clear H1
                  obtain rfl := Option.some.inj H
                  go_wp2
                  go_ret
                  exact ⟨by first | rfl | (simp [errW_none, errW_some] <;> rfl) | (simp [*, errW_none, errW_some] <;> rfl), by repeat (first | (with_reducible first | exact HB.out | apply below_alloc | apply pw_below_drewN | apply below_drew1 | refine below_set ?_ GE325.out | refine below_set ?_ GE340.out | refine below_set ?_ GE347.out | refine below_set ?_ GE355.out) | exact HB.out)⟩
                · replace c95 := Bool.eq_false_iff.mpr c95
                  subst c95
                  have H1 : ((laws_markPages.f kj64 t348 t351 1).bind fun bt368 => ((laws_heldPages.f kj64 bt368.2.1 bt368.2.2 1).bind fun t371 => (if t371 < 0 then (some false) else (if t371 = bt368.1 then ((laws_toPages.f kj64 l0_0 l0_1).bind fun bt372 => ((impl_PagesGive.f kj64 bt372.1 bt372.2 a1).bind fun bt378 => ((laws_eqPages.f kj64 bt378.1 bt378.2.1 t333 t336).bind fun t386 => (if t386 = true then (laws_FnExactPagesGive.j2 kj64 bt368.1 (bt378.2.2 != t339) bt368.2.1 bt368.2.2) else (laws_FnExactPagesGive.j2 kj64 bt368.1 true bt368.2.1 bt368.2.2))))) else (some false))))) = some r := by rw [if_neg (show ¬ (false = true) by decide)] at H; exact H
                  clear H
                  have H := H1
                  clear H1
                  replace H := Option.bind_eq_some_iff.mp H
                  obtain ⟨⟨t368, t369, t370⟩, A960, H⟩ := H
                  replace H : ((laws_heldPages.f kj64 t369 t370 1).bind fun t371 => (if t371 < 0 then (some false) else (if t371 = t368 then ((laws_toPages.f kj64 l0_0 l0_1).bind fun bt372 => ((impl_PagesGive.f kj64 bt372.1 bt372.2 a1).bind fun bt378 => ((laws_eqPages.f kj64 bt378.1 bt378.2.1 t333 t336).bind fun t386 => (if t386 = true then (laws_FnExactPagesGive.j2 kj64 t368 (bt378.2.2 != t339) t369 t370) else (laws_FnExactPagesGive.j2 kj64 t368 true t369 t370))))) else (some false)))) = some r := H
                  have A96 := Aside0.mk A960
                  clear A960
                  replace H := Option.bind_eq_some_iff.mp H
                  obtain ⟨t371, A970, H⟩ := H
                  replace H : (if t371 < 0 then (some false) else (if t371 = t368 then ((laws_toPages.f kj64 l0_0 l0_1).bind fun bt372 => ((impl_PagesGive.f kj64 bt372.1 bt372.2 a1).bind fun bt378 => ((laws_eqPages.f kj64 bt378.1 bt378.2.1 t333 t336).bind fun t386 => (if t386 = true then (laws_FnExactPagesGive.j2 kj64 t368 (bt378.2.2 != t339) t369 t370) else (laws_FnExactPagesGive.j2 kj64 t368 true t369 t370))))) else (some false))) = some r := H
                  have A97 := Aside0.mk A970
                  clear A970
                  by_cases c98 : t371 < 0
                  · rw [if_pos c98] at H
                    have c98b0 : decide (t371 < 0) = true := decide_eq_true c98
                    clear c98
                    obtain rfl := Option.some.inj H
                    have hnb99 := NB355_325.out
                    have hnc99 := NB325_355.out
                    have hnb100 := NB355_340.out
                    have hnc100 := NB340_355.out
                    have hnb101 := NB355_347.out
                    have hnc101 := NB347_355.out
                    have hcz102_0 : wc.cell? ⟨gb355, 0, none⟩ = some (.slice Ao36 t348.length co36) := (blk_cell BK355.out 0).trans rfl
                    have hcz102_1 : wc.cell? ⟨gb355, 1, none⟩ = some (.slice Ao41 t351.length co41) := (blk_cell BK355.out 1).trans rfl
                    have hfz102_0 := blk_frozen BK355.out 0
                    have hfz102_1 := blk_frozen BK355.out 1
                    go_wp2_with (first | ((with_reducible refine gate_callee (f := 20) rfl ?_); refine goesL_ (some 68) rfl rfl Try.func20 (by kernel_rfl) rfl #[.agg #[.slice Ao36 t348.length co36, .slice Ao41 t351.length co41], .int .i64 1] rfl (by (try simp only [List.map_toArray, List.map_cons, List.map_nil]); first | done | rfl | (simp only [List.length_drop, List.length_take]; rfl)) ?_; (with_reducible refine (laws_markPages.calls kj64 (fun k_ => some k_ = (.slice Ao36 t348.length co36 : Value).ownBlock) (.slice Ao36 t348.length co36) t348 (fun k_ => some k_ = (.slice Ao41 t351.length co41 : Value).ownBlock) (.slice Ao41 t351.length co41) t351 1 t368 t369 t370 w _ ?side1 ?side2 ?side3 A96.out).mono ?_); (case side1 => repeat (first | (with_reducible first | exact HB.out | apply below_alloc | apply pw_below_drewN | apply below_drew1 | refine below_set ?_ GE325.out | refine below_set ?_ GE340.out | refine below_set ?_ GE347.out | refine below_set ?_ GE355.out) | exact HB.out)); (case side2 => exact Kd.R_tight rfl HO_356000.out); (case side3 => exact Kd.R_tight rfl HO_356001.out); rintro e w103 ⟨rfl, hy0, hy1, hb, hkp⟩; refine ⟨_, rfl, ?_⟩; have n0_ := Aside0.mk (Kd.R_mono (ok' := fun k_ => some k_ ≠ (.slice Ao29 t365.length co29 : Value).ownBlock ∧ some k_ ≠ (.slice Ao36 t348.length co36 : Value).ownBlock) (Kd.R_keptB ((Kd.R_apart' HO_341000.out (Kd.R_typed HO_356001.out) (by decide))) hkp (fun k_ hk_ hs_ => Or.elim hs_ (fun e_ => (hk_.1.2) e_) (fun e_ => (hk_.2) e_))) (fun k_ hk_ => ⟨hk_.1.1.1, hk_.1.1.2⟩)); have n1_ := Aside0.mk (Kd.R_mono (ok' := fun k_ => some k_ ≠ (.slice Ao33 t366.length co33 : Value).ownBlock ∧ some k_ ≠ (.slice Ao41 t351.length co41 : Value).ownBlock) (Kd.R_keptB ((Kd.R_apart' HO_341001.out (Kd.R_typed HO_356000.out) (by decide))) hkp (fun k_ hk_ hs_ => Or.elim hs_ (fun e_ => (hk_.2) e_) (fun e_ => (hk_.1.2) e_))) (fun k_ hk_ => ⟨hk_.1.1.1, hk_.1.1.2⟩)); have n2_ := Aside0.mk (Kd.R_mono (ok' := fun k_ => some k_ ≠ (.slice Ao22 t333.length co22 : Value).ownBlock ∧ some k_ ≠ (.slice Ao36 t348.length co36 : Value).ownBlock) (Kd.R_keptB ((Kd.R_apart' HO_348000.out (Kd.R_typed HO_356001.out) (by decide))) hkp (fun k_ hk_ hs_ => Or.elim hs_ (fun e_ => (hk_.1.2) e_) (fun e_ => (hk_.2) e_))) (fun k_ hk_ => ⟨hk_.1.1.1, hk_.1.1.2⟩)); have n3_ := Aside0.mk (Kd.R_mono (ok' := fun k_ => some k_ ≠ (.slice Ao25 t336.length co25 : Value).ownBlock ∧ some k_ ≠ (.slice Ao41 t351.length co41 : Value).ownBlock) (Kd.R_keptB ((Kd.R_apart' HO_348001.out (Kd.R_typed HO_356000.out) (by decide))) hkp (fun k_ hk_ hs_ => Or.elim hs_ (fun e_ => (hk_.2) e_) (fun e_ => (hk_.1.2) e_))) (fun k_ hk_ => ⟨hk_.1.1.1, hk_.1.1.2⟩)); have n4_ := Aside0.mk (Kd.R_reok rfl hy0 (fun k_ e_ => HO_356000.out.1 k_ e_)); have n5_ := Aside0.mk (Kd.R_reok rfl hy1 (fun k_ e_ => HO_356001.out.1 k_ e_)); have n6_ := Aside0.mk (blk_kept (by (with_reducible repeat (first | refine blk_drewN ?_ _ | refine blk_drew ?_ | refine blk_alloc ?_ _)); exact BK325.out) hkp (fun hs_ => Or.elim hs_ (fun e_ => (fun e_ => (Kd.R_ne HO_356000.out BK325.out (by decide)) e_) e_) (fun e_ => (fun e_ => (Kd.R_ne HO_356001.out BK325.out (by decide)) e_) e_))); have n7_ := Aside0.mk (blk_kept (by (with_reducible repeat (first | refine blk_drewN ?_ _ | refine blk_drew ?_ | refine blk_alloc ?_ _)); exact BK340.out) hkp (fun hs_ => Or.elim hs_ (fun e_ => (fun e_ => (Kd.R_ne HO_356000.out BK340.out (by decide)) e_) e_) (fun e_ => (fun e_ => (Kd.R_ne HO_356001.out BK340.out (by decide)) e_) e_))); have n8_ := Aside0.mk (blk_kept (by (with_reducible repeat (first | refine blk_drewN ?_ _ | refine blk_drew ?_ | refine blk_alloc ?_ _)); exact BK347.out) hkp (fun hs_ => Or.elim hs_ (fun e_ => (fun e_ => (Kd.R_ne HO_356000.out BK347.out (by decide)) e_) e_) (fun e_ => (fun e_ => (Kd.R_ne HO_356001.out BK347.out (by decide)) e_) e_))); have n9_ := Aside0.mk (blk_kept (by (with_reducible repeat (first | refine blk_drewN ?_ _ | refine blk_drew ?_ | refine blk_alloc ?_ _)); exact BK355.out) hkp (fun hs_ => Or.elim hs_ (fun e_ => (fun e_ => (Kd.R_ne HO_356000.out BK355.out (by decide)) e_) e_) (fun e_ => (fun e_ => (Kd.R_ne HO_356001.out BK355.out (by decide)) e_) e_))); have n10_ := Aside0.mk (hb); clear HO_341000; clear HO_341001; clear HO_348000; clear HO_348001; clear HO_356000; clear HO_356001; clear BK325; clear BK340; clear BK347; clear BK355; clear HB; have HO_341000 := n0_; have HO_341001 := n1_; have HO_348000 := n2_; have HO_348001 := n3_; have HO_356000 := n4_; have HO_356001 := n5_; have BK325 := n6_; have BK340 := n7_; have BK347 := n8_; have BK355 := n9_; have HB := n10_; clear n0_ n1_ n2_ n3_ n4_ n5_ n6_ n7_ n8_ n9_ n10_; (try clear hb); (try clear hkp); (try clear hy0); (try clear hy1); have hcz104_0 : w103.cell? ⟨gb355, 0, none⟩ = some (.slice Ao36 t348.length co36) := (blk_cell BK355.out 0).trans rfl; have hcz104_1 : w103.cell? ⟨gb355, 1, none⟩ = some (.slice Ao41 t351.length co41) := (blk_cell BK355.out 1).trans rfl; have hfz104_0 := blk_frozen BK355.out 0; have hfz104_1 := blk_frozen BK355.out 1) | ((with_reducible refine gate_callee (f := 21) rfl ?_); refine goesL_ (some 71) rfl rfl Try.func21 (by kernel_rfl) rfl #[.agg #[.slice Ao36 t369.length co36, .slice Ao41 t370.length co41], .int .i64 1] rfl (by (try simp only [List.map_toArray, List.map_cons, List.map_nil]); first | done | (rw [show t369.length = t348.length from (Kd.R_reads' HO_356000.out).1.symm, show t370.length = t351.length from (Kd.R_reads' HO_356001.out).1.symm] <;> rfl) | rfl | (simp only [List.length_drop, List.length_take]; rfl)) ?_; (with_reducible refine (laws_heldPages.calls kj64 _ _ t369 _ _ t370 1 t371 _ ?side1 ?side2 ?side3 ?side4 A97.out).mono ?_); (case side1 => repeat (first | exact (Kd.R_reads' HO_356000.out).2.2 | (with_reducible refine Kd.C_alloc ?_ _) | (with_reducible refine Kd.C_drewN ?_ _) | (with_reducible refine Kd.C_drew ?_))); (case side2 => rw [show t369.length = t348.length from (Kd.R_reads' HO_356000.out).1.symm]; exact (Kd.R_reads' HO_356000.out).2.1); (case side3 => repeat (first | exact (Kd.R_reads' HO_356001.out).2.2 | (with_reducible refine Kd.C_alloc ?_ _) | (with_reducible refine Kd.C_drewN ?_ _) | (with_reducible refine Kd.C_drew ?_))); (case side4 => rw [show t370.length = t351.length from (Kd.R_reads' HO_356001.out).1.symm]; exact (Kd.R_reads' HO_356001.out).2.1); rintro e w105 ⟨rfl, hb⟩; refine ⟨_, rfl, ?_⟩; have n0_ := Aside0.mk (Kd.R_below (by (with_reducible repeat (first | apply Kd.R_alloc | apply Kd.R_drewN | apply Kd.R_drew)); exact HO_341000.out) hb); have n1_ := Aside0.mk (Kd.R_below (by (with_reducible repeat (first | apply Kd.R_alloc | apply Kd.R_drewN | apply Kd.R_drew)); exact HO_341001.out) hb); have n2_ := Aside0.mk (Kd.R_below (by (with_reducible repeat (first | apply Kd.R_alloc | apply Kd.R_drewN | apply Kd.R_drew)); exact HO_348000.out) hb); have n3_ := Aside0.mk (Kd.R_below (by (with_reducible repeat (first | apply Kd.R_alloc | apply Kd.R_drewN | apply Kd.R_drew)); exact HO_348001.out) hb); have n4_ := Aside0.mk (Kd.R_below (by (with_reducible repeat (first | apply Kd.R_alloc | apply Kd.R_drewN | apply Kd.R_drew)); exact HO_356000.out) hb); have n5_ := Aside0.mk (Kd.R_below (by (with_reducible repeat (first | apply Kd.R_alloc | apply Kd.R_drewN | apply Kd.R_drew)); exact HO_356001.out) hb); have n6_ := Aside0.mk (blk_below (g := gb325) (o := .cells #[.slice A0_0 l0_0.length c0_0, .slice A0_1 l0_1.length c0_1] 38 (0, 0)) (by (with_reducible repeat (first | refine blk_drewN ?_ _ | refine blk_drew ?_ | refine blk_alloc ?_ _)); exact BK325.out) hb); have n7_ := Aside0.mk (blk_below (g := gb340) (o := .cells #[.slice Ao22 t333.length co22, .slice Ao25 t336.length co25] 40 (0, 0)) (by (with_reducible repeat (first | refine blk_drewN ?_ _ | refine blk_drew ?_ | refine blk_alloc ?_ _)); exact BK340.out) hb); have n8_ := Aside0.mk (blk_below (g := gb347) (o := .cells #[.slice Ao29 t365.length co29, .slice Ao33 t366.length co33] 40 (0, 0)) (by (with_reducible repeat (first | refine blk_drewN ?_ _ | refine blk_drew ?_ | refine blk_alloc ?_ _)); exact BK347.out) hb); have n9_ := Aside0.mk (blk_below (g := gb355) (o := .cells #[.slice Ao36 t348.length co36, .slice Ao41 t351.length co41] 40 (0, 0)) (by (with_reducible repeat (first | refine blk_drewN ?_ _ | refine blk_drew ?_ | refine blk_alloc ?_ _)); exact BK355.out) hb); have n10_ := Aside0.mk (below_step (by repeat (first | (with_reducible first | exact HB.out | apply below_alloc | apply pw_below_drewN | apply below_drew1 | refine below_set ?_ GE325.out | refine below_set ?_ GE340.out | refine below_set ?_ GE347.out | refine below_set ?_ GE355.out) | exact HB.out)) hb); clear HO_341000; clear HO_341001; clear HO_348000; clear HO_348001; clear HO_356000; clear HO_356001; clear BK325; clear BK340; clear BK347; clear BK355; clear HB; have HO_341000 := n0_; have HO_341001 := n1_; have HO_348000 := n2_; have HO_348001 := n3_; have HO_356000 := n4_; have HO_356001 := n5_; have BK325 := n6_; have BK340 := n7_; have BK347 := n8_; have BK355 := n9_; have HB := n10_; clear n0_ n1_ n2_ n3_ n4_ n5_ n6_ n7_ n8_ n9_ n10_; (try clear hb); (try clear hb2); (try clear hk); (try clear hi)))
                    go_ret
                    exact ⟨by first | rfl | (simp [errW_none, errW_some] <;> rfl) | (simp [*, errW_none, errW_some] <;> rfl), by repeat (first | (with_reducible first | exact HB.out | apply below_alloc | apply pw_below_drewN | apply below_drew1 | refine below_set ?_ GE325.out | refine below_set ?_ GE340.out | refine below_set ?_ GE347.out | refine below_set ?_ GE355.out) | exact HB.out)⟩
                  · rw [if_neg c98] at H
                    have c98b0 : decide (t371 < 0) = false := decide_eq_false c98
                    clear c98
                    by_cases c106 : t371 = t368
                    · rw [if_pos c106] at H
                      have c106b0 : (t371 == t368) = true := beq_iff_eq.mpr c106
                      have c106b1 : (t371 != t368) = false := bne_eq_false_iff_eq.mpr c106
                      clear c106
                      replace H := Option.bind_eq_some_iff.mp H
                      obtain ⟨⟨t372, t375⟩, A1070, H⟩ := H
                      replace H : ((impl_PagesGive.f kj64 t372 t375 a1).bind fun bt378 => ((laws_eqPages.f kj64 bt378.1 bt378.2.1 t333 t336).bind fun t386 => (if t386 = true then (laws_FnExactPagesGive.j2 kj64 t368 (bt378.2.2 != t339) t369 t370) else (laws_FnExactPagesGive.j2 kj64 t368 true t369 t370)))) = some r := H
                      have A107 := Aside0.mk A1070
                      clear A1070
                      replace H := Option.bind_eq_some_iff.mp H
                      obtain ⟨⟨t378, t381, t384⟩, A1080, H⟩ := H
                      replace H : ((laws_eqPages.f kj64 t378 t381 t333 t336).bind fun t386 => (if t386 = true then (laws_FnExactPagesGive.j2 kj64 t368 (t384 != t339) t369 t370) else (laws_FnExactPagesGive.j2 kj64 t368 true t369 t370))) = some r := H
                      have A108 := Aside0.mk A1080
                      clear A1080
                      have HC109 := Aside0.mk H
                      clear H
                      have hnb110 := NB355_325.out
                      have hnc110 := NB325_355.out
                      have hnb111 := NB355_340.out
                      have hnc111 := NB340_355.out
                      have hnb112 := NB355_347.out
                      have hnc112 := NB347_355.out
                      have hcz113_0 : wc.cell? ⟨gb355, 0, none⟩ = some (.slice Ao36 t348.length co36) := (blk_cell BK355.out 0).trans rfl
                      have hcz113_1 : wc.cell? ⟨gb355, 1, none⟩ = some (.slice Ao41 t351.length co41) := (blk_cell BK355.out 1).trans rfl
                      have hfz113_0 := blk_frozen BK355.out 0
                      have hfz113_1 := blk_frozen BK355.out 1
                      go_upto_region 25 with (first | ((with_reducible refine gate_callee (f := 20) rfl ?_); refine goesL_ (some 68) rfl rfl Try.func20 (by kernel_rfl) rfl #[.agg #[.slice Ao36 t348.length co36, .slice Ao41 t351.length co41], .int .i64 1] rfl (by (try simp only [List.map_toArray, List.map_cons, List.map_nil]); first | done | rfl | (simp only [List.length_drop, List.length_take]; rfl)) ?_; (with_reducible refine (laws_markPages.calls kj64 (fun k_ => some k_ = (.slice Ao36 t348.length co36 : Value).ownBlock) (.slice Ao36 t348.length co36) t348 (fun k_ => some k_ = (.slice Ao41 t351.length co41 : Value).ownBlock) (.slice Ao41 t351.length co41) t351 1 t368 t369 t370 w _ ?side1 ?side2 ?side3 A96.out).mono ?_); (case side1 => repeat (first | (with_reducible first | exact HB.out | apply below_alloc | apply pw_below_drewN | apply below_drew1 | refine below_set ?_ GE325.out | refine below_set ?_ GE340.out | refine below_set ?_ GE347.out | refine below_set ?_ GE355.out) | exact HB.out)); (case side2 => exact Kd.R_tight rfl HO_356000.out); (case side3 => exact Kd.R_tight rfl HO_356001.out); rintro e w114 ⟨rfl, hy0, hy1, hb, hkp⟩; refine ⟨_, rfl, ?_⟩; have n0_ := Aside0.mk (Kd.R_mono (ok' := fun k_ => some k_ ≠ (.slice Ao29 t365.length co29 : Value).ownBlock ∧ some k_ ≠ (.slice Ao36 t348.length co36 : Value).ownBlock) (Kd.R_keptB ((Kd.R_apart' HO_341000.out (Kd.R_typed HO_356001.out) (by decide))) hkp (fun k_ hk_ hs_ => Or.elim hs_ (fun e_ => (hk_.1.2) e_) (fun e_ => (hk_.2) e_))) (fun k_ hk_ => ⟨hk_.1.1.1, hk_.1.1.2⟩)); have n1_ := Aside0.mk (Kd.R_mono (ok' := fun k_ => some k_ ≠ (.slice Ao33 t366.length co33 : Value).ownBlock ∧ some k_ ≠ (.slice Ao41 t351.length co41 : Value).ownBlock) (Kd.R_keptB ((Kd.R_apart' HO_341001.out (Kd.R_typed HO_356000.out) (by decide))) hkp (fun k_ hk_ hs_ => Or.elim hs_ (fun e_ => (hk_.2) e_) (fun e_ => (hk_.1.2) e_))) (fun k_ hk_ => ⟨hk_.1.1.1, hk_.1.1.2⟩)); have n2_ := Aside0.mk (Kd.R_mono (ok' := fun k_ => some k_ ≠ (.slice Ao22 t333.length co22 : Value).ownBlock ∧ some k_ ≠ (.slice Ao36 t348.length co36 : Value).ownBlock) (Kd.R_keptB ((Kd.R_apart' HO_348000.out (Kd.R_typed HO_356001.out) (by decide))) hkp (fun k_ hk_ hs_ => Or.elim hs_ (fun e_ => (hk_.1.2) e_) (fun e_ => (hk_.2) e_))) (fun k_ hk_ => ⟨hk_.1.1.1, hk_.1.1.2⟩)); have n3_ := Aside0.mk (Kd.R_mono (ok' := fun k_ => some k_ ≠ (.slice Ao25 t336.length co25 : Value).ownBlock ∧ some k_ ≠ (.slice Ao41 t351.length co41 : Value).ownBlock) (Kd.R_keptB ((Kd.R_apart' HO_348001.out (Kd.R_typed HO_356000.out) (by decide))) hkp (fun k_ hk_ hs_ => Or.elim hs_ (fun e_ => (hk_.2) e_) (fun e_ => (hk_.1.2) e_))) (fun k_ hk_ => ⟨hk_.1.1.1, hk_.1.1.2⟩)); have n4_ := Aside0.mk (Kd.R_reok rfl hy0 (fun k_ e_ => HO_356000.out.1 k_ e_)); have n5_ := Aside0.mk (Kd.R_reok rfl hy1 (fun k_ e_ => HO_356001.out.1 k_ e_)); have n6_ := Aside0.mk (blk_kept (by (with_reducible repeat (first | refine blk_drewN ?_ _ | refine blk_drew ?_ | refine blk_alloc ?_ _)); exact BK325.out) hkp (fun hs_ => Or.elim hs_ (fun e_ => (fun e_ => (Kd.R_ne HO_356000.out BK325.out (by decide)) e_) e_) (fun e_ => (fun e_ => (Kd.R_ne HO_356001.out BK325.out (by decide)) e_) e_))); have n7_ := Aside0.mk (blk_kept (by (with_reducible repeat (first | refine blk_drewN ?_ _ | refine blk_drew ?_ | refine blk_alloc ?_ _)); exact BK340.out) hkp (fun hs_ => Or.elim hs_ (fun e_ => (fun e_ => (Kd.R_ne HO_356000.out BK340.out (by decide)) e_) e_) (fun e_ => (fun e_ => (Kd.R_ne HO_356001.out BK340.out (by decide)) e_) e_))); have n8_ := Aside0.mk (blk_kept (by (with_reducible repeat (first | refine blk_drewN ?_ _ | refine blk_drew ?_ | refine blk_alloc ?_ _)); exact BK347.out) hkp (fun hs_ => Or.elim hs_ (fun e_ => (fun e_ => (Kd.R_ne HO_356000.out BK347.out (by decide)) e_) e_) (fun e_ => (fun e_ => (Kd.R_ne HO_356001.out BK347.out (by decide)) e_) e_))); have n9_ := Aside0.mk (blk_kept (by (with_reducible repeat (first | refine blk_drewN ?_ _ | refine blk_drew ?_ | refine blk_alloc ?_ _)); exact BK355.out) hkp (fun hs_ => Or.elim hs_ (fun e_ => (fun e_ => (Kd.R_ne HO_356000.out BK355.out (by decide)) e_) e_) (fun e_ => (fun e_ => (Kd.R_ne HO_356001.out BK355.out (by decide)) e_) e_))); have n10_ := Aside0.mk (hb); clear HO_341000; clear HO_341001; clear HO_348000; clear HO_348001; clear HO_356000; clear HO_356001; clear BK325; clear BK340; clear BK347; clear BK355; clear HB; have HO_341000 := n0_; have HO_341001 := n1_; have HO_348000 := n2_; have HO_348001 := n3_; have HO_356000 := n4_; have HO_356001 := n5_; have BK325 := n6_; have BK340 := n7_; have BK347 := n8_; have BK355 := n9_; have HB := n10_; clear n0_ n1_ n2_ n3_ n4_ n5_ n6_ n7_ n8_ n9_ n10_; (try clear hb); (try clear hkp); (try clear hy0); (try clear hy1); have hcz115_0 : w114.cell? ⟨gb355, 0, none⟩ = some (.slice Ao36 t348.length co36) := (blk_cell BK355.out 0).trans rfl; have hcz115_1 : w114.cell? ⟨gb355, 1, none⟩ = some (.slice Ao41 t351.length co41) := (blk_cell BK355.out 1).trans rfl; have hfz115_0 := blk_frozen BK355.out 0; have hfz115_1 := blk_frozen BK355.out 1) | ((with_reducible refine gate_callee (f := 21) rfl ?_); refine goesL_ (some 71) rfl rfl Try.func21 (by kernel_rfl) rfl #[.agg #[.slice Ao36 t369.length co36, .slice Ao41 t370.length co41], .int .i64 1] rfl (by (try simp only [List.map_toArray, List.map_cons, List.map_nil]); first | done | (rw [show t369.length = t348.length from (Kd.R_reads' HO_356000.out).1.symm, show t370.length = t351.length from (Kd.R_reads' HO_356001.out).1.symm] <;> rfl) | rfl | (simp only [List.length_drop, List.length_take]; rfl)) ?_; (with_reducible refine (laws_heldPages.calls kj64 _ _ t369 _ _ t370 1 t371 _ ?side1 ?side2 ?side3 ?side4 A97.out).mono ?_); (case side1 => repeat (first | exact (Kd.R_reads' HO_356000.out).2.2 | (with_reducible refine Kd.C_alloc ?_ _) | (with_reducible refine Kd.C_drewN ?_ _) | (with_reducible refine Kd.C_drew ?_))); (case side2 => rw [show t369.length = t348.length from (Kd.R_reads' HO_356000.out).1.symm]; exact (Kd.R_reads' HO_356000.out).2.1); (case side3 => repeat (first | exact (Kd.R_reads' HO_356001.out).2.2 | (with_reducible refine Kd.C_alloc ?_ _) | (with_reducible refine Kd.C_drewN ?_ _) | (with_reducible refine Kd.C_drew ?_))); (case side4 => rw [show t370.length = t351.length from (Kd.R_reads' HO_356001.out).1.symm]; exact (Kd.R_reads' HO_356001.out).2.1); rintro e w116 ⟨rfl, hb⟩; refine ⟨_, rfl, ?_⟩; have n0_ := Aside0.mk (Kd.R_below (by (with_reducible repeat (first | apply Kd.R_alloc | apply Kd.R_drewN | apply Kd.R_drew)); exact HO_341000.out) hb); have n1_ := Aside0.mk (Kd.R_below (by (with_reducible repeat (first | apply Kd.R_alloc | apply Kd.R_drewN | apply Kd.R_drew)); exact HO_341001.out) hb); have n2_ := Aside0.mk (Kd.R_below (by (with_reducible repeat (first | apply Kd.R_alloc | apply Kd.R_drewN | apply Kd.R_drew)); exact HO_348000.out) hb); have n3_ := Aside0.mk (Kd.R_below (by (with_reducible repeat (first | apply Kd.R_alloc | apply Kd.R_drewN | apply Kd.R_drew)); exact HO_348001.out) hb); have n4_ := Aside0.mk (Kd.R_below (by (with_reducible repeat (first | apply Kd.R_alloc | apply Kd.R_drewN | apply Kd.R_drew)); exact HO_356000.out) hb); have n5_ := Aside0.mk (Kd.R_below (by (with_reducible repeat (first | apply Kd.R_alloc | apply Kd.R_drewN | apply Kd.R_drew)); exact HO_356001.out) hb); have n6_ := Aside0.mk (blk_below (g := gb325) (o := .cells #[.slice A0_0 l0_0.length c0_0, .slice A0_1 l0_1.length c0_1] 38 (0, 0)) (by (with_reducible repeat (first | refine blk_drewN ?_ _ | refine blk_drew ?_ | refine blk_alloc ?_ _)); exact BK325.out) hb); have n7_ := Aside0.mk (blk_below (g := gb340) (o := .cells #[.slice Ao22 t333.length co22, .slice Ao25 t336.length co25] 40 (0, 0)) (by (with_reducible repeat (first | refine blk_drewN ?_ _ | refine blk_drew ?_ | refine blk_alloc ?_ _)); exact BK340.out) hb); have n8_ := Aside0.mk (blk_below (g := gb347) (o := .cells #[.slice Ao29 t365.length co29, .slice Ao33 t366.length co33] 40 (0, 0)) (by (with_reducible repeat (first | refine blk_drewN ?_ _ | refine blk_drew ?_ | refine blk_alloc ?_ _)); exact BK347.out) hb); have n9_ := Aside0.mk (blk_below (g := gb355) (o := .cells #[.slice Ao36 t348.length co36, .slice Ao41 t351.length co41] 40 (0, 0)) (by (with_reducible repeat (first | refine blk_drewN ?_ _ | refine blk_drew ?_ | refine blk_alloc ?_ _)); exact BK355.out) hb); have n10_ := Aside0.mk (below_step (by repeat (first | (with_reducible first | exact HB.out | apply below_alloc | apply pw_below_drewN | apply below_drew1 | refine below_set ?_ GE325.out | refine below_set ?_ GE340.out | refine below_set ?_ GE347.out | refine below_set ?_ GE355.out) | exact HB.out)) hb); clear HO_341000; clear HO_341001; clear HO_348000; clear HO_348001; clear HO_356000; clear HO_356001; clear BK325; clear BK340; clear BK347; clear BK355; clear HB; have HO_341000 := n0_; have HO_341001 := n1_; have HO_348000 := n2_; have HO_348001 := n3_; have HO_356000 := n4_; have HO_356001 := n5_; have BK325 := n6_; have BK340 := n7_; have BK347 := n8_; have BK355 := n9_; have HB := n10_; clear n0_ n1_ n2_ n3_ n4_ n5_ n6_ n7_ n8_ n9_ n10_; (try clear hb); (try clear hb2); (try clear hk); (try clear hi); have hnb117 := NB325_340.out; have hnc117 := NB340_325.out; have hnb118 := NB325_347.out; have hnc118 := NB347_325.out; have hcz119_0 : w116.cell? ⟨gb325, 0, none⟩ = some (.slice A0_0 l0_0.length c0_0) := (blk_cell BK325.out 0).trans rfl; have hcz119_1 : w116.cell? ⟨gb325, 1, none⟩ = some (.slice A0_1 l0_1.length c0_1) := (blk_cell BK325.out 1).trans rfl; have hfz119_0 := blk_frozen BK325.out 0; have hfz119_1 := blk_frozen BK325.out 1) | ((with_reducible refine gate_callee (f := 17) rfl ?_); refine goesL_ (some 79) rfl rfl Try.func17 (by kernel_rfl) rfl #[.agg #[.slice A0_0 l0_0.length c0_0, .slice A0_1 l0_1.length c0_1]] rfl (by (try simp only [List.map_toArray, List.map_cons, List.map_nil]); first | done | rfl | (simp only [List.length_drop, List.length_take]; rfl)) ?_; (with_reducible refine (laws_toPages.calls kj64 _ _ l0_0 _ _ l0_1 t372 t375 _ ?side1 ?side2 ?side3 ?side4 A107.out).mono ?_); (case side1 => repeat (first | exact (Kd.C_below HR0_0.out HB.out) | (with_reducible refine Kd.C_alloc ?_ _) | (with_reducible refine Kd.C_drewN ?_ _) | (with_reducible refine Kd.C_drew ?_))); (case side2 => exact HC0_0.out); (case side3 => repeat (first | exact (Kd.C_below HR0_1.out HB.out) | (with_reducible refine Kd.C_alloc ?_ _) | (with_reducible refine Kd.C_drewN ?_ _) | (with_reducible refine Kd.C_drew ?_))); (case side4 => exact HC0_1.out); rintro e w120 ⟨v373, v376, rfl, ho0, ho1, hb⟩; refine ⟨_, rfl, ?_⟩; have n0_ := Aside0.mk (Kd.R_elder' (by (with_reducible repeat (first | apply Kd.R_alloc | apply Kd.R_drewN | apply Kd.R_drew)); exact HO_341000.out) (Kd.R_base ho0) hb); have n1_ := Aside0.mk (Kd.R_elder' (by (with_reducible repeat (first | apply Kd.R_alloc | apply Kd.R_drewN | apply Kd.R_drew)); exact HO_341001.out) (Kd.R_base ho1) hb); have n2_ := Aside0.mk (Kd.R_elder' (by (with_reducible repeat (first | apply Kd.R_alloc | apply Kd.R_drewN | apply Kd.R_drew)); exact HO_348000.out) (Kd.R_base ho0) hb); have n3_ := Aside0.mk (Kd.R_elder' (by (with_reducible repeat (first | apply Kd.R_alloc | apply Kd.R_drewN | apply Kd.R_drew)); exact HO_348001.out) (Kd.R_base ho1) hb); have n4_ := Aside0.mk (Kd.R_elder' (by (with_reducible repeat (first | apply Kd.R_alloc | apply Kd.R_drewN | apply Kd.R_drew)); exact HO_356000.out) (Kd.R_base ho0) hb); have n5_ := Aside0.mk (Kd.R_elder' (by (with_reducible repeat (first | apply Kd.R_alloc | apply Kd.R_drewN | apply Kd.R_drew)); exact HO_356001.out) (Kd.R_base ho1) hb); have n6_ := Aside0.mk (Kd.R_lower (Kd.R_new' (Kd.R_new' (Kd.R_new' ho0 (Kd.R_lt (by (with_reducible repeat (first | apply Kd.R_alloc | apply Kd.R_drewN | apply Kd.R_drew)); exact HO_341000.out))) (Kd.R_lt (by (with_reducible repeat (first | apply Kd.R_alloc | apply Kd.R_drewN | apply Kd.R_drew)); exact HO_348000.out))) (Kd.R_lt (by (with_reducible repeat (first | apply Kd.R_alloc | apply Kd.R_drewN | apply Kd.R_drew)); exact HO_356000.out))) (below_size (by repeat (first | (with_reducible first | exact HB.out | apply below_alloc | apply pw_below_drewN | apply below_drew1 | refine below_set ?_ GE325.out | refine below_set ?_ GE340.out | refine below_set ?_ GE347.out | refine below_set ?_ GE355.out) | exact HB.out)))); have n7_ := Aside0.mk (Kd.R_lower (Kd.R_new' (Kd.R_new' (Kd.R_new' ho1 (Kd.R_lt (by (with_reducible repeat (first | apply Kd.R_alloc | apply Kd.R_drewN | apply Kd.R_drew)); exact HO_341001.out))) (Kd.R_lt (by (with_reducible repeat (first | apply Kd.R_alloc | apply Kd.R_drewN | apply Kd.R_drew)); exact HO_348001.out))) (Kd.R_lt (by (with_reducible repeat (first | apply Kd.R_alloc | apply Kd.R_drewN | apply Kd.R_drew)); exact HO_356001.out))) (below_size (by repeat (first | (with_reducible first | exact HB.out | apply below_alloc | apply pw_below_drewN | apply below_drew1 | refine below_set ?_ GE325.out | refine below_set ?_ GE340.out | refine below_set ?_ GE347.out | refine below_set ?_ GE355.out) | exact HB.out)))); have n8_ := Aside0.mk (blk_below (g := gb325) (o := .cells #[.slice A0_0 l0_0.length c0_0, .slice A0_1 l0_1.length c0_1] 38 (0, 0)) (by (with_reducible repeat (first | refine blk_drewN ?_ _ | refine blk_drew ?_ | refine blk_alloc ?_ _)); exact BK325.out) hb); have n9_ := Aside0.mk (blk_below (g := gb340) (o := .cells #[.slice Ao22 t333.length co22, .slice Ao25 t336.length co25] 40 (0, 0)) (by (with_reducible repeat (first | refine blk_drewN ?_ _ | refine blk_drew ?_ | refine blk_alloc ?_ _)); exact BK340.out) hb); have n10_ := Aside0.mk (blk_below (g := gb347) (o := .cells #[.slice Ao29 t365.length co29, .slice Ao33 t366.length co33] 40 (0, 0)) (by (with_reducible repeat (first | refine blk_drewN ?_ _ | refine blk_drew ?_ | refine blk_alloc ?_ _)); exact BK347.out) hb); have n11_ := Aside0.mk (blk_below (g := gb355) (o := .cells #[.slice Ao36 t348.length co36, .slice Ao41 t351.length co41] 40 (0, 0)) (by (with_reducible repeat (first | refine blk_drewN ?_ _ | refine blk_drew ?_ | refine blk_alloc ?_ _)); exact BK355.out) hb); have n12_ := Aside0.mk (below_step (by repeat (first | (with_reducible first | exact HB.out | apply below_alloc | apply pw_below_drewN | apply below_drew1 | refine below_set ?_ GE325.out | refine below_set ?_ GE340.out | refine below_set ?_ GE347.out | refine below_set ?_ GE355.out) | exact HB.out)) hb); clear HO_341000; clear HO_341001; clear HO_348000; clear HO_348001; clear HO_356000; clear HO_356001; clear BK325; clear BK340; clear BK347; clear BK355; clear HB; have HO_341000 := n0_; have HO_341001 := n1_; have HO_348000 := n2_; have HO_348001 := n3_; have HO_356000 := n4_; have HO_356001 := n5_; have HO374 := n6_; have HO377 := n7_; have BK325 := n8_; have BK340 := n9_; have BK347 := n10_; have BK355 := n11_; have HB := n12_; clear n0_ n1_ n2_ n3_ n4_ n5_ n6_ n7_ n8_ n9_ n10_ n11_ n12_; (try clear hb); (try clear hb2); (try clear hk); (try clear hi); (try clear ho0); (try clear ho1); obtain ⟨Ao121, co121, eo121⟩ := Kd.R_slice HO374.out; subst eo121; obtain ⟨Ao122, co122, eo122⟩ := Kd.R_slice HO377.out; subst eo122) | ((with_reducible refine gate_callee (f := 18) rfl ?_); refine goesL_ (some 81) rfl rfl Try.func18 (by kernel_rfl) rfl #[.agg #[.slice Ao121 t372.length co121, .slice Ao122 t375.length co122], .int .i64 a1] rfl (by (try simp only [List.map_toArray, List.map_cons, List.map_nil]); first | done | rfl | (simp only [List.length_drop, List.length_take]; rfl)) ?_; (with_reducible refine (impl_PagesGive.calls kj64 _ _ t372 _ _ t375 a1 t378 t381 t384 _ ?side1 ?side2 ?side3 ?side4 A108.out).mono ?_); (case side1 => repeat (first | exact (Kd.R_reads' HO374.out).2.2 | (with_reducible refine Kd.C_alloc ?_ _) | (with_reducible refine Kd.C_drewN ?_ _) | (with_reducible refine Kd.C_drew ?_))); (case side2 => exact (Kd.R_reads' HO374.out).2.1); (case side3 => repeat (first | exact (Kd.R_reads' HO377.out).2.2 | (with_reducible refine Kd.C_alloc ?_ _) | (with_reducible refine Kd.C_drewN ?_ _) | (with_reducible refine Kd.C_drew ?_))); (case side4 => exact (Kd.R_reads' HO377.out).2.1); rintro e w123 ⟨v379, v382, rfl, ho0, ho1, hb⟩; refine ⟨_, rfl, ?_⟩; have n0_ := Aside0.mk (Kd.R_elder' (by (with_reducible repeat (first | apply Kd.R_alloc | apply Kd.R_drewN | apply Kd.R_drew)); exact HO_341000.out) (Kd.R_base ho0) hb); have n1_ := Aside0.mk (Kd.R_elder' (by (with_reducible repeat (first | apply Kd.R_alloc | apply Kd.R_drewN | apply Kd.R_drew)); exact HO_341001.out) (Kd.R_base ho1) hb); have n2_ := Aside0.mk (Kd.R_elder' (by (with_reducible repeat (first | apply Kd.R_alloc | apply Kd.R_drewN | apply Kd.R_drew)); exact HO_348000.out) (Kd.R_base ho0) hb); have n3_ := Aside0.mk (Kd.R_elder' (by (with_reducible repeat (first | apply Kd.R_alloc | apply Kd.R_drewN | apply Kd.R_drew)); exact HO_348001.out) (Kd.R_base ho1) hb); have n4_ := Aside0.mk (Kd.R_elder' (by (with_reducible repeat (first | apply Kd.R_alloc | apply Kd.R_drewN | apply Kd.R_drew)); exact HO_356000.out) (Kd.R_base ho0) hb); have n5_ := Aside0.mk (Kd.R_elder' (by (with_reducible repeat (first | apply Kd.R_alloc | apply Kd.R_drewN | apply Kd.R_drew)); exact HO_356001.out) (Kd.R_base ho1) hb); have n6_ := Aside0.mk (Kd.R_elder' (by (with_reducible repeat (first | apply Kd.R_alloc | apply Kd.R_drewN | apply Kd.R_drew)); exact HO374.out) (Kd.R_base ho0) hb); have n7_ := Aside0.mk (Kd.R_elder' (by (with_reducible repeat (first | apply Kd.R_alloc | apply Kd.R_drewN | apply Kd.R_drew)); exact HO377.out) (Kd.R_base ho1) hb); have n8_ := Aside0.mk (Kd.R_lower (Kd.R_new' (Kd.R_new' (Kd.R_new' (Kd.R_new' ho0 (Kd.R_lt (by (with_reducible repeat (first | apply Kd.R_alloc | apply Kd.R_drewN | apply Kd.R_drew)); exact HO_341000.out))) (Kd.R_lt (by (with_reducible repeat (first | apply Kd.R_alloc | apply Kd.R_drewN | apply Kd.R_drew)); exact HO_348000.out))) (Kd.R_lt (by (with_reducible repeat (first | apply Kd.R_alloc | apply Kd.R_drewN | apply Kd.R_drew)); exact HO_356000.out))) (Kd.R_lt (by (with_reducible repeat (first | apply Kd.R_alloc | apply Kd.R_drewN | apply Kd.R_drew)); exact HO374.out))) (below_size (by repeat (first | (with_reducible first | exact HB.out | apply below_alloc | apply pw_below_drewN | apply below_drew1 | refine below_set ?_ GE325.out | refine below_set ?_ GE340.out | refine below_set ?_ GE347.out | refine below_set ?_ GE355.out) | exact HB.out)))); have n9_ := Aside0.mk (Kd.R_lower (Kd.R_new' (Kd.R_new' (Kd.R_new' (Kd.R_new' ho1 (Kd.R_lt (by (with_reducible repeat (first | apply Kd.R_alloc | apply Kd.R_drewN | apply Kd.R_drew)); exact HO_341001.out))) (Kd.R_lt (by (with_reducible repeat (first | apply Kd.R_alloc | apply Kd.R_drewN | apply Kd.R_drew)); exact HO_348001.out))) (Kd.R_lt (by (with_reducible repeat (first | apply Kd.R_alloc | apply Kd.R_drewN | apply Kd.R_drew)); exact HO_356001.out))) (Kd.R_lt (by (with_reducible repeat (first | apply Kd.R_alloc | apply Kd.R_drewN | apply Kd.R_drew)); exact HO377.out))) (below_size (by repeat (first | (with_reducible first | exact HB.out | apply below_alloc | apply pw_below_drewN | apply below_drew1 | refine below_set ?_ GE325.out | refine below_set ?_ GE340.out | refine below_set ?_ GE347.out | refine below_set ?_ GE355.out) | exact HB.out)))); have n10_ := Aside0.mk (blk_below (g := gb325) (o := .cells #[.slice A0_0 l0_0.length c0_0, .slice A0_1 l0_1.length c0_1] 38 (0, 0)) (by (with_reducible repeat (first | refine blk_drewN ?_ _ | refine blk_drew ?_ | refine blk_alloc ?_ _)); exact BK325.out) hb); have n11_ := Aside0.mk (blk_below (g := gb340) (o := .cells #[.slice Ao22 t333.length co22, .slice Ao25 t336.length co25] 40 (0, 0)) (by (with_reducible repeat (first | refine blk_drewN ?_ _ | refine blk_drew ?_ | refine blk_alloc ?_ _)); exact BK340.out) hb); have n12_ := Aside0.mk (blk_below (g := gb347) (o := .cells #[.slice Ao29 t365.length co29, .slice Ao33 t366.length co33] 40 (0, 0)) (by (with_reducible repeat (first | refine blk_drewN ?_ _ | refine blk_drew ?_ | refine blk_alloc ?_ _)); exact BK347.out) hb); have n13_ := Aside0.mk (blk_below (g := gb355) (o := .cells #[.slice Ao36 t348.length co36, .slice Ao41 t351.length co41] 40 (0, 0)) (by (with_reducible repeat (first | refine blk_drewN ?_ _ | refine blk_drew ?_ | refine blk_alloc ?_ _)); exact BK355.out) hb); have n14_ := Aside0.mk (below_step (by repeat (first | (with_reducible first | exact HB.out | apply below_alloc | apply pw_below_drewN | apply below_drew1 | refine below_set ?_ GE325.out | refine below_set ?_ GE340.out | refine below_set ?_ GE347.out | refine below_set ?_ GE355.out) | exact HB.out)) hb); clear HO_341000; clear HO_341001; clear HO_348000; clear HO_348001; clear HO_356000; clear HO_356001; clear HO374; clear HO377; clear BK325; clear BK340; clear BK347; clear BK355; clear HB; have HO_341000 := n0_; have HO_341001 := n1_; have HO_348000 := n2_; have HO_348001 := n3_; have HO_356000 := n4_; have HO_356001 := n5_; have HO374 := n6_; have HO377 := n7_; have HO380 := n8_; have HO383 := n9_; have BK325 := n10_; have BK340 := n11_; have BK347 := n12_; have BK355 := n13_; have HB := n14_; clear n0_ n1_ n2_ n3_ n4_ n5_ n6_ n7_ n8_ n9_ n10_ n11_ n12_ n13_ n14_; (try clear hb); (try clear hb2); (try clear hk); (try clear hi); (try clear ho0); (try clear ho1)) | ((with_reducible refine gate_dst (N := 14) rfl ?_); refine box_event ?hg (N := 14) ?hd (cs := #[.slice none 0 0, .slice none 0 0]) (t := 40) ?hr ?_; (case hd => rfl); (case hg => rfl); (case hr => first | (go_simp; done) | (go_simp; rfl)); intro gb385 hg w124 hbox hb; have n0_ := Aside0.mk (Kd.R_below (by (with_reducible repeat (first | apply Kd.R_alloc | apply Kd.R_drewN | apply Kd.R_drew)); exact HO_341000.out) hb); have n1_ := Aside0.mk (Kd.R_below (by (with_reducible repeat (first | apply Kd.R_alloc | apply Kd.R_drewN | apply Kd.R_drew)); exact HO_341001.out) hb); have n2_ := Aside0.mk (Kd.R_below (by (with_reducible repeat (first | apply Kd.R_alloc | apply Kd.R_drewN | apply Kd.R_drew)); exact HO_348000.out) hb); have n3_ := Aside0.mk (Kd.R_below (by (with_reducible repeat (first | apply Kd.R_alloc | apply Kd.R_drewN | apply Kd.R_drew)); exact HO_348001.out) hb); have n4_ := Aside0.mk (Kd.R_below (by (with_reducible repeat (first | apply Kd.R_alloc | apply Kd.R_drewN | apply Kd.R_drew)); exact HO_356000.out) hb); have n5_ := Aside0.mk (Kd.R_below (by (with_reducible repeat (first | apply Kd.R_alloc | apply Kd.R_drewN | apply Kd.R_drew)); exact HO_356001.out) hb); have n6_ := Aside0.mk (Kd.R_below (by (with_reducible repeat (first | apply Kd.R_alloc | apply Kd.R_drewN | apply Kd.R_drew)); exact HO374.out) hb); have n7_ := Aside0.mk (Kd.R_below (by (with_reducible repeat (first | apply Kd.R_alloc | apply Kd.R_drewN | apply Kd.R_drew)); exact HO377.out) hb); have n8_ := Aside0.mk (Kd.R_below (by (with_reducible repeat (first | apply Kd.R_alloc | apply Kd.R_drewN | apply Kd.R_drew)); exact HO380.out) hb); have n9_ := Aside0.mk (Kd.R_below (by (with_reducible repeat (first | apply Kd.R_alloc | apply Kd.R_drewN | apply Kd.R_drew)); exact HO383.out) hb); have n10_ := Aside0.mk (blk_below (g := gb325) (o := .cells #[.slice A0_0 l0_0.length c0_0, .slice A0_1 l0_1.length c0_1] 38 (0, 0)) (by (with_reducible repeat (first | refine blk_drewN ?_ _ | refine blk_drew ?_ | refine blk_alloc ?_ _)); exact BK325.out) hb); have n11_ := Aside0.mk (blk_below (g := gb340) (o := .cells #[.slice Ao22 t333.length co22, .slice Ao25 t336.length co25] 40 (0, 0)) (by (with_reducible repeat (first | refine blk_drewN ?_ _ | refine blk_drew ?_ | refine blk_alloc ?_ _)); exact BK340.out) hb); have n12_ := Aside0.mk (blk_below (g := gb347) (o := .cells #[.slice Ao29 t365.length co29, .slice Ao33 t366.length co33] 40 (0, 0)) (by (with_reducible repeat (first | refine blk_drewN ?_ _ | refine blk_drew ?_ | refine blk_alloc ?_ _)); exact BK347.out) hb); have n13_ := Aside0.mk (blk_below (g := gb355) (o := .cells #[.slice Ao36 t348.length co36, .slice Ao41 t351.length co41] 40 (0, 0)) (by (with_reducible repeat (first | refine blk_drewN ?_ _ | refine blk_drew ?_ | refine blk_alloc ?_ _)); exact BK355.out) hb); have n14_ := Aside0.mk (below_step (by repeat (first | (with_reducible first | exact HB.out | apply below_alloc | apply pw_below_drewN | apply below_drew1 | refine below_set ?_ GE325.out | refine below_set ?_ GE340.out | refine below_set ?_ GE347.out | refine below_set ?_ GE355.out) | exact HB.out)) hb); have n15_ := Aside0.mk (hbox); have n16_ := Aside0.mk ((by rw [hg]; exact (below_size (by repeat (first | (with_reducible first | exact HB.out | apply below_alloc | apply pw_below_drewN | apply below_drew1 | refine below_set ?_ GE325.out | refine below_set ?_ GE340.out | refine below_set ?_ GE347.out | refine below_set ?_ GE355.out) | exact HB.out))) : w.heap.size ≤ gb385)); have n17_ := Aside0.mk ((by rw [hg]; exact (below_size (by repeat (first | (with_reducible first | exact HB.out | apply below_alloc | apply pw_below_drewN | apply below_drew1 | refine below_set ?_ GE325.out | refine below_set ?_ GE340.out | refine below_set ?_ GE347.out | refine below_set ?_ GE355.out) | exact HB.out))) : w.heap.size ≤ gb385)); have n18_ := Aside0.mk ((by rw [hg]; exact Nat.ne_of_lt (blk_lt (g := gb325) (o := .cells #[.slice A0_0 l0_0.length c0_0, .slice A0_1 l0_1.length c0_1] 38 (0, 0)) (by (with_reducible repeat (first | refine blk_drewN ?_ _ | refine blk_drew ?_ | refine blk_alloc ?_ _)); exact BK325.out)) : gb325 ≠ gb385)); have n19_ := Aside0.mk ((by rw [hg]; exact Nat.ne_of_gt (blk_lt (g := gb325) (o := .cells #[.slice A0_0 l0_0.length c0_0, .slice A0_1 l0_1.length c0_1] 38 (0, 0)) (by (with_reducible repeat (first | refine blk_drewN ?_ _ | refine blk_drew ?_ | refine blk_alloc ?_ _)); exact BK325.out)) : gb385 ≠ gb325)); have n20_ := Aside0.mk ((by rw [hg]; exact Nat.ne_of_lt (blk_lt (g := gb340) (o := .cells #[.slice Ao22 t333.length co22, .slice Ao25 t336.length co25] 40 (0, 0)) (by (with_reducible repeat (first | refine blk_drewN ?_ _ | refine blk_drew ?_ | refine blk_alloc ?_ _)); exact BK340.out)) : gb340 ≠ gb385)); have n21_ := Aside0.mk ((by rw [hg]; exact Nat.ne_of_gt (blk_lt (g := gb340) (o := .cells #[.slice Ao22 t333.length co22, .slice Ao25 t336.length co25] 40 (0, 0)) (by (with_reducible repeat (first | refine blk_drewN ?_ _ | refine blk_drew ?_ | refine blk_alloc ?_ _)); exact BK340.out)) : gb385 ≠ gb340)); have n22_ := Aside0.mk ((by rw [hg]; exact Nat.ne_of_lt (blk_lt (g := gb347) (o := .cells #[.slice Ao29 t365.length co29, .slice Ao33 t366.length co33] 40 (0, 0)) (by (with_reducible repeat (first | refine blk_drewN ?_ _ | refine blk_drew ?_ | refine blk_alloc ?_ _)); exact BK347.out)) : gb347 ≠ gb385)); have n23_ := Aside0.mk ((by rw [hg]; exact Nat.ne_of_gt (blk_lt (g := gb347) (o := .cells #[.slice Ao29 t365.length co29, .slice Ao33 t366.length co33] 40 (0, 0)) (by (with_reducible repeat (first | refine blk_drewN ?_ _ | refine blk_drew ?_ | refine blk_alloc ?_ _)); exact BK347.out)) : gb385 ≠ gb347)); have n24_ := Aside0.mk ((by rw [hg]; exact Nat.ne_of_lt (blk_lt (g := gb355) (o := .cells #[.slice Ao36 t348.length co36, .slice Ao41 t351.length co41] 40 (0, 0)) (by (with_reducible repeat (first | refine blk_drewN ?_ _ | refine blk_drew ?_ | refine blk_alloc ?_ _)); exact BK355.out)) : gb355 ≠ gb385)); have n25_ := Aside0.mk ((by rw [hg]; exact Nat.ne_of_gt (blk_lt (g := gb355) (o := .cells #[.slice Ao36 t348.length co36, .slice Ao41 t351.length co41] 40 (0, 0)) (by (with_reducible repeat (first | refine blk_drewN ?_ _ | refine blk_drew ?_ | refine blk_alloc ?_ _)); exact BK355.out)) : gb385 ≠ gb355)); clear HO_341000; clear HO_341001; clear HO_348000; clear HO_348001; clear HO_356000; clear HO_356001; clear HO374; clear HO377; clear HO380; clear HO383; clear BK325; clear BK340; clear BK347; clear BK355; clear HB; have HO_341000 := n0_; have HO_341001 := n1_; have HO_348000 := n2_; have HO_348001 := n3_; have HO_356000 := n4_; have HO_356001 := n5_; have HO374 := n6_; have HO377 := n7_; have HO380 := n8_; have HO383 := n9_; have BK325 := n10_; have BK340 := n11_; have BK347 := n12_; have BK355 := n13_; have HB := n14_; have BK385 := n15_; have GW385 := n16_; have GE385 := n17_; have NB325_385 := n18_; have NB385_325 := n19_; have NB340_385 := n20_; have NB385_340 := n21_; have NB347_385 := n22_; have NB385_347 := n23_; have NB355_385 := n24_; have NB385_355 := n25_; clear n0_ n1_ n2_ n3_ n4_ n5_ n6_ n7_ n8_ n9_ n10_ n11_ n12_ n13_ n14_ n15_ n16_ n17_ n18_ n19_ n20_ n21_ n22_ n23_ n24_ n25_; clear hb hbox hg; obtain ⟨Ao125, co125, eo125⟩ := Kd.R_slice HO380.out; subst eo125; have hnb126 := NB385_325.out; have hnc126 := NB325_385.out; have hnb127 := NB385_340.out; have hnc127 := NB340_385.out; have hnb128 := NB385_347.out; have hnc128 := NB347_385.out; have hnb129 := NB385_355.out; have hnc129 := NB355_385.out; have hcz130_0 : w124.cell? ⟨gb385, 0, none⟩ = some (.slice none 0 0) := (blk_cell BK385.out 0).trans rfl; have hcz130_1 : w124.cell? ⟨gb385, 1, none⟩ = some (.slice none 0 0) := (blk_cell BK385.out 1).trans rfl; have hfz130_0 := blk_frozen BK385.out 0; have hfz130_1 := blk_frozen BK385.out 1; obtain ⟨Ao131, co131, eo131⟩ := Kd.R_slice HO383.out; subst eo131))
                      (try simp only [Act.put, List.setIfInBounds_toArray, List.set_cons_zero, List.set_cons_succ])
                      go_cut [92] (fun v92 wc => ∃ (kq : Nat) (x92_108 : Bool), v92 = .bool x92_108 ∧ Aside0 (laws_FnExactPagesGive.j2 kq t368 x92_108 t369 t370 = some r) ∧ Aside0 (kq ≤ kj64) ∧ Aside0 (Kd.R Kd.string 9 wc w.heap.size (fun k_ => some k_ ≠ ((.slice Ao29 t365.length co29) : Value).ownBlock ∧ some k_ ≠ ((.slice Ao36 t348.length co36) : Value).ownBlock ∧ some k_ ≠ ((.slice Ao125 t378.length co125) : Value).ownBlock) (.slice Ao22 t333.length co22) t333) ∧ Aside0 (Kd.R (Kd.int .i64) 3 wc w.heap.size (fun k_ => some k_ ≠ ((.slice Ao33 t366.length co33) : Value).ownBlock ∧ some k_ ≠ ((.slice Ao41 t351.length co41) : Value).ownBlock ∧ some k_ ≠ ((.slice Ao131 t381.length co131) : Value).ownBlock) (.slice Ao25 t336.length co25) t336) ∧ Aside0 (Kd.R Kd.string 9 wc w.heap.size (fun k_ => some k_ ≠ ((.slice Ao22 t333.length co22) : Value).ownBlock ∧ some k_ ≠ ((.slice Ao36 t348.length co36) : Value).ownBlock ∧ some k_ ≠ ((.slice Ao125 t378.length co125) : Value).ownBlock) (.slice Ao29 t365.length co29) t365) ∧ Aside0 (Kd.R (Kd.int .i64) 3 wc w.heap.size (fun k_ => some k_ ≠ ((.slice Ao25 t336.length co25) : Value).ownBlock ∧ some k_ ≠ ((.slice Ao41 t351.length co41) : Value).ownBlock ∧ some k_ ≠ ((.slice Ao131 t381.length co131) : Value).ownBlock) (.slice Ao33 t366.length co33) t366) ∧ Aside0 (Kd.R Kd.string 9 wc w.heap.size (fun k_ => some k_ ≠ ((.slice Ao22 t333.length co22) : Value).ownBlock ∧ some k_ ≠ ((.slice Ao29 t365.length co29) : Value).ownBlock ∧ some k_ ≠ ((.slice Ao125 t378.length co125) : Value).ownBlock) (.slice Ao36 t348.length co36) t369) ∧ Aside0 (Kd.R (Kd.int .i64) 3 wc w.heap.size (fun k_ => some k_ ≠ ((.slice Ao25 t336.length co25) : Value).ownBlock ∧ some k_ ≠ ((.slice Ao33 t366.length co33) : Value).ownBlock ∧ some k_ ≠ ((.slice Ao131 t381.length co131) : Value).ownBlock) (.slice Ao41 t351.length co41) t370) ∧ Aside0 (Kd.R Kd.string 9 wc w.heap.size (fun k_ => some k_ ≠ ((.slice Ao22 t333.length co22) : Value).ownBlock ∧ some k_ ≠ ((.slice Ao29 t365.length co29) : Value).ownBlock ∧ some k_ ≠ ((.slice Ao36 t348.length co36) : Value).ownBlock) (.slice Ao125 t378.length co125) t378) ∧ Aside0 (Kd.R (Kd.int .i64) 3 wc w.heap.size (fun k_ => some k_ ≠ ((.slice Ao25 t336.length co25) : Value).ownBlock ∧ some k_ ≠ ((.slice Ao33 t366.length co33) : Value).ownBlock ∧ some k_ ≠ ((.slice Ao41 t351.length co41) : Value).ownBlock) (.slice Ao131 t381.length co131) t381) ∧ Aside0 (wc.heap[gb325]? = some (.cells #[(.slice A0_0 l0_0.length c0_0), (.slice A0_1 l0_1.length c0_1)] 38 (0, 0))) ∧ Aside0 (wc.heap[gb340]? = some (.cells #[(.slice Ao22 t333.length co22), (.slice Ao25 t336.length co25)] 40 (0, 0))) ∧ Aside0 (wc.heap[gb347]? = some (.cells #[(.slice Ao29 t365.length co29), (.slice Ao33 t366.length co33)] 40 (0, 0))) ∧ Aside0 (wc.heap[gb355]? = some (.cells #[(.slice Ao36 t348.length co36), (.slice Ao41 t351.length co41)] 40 (0, 0))) ∧ Aside0 (wc.heap[gb385]? = some (.cells #[(.slice Ao125 t378.length co125), (.slice Ao131 t381.length co131)] 40 (0, 0))) ∧ Aside0 (Below w.heap.size w wc))
                      case first =>
                        have H := HC109.out
                        clear HC109
                        replace H := Option.bind_eq_some_iff.mp H
                        obtain ⟨t386, A1320, H⟩ := H
                        replace H : (if t386 = true then (laws_FnExactPagesGive.j2 kj64 t368 (t384 != t339) t369 t370) else (laws_FnExactPagesGive.j2 kj64 t368 true t369 t370)) = some r := H
                        have A132 := Aside0.mk A1320
                        clear A1320
                        by_cases c133 : t386 = true
                        · subst c133
                          have H1 : (laws_FnExactPagesGive.j2 kj64 t368 (t384 != t339) t369 t370) = some r := by rw [if_pos rfl] at H; exact H
                          clear H
                          have H := H1
                          clear H1
                          have H' := Aside0.mk H
                          clear H
                          have hnb134 := NB385_325.out
                          have hnc134 := NB325_385.out
                          have hnb135 := NB385_340.out
                          have hnc135 := NB340_385.out
                          have hnb136 := NB385_347.out
                          have hnc136 := NB347_385.out
                          have hnb137 := NB385_355.out
                          have hnc137 := NB355_385.out
                          have hcz138_0 : w124.cell? ⟨gb385, 0, none⟩ = some (.slice none 0 0) := (blk_cell BK385.out 0).trans rfl
                          have hcz138_1 : w124.cell? ⟨gb385, 1, none⟩ = some (.slice none 0 0) := (blk_cell BK385.out 1).trans rfl
                          have hfz138_0 := blk_frozen BK385.out 0
                          have hfz138_1 := blk_frozen BK385.out 1
                          have hnb139 := NB340_325.out
                          have hnc139 := NB325_340.out
                          have hnb140 := NB340_347.out
                          have hnc140 := NB347_340.out
                          have hnb141 := NB340_355.out
                          have hnc141 := NB355_340.out
                          have hcz142_0 : w124.cell? ⟨gb340, 0, none⟩ = some (.slice Ao22 t333.length co22) := (blk_cell BK340.out 0).trans rfl
                          have hcz142_1 : w124.cell? ⟨gb340, 1, none⟩ = some (.slice Ao25 t336.length co25) := (blk_cell BK340.out 1).trans rfl
                          have hfz142_0 := blk_frozen BK340.out 0
                          have hfz142_1 := blk_frozen BK340.out 1
                          go_wp2_with (first | ((with_reducible refine gate_callee (f := 19) rfl ?_); refine goesL_ (some 86) rfl rfl Try.func19 (by kernel_rfl) rfl #[.agg #[.slice Ao125 t378.length co125, .slice Ao131 t381.length co131], .agg #[.slice Ao22 t333.length co22, .slice Ao25 t336.length co25]] rfl (by (try simp only [List.map_toArray, List.map_cons, List.map_nil]); first | done | rfl | (simp only [List.length_drop, List.length_take]; rfl)) ?_; (with_reducible refine (laws_eqPages.calls kj64 _ _ t378 _ _ t381 _ _ t333 _ _ t336 true _ ?side1 ?side2 ?side3 ?side4 ?side5 ?side6 ?side7 ?side8 A132.out).mono ?_); (case side1 => refine (Kd.R_reads' (e := 9) (base := w.heap.size) (ok := fun k_ => ((((True ∧ some k_ ≠ (.slice Ao22 t333.length co22 : Value).ownBlock) ∧ some k_ ≠ (.slice Ao29 t365.length co29 : Value).ownBlock) ∧ some k_ ≠ (.slice Ao36 t348.length co36 : Value).ownBlock) ∧ some k_ ≠ (.slice Ao121 t372.length co121 : Value).ownBlock)) (n := t378.length) (c := co125) ?_).2.2; exact (by (with_reducible repeat (first | apply Kd.R_alloc | apply Kd.R_drewN | apply Kd.R_drew)); exact (Kd.R_mono (Kd.R_far (p := ⟨gb385, 1, none⟩) (Kd.R_far (p := ⟨gb385, 0, none⟩) (Kd.R_types HO380.out BK385.out (by decide)) (fun _ hk => hk.2) (.slice Ao125 t378.length co125)) (fun _ hk => hk.2) (.slice Ao131 t381.length co131)) (fun _ h_ => h_.1)))); (case side2 => exact (Kd.R_reads' HO380.out).2.1); (case side3 => refine (Kd.R_reads' (e := 3) (base := w.heap.size) (ok := fun k_ => ((((True ∧ some k_ ≠ (.slice Ao25 t336.length co25 : Value).ownBlock) ∧ some k_ ≠ (.slice Ao33 t366.length co33 : Value).ownBlock) ∧ some k_ ≠ (.slice Ao41 t351.length co41 : Value).ownBlock) ∧ some k_ ≠ (.slice Ao122 t375.length co122 : Value).ownBlock)) (n := t381.length) (c := co131) ?_).2.2; exact (by (with_reducible repeat (first | apply Kd.R_alloc | apply Kd.R_drewN | apply Kd.R_drew)); exact (Kd.R_mono (Kd.R_far (p := ⟨gb385, 1, none⟩) (Kd.R_far (p := ⟨gb385, 0, none⟩) (Kd.R_types HO383.out BK385.out (by decide)) (fun _ hk => hk.2) (.slice Ao125 t378.length co125)) (fun _ hk => hk.2) (.slice Ao131 t381.length co131)) (fun _ h_ => h_.1)))); (case side4 => exact (Kd.R_reads' HO383.out).2.1); (case side5 => refine (Kd.R_reads' (e := 9) (base := w.heap.size) (ok := fun k_ => (((some k_ ≠ (.slice Ao29 t365.length co29 : Value).ownBlock ∧ some k_ ≠ (.slice Ao36 t348.length co36 : Value).ownBlock) ∧ some k_ ≠ (.slice Ao121 t372.length co121 : Value).ownBlock) ∧ some k_ ≠ (.slice Ao125 t378.length co125 : Value).ownBlock)) (n := t333.length) (c := co22) ?_).2.2; exact (by (with_reducible repeat (first | apply Kd.R_alloc | apply Kd.R_drewN | apply Kd.R_drew)); exact (Kd.R_mono (Kd.R_far (p := ⟨gb385, 1, none⟩) (Kd.R_far (p := ⟨gb385, 0, none⟩) (Kd.R_types HO_341000.out BK385.out (by decide)) (fun _ hk => hk.2) (.slice Ao125 t378.length co125)) (fun _ hk => hk.2) (.slice Ao131 t381.length co131)) (fun _ h_ => h_.1)))); (case side6 => exact (Kd.R_reads' HO_341000.out).2.1); (case side7 => refine (Kd.R_reads' (e := 3) (base := w.heap.size) (ok := fun k_ => (((some k_ ≠ (.slice Ao33 t366.length co33 : Value).ownBlock ∧ some k_ ≠ (.slice Ao41 t351.length co41 : Value).ownBlock) ∧ some k_ ≠ (.slice Ao122 t375.length co122 : Value).ownBlock) ∧ some k_ ≠ (.slice Ao131 t381.length co131 : Value).ownBlock)) (n := t336.length) (c := co25) ?_).2.2; exact (by (with_reducible repeat (first | apply Kd.R_alloc | apply Kd.R_drewN | apply Kd.R_drew)); exact (Kd.R_mono (Kd.R_far (p := ⟨gb385, 1, none⟩) (Kd.R_far (p := ⟨gb385, 0, none⟩) (Kd.R_types HO_341001.out BK385.out (by decide)) (fun _ hk => hk.2) (.slice Ao125 t378.length co125)) (fun _ hk => hk.2) (.slice Ao131 t381.length co131)) (fun _ h_ => h_.1)))); (case side8 => exact (Kd.R_reads' HO_341001.out).2.1); rintro e w143 ⟨rfl, hb⟩; refine ⟨_, rfl, ?_⟩; have n0_ := Aside0.mk (Kd.R_below (by (with_reducible repeat (first | apply Kd.R_alloc | apply Kd.R_drewN | apply Kd.R_drew)); exact (Kd.R_mono (Kd.R_far (p := ⟨gb385, 1, none⟩) (Kd.R_far (p := ⟨gb385, 0, none⟩) (Kd.R_types HO_341000.out BK385.out (by decide)) (fun _ hk => hk.2) (.slice Ao125 t378.length co125)) (fun _ hk => hk.2) (.slice Ao131 t381.length co131)) (fun _ h_ => h_.1))) hb); have n1_ := Aside0.mk (Kd.R_below (by (with_reducible repeat (first | apply Kd.R_alloc | apply Kd.R_drewN | apply Kd.R_drew)); exact (Kd.R_mono (Kd.R_far (p := ⟨gb385, 1, none⟩) (Kd.R_far (p := ⟨gb385, 0, none⟩) (Kd.R_types HO_341001.out BK385.out (by decide)) (fun _ hk => hk.2) (.slice Ao125 t378.length co125)) (fun _ hk => hk.2) (.slice Ao131 t381.length co131)) (fun _ h_ => h_.1))) hb); have n2_ := Aside0.mk (Kd.R_below (by (with_reducible repeat (first | apply Kd.R_alloc | apply Kd.R_drewN | apply Kd.R_drew)); exact (Kd.R_mono (Kd.R_far (p := ⟨gb385, 1, none⟩) (Kd.R_far (p := ⟨gb385, 0, none⟩) (Kd.R_types HO_348000.out BK385.out (by decide)) (fun _ hk => hk.2) (.slice Ao125 t378.length co125)) (fun _ hk => hk.2) (.slice Ao131 t381.length co131)) (fun _ h_ => h_.1))) hb); have n3_ := Aside0.mk (Kd.R_below (by (with_reducible repeat (first | apply Kd.R_alloc | apply Kd.R_drewN | apply Kd.R_drew)); exact (Kd.R_mono (Kd.R_far (p := ⟨gb385, 1, none⟩) (Kd.R_far (p := ⟨gb385, 0, none⟩) (Kd.R_types HO_348001.out BK385.out (by decide)) (fun _ hk => hk.2) (.slice Ao125 t378.length co125)) (fun _ hk => hk.2) (.slice Ao131 t381.length co131)) (fun _ h_ => h_.1))) hb); have n4_ := Aside0.mk (Kd.R_below (by (with_reducible repeat (first | apply Kd.R_alloc | apply Kd.R_drewN | apply Kd.R_drew)); exact (Kd.R_mono (Kd.R_far (p := ⟨gb385, 1, none⟩) (Kd.R_far (p := ⟨gb385, 0, none⟩) (Kd.R_types HO_356000.out BK385.out (by decide)) (fun _ hk => hk.2) (.slice Ao125 t378.length co125)) (fun _ hk => hk.2) (.slice Ao131 t381.length co131)) (fun _ h_ => h_.1))) hb); have n5_ := Aside0.mk (Kd.R_below (by (with_reducible repeat (first | apply Kd.R_alloc | apply Kd.R_drewN | apply Kd.R_drew)); exact (Kd.R_mono (Kd.R_far (p := ⟨gb385, 1, none⟩) (Kd.R_far (p := ⟨gb385, 0, none⟩) (Kd.R_types HO_356001.out BK385.out (by decide)) (fun _ hk => hk.2) (.slice Ao125 t378.length co125)) (fun _ hk => hk.2) (.slice Ao131 t381.length co131)) (fun _ h_ => h_.1))) hb); have n6_ := Aside0.mk (Kd.R_below (by (with_reducible repeat (first | apply Kd.R_alloc | apply Kd.R_drewN | apply Kd.R_drew)); exact (Kd.R_mono (Kd.R_far (p := ⟨gb385, 1, none⟩) (Kd.R_far (p := ⟨gb385, 0, none⟩) (Kd.R_types HO374.out BK385.out (by decide)) (fun _ hk => hk.2) (.slice Ao125 t378.length co125)) (fun _ hk => hk.2) (.slice Ao131 t381.length co131)) (fun _ h_ => h_.1))) hb); have n7_ := Aside0.mk (Kd.R_below (by (with_reducible repeat (first | apply Kd.R_alloc | apply Kd.R_drewN | apply Kd.R_drew)); exact (Kd.R_mono (Kd.R_far (p := ⟨gb385, 1, none⟩) (Kd.R_far (p := ⟨gb385, 0, none⟩) (Kd.R_types HO377.out BK385.out (by decide)) (fun _ hk => hk.2) (.slice Ao125 t378.length co125)) (fun _ hk => hk.2) (.slice Ao131 t381.length co131)) (fun _ h_ => h_.1))) hb); have n8_ := Aside0.mk (Kd.R_below (by (with_reducible repeat (first | apply Kd.R_alloc | apply Kd.R_drewN | apply Kd.R_drew)); exact (Kd.R_mono (Kd.R_far (p := ⟨gb385, 1, none⟩) (Kd.R_far (p := ⟨gb385, 0, none⟩) (Kd.R_types HO380.out BK385.out (by decide)) (fun _ hk => hk.2) (.slice Ao125 t378.length co125)) (fun _ hk => hk.2) (.slice Ao131 t381.length co131)) (fun _ h_ => h_.1))) hb); have n9_ := Aside0.mk (Kd.R_below (by (with_reducible repeat (first | apply Kd.R_alloc | apply Kd.R_drewN | apply Kd.R_drew)); exact (Kd.R_mono (Kd.R_far (p := ⟨gb385, 1, none⟩) (Kd.R_far (p := ⟨gb385, 0, none⟩) (Kd.R_types HO383.out BK385.out (by decide)) (fun _ hk => hk.2) (.slice Ao125 t378.length co125)) (fun _ hk => hk.2) (.slice Ao131 t381.length co131)) (fun _ h_ => h_.1))) hb); have n10_ := Aside0.mk (blk_below (g := gb325) (o := .cells #[.slice A0_0 l0_0.length c0_0, .slice A0_1 l0_1.length c0_1] 38 (0, 0)) (by (with_reducible repeat (first | refine blk_drewN ?_ _ | refine blk_drew ?_ | refine blk_alloc ?_ _)); refine blk_far ?_ NB325_385.out _; (with_reducible repeat (first | refine blk_drewN ?_ _ | refine blk_drew ?_ | refine blk_alloc ?_ _)); refine blk_far ?_ NB325_385.out _; (with_reducible repeat (first | refine blk_drewN ?_ _ | refine blk_drew ?_ | refine blk_alloc ?_ _)); exact BK325.out) hb); have n11_ := Aside0.mk (blk_below (g := gb340) (o := .cells #[.slice Ao22 t333.length co22, .slice Ao25 t336.length co25] 40 (0, 0)) (by (with_reducible repeat (first | refine blk_drewN ?_ _ | refine blk_drew ?_ | refine blk_alloc ?_ _)); refine blk_far ?_ NB340_385.out _; (with_reducible repeat (first | refine blk_drewN ?_ _ | refine blk_drew ?_ | refine blk_alloc ?_ _)); refine blk_far ?_ NB340_385.out _; (with_reducible repeat (first | refine blk_drewN ?_ _ | refine blk_drew ?_ | refine blk_alloc ?_ _)); exact BK340.out) hb); have n12_ := Aside0.mk (blk_below (g := gb347) (o := .cells #[.slice Ao29 t365.length co29, .slice Ao33 t366.length co33] 40 (0, 0)) (by (with_reducible repeat (first | refine blk_drewN ?_ _ | refine blk_drew ?_ | refine blk_alloc ?_ _)); refine blk_far ?_ NB347_385.out _; (with_reducible repeat (first | refine blk_drewN ?_ _ | refine blk_drew ?_ | refine blk_alloc ?_ _)); refine blk_far ?_ NB347_385.out _; (with_reducible repeat (first | refine blk_drewN ?_ _ | refine blk_drew ?_ | refine blk_alloc ?_ _)); exact BK347.out) hb); have n13_ := Aside0.mk (blk_below (g := gb355) (o := .cells #[.slice Ao36 t348.length co36, .slice Ao41 t351.length co41] 40 (0, 0)) (by (with_reducible repeat (first | refine blk_drewN ?_ _ | refine blk_drew ?_ | refine blk_alloc ?_ _)); refine blk_far ?_ NB355_385.out _; (with_reducible repeat (first | refine blk_drewN ?_ _ | refine blk_drew ?_ | refine blk_alloc ?_ _)); refine blk_far ?_ NB355_385.out _; (with_reducible repeat (first | refine blk_drewN ?_ _ | refine blk_drew ?_ | refine blk_alloc ?_ _)); exact BK355.out) hb); have n14_ := Aside0.mk (blk_below (g := gb385) (o := .cells #[.slice Ao125 t378.length co125, .slice Ao131 t381.length co131] 40 (0, 0)) (by (with_reducible repeat (first | refine blk_drewN ?_ _ | refine blk_drew ?_ | refine blk_alloc ?_ _)); refine blk_put (cs := #[.slice Ao125 t378.length co125, .slice none 0 0]) ?_ 1 _ rfl; (with_reducible repeat (first | refine blk_drewN ?_ _ | refine blk_drew ?_ | refine blk_alloc ?_ _)); refine blk_put (cs := #[.slice none 0 0, .slice none 0 0]) ?_ 0 _ rfl; (with_reducible repeat (first | refine blk_drewN ?_ _ | refine blk_drew ?_ | refine blk_alloc ?_ _)); exact BK385.out) hb); have n15_ := Aside0.mk (below_step (by repeat (first | (with_reducible first | exact HB.out | apply below_alloc | apply pw_below_drewN | apply below_drew1 | refine below_set ?_ GE325.out | refine below_set ?_ GE340.out | refine below_set ?_ GE347.out | refine below_set ?_ GE355.out | refine below_set ?_ GE385.out) | exact HB.out)) hb); clear HO_341000; clear HO_341001; clear HO_348000; clear HO_348001; clear HO_356000; clear HO_356001; clear HO374; clear HO377; clear HO380; clear HO383; clear BK325; clear BK340; clear BK347; clear BK355; clear BK385; clear HB; have HO_341000 := n0_; have HO_341001 := n1_; have HO_348000 := n2_; have HO_348001 := n3_; have HO_356000 := n4_; have HO_356001 := n5_; have HO374 := n6_; have HO377 := n7_; have HO380 := n8_; have HO383 := n9_; have BK325 := n10_; have BK340 := n11_; have BK347 := n12_; have BK355 := n13_; have BK385 := n14_; have HB := n15_; clear n0_ n1_ n2_ n3_ n4_ n5_ n6_ n7_ n8_ n9_ n10_ n11_ n12_ n13_ n14_ n15_; (try clear hb); (try clear hb2); (try clear hk); (try clear hi)))
                          go_meet
                          case rel => exact ⟨_, ((t384 != t339)), (by first | rfl | (simp; done) | (simp [*]; done)), H', ⟨by have := HJ11.out; have := HJ64.out; first | omega | exact Nat.le_refl _⟩, ⟨by (try simp only [hl348000_64]); (try simp only [hl348001_64]); (with_reducible repeat (first | apply Kd.R_alloc | apply Kd.R_drewN | apply Kd.R_drew)); exact Kd.R_mono HO_341000.out (fun _ hk => ⟨hk.1.1.1, ⟨hk.1.1.2, hk.2⟩⟩)⟩, ⟨by (try simp only [hl348000_64]); (try simp only [hl348001_64]); (with_reducible repeat (first | apply Kd.R_alloc | apply Kd.R_drewN | apply Kd.R_drew)); exact Kd.R_mono HO_341001.out (fun _ hk => ⟨hk.1.1.1, ⟨hk.1.1.2, hk.2⟩⟩)⟩, ⟨by (try simp only [hl348000_64]); (try simp only [hl348001_64]); (with_reducible repeat (first | apply Kd.R_alloc | apply Kd.R_drewN | apply Kd.R_drew)); exact Kd.R_mono HO_348000.out (fun _ hk => ⟨hk.1.1.1, ⟨hk.1.1.2, hk.2⟩⟩)⟩, ⟨by (try simp only [hl348000_64]); (try simp only [hl348001_64]); (with_reducible repeat (first | apply Kd.R_alloc | apply Kd.R_drewN | apply Kd.R_drew)); exact Kd.R_mono HO_348001.out (fun _ hk => ⟨hk.1.1.1, ⟨hk.1.1.2, hk.2⟩⟩)⟩, ⟨by (try simp only [hl348000_64]); (try simp only [hl348001_64]); (with_reducible repeat (first | apply Kd.R_alloc | apply Kd.R_drewN | apply Kd.R_drew)); exact Kd.R_mono HO_356000.out (fun _ hk => ⟨hk.1.1.1, ⟨hk.1.1.2, hk.2⟩⟩)⟩, ⟨by (try simp only [hl348000_64]); (try simp only [hl348001_64]); (with_reducible repeat (first | apply Kd.R_alloc | apply Kd.R_drewN | apply Kd.R_drew)); exact Kd.R_mono HO_356001.out (fun _ hk => ⟨hk.1.1.1, ⟨hk.1.1.2, hk.2⟩⟩)⟩, ⟨by (try simp only [hl348000_64]); (try simp only [hl348001_64]); (with_reducible repeat (first | apply Kd.R_alloc | apply Kd.R_drewN | apply Kd.R_drew)); exact Kd.R_mono HO380.out (fun _ hk => ⟨hk.1.1.1.2, ⟨hk.1.1.2, hk.1.2⟩⟩)⟩, ⟨by (try simp only [hl348000_64]); (try simp only [hl348001_64]); (with_reducible repeat (first | apply Kd.R_alloc | apply Kd.R_drewN | apply Kd.R_drew)); exact Kd.R_mono HO383.out (fun _ hk => ⟨hk.1.1.1.2, ⟨hk.1.1.2, hk.1.2⟩⟩)⟩, ⟨by (try simp only [hl348000_64]); (try simp only [hl348001_64]); (with_reducible repeat (first | refine blk_drewN ?_ _ | refine blk_drew ?_ | refine blk_alloc ?_ _)); exact BK325.out⟩, ⟨by (try simp only [hl348000_64]); (try simp only [hl348001_64]); (with_reducible repeat (first | refine blk_drewN ?_ _ | refine blk_drew ?_ | refine blk_alloc ?_ _)); exact BK340.out⟩, ⟨by (try simp only [hl348000_64]); (try simp only [hl348001_64]); (with_reducible repeat (first | refine blk_drewN ?_ _ | refine blk_drew ?_ | refine blk_alloc ?_ _)); exact BK347.out⟩, ⟨by (try simp only [hl348000_64]); (try simp only [hl348001_64]); (with_reducible repeat (first | refine blk_drewN ?_ _ | refine blk_drew ?_ | refine blk_alloc ?_ _)); exact BK355.out⟩, ⟨by (try simp only [hl348000_64]); (try simp only [hl348001_64]); (with_reducible repeat (first | refine blk_drewN ?_ _ | refine blk_drew ?_ | refine blk_alloc ?_ _)); exact BK385.out⟩, ⟨by repeat (first | (with_reducible first | exact HB.out | apply below_alloc | apply pw_below_drewN | apply below_drew1 | refine below_set ?_ GE325.out | refine below_set ?_ GE340.out | refine below_set ?_ GE347.out | refine below_set ?_ GE355.out | refine below_set ?_ GE385.out) | exact HB.out)⟩⟩
                        · replace c133 := Bool.eq_false_iff.mpr c133
                          subst c133
                          have H1 : (laws_FnExactPagesGive.j2 kj64 t368 true t369 t370) = some r := by rw [if_neg (show ¬ (false = true) by decide)] at H; exact H
                          clear H
                          have H := H1
                          clear H1
                          have H' := Aside0.mk H
                          clear H
                          have hnb144 := NB385_325.out
                          have hnc144 := NB325_385.out
                          have hnb145 := NB385_340.out
                          have hnc145 := NB340_385.out
                          have hnb146 := NB385_347.out
                          have hnc146 := NB347_385.out
                          have hnb147 := NB385_355.out
                          have hnc147 := NB355_385.out
                          have hcz148_0 : w124.cell? ⟨gb385, 0, none⟩ = some (.slice none 0 0) := (blk_cell BK385.out 0).trans rfl
                          have hcz148_1 : w124.cell? ⟨gb385, 1, none⟩ = some (.slice none 0 0) := (blk_cell BK385.out 1).trans rfl
                          have hfz148_0 := blk_frozen BK385.out 0
                          have hfz148_1 := blk_frozen BK385.out 1
                          have hnb149 := NB340_325.out
                          have hnc149 := NB325_340.out
                          have hnb150 := NB340_347.out
                          have hnc150 := NB347_340.out
                          have hnb151 := NB340_355.out
                          have hnc151 := NB355_340.out
                          have hcz152_0 : w124.cell? ⟨gb340, 0, none⟩ = some (.slice Ao22 t333.length co22) := (blk_cell BK340.out 0).trans rfl
                          have hcz152_1 : w124.cell? ⟨gb340, 1, none⟩ = some (.slice Ao25 t336.length co25) := (blk_cell BK340.out 1).trans rfl
                          have hfz152_0 := blk_frozen BK340.out 0
                          have hfz152_1 := blk_frozen BK340.out 1
                          go_wp2_with (first | ((with_reducible refine gate_callee (f := 19) rfl ?_); refine goesL_ (some 86) rfl rfl Try.func19 (by kernel_rfl) rfl #[.agg #[.slice Ao125 t378.length co125, .slice Ao131 t381.length co131], .agg #[.slice Ao22 t333.length co22, .slice Ao25 t336.length co25]] rfl (by (try simp only [List.map_toArray, List.map_cons, List.map_nil]); first | done | rfl | (simp only [List.length_drop, List.length_take]; rfl)) ?_; (with_reducible refine (laws_eqPages.calls kj64 _ _ t378 _ _ t381 _ _ t333 _ _ t336 false _ ?side1 ?side2 ?side3 ?side4 ?side5 ?side6 ?side7 ?side8 A132.out).mono ?_); (case side1 => refine (Kd.R_reads' (e := 9) (base := w.heap.size) (ok := fun k_ => ((((True ∧ some k_ ≠ (.slice Ao22 t333.length co22 : Value).ownBlock) ∧ some k_ ≠ (.slice Ao29 t365.length co29 : Value).ownBlock) ∧ some k_ ≠ (.slice Ao36 t348.length co36 : Value).ownBlock) ∧ some k_ ≠ (.slice Ao121 t372.length co121 : Value).ownBlock)) (n := t378.length) (c := co125) ?_).2.2; exact (by (with_reducible repeat (first | apply Kd.R_alloc | apply Kd.R_drewN | apply Kd.R_drew)); exact (Kd.R_mono (Kd.R_far (p := ⟨gb385, 1, none⟩) (Kd.R_far (p := ⟨gb385, 0, none⟩) (Kd.R_types HO380.out BK385.out (by decide)) (fun _ hk => hk.2) (.slice Ao125 t378.length co125)) (fun _ hk => hk.2) (.slice Ao131 t381.length co131)) (fun _ h_ => h_.1)))); (case side2 => exact (Kd.R_reads' HO380.out).2.1); (case side3 => refine (Kd.R_reads' (e := 3) (base := w.heap.size) (ok := fun k_ => ((((True ∧ some k_ ≠ (.slice Ao25 t336.length co25 : Value).ownBlock) ∧ some k_ ≠ (.slice Ao33 t366.length co33 : Value).ownBlock) ∧ some k_ ≠ (.slice Ao41 t351.length co41 : Value).ownBlock) ∧ some k_ ≠ (.slice Ao122 t375.length co122 : Value).ownBlock)) (n := t381.length) (c := co131) ?_).2.2; exact (by (with_reducible repeat (first | apply Kd.R_alloc | apply Kd.R_drewN | apply Kd.R_drew)); exact (Kd.R_mono (Kd.R_far (p := ⟨gb385, 1, none⟩) (Kd.R_far (p := ⟨gb385, 0, none⟩) (Kd.R_types HO383.out BK385.out (by decide)) (fun _ hk => hk.2) (.slice Ao125 t378.length co125)) (fun _ hk => hk.2) (.slice Ao131 t381.length co131)) (fun _ h_ => h_.1)))); (case side4 => exact (Kd.R_reads' HO383.out).2.1); (case side5 => refine (Kd.R_reads' (e := 9) (base := w.heap.size) (ok := fun k_ => (((some k_ ≠ (.slice Ao29 t365.length co29 : Value).ownBlock ∧ some k_ ≠ (.slice Ao36 t348.length co36 : Value).ownBlock) ∧ some k_ ≠ (.slice Ao121 t372.length co121 : Value).ownBlock) ∧ some k_ ≠ (.slice Ao125 t378.length co125 : Value).ownBlock)) (n := t333.length) (c := co22) ?_).2.2; exact (by (with_reducible repeat (first | apply Kd.R_alloc | apply Kd.R_drewN | apply Kd.R_drew)); exact (Kd.R_mono (Kd.R_far (p := ⟨gb385, 1, none⟩) (Kd.R_far (p := ⟨gb385, 0, none⟩) (Kd.R_types HO_341000.out BK385.out (by decide)) (fun _ hk => hk.2) (.slice Ao125 t378.length co125)) (fun _ hk => hk.2) (.slice Ao131 t381.length co131)) (fun _ h_ => h_.1)))); (case side6 => exact (Kd.R_reads' HO_341000.out).2.1); (case side7 => refine (Kd.R_reads' (e := 3) (base := w.heap.size) (ok := fun k_ => (((some k_ ≠ (.slice Ao33 t366.length co33 : Value).ownBlock ∧ some k_ ≠ (.slice Ao41 t351.length co41 : Value).ownBlock) ∧ some k_ ≠ (.slice Ao122 t375.length co122 : Value).ownBlock) ∧ some k_ ≠ (.slice Ao131 t381.length co131 : Value).ownBlock)) (n := t336.length) (c := co25) ?_).2.2; exact (by (with_reducible repeat (first | apply Kd.R_alloc | apply Kd.R_drewN | apply Kd.R_drew)); exact (Kd.R_mono (Kd.R_far (p := ⟨gb385, 1, none⟩) (Kd.R_far (p := ⟨gb385, 0, none⟩) (Kd.R_types HO_341001.out BK385.out (by decide)) (fun _ hk => hk.2) (.slice Ao125 t378.length co125)) (fun _ hk => hk.2) (.slice Ao131 t381.length co131)) (fun _ h_ => h_.1)))); (case side8 => exact (Kd.R_reads' HO_341001.out).2.1); rintro e w153 ⟨rfl, hb⟩; refine ⟨_, rfl, ?_⟩; have n0_ := Aside0.mk (Kd.R_below (by (with_reducible repeat (first | apply Kd.R_alloc | apply Kd.R_drewN | apply Kd.R_drew)); exact (Kd.R_mono (Kd.R_far (p := ⟨gb385, 1, none⟩) (Kd.R_far (p := ⟨gb385, 0, none⟩) (Kd.R_types HO_341000.out BK385.out (by decide)) (fun _ hk => hk.2) (.slice Ao125 t378.length co125)) (fun _ hk => hk.2) (.slice Ao131 t381.length co131)) (fun _ h_ => h_.1))) hb); have n1_ := Aside0.mk (Kd.R_below (by (with_reducible repeat (first | apply Kd.R_alloc | apply Kd.R_drewN | apply Kd.R_drew)); exact (Kd.R_mono (Kd.R_far (p := ⟨gb385, 1, none⟩) (Kd.R_far (p := ⟨gb385, 0, none⟩) (Kd.R_types HO_341001.out BK385.out (by decide)) (fun _ hk => hk.2) (.slice Ao125 t378.length co125)) (fun _ hk => hk.2) (.slice Ao131 t381.length co131)) (fun _ h_ => h_.1))) hb); have n2_ := Aside0.mk (Kd.R_below (by (with_reducible repeat (first | apply Kd.R_alloc | apply Kd.R_drewN | apply Kd.R_drew)); exact (Kd.R_mono (Kd.R_far (p := ⟨gb385, 1, none⟩) (Kd.R_far (p := ⟨gb385, 0, none⟩) (Kd.R_types HO_348000.out BK385.out (by decide)) (fun _ hk => hk.2) (.slice Ao125 t378.length co125)) (fun _ hk => hk.2) (.slice Ao131 t381.length co131)) (fun _ h_ => h_.1))) hb); have n3_ := Aside0.mk (Kd.R_below (by (with_reducible repeat (first | apply Kd.R_alloc | apply Kd.R_drewN | apply Kd.R_drew)); exact (Kd.R_mono (Kd.R_far (p := ⟨gb385, 1, none⟩) (Kd.R_far (p := ⟨gb385, 0, none⟩) (Kd.R_types HO_348001.out BK385.out (by decide)) (fun _ hk => hk.2) (.slice Ao125 t378.length co125)) (fun _ hk => hk.2) (.slice Ao131 t381.length co131)) (fun _ h_ => h_.1))) hb); have n4_ := Aside0.mk (Kd.R_below (by (with_reducible repeat (first | apply Kd.R_alloc | apply Kd.R_drewN | apply Kd.R_drew)); exact (Kd.R_mono (Kd.R_far (p := ⟨gb385, 1, none⟩) (Kd.R_far (p := ⟨gb385, 0, none⟩) (Kd.R_types HO_356000.out BK385.out (by decide)) (fun _ hk => hk.2) (.slice Ao125 t378.length co125)) (fun _ hk => hk.2) (.slice Ao131 t381.length co131)) (fun _ h_ => h_.1))) hb); have n5_ := Aside0.mk (Kd.R_below (by (with_reducible repeat (first | apply Kd.R_alloc | apply Kd.R_drewN | apply Kd.R_drew)); exact (Kd.R_mono (Kd.R_far (p := ⟨gb385, 1, none⟩) (Kd.R_far (p := ⟨gb385, 0, none⟩) (Kd.R_types HO_356001.out BK385.out (by decide)) (fun _ hk => hk.2) (.slice Ao125 t378.length co125)) (fun _ hk => hk.2) (.slice Ao131 t381.length co131)) (fun _ h_ => h_.1))) hb); have n6_ := Aside0.mk (Kd.R_below (by (with_reducible repeat (first | apply Kd.R_alloc | apply Kd.R_drewN | apply Kd.R_drew)); exact (Kd.R_mono (Kd.R_far (p := ⟨gb385, 1, none⟩) (Kd.R_far (p := ⟨gb385, 0, none⟩) (Kd.R_types HO374.out BK385.out (by decide)) (fun _ hk => hk.2) (.slice Ao125 t378.length co125)) (fun _ hk => hk.2) (.slice Ao131 t381.length co131)) (fun _ h_ => h_.1))) hb); have n7_ := Aside0.mk (Kd.R_below (by (with_reducible repeat (first | apply Kd.R_alloc | apply Kd.R_drewN | apply Kd.R_drew)); exact (Kd.R_mono (Kd.R_far (p := ⟨gb385, 1, none⟩) (Kd.R_far (p := ⟨gb385, 0, none⟩) (Kd.R_types HO377.out BK385.out (by decide)) (fun _ hk => hk.2) (.slice Ao125 t378.length co125)) (fun _ hk => hk.2) (.slice Ao131 t381.length co131)) (fun _ h_ => h_.1))) hb); have n8_ := Aside0.mk (Kd.R_below (by (with_reducible repeat (first | apply Kd.R_alloc | apply Kd.R_drewN | apply Kd.R_drew)); exact (Kd.R_mono (Kd.R_far (p := ⟨gb385, 1, none⟩) (Kd.R_far (p := ⟨gb385, 0, none⟩) (Kd.R_types HO380.out BK385.out (by decide)) (fun _ hk => hk.2) (.slice Ao125 t378.length co125)) (fun _ hk => hk.2) (.slice Ao131 t381.length co131)) (fun _ h_ => h_.1))) hb); have n9_ := Aside0.mk (Kd.R_below (by (with_reducible repeat (first | apply Kd.R_alloc | apply Kd.R_drewN | apply Kd.R_drew)); exact (Kd.R_mono (Kd.R_far (p := ⟨gb385, 1, none⟩) (Kd.R_far (p := ⟨gb385, 0, none⟩) (Kd.R_types HO383.out BK385.out (by decide)) (fun _ hk => hk.2) (.slice Ao125 t378.length co125)) (fun _ hk => hk.2) (.slice Ao131 t381.length co131)) (fun _ h_ => h_.1))) hb); have n10_ := Aside0.mk (blk_below (g := gb325) (o := .cells #[.slice A0_0 l0_0.length c0_0, .slice A0_1 l0_1.length c0_1] 38 (0, 0)) (by (with_reducible repeat (first | refine blk_drewN ?_ _ | refine blk_drew ?_ | refine blk_alloc ?_ _)); refine blk_far ?_ NB325_385.out _; (with_reducible repeat (first | refine blk_drewN ?_ _ | refine blk_drew ?_ | refine blk_alloc ?_ _)); refine blk_far ?_ NB325_385.out _; (with_reducible repeat (first | refine blk_drewN ?_ _ | refine blk_drew ?_ | refine blk_alloc ?_ _)); exact BK325.out) hb); have n11_ := Aside0.mk (blk_below (g := gb340) (o := .cells #[.slice Ao22 t333.length co22, .slice Ao25 t336.length co25] 40 (0, 0)) (by (with_reducible repeat (first | refine blk_drewN ?_ _ | refine blk_drew ?_ | refine blk_alloc ?_ _)); refine blk_far ?_ NB340_385.out _; (with_reducible repeat (first | refine blk_drewN ?_ _ | refine blk_drew ?_ | refine blk_alloc ?_ _)); refine blk_far ?_ NB340_385.out _; (with_reducible repeat (first | refine blk_drewN ?_ _ | refine blk_drew ?_ | refine blk_alloc ?_ _)); exact BK340.out) hb); have n12_ := Aside0.mk (blk_below (g := gb347) (o := .cells #[.slice Ao29 t365.length co29, .slice Ao33 t366.length co33] 40 (0, 0)) (by (with_reducible repeat (first | refine blk_drewN ?_ _ | refine blk_drew ?_ | refine blk_alloc ?_ _)); refine blk_far ?_ NB347_385.out _; (with_reducible repeat (first | refine blk_drewN ?_ _ | refine blk_drew ?_ | refine blk_alloc ?_ _)); refine blk_far ?_ NB347_385.out _; (with_reducible repeat (first | refine blk_drewN ?_ _ | refine blk_drew ?_ | refine blk_alloc ?_ _)); exact BK347.out) hb); have n13_ := Aside0.mk (blk_below (g := gb355) (o := .cells #[.slice Ao36 t348.length co36, .slice Ao41 t351.length co41] 40 (0, 0)) (by (with_reducible repeat (first | refine blk_drewN ?_ _ | refine blk_drew ?_ | refine blk_alloc ?_ _)); refine blk_far ?_ NB355_385.out _; (with_reducible repeat (first | refine blk_drewN ?_ _ | refine blk_drew ?_ | refine blk_alloc ?_ _)); refine blk_far ?_ NB355_385.out _; (with_reducible repeat (first | refine blk_drewN ?_ _ | refine blk_drew ?_ | refine blk_alloc ?_ _)); exact BK355.out) hb); have n14_ := Aside0.mk (blk_below (g := gb385) (o := .cells #[.slice Ao125 t378.length co125, .slice Ao131 t381.length co131] 40 (0, 0)) (by (with_reducible repeat (first | refine blk_drewN ?_ _ | refine blk_drew ?_ | refine blk_alloc ?_ _)); refine blk_put (cs := #[.slice Ao125 t378.length co125, .slice none 0 0]) ?_ 1 _ rfl; (with_reducible repeat (first | refine blk_drewN ?_ _ | refine blk_drew ?_ | refine blk_alloc ?_ _)); refine blk_put (cs := #[.slice none 0 0, .slice none 0 0]) ?_ 0 _ rfl; (with_reducible repeat (first | refine blk_drewN ?_ _ | refine blk_drew ?_ | refine blk_alloc ?_ _)); exact BK385.out) hb); have n15_ := Aside0.mk (below_step (by repeat (first | (with_reducible first | exact HB.out | apply below_alloc | apply pw_below_drewN | apply below_drew1 | refine below_set ?_ GE325.out | refine below_set ?_ GE340.out | refine below_set ?_ GE347.out | refine below_set ?_ GE355.out | refine below_set ?_ GE385.out) | exact HB.out)) hb); clear HO_341000; clear HO_341001; clear HO_348000; clear HO_348001; clear HO_356000; clear HO_356001; clear HO374; clear HO377; clear HO380; clear HO383; clear BK325; clear BK340; clear BK347; clear BK355; clear BK385; clear HB; have HO_341000 := n0_; have HO_341001 := n1_; have HO_348000 := n2_; have HO_348001 := n3_; have HO_356000 := n4_; have HO_356001 := n5_; have HO374 := n6_; have HO377 := n7_; have HO380 := n8_; have HO383 := n9_; have BK325 := n10_; have BK340 := n11_; have BK347 := n12_; have BK355 := n13_; have BK385 := n14_; have HB := n15_; clear n0_ n1_ n2_ n3_ n4_ n5_ n6_ n7_ n8_ n9_ n10_ n11_ n12_ n13_ n14_ n15_; (try clear hb); (try clear hb2); (try clear hk); (try clear hi)))
                          go_meet
                          case rel => exact ⟨_, (true), (by first | rfl | (simp; done) | (simp [*]; done)), H', ⟨by have := HJ11.out; have := HJ64.out; first | omega | exact Nat.le_refl _⟩, ⟨by (try simp only [hl348000_64]); (try simp only [hl348001_64]); (with_reducible repeat (first | apply Kd.R_alloc | apply Kd.R_drewN | apply Kd.R_drew)); exact Kd.R_mono HO_341000.out (fun _ hk => ⟨hk.1.1.1, ⟨hk.1.1.2, hk.2⟩⟩)⟩, ⟨by (try simp only [hl348000_64]); (try simp only [hl348001_64]); (with_reducible repeat (first | apply Kd.R_alloc | apply Kd.R_drewN | apply Kd.R_drew)); exact Kd.R_mono HO_341001.out (fun _ hk => ⟨hk.1.1.1, ⟨hk.1.1.2, hk.2⟩⟩)⟩, ⟨by (try simp only [hl348000_64]); (try simp only [hl348001_64]); (with_reducible repeat (first | apply Kd.R_alloc | apply Kd.R_drewN | apply Kd.R_drew)); exact Kd.R_mono HO_348000.out (fun _ hk => ⟨hk.1.1.1, ⟨hk.1.1.2, hk.2⟩⟩)⟩, ⟨by (try simp only [hl348000_64]); (try simp only [hl348001_64]); (with_reducible repeat (first | apply Kd.R_alloc | apply Kd.R_drewN | apply Kd.R_drew)); exact Kd.R_mono HO_348001.out (fun _ hk => ⟨hk.1.1.1, ⟨hk.1.1.2, hk.2⟩⟩)⟩, ⟨by (try simp only [hl348000_64]); (try simp only [hl348001_64]); (with_reducible repeat (first | apply Kd.R_alloc | apply Kd.R_drewN | apply Kd.R_drew)); exact Kd.R_mono HO_356000.out (fun _ hk => ⟨hk.1.1.1, ⟨hk.1.1.2, hk.2⟩⟩)⟩, ⟨by (try simp only [hl348000_64]); (try simp only [hl348001_64]); (with_reducible repeat (first | apply Kd.R_alloc | apply Kd.R_drewN | apply Kd.R_drew)); exact Kd.R_mono HO_356001.out (fun _ hk => ⟨hk.1.1.1, ⟨hk.1.1.2, hk.2⟩⟩)⟩, ⟨by (try simp only [hl348000_64]); (try simp only [hl348001_64]); (with_reducible repeat (first | apply Kd.R_alloc | apply Kd.R_drewN | apply Kd.R_drew)); exact Kd.R_mono HO380.out (fun _ hk => ⟨hk.1.1.1.2, ⟨hk.1.1.2, hk.1.2⟩⟩)⟩, ⟨by (try simp only [hl348000_64]); (try simp only [hl348001_64]); (with_reducible repeat (first | apply Kd.R_alloc | apply Kd.R_drewN | apply Kd.R_drew)); exact Kd.R_mono HO383.out (fun _ hk => ⟨hk.1.1.1.2, ⟨hk.1.1.2, hk.1.2⟩⟩)⟩, ⟨by (try simp only [hl348000_64]); (try simp only [hl348001_64]); (with_reducible repeat (first | refine blk_drewN ?_ _ | refine blk_drew ?_ | refine blk_alloc ?_ _)); exact BK325.out⟩, ⟨by (try simp only [hl348000_64]); (try simp only [hl348001_64]); (with_reducible repeat (first | refine blk_drewN ?_ _ | refine blk_drew ?_ | refine blk_alloc ?_ _)); exact BK340.out⟩, ⟨by (try simp only [hl348000_64]); (try simp only [hl348001_64]); (with_reducible repeat (first | refine blk_drewN ?_ _ | refine blk_drew ?_ | refine blk_alloc ?_ _)); exact BK347.out⟩, ⟨by (try simp only [hl348000_64]); (try simp only [hl348001_64]); (with_reducible repeat (first | refine blk_drewN ?_ _ | refine blk_drew ?_ | refine blk_alloc ?_ _)); exact BK355.out⟩, ⟨by (try simp only [hl348000_64]); (try simp only [hl348001_64]); (with_reducible repeat (first | refine blk_drewN ?_ _ | refine blk_drew ?_ | refine blk_alloc ?_ _)); exact BK385.out⟩, ⟨by repeat (first | (with_reducible first | exact HB.out | apply below_alloc | apply pw_below_drewN | apply below_drew1 | refine below_set ?_ GE325.out | refine below_set ?_ GE340.out | refine below_set ?_ GE347.out | refine below_set ?_ GE355.out | refine below_set ?_ GE385.out) | exact HB.out)⟩⟩
                      case rest =>
                        clear HC109
                        try clear c1
                        try clear c2
                        try clear p2
                        try clear c3
                        try clear c4
                        try clear c4b0
                        try clear c5
                        try clear c6
                        try clear c7
                        try clear c8
                        try clear c9
                        try clear c10
                        try clear c11
                        try clear c12
                        try clear c13
                        try clear c14
                        try clear c15
                        try clear c16
                        try clear c17
                        try clear c18
                        try clear c19
                        try clear c20
                        try clear c21
                        try clear c23
                        try clear c30
                        try clear c31
                        try clear c37
                        try clear c38
                        try clear c39
                        try clear c43
                        try clear c44
                        try clear c45
                        try clear c46
                        try clear c48
                        try clear c49
                        try clear c52
                        try clear c53
                        try clear c54
                        try clear c56
                        try clear c57
                        try clear c60
                        try clear c63
                        try clear c71
                        try clear c72
                        try clear c73
                        try clear c76
                        try clear c76b0
                        try clear c78
                        try clear c79
                        try clear c80
                        try clear c81
                        try clear c83
                        try clear c84
                        try clear c87
                        try clear c88
                        try clear c89
                        try clear c91
                        try clear c92
                        try clear c95
                        try clear c98
                        try clear c98b0
                        try clear c99
                        try clear c100
                        try clear c101
                        try clear c106
                        try clear c106b0
                        try clear c106b1
                        try clear c110
                        try clear c111
                        try clear c112
                        try clear c117
                        try clear c118
                        try clear c126
                        try clear c127
                        try clear c128
                        try clear c129
                        try clear c133
                        try clear c134
                        try clear c135
                        try clear c136
                        try clear c137
                        try clear c139
                        try clear c140
                        try clear c141
                        try clear c144
                        try clear c145
                        try clear c146
                        try clear c147
                        try clear c149
                        try clear c150
                        try clear c151
                        try clear hcz102_0
                        try clear hcz102_1
                        try clear hcz104_0
                        try clear hcz104_1
                        try clear hcz113_0
                        try clear hcz113_1
                        try clear hcz115_0
                        try clear hcz115_1
                        try clear hcz119_0
                        try clear hcz119_1
                        try clear hcz130_0
                        try clear hcz130_1
                        try clear hcz138_0
                        try clear hcz138_1
                        try clear hcz142_0
                        try clear hcz142_1
                        try clear hcz148_0
                        try clear hcz148_1
                        try clear hcz14_0
                        try clear hcz14_1
                        try clear hcz152_0
                        try clear hcz152_1
                        try clear hcz16_0
                        try clear hcz16_1
                        try clear hcz24_0
                        try clear hcz24_1
                        try clear hcz26_0
                        try clear hcz26_1
                        try clear hcz32_0
                        try clear hcz32_1
                        try clear hcz40_0
                        try clear hcz40_1
                        try clear hcz47_0
                        try clear hcz47_1
                        try clear hcz50_0
                        try clear hcz50_1
                        try clear hcz55_0
                        try clear hcz55_1
                        try clear hcz58_0
                        try clear hcz58_1
                        try clear hcz6_0
                        try clear hcz6_1
                        try clear hcz74_0
                        try clear hcz74_1
                        try clear hcz82_0
                        try clear hcz82_1
                        try clear hcz85_0
                        try clear hcz85_1
                        try clear hcz90_0
                        try clear hcz90_1
                        try clear hcz93_0
                        try clear hcz93_1
                        try clear hfz102_0
                        try clear hfz102_1
                        try clear hfz104_0
                        try clear hfz104_1
                        try clear hfz113_0
                        try clear hfz113_1
                        try clear hfz115_0
                        try clear hfz115_1
                        try clear hfz119_0
                        try clear hfz119_1
                        try clear hfz130_0
                        try clear hfz130_1
                        try clear hfz138_0
                        try clear hfz138_1
                        try clear hfz142_0
                        try clear hfz142_1
                        try clear hfz148_0
                        try clear hfz148_1
                        try clear hfz14_0
                        try clear hfz14_1
                        try clear hfz152_0
                        try clear hfz152_1
                        try clear hfz16_0
                        try clear hfz16_1
                        try clear hfz24_0
                        try clear hfz24_1
                        try clear hfz26_0
                        try clear hfz26_1
                        try clear hfz32_0
                        try clear hfz32_1
                        try clear hfz40_0
                        try clear hfz40_1
                        try clear hfz47_0
                        try clear hfz47_1
                        try clear hfz50_0
                        try clear hfz50_1
                        try clear hfz55_0
                        try clear hfz55_1
                        try clear hfz58_0
                        try clear hfz58_1
                        try clear hfz6_0
                        try clear hfz6_1
                        try clear hfz74_0
                        try clear hfz74_1
                        try clear hfz82_0
                        try clear hfz82_1
                        try clear hfz85_0
                        try clear hfz85_1
                        try clear hfz90_0
                        try clear hfz90_1
                        try clear hfz93_0
                        try clear hfz93_1
                        try clear p2
                        obtain ⟨kq, x92_108, rfl, HA, HJ108, HO_341000, HO_341001, HO_348000, HO_348001, HO_356000, HO_356001, HO_386000, HO_386001, BK325, BK340, BK347, BK355, BK385, HB⟩ := hcut
                        have hl356000_108 := (Kd.R_reads' HO_356000.out).1
                        rw [hl356000_108] at HO_356000
                        (try simp only [hl356000_108])
                        (try simp only [hl356000_108] at BK325)
                        (try simp only [hl356000_108] at BK340)
                        (try simp only [hl356000_108] at BK347)
                        (try simp only [hl356000_108] at BK355)
                        (try simp only [hl356000_108] at BK385)
                        (try simp only [hl356000_108] at HO_341000)
                        (try simp only [hl356000_108] at HO_341001)
                        (try simp only [hl356000_108] at HO_348000)
                        (try simp only [hl356000_108] at HO_348001)
                        (try simp only [hl356000_108] at HO_356001)
                        (try simp only [hl356000_108] at HO_386000)
                        (try simp only [hl356000_108] at HO_386001)
                        have hl356001_108 := (Kd.R_reads' HO_356001.out).1
                        rw [hl356001_108] at HO_356001
                        (try simp only [hl356001_108])
                        (try simp only [hl356001_108] at BK325)
                        (try simp only [hl356001_108] at BK340)
                        (try simp only [hl356001_108] at BK347)
                        (try simp only [hl356001_108] at BK355)
                        (try simp only [hl356001_108] at BK385)
                        (try simp only [hl356001_108] at HO_341000)
                        (try simp only [hl356001_108] at HO_341001)
                        (try simp only [hl356001_108] at HO_348000)
                        (try simp only [hl356001_108] at HO_348001)
                        (try simp only [hl356001_108] at HO_356000)
                        (try simp only [hl356001_108] at HO_386000)
                        (try simp only [hl356001_108] at HO_386001)
                        cases kq with
                        | zero => exact absurd HA.out (by simp [laws_FnExactPagesGive.j2])
                        | succ kj108 =>
                          have H := HA.out
                          clear HA
                          simp only [laws_FnExactPagesGive.j2] at H
                          by_cases c154 : x92_108 = true
                          · subst c154
                            have H1 : (some false) = some r := by rw [if_pos rfl] at H; exact H
                            clear H
                            have H := H1
                            clear H1
                            obtain rfl := Option.some.inj H
                            go_wp2
                            go_ret
                            exact ⟨by first | rfl | (simp [errW_none, errW_some] <;> rfl) | (simp [*, errW_none, errW_some] <;> rfl), by repeat (first | (with_reducible first | exact HB.out | apply below_alloc | apply pw_below_drewN | apply below_drew1 | refine below_set ?_ GE325.out | refine below_set ?_ GE340.out | refine below_set ?_ GE347.out | refine below_set ?_ GE355.out | refine below_set ?_ GE385.out) | exact HB.out)⟩
                          · replace c154 := Bool.eq_false_iff.mpr c154
                            subst c154
                            have H1 : ((laws_heldPages.f kj108 t369 t370 1).bind fun t387 => (if t387 < 0 then (some false) else (if t387 = t368 then (some true) else (some false)))) = some r := by rw [if_neg (show ¬ (false = true) by decide)] at H; exact H
                            clear H
                            have H := H1
                            clear H1
                            replace H := Option.bind_eq_some_iff.mp H
                            obtain ⟨t387, A1550, H⟩ := H
                            replace H : (if t387 < 0 then (some false) else (if t387 = t368 then (some true) else (some false))) = some r := H
                            have A155 := Aside0.mk A1550
                            clear A1550
                            by_cases c156 : t387 < 0
                            · rw [if_pos c156] at H
                              have c156b0 : decide (t387 < 0) = true := decide_eq_true c156
                              clear c156
                              obtain rfl := Option.some.inj H
                              have hnb157 := NB355_325.out
                              have hnc157 := NB325_355.out
                              have hnb158 := NB355_340.out
                              have hnc158 := NB340_355.out
                              have hnb159 := NB355_347.out
                              have hnc159 := NB347_355.out
                              have hnb160 := NB355_385.out
                              have hnc160 := NB385_355.out
                              have hcz161_0 : wc.cell? ⟨gb355, 0, none⟩ = some (.slice Ao36 t369.length co36) := (blk_cell BK355.out 0).trans rfl
                              have hcz161_1 : wc.cell? ⟨gb355, 1, none⟩ = some (.slice Ao41 t370.length co41) := (blk_cell BK355.out 1).trans rfl
                              have hfz161_0 := blk_frozen BK355.out 0
                              have hfz161_1 := blk_frozen BK355.out 1
                              go_wp2_with (first | ((with_reducible refine gate_callee (f := 21) rfl ?_); refine goesL_ (some 95) rfl rfl Try.func21 (by kernel_rfl) rfl #[.agg #[.slice Ao36 t369.length co36, .slice Ao41 t370.length co41], .int .i64 1] rfl (by (try simp only [List.map_toArray, List.map_cons, List.map_nil]); first | done | rfl | (simp only [List.length_drop, List.length_take]; rfl)) ?_; (with_reducible refine (laws_heldPages.calls kj108 _ _ t369 _ _ t370 1 t387 _ ?side1 ?side2 ?side3 ?side4 A155.out).mono ?_); (case side1 => repeat (first | exact (Kd.R_reads' HO_356000.out).2.2 | (with_reducible refine Kd.C_alloc ?_ _) | (with_reducible refine Kd.C_drewN ?_ _) | (with_reducible refine Kd.C_drew ?_))); (case side2 => exact (Kd.R_reads' HO_356000.out).2.1); (case side3 => repeat (first | exact (Kd.R_reads' HO_356001.out).2.2 | (with_reducible refine Kd.C_alloc ?_ _) | (with_reducible refine Kd.C_drewN ?_ _) | (with_reducible refine Kd.C_drew ?_))); (case side4 => exact (Kd.R_reads' HO_356001.out).2.1); rintro e w162 ⟨rfl, hb⟩; refine ⟨_, rfl, ?_⟩; have n0_ := Aside0.mk (Kd.R_below (by (with_reducible repeat (first | apply Kd.R_alloc | apply Kd.R_drewN | apply Kd.R_drew)); exact HO_341000.out) hb); have n1_ := Aside0.mk (Kd.R_below (by (with_reducible repeat (first | apply Kd.R_alloc | apply Kd.R_drewN | apply Kd.R_drew)); exact HO_341001.out) hb); have n2_ := Aside0.mk (Kd.R_below (by (with_reducible repeat (first | apply Kd.R_alloc | apply Kd.R_drewN | apply Kd.R_drew)); exact HO_348000.out) hb); have n3_ := Aside0.mk (Kd.R_below (by (with_reducible repeat (first | apply Kd.R_alloc | apply Kd.R_drewN | apply Kd.R_drew)); exact HO_348001.out) hb); have n4_ := Aside0.mk (Kd.R_below (by (with_reducible repeat (first | apply Kd.R_alloc | apply Kd.R_drewN | apply Kd.R_drew)); exact HO_356000.out) hb); have n5_ := Aside0.mk (Kd.R_below (by (with_reducible repeat (first | apply Kd.R_alloc | apply Kd.R_drewN | apply Kd.R_drew)); exact HO_356001.out) hb); have n6_ := Aside0.mk (Kd.R_below (by (with_reducible repeat (first | apply Kd.R_alloc | apply Kd.R_drewN | apply Kd.R_drew)); exact HO_386000.out) hb); have n7_ := Aside0.mk (Kd.R_below (by (with_reducible repeat (first | apply Kd.R_alloc | apply Kd.R_drewN | apply Kd.R_drew)); exact HO_386001.out) hb); have n8_ := Aside0.mk (blk_below (g := gb325) (o := .cells #[.slice A0_0 l0_0.length c0_0, .slice A0_1 l0_1.length c0_1] 38 (0, 0)) (by (with_reducible repeat (first | refine blk_drewN ?_ _ | refine blk_drew ?_ | refine blk_alloc ?_ _)); exact BK325.out) hb); have n9_ := Aside0.mk (blk_below (g := gb340) (o := .cells #[.slice Ao22 t333.length co22, .slice Ao25 t336.length co25] 40 (0, 0)) (by (with_reducible repeat (first | refine blk_drewN ?_ _ | refine blk_drew ?_ | refine blk_alloc ?_ _)); exact BK340.out) hb); have n10_ := Aside0.mk (blk_below (g := gb347) (o := .cells #[.slice Ao29 t365.length co29, .slice Ao33 t366.length co33] 40 (0, 0)) (by (with_reducible repeat (first | refine blk_drewN ?_ _ | refine blk_drew ?_ | refine blk_alloc ?_ _)); exact BK347.out) hb); have n11_ := Aside0.mk (blk_below (g := gb355) (o := .cells #[.slice Ao36 t369.length co36, .slice Ao41 t370.length co41] 40 (0, 0)) (by (with_reducible repeat (first | refine blk_drewN ?_ _ | refine blk_drew ?_ | refine blk_alloc ?_ _)); exact BK355.out) hb); have n12_ := Aside0.mk (blk_below (g := gb385) (o := .cells #[.slice Ao125 t378.length co125, .slice Ao131 t381.length co131] 40 (0, 0)) (by (with_reducible repeat (first | refine blk_drewN ?_ _ | refine blk_drew ?_ | refine blk_alloc ?_ _)); exact BK385.out) hb); have n13_ := Aside0.mk (below_step (by repeat (first | (with_reducible first | exact HB.out | apply below_alloc | apply pw_below_drewN | apply below_drew1 | refine below_set ?_ GE325.out | refine below_set ?_ GE340.out | refine below_set ?_ GE347.out | refine below_set ?_ GE355.out | refine below_set ?_ GE385.out) | exact HB.out)) hb); clear HO_341000; clear HO_341001; clear HO_348000; clear HO_348001; clear HO_356000; clear HO_356001; clear HO_386000; clear HO_386001; clear BK325; clear BK340; clear BK347; clear BK355; clear BK385; clear HB; have HO_341000 := n0_; have HO_341001 := n1_; have HO_348000 := n2_; have HO_348001 := n3_; have HO_356000 := n4_; have HO_356001 := n5_; have HO_386000 := n6_; have HO_386001 := n7_; have BK325 := n8_; have BK340 := n9_; have BK347 := n10_; have BK355 := n11_; have BK385 := n12_; have HB := n13_; clear n0_ n1_ n2_ n3_ n4_ n5_ n6_ n7_ n8_ n9_ n10_ n11_ n12_ n13_; (try clear hb); (try clear hb2); (try clear hk); (try clear hi)))
                              go_ret
                              exact ⟨by first | rfl | (simp [errW_none, errW_some] <;> rfl) | (simp [*, errW_none, errW_some] <;> rfl), by repeat (first | (with_reducible first | exact HB.out | apply below_alloc | apply pw_below_drewN | apply below_drew1 | refine below_set ?_ GE325.out | refine below_set ?_ GE340.out | refine below_set ?_ GE347.out | refine below_set ?_ GE355.out | refine below_set ?_ GE385.out) | exact HB.out)⟩
                            · rw [if_neg c156] at H
                              have c156b0 : decide (t387 < 0) = false := decide_eq_false c156
                              clear c156
                              by_cases c163 : t387 = t368
                              · rw [if_pos c163] at H
                                have c163b0 : (t387 == t368) = true := beq_iff_eq.mpr c163
                                have c163b1 : (t387 != t368) = false := bne_eq_false_iff_eq.mpr c163
                                clear c163
                                obtain rfl := Option.some.inj H
                                have hnb164 := NB355_325.out
                                have hnc164 := NB325_355.out
                                have hnb165 := NB355_340.out
                                have hnc165 := NB340_355.out
                                have hnb166 := NB355_347.out
                                have hnc166 := NB347_355.out
                                have hnb167 := NB355_385.out
                                have hnc167 := NB385_355.out
                                have hcz168_0 : wc.cell? ⟨gb355, 0, none⟩ = some (.slice Ao36 t369.length co36) := (blk_cell BK355.out 0).trans rfl
                                have hcz168_1 : wc.cell? ⟨gb355, 1, none⟩ = some (.slice Ao41 t370.length co41) := (blk_cell BK355.out 1).trans rfl
                                have hfz168_0 := blk_frozen BK355.out 0
                                have hfz168_1 := blk_frozen BK355.out 1
                                go_wp2_with (first | ((with_reducible refine gate_callee (f := 21) rfl ?_); refine goesL_ (some 95) rfl rfl Try.func21 (by kernel_rfl) rfl #[.agg #[.slice Ao36 t369.length co36, .slice Ao41 t370.length co41], .int .i64 1] rfl (by (try simp only [List.map_toArray, List.map_cons, List.map_nil]); first | done | rfl | (simp only [List.length_drop, List.length_take]; rfl)) ?_; (with_reducible refine (laws_heldPages.calls kj108 _ _ t369 _ _ t370 1 t387 _ ?side1 ?side2 ?side3 ?side4 A155.out).mono ?_); (case side1 => repeat (first | exact (Kd.R_reads' HO_356000.out).2.2 | (with_reducible refine Kd.C_alloc ?_ _) | (with_reducible refine Kd.C_drewN ?_ _) | (with_reducible refine Kd.C_drew ?_))); (case side2 => exact (Kd.R_reads' HO_356000.out).2.1); (case side3 => repeat (first | exact (Kd.R_reads' HO_356001.out).2.2 | (with_reducible refine Kd.C_alloc ?_ _) | (with_reducible refine Kd.C_drewN ?_ _) | (with_reducible refine Kd.C_drew ?_))); (case side4 => exact (Kd.R_reads' HO_356001.out).2.1); rintro e w169 ⟨rfl, hb⟩; refine ⟨_, rfl, ?_⟩; have n0_ := Aside0.mk (Kd.R_below (by (with_reducible repeat (first | apply Kd.R_alloc | apply Kd.R_drewN | apply Kd.R_drew)); exact HO_341000.out) hb); have n1_ := Aside0.mk (Kd.R_below (by (with_reducible repeat (first | apply Kd.R_alloc | apply Kd.R_drewN | apply Kd.R_drew)); exact HO_341001.out) hb); have n2_ := Aside0.mk (Kd.R_below (by (with_reducible repeat (first | apply Kd.R_alloc | apply Kd.R_drewN | apply Kd.R_drew)); exact HO_348000.out) hb); have n3_ := Aside0.mk (Kd.R_below (by (with_reducible repeat (first | apply Kd.R_alloc | apply Kd.R_drewN | apply Kd.R_drew)); exact HO_348001.out) hb); have n4_ := Aside0.mk (Kd.R_below (by (with_reducible repeat (first | apply Kd.R_alloc | apply Kd.R_drewN | apply Kd.R_drew)); exact HO_356000.out) hb); have n5_ := Aside0.mk (Kd.R_below (by (with_reducible repeat (first | apply Kd.R_alloc | apply Kd.R_drewN | apply Kd.R_drew)); exact HO_356001.out) hb); have n6_ := Aside0.mk (Kd.R_below (by (with_reducible repeat (first | apply Kd.R_alloc | apply Kd.R_drewN | apply Kd.R_drew)); exact HO_386000.out) hb); have n7_ := Aside0.mk (Kd.R_below (by (with_reducible repeat (first | apply Kd.R_alloc | apply Kd.R_drewN | apply Kd.R_drew)); exact HO_386001.out) hb); have n8_ := Aside0.mk (blk_below (g := gb325) (o := .cells #[.slice A0_0 l0_0.length c0_0, .slice A0_1 l0_1.length c0_1] 38 (0, 0)) (by (with_reducible repeat (first | refine blk_drewN ?_ _ | refine blk_drew ?_ | refine blk_alloc ?_ _)); exact BK325.out) hb); have n9_ := Aside0.mk (blk_below (g := gb340) (o := .cells #[.slice Ao22 t333.length co22, .slice Ao25 t336.length co25] 40 (0, 0)) (by (with_reducible repeat (first | refine blk_drewN ?_ _ | refine blk_drew ?_ | refine blk_alloc ?_ _)); exact BK340.out) hb); have n10_ := Aside0.mk (blk_below (g := gb347) (o := .cells #[.slice Ao29 t365.length co29, .slice Ao33 t366.length co33] 40 (0, 0)) (by (with_reducible repeat (first | refine blk_drewN ?_ _ | refine blk_drew ?_ | refine blk_alloc ?_ _)); exact BK347.out) hb); have n11_ := Aside0.mk (blk_below (g := gb355) (o := .cells #[.slice Ao36 t369.length co36, .slice Ao41 t370.length co41] 40 (0, 0)) (by (with_reducible repeat (first | refine blk_drewN ?_ _ | refine blk_drew ?_ | refine blk_alloc ?_ _)); exact BK355.out) hb); have n12_ := Aside0.mk (blk_below (g := gb385) (o := .cells #[.slice Ao125 t378.length co125, .slice Ao131 t381.length co131] 40 (0, 0)) (by (with_reducible repeat (first | refine blk_drewN ?_ _ | refine blk_drew ?_ | refine blk_alloc ?_ _)); exact BK385.out) hb); have n13_ := Aside0.mk (below_step (by repeat (first | (with_reducible first | exact HB.out | apply below_alloc | apply pw_below_drewN | apply below_drew1 | refine below_set ?_ GE325.out | refine below_set ?_ GE340.out | refine below_set ?_ GE347.out | refine below_set ?_ GE355.out | refine below_set ?_ GE385.out) | exact HB.out)) hb); clear HO_341000; clear HO_341001; clear HO_348000; clear HO_348001; clear HO_356000; clear HO_356001; clear HO_386000; clear HO_386001; clear BK325; clear BK340; clear BK347; clear BK355; clear BK385; clear HB; have HO_341000 := n0_; have HO_341001 := n1_; have HO_348000 := n2_; have HO_348001 := n3_; have HO_356000 := n4_; have HO_356001 := n5_; have HO_386000 := n6_; have HO_386001 := n7_; have BK325 := n8_; have BK340 := n9_; have BK347 := n10_; have BK355 := n11_; have BK385 := n12_; have HB := n13_; clear n0_ n1_ n2_ n3_ n4_ n5_ n6_ n7_ n8_ n9_ n10_ n11_ n12_ n13_; (try clear hb); (try clear hb2); (try clear hk); (try clear hi)))
                                go_ret
                                exact ⟨by first | rfl | (simp [errW_none, errW_some] <;> rfl) | (simp [*, errW_none, errW_some] <;> rfl), by repeat (first | (with_reducible first | exact HB.out | apply below_alloc | apply pw_below_drewN | apply below_drew1 | refine below_set ?_ GE325.out | refine below_set ?_ GE340.out | refine below_set ?_ GE347.out | refine below_set ?_ GE355.out | refine below_set ?_ GE385.out) | exact HB.out)⟩
                              · rw [if_neg c163] at H
                                have c163b0 : (t387 == t368) = false := beq_eq_false_iff_ne.mpr c163
                                have c163b1 : (t387 != t368) = true := bne_iff_ne.mpr c163
                                obtain rfl := Option.some.inj H
                                have hnb170 := NB355_325.out
                                have hnc170 := NB325_355.out
                                have hnb171 := NB355_340.out
                                have hnc171 := NB340_355.out
                                have hnb172 := NB355_347.out
                                have hnc172 := NB347_355.out
                                have hnb173 := NB355_385.out
                                have hnc173 := NB385_355.out
                                have hcz174_0 : wc.cell? ⟨gb355, 0, none⟩ = some (.slice Ao36 t369.length co36) := (blk_cell BK355.out 0).trans rfl
                                have hcz174_1 : wc.cell? ⟨gb355, 1, none⟩ = some (.slice Ao41 t370.length co41) := (blk_cell BK355.out 1).trans rfl
                                have hfz174_0 := blk_frozen BK355.out 0
                                have hfz174_1 := blk_frozen BK355.out 1
                                go_wp2_with (first | ((with_reducible refine gate_callee (f := 21) rfl ?_); refine goesL_ (some 95) rfl rfl Try.func21 (by kernel_rfl) rfl #[.agg #[.slice Ao36 t369.length co36, .slice Ao41 t370.length co41], .int .i64 1] rfl (by (try simp only [List.map_toArray, List.map_cons, List.map_nil]); first | done | rfl | (simp only [List.length_drop, List.length_take]; rfl)) ?_; (with_reducible refine (laws_heldPages.calls kj108 _ _ t369 _ _ t370 1 t387 _ ?side1 ?side2 ?side3 ?side4 A155.out).mono ?_); (case side1 => repeat (first | exact (Kd.R_reads' HO_356000.out).2.2 | (with_reducible refine Kd.C_alloc ?_ _) | (with_reducible refine Kd.C_drewN ?_ _) | (with_reducible refine Kd.C_drew ?_))); (case side2 => exact (Kd.R_reads' HO_356000.out).2.1); (case side3 => repeat (first | exact (Kd.R_reads' HO_356001.out).2.2 | (with_reducible refine Kd.C_alloc ?_ _) | (with_reducible refine Kd.C_drewN ?_ _) | (with_reducible refine Kd.C_drew ?_))); (case side4 => exact (Kd.R_reads' HO_356001.out).2.1); rintro e w175 ⟨rfl, hb⟩; refine ⟨_, rfl, ?_⟩; have n0_ := Aside0.mk (Kd.R_below (by (with_reducible repeat (first | apply Kd.R_alloc | apply Kd.R_drewN | apply Kd.R_drew)); exact HO_341000.out) hb); have n1_ := Aside0.mk (Kd.R_below (by (with_reducible repeat (first | apply Kd.R_alloc | apply Kd.R_drewN | apply Kd.R_drew)); exact HO_341001.out) hb); have n2_ := Aside0.mk (Kd.R_below (by (with_reducible repeat (first | apply Kd.R_alloc | apply Kd.R_drewN | apply Kd.R_drew)); exact HO_348000.out) hb); have n3_ := Aside0.mk (Kd.R_below (by (with_reducible repeat (first | apply Kd.R_alloc | apply Kd.R_drewN | apply Kd.R_drew)); exact HO_348001.out) hb); have n4_ := Aside0.mk (Kd.R_below (by (with_reducible repeat (first | apply Kd.R_alloc | apply Kd.R_drewN | apply Kd.R_drew)); exact HO_356000.out) hb); have n5_ := Aside0.mk (Kd.R_below (by (with_reducible repeat (first | apply Kd.R_alloc | apply Kd.R_drewN | apply Kd.R_drew)); exact HO_356001.out) hb); have n6_ := Aside0.mk (Kd.R_below (by (with_reducible repeat (first | apply Kd.R_alloc | apply Kd.R_drewN | apply Kd.R_drew)); exact HO_386000.out) hb); have n7_ := Aside0.mk (Kd.R_below (by (with_reducible repeat (first | apply Kd.R_alloc | apply Kd.R_drewN | apply Kd.R_drew)); exact HO_386001.out) hb); have n8_ := Aside0.mk (blk_below (g := gb325) (o := .cells #[.slice A0_0 l0_0.length c0_0, .slice A0_1 l0_1.length c0_1] 38 (0, 0)) (by (with_reducible repeat (first | refine blk_drewN ?_ _ | refine blk_drew ?_ | refine blk_alloc ?_ _)); exact BK325.out) hb); have n9_ := Aside0.mk (blk_below (g := gb340) (o := .cells #[.slice Ao22 t333.length co22, .slice Ao25 t336.length co25] 40 (0, 0)) (by (with_reducible repeat (first | refine blk_drewN ?_ _ | refine blk_drew ?_ | refine blk_alloc ?_ _)); exact BK340.out) hb); have n10_ := Aside0.mk (blk_below (g := gb347) (o := .cells #[.slice Ao29 t365.length co29, .slice Ao33 t366.length co33] 40 (0, 0)) (by (with_reducible repeat (first | refine blk_drewN ?_ _ | refine blk_drew ?_ | refine blk_alloc ?_ _)); exact BK347.out) hb); have n11_ := Aside0.mk (blk_below (g := gb355) (o := .cells #[.slice Ao36 t369.length co36, .slice Ao41 t370.length co41] 40 (0, 0)) (by (with_reducible repeat (first | refine blk_drewN ?_ _ | refine blk_drew ?_ | refine blk_alloc ?_ _)); exact BK355.out) hb); have n12_ := Aside0.mk (blk_below (g := gb385) (o := .cells #[.slice Ao125 t378.length co125, .slice Ao131 t381.length co131] 40 (0, 0)) (by (with_reducible repeat (first | refine blk_drewN ?_ _ | refine blk_drew ?_ | refine blk_alloc ?_ _)); exact BK385.out) hb); have n13_ := Aside0.mk (below_step (by repeat (first | (with_reducible first | exact HB.out | apply below_alloc | apply pw_below_drewN | apply below_drew1 | refine below_set ?_ GE325.out | refine below_set ?_ GE340.out | refine below_set ?_ GE347.out | refine below_set ?_ GE355.out | refine below_set ?_ GE385.out) | exact HB.out)) hb); clear HO_341000; clear HO_341001; clear HO_348000; clear HO_348001; clear HO_356000; clear HO_356001; clear HO_386000; clear HO_386001; clear BK325; clear BK340; clear BK347; clear BK355; clear BK385; clear HB; have HO_341000 := n0_; have HO_341001 := n1_; have HO_348000 := n2_; have HO_348001 := n3_; have HO_356000 := n4_; have HO_356001 := n5_; have HO_386000 := n6_; have HO_386001 := n7_; have BK325 := n8_; have BK340 := n9_; have BK347 := n10_; have BK355 := n11_; have BK385 := n12_; have HB := n13_; clear n0_ n1_ n2_ n3_ n4_ n5_ n6_ n7_ n8_ n9_ n10_ n11_ n12_ n13_; (try clear hb); (try clear hb2); (try clear hk); (try clear hi)))
                                go_ret
                                exact ⟨by first | rfl | (simp [errW_none, errW_some] <;> rfl) | (simp [*, errW_none, errW_some] <;> rfl), by repeat (first | (with_reducible first | exact HB.out | apply below_alloc | apply pw_below_drewN | apply below_drew1 | refine below_set ?_ GE325.out | refine below_set ?_ GE340.out | refine below_set ?_ GE347.out | refine below_set ?_ GE355.out | refine below_set ?_ GE385.out) | exact HB.out)⟩
                    · rw [if_neg c106] at H
                      have c106b0 : (t371 == t368) = false := beq_eq_false_iff_ne.mpr c106
                      have c106b1 : (t371 != t368) = true := bne_iff_ne.mpr c106
                      obtain rfl := Option.some.inj H
                      have hnb176 := NB355_325.out
                      have hnc176 := NB325_355.out
                      have hnb177 := NB355_340.out
                      have hnc177 := NB340_355.out
                      have hnb178 := NB355_347.out
                      have hnc178 := NB347_355.out
                      have hcz179_0 : wc.cell? ⟨gb355, 0, none⟩ = some (.slice Ao36 t348.length co36) := (blk_cell BK355.out 0).trans rfl
                      have hcz179_1 : wc.cell? ⟨gb355, 1, none⟩ = some (.slice Ao41 t351.length co41) := (blk_cell BK355.out 1).trans rfl
                      have hfz179_0 := blk_frozen BK355.out 0
                      have hfz179_1 := blk_frozen BK355.out 1
                      go_wp2_with (first | ((with_reducible refine gate_callee (f := 20) rfl ?_); refine goesL_ (some 68) rfl rfl Try.func20 (by kernel_rfl) rfl #[.agg #[.slice Ao36 t348.length co36, .slice Ao41 t351.length co41], .int .i64 1] rfl (by (try simp only [List.map_toArray, List.map_cons, List.map_nil]); first | done | rfl | (simp only [List.length_drop, List.length_take]; rfl)) ?_; (with_reducible refine (laws_markPages.calls kj64 (fun k_ => some k_ = (.slice Ao36 t348.length co36 : Value).ownBlock) (.slice Ao36 t348.length co36) t348 (fun k_ => some k_ = (.slice Ao41 t351.length co41 : Value).ownBlock) (.slice Ao41 t351.length co41) t351 1 t368 t369 t370 w _ ?side1 ?side2 ?side3 A96.out).mono ?_); (case side1 => repeat (first | (with_reducible first | exact HB.out | apply below_alloc | apply pw_below_drewN | apply below_drew1 | refine below_set ?_ GE325.out | refine below_set ?_ GE340.out | refine below_set ?_ GE347.out | refine below_set ?_ GE355.out) | exact HB.out)); (case side2 => exact Kd.R_tight rfl HO_356000.out); (case side3 => exact Kd.R_tight rfl HO_356001.out); rintro e w180 ⟨rfl, hy0, hy1, hb, hkp⟩; refine ⟨_, rfl, ?_⟩; have n0_ := Aside0.mk (Kd.R_mono (ok' := fun k_ => some k_ ≠ (.slice Ao29 t365.length co29 : Value).ownBlock ∧ some k_ ≠ (.slice Ao36 t348.length co36 : Value).ownBlock) (Kd.R_keptB ((Kd.R_apart' HO_341000.out (Kd.R_typed HO_356001.out) (by decide))) hkp (fun k_ hk_ hs_ => Or.elim hs_ (fun e_ => (hk_.1.2) e_) (fun e_ => (hk_.2) e_))) (fun k_ hk_ => ⟨hk_.1.1.1, hk_.1.1.2⟩)); have n1_ := Aside0.mk (Kd.R_mono (ok' := fun k_ => some k_ ≠ (.slice Ao33 t366.length co33 : Value).ownBlock ∧ some k_ ≠ (.slice Ao41 t351.length co41 : Value).ownBlock) (Kd.R_keptB ((Kd.R_apart' HO_341001.out (Kd.R_typed HO_356000.out) (by decide))) hkp (fun k_ hk_ hs_ => Or.elim hs_ (fun e_ => (hk_.2) e_) (fun e_ => (hk_.1.2) e_))) (fun k_ hk_ => ⟨hk_.1.1.1, hk_.1.1.2⟩)); have n2_ := Aside0.mk (Kd.R_mono (ok' := fun k_ => some k_ ≠ (.slice Ao22 t333.length co22 : Value).ownBlock ∧ some k_ ≠ (.slice Ao36 t348.length co36 : Value).ownBlock) (Kd.R_keptB ((Kd.R_apart' HO_348000.out (Kd.R_typed HO_356001.out) (by decide))) hkp (fun k_ hk_ hs_ => Or.elim hs_ (fun e_ => (hk_.1.2) e_) (fun e_ => (hk_.2) e_))) (fun k_ hk_ => ⟨hk_.1.1.1, hk_.1.1.2⟩)); have n3_ := Aside0.mk (Kd.R_mono (ok' := fun k_ => some k_ ≠ (.slice Ao25 t336.length co25 : Value).ownBlock ∧ some k_ ≠ (.slice Ao41 t351.length co41 : Value).ownBlock) (Kd.R_keptB ((Kd.R_apart' HO_348001.out (Kd.R_typed HO_356000.out) (by decide))) hkp (fun k_ hk_ hs_ => Or.elim hs_ (fun e_ => (hk_.2) e_) (fun e_ => (hk_.1.2) e_))) (fun k_ hk_ => ⟨hk_.1.1.1, hk_.1.1.2⟩)); have n4_ := Aside0.mk (Kd.R_reok rfl hy0 (fun k_ e_ => HO_356000.out.1 k_ e_)); have n5_ := Aside0.mk (Kd.R_reok rfl hy1 (fun k_ e_ => HO_356001.out.1 k_ e_)); have n6_ := Aside0.mk (blk_kept (by (with_reducible repeat (first | refine blk_drewN ?_ _ | refine blk_drew ?_ | refine blk_alloc ?_ _)); exact BK325.out) hkp (fun hs_ => Or.elim hs_ (fun e_ => (fun e_ => (Kd.R_ne HO_356000.out BK325.out (by decide)) e_) e_) (fun e_ => (fun e_ => (Kd.R_ne HO_356001.out BK325.out (by decide)) e_) e_))); have n7_ := Aside0.mk (blk_kept (by (with_reducible repeat (first | refine blk_drewN ?_ _ | refine blk_drew ?_ | refine blk_alloc ?_ _)); exact BK340.out) hkp (fun hs_ => Or.elim hs_ (fun e_ => (fun e_ => (Kd.R_ne HO_356000.out BK340.out (by decide)) e_) e_) (fun e_ => (fun e_ => (Kd.R_ne HO_356001.out BK340.out (by decide)) e_) e_))); have n8_ := Aside0.mk (blk_kept (by (with_reducible repeat (first | refine blk_drewN ?_ _ | refine blk_drew ?_ | refine blk_alloc ?_ _)); exact BK347.out) hkp (fun hs_ => Or.elim hs_ (fun e_ => (fun e_ => (Kd.R_ne HO_356000.out BK347.out (by decide)) e_) e_) (fun e_ => (fun e_ => (Kd.R_ne HO_356001.out BK347.out (by decide)) e_) e_))); have n9_ := Aside0.mk (blk_kept (by (with_reducible repeat (first | refine blk_drewN ?_ _ | refine blk_drew ?_ | refine blk_alloc ?_ _)); exact BK355.out) hkp (fun hs_ => Or.elim hs_ (fun e_ => (fun e_ => (Kd.R_ne HO_356000.out BK355.out (by decide)) e_) e_) (fun e_ => (fun e_ => (Kd.R_ne HO_356001.out BK355.out (by decide)) e_) e_))); have n10_ := Aside0.mk (hb); clear HO_341000; clear HO_341001; clear HO_348000; clear HO_348001; clear HO_356000; clear HO_356001; clear BK325; clear BK340; clear BK347; clear BK355; clear HB; have HO_341000 := n0_; have HO_341001 := n1_; have HO_348000 := n2_; have HO_348001 := n3_; have HO_356000 := n4_; have HO_356001 := n5_; have BK325 := n6_; have BK340 := n7_; have BK347 := n8_; have BK355 := n9_; have HB := n10_; clear n0_ n1_ n2_ n3_ n4_ n5_ n6_ n7_ n8_ n9_ n10_; (try clear hb); (try clear hkp); (try clear hy0); (try clear hy1); have hcz181_0 : w180.cell? ⟨gb355, 0, none⟩ = some (.slice Ao36 t348.length co36) := (blk_cell BK355.out 0).trans rfl; have hcz181_1 : w180.cell? ⟨gb355, 1, none⟩ = some (.slice Ao41 t351.length co41) := (blk_cell BK355.out 1).trans rfl; have hfz181_0 := blk_frozen BK355.out 0; have hfz181_1 := blk_frozen BK355.out 1) | ((with_reducible refine gate_callee (f := 21) rfl ?_); refine goesL_ (some 71) rfl rfl Try.func21 (by kernel_rfl) rfl #[.agg #[.slice Ao36 t369.length co36, .slice Ao41 t370.length co41], .int .i64 1] rfl (by (try simp only [List.map_toArray, List.map_cons, List.map_nil]); first | done | (rw [show t369.length = t348.length from (Kd.R_reads' HO_356000.out).1.symm, show t370.length = t351.length from (Kd.R_reads' HO_356001.out).1.symm] <;> rfl) | rfl | (simp only [List.length_drop, List.length_take]; rfl)) ?_; (with_reducible refine (laws_heldPages.calls kj64 _ _ t369 _ _ t370 1 t371 _ ?side1 ?side2 ?side3 ?side4 A97.out).mono ?_); (case side1 => repeat (first | exact (Kd.R_reads' HO_356000.out).2.2 | (with_reducible refine Kd.C_alloc ?_ _) | (with_reducible refine Kd.C_drewN ?_ _) | (with_reducible refine Kd.C_drew ?_))); (case side2 => rw [show t369.length = t348.length from (Kd.R_reads' HO_356000.out).1.symm]; exact (Kd.R_reads' HO_356000.out).2.1); (case side3 => repeat (first | exact (Kd.R_reads' HO_356001.out).2.2 | (with_reducible refine Kd.C_alloc ?_ _) | (with_reducible refine Kd.C_drewN ?_ _) | (with_reducible refine Kd.C_drew ?_))); (case side4 => rw [show t370.length = t351.length from (Kd.R_reads' HO_356001.out).1.symm]; exact (Kd.R_reads' HO_356001.out).2.1); rintro e w182 ⟨rfl, hb⟩; refine ⟨_, rfl, ?_⟩; have n0_ := Aside0.mk (Kd.R_below (by (with_reducible repeat (first | apply Kd.R_alloc | apply Kd.R_drewN | apply Kd.R_drew)); exact HO_341000.out) hb); have n1_ := Aside0.mk (Kd.R_below (by (with_reducible repeat (first | apply Kd.R_alloc | apply Kd.R_drewN | apply Kd.R_drew)); exact HO_341001.out) hb); have n2_ := Aside0.mk (Kd.R_below (by (with_reducible repeat (first | apply Kd.R_alloc | apply Kd.R_drewN | apply Kd.R_drew)); exact HO_348000.out) hb); have n3_ := Aside0.mk (Kd.R_below (by (with_reducible repeat (first | apply Kd.R_alloc | apply Kd.R_drewN | apply Kd.R_drew)); exact HO_348001.out) hb); have n4_ := Aside0.mk (Kd.R_below (by (with_reducible repeat (first | apply Kd.R_alloc | apply Kd.R_drewN | apply Kd.R_drew)); exact HO_356000.out) hb); have n5_ := Aside0.mk (Kd.R_below (by (with_reducible repeat (first | apply Kd.R_alloc | apply Kd.R_drewN | apply Kd.R_drew)); exact HO_356001.out) hb); have n6_ := Aside0.mk (blk_below (g := gb325) (o := .cells #[.slice A0_0 l0_0.length c0_0, .slice A0_1 l0_1.length c0_1] 38 (0, 0)) (by (with_reducible repeat (first | refine blk_drewN ?_ _ | refine blk_drew ?_ | refine blk_alloc ?_ _)); exact BK325.out) hb); have n7_ := Aside0.mk (blk_below (g := gb340) (o := .cells #[.slice Ao22 t333.length co22, .slice Ao25 t336.length co25] 40 (0, 0)) (by (with_reducible repeat (first | refine blk_drewN ?_ _ | refine blk_drew ?_ | refine blk_alloc ?_ _)); exact BK340.out) hb); have n8_ := Aside0.mk (blk_below (g := gb347) (o := .cells #[.slice Ao29 t365.length co29, .slice Ao33 t366.length co33] 40 (0, 0)) (by (with_reducible repeat (first | refine blk_drewN ?_ _ | refine blk_drew ?_ | refine blk_alloc ?_ _)); exact BK347.out) hb); have n9_ := Aside0.mk (blk_below (g := gb355) (o := .cells #[.slice Ao36 t348.length co36, .slice Ao41 t351.length co41] 40 (0, 0)) (by (with_reducible repeat (first | refine blk_drewN ?_ _ | refine blk_drew ?_ | refine blk_alloc ?_ _)); exact BK355.out) hb); have n10_ := Aside0.mk (below_step (by repeat (first | (with_reducible first | exact HB.out | apply below_alloc | apply pw_below_drewN | apply below_drew1 | refine below_set ?_ GE325.out | refine below_set ?_ GE340.out | refine below_set ?_ GE347.out | refine below_set ?_ GE355.out) | exact HB.out)) hb); clear HO_341000; clear HO_341001; clear HO_348000; clear HO_348001; clear HO_356000; clear HO_356001; clear BK325; clear BK340; clear BK347; clear BK355; clear HB; have HO_341000 := n0_; have HO_341001 := n1_; have HO_348000 := n2_; have HO_348001 := n3_; have HO_356000 := n4_; have HO_356001 := n5_; have BK325 := n6_; have BK340 := n7_; have BK347 := n8_; have BK355 := n9_; have HB := n10_; clear n0_ n1_ n2_ n3_ n4_ n5_ n6_ n7_ n8_ n9_ n10_; (try clear hb); (try clear hb2); (try clear hk); (try clear hi)))
                      go_ret
                      exact ⟨by first | rfl | (simp [errW_none, errW_some] <;> rfl) | (simp [*, errW_none, errW_some] <;> rfl), by repeat (first | (with_reducible first | exact HB.out | apply below_alloc | apply pw_below_drewN | apply below_drew1 | refine below_set ?_ GE325.out | refine below_set ?_ GE340.out | refine below_set ?_ GE347.out | refine below_set ?_ GE355.out) | exact HB.out)⟩
          · replace c63 := Bool.eq_false_iff.mpr c63
            subst c63
            have H1 : (some false) = some r := by rw [if_neg (show ¬ (false = true) by decide)] at H; exact H
            clear H
            have H := H1
            clear H1
            obtain rfl := Option.some.inj H
            try go_wp2
            have n0_ := Aside0.mk (Kd.R_drew HO_341000.out)
            have n1_ := Aside0.mk (Kd.R_drew HO_341001.out)
            have n2_ := Aside0.mk (Kd.R_drew HO_348000.out)
            have n3_ := Aside0.mk (Kd.R_drew HO_348001.out)
            have n4_ := Aside0.mk (Kd.R_drew HO_356000.out)
            have n5_ := Aside0.mk (Kd.R_drew HO_356001.out)
            have n6_ := Aside0.mk (blk_drew BK325.out)
            have n7_ := Aside0.mk (blk_drew BK340.out)
            have n8_ := Aside0.mk (blk_drew BK347.out)
            have n9_ := Aside0.mk (blk_drew BK355.out)
            have n10_ := Aside0.mk (below_drew1 HB.out)
            clear HO_341000
            clear HO_341001
            clear HO_348000
            clear HO_348001
            clear HO_356000
            clear HO_356001
            clear BK325
            clear BK340
            clear BK347
            clear BK355
            clear HB
            have HO_341000 := n0_
            have HO_341001 := n1_
            have HO_348000 := n2_
            have HO_348001 := n3_
            have HO_356000 := n4_
            have HO_356001 := n5_
            have BK325 := n6_
            have BK340 := n7_
            have BK347 := n8_
            have BK355 := n9_
            have HB := n10_
            clear n0_ n1_ n2_ n3_ n4_ n5_ n6_ n7_ n8_ n9_ n10_
            refine start_ (n := 5) (S := fun w' => w'.cell? ⟨gb347, 0, none⟩ = some (.slice Ao29 t341.length co29) ∧ w'.cell? ⟨gb347, 1, none⟩ = some (.slice Ao33 t344.length co33) ∧ w'.cell? ⟨gb325, 0, none⟩ = some (.slice A0_0 l0_0.length c0_0) ∧ w'.cell? ⟨gb325, 1, none⟩ = some (.slice A0_1 l0_1.length c0_1)) (ds := []) #[false, false, false, false, false] (by kernel_rfl) rfl rfl ⟨(blk_cell BK347.out 0).trans rfl, (blk_cell BK347.out 1).trans rfl, (blk_cell BK325.out 0).trans rfl, (blk_cell BK325.out 1).trans rfl⟩ (fun hHeld => ?_)
            generalize wc.drew = w183 at HO_341000 HO_341001 HO_348000 HO_348001 HO_356000 HO_356001 BK325 BK340 BK347 BK355 HB hHeld ⊢
            refine take_ (i := 0) (N := some 45) (v := ?_) (a' := ?_) #[true, false, false, false, false] rfl rfl (by kernel_rfl) (fun _ _ _ h => h) (Or.inl ⟨by rfl, ?_⟩) hHeld ?_ ?_
            rotate_left
            · rintro w' ⟨s0, s1, s2, s3⟩
              go_simp
              with_reducible rfl
            rotate_left
            · simp only [Act.put, List.setIfInBounds_toArray, List.set_cons_zero, List.set_cons_succ, i64_w, i32_w]
              rfl
            refine take_ (i := 1) (N := some 46) (v := ?_) (a' := ?_) #[true, true, false, false, false] rfl rfl (by kernel_rfl) (fun _ _ _ h => h) (Or.inl ⟨by rfl, ?_⟩) hHeld ?_ ?_
            rotate_left
            · rintro w' ⟨s0, s1, s2, s3⟩
              go_simp
              with_reducible rfl
            rotate_left
            · simp only [Act.put, List.setIfInBounds_toArray, List.set_cons_zero, List.set_cons_succ, i64_w, i32_w]
              rfl
            refine one_ (i := 2) (N := some 47) #[true, true, true, false, false] rfl rfl (by kernel_rfl) (by decide) (fun K hK => ?_)
            refine goes_ Try.func17 (by kernel_rfl) rfl #[.agg #[.slice A0_0 l0_0.length c0_0, .slice A0_1 l0_1.length c0_1]] (by rfl) rfl rfl (by (try simp only [List.map_toArray, List.map_cons, List.map_nil]); first | done | rfl | (simp only [List.length_drop, List.length_take]; rfl)) ?_
            with_reducible refine (laws_toPages.calls kj11 _ _ l0_0 _ _ l0_1 t357 t360 _ ?side1 ?side2 ?side3 ?side4 A61.out).mono ?_
            (case side1 => repeat (first | exact (Kd.C_below HR0_0.out HB.out) | (with_reducible refine Kd.C_alloc ?_ _) | (with_reducible refine Kd.C_drewN ?_ _) | (with_reducible refine Kd.C_drew ?_)))
            (case side2 => exact HC0_0.out)
            (case side3 => repeat (first | exact (Kd.C_below HR0_1.out HB.out) | (with_reducible refine Kd.C_alloc ?_ _) | (with_reducible refine Kd.C_drewN ?_ _) | (with_reducible refine Kd.C_drew ?_)))
            (case side4 => exact HC0_1.out)
            rintro e w184 ⟨v358, v361, rfl, ho0, ho1, hb⟩
            refine ⟨_, rfl, ?_⟩
            have n0_ := Aside0.mk (Kd.R_elder' (by (with_reducible repeat (first | apply Kd.R_alloc | apply Kd.R_drewN | apply Kd.R_drew)); exact HO_341000.out) (Kd.R_base ho0) hb)
            have n1_ := Aside0.mk (Kd.R_elder' (by (with_reducible repeat (first | apply Kd.R_alloc | apply Kd.R_drewN | apply Kd.R_drew)); exact HO_341001.out) (Kd.R_base ho1) hb)
            have n2_ := Aside0.mk (Kd.R_elder' (by (with_reducible repeat (first | apply Kd.R_alloc | apply Kd.R_drewN | apply Kd.R_drew)); exact HO_348000.out) (Kd.R_base ho0) hb)
            have n3_ := Aside0.mk (Kd.R_elder' (by (with_reducible repeat (first | apply Kd.R_alloc | apply Kd.R_drewN | apply Kd.R_drew)); exact HO_348001.out) (Kd.R_base ho1) hb)
            have n4_ := Aside0.mk (Kd.R_elder' (by (with_reducible repeat (first | apply Kd.R_alloc | apply Kd.R_drewN | apply Kd.R_drew)); exact HO_356000.out) (Kd.R_base ho0) hb)
            have n5_ := Aside0.mk (Kd.R_elder' (by (with_reducible repeat (first | apply Kd.R_alloc | apply Kd.R_drewN | apply Kd.R_drew)); exact HO_356001.out) (Kd.R_base ho1) hb)
            have n6_ := Aside0.mk (Kd.R_lower (Kd.R_new' (Kd.R_new' (Kd.R_new' ho0 (Kd.R_lt (by (with_reducible repeat (first | apply Kd.R_alloc | apply Kd.R_drewN | apply Kd.R_drew)); exact HO_341000.out))) (Kd.R_lt (by (with_reducible repeat (first | apply Kd.R_alloc | apply Kd.R_drewN | apply Kd.R_drew)); exact HO_348000.out))) (Kd.R_lt (by (with_reducible repeat (first | apply Kd.R_alloc | apply Kd.R_drewN | apply Kd.R_drew)); exact HO_356000.out))) (below_size (by repeat (first | (with_reducible first | exact HB.out | apply below_alloc | apply pw_below_drewN | apply below_drew1 | refine below_set ?_ GE325.out | refine below_set ?_ GE340.out | refine below_set ?_ GE347.out | refine below_set ?_ GE355.out) | exact HB.out))))
            have n7_ := Aside0.mk (Kd.R_lower (Kd.R_new' (Kd.R_new' (Kd.R_new' ho1 (Kd.R_lt (by (with_reducible repeat (first | apply Kd.R_alloc | apply Kd.R_drewN | apply Kd.R_drew)); exact HO_341001.out))) (Kd.R_lt (by (with_reducible repeat (first | apply Kd.R_alloc | apply Kd.R_drewN | apply Kd.R_drew)); exact HO_348001.out))) (Kd.R_lt (by (with_reducible repeat (first | apply Kd.R_alloc | apply Kd.R_drewN | apply Kd.R_drew)); exact HO_356001.out))) (below_size (by repeat (first | (with_reducible first | exact HB.out | apply below_alloc | apply pw_below_drewN | apply below_drew1 | refine below_set ?_ GE325.out | refine below_set ?_ GE340.out | refine below_set ?_ GE347.out | refine below_set ?_ GE355.out) | exact HB.out))))
            have n8_ := Aside0.mk (blk_below (g := gb325) (o := .cells #[.slice A0_0 l0_0.length c0_0, .slice A0_1 l0_1.length c0_1] 38 (0, 0)) (by (with_reducible repeat (first | refine blk_drewN ?_ _ | refine blk_drew ?_ | refine blk_alloc ?_ _)); exact BK325.out) hb)
            have n9_ := Aside0.mk (blk_below (g := gb340) (o := .cells #[.slice Ao22 t333.length co22, .slice Ao25 t336.length co25] 40 (0, 0)) (by (with_reducible repeat (first | refine blk_drewN ?_ _ | refine blk_drew ?_ | refine blk_alloc ?_ _)); exact BK340.out) hb)
            have n10_ := Aside0.mk (blk_below (g := gb347) (o := .cells #[.slice Ao29 t341.length co29, .slice Ao33 t344.length co33] 40 (0, 0)) (by (with_reducible repeat (first | refine blk_drewN ?_ _ | refine blk_drew ?_ | refine blk_alloc ?_ _)); exact BK347.out) hb)
            have n11_ := Aside0.mk (blk_below (g := gb355) (o := .cells #[.slice Ao36 t348.length co36, .slice Ao41 t351.length co41] 40 (0, 0)) (by (with_reducible repeat (first | refine blk_drewN ?_ _ | refine blk_drew ?_ | refine blk_alloc ?_ _)); exact BK355.out) hb)
            have n12_ := Aside0.mk (below_step (by repeat (first | (with_reducible first | exact HB.out | apply below_alloc | apply pw_below_drewN | apply below_drew1 | refine below_set ?_ GE325.out | refine below_set ?_ GE340.out | refine below_set ?_ GE347.out | refine below_set ?_ GE355.out) | exact HB.out)) hb)
            clear HO_341000
            clear HO_341001
            clear HO_348000
            clear HO_348001
            clear HO_356000
            clear HO_356001
            clear BK325
            clear BK340
            clear BK347
            clear BK355
            clear HB
            have HO_341000 := n0_
            have HO_341001 := n1_
            have HO_348000 := n2_
            have HO_348001 := n3_
            have HO_356000 := n4_
            have HO_356001 := n5_
            have HO359 := n6_
            have HO362 := n7_
            have BK325 := n8_
            have BK340 := n9_
            have BK347 := n10_
            have BK355 := n11_
            have HB := n12_
            clear n0_ n1_ n2_ n3_ n4_ n5_ n6_ n7_ n8_ n9_ n10_ n11_ n12_
            (try clear hb)
            (try clear hb2)
            (try clear hk)
            (try clear hi)
            (try clear ho0)
            (try clear ho1)
            obtain ⟨Ao185, co185, eo185⟩ := Kd.R_slice HO359.out
            (first | subst eo185 | (injection eo185 with f1_ f2_ f3_; have f4_ := f1_.symm; have f5_ := f3_.symm; clear f1_ f2_ f3_; subst f4_; subst f5_))
            obtain ⟨Ao186, co186, eo186⟩ := Kd.R_slice HO362.out
            (first | subst eo186 | (injection eo186 with f1_ f2_ f3_; have f4_ := f1_.symm; have f5_ := f3_.symm; clear f1_ f2_ f3_; subst f4_; subst f5_))
            refine hK.out _ _ ⟨(blk_cell BK347.out 0).trans rfl, (blk_cell BK347.out 1).trans rfl, (blk_cell BK325.out 0).trans rfl, (blk_cell BK325.out 1).trans rfl⟩ (fun hHeld => ?_)
            clear hK K
            refine norm_ (a' := ?_) ?_ ?_
            rotate_left
            · show Act.put _ (some 47) _ = _
              simp only [Act.put, List.setIfInBounds_toArray, List.set_cons_zero, List.set_cons_succ, i64_w, i32_w]
              rfl
            refine one_ (i := 3) (N := some 48) #[true, true, true, true, false] rfl rfl (by kernel_rfl) (by decide) (fun K hK => ?_)
            refine goes_ Try.func19 (by kernel_rfl) rfl #[.agg #[.slice Ao29 t341.length co29, .slice Ao33 t344.length co33], .agg #[.slice Ao185 t357.length co185, .slice Ao186 t360.length co186]] (by rfl) rfl rfl (by (try simp only [List.map_toArray, List.map_cons, List.map_nil]); first | done | rfl | (simp only [List.length_drop, List.length_take]; rfl)) ?_
            with_reducible refine (laws_eqPages.calls kj11 _ _ t341 _ _ t344 _ _ t357 _ _ t360 false _ ?side1 ?side2 ?side3 ?side4 ?side5 ?side6 ?side7 ?side8 A62.out).mono ?_
            (case side1 => repeat (first | exact (Kd.R_reads' HO_348000.out).2.2 | (with_reducible refine Kd.C_alloc ?_ _) | (with_reducible refine Kd.C_drewN ?_ _) | (with_reducible refine Kd.C_drew ?_)))
            (case side2 => exact (Kd.R_reads' HO_348000.out).2.1)
            (case side3 => repeat (first | exact (Kd.R_reads' HO_348001.out).2.2 | (with_reducible refine Kd.C_alloc ?_ _) | (with_reducible refine Kd.C_drewN ?_ _) | (with_reducible refine Kd.C_drew ?_)))
            (case side4 => exact (Kd.R_reads' HO_348001.out).2.1)
            (case side5 => repeat (first | exact (Kd.R_reads' HO359.out).2.2 | (with_reducible refine Kd.C_alloc ?_ _) | (with_reducible refine Kd.C_drewN ?_ _) | (with_reducible refine Kd.C_drew ?_)))
            (case side6 => exact (Kd.R_reads' HO359.out).2.1)
            (case side7 => repeat (first | exact (Kd.R_reads' HO362.out).2.2 | (with_reducible refine Kd.C_alloc ?_ _) | (with_reducible refine Kd.C_drewN ?_ _) | (with_reducible refine Kd.C_drew ?_)))
            (case side8 => exact (Kd.R_reads' HO362.out).2.1)
            rintro e w187 ⟨rfl, hb⟩
            refine ⟨_, rfl, ?_⟩
            have n0_ := Aside0.mk (Kd.R_below (by (with_reducible repeat (first | apply Kd.R_alloc | apply Kd.R_drewN | apply Kd.R_drew)); exact HO_341000.out) hb)
            have n1_ := Aside0.mk (Kd.R_below (by (with_reducible repeat (first | apply Kd.R_alloc | apply Kd.R_drewN | apply Kd.R_drew)); exact HO_341001.out) hb)
            have n2_ := Aside0.mk (Kd.R_below (by (with_reducible repeat (first | apply Kd.R_alloc | apply Kd.R_drewN | apply Kd.R_drew)); exact HO_348000.out) hb)
            have n3_ := Aside0.mk (Kd.R_below (by (with_reducible repeat (first | apply Kd.R_alloc | apply Kd.R_drewN | apply Kd.R_drew)); exact HO_348001.out) hb)
            have n4_ := Aside0.mk (Kd.R_below (by (with_reducible repeat (first | apply Kd.R_alloc | apply Kd.R_drewN | apply Kd.R_drew)); exact HO_356000.out) hb)
            have n5_ := Aside0.mk (Kd.R_below (by (with_reducible repeat (first | apply Kd.R_alloc | apply Kd.R_drewN | apply Kd.R_drew)); exact HO_356001.out) hb)
            have n6_ := Aside0.mk (Kd.R_below (by (with_reducible repeat (first | apply Kd.R_alloc | apply Kd.R_drewN | apply Kd.R_drew)); exact HO359.out) hb)
            have n7_ := Aside0.mk (Kd.R_below (by (with_reducible repeat (first | apply Kd.R_alloc | apply Kd.R_drewN | apply Kd.R_drew)); exact HO362.out) hb)
            have n8_ := Aside0.mk (blk_below (g := gb325) (o := .cells #[.slice A0_0 l0_0.length c0_0, .slice A0_1 l0_1.length c0_1] 38 (0, 0)) (by (with_reducible repeat (first | refine blk_drewN ?_ _ | refine blk_drew ?_ | refine blk_alloc ?_ _)); exact BK325.out) hb)
            have n9_ := Aside0.mk (blk_below (g := gb340) (o := .cells #[.slice Ao22 t333.length co22, .slice Ao25 t336.length co25] 40 (0, 0)) (by (with_reducible repeat (first | refine blk_drewN ?_ _ | refine blk_drew ?_ | refine blk_alloc ?_ _)); exact BK340.out) hb)
            have n10_ := Aside0.mk (blk_below (g := gb347) (o := .cells #[.slice Ao29 t341.length co29, .slice Ao33 t344.length co33] 40 (0, 0)) (by (with_reducible repeat (first | refine blk_drewN ?_ _ | refine blk_drew ?_ | refine blk_alloc ?_ _)); exact BK347.out) hb)
            have n11_ := Aside0.mk (blk_below (g := gb355) (o := .cells #[.slice Ao36 t348.length co36, .slice Ao41 t351.length co41] 40 (0, 0)) (by (with_reducible repeat (first | refine blk_drewN ?_ _ | refine blk_drew ?_ | refine blk_alloc ?_ _)); exact BK355.out) hb)
            have n12_ := Aside0.mk (below_step (by repeat (first | (with_reducible first | exact HB.out | apply below_alloc | apply pw_below_drewN | apply below_drew1 | refine below_set ?_ GE325.out | refine below_set ?_ GE340.out | refine below_set ?_ GE347.out | refine below_set ?_ GE355.out) | exact HB.out)) hb)
            clear HO_341000
            clear HO_341001
            clear HO_348000
            clear HO_348001
            clear HO_356000
            clear HO_356001
            clear HO359
            clear HO362
            clear BK325
            clear BK340
            clear BK347
            clear BK355
            clear HB
            have HO_341000 := n0_
            have HO_341001 := n1_
            have HO_348000 := n2_
            have HO_348001 := n3_
            have HO_356000 := n4_
            have HO_356001 := n5_
            have HO359 := n6_
            have HO362 := n7_
            have BK325 := n8_
            have BK340 := n9_
            have BK347 := n10_
            have BK355 := n11_
            have HB := n12_
            clear n0_ n1_ n2_ n3_ n4_ n5_ n6_ n7_ n8_ n9_ n10_ n11_ n12_
            (try clear hb)
            (try clear hb2)
            (try clear hk)
            (try clear hi)
            refine hK.out _ _ ⟨(blk_cell BK347.out 0).trans rfl, (blk_cell BK347.out 1).trans rfl, (blk_cell BK325.out 0).trans rfl, (blk_cell BK325.out 1).trans rfl⟩ (fun hHeld => ?_)
            clear hK K
            refine norm_ (a' := ?_) ?_ ?_
            rotate_left
            · show Act.put _ (some 48) _ = _
              simp only [Act.put, List.setIfInBounds_toArray, List.set_cons_zero, List.set_cons_succ, i64_w, i32_w]
              rfl
            refine pure_ (i := 4) (N := some 49) (v := ?_) (a' := ?_) #[true, true, true, true, true] rfl rfl (by kernel_rfl) (fun _ _ _ h => h) (Or.inl ⟨by rfl, ?_⟩) ?_ ?_
            rotate_left
            · intro w'
              go_simp
              with_reducible rfl
            rotate_left
            · simp only [Act.put, List.setIfInBounds_toArray, List.set_cons_zero, List.set_cons_succ, i64_w, i32_w]
              rfl
            refine done_ (by kernel_rfl) ?_
            try go_wp2
            go_ret
            exact ⟨by first | rfl | (simp [errW_none, errW_some] <;> rfl) | (simp [*, errW_none, errW_some] <;> rfl), by repeat (first | (with_reducible first | exact HB.out | apply below_alloc | apply pw_below_drewN | apply below_drew1 | refine below_set ?_ GE325.out | refine below_set ?_ GE340.out | refine below_set ?_ GE347.out | refine below_set ?_ GE355.out) | exact HB.out)⟩
/-- THE ONE PURE STATEMENT of laws_FnExactPagesGive. -/
def laws_FnExactPagesGive.Pure : Prop := ∀ (p0 : S38) (a1 : Int), W38 p0 → (Lit.int .i64 a1).wf = true → ∃ k, laws_FnExactPagesGive.f k p0.f0 p0.f1 a1 = some true

end Go.Proofs.Ytfbdkjdockbfdaa.GPages
