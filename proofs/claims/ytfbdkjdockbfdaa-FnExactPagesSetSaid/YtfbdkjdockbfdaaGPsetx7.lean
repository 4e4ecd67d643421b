-- Written by this session's program hp.py (over the kit's printer) and out of its own hand texts. Not trusted: Lean checks it.
import Derived.Test.YtfbdkjdockbfdaaGPsetx0
import Derived.Test.YtfbdkjdockbfdaaGPsetx5
import Derived.Test.YtfbdkjdockbfdaaGPsetx6
namespace Go.Proofs.Ytfbdkjdockbfdaa.GPset
open Go.RowKit Go.Proofs.YtfbdkjdockbfdaaW.PrintWords Go.Proofs.YtfbdkjdockbfdaaW.PrintLast Go.Proofs.YtfbdkjdockbfdaaW.PrintMore
attribute [local go_sem] max2_int min2_int max_two min_two max_three min_three max_four min_four   -- for this text's walks alone
set_option linter.unusedVariables false
set_option linter.unusedSimpArgs false

/-! ### impl_PagesGet: function 72 -/
open Go.Proofs.YtfbdkjdockbfdaaW.PrintWords.Aside0 renaming mk → AM
open Go.Proofs.YtfbdkjdockbfdaaW.PrintWords renaming below_alloc → ba, pw_below_drewN → bn, below_drew1 → bd, below_set → bs, blk_drewN → kn, blk_drew → kd, blk_alloc → ka, blk_cell → kc, blk_frozen → kz, blk_below → kb, below_size → bz, below_step → bp, box_event → xe, gate_callee → gc, gate_dst → gd
open Go.Proofs.YtfbdkjdockbfdaaW.PrintWords.Kd renaming C_alloc → Ca, C_drewN → Cn, C_drew → Cd, C_below → Cb
def impl_PagesGet.f (k : Nat) (l0_0 : List ByteArray) (l0_1 : List Int) (a1 : Int) : Option (ByteArray × Bool) := (impl_PagesOk.f k l0_0 l0_1).bind fun t219 => (if t219 = true then ((impl_Pages_has.f l0_0 l0_1 a1).bind fun t220 => (if t220 = true then (if 0 ≤ a1 then (if a1 < (l0_0.length : Int) then (some (rdOf ByteArray.empty l0_0 a1, true)) else (none)) else (none)) else (some ((⟨#[]⟩ : ByteArray), false)))) else (some ((⟨#[]⟩ : ByteArray), false)))
theorem impl_PagesGet.mono : ∀ a0 a1 a2 k, LeO (impl_PagesGet.f k a0 a1 a2) (impl_PagesGet.f (k + 1) a0 a1 a2) := by
  intro a0 a1 a2 k
  unfold impl_PagesGet.f
  repeat' first
      | (with_reducible exact impl_PagesOk.mono _ _ _)
      | (with_reducible exact LeO.refl _)
      | (with_reducible exact LeO.none _)
      | (with_reducible refine LeO.ite ?_ ?_)
      | (with_reducible refine LeO.bind ?_ (fun _ => ?_))
      | exact impl_PagesOk.mono _ _ _
      | exact LeO.none _
      | refine LeO.ite ?_ ?_
      | refine LeO.bind ?_ (fun _ => ?_)
set_option maxHeartbeats 8000000 in
set_option maxRecDepth 100000 in
theorem impl_PagesGet.calls (k : Nat) (A0_0 : Option Addr) (c0_0 : Nat) (l0_0 : List ByteArray) (A0_1 : Option Addr) (c0_1 : Nat) (l0_1 : List Int) (a1 : Int) (r1 : ByteArray) (r2 : Bool) (w : World) (hr0_0 : Kd.C Kd.string w A0_0 l0_0.length l0_0) (hc0_0 : l0_0.length ≤ c0_0) (hr0_1 : Kd.C (Kd.int .i64) w A0_1 l0_1.length l0_1) (hc0_1 : l0_1.length ≤ c0_1) (h : impl_PagesGet.f k l0_0 l0_1 a1 = some (r1, r2)) :
    Calls Try.prog 72 #[.agg #[.slice A0_0 l0_0.length c0_0, .slice A0_1 l0_1.length c0_1], .int .i64 a1] w fun e w' => e = .returned (.tuple #[.string r1, .bool r2]) ∧ Below w.heap.size w w' := by
  have hu40 := Try.underlying40
  have HR0_0 := AM hr0_0
  have HC0_0 := AM hc0_0
  clear hr0_0 hc0_0
  have HR0_1 := AM hr0_1
  have HC0_1 := AM hc0_1
  clear hr0_1 hc0_1
  have HB := AM (Below.refl w.heap.size w)
  have H : ((impl_PagesOk.f k l0_0 l0_1).bind fun t219 => (if t219 = true then ((impl_Pages_has.f l0_0 l0_1 a1).bind fun t220 => (if t220 = true then (if 0 ≤ a1 then (if a1 < (l0_0.length : Int) then (some (rdOf ByteArray.empty l0_0 a1, true)) else (none)) else (none)) else (some ((⟨#[]⟩ : ByteArray), false)))) else (some ((⟨#[]⟩ : ByteArray), false)))) = some (r1, r2) := h
  clear h
  replace H := Option.bind_eq_some_iff.mp H
  obtain ⟨t219, A30, H⟩ := H
  replace H : (if t219 = true then ((impl_Pages_has.f l0_0 l0_1 a1).bind fun t220 => (if t220 = true then (if 0 ≤ a1 then (if a1 < (l0_0.length : Int) then (some (rdOf ByteArray.empty l0_0 a1, true)) else (none)) else (none)) else (some ((⟨#[]⟩ : ByteArray), false)))) else (some ((⟨#[]⟩ : ByteArray), false))) = some (r1, r2) := H
  have A3 := AM A30
  clear A30
  by_cases c4 : t219 = true
  · subst c4
    have H1 : ((impl_Pages_has.f l0_0 l0_1 a1).bind fun t220 => (if t220 = true then (if 0 ≤ a1 then (if a1 < (l0_0.length : Int) then (some (rdOf ByteArray.empty l0_0 a1, true)) else (none)) else (none)) else (some ((⟨#[]⟩ : ByteArray), false)))) = some (r1, r2) := by rw [if_pos rfl] at H; exact H
    clear H
    have H := H1
    clear H1
    replace H := Option.bind_eq_some_iff.mp H
    obtain ⟨t220, A50, H⟩ := H
    replace H : (if t220 = true then (if 0 ≤ a1 then (if a1 < (l0_0.length : Int) then (some (rdOf ByteArray.empty l0_0 a1, true)) else (none)) else (none)) else (some ((⟨#[]⟩ : ByteArray), false))) = some (r1, r2) := H
    have A5 := AM A50
    clear A50
    by_cases c6 : t220 = true
    · subst c6
      have H1 : (if 0 ≤ a1 then (if a1 < (l0_0.length : Int) then (some (rdOf ByteArray.empty l0_0 a1, true)) else (none)) else (none)) = some (r1, r2) := by rw [if_pos rfl] at H; exact H
      clear H
      have H := H1
      clear H1
      by_cases c7 : 0 ≤ a1
      · rw [if_pos c7] at H
        have c7b0 : decide (0 ≤ a1) = true := decide_eq_true c7
        clear c7
        by_cases c8 : a1 < (l0_0.length : Int)
        · rw [if_pos c8] at H
          have c8b0 : decide (a1 < (l0_0.length : Int)) = true := decide_eq_true c8
          clear c8
          simp only [Option.some.injEq, Prod.mk.injEq] at H
          obtain ⟨rfl, rfl⟩ := H
          go_enter Try.func72, Try.ntmps72
          go_wp2_with (first | ((with_reducible refine gd (N := 2) rfl ?_); refine xe ?hg (N := 2) ?hd (cs := #[.slice A0_0 l0_0.length c0_0, .slice A0_1 l0_1.length c0_1]) (t := 40) ?hr ?_; (case hd => rfl); (case hg => rfl); (case hr => first | (go_simp; done) | (go_simp; rfl)); intro gb218 hg w9 hbox hb; have n0_ := AM (bp (by repeat (first | (with_reducible first | exact HB.out | apply ba | apply bn | apply bd) | exact HB.out)) hb); have n1_ := AM (hbox); have n2_ := AM ((by rw [hg]; exact (bz (by repeat (first | (with_reducible first | exact HB.out | apply ba | apply bn | apply bd) | exact HB.out))) : w.heap.size ≤ gb218)); have n3_ := AM ((by rw [hg]; exact (bz (by repeat (first | (with_reducible first | exact HB.out | apply ba | apply bn | apply bd) | exact HB.out))) : w.heap.size ≤ gb218)); clear HB; have HB := n0_; have BK218 := n1_; have GW218 := n2_; have GE218 := n3_; clear n0_ n1_ n2_ n3_; clear hb hbox hg; have hcz10_0 : w9.cell? ⟨gb218, 0, none⟩ = some (.slice A0_0 l0_0.length c0_0) := (kc BK218.out 0).trans rfl; have hcz10_1 : w9.cell? ⟨gb218, 1, none⟩ = some (.slice A0_1 l0_1.length c0_1) := (kc BK218.out 1).trans rfl; have hfz10_0 := kz BK218.out 0; have hfz10_1 := kz BK218.out 1) | ((with_reducible refine gc (f := 61) rfl ?_); refine goesL_ (some 7) rfl rfl Try.func61 (by kernel_rfl) rfl #[.agg #[.slice A0_0 l0_0.length c0_0, .slice A0_1 l0_1.length c0_1]] rfl (by (try simp only [List.map_toArray, List.map_cons, List.map_nil]); first | done | rfl | (simp only [List.length_drop, List.length_take]; rfl)) ?_; (with_reducible refine (impl_PagesOk.calls k _ _ l0_0 _ _ l0_1 true _ ?side1 ?side2 ?side3 ?side4 A3.out).mono ?_); (case side1 => repeat (first | exact (Cb HR0_0.out HB.out) | (with_reducible refine Ca ?_ _) | (with_reducible refine Cn ?_ _) | (with_reducible refine Cd ?_))); (case side2 => exact HC0_0.out); (case side3 => repeat (first | exact (Cb HR0_1.out HB.out) | (with_reducible refine Ca ?_ _) | (with_reducible refine Cn ?_ _) | (with_reducible refine Cd ?_))); (case side4 => exact HC0_1.out); rintro e w11 ⟨rfl, hb⟩; refine ⟨_, rfl, ?_⟩; have n0_ := AM (kb (g := gb218) (o := .cells #[.slice A0_0 l0_0.length c0_0, .slice A0_1 l0_1.length c0_1] 40 (0, 0)) (by (with_reducible repeat (first | refine kn ?_ _ | refine kd ?_ | refine ka ?_ _)); exact BK218.out) hb); have n1_ := AM (bp (by repeat (first | (with_reducible first | exact HB.out | apply ba | apply bn | apply bd | refine bs ?_ GE218.out) | exact HB.out)) hb); clear BK218; clear HB; have BK218 := n0_; have HB := n1_; clear n0_ n1_; (try clear hb); have hcz12_0 : w11.cell? ⟨gb218, 0, none⟩ = some (.slice A0_0 l0_0.length c0_0) := (kc BK218.out 0).trans rfl; have hcz12_1 : w11.cell? ⟨gb218, 1, none⟩ = some (.slice A0_1 l0_1.length c0_1) := (kc BK218.out 1).trans rfl; have hfz12_0 := kz BK218.out 0; have hfz12_1 := kz BK218.out 1) | (go_at_call 62; (with_reducible refine (impl_Pages_has.calls _ _ l0_0 _ _ l0_1 a1 true _ ?side1 ?side2 ?side3 ?side4 A5.out).mono ?_); (case side1 => repeat (first | exact (Cb HR0_0.out HB.out) | (with_reducible refine Ca ?_ _) | (with_reducible refine Cn ?_ _) | (with_reducible refine Cd ?_))); (case side2 => exact HC0_0.out); (case side3 => repeat (first | exact (Cb HR0_1.out HB.out) | (with_reducible refine Ca ?_ _) | (with_reducible refine Cn ?_ _) | (with_reducible refine Cd ?_))); (case side4 => exact HC0_1.out); rintro e w13 ⟨rfl, hb⟩; have n0_ := AM (kb (g := gb218) (o := .cells #[.slice A0_0 l0_0.length c0_0, .slice A0_1 l0_1.length c0_1] 40 (0, 0)) (by (with_reducible repeat (first | refine kn ?_ _ | refine kd ?_ | refine ka ?_ _)); exact BK218.out) hb); have n1_ := AM (bp (by repeat (first | (with_reducible first | exact HB.out | apply ba | apply bn | apply bd | refine bs ?_ GE218.out) | exact HB.out)) hb); clear BK218; clear HB; have BK218 := n0_; have HB := n1_; clear n0_ n1_; (try clear hb); have hcz14_0 : w13.cell? ⟨gb218, 0, none⟩ = some (.slice A0_0 l0_0.length c0_0) := (kc BK218.out 0).trans rfl; have hcz14_1 : w13.cell? ⟨gb218, 1, none⟩ = some (.slice A0_1 l0_1.length c0_1) := (kc BK218.out 1).trans rfl; have hfz14_0 := kz BK218.out 0; have hfz14_1 := kz BK218.out 1; have p221 : 0 ≤ (a1 : Int) := of_decide_eq_true (by first | (with_reducible assumption) | assumption); have q221 : a1 < (l0_0.length : Int) := of_decide_eq_true (by first | (with_reducible assumption) | assumption); obtain ⟨ad221, e221, hx221_0⟩ := Kd.at_string HR0_0.out a1 p221 q221; cases e221; replace hx221_0 := (HB.out.cell (World.block_lt_of_cell? w _ hx221_0)).trans hx221_0; replace p221 := eq_true p221; replace q221 := eq_true q221))
          go_ret2
          exact ⟨by first | rfl | (simp [errW_none, errW_some] <;> rfl) | (simp [*, errW_none, errW_some] <;> rfl), by repeat (first | (with_reducible first | exact HB.out | apply ba | apply bn | apply bd | refine bs ?_ GE218.out) | exact HB.out)⟩
        · rw [if_neg c8] at H
          exact absurd H (by simp)
      · rw [if_neg c7] at H
        exact absurd H (by simp)
    · replace c6 := Bool.eq_false_iff.mpr c6
      subst c6
      have H1 : (some ((⟨#[]⟩ : ByteArray), false)) = some (r1, r2) := by rw [if_neg (show ¬ (false = true) by decide)] at H; exact H
      clear H
      have H := H1
      clear H1
      simp only [Option.some.injEq, Prod.mk.injEq] at H
      obtain ⟨rfl, rfl⟩ := H
      go_enter Try.func72, Try.ntmps72
      go_wp2_with (first | ((with_reducible refine gd (N := 2) rfl ?_); refine xe ?hg (N := 2) ?hd (cs := #[.slice A0_0 l0_0.length c0_0, .slice A0_1 l0_1.length c0_1]) (t := 40) ?hr ?_; (case hd => rfl); (case hg => rfl); (case hr => first | (go_simp; done) | (go_simp; rfl)); intro gb218 hg w15 hbox hb; have n0_ := AM (bp (by repeat (first | (with_reducible first | exact HB.out | apply ba | apply bn | apply bd) | exact HB.out)) hb); have n1_ := AM (hbox); have n2_ := AM ((by rw [hg]; exact (bz (by repeat (first | (with_reducible first | exact HB.out | apply ba | apply bn | apply bd) | exact HB.out))) : w.heap.size ≤ gb218)); have n3_ := AM ((by rw [hg]; exact (bz (by repeat (first | (with_reducible first | exact HB.out | apply ba | apply bn | apply bd) | exact HB.out))) : w.heap.size ≤ gb218)); clear HB; have HB := n0_; have BK218 := n1_; have GW218 := n2_; have GE218 := n3_; clear n0_ n1_ n2_ n3_; clear hb hbox hg; have hcz16_0 : w15.cell? ⟨gb218, 0, none⟩ = some (.slice A0_0 l0_0.length c0_0) := (kc BK218.out 0).trans rfl; have hcz16_1 : w15.cell? ⟨gb218, 1, none⟩ = some (.slice A0_1 l0_1.length c0_1) := (kc BK218.out 1).trans rfl; have hfz16_0 := kz BK218.out 0; have hfz16_1 := kz BK218.out 1) | ((with_reducible refine gc (f := 61) rfl ?_); refine goesL_ (some 7) rfl rfl Try.func61 (by kernel_rfl) rfl #[.agg #[.slice A0_0 l0_0.length c0_0, .slice A0_1 l0_1.length c0_1]] rfl (by (try simp only [List.map_toArray, List.map_cons, List.map_nil]); first | done | rfl | (simp only [List.length_drop, List.length_take]; rfl)) ?_; (with_reducible refine (impl_PagesOk.calls k _ _ l0_0 _ _ l0_1 true _ ?side1 ?side2 ?side3 ?side4 A3.out).mono ?_); (case side1 => repeat (first | exact (Cb HR0_0.out HB.out) | (with_reducible refine Ca ?_ _) | (with_reducible refine Cn ?_ _) | (with_reducible refine Cd ?_))); (case side2 => exact HC0_0.out); (case side3 => repeat (first | exact (Cb HR0_1.out HB.out) | (with_reducible refine Ca ?_ _) | (with_reducible refine Cn ?_ _) | (with_reducible refine Cd ?_))); (case side4 => exact HC0_1.out); rintro e w17 ⟨rfl, hb⟩; refine ⟨_, rfl, ?_⟩; have n0_ := AM (kb (g := gb218) (o := .cells #[.slice A0_0 l0_0.length c0_0, .slice A0_1 l0_1.length c0_1] 40 (0, 0)) (by (with_reducible repeat (first | refine kn ?_ _ | refine kd ?_ | refine ka ?_ _)); exact BK218.out) hb); have n1_ := AM (bp (by repeat (first | (with_reducible first | exact HB.out | apply ba | apply bn | apply bd | refine bs ?_ GE218.out) | exact HB.out)) hb); clear BK218; clear HB; have BK218 := n0_; have HB := n1_; clear n0_ n1_; (try clear hb); have hcz18_0 : w17.cell? ⟨gb218, 0, none⟩ = some (.slice A0_0 l0_0.length c0_0) := (kc BK218.out 0).trans rfl; have hcz18_1 : w17.cell? ⟨gb218, 1, none⟩ = some (.slice A0_1 l0_1.length c0_1) := (kc BK218.out 1).trans rfl; have hfz18_0 := kz BK218.out 0; have hfz18_1 := kz BK218.out 1) | (go_at_call 62; (with_reducible refine (impl_Pages_has.calls _ _ l0_0 _ _ l0_1 a1 false _ ?side1 ?side2 ?side3 ?side4 A5.out).mono ?_); (case side1 => repeat (first | exact (Cb HR0_0.out HB.out) | (with_reducible refine Ca ?_ _) | (with_reducible refine Cn ?_ _) | (with_reducible refine Cd ?_))); (case side2 => exact HC0_0.out); (case side3 => repeat (first | exact (Cb HR0_1.out HB.out) | (with_reducible refine Ca ?_ _) | (with_reducible refine Cn ?_ _) | (with_reducible refine Cd ?_))); (case side4 => exact HC0_1.out); rintro e w19 ⟨rfl, hb⟩; have n0_ := AM (kb (g := gb218) (o := .cells #[.slice A0_0 l0_0.length c0_0, .slice A0_1 l0_1.length c0_1] 40 (0, 0)) (by (with_reducible repeat (first | refine kn ?_ _ | refine kd ?_ | refine ka ?_ _)); exact BK218.out) hb); have n1_ := AM (bp (by repeat (first | (with_reducible first | exact HB.out | apply ba | apply bn | apply bd | refine bs ?_ GE218.out) | exact HB.out)) hb); clear BK218; clear HB; have BK218 := n0_; have HB := n1_; clear n0_ n1_; (try clear hb)))
      go_ret2
      exact ⟨by first | rfl | (simp [errW_none, errW_some] <;> rfl) | (simp [*, errW_none, errW_some] <;> rfl), by repeat (first | (with_reducible first | exact HB.out | apply ba | apply bn | apply bd | refine bs ?_ GE218.out) | exact HB.out)⟩
  · replace c4 := Bool.eq_false_iff.mpr c4
    subst c4
    have H1 : (some ((⟨#[]⟩ : ByteArray), false)) = some (r1, r2) := by rw [if_neg (show ¬ (false = true) by decide)] at H; exact H
    clear H
    have H := H1
    clear H1
    simp only [Option.some.injEq, Prod.mk.injEq] at H
    obtain ⟨rfl, rfl⟩ := H
    go_enter Try.func72, Try.ntmps72
    go_wp2_with (first | ((with_reducible refine gd (N := 2) rfl ?_); refine xe ?hg (N := 2) ?hd (cs := #[.slice A0_0 l0_0.length c0_0, .slice A0_1 l0_1.length c0_1]) (t := 40) ?hr ?_; (case hd => rfl); (case hg => rfl); (case hr => first | (go_simp; done) | (go_simp; rfl)); intro gb218 hg w20 hbox hb; have n0_ := AM (bp (by repeat (first | (with_reducible first | exact HB.out | apply ba | apply bn | apply bd) | exact HB.out)) hb); have n1_ := AM (hbox); have n2_ := AM ((by rw [hg]; exact (bz (by repeat (first | (with_reducible first | exact HB.out | apply ba | apply bn | apply bd) | exact HB.out))) : w.heap.size ≤ gb218)); have n3_ := AM ((by rw [hg]; exact (bz (by repeat (first | (with_reducible first | exact HB.out | apply ba | apply bn | apply bd) | exact HB.out))) : w.heap.size ≤ gb218)); clear HB; have HB := n0_; have BK218 := n1_; have GW218 := n2_; have GE218 := n3_; clear n0_ n1_ n2_ n3_; clear hb hbox hg; have hcz21_0 : w20.cell? ⟨gb218, 0, none⟩ = some (.slice A0_0 l0_0.length c0_0) := (kc BK218.out 0).trans rfl; have hcz21_1 : w20.cell? ⟨gb218, 1, none⟩ = some (.slice A0_1 l0_1.length c0_1) := (kc BK218.out 1).trans rfl; have hfz21_0 := kz BK218.out 0; have hfz21_1 := kz BK218.out 1) | ((with_reducible refine gc (f := 61) rfl ?_); refine goesL_ (some 7) rfl rfl Try.func61 (by kernel_rfl) rfl #[.agg #[.slice A0_0 l0_0.length c0_0, .slice A0_1 l0_1.length c0_1]] rfl (by (try simp only [List.map_toArray, List.map_cons, List.map_nil]); first | done | rfl | (simp only [List.length_drop, List.length_take]; rfl)) ?_; (with_reducible refine (impl_PagesOk.calls k _ _ l0_0 _ _ l0_1 false _ ?side1 ?side2 ?side3 ?side4 A3.out).mono ?_); (case side1 => repeat (first | exact (Cb HR0_0.out HB.out) | (with_reducible refine Ca ?_ _) | (with_reducible refine Cn ?_ _) | (with_reducible refine Cd ?_))); (case side2 => exact HC0_0.out); (case side3 => repeat (first | exact (Cb HR0_1.out HB.out) | (with_reducible refine Ca ?_ _) | (with_reducible refine Cn ?_ _) | (with_reducible refine Cd ?_))); (case side4 => exact HC0_1.out); rintro e w22 ⟨rfl, hb⟩; refine ⟨_, rfl, ?_⟩; have n0_ := AM (kb (g := gb218) (o := .cells #[.slice A0_0 l0_0.length c0_0, .slice A0_1 l0_1.length c0_1] 40 (0, 0)) (by (with_reducible repeat (first | refine kn ?_ _ | refine kd ?_ | refine ka ?_ _)); exact BK218.out) hb); have n1_ := AM (bp (by repeat (first | (with_reducible first | exact HB.out | apply ba | apply bn | apply bd | refine bs ?_ GE218.out) | exact HB.out)) hb); clear BK218; clear HB; have BK218 := n0_; have HB := n1_; clear n0_ n1_; (try clear hb)))
    go_ret2
    exact ⟨by first | rfl | (simp [errW_none, errW_some] <;> rfl) | (simp [*, errW_none, errW_some] <;> rfl), by repeat (first | (with_reducible first | exact HB.out | apply ba | apply bn | apply bd | refine bs ?_ GE218.out) | exact HB.out)⟩

/-! ### impl_with: function 73 -/
open Go.Proofs.YtfbdkjdockbfdaaW.PrintWords renaming blk_below → kb
/-- 's' with the byte at k another one. -/
def impl_with.put (s : ByteArray) (k b : Int) : ByteArray := strOfNums ((bytesOf s).set k.toNat b)
def impl_with.f (a0 : ByteArray) (a1 : Int) (a2 : Int) : Option (ByteArray) := if a0.size ≤ 9223372036854775807 then (if 0 ≤ a1 then (if a1 < (a0.size : Int) then (if 0 ≤ a2 then (if a2 ≤ 255 then (some (impl_with.put a0 a1 a2)) else none) else none) else none) else none) else none
theorem impl_with.cells (w : World) (e : TypeId) (s : ByteArray) (k b : Int) (h0 : 0 ≤ k) (h1 : k < (s.size : Int)) : ∀ i, i < s.size → ((Lib.bytesWorld w e s).setCell ⟨w.heap.size, k.toNat, none⟩ (.int .u8 b)).cell? ⟨w.heap.size, 0 + i, none⟩ = some (.int .u8 (((bytesOf s).set k.toNat b).getD i 0)) := by
  intro i hi
  rw [Nat.zero_add]
  have hc := Lib.bytesWorld_cell w e s i hi
  have hl := bytesOf_length s
  have hb := Lib.bytesWorld_at_new w e s
  by_cases hk : k.toNat = i
  · subst hk
    rw [List.getD_eq_getElem?_getD, List.getElem?_set_self (by omega)]
    simp only [Option.getD_some]
    exact World.cell?_setCell_same _ _ _ hc
  · rw [World.cell?_setCell_other _ _ _ _ (by intro h; injection h with _ h2 _; exact hk h2), hc]
    rw [show ((bytesOf s).set k.toNat b).getD i 0 = (bytesOf s).getD i 0 from by rw [List.getD_eq_getElem?_getD, List.getElem?_set_ne hk, ← List.getD_eq_getElem?_getD]]
    have h' : i < s.data.toList.length := by rw [data_length]; exact hi
    simp [bytesOf, List.getD_eq_getElem?_getD, List.getElem?_eq_getElem h']
set_option maxHeartbeats 800000 in
theorem impl_with.calls (a0 : ByteArray) (a1 : Int) (a2 : Int) (r : ByteArray) (w : World) (h : impl_with.f a0 a1 a2 = some r) :
    Calls Try.prog 73 #[.string a0, .int .i64 a1, .int .i64 a2] w fun e w' => e = .returned (.string r) ∧ Below w.heap.size w w' := by
  unfold impl_with.f at h
  by_cases c0 : a0.size ≤ 9223372036854775807
  case neg => rw [if_neg c0] at h; cases h
  rw [if_pos c0] at h
  by_cases c1 : 0 ≤ a1
  case neg => rw [if_neg c1] at h; cases h
  rw [if_pos c1] at h
  by_cases c2 : a1 < (a0.size : Int)
  case neg => rw [if_neg c2] at h; cases h
  rw [if_pos c2] at h
  by_cases c3 : 0 ≤ a2
  case neg => rw [if_neg c3] at h; cases h
  rw [if_pos c3] at h
  by_cases c4 : a2 ≤ 255
  case neg => rw [if_neg c4] at h; cases h
  rw [if_pos c4] at h
  obtain rfl := Option.some.inj h
  clear h
  have kb := fun W => print_bytes (P := Try.prog) 9 22 5 Try.underlying9 Try.underlying22 Try.underlying5 a0 W
  have hc := Lib.bytesWorld_cell w 5 a0 a1.toNat (by omega)
  have hf : (Lib.bytesWorld w 5 a0).frozen? ⟨w.heap.size, a1.toNat, none⟩ = false := by
    simp [World.frozen?, Lib.bytesWorld_at_new, Lib.bytesCells]
    omega
  have hs := run_convert_bytes_arg (P := Try.prog) (w := (Lib.bytesWorld w 5 a0).setCell ⟨w.heap.size, a1.toNat, none⟩ (.int .u8 a2)) 22 5 Try.underlying22 Try.underlying5 w.heap.size 0 a0.size (grownCap w a0.size 0 5) ((bytesOf a0).set a1.toNat a2) (by rw [List.length_set, bytesOf_length]) (impl_with.cells w 5 a0 a1 a2 c1 c2) 9 Try.underlying9
  go_enter Try.func73, Try.ntmps73
  go_wp2
  go_ret
  refine ⟨by first | rfl | simp [impl_with.put], ?_⟩
  exact ((bytes_below (Below.refl w.heap.size w) (Nat.le_refl _) _ a0).setCell (by simp) _)

/-! ### impl_PagesSet: function 23 -/
open Go.Proofs.YtfbdkjdockbfdaaW.PrintWords.Aside0 renaming mk → AM
open Go.Proofs.YtfbdkjdockbfdaaW.PrintWords renaming below_alloc → ba, pw_below_drewN → bn, below_drew1 → bd, below_set → bs, blk_drewN → kn, blk_drew → kd, blk_alloc → ka, blk_far → kf, blk_cell → kc, blk_frozen → kz, blk_below → kb, below_size → bz, below_step → bp, box_event → xe, gate_callee → gc, gate_dst → gd
open Go.Proofs.YtfbdkjdockbfdaaW.PrintWords.Kd renaming R_alloc → Ra, R_drewN → Rn, R_drew → Rd, R_mono → Rm, R_below → Rb, R_far → Rf, R_types → Rt, R_lower → Rl, C_alloc → Ca, C_drewN → Cn, C_drew → Cd, C_below → Cb, R_slice → Ri
def impl_PagesSet.j0 : Nat → Int → Int → Int → ByteArray → Bool → List ByteArray → List Int → Option (List ByteArray × List Int × Bool)
  | 0, _, _, _, _, _, _, _ => none
  | k + 1, x1, x2, x3, x10, x30, x223000, x223001 => if x30 = true then (some (([] : List ByteArray), ([] : List Int), false)) else ((impl_Pages_clone.f x223000 x223001).bind fun bt228 => ((impl_with.f x10 x2 x3).bind fun t235 => (if 0 ≤ x1 then (if x1 < (bt228.1.length : Int) then (some ((bt228.1.set (x1 : Int).toNat t235), bt228.2, true)) else (none)) else (none))))
def impl_PagesSet.f (k : Nat) (l0_0 : List ByteArray) (l0_1 : List Int) (a1 : Int) (a2 : Int) (a3 : Int) : Option (List ByteArray × List Int × Bool) := (impl_PagesGet.f k l0_0 l0_1 a1).bind fun bt224 => (if bt224.2 = true then ((impl_in.f a2 0 3).bind fun t226 => (if t226 = true then ((impl_in.f a3 0 255).bind fun t227 => (impl_PagesSet.j0 k a1 a2 a3 bt224.1 (!t227) l0_0 l0_1)) else (impl_PagesSet.j0 k a1 a2 a3 bt224.1 true l0_0 l0_1))) else (impl_PagesSet.j0 k a1 a2 a3 bt224.1 true l0_0 l0_1))
theorem impl_PagesSet.mono_l : ∀ k, (∀ y0 y1 y2 y3 y4 y5 y6, LeO (impl_PagesSet.j0 k y0 y1 y2 y3 y4 y5 y6) (impl_PagesSet.j0 (k + 1) y0 y1 y2 y3 y4 y5 y6))
  | 0 => fun _ _ _ _ _ _ _ r h => by simp [impl_PagesSet.j0] at h
  | k + 1 => by
    have ih0 := impl_PagesSet.mono_l k
    · intro y0 y1 y2 y3 y4 y5 y6
      unfold impl_PagesSet.j0
      repeat' first
      | (with_reducible exact ih0 _ _ _ _ _ _ _)
      | (with_reducible exact impl_PagesGet.mono _ _ _ _)
      | (with_reducible exact LeO.refl _)
      | (with_reducible exact LeO.none _)
      | (with_reducible refine LeO.ite ?_ ?_)
      | (with_reducible refine LeO.bind ?_ (fun _ => ?_))
      | exact ih0 _ _ _ _ _ _ _
      | exact impl_PagesGet.mono _ _ _ _
      | exact LeO.none _
      | refine LeO.ite ?_ ?_
      | refine LeO.bind ?_ (fun _ => ?_)
theorem impl_PagesSet.mono : ∀ a0 a1 a2 a3 a4 k, LeO (impl_PagesSet.f k a0 a1 a2 a3 a4) (impl_PagesSet.f (k + 1) a0 a1 a2 a3 a4) := by
  intro a0 a1 a2 a3 a4 k
  have ih0 := impl_PagesSet.mono_l k
  unfold impl_PagesSet.f
  repeat' first
      | (with_reducible exact ih0 _ _ _ _ _ _ _)
      | (with_reducible exact impl_PagesGet.mono _ _ _ _)
      | (with_reducible exact LeO.refl _)
      | (with_reducible exact LeO.none _)
      | (with_reducible refine LeO.ite ?_ ?_)
      | (with_reducible refine LeO.bind ?_ (fun _ => ?_))
      | exact ih0 _ _ _ _ _ _ _
      | exact impl_PagesGet.mono _ _ _ _
      | exact LeO.none _
      | refine LeO.ite ?_ ?_
      | refine LeO.bind ?_ (fun _ => ?_)
def impl_PagesSet.T5 : Bool × List (List Nat × List Nat) := (true, [([], []), ([0], [0]), ([], []), ([], []), ([], []), ([], []), ([3, 4, 5], [3, 4, 5]), ([1, 2, 0, 1, 2, 3, 4, 5, 6], [1, 2]), ([7, 6, 6, 0, 1, 2, 3, 4, 5, 6], [6, 7])])
def impl_PagesSet.B5 : List Nat := [0, 1, 0, 0, 0, 0, 56, 127, 255]
theorem impl_PagesSet.tab5 : rtab .any (opsOf Try.f23 5) = impl_PagesSet.T5 := by kernel_rfl
theorem impl_PagesSet.bits5 : waitsOk impl_PagesSet.T5.2 impl_PagesSet.B5 = true := by kernel_rfl
set_option maxHeartbeats 8000000 in
set_option maxRecDepth 100000 in
theorem impl_PagesSet.calls (k : Nat) (A0_0 : Option Addr) (c0_0 : Nat) (l0_0 : List ByteArray) (A0_1 : Option Addr) (c0_1 : Nat) (l0_1 : List Int) (a1 : Int) (a2 : Int) (a3 : Int) (r1 : List ByteArray) (r2 : List Int) (r3 : Bool) (w : World) (hr0_0 : Kd.C Kd.string w A0_0 l0_0.length l0_0) (hc0_0 : l0_0.length ≤ c0_0) (hr0_1 : Kd.C (Kd.int .i64) w A0_1 l0_1.length l0_1) (hc0_1 : l0_1.length ≤ c0_1) (h : impl_PagesSet.f k l0_0 l0_1 a1 a2 a3 = some (r1, r2, r3)) :
    Calls Try.prog 23 #[.agg #[.slice A0_0 l0_0.length c0_0, .slice A0_1 l0_1.length c0_1], .int .i64 a1, .int .i64 a2, .int .i64 a3] w fun e w' => ∃ v0_ v1_ : Value, e = .returned (.tuple #[.agg #[v0_, v1_], .bool r3]) ∧ Kd.R Kd.string 9 w' w.heap.size (fun _ => True) v0_ r1 ∧ Kd.R (Kd.int .i64) 3 w' w.heap.size (fun _ => True) v1_ r2 ∧ Below w.heap.size w w' := by
  have hu40 := Try.underlying40
  have HR0_0 := AM hr0_0
  have HC0_0 := AM hc0_0
  clear hr0_0 hc0_0
  have HR0_1 := AM hr0_1
  have HC0_1 := AM hc0_1
  clear hr0_1 hc0_1
  have HB := AM (Below.refl w.heap.size w)
  have H : ((impl_PagesGet.f k l0_0 l0_1 a1).bind fun bt224 => (if bt224.2 = true then ((impl_in.f a2 0 3).bind fun t226 => (if t226 = true then ((impl_in.f a3 0 255).bind fun t227 => (impl_PagesSet.j0 k a1 a2 a3 bt224.1 (!t227) l0_0 l0_1)) else (impl_PagesSet.j0 k a1 a2 a3 bt224.1 true l0_0 l0_1))) else (impl_PagesSet.j0 k a1 a2 a3 bt224.1 true l0_0 l0_1))) = some (r1, r2, r3) := h
  clear h
  replace H := Option.bind_eq_some_iff.mp H
  obtain ⟨⟨t224, t225⟩, A50, H⟩ := H
  replace H : (if t225 = true then ((impl_in.f a2 0 3).bind fun t226 => (if t226 = true then ((impl_in.f a3 0 255).bind fun t227 => (impl_PagesSet.j0 k a1 a2 a3 t224 (!t227) l0_0 l0_1)) else (impl_PagesSet.j0 k a1 a2 a3 t224 true l0_0 l0_1))) else (impl_PagesSet.j0 k a1 a2 a3 t224 true l0_0 l0_1)) = some (r1, r2, r3) := H
  have A5 := AM A50
  clear A50
  have HC6 := AM H
  clear H
  go_enter Try.func23, Try.ntmps23
  go_upto_region 2 with (first | ((with_reducible refine gd (N := 4) rfl ?_); refine xe ?hg (N := 4) ?hd (cs := #[.slice A0_0 l0_0.length c0_0, .slice A0_1 l0_1.length c0_1]) (t := 40) ?hr ?_; (case hd => rfl); (case hg => rfl); (case hr => first | (go_simp; done) | (go_simp; rfl)); intro gb222 hg w7 hbox hb; have n0_ := AM (bp (by repeat (first | (with_reducible first | exact HB.out | apply ba | apply bn | apply bd) | exact HB.out)) hb); have n1_ := AM (hbox); have n2_ := AM ((by rw [hg]; exact (bz (by repeat (first | (with_reducible first | exact HB.out | apply ba | apply bn | apply bd) | exact HB.out))) : w.heap.size ≤ gb222)); have n3_ := AM ((by rw [hg]; exact (bz (by repeat (first | (with_reducible first | exact HB.out | apply ba | apply bn | apply bd) | exact HB.out))) : w.heap.size ≤ gb222)); clear HB; have HB := n0_; have BK222 := n1_; have GW222 := n2_; have GE222 := n3_; clear n0_ n1_ n2_ n3_; clear hb hbox hg) | ((with_reducible refine gd (N := 8) rfl ?_); refine xe ?hg (N := 8) ?hd (cs := #[.slice none 0 0, .slice none 0 0]) (t := 40) ?hr ?_; (case hd => rfl); (case hg => rfl); (case hr => first | (go_simp; done) | (go_simp; rfl)); intro gb223 hg w8 hbox hb; have n0_ := AM (kb (g := gb222) (o := .cells #[.slice A0_0 l0_0.length c0_0, .slice A0_1 l0_1.length c0_1] 40 (0, 0)) (by (with_reducible repeat (first | refine kn ?_ _ | refine kd ?_ | refine ka ?_ _)); exact BK222.out) hb); have n1_ := AM (bp (by repeat (first | (with_reducible first | exact HB.out | apply ba | apply bn | apply bd | refine bs ?_ GE222.out) | exact HB.out)) hb); have n2_ := AM (hbox); have n3_ := AM ((by rw [hg]; exact (bz (by repeat (first | (with_reducible first | exact HB.out | apply ba | apply bn | apply bd | refine bs ?_ GE222.out) | exact HB.out))) : w.heap.size ≤ gb223)); have n4_ := AM ((by rw [hg]; exact (bz (by repeat (first | (with_reducible first | exact HB.out | apply ba | apply bn | apply bd | refine bs ?_ GE222.out) | exact HB.out))) : w.heap.size ≤ gb223)); have n5_ := AM ((by rw [hg]; exact Nat.ne_of_lt (blk_lt (g := gb222) (o := .cells #[.slice A0_0 l0_0.length c0_0, .slice A0_1 l0_1.length c0_1] 40 (0, 0)) (by (with_reducible repeat (first | refine kn ?_ _ | refine kd ?_ | refine ka ?_ _)); exact BK222.out)) : gb222 ≠ gb223)); have n6_ := AM ((by rw [hg]; exact Nat.ne_of_gt (blk_lt (g := gb222) (o := .cells #[.slice A0_0 l0_0.length c0_0, .slice A0_1 l0_1.length c0_1] 40 (0, 0)) (by (with_reducible repeat (first | refine kn ?_ _ | refine kd ?_ | refine ka ?_ _)); exact BK222.out)) : gb223 ≠ gb222)); clear BK222; clear HB; have BK222 := n0_; have HB := n1_; have BK223 := n2_; have GW223 := n3_; have GE223 := n4_; have NB222_223 := n5_; have NB223_222 := n6_; clear n0_ n1_ n2_ n3_ n4_ n5_ n6_; clear hb hbox hg; have hnb9 := NB222_223.out; have hnc9 := NB223_222.out; have hcz10_0 : w8.cell? ⟨gb222, 0, none⟩ = some (.slice A0_0 l0_0.length c0_0) := (kc BK222.out 0).trans rfl; have hcz10_1 : w8.cell? ⟨gb222, 1, none⟩ = some (.slice A0_1 l0_1.length c0_1) := (kc BK222.out 1).trans rfl; have hfz10_0 := kz BK222.out 0; have hfz10_1 := kz BK222.out 1) | ((with_reducible refine gc (f := 72) rfl ?_); refine goesL_ (some 16) rfl rfl Try.func72 (by kernel_rfl) rfl #[.agg #[.slice A0_0 l0_0.length c0_0, .slice A0_1 l0_1.length c0_1], .int .i64 a1] rfl (by (try simp only [List.map_toArray, List.map_cons, List.map_nil]); first | done | rfl | (simp only [List.length_drop, List.length_take]; rfl)) ?_; (with_reducible refine (impl_PagesGet.calls k _ _ l0_0 _ _ l0_1 a1 t224 t225 _ ?side1 ?side2 ?side3 ?side4 A5.out).mono ?_); (case side1 => repeat (first | exact (Cb HR0_0.out HB.out) | (with_reducible refine Ca ?_ _) | (with_reducible refine Cn ?_ _) | (with_reducible refine Cd ?_))); (case side2 => exact HC0_0.out); (case side3 => repeat (first | exact (Cb HR0_1.out HB.out) | (with_reducible refine Ca ?_ _) | (with_reducible refine Cn ?_ _) | (with_reducible refine Cd ?_))); (case side4 => exact HC0_1.out); rintro e w11 ⟨rfl, hb⟩; refine ⟨_, rfl, ?_⟩; have n0_ := AM (kb (g := gb222) (o := .cells #[.slice A0_0 l0_0.length c0_0, .slice A0_1 l0_1.length c0_1] 40 (0, 0)) (by (with_reducible repeat (first | refine kn ?_ _ | refine kd ?_ | refine ka ?_ _)); exact BK222.out) hb); have n1_ := AM (kb (g := gb223) (o := .cells #[.slice none 0 0, .slice none 0 0] 40 (0, 0)) (by (with_reducible repeat (first | refine kn ?_ _ | refine kd ?_ | refine ka ?_ _)); exact BK223.out) hb); have n2_ := AM (bp (by repeat (first | (with_reducible first | exact HB.out | apply ba | apply bn | apply bd | refine bs ?_ GE222.out | refine bs ?_ GE223.out) | exact HB.out)) hb); clear BK222; clear BK223; clear HB; have BK222 := n0_; have BK223 := n1_; have HB := n2_; clear n0_ n1_ n2_; (try clear hb)))
  (try simp only [Act.put, List.setIfInBounds_toArray, List.set_cons_zero, List.set_cons_succ])
  go_cut [30] (fun v30 wc => ∃ (kq : Nat) (x30_5 : Bool), v30 = .bool x30_5 ∧ Aside0 (impl_PagesSet.j0 kq a1 a2 a3 t224 x30_5 l0_0 l0_1 = some (r1, r2, r3)) ∧ Aside0 (kq ≤ k) ∧ Aside0 (wc.heap[gb222]? = some (.cells #[(.slice A0_0 l0_0.length c0_0), (.slice A0_1 l0_1.length c0_1)] 40 (0, 0))) ∧ Aside0 (wc.heap[gb223]? = some (.cells #[(.slice none 0 0), (.slice none 0 0)] 40 (0, 0))) ∧ Aside0 (Below w.heap.size w wc))
  case first =>
    have H := HC6.out
    clear HC6
    by_cases c12 : t225 = true
    · subst c12
      have H1 : ((impl_in.f a2 0 3).bind fun t226 => (if t226 = true then ((impl_in.f a3 0 255).bind fun t227 => (impl_PagesSet.j0 k a1 a2 a3 t224 (!t227) l0_0 l0_1)) else (impl_PagesSet.j0 k a1 a2 a3 t224 true l0_0 l0_1))) = some (r1, r2, r3) := by rw [if_pos rfl] at H; exact H
      clear H
      have H := H1
      clear H1
      replace H := Option.bind_eq_some_iff.mp H
      obtain ⟨t226, A130, H⟩ := H
      replace H : (if t226 = true then ((impl_in.f a3 0 255).bind fun t227 => (impl_PagesSet.j0 k a1 a2 a3 t224 (!t227) l0_0 l0_1)) else (impl_PagesSet.j0 k a1 a2 a3 t224 true l0_0 l0_1)) = some (r1, r2, r3) := H
      have A13 := AM A130
      clear A130
      by_cases c14 : t226 = true
      · subst c14
        have H1 : ((impl_in.f a3 0 255).bind fun t227 => (impl_PagesSet.j0 k a1 a2 a3 t224 (!t227) l0_0 l0_1)) = some (r1, r2, r3) := by rw [if_pos rfl] at H; exact H
        clear H
        have H := H1
        clear H1
        replace H := Option.bind_eq_some_iff.mp H
        obtain ⟨t227, A150, H⟩ := H
        replace H : (impl_PagesSet.j0 k a1 a2 a3 t224 (!t227) l0_0 l0_1) = some (r1, r2, r3) := H
        have A15 := AM A150
        clear A150
        have H' := AM H
        clear H
        go_wp2_with (first | (go_at_call 42; (with_reducible refine (impl_in.calls a2 0 3 true _ A13.out).mono ?_); rintro e w' ⟨rfl, ⟨nd, rfl⟩⟩) | (go_at_call 42; (with_reducible refine (impl_in.calls a3 0 255 t227 _ A15.out).mono ?_); rintro e w' ⟨rfl, ⟨nd, rfl⟩⟩))
        go_meet
        case rel => exact ⟨_, (!t227), (by first | rfl | (simp; done) | (simp [*]; done)), H', ⟨by first | omega | exact Nat.le_refl _⟩, ⟨by (with_reducible repeat (first | refine kn ?_ _ | refine kd ?_ | refine ka ?_ _)); exact BK222.out⟩, ⟨by (with_reducible repeat (first | refine kn ?_ _ | refine kd ?_ | refine ka ?_ _)); exact BK223.out⟩, ⟨by repeat (first | (with_reducible first | exact HB.out | apply ba | apply bn | apply bd | refine bs ?_ GE222.out | refine bs ?_ GE223.out) | exact HB.out)⟩⟩
      · replace c14 := Bool.eq_false_iff.mpr c14
        subst c14
        have H1 : (impl_PagesSet.j0 k a1 a2 a3 t224 true l0_0 l0_1) = some (r1, r2, r3) := by rw [if_neg (show ¬ (false = true) by decide)] at H; exact H
        clear H
        have H := H1
        clear H1
        have H' := AM H
        clear H
        go_wp2_with (first | (go_at_call 42; (with_reducible refine (impl_in.calls a2 0 3 false _ A13.out).mono ?_); rintro e w' ⟨rfl, ⟨nd, rfl⟩⟩))
        go_meet
        case rel => exact ⟨_, (true), (by first | rfl | (simp; done) | (simp [*]; done)), H', ⟨by first | omega | exact Nat.le_refl _⟩, ⟨by (with_reducible repeat (first | refine kn ?_ _ | refine kd ?_ | refine ka ?_ _)); exact BK222.out⟩, ⟨by (with_reducible repeat (first | refine kn ?_ _ | refine kd ?_ | refine ka ?_ _)); exact BK223.out⟩, ⟨by repeat (first | (with_reducible first | exact HB.out | apply ba | apply bn | apply bd | refine bs ?_ GE222.out | refine bs ?_ GE223.out) | exact HB.out)⟩⟩
    · replace c12 := Bool.eq_false_iff.mpr c12
      subst c12
      have H1 : (impl_PagesSet.j0 k a1 a2 a3 t224 true l0_0 l0_1) = some (r1, r2, r3) := by rw [if_neg (show ¬ (false = true) by decide)] at H; exact H
      clear H
      have H := H1
      clear H1
      have H' := AM H
      clear H
      go_wp2
      go_meet
      case rel => exact ⟨_, (true), (by first | rfl | (simp; done) | (simp [*]; done)), H', ⟨by first | omega | exact Nat.le_refl _⟩, ⟨by (with_reducible repeat (first | refine kn ?_ _ | refine kd ?_ | refine ka ?_ _)); exact BK222.out⟩, ⟨by (with_reducible repeat (first | refine kn ?_ _ | refine kd ?_ | refine ka ?_ _)); exact BK223.out⟩, ⟨by repeat (first | (with_reducible first | exact HB.out | apply ba | apply bn | apply bd | refine bs ?_ GE222.out | refine bs ?_ GE223.out) | exact HB.out)⟩⟩
  case rest =>
    clear HC6
    try clear hcz10_0
    try clear hcz10_1
    try clear hfz10_0
    try clear hfz10_1
    obtain ⟨kq, x30_5, rfl, HA, HJ5, BK222, BK223, HB⟩ := hcut
    cases kq with
    | zero => exact absurd HA.out (by simp [impl_PagesSet.j0])
    | succ kj5 =>
      have H := HA.out
      clear HA
      simp only [impl_PagesSet.j0] at H
      by_cases c16 : x30_5 = true
      · subst c16
        have H1 : (some (([] : List ByteArray), ([] : List Int), false)) = some (r1, r2, r3) := by rw [if_pos rfl] at H; exact H
        clear H
        have H := H1
        clear H1
        simp only [Option.some.injEq, Prod.mk.injEq] at H
        obtain ⟨rfl, rfl, rfl⟩ := H
        have hnb17 := NB223_222.out
        have hnc17 := NB222_223.out
        have hcz18_0 : wc.cell? ⟨gb223, 0, none⟩ = some (.slice none 0 0) := (kc BK223.out 0).trans rfl
        have hcz18_1 : wc.cell? ⟨gb223, 1, none⟩ = some (.slice none 0 0) := (kc BK223.out 1).trans rfl
        have hfz18_0 := kz BK223.out 0
        have hfz18_1 := kz BK223.out 1
        go_wp2
        refine bodyPost_ret (results_ct rfl _ _ gb223 40 #[.slice none 0 0, .slice none 0 0] (0, 0) _ rfl (by (with_reducible repeat (first | refine kn ?_ _ | refine kd ?_ | refine ka ?_ _)); refine blk_put (cs := #[.slice none 0 0, .slice none 0 0]) ?_ 1 _ rfl; (with_reducible repeat (first | refine kn ?_ _ | refine kd ?_ | refine ka ?_ _)); refine blk_put (cs := #[.slice none 0 0, .slice none 0 0]) ?_ 0 _ rfl; (with_reducible repeat (first | refine kn ?_ _ | refine kd ?_ | refine ka ?_ _)); exact BK223.out) Try.underlying40 rfl (by kernel_rfl)) rfl ?_
        exact ⟨_, _, by first | rfl | (simp [errW_none, errW_some] <;> rfl) | (simp [*, errW_none, errW_some] <;> rfl), by first | exact Kd.R_nil _ _ _ _ _ | exact Kd.N_nil _ _ _ _ _ | exact Kd.V_nil _ _ _ _ _ | exact Kd.Q_nil _ _ _ _ _ | exact Kd.S_nil _ _ _ _ _, by first | exact Kd.R_nil _ _ _ _ _ | exact Kd.N_nil _ _ _ _ _ | exact Kd.V_nil _ _ _ _ _ | exact Kd.Q_nil _ _ _ _ _ | exact Kd.S_nil _ _ _ _ _, by repeat (first | (with_reducible first | exact HB.out | apply ba | apply bn | apply bd | refine bs ?_ GE222.out | refine bs ?_ GE223.out) | exact HB.out)⟩
      · replace c16 := Bool.eq_false_iff.mpr c16
        subst c16
        have H1 : ((impl_Pages_clone.f l0_0 l0_1).bind fun bt228 => ((impl_with.f t224 a2 a3).bind fun t235 => (if 0 ≤ a1 then (if a1 < (bt228.1.length : Int) then (some ((bt228.1.set (a1 : Int).toNat t235), bt228.2, true)) else (none)) else (none)))) = some (r1, r2, r3) := by rw [if_neg (show ¬ (false = true) by decide)] at H; exact H
        clear H
        have H := H1
        clear H1
        replace H := Option.bind_eq_some_iff.mp H
        obtain ⟨⟨t228, t231⟩, A190, H⟩ := H
        replace H : ((impl_with.f t224 a2 a3).bind fun t235 => (if 0 ≤ a1 then (if a1 < (t228.length : Int) then (some ((t228.set (a1 : Int).toNat t235), t231, true)) else (none)) else (none))) = some (r1, r2, r3) := H
        have A19 := AM A190
        clear A190
        replace H := Option.bind_eq_some_iff.mp H
        obtain ⟨t235, A200, H⟩ := H
        replace H : (if 0 ≤ a1 then (if a1 < (t228.length : Int) then (some ((t228.set (a1 : Int).toNat t235), t231, true)) else (none)) else (none)) = some (r1, r2, r3) := H
        have A20 := AM A200
        clear A200
        by_cases c21 : 0 ≤ a1
        · rw [if_pos c21] at H
          have c21b0 : decide (0 ≤ a1) = true := decide_eq_true c21
          clear c21
          by_cases c22 : a1 < (t228.length : Int)
          · rw [if_pos c22] at H
            have c22b0 : decide (a1 < (t228.length : Int)) = true := decide_eq_true c22
            clear c22
            obtain ⟨y236, hy236⟩ : ∃ y_ : List ByteArray, y_ = (t228.set (a1 : Int).toNat t235) := ⟨_, rfl⟩
            replace H : (some (y236, t231, true)) = some (r1, r2, r3) := by first | (rw [hy236]; with_reducible exact H) | (have H2_ := (Option.bind_some _ _).symm.trans H; rw [hy236]; with_reducible exact H2_) | (have H2_ := (Option.bind_some _ _).symm.trans H; with_reducible exact H2_) | with_reducible exact H | (rw [hy236]; exact H) | exact H
            have Ny236 := AM hy236
            clear hy236
            simp only [Option.some.injEq, Prod.mk.injEq] at H
            obtain ⟨rfl, rfl, rfl⟩ := H
            have hnb24 := NB222_223.out
            have hnc24 := NB223_222.out
            have hcz25_0 : wc.cell? ⟨gb222, 0, none⟩ = some (.slice A0_0 l0_0.length c0_0) := (kc BK222.out 0).trans rfl
            have hcz25_1 : wc.cell? ⟨gb222, 1, none⟩ = some (.slice A0_1 l0_1.length c0_1) := (kc BK222.out 1).trans rfl
            have hfz25_0 := kz BK222.out 0
            have hfz25_1 := kz BK222.out 1
            try go_wp2_with (first | ((with_reducible refine gc (f := 63) rfl ?_); refine goesL_ (some 33) rfl rfl Try.func63 (by kernel_rfl) rfl #[.agg #[.slice A0_0 l0_0.length c0_0, .slice A0_1 l0_1.length c0_1]] rfl (by (try simp only [List.map_toArray, List.map_cons, List.map_nil]); first | done | rfl | (simp only [List.length_drop, List.length_take]; rfl)) ?_; (with_reducible refine (impl_Pages_clone.calls _ _ l0_0 _ _ l0_1 t228 t231 _ ?side1 ?side2 ?side3 ?side4 A19.out).mono ?_); (case side1 => repeat (first | exact (Cb HR0_0.out HB.out) | (with_reducible refine Ca ?_ _) | (with_reducible refine Cn ?_ _) | (with_reducible refine Cd ?_))); (case side2 => exact HC0_0.out); (case side3 => repeat (first | exact (Cb HR0_1.out HB.out) | (with_reducible refine Ca ?_ _) | (with_reducible refine Cn ?_ _) | (with_reducible refine Cd ?_))); (case side4 => exact HC0_1.out); rintro e w26 ⟨v229, v232, rfl, ho0, ho1, hb⟩; refine ⟨_, rfl, ?_⟩; have n0_ := AM (Rl ho0 (bz (by repeat (first | (with_reducible first | exact HB.out | apply ba | apply bn | apply bd | refine bs ?_ GE222.out | refine bs ?_ GE223.out) | exact HB.out)))); have n1_ := AM (Rl ho1 (bz (by repeat (first | (with_reducible first | exact HB.out | apply ba | apply bn | apply bd | refine bs ?_ GE222.out | refine bs ?_ GE223.out) | exact HB.out)))); have n2_ := AM (kb (g := gb222) (o := .cells #[.slice A0_0 l0_0.length c0_0, .slice A0_1 l0_1.length c0_1] 40 (0, 0)) (by (with_reducible repeat (first | refine kn ?_ _ | refine kd ?_ | refine ka ?_ _)); exact BK222.out) hb); have n3_ := AM (kb (g := gb223) (o := .cells #[.slice none 0 0, .slice none 0 0] 40 (0, 0)) (by (with_reducible repeat (first | refine kn ?_ _ | refine kd ?_ | refine ka ?_ _)); exact BK223.out) hb); have n4_ := AM (bp (by repeat (first | (with_reducible first | exact HB.out | apply ba | apply bn | apply bd | refine bs ?_ GE222.out | refine bs ?_ GE223.out) | exact HB.out)) hb); clear BK222; clear BK223; clear HB; have HO230 := n0_; have HO233 := n1_; have BK222 := n2_; have BK223 := n3_; have HB := n4_; clear n0_ n1_ n2_ n3_ n4_; (try clear hb); (try clear ho0); (try clear ho1)) | ((with_reducible refine gd (N := 12) rfl ?_); refine xe ?hg (N := 12) ?hd (cs := #[.slice none 0 0, .slice none 0 0]) (t := 40) ?hr ?_; (case hd => rfl); (case hg => rfl); (case hr => first | (go_simp; done) | (go_simp; rfl)); intro gb234 hg w27 hbox hb; have n0_ := AM (Rb (by (with_reducible repeat (first | apply Ra | apply Rn | apply Rd)); exact HO230.out) hb); have n1_ := AM (Rb (by (with_reducible repeat (first | apply Ra | apply Rn | apply Rd)); exact HO233.out) hb); have n2_ := AM (kb (g := gb222) (o := .cells #[.slice A0_0 l0_0.length c0_0, .slice A0_1 l0_1.length c0_1] 40 (0, 0)) (by (with_reducible repeat (first | refine kn ?_ _ | refine kd ?_ | refine ka ?_ _)); exact BK222.out) hb); have n3_ := AM (kb (g := gb223) (o := .cells #[.slice none 0 0, .slice none 0 0] 40 (0, 0)) (by (with_reducible repeat (first | refine kn ?_ _ | refine kd ?_ | refine ka ?_ _)); exact BK223.out) hb); have n4_ := AM (bp (by repeat (first | (with_reducible first | exact HB.out | apply ba | apply bn | apply bd | refine bs ?_ GE222.out | refine bs ?_ GE223.out) | exact HB.out)) hb); have n5_ := AM (hbox); have n6_ := AM ((by rw [hg]; exact (bz (by repeat (first | (with_reducible first | exact HB.out | apply ba | apply bn | apply bd | refine bs ?_ GE222.out | refine bs ?_ GE223.out) | exact HB.out))) : w.heap.size ≤ gb234)); have n7_ := AM ((by rw [hg]; exact (bz (by repeat (first | (with_reducible first | exact HB.out | apply ba | apply bn | apply bd | refine bs ?_ GE222.out | refine bs ?_ GE223.out) | exact HB.out))) : w.heap.size ≤ gb234)); have n8_ := AM ((by rw [hg]; exact Nat.ne_of_lt (blk_lt (g := gb222) (o := .cells #[.slice A0_0 l0_0.length c0_0, .slice A0_1 l0_1.length c0_1] 40 (0, 0)) (by (with_reducible repeat (first | refine kn ?_ _ | refine kd ?_ | refine ka ?_ _)); exact BK222.out)) : gb222 ≠ gb234)); have n9_ := AM ((by rw [hg]; exact Nat.ne_of_gt (blk_lt (g := gb222) (o := .cells #[.slice A0_0 l0_0.length c0_0, .slice A0_1 l0_1.length c0_1] 40 (0, 0)) (by (with_reducible repeat (first | refine kn ?_ _ | refine kd ?_ | refine ka ?_ _)); exact BK222.out)) : gb234 ≠ gb222)); have n10_ := AM ((by rw [hg]; exact Nat.ne_of_lt (blk_lt (g := gb223) (o := .cells #[.slice none 0 0, .slice none 0 0] 40 (0, 0)) (by (with_reducible repeat (first | refine kn ?_ _ | refine kd ?_ | refine ka ?_ _)); exact BK223.out)) : gb223 ≠ gb234)); have n11_ := AM ((by rw [hg]; exact Nat.ne_of_gt (blk_lt (g := gb223) (o := .cells #[.slice none 0 0, .slice none 0 0] 40 (0, 0)) (by (with_reducible repeat (first | refine kn ?_ _ | refine kd ?_ | refine ka ?_ _)); exact BK223.out)) : gb234 ≠ gb223)); clear HO230; clear HO233; clear BK222; clear BK223; clear HB; have HO230 := n0_; have HO233 := n1_; have BK222 := n2_; have BK223 := n3_; have HB := n4_; have BK234 := n5_; have GW234 := n6_; have GE234 := n7_; have NB222_234 := n8_; have NB234_222 := n9_; have NB223_234 := n10_; have NB234_223 := n11_; clear n0_ n1_ n2_ n3_ n4_ n5_ n6_ n7_ n8_ n9_ n10_ n11_; clear hb hbox hg; obtain ⟨Ao28, co28, eo28⟩ := Ri HO230.out; subst eo28; have hnb29 := NB234_222.out; have hnc29 := NB222_234.out; have hnb30 := NB234_223.out; have hnc30 := NB223_234.out; have hcz31_0 : w27.cell? ⟨gb234, 0, none⟩ = some (.slice none 0 0) := (kc BK234.out 0).trans rfl; have hcz31_1 : w27.cell? ⟨gb234, 1, none⟩ = some (.slice none 0 0) := (kc BK234.out 1).trans rfl; have hfz31_0 := kz BK234.out 0; have hfz31_1 := kz BK234.out 1; obtain ⟨Ao32, co32, eo32⟩ := Ri HO233.out; subst eo32))
            have n0_ : Aside0 (Kd.R Kd.string 9 ((w27.setCell ⟨gb234, 0, none⟩ (.slice Ao28 t228.length co28)).setCell ⟨gb234, 1, none⟩ (.slice Ao32 t231.length co32)) w.heap.size (fun _ => True) (.slice Ao28 t228.length co28) t228) := ⟨by (with_reducible repeat (first | apply Ra | apply Rn | apply Rd)); exact Rm (Rf (p := ⟨gb234, 1, none⟩) (Rf (p := ⟨gb234, 0, none⟩) (Rt HO230.out BK234.out (by decide)) (fun _ hk => hk.2) (.slice Ao28 t228.length co28)) (fun _ hk => hk.2) (.slice Ao32 t231.length co32)) (fun _ hk => trivial)⟩
            have n1_ : Aside0 (Kd.R (Kd.int .i64) 3 ((w27.setCell ⟨gb234, 0, none⟩ (.slice Ao28 t228.length co28)).setCell ⟨gb234, 1, none⟩ (.slice Ao32 t231.length co32)) w.heap.size (fun _ => True) (.slice Ao32 t231.length co32) t231) := ⟨by (with_reducible repeat (first | apply Ra | apply Rn | apply Rd)); exact Rm (Rf (p := ⟨gb234, 1, none⟩) (Rf (p := ⟨gb234, 0, none⟩) (Rt HO233.out BK234.out (by decide)) (fun _ hk => hk.2) (.slice Ao28 t228.length co28)) (fun _ hk => hk.2) (.slice Ao32 t231.length co32)) (fun _ hk => trivial)⟩
            have n2_ : Aside0 (((w27.setCell ⟨gb234, 0, none⟩ (.slice Ao28 t228.length co28)).setCell ⟨gb234, 1, none⟩ (.slice Ao32 t231.length co32)).heap[gb222]? = some (.cells #[.slice A0_0 l0_0.length c0_0, .slice A0_1 l0_1.length c0_1] 40 (0, 0))) := ⟨by (with_reducible repeat (first | refine kn ?_ _ | refine kd ?_ | refine ka ?_ _)); refine kf ?_ NB222_234.out _; (with_reducible repeat (first | refine kn ?_ _ | refine kd ?_ | refine ka ?_ _)); refine kf ?_ NB222_234.out _; (with_reducible repeat (first | refine kn ?_ _ | refine kd ?_ | refine ka ?_ _)); exact BK222.out⟩
            have n3_ : Aside0 (((w27.setCell ⟨gb234, 0, none⟩ (.slice Ao28 t228.length co28)).setCell ⟨gb234, 1, none⟩ (.slice Ao32 t231.length co32)).heap[gb223]? = some (.cells #[.slice none 0 0, .slice none 0 0] 40 (0, 0))) := ⟨by (with_reducible repeat (first | refine kn ?_ _ | refine kd ?_ | refine ka ?_ _)); refine kf ?_ NB223_234.out _; (with_reducible repeat (first | refine kn ?_ _ | refine kd ?_ | refine ka ?_ _)); refine kf ?_ NB223_234.out _; (with_reducible repeat (first | refine kn ?_ _ | refine kd ?_ | refine ka ?_ _)); exact BK223.out⟩
            have n4_ : Aside0 (((w27.setCell ⟨gb234, 0, none⟩ (.slice Ao28 t228.length co28)).setCell ⟨gb234, 1, none⟩ (.slice Ao32 t231.length co32)).heap[gb234]? = some (.cells #[.slice Ao28 t228.length co28, .slice Ao32 t231.length co32] 40 (0, 0))) := ⟨by (with_reducible repeat (first | refine kn ?_ _ | refine kd ?_ | refine ka ?_ _)); refine blk_put (cs := #[.slice Ao28 t228.length co28, .slice none 0 0]) ?_ 1 _ rfl; (with_reducible repeat (first | refine kn ?_ _ | refine kd ?_ | refine ka ?_ _)); refine blk_put (cs := #[.slice none 0 0, .slice none 0 0]) ?_ 0 _ rfl; (with_reducible repeat (first | refine kn ?_ _ | refine kd ?_ | refine ka ?_ _)); exact BK234.out⟩
            have n5_ : Aside0 (Below w.heap.size w ((w27.setCell ⟨gb234, 0, none⟩ (.slice Ao28 t228.length co28)).setCell ⟨gb234, 1, none⟩ (.slice Ao32 t231.length co32))) := ⟨by repeat (first | (with_reducible first | exact HB.out | apply ba | apply bn | apply bd | refine bs ?_ GE222.out | refine bs ?_ GE223.out | refine bs ?_ GE234.out) | exact HB.out)⟩
            (try clear HO230)
            (try clear HO233)
            (try clear BK222)
            (try clear BK223)
            (try clear BK234)
            (try clear HB)
            generalize ((w27.setCell ⟨gb234, 0, none⟩ (.slice Ao28 t228.length co28)).setCell ⟨gb234, 1, none⟩ (.slice Ao32 t231.length co32)) = w33 at n0_ n1_ n2_ n3_ n4_ n5_ ⊢
            have HO230 := n0_
            have HO233 := n1_
            have BK222 := n2_
            have BK223 := n3_
            have BK234 := n4_
            have HB := n5_
            clear n0_ n1_ n2_ n3_ n4_ n5_
            have n0_ := AM (Rd HO230.out)
            have n1_ := AM (Rd HO233.out)
            have n2_ := AM (kd BK222.out)
            have n3_ := AM (kd BK223.out)
            have n4_ := AM (kd BK234.out)
            have n5_ := AM (bd HB.out)
            clear HO230
            clear HO233
            clear BK222
            clear BK223
            clear BK234
            clear HB
            have HO230 := n0_
            have HO233 := n1_
            have BK222 := n2_
            have BK223 := n3_
            have BK234 := n4_
            have HB := n5_
            clear n0_ n1_ n2_ n3_ n4_ n5_
            refine start_ (n := 9) (S := fun w' => w'.cell? ⟨gb234, 0, none⟩ = some (.slice Ao28 t228.length co28) ∧ w'.cell? ⟨gb234, 1, none⟩ = some (.slice Ao32 t231.length co32)) (ds := [8]) #[false, false, false, false, false, false, false, false, false] (by kernel_rfl) rfl rfl ⟨(kc BK234.out 0).trans rfl, (kc BK234.out 1).trans rfl⟩ (fun hHeld => ?_); refine with_tabW impl_PagesSet.tab5 impl_PagesSet.bits5 (fun HT_ HW_ => ?_)
            generalize w33.drew = w34 at HO230 HO233 BK222 BK223 BK234 HB hHeld ⊢
            refine pure_ (i := 0) (N := some 34) (v := ?_) (a' := ?_) #[true, false, false, false, false, false, false, false, false] rfl rfl (any_of HT_.out (by kernel_rfl)) (fun _ _ _ h => h) (Or.inl ⟨by rfl, ?_⟩) ?_ ?_
            rotate_left
            · intro w'
              go_simp
              with_reducible rfl
            rotate_left
            · simp only [Act.put, List.setIfInBounds_toArray, List.set_cons_zero, List.set_cons_succ, i64_w, i32_w]
              rfl
            refine pure_ (i := 2) (N := some 36) (v := ?_) (a' := ?_) #[true, false, true, false, false, false, false, false, false] rfl rfl (any_of HT_.out (by kernel_rfl)) (fun _ _ _ h => h) (Or.inl ⟨by rfl, ?_⟩) ?_ ?_
            rotate_left
            · intro w'
              go_simp
              with_reducible rfl
            rotate_left
            · simp only [Act.put, List.setIfInBounds_toArray, List.set_cons_zero, List.set_cons_succ, i64_w, i32_w]
              rfl
            refine pure_ (i := 3) (N := some 37) (v := ?_) (a' := ?_) #[true, false, true, true, false, false, false, false, false] rfl rfl (any_of HT_.out (by kernel_rfl)) (fun _ _ _ h => h) (Or.inl ⟨by rfl, ?_⟩) ?_ ?_
            rotate_left
            · intro w'
              go_simp
              with_reducible rfl
            rotate_left
            · simp only [Act.put, List.setIfInBounds_toArray, List.set_cons_zero, List.set_cons_succ, i64_w, i32_w]
              rfl
            refine pure_ (i := 4) (N := some 38) (v := ?_) (a' := ?_) #[true, false, true, true, true, false, false, false, false] rfl rfl (any_of HT_.out (by kernel_rfl)) (fun _ _ _ h => h) (Or.inl ⟨by rfl, ?_⟩) ?_ ?_
            rotate_left
            · intro w'
              go_simp
              with_reducible rfl
            rotate_left
            · simp only [Act.put, List.setIfInBounds_toArray, List.set_cons_zero, List.set_cons_succ, i64_w, i32_w]
              rfl
            refine pure_ (i := 5) (N := some 39) (v := ?_) (a' := ?_) #[true, false, true, true, true, true, false, false, false] rfl rfl (any_of HT_.out (by kernel_rfl)) (fun _ _ _ h => h) (Or.inl ⟨by rfl, ?_⟩) ?_ ?_
            rotate_left
            · intro w'
              go_simp
              with_reducible rfl
            rotate_left
            · simp only [Act.put, List.setIfInBounds_toArray, List.set_cons_zero, List.set_cons_succ, i64_w, i32_w]
              rfl
            refine take_ (i := 1) (N := some 35) (v := ?_) (a' := ?_) #[true, true, true, true, true, true, false, false, false] rfl rfl (take_ofW HT_.out HW_.out (by kernel_rfl)) (fun _ _ _ h => h) (Or.inl ⟨by rfl, ?_⟩) hHeld ?_ ?_
            rotate_left
            · rintro w' ⟨s0, s1⟩
              go_simp
              with_reducible rfl
            rotate_left
            · simp only [Act.put, List.setIfInBounds_toArray, List.set_cons_zero, List.set_cons_succ, i64_w, i32_w]
              rfl
            refine one_ (i := 6) (N := some 40) #[true, true, true, true, true, true, true, false, false] rfl rfl (one_of HT_.out (by kernel_rfl)) (by decide) (fun K hK => ?_)
            refine goes_ Try.func73 (by kernel_rfl) rfl #[.string t224, .int .i64 a2, .int .i64 a3] (by rfl) rfl rfl (by (try simp only [List.map_toArray, List.map_cons, List.map_nil]); first | done | rfl | (simp only [List.length_drop, List.length_take]; rfl)) ?_
            with_reducible refine (impl_with.calls t224 a2 a3 t235 _ A20.out).mono ?_
            rintro e w35 ⟨rfl, hb⟩
            refine ⟨_, rfl, ?_⟩
            have n0_ := AM (Rb (by (with_reducible repeat (first | apply Ra | apply Rn | apply Rd)); exact HO230.out) hb)
            have n1_ := AM (Rb (by (with_reducible repeat (first | apply Ra | apply Rn | apply Rd)); exact HO233.out) hb)
            have n2_ := AM (kb (g := gb222) (o := .cells #[.slice A0_0 l0_0.length c0_0, .slice A0_1 l0_1.length c0_1] 40 (0, 0)) (by (with_reducible repeat (first | refine kn ?_ _ | refine kd ?_ | refine ka ?_ _)); exact BK222.out) hb)
            have n3_ := AM (kb (g := gb223) (o := .cells #[.slice none 0 0, .slice none 0 0] 40 (0, 0)) (by (with_reducible repeat (first | refine kn ?_ _ | refine kd ?_ | refine ka ?_ _)); exact BK223.out) hb)
            have n4_ := AM (kb (g := gb234) (o := .cells #[.slice Ao28 t228.length co28, .slice Ao32 t231.length co32] 40 (0, 0)) (by (with_reducible repeat (first | refine kn ?_ _ | refine kd ?_ | refine ka ?_ _)); exact BK234.out) hb)
            have n5_ := AM (bp (by repeat (first | (with_reducible first | exact HB.out | apply ba | apply bn | apply bd | refine bs ?_ GE222.out | refine bs ?_ GE223.out | refine bs ?_ GE234.out) | exact HB.out)) hb)
            clear HO230
            clear HO233
            clear BK222
            clear BK223
            clear BK234
            clear HB
            have HO230 := n0_
            have HO233 := n1_
            have BK222 := n2_
            have BK223 := n3_
            have BK234 := n4_
            have HB := n5_
            clear n0_ n1_ n2_ n3_ n4_ n5_
            (try clear hb)
            (try clear hb2)
            (try clear hk)
            (try clear hi)
            have p23 : 0 ≤ (a1 : Int) := of_decide_eq_true (by first | (with_reducible assumption) | assumption)
            have q23 : (a1 : Int) < ((t228.length : Int) : Int) := of_decide_eq_true (by first | (with_reducible assumption) | assumption)
            obtain ⟨go23, co23, eo23, gb23, gl23, cl23, HG23⟩ := Kd.R_form HO230.out (by omega)
            (first | cases eo23 | (injection eo23 with ea_ en_ ec_; (first | subst ea_ | (injection ea_ with ea_; subst ea_)); subst ec_; clear en_))
            have GB23 := AM gb23
            have GG23 := AM HG23
            clear gb23 gl23 HG23
            obtain ⟨hx23_0, hf23_0⟩ := Kd.R_celln (⟨#[]⟩ : ByteArray) HO230.out (a1 : Int) p23 q23
            replace p23 := eq_true p23
            replace q23 := eq_true q23
            have HP36 := Kd.R_putn HO230.out (a1 : Int) t235
            rw [← Ny236.out] at HP36
            have HQ36 := AM HP36
            clear HP36
            refine hK.out _ _ ⟨(kc BK234.out 0).trans rfl, (kc BK234.out 1).trans rfl⟩ (fun hHeld => ?_)
            clear hK K
            refine norm_ (a' := ?_) ?_ ?_
            rotate_left
            · show Act.put _ (some 40) _ = _
              simp only [Act.put, List.setIfInBounds_toArray, List.set_cons_zero, List.set_cons_succ, i64_w, i32_w]
              rfl
            refine pure_ (i := 7) (N := some 41) (v := ?_) (a' := ?_) #[true, true, true, true, true, true, true, true, false] rfl rfl (any_of HT_.out (by kernel_rfl)) (fun _ _ _ h => h) (Or.inl ⟨by rfl, ?_⟩) ?_ ?_
            rotate_left
            · intro w'
              go_simp
              with_reducible rfl
            rotate_left
            · simp only [Act.put, List.setIfInBounds_toArray, List.set_cons_zero, List.set_cons_succ, i64_w, i32_w]
              rfl
            refine last_ (i := 8) (N := none) #[true, true, true, true, true, true, true, true, true] rfl rfl (one_of HT_.out (by kernel_rfl)) (by decide) (fun K hK => ?_)
            refine skip_ (w1 := ?_) (by rfl) rfl ?_ ?_
            rotate_left
            · go_simp
              rfl
            refine hK.out _ _ ?_
            clear hK K
            refine done_ (done_of HT_.out (by kernel_rfl)) ?_
            have n0_ : Aside0 (Kd.R Kd.string 9 (w35.setCell ⟨go23, (a1 : Int).toNat, none⟩ (.string t235)) w.heap.size (fun _ => True) (.slice (some ⟨go23, 0, none⟩) t228.length co28) y236) := ⟨by (with_reducible repeat (first | apply Ra | apply Rn | apply Rd)); exact HQ36.out⟩
            have n1_ : Aside0 (Kd.R (Kd.int .i64) 3 (w35.setCell ⟨go23, (a1 : Int).toNat, none⟩ (.string t235)) w.heap.size (fun _ => True) (.slice Ao32 t231.length co32) t231) := ⟨by (with_reducible repeat (first | apply Ra | apply Rn | apply Rd)); exact Rm (Rf (p := ⟨go23, (a1 : Int).toNat, none⟩) (Rt HO233.out GG23.out (by decide)) (fun _ hk => hk.2) (.string t235)) (fun _ hk => trivial)⟩
            have n2_ : Aside0 ((w35.setCell ⟨go23, (a1 : Int).toNat, none⟩ (.string t235)).heap[gb222]? = some (.cells #[.slice A0_0 l0_0.length c0_0, .slice A0_1 l0_1.length c0_1] 40 (0, 0))) := ⟨by (with_reducible repeat (first | refine kn ?_ _ | refine kd ?_ | refine ka ?_ _)); refine kf ?_ (by have h_ := Kd.R_ne HO230.out BK222.out (by decide); intro e_; exact h_ (by rw [e_]; rfl)) _; (with_reducible repeat (first | refine kn ?_ _ | refine kd ?_ | refine ka ?_ _)); exact BK222.out⟩
            have n3_ : Aside0 ((w35.setCell ⟨go23, (a1 : Int).toNat, none⟩ (.string t235)).heap[gb223]? = some (.cells #[.slice none 0 0, .slice none 0 0] 40 (0, 0))) := ⟨by (with_reducible repeat (first | refine kn ?_ _ | refine kd ?_ | refine ka ?_ _)); refine kf ?_ (by have h_ := Kd.R_ne HO230.out BK223.out (by decide); intro e_; exact h_ (by rw [e_]; rfl)) _; (with_reducible repeat (first | refine kn ?_ _ | refine kd ?_ | refine ka ?_ _)); exact BK223.out⟩
            have n4_ : Aside0 ((w35.setCell ⟨go23, (a1 : Int).toNat, none⟩ (.string t235)).heap[gb234]? = some (.cells #[.slice (some ⟨go23, 0, none⟩) t228.length co28, .slice Ao32 t231.length co32] 40 (0, 0))) := ⟨by (with_reducible repeat (first | refine kn ?_ _ | refine kd ?_ | refine ka ?_ _)); refine kf ?_ (by have h_ := Kd.R_ne HO230.out BK234.out (by decide); intro e_; exact h_ (by rw [e_]; rfl)) _; (with_reducible repeat (first | refine kn ?_ _ | refine kd ?_ | refine ka ?_ _)); exact BK234.out⟩
            have n5_ : Aside0 (Below w.heap.size w (w35.setCell ⟨go23, (a1 : Int).toNat, none⟩ (.string t235))) := ⟨by repeat (first | (with_reducible first | exact HB.out | apply ba | apply bn | apply bd | refine bs ?_ GB23.out | refine bs ?_ GE222.out | refine bs ?_ GE223.out | refine bs ?_ GE234.out) | exact HB.out)⟩
            (try clear HO230)
            (try clear HO233)
            (try clear BK222)
            (try clear BK223)
            (try clear BK234)
            (try clear HB)
            generalize (w35.setCell ⟨go23, (a1 : Int).toNat, none⟩ (.string t235)) = w37 at n0_ n1_ n2_ n3_ n4_ n5_ ⊢
            have HO230 := n0_
            have HO233 := n1_
            have BK222 := n2_
            have BK223 := n3_
            have BK234 := n4_
            have HB := n5_
            clear n0_ n1_ n2_ n3_ n4_ n5_
            have hcz38_0 : w37.cell? ⟨gb234, 0, none⟩ = some (.slice (some ⟨go23, 0, none⟩) t228.length co28) := (kc BK234.out 0).trans rfl
            have hcz38_1 : w37.cell? ⟨gb234, 1, none⟩ = some (.slice Ao32 t231.length co32) := (kc BK234.out 1).trans rfl
            have hfz38_0 := kz BK234.out 0
            have hfz38_1 := kz BK234.out 1
            have hcz39_0 : w37.cell? ⟨gb223, 0, none⟩ = some (.slice none 0 0) := (kc BK223.out 0).trans rfl
            have hcz39_1 : w37.cell? ⟨gb223, 1, none⟩ = some (.slice none 0 0) := (kc BK223.out 1).trans rfl
            have hfz39_0 := kz BK223.out 0
            have hfz39_1 := kz BK223.out 1
            try go_wp2
            refine bodyPost_ret (results_ct rfl _ _ gb223 40 #[.slice (some ⟨go23, 0, none⟩) t228.length co28, .slice Ao32 t231.length co32] (0, 0) _ rfl (by (with_reducible repeat (first | refine kn ?_ _ | refine kd ?_ | refine ka ?_ _)); refine blk_put (cs := #[.slice (some ⟨go23, 0, none⟩) t228.length co28, .slice none 0 0]) ?_ 1 _ rfl; (with_reducible repeat (first | refine kn ?_ _ | refine kd ?_ | refine ka ?_ _)); refine blk_put (cs := #[.slice none 0 0, .slice none 0 0]) ?_ 0 _ rfl; (with_reducible repeat (first | refine kn ?_ _ | refine kd ?_ | refine ka ?_ _)); exact BK223.out) Try.underlying40 rfl (by kernel_rfl)) rfl ?_
            exact ⟨_, _, by first | rfl | (simp [errW_none, errW_some] <;> rfl) | (simp [*, errW_none, errW_some] <;> rfl), by (with_reducible repeat (first | apply Ra | apply Rn | apply Rd)); exact Rm (Rf (p := ⟨gb223, 1, none⟩) (Rf (p := ⟨gb223, 0, none⟩) (Rt HO230.out BK223.out (by decide)) (fun _ hk => hk.2) (.slice (some ⟨go23, 0, none⟩) t228.length co28)) (fun _ hk => hk.2) (.slice Ao32 t231.length co32)) (fun _ hk => trivial), by (with_reducible repeat (first | apply Ra | apply Rn | apply Rd)); exact Rm (Rf (p := ⟨gb223, 1, none⟩) (Rf (p := ⟨gb223, 0, none⟩) (Rt HO233.out BK223.out (by decide)) (fun _ hk => hk.2) (.slice (some ⟨go23, 0, none⟩) t228.length co28)) (fun _ hk => hk.2) (.slice Ao32 t231.length co32)) (fun _ hk => trivial), by repeat (first | (with_reducible first | exact HB.out | apply ba | apply bn | apply bd | refine bs ?_ GE222.out | refine bs ?_ GE223.out | refine bs ?_ GE234.out) | exact HB.out)⟩
          · rw [if_neg c22] at H
            exact absurd H (by simp)
        · rw [if_neg c21] at H
          exact absurd H (by simp)

end Go.Proofs.Ytfbdkjdockbfdaa.GPset
