-- Written by this session's program hp.py (over the kit's printer) and out of its own hand texts. Not trusted: Lean checks it.
import Derived.Test.YtfbdkjdockbfdabGQx0
import Derived.Test.YtfbdkjdockbfdabGQx4
import Derived.Test.YtfbdkjdockbfdabGQx5
import Derived.Test.YtfbdkjdockbfdabGQx6
import Derived.Test.YtfbdkjdockbfdabGQx7
namespace Go.Proofs.Ytfbdkjdockbfdab.GQ
open Go.RowKit Go.Proofs.YtfbdkjdockbfdabW.PrintWords Go.Proofs.YtfbdkjdockbfdabW.PrintLast Go.Proofs.YtfbdkjdockbfdabW.PrintMore
attribute [local go_sem] max2_int min2_int max_two min_two max_three min_three max_four min_four   -- for this text's walks alone
set_option linter.unusedVariables false
set_option linter.unusedSimpArgs false

/-! ### impl_QueueRun: function 7 -/
open List renaming setIfInBounds_toArray → sA, set_cons_zero → sZ, set_cons_succ → sS
open Go.Proofs.YtfbdkjdockbfdabW.PrintWords.Aside0 renaming mk → AM
open Go.Proofs.YtfbdkjdockbfdabW.PrintWords renaming below_alloc → ba, pw_below_drewN → bn, below_drew1 → bd, below_set → bs, blk_drewN → kn, blk_drew → kd, blk_alloc → ka, blk_far → kf, blk_cell → kc, blk_frozen → kz, blk_below → kb, below_size → bz, below_step → bp, box_event → xe, gate_callee → gc, gate_dst → gd
open Go.Proofs.YtfbdkjdockbfdabW.PrintWords.Kd renaming R_alloc → Ra, R_drewN → Rn, R_drew → Rd, R_mono → Rm, R_below → Rb, R_far → Rf, R_reads' → Rr, R_types → Rt, R_lower → Rl, C_alloc → Ca, C_drewN → Cn, C_drew → Cd, C_below → Cb, R_elder' → Re, R_lt → Rq, R_base → Rs, R_new' → Rw, R_slice → Ri
mutual
def impl_QueueRun.j0 : Nat → Int → Bool → List (S51) → Int → Option ((List (S51)) × Int × List Int × Bool)
  | 0, _, _, _, _ => none
  | k + 1, x1, x19, x219000, x219001 => if x19 = true then (some (([] : List (S51)), 0, ([] : List Int), false)) else ((impl_Queue_clone.f x219000 x219001).bind fun bt222 => (impl_QueueRun.l0 k (([] : List Int)) x1 0 bt222.1 bt222.2))
def impl_QueueRun.l0 : Nat → List Int → Int → Int → List (S51) → Int → Option ((List (S51)) × Int × List Int × Bool)
  | 0, _, _, _, _, _ => none
  | k + 1, x8, x24, x25, x227000, x227001 => if x25 < x24 then ((impl_QueueTick.f k x227000 x227001).bind fun bt230 => (if bt230.2.2.2 = true then (if x8.length < 17592186044416 then (impl_QueueRun.l0 k (x8 ++ [bt230.2.2.1]) x24 (wrap64 (x25 + 1)) bt230.1 bt230.2.1) else (none)) else (some (([] : List (S51)), 0, ([] : List Int), false)))) else (some (x227000, x227001, x8, true))
end
def impl_QueueRun.f (k : Nat) (l0_0 : List (S51)) (a0_1 : Int) (a1 : Int) : Option ((List (S51)) × Int × List Int × Bool) := (impl_QueueOk.f k l0_0 a0_1).bind fun t220 => (if t220 = true then ((impl_in.f a1 0 1000).bind fun t221 => (impl_QueueRun.j0 k a1 (!t221) l0_0 a0_1)) else (impl_QueueRun.j0 k a1 true l0_0 a0_1))
theorem impl_QueueRun.mono_l : ∀ k, (∀ y0 y1 y2 y3, LeO (impl_QueueRun.j0 k y0 y1 y2 y3) (impl_QueueRun.j0 (k + 1) y0 y1 y2 y3)) ∧ (∀ y0 y1 y2 y3 y4, LeO (impl_QueueRun.l0 k y0 y1 y2 y3 y4) (impl_QueueRun.l0 (k + 1) y0 y1 y2 y3 y4))
  | 0 => ⟨fun _ _ _ _ r h => by simp [impl_QueueRun.j0] at h, fun _ _ _ _ _ r h => by simp [impl_QueueRun.l0] at h⟩
  | k + 1 => by
    obtain ⟨ih0, ih1⟩ := impl_QueueRun.mono_l k
    refine ⟨?_, ?_⟩
    · intro y0 y1 y2 y3
      unfold impl_QueueRun.j0
      repeat' first
      | (with_reducible exact ih0 _ _ _ _)
      | (with_reducible exact ih1 _ _ _ _ _)
      | (with_reducible exact impl_QueueOk.mono _ _ _)
      | (with_reducible exact impl_QueueTick.mono _ _ _)
      | (with_reducible exact LeO.refl _)
      | (with_reducible exact LeO.none _)
      | (with_reducible refine LeO.ite ?_ ?_)
      | (with_reducible refine LeO.bind ?_ (fun _ => ?_))
      | exact ih0 _ _ _ _
      | exact ih1 _ _ _ _ _
      | exact impl_QueueOk.mono _ _ _
      | exact impl_QueueTick.mono _ _ _
      | exact LeO.none _
      | refine LeO.ite ?_ ?_
      | refine LeO.bind ?_ (fun _ => ?_)
    · intro y0 y1 y2 y3 y4
      unfold impl_QueueRun.l0
      repeat' first
      | (with_reducible exact ih0 _ _ _ _)
      | (with_reducible exact ih1 _ _ _ _ _)
      | (with_reducible exact impl_QueueOk.mono _ _ _)
      | (with_reducible exact impl_QueueTick.mono _ _ _)
      | (with_reducible exact LeO.refl _)
      | (with_reducible exact LeO.none _)
      | (with_reducible refine LeO.ite ?_ ?_)
      | (with_reducible refine LeO.bind ?_ (fun _ => ?_))
      | exact ih0 _ _ _ _
      | exact ih1 _ _ _ _ _
      | exact impl_QueueOk.mono _ _ _
      | exact impl_QueueTick.mono _ _ _
      | exact LeO.none _
      | refine LeO.ite ?_ ?_
      | refine LeO.bind ?_ (fun _ => ?_)
theorem impl_QueueRun.mono : ∀ a0 a1 a2 k, LeO (impl_QueueRun.f k a0 a1 a2) (impl_QueueRun.f (k + 1) a0 a1 a2) := by
  intro a0 a1 a2 k
  obtain ⟨ih0, ih1⟩ := impl_QueueRun.mono_l k
  unfold impl_QueueRun.f
  repeat' first
      | (with_reducible exact ih0 _ _ _ _)
      | (with_reducible exact ih1 _ _ _ _ _)
      | (with_reducible exact impl_QueueOk.mono _ _ _)
      | (with_reducible exact impl_QueueTick.mono _ _ _)
      | (with_reducible exact LeO.refl _)
      | (with_reducible exact LeO.none _)
      | (with_reducible refine LeO.ite ?_ ?_)
      | (with_reducible refine LeO.bind ?_ (fun _ => ?_))
      | exact ih0 _ _ _ _
      | exact ih1 _ _ _ _ _
      | exact impl_QueueOk.mono _ _ _
      | exact impl_QueueTick.mono _ _ _
      | exact LeO.none _
      | refine LeO.ite ?_ ?_
      | refine LeO.bind ?_ (fun _ => ?_)
set_option maxHeartbeats 8000000 in
set_option maxRecDepth 100000 in
theorem impl_QueueRun.calls (k : Nat) (A0_0 : Option Addr) (c0_0 : Nat) (l0_0 : List (S51)) (a0_1 : Int) (a1 : Int) (r1 : List (S51)) (r2 : Int) (r3 : List Int) (r4 : Bool) (w : World) (hr0_0 : Kd.C k51 w A0_0 l0_0.length l0_0) (hc0_0 : l0_0.length ≤ c0_0) (h : impl_QueueRun.f k l0_0 a0_1 a1 = some (r1, r2, r3, r4)) :
    Calls Try.prog 7 #[.agg #[.slice A0_0 l0_0.length c0_0, .int .i64 a0_1], .int .i64 a1] w fun e w' => ∃ v0_ v2_ : Value, e = .returned (.tuple #[.agg #[v0_, .int .i64 r2], v2_, .bool r4]) ∧ Kd.R k51 51 w' w.heap.size (fun _ => True) v0_ r1 ∧ Kd.R (Kd.int .i64) 3 w' w.heap.size (fun _ => True) v2_ r3 ∧ Below w.heap.size w w' := by
  have hu28 := Try.underlying28
  have HR0_0 := AM hr0_0
  have HC0_0 := AM hc0_0
  clear hr0_0 hc0_0
  have HB := AM (Below.refl w.heap.size w)
  have H : ((impl_QueueOk.f k l0_0 a0_1).bind fun t220 => (if t220 = true then ((impl_in.f a1 0 1000).bind fun t221 => (impl_QueueRun.j0 k a1 (!t221) l0_0 a0_1)) else (impl_QueueRun.j0 k a1 true l0_0 a0_1))) = some (r1, r2, r3, r4) := h
  clear h
  have HC3 := AM H
  clear H
  go_enter Try.func7, Try.ntmps7
  go_upto_region 1 with (first | ((with_reducible refine gd (N := 2) rfl ?_); refine xe ?hg (N := 2) ?hd (cs := #[.slice A0_0 l0_0.length c0_0, .int .i64 a0_1]) (t := 28) ?hr ?_; (case hd => rfl); (case hg => rfl); (case hr => first | (go_simp; done) | (go_simp; rfl)); intro gb218 hg w4 hbox hb; have n0_ := AM (bp (lfB HB.out) hb); have n1_ := AM (hbox); have n2_ := AM ((by rw [hg]; exact (bz (lfB HB.out)) : w.heap.size ≤ gb218)); have n3_ := AM ((by rw [hg]; exact (bz (lfB HB.out)) : w.heap.size ≤ gb218)); clear HB; revert n0_ n1_ n2_ n3_; intro HB BK218 GW218 GE218; clear hb hbox hg) | ((with_reducible refine gd (N := 4) rfl ?_); refine xe ?hg (N := 4) ?hd (cs := #[.slice none 0 0, .int .i64 0]) (t := 28) ?hr ?_; (case hd => rfl); (case hg => rfl); (case hr => first | (go_simp; done) | (go_simp; rfl)); intro gb219 hg w5 hbox hb; have n0_ := AM (kb (g := gb218) (o := .cells #[.slice A0_0 l0_0.length c0_0, .int .i64 a0_1] 28 (0, 0)) (lfK BK218.out) hb); have n1_ := AM (bp (by repeat (first | (with_reducible first | exact HB.out | apply ba | apply bn | apply bd | refine bs ?_ GE218.out) | exact HB.out)) hb); have n2_ := AM (hbox); have n3_ := AM ((by rw [hg]; exact (bz (by repeat (first | (with_reducible first | exact HB.out | apply ba | apply bn | apply bd | refine bs ?_ GE218.out) | exact HB.out))) : w.heap.size ≤ gb219)); have n4_ := AM ((by rw [hg]; exact (bz (by repeat (first | (with_reducible first | exact HB.out | apply ba | apply bn | apply bd | refine bs ?_ GE218.out) | exact HB.out))) : w.heap.size ≤ gb219)); have n5_ := AM ((by rw [hg]; exact Nat.ne_of_lt (blk_lt (g := gb218) (o := .cells #[.slice A0_0 l0_0.length c0_0, .int .i64 a0_1] 28 (0, 0)) (lfK BK218.out)) : gb218 ≠ gb219)); have n6_ := AM ((by rw [hg]; exact Nat.ne_of_gt (blk_lt (g := gb218) (o := .cells #[.slice A0_0 l0_0.length c0_0, .int .i64 a0_1] 28 (0, 0)) (lfK BK218.out)) : gb219 ≠ gb218)); clear BK218 HB; revert n0_ n1_ n2_ n3_ n4_ n5_ n6_; intro BK218 HB BK219 GW219 GE219 NB218_219 NB219_218; clear hb hbox hg))
  (try simp only [Act.put, List.setIfInBounds_toArray, List.set_cons_zero, List.set_cons_succ])
  go_cut [19] (fun v19 wc => ∃ (kq : Nat) (x19_2 : Bool), v19 = .bool x19_2 ∧ Aside0 (impl_QueueRun.j0 kq a1 x19_2 l0_0 a0_1 = some (r1, r2, r3, r4)) ∧ Aside0 (kq ≤ k) ∧ Aside0 (wc.heap[gb218]? = some (.cells #[(.slice A0_0 l0_0.length c0_0), .int .i64 a0_1] 28 (0, 0))) ∧ Aside0 (wc.heap[gb219]? = some (.cells #[(.slice none 0 0), .int .i64 0] 28 (0, 0))) ∧ Aside0 (Below w.heap.size w wc))
  case first =>
    have H := HC3.out
    clear HC3
    replace H := Option.bind_eq_some_iff.mp H
    obtain ⟨t220, A60, H⟩ := H
    replace H : (if t220 = true then ((impl_in.f a1 0 1000).bind fun t221 => (impl_QueueRun.j0 k a1 (!t221) l0_0 a0_1)) else (impl_QueueRun.j0 k a1 true l0_0 a0_1)) = some (r1, r2, r3, r4) := H
    have A6 := AM A60
    clear A60
    by_cases c7 : t220 = true
    · subst c7
      have H1 : ((impl_in.f a1 0 1000).bind fun t221 => (impl_QueueRun.j0 k a1 (!t221) l0_0 a0_1)) = some (r1, r2, r3, r4) := by rw [if_pos rfl] at H; exact H
      clear H
      have H := H1
      clear H1
      replace H := Option.bind_eq_some_iff.mp H
      obtain ⟨t221, A80, H⟩ := H
      replace H : (impl_QueueRun.j0 k a1 (!t221) l0_0 a0_1) = some (r1, r2, r3, r4) := H
      have A8 := AM A80
      clear A80
      have H' := AM H
      clear H
      have hnb9 := NB218_219.out
      have hnc9 := NB219_218.out
      have hcz10_0 : w5.cell? ⟨gb218, 0, none⟩ = some (.slice A0_0 l0_0.length c0_0) := (kc BK218.out 0).trans rfl
      have hcz10_1 : w5.cell? ⟨gb218, 1, none⟩ = some (.int .i64 a0_1) := (kc BK218.out 1).trans rfl
      have hfz10_0 := kz BK218.out 0
      have hfz10_1 := kz BK218.out 1
      go_wp2_with (first | ((with_reducible refine gc (f := 20) rfl ?_); refine goesL_ (some 13) rfl rfl Try.func20 (by kernel_rfl) rfl #[.agg #[.slice A0_0 l0_0.length c0_0, .int .i64 a0_1]] rfl (by (try simp only [List.map_toArray, List.map_cons, List.map_nil]); first | done | rfl | (simp only [List.length_drop, List.length_take]; rfl)) ?_; (with_reducible refine (impl_QueueOk.calls k _ _ l0_0 a0_1 true _ ?side1 ?side2 A6.out).mono ?_); (case side1 => repeat (first | exact (Cb HR0_0.out HB.out) | (with_reducible refine Ca ?_ _) | (with_reducible refine Cn ?_ _) | (with_reducible refine Cd ?_))); (case side2 => exact HC0_0.out); rintro e w11 ⟨rfl, hb⟩; refine ⟨_, rfl, ?_⟩; have n0_ := AM (kb (g := gb218) (o := .cells #[.slice A0_0 l0_0.length c0_0, .int .i64 a0_1] 28 (0, 0)) (lfK BK218.out) hb); have n1_ := AM (kb (g := gb219) (o := .cells #[.slice none 0 0, .int .i64 0] 28 (0, 0)) (lfK BK219.out) hb); have n2_ := AM (bp (by repeat (first | (with_reducible first | exact HB.out | apply ba | apply bn | apply bd | refine bs ?_ GE218.out | refine bs ?_ GE219.out) | exact HB.out)) hb); clear BK218 BK219 HB; revert n0_ n1_ n2_; intro BK218 BK219 HB; (try clear hb)) | (go_at_call 21; (with_reducible refine (impl_in.calls a1 0 1000 t221 _ A8.out).mono ?_); rintro e w' ⟨rfl, ⟨nd, rfl⟩⟩))
      go_meet
      case rel => exact ⟨_, (!t221), (by first | rfl | (simp; done) | (simp [*]; done)), H', ⟨by first | omega | exact Nat.le_refl _⟩, ⟨by (with_reducible repeat (first | refine kn ?_ _ | refine kd ?_ | refine ka ?_ _)); exact BK218.out⟩, ⟨by (with_reducible repeat (first | refine kn ?_ _ | refine kd ?_ | refine ka ?_ _)); exact BK219.out⟩, ⟨by repeat (first | (with_reducible first | exact HB.out | apply ba | apply bn | apply bd | refine bs ?_ GE218.out | refine bs ?_ GE219.out) | exact HB.out)⟩⟩
    · replace c7 := Bool.eq_false_iff.mpr c7
      subst c7
      have H1 : (impl_QueueRun.j0 k a1 true l0_0 a0_1) = some (r1, r2, r3, r4) := by rw [if_neg (show ¬ (false = true) by decide)] at H; exact H
      clear H
      have H := H1
      clear H1
      have H' := AM H
      clear H
      have hnb12 := NB218_219.out
      have hnc12 := NB219_218.out
      have hcz13_0 : w5.cell? ⟨gb218, 0, none⟩ = some (.slice A0_0 l0_0.length c0_0) := (kc BK218.out 0).trans rfl
      have hcz13_1 : w5.cell? ⟨gb218, 1, none⟩ = some (.int .i64 a0_1) := (kc BK218.out 1).trans rfl
      have hfz13_0 := kz BK218.out 0
      have hfz13_1 := kz BK218.out 1
      go_wp2_with (first | ((with_reducible refine gc (f := 20) rfl ?_); refine goesL_ (some 13) rfl rfl Try.func20 (by kernel_rfl) rfl #[.agg #[.slice A0_0 l0_0.length c0_0, .int .i64 a0_1]] rfl (by (try simp only [List.map_toArray, List.map_cons, List.map_nil]); first | done | rfl | (simp only [List.length_drop, List.length_take]; rfl)) ?_; (with_reducible refine (impl_QueueOk.calls k _ _ l0_0 a0_1 false _ ?side1 ?side2 A6.out).mono ?_); (case side1 => repeat (first | exact (Cb HR0_0.out HB.out) | (with_reducible refine Ca ?_ _) | (with_reducible refine Cn ?_ _) | (with_reducible refine Cd ?_))); (case side2 => exact HC0_0.out); rintro e w14 ⟨rfl, hb⟩; refine ⟨_, rfl, ?_⟩; have n0_ := AM (kb (g := gb218) (o := .cells #[.slice A0_0 l0_0.length c0_0, .int .i64 a0_1] 28 (0, 0)) (lfK BK218.out) hb); have n1_ := AM (kb (g := gb219) (o := .cells #[.slice none 0 0, .int .i64 0] 28 (0, 0)) (lfK BK219.out) hb); have n2_ := AM (bp (by repeat (first | (with_reducible first | exact HB.out | apply ba | apply bn | apply bd | refine bs ?_ GE218.out | refine bs ?_ GE219.out) | exact HB.out)) hb); clear BK218 BK219 HB; revert n0_ n1_ n2_; intro BK218 BK219 HB; (try clear hb)))
      go_meet
      case rel => exact ⟨_, (true), (by first | rfl | (simp; done) | (simp [*]; done)), H', ⟨by first | omega | exact Nat.le_refl _⟩, ⟨by (with_reducible repeat (first | refine kn ?_ _ | refine kd ?_ | refine ka ?_ _)); exact BK218.out⟩, ⟨by (with_reducible repeat (first | refine kn ?_ _ | refine kd ?_ | refine ka ?_ _)); exact BK219.out⟩, ⟨by repeat (first | (with_reducible first | exact HB.out | apply ba | apply bn | apply bd | refine bs ?_ GE218.out | refine bs ?_ GE219.out) | exact HB.out)⟩⟩
  case rest =>
    clear HC3
    obtain ⟨kq, x19_2, rfl, HA, HJ2, BK218, BK219, HB⟩ := hcut
    cases kq with
    | zero => exact absurd HA.out (by simp [impl_QueueRun.j0])
    | succ kj2 =>
      have H := HA.out
      clear HA
      simp only [impl_QueueRun.j0] at H
      by_cases c15 : x19_2 = true
      · subst c15
        have H1 : (some (([] : List (S51)), 0, ([] : List Int), false)) = some (r1, r2, r3, r4) := by rw [if_pos rfl] at H; exact H
        clear H
        have H := H1
        clear H1
        simp only [Option.some.injEq, Prod.mk.injEq] at H
        obtain ⟨rfl, rfl, rfl, rfl⟩ := H
        have hnb16 := NB219_218.out
        have hnc16 := NB218_219.out
        have hcz17_0 : wc.cell? ⟨gb219, 0, none⟩ = some (.slice none 0 0) := (kc BK219.out 0).trans rfl
        have hcz17_1 : wc.cell? ⟨gb219, 1, none⟩ = some (.int .i64 0) := (kc BK219.out 1).trans rfl
        have hfz17_0 := kz BK219.out 0
        have hfz17_1 := kz BK219.out 1
        go_wp2
        refine bodyPost_ret (results_ctt rfl _ _ gb219 28 #[.slice none 0 0, .int .i64 0] (0, 0) _ rfl (by (with_reducible repeat (first | refine kn ?_ _ | refine kd ?_ | refine ka ?_ _)); refine blk_put (cs := #[.slice none 0 0, .int .i64 0]) ?_ 1 _ rfl; (with_reducible repeat (first | refine kn ?_ _ | refine kd ?_ | refine ka ?_ _)); refine blk_put (cs := #[.slice none 0 0, .int .i64 0]) ?_ 0 _ rfl; (with_reducible repeat (first | refine kn ?_ _ | refine kd ?_ | refine ka ?_ _)); exact BK219.out) Try.underlying28 rfl (by kernel_rfl)) rfl ?_
        exact ⟨_, _, by first | rfl | (simp [errW_none, errW_some] <;> rfl) | (simp [*, errW_none, errW_some] <;> rfl), by first | exact Kd.R_nil _ _ _ _ _ | exact Kd.N_nil _ _ _ _ _ | exact Kd.V_nil _ _ _ _ _ | exact Kd.Q_nil _ _ _ _ _ | exact Kd.S_nil _ _ _ _ _, by first | exact Kd.R_nil _ _ _ _ _ | exact Kd.N_nil _ _ _ _ _ | exact Kd.V_nil _ _ _ _ _ | exact Kd.Q_nil _ _ _ _ _ | exact Kd.S_nil _ _ _ _ _, by repeat (first | (with_reducible first | exact HB.out | apply ba | apply bn | apply bd | refine bs ?_ GE218.out | refine bs ?_ GE219.out) | exact HB.out)⟩
      · replace c15 := Bool.eq_false_iff.mpr c15
        subst c15
        have H1 : ((impl_Queue_clone.f l0_0 a0_1).bind fun bt222 => (impl_QueueRun.l0 kj2 (([] : List Int)) a1 0 bt222.1 bt222.2)) = some (r1, r2, r3, r4) := by rw [if_neg (show ¬ (false = true) by decide)] at H; exact H
        clear H
        have H := H1
        clear H1
        replace H := Option.bind_eq_some_iff.mp H
        obtain ⟨⟨t222, t225⟩, A180, H⟩ := H
        replace H : (impl_QueueRun.l0 kj2 (([] : List Int)) a1 0 t222 t225) = some (r1, r2, r3, r4) := H
        have A18 := AM A180
        clear A180
        obtain ⟨y227, hy227⟩ : ∃ y_ : List Int, y_ = (([] : List Int)) := ⟨_, rfl⟩
        replace H : (impl_QueueRun.l0 kj2 y227 a1 0 t222 t225) = some (r1, r2, r3, r4) := by first | (rw [hy227]; with_reducible exact H) | (have H2_ := (Option.bind_some _ _).symm.trans H; rw [hy227]; with_reducible exact H2_) | (have H2_ := (Option.bind_some _ _).symm.trans H; with_reducible exact H2_) | with_reducible exact H | (rw [hy227]; exact H) | exact H
        have Ny227 := AM hy227
        clear hy227
        have H' := AM H
        clear H
        have hnb19 := NB218_219.out
        have hnc19 := NB219_218.out
        have hcz20_0 : wc.cell? ⟨gb218, 0, none⟩ = some (.slice A0_0 l0_0.length c0_0) := (kc BK218.out 0).trans rfl
        have hcz20_1 : wc.cell? ⟨gb218, 1, none⟩ = some (.int .i64 a0_1) := (kc BK218.out 1).trans rfl
        have hfz20_0 := kz BK218.out 0
        have hfz20_1 := kz BK218.out 1
        go_wp2_with (first | ((with_reducible refine gc (f := 22) rfl ?_); refine goesL_ (some 22) rfl rfl Try.func22 (by kernel_rfl) rfl #[.agg #[.slice A0_0 l0_0.length c0_0, .int .i64 a0_1]] rfl (by (try simp only [List.map_toArray, List.map_cons, List.map_nil]); first | done | rfl | (simp only [List.length_drop, List.length_take]; rfl)) ?_; (with_reducible refine (impl_Queue_clone.calls _ _ l0_0 a0_1 t222 t225 _ ?side1 ?side2 A18.out).mono ?_); (case side1 => repeat (first | exact (Cb HR0_0.out HB.out) | (with_reducible refine Ca ?_ _) | (with_reducible refine Cn ?_ _) | (with_reducible refine Cd ?_))); (case side2 => exact HC0_0.out); rintro e w21 ⟨v223, rfl, ho0, hb⟩; refine ⟨_, rfl, ?_⟩; have n0_ := AM (Rl ho0 (bz (by repeat (first | (with_reducible first | exact HB.out | apply ba | apply bn | apply bd | refine bs ?_ GE218.out | refine bs ?_ GE219.out) | exact HB.out)))); have n1_ := AM (kb (g := gb218) (o := .cells #[.slice A0_0 l0_0.length c0_0, .int .i64 a0_1] 28 (0, 0)) (lfK BK218.out) hb); have n2_ := AM (kb (g := gb219) (o := .cells #[.slice none 0 0, .int .i64 0] 28 (0, 0)) (lfK BK219.out) hb); have n3_ := AM (bp (by repeat (first | (with_reducible first | exact HB.out | apply ba | apply bn | apply bd | refine bs ?_ GE218.out | refine bs ?_ GE219.out) | exact HB.out)) hb); clear BK218 BK219 HB; revert n0_ n1_ n2_ n3_; intro HO224 BK218 BK219 HB; (try clear hb ho0)) | ((with_reducible refine gd (N := 7) rfl ?_); refine xe ?hg (N := 7) ?hd (cs := #[.slice none 0 0, .int .i64 0]) (t := 28) ?hr ?_; (case hd => rfl); (case hg => rfl); (case hr => first | (go_simp; done) | (go_simp; rfl)); intro gb226 hg w22 hbox hb; have n0_ := AM (Rb (lfR HO224.out) hb); have n1_ := AM (kb (g := gb218) (o := .cells #[.slice A0_0 l0_0.length c0_0, .int .i64 a0_1] 28 (0, 0)) (lfK BK218.out) hb); have n2_ := AM (kb (g := gb219) (o := .cells #[.slice none 0 0, .int .i64 0] 28 (0, 0)) (lfK BK219.out) hb); have n3_ := AM (bp (by repeat (first | (with_reducible first | exact HB.out | apply ba | apply bn | apply bd | refine bs ?_ GE218.out | refine bs ?_ GE219.out) | exact HB.out)) hb); have n4_ := AM (hbox); have n5_ := AM ((by rw [hg]; exact (bz (by repeat (first | (with_reducible first | exact HB.out | apply ba | apply bn | apply bd | refine bs ?_ GE218.out | refine bs ?_ GE219.out) | exact HB.out))) : w.heap.size ≤ gb226)); have n6_ := AM ((by rw [hg]; exact (bz (by repeat (first | (with_reducible first | exact HB.out | apply ba | apply bn | apply bd | refine bs ?_ GE218.out | refine bs ?_ GE219.out) | exact HB.out))) : w.heap.size ≤ gb226)); have n7_ := AM ((by rw [hg]; exact Nat.ne_of_lt (blk_lt (g := gb218) (o := .cells #[.slice A0_0 l0_0.length c0_0, .int .i64 a0_1] 28 (0, 0)) (lfK BK218.out)) : gb218 ≠ gb226)); have n8_ := AM ((by rw [hg]; exact Nat.ne_of_gt (blk_lt (g := gb218) (o := .cells #[.slice A0_0 l0_0.length c0_0, .int .i64 a0_1] 28 (0, 0)) (lfK BK218.out)) : gb226 ≠ gb218)); have n9_ := AM ((by rw [hg]; exact Nat.ne_of_lt (blk_lt (g := gb219) (o := .cells #[.slice none 0 0, .int .i64 0] 28 (0, 0)) (lfK BK219.out)) : gb219 ≠ gb226)); have n10_ := AM ((by rw [hg]; exact Nat.ne_of_gt (blk_lt (g := gb219) (o := .cells #[.slice none 0 0, .int .i64 0] 28 (0, 0)) (lfK BK219.out)) : gb226 ≠ gb219)); clear HO224 BK218 BK219 HB; revert n0_ n1_ n2_ n3_ n4_ n5_ n6_ n7_ n8_ n9_ n10_; intro HO224 BK218 BK219 HB BK226 GW226 GE226 NB218_226 NB226_218 NB219_226 NB226_219; clear hb hbox hg; obtain ⟨Ao23, co23, eo23⟩ := Ri HO224.out; subst eo23; have hnb24 := NB226_218.out; have hnc24 := NB218_226.out; have hnb25 := NB226_219.out; have hnc25 := NB219_226.out; have hcz26_0 : w22.cell? ⟨gb226, 0, none⟩ = some (.slice none 0 0) := (kc BK226.out 0).trans rfl; have hcz26_1 : w22.cell? ⟨gb226, 1, none⟩ = some (.int .i64 0) := (kc BK226.out 1).trans rfl; have hfz26_0 := kz BK226.out 0; have hfz26_1 := kz BK226.out 1) | ((with_reducible refine gd (N := 23) rfl ?_); refine Kd.R_lit (Kd.int .i64) _ 3 ?hg (N := 23) ?hd (xs := ([] : List Int)) (inner := []) (ok := fun _ => True) (okp := fun _ => True) ?hr ?hp (fun _ hk => hk) trivial (Below.refl _ _) (Nat.le_refl _) (by simp) ?_; (case hd => rfl); (case hg => rfl); (case hr => first | (go_simp; done) | (go_simp; rfl)); (case hp => exact (Reps.none _ _)); intro v228 w27 ho28 hb hg_ hnew_; clear hg_ hnew_; (first | rw [← Ny227.out] at ho28 | (simp only [Int.reduceToNat] at ho28; rw [← Ny227.out] at ho28)); have n0_ := AM (Rb (by (with_reducible repeat (first | apply Ra | apply Rn | apply Rd)); exact (Rm (Rf (p := ⟨gb226, 1, none⟩) (Rf (p := ⟨gb226, 0, none⟩) (Rt HO224.out BK226.out (by decide)) (fun _ hk => hk.2) (.slice Ao23 t222.length co23)) (fun _ hk => hk.2) (.int .i64 t225)) (fun _ h_ => h_.1))) hb); have n1_ := AM (Rl ho28 (bz (by repeat (first | (with_reducible first | exact HB.out | apply ba | apply bn | apply bd | refine bs ?_ GE218.out | refine bs ?_ GE219.out | refine bs ?_ GE226.out) | exact HB.out)))); have n2_ := AM (kb (g := gb218) (o := .cells #[.slice A0_0 l0_0.length c0_0, .int .i64 a0_1] 28 (0, 0)) (by (with_reducible repeat (first | refine kn ?_ _ | refine kd ?_ | refine ka ?_ _)); refine kf ?_ NB218_226.out _; (with_reducible repeat (first | refine kn ?_ _ | refine kd ?_ | refine ka ?_ _)); refine kf ?_ NB218_226.out _; (with_reducible repeat (first | refine kn ?_ _ | refine kd ?_ | refine ka ?_ _)); exact BK218.out) hb); have n3_ := AM (kb (g := gb219) (o := .cells #[.slice none 0 0, .int .i64 0] 28 (0, 0)) (by (with_reducible repeat (first | refine kn ?_ _ | refine kd ?_ | refine ka ?_ _)); refine kf ?_ NB219_226.out _; (with_reducible repeat (first | refine kn ?_ _ | refine kd ?_ | refine ka ?_ _)); refine kf ?_ NB219_226.out _; (with_reducible repeat (first | refine kn ?_ _ | refine kd ?_ | refine ka ?_ _)); exact BK219.out) hb); have n4_ := AM (kb (g := gb226) (o := .cells #[.slice Ao23 t222.length co23, .int .i64 t225] 28 (0, 0)) (by (with_reducible repeat (first | refine kn ?_ _ | refine kd ?_ | refine ka ?_ _)); refine blk_put (cs := #[.slice Ao23 t222.length co23, .int .i64 0]) ?_ 1 _ rfl; (with_reducible repeat (first | refine kn ?_ _ | refine kd ?_ | refine ka ?_ _)); refine blk_put (cs := #[.slice none 0 0, .int .i64 0]) ?_ 0 _ rfl; (with_reducible repeat (first | refine kn ?_ _ | refine kd ?_ | refine ka ?_ _)); exact BK226.out) hb); have n5_ := AM (bp (by repeat (first | (with_reducible first | exact HB.out | apply ba | apply bn | apply bd | refine bs ?_ GE218.out | refine bs ?_ GE219.out | refine bs ?_ GE226.out) | exact HB.out)) hb); clear HO224 BK218 BK219 BK226 HB; revert n0_ n1_ n2_ n3_ n4_ n5_; intro HO224 HO229 BK218 BK219 BK226 HB; clear hb ho28))
        go_loopg [8, 25] kj2 (fun kq v8 v25 w' => ∃ (x8_2 : List Int) (x25_2 : Int) (x220001_2 : Int) (x227000_2 : List (S51)) (x227001_2 : Int) (u227000 : Value), v25 = .int .i64 x25_2 ∧ Aside0 (impl_QueueRun.l0 kq x8_2 a1 x25_2 x227000_2 x227001_2 = some (r1, r2, r3, r4)) ∧ Aside0 (kq ≤ kj2) ∧ Aside0 (Kd.R (Kd.int .i64) 3 w' w.heap.size (fun _ => True) v8 x8_2) ∧ Aside0 (Kd.R k51 51 w' w.heap.size (fun _ => True) u227000 x227000_2) ∧ Aside0 (w'.heap[gb218]? = some (.cells #[(.slice A0_0 l0_0.length c0_0), .int .i64 a0_1] 28 (0, 0))) ∧ Aside0 (w'.heap[gb219]? = some (.cells #[(.slice none 0 0), .int .i64 x220001_2] 28 (0, 0))) ∧ Aside0 (w'.heap[gb226]? = some (.cells #[u227000, .int .i64 x227001_2] 28 (0, 0))) ∧ Aside0 (Below w.heap.size w w'))
        case atStart => exact ⟨(y227), (0), (0), (t222), (t225), (.slice Ao23 t222.length co23), (by first | rfl | (simp; done) | (simp [*]; done)), H', ⟨Nat.le_refl _⟩, ⟨by (with_reducible repeat (first | apply Ra | apply Rn | apply Rd)); exact HO229.out⟩, ⟨by (with_reducible repeat (first | apply Ra | apply Rn | apply Rd)); exact HO224.out⟩, ⟨by (with_reducible repeat (first | refine kn ?_ _ | refine kd ?_ | refine ka ?_ _)); exact BK218.out⟩, ⟨by (with_reducible repeat (first | refine kn ?_ _ | refine kd ?_ | refine ka ?_ _)); exact BK219.out⟩, ⟨by (with_reducible repeat (first | refine kn ?_ _ | refine kd ?_ | refine ka ?_ _)); exact BK226.out⟩, ⟨by repeat (first | (with_reducible first | exact HB.out | apply ba | apply bn | apply bd | refine bs ?_ GE218.out | refine bs ?_ GE219.out | refine bs ?_ GE226.out) | exact HB.out)⟩⟩
        case round =>
          clear H'
          try clear c15
          try clear hcz20_0
          try clear hcz20_1
          try clear hcz26_0
          try clear hcz26_1
          try clear hfz20_0
          try clear hfz20_1
          try clear hfz26_0
          try clear hfz26_1
          obtain ⟨x8_2, x25_2, x220001_2, x227000_2, x227001_2, u227000, rfl, HA, HK2, HO_8, HO_227000, BK218, BK219, BK226, HB⟩ := hrel
          cases gk with
          | zero => exact absurd HA.out (by simp [impl_QueueRun.l0])
          | succ k2 =>
            have H := HA.out
            clear HA
            simp only [impl_QueueRun.l0] at H
            by_cases c29 : x25_2 < a1
            · rw [if_pos c29] at H
              have c29b0 : decide (x25_2 < a1) = true := decide_eq_true c29
              clear c29
              replace H := Option.bind_eq_some_iff.mp H
              obtain ⟨⟨t230, t233, t234, t235⟩, A300, H⟩ := H
              replace H : (if t235 = true then (if x8_2.length < 17592186044416 then (impl_QueueRun.l0 k2 (x8_2 ++ [t234]) a1 (wrap64 (x25_2 + 1)) t230 t233) else (none)) else (some (([] : List (S51)), 0, ([] : List Int), false))) = some (r1, r2, r3, r4) := H
              have A30 := AM A300
              clear A300
              by_cases c31 : t235 = true
              · subst c31
                have H1 : (if x8_2.length < 17592186044416 then (impl_QueueRun.l0 k2 (x8_2 ++ [t234]) a1 (wrap64 (x25_2 + 1)) t230 t233) else (none)) = some (r1, r2, r3, r4) := by rw [if_pos rfl] at H; exact H
                clear H
                have H := H1
                clear H1
                by_cases c32 : x8_2.length < 17592186044416
                · rw [if_pos c32] at H
                  have LMc32 := AM c32
                  clear c32
                  obtain ⟨y237, hy237⟩ : ∃ y_ : List Int, y_ = (x8_2 ++ [t234]) := ⟨_, rfl⟩
                  replace H : (impl_QueueRun.l0 k2 y237 a1 (wrap64 (x25_2 + 1)) t230 t233) = some (r1, r2, r3, r4) := by first | (rw [hy237]; with_reducible exact H) | (have H2_ := (Option.bind_some _ _).symm.trans H; rw [hy237]; with_reducible exact H2_) | (have H2_ := (Option.bind_some _ _).symm.trans H; with_reducible exact H2_) | with_reducible exact H | (rw [hy237]; exact H) | exact H
                  have Ny237 := AM hy237
                  clear hy237
                  have H' := AM H
                  clear H
                  have hnb33 := NB226_218.out
                  have hnc33 := NB218_226.out
                  have hnb34 := NB226_219.out
                  have hnc34 := NB219_226.out
                  have hcz35_0 : wr.cell? ⟨gb226, 0, none⟩ = some (u227000) := (kc BK226.out 0).trans rfl
                  have hcz35_1 : wr.cell? ⟨gb226, 1, none⟩ = some (.int .i64 x227001_2) := (kc BK226.out 1).trans rfl
                  have hfz35_0 := kz BK226.out 0
                  have hfz35_1 := kz BK226.out 1
                  obtain ⟨Ao36, co36, eo36⟩ := Ri HO_227000.out
                  subst eo36
                  try go_wp2_with (first | ((with_reducible refine gc (f := 23) rfl ?_); refine goesL_ (some 29) rfl rfl Try.func23 (by kernel_rfl) rfl #[.agg #[.slice Ao36 x227000_2.length co36, .int .i64 x227001_2]] rfl (by (try simp only [List.map_toArray, List.map_cons, List.map_nil]); first | done | rfl | (simp only [List.length_drop, List.length_take]; rfl)) ?_; (with_reducible refine (impl_QueueTick.calls k2 _ _ x227000_2 x227001_2 t230 t233 t234 true _ ?side1 ?side2 A30.out).mono ?_); (case side1 => repeat (first | exact (Rr HO_227000.out).2.2 | (with_reducible refine Ca ?_ _) | (with_reducible refine Cn ?_ _) | (with_reducible refine Cd ?_))); (case side2 => exact (Rr HO_227000.out).2.1); rintro e w37 ⟨v231, rfl, ho0, hb⟩; refine ⟨_, rfl, ?_⟩; have n0_ := AM (Rb (lfR HO_8.out) hb); have n1_ := AM (Re (lfR HO_227000.out) (Rs ho0) hb); have n2_ := AM (Rl (Rw ho0 (Rq (lfR HO_227000.out))) (bz (by repeat (first | (with_reducible first | exact HB.out | apply ba | apply bn | apply bd | refine bs ?_ GE218.out | refine bs ?_ GE219.out | refine bs ?_ GE226.out) | exact HB.out)))); have n3_ := AM (kb (g := gb218) (o := .cells #[.slice A0_0 l0_0.length c0_0, .int .i64 a0_1] 28 (0, 0)) (lfK BK218.out) hb); have n4_ := AM (kb (g := gb219) (o := .cells #[.slice none 0 0, .int .i64 x220001_2] 28 (0, 0)) (lfK BK219.out) hb); have n5_ := AM (kb (g := gb226) (o := .cells #[.slice Ao36 x227000_2.length co36, .int .i64 x227001_2] 28 (0, 0)) (lfK BK226.out) hb); have n6_ := AM (bp (by repeat (first | (with_reducible first | exact HB.out | apply ba | apply bn | apply bd | refine bs ?_ GE218.out | refine bs ?_ GE219.out | refine bs ?_ GE226.out) | exact HB.out)) hb); clear HO_8 HO_227000 BK218 BK219 BK226 HB; revert n0_ n1_ n2_ n3_ n4_ n5_ n6_; intro HO_8 HO_227000 HO232 BK218 BK219 BK226 HB; (try clear hb ho0)) | ((with_reducible refine gd (N := 9) rfl ?_); refine xe ?hg (N := 9) ?hd (cs := #[.slice none 0 0, .int .i64 0]) (t := 28) ?hr ?_; (case hd => rfl); (case hg => rfl); (case hr => first | (go_simp; done) | (go_simp; rfl)); intro gb236 hg w38 hbox hb; have n0_ := AM (Rb (lfR HO_8.out) hb); have n1_ := AM (Rb (lfR HO_227000.out) hb); have n2_ := AM (Rb (lfR HO232.out) hb); have n3_ := AM (kb (g := gb218) (o := .cells #[.slice A0_0 l0_0.length c0_0, .int .i64 a0_1] 28 (0, 0)) (lfK BK218.out) hb); have n4_ := AM (kb (g := gb219) (o := .cells #[.slice none 0 0, .int .i64 x220001_2] 28 (0, 0)) (lfK BK219.out) hb); have n5_ := AM (kb (g := gb226) (o := .cells #[.slice Ao36 x227000_2.length co36, .int .i64 x227001_2] 28 (0, 0)) (lfK BK226.out) hb); have n6_ := AM (bp (by repeat (first | (with_reducible first | exact HB.out | apply ba | apply bn | apply bd | refine bs ?_ GE218.out | refine bs ?_ GE219.out | refine bs ?_ GE226.out) | exact HB.out)) hb); have n7_ := AM (hbox); have n8_ := AM ((by rw [hg]; exact (bz (by repeat (first | (with_reducible first | exact HB.out | apply ba | apply bn | apply bd | refine bs ?_ GE218.out | refine bs ?_ GE219.out | refine bs ?_ GE226.out) | exact HB.out))) : w.heap.size ≤ gb236)); have n9_ := AM ((by rw [hg]; exact (bz (by repeat (first | (with_reducible first | exact HB.out | apply ba | apply bn | apply bd | refine bs ?_ GE218.out | refine bs ?_ GE219.out | refine bs ?_ GE226.out) | exact HB.out))) : w.heap.size ≤ gb236)); have n10_ := AM ((by rw [hg]; exact Nat.ne_of_lt (blk_lt (g := gb218) (o := .cells #[.slice A0_0 l0_0.length c0_0, .int .i64 a0_1] 28 (0, 0)) (lfK BK218.out)) : gb218 ≠ gb236)); have n11_ := AM ((by rw [hg]; exact Nat.ne_of_gt (blk_lt (g := gb218) (o := .cells #[.slice A0_0 l0_0.length c0_0, .int .i64 a0_1] 28 (0, 0)) (lfK BK218.out)) : gb236 ≠ gb218)); have n12_ := AM ((by rw [hg]; exact Nat.ne_of_lt (blk_lt (g := gb219) (o := .cells #[.slice none 0 0, .int .i64 x220001_2] 28 (0, 0)) (lfK BK219.out)) : gb219 ≠ gb236)); have n13_ := AM ((by rw [hg]; exact Nat.ne_of_gt (blk_lt (g := gb219) (o := .cells #[.slice none 0 0, .int .i64 x220001_2] 28 (0, 0)) (lfK BK219.out)) : gb236 ≠ gb219)); have n14_ := AM ((by rw [hg]; exact Nat.ne_of_lt (blk_lt (g := gb226) (o := .cells #[.slice Ao36 x227000_2.length co36, .int .i64 x227001_2] 28 (0, 0)) (lfK BK226.out)) : gb226 ≠ gb236)); have n15_ := AM ((by rw [hg]; exact Nat.ne_of_gt (blk_lt (g := gb226) (o := .cells #[.slice Ao36 x227000_2.length co36, .int .i64 x227001_2] 28 (0, 0)) (lfK BK226.out)) : gb236 ≠ gb226)); clear HO_8 HO_227000 HO232 BK218 BK219 BK226 HB; revert n0_ n1_ n2_ n3_ n4_ n5_ n6_ n7_ n8_ n9_ n10_ n11_ n12_ n13_ n14_ n15_; intro HO_8 HO_227000 HO232 BK218 BK219 BK226 HB BK236 GW236 GE236 NB218_236 NB236_218 NB219_236 NB236_219 NB226_236 NB236_226; clear hb hbox hg; obtain ⟨Ao39, co39, eo39⟩ := Ri HO232.out; subst eo39; have hnb40 := NB236_218.out; have hnc40 := NB218_236.out; have hnb41 := NB236_219.out; have hnc41 := NB219_236.out; have hnb42 := NB236_226.out; have hnc42 := NB226_236.out; have hcz43_0 : w38.cell? ⟨gb236, 0, none⟩ = some (.slice none 0 0) := (kc BK236.out 0).trans rfl; have hcz43_1 : w38.cell? ⟨gb236, 1, none⟩ = some (.int .i64 0) := (kc BK236.out 1).trans rfl; have hfz43_0 := kz BK236.out 0; have hfz43_1 := kz BK236.out 1))
                  have n0_ : Aside0 (Kd.R (Kd.int .i64) 3 ((w38.setCell ⟨gb236, 0, none⟩ (.slice Ao39 t230.length co39)).setCell ⟨gb236, 1, none⟩ (.int .i64 t233)) w.heap.size (fun _ => True) u8 x8_2) := ⟨by (with_reducible repeat (first | apply Ra | apply Rn | apply Rd)); exact Rm (Rf (p := ⟨gb236, 1, none⟩) (Rf (p := ⟨gb236, 0, none⟩) (Rt HO_8.out BK236.out (by decide)) (fun _ hk => hk.2) (.slice Ao39 t230.length co39)) (fun _ hk => hk.2) (.int .i64 t233)) (fun _ hk => trivial)⟩
                  have n1_ : Aside0 (Kd.R k51 51 ((w38.setCell ⟨gb236, 0, none⟩ (.slice Ao39 t230.length co39)).setCell ⟨gb236, 1, none⟩ (.int .i64 t233)) w.heap.size (fun k_ => some k_ ≠ (.slice Ao39 t230.length co39 : Value).ownBlock) (.slice Ao36 x227000_2.length co36) x227000_2) := ⟨by (with_reducible repeat (first | apply Ra | apply Rn | apply Rd)); exact Rm (Rf (p := ⟨gb236, 1, none⟩) (Rf (p := ⟨gb236, 0, none⟩) (Rt HO_227000.out BK236.out (by decide)) (fun _ hk => hk.2) (.slice Ao39 t230.length co39)) (fun _ hk => hk.2) (.int .i64 t233)) (fun _ hk => hk.1.2)⟩
                  have n2_ : Aside0 (Kd.R k51 51 ((w38.setCell ⟨gb236, 0, none⟩ (.slice Ao39 t230.length co39)).setCell ⟨gb236, 1, none⟩ (.int .i64 t233)) w.heap.size (fun k_ => some k_ ≠ (.slice Ao36 x227000_2.length co36 : Value).ownBlock) (.slice Ao39 t230.length co39) t230) := ⟨by (with_reducible repeat (first | apply Ra | apply Rn | apply Rd)); exact Rm (Rf (p := ⟨gb236, 1, none⟩) (Rf (p := ⟨gb236, 0, none⟩) (Rt HO232.out BK236.out (by decide)) (fun _ hk => hk.2) (.slice Ao39 t230.length co39)) (fun _ hk => hk.2) (.int .i64 t233)) (fun _ hk => hk.1.2)⟩
                  have n3_ : Aside0 (((w38.setCell ⟨gb236, 0, none⟩ (.slice Ao39 t230.length co39)).setCell ⟨gb236, 1, none⟩ (.int .i64 t233)).heap[gb218]? = some (.cells #[.slice A0_0 l0_0.length c0_0, .int .i64 a0_1] 28 (0, 0))) := ⟨by (with_reducible repeat (first | refine kn ?_ _ | refine kd ?_ | refine ka ?_ _)); refine kf ?_ NB218_236.out _; (with_reducible repeat (first | refine kn ?_ _ | refine kd ?_ | refine ka ?_ _)); refine kf ?_ NB218_236.out _; (with_reducible repeat (first | refine kn ?_ _ | refine kd ?_ | refine ka ?_ _)); exact BK218.out⟩
                  have n4_ : Aside0 (((w38.setCell ⟨gb236, 0, none⟩ (.slice Ao39 t230.length co39)).setCell ⟨gb236, 1, none⟩ (.int .i64 t233)).heap[gb219]? = some (.cells #[.slice none 0 0, .int .i64 x220001_2] 28 (0, 0))) := ⟨by (with_reducible repeat (first | refine kn ?_ _ | refine kd ?_ | refine ka ?_ _)); refine kf ?_ NB219_236.out _; (with_reducible repeat (first | refine kn ?_ _ | refine kd ?_ | refine ka ?_ _)); refine kf ?_ NB219_236.out _; (with_reducible repeat (first | refine kn ?_ _ | refine kd ?_ | refine ka ?_ _)); exact BK219.out⟩
                  have n5_ : Aside0 (((w38.setCell ⟨gb236, 0, none⟩ (.slice Ao39 t230.length co39)).setCell ⟨gb236, 1, none⟩ (.int .i64 t233)).heap[gb226]? = some (.cells #[.slice Ao36 x227000_2.length co36, .int .i64 x227001_2] 28 (0, 0))) := ⟨by (with_reducible repeat (first | refine kn ?_ _ | refine kd ?_ | refine ka ?_ _)); refine kf ?_ NB226_236.out _; (with_reducible repeat (first | refine kn ?_ _ | refine kd ?_ | refine ka ?_ _)); refine kf ?_ NB226_236.out _; (with_reducible repeat (first | refine kn ?_ _ | refine kd ?_ | refine ka ?_ _)); exact BK226.out⟩
                  have n6_ : Aside0 (((w38.setCell ⟨gb236, 0, none⟩ (.slice Ao39 t230.length co39)).setCell ⟨gb236, 1, none⟩ (.int .i64 t233)).heap[gb236]? = some (.cells #[.slice Ao39 t230.length co39, .int .i64 t233] 28 (0, 0))) := ⟨by (with_reducible repeat (first | refine kn ?_ _ | refine kd ?_ | refine ka ?_ _)); refine blk_put (cs := #[.slice Ao39 t230.length co39, .int .i64 0]) ?_ 1 _ rfl; (with_reducible repeat (first | refine kn ?_ _ | refine kd ?_ | refine ka ?_ _)); refine blk_put (cs := #[.slice none 0 0, .int .i64 0]) ?_ 0 _ rfl; (with_reducible repeat (first | refine kn ?_ _ | refine kd ?_ | refine ka ?_ _)); exact BK236.out⟩
                  have n7_ : Aside0 (Below w.heap.size w ((w38.setCell ⟨gb236, 0, none⟩ (.slice Ao39 t230.length co39)).setCell ⟨gb236, 1, none⟩ (.int .i64 t233))) := ⟨by repeat (first | (with_reducible first | exact HB.out | apply ba | apply bn | apply bd | refine bs ?_ GE218.out | refine bs ?_ GE219.out | refine bs ?_ GE226.out | refine bs ?_ GE236.out) | exact HB.out)⟩
                  (try clear HO_8)
                  (try clear HO_227000)
                  (try clear HO232)
                  (try clear BK218)
                  (try clear BK219)
                  (try clear BK226)
                  (try clear BK236)
                  (try clear HB)
                  generalize ((w38.setCell ⟨gb236, 0, none⟩ (.slice Ao39 t230.length co39)).setCell ⟨gb236, 1, none⟩ (.int .i64 t233)) = w44 at n0_ n1_ n2_ n3_ n4_ n5_ n6_ n7_ ⊢
                  revert n0_ n1_ n2_ n3_ n4_ n5_ n6_ n7_
                  intro HO_8 HO_227000 HO232 BK218 BK219 BK226 BK236 HB
                  have n0_ := AM (Rd HO_8.out)
                  have n1_ := AM (Rd HO_227000.out)
                  have n2_ := AM (Rd HO232.out)
                  have n3_ := AM (kd BK218.out)
                  have n4_ := AM (kd BK219.out)
                  have n5_ := AM (kd BK226.out)
                  have n6_ := AM (kd BK236.out)
                  have n7_ := AM (bd HB.out)
                  clear HO_8 HO_227000 HO232 BK218 BK219 BK226 BK236 HB
                  revert n0_ n1_ n2_ n3_ n4_ n5_ n6_ n7_
                  intro HO_8 HO_227000 HO232 BK218 BK219 BK226 BK236 HB
                  refine start_ (n := 7) (S := fun w' => w'.cell? ⟨gb236, 0, none⟩ = some (.slice Ao39 t230.length co39) ∧ w'.cell? ⟨gb236, 1, none⟩ = some (.int .i64 t233)) (ds := []) #[false, false, false, false, false, false, false] (by kernel_rfl) rfl rfl ⟨(kc BK236.out 0).trans rfl, (kc BK236.out 1).trans rfl⟩ (fun hHeld => ?_)
                  generalize w44.drew = w45 at HO_8 HO_227000 HO232 BK218 BK219 BK226 BK236 HB hHeld ⊢
                  refine pure_ (i := 1) (N := some 37) (v := ?_) (a' := ?_) #[false, true, false, false, false, false, false] rfl rfl (by kernel_rfl) (fun _ _ _ h => h) (Or.inl ⟨by rfl, ?_⟩) ?_ ?_
                  rotate_left
                  · intro w'; go_simp; with_reducible rfl
                  rotate_left
                  · simp only [Act.put, sA, sZ, sS, i64_w, i32_w]; rfl
                  refine pure_ (i := 2) (N := some 38) (v := ?_) (a' := ?_) #[false, true, true, false, false, false, false] rfl rfl (by kernel_rfl) (fun _ _ _ h => h) (Or.inl ⟨by rfl, ?_⟩) ?_ ?_
                  rotate_left
                  · intro w'; go_simp; with_reducible rfl
                  rotate_left
                  · simp only [Act.put, sA, sZ, sS, i64_w, i32_w]; rfl
                  refine take_ (i := 0) (N := some 36) (v := ?_) (a' := ?_) #[true, true, true, false, false, false, false] rfl rfl (by kernel_rfl) (fun _ _ _ h => h) (Or.inl ⟨by rfl, ?_⟩) hHeld ?_ ?_
                  rotate_left
                  · rintro w' ⟨s0, s1⟩; go_simp; with_reducible rfl
                  rotate_left
                  · simp only [Act.put, sA, sZ, sS, i64_w, i32_w]; rfl
                  refine one_ (i := 3) (N := some 39) #[true, true, true, true, false, false, false] rfl rfl (by kernel_rfl) (by decide) (fun K hK => ?_)
                  refine value_ (w1 := ?_) (v := ?_) (by rfl) rfl ?_ ?_
                  rotate_left 2
                  · go_simp
                    constructor
                    · rfl
                    · rfl
                  refine hK.out _ _ ⟨(kc (ka BK236.out _) 0).trans rfl, (kc (ka BK236.out _) 1).trans rfl⟩ (fun hHeld => ?_)
                  clear hK K
                  refine norm_ (a' := ?_) ?_ ?_
                  rotate_left
                  · show Act.put _ (some 39) _ = _
                    simp only [Act.put, sA, sZ, sS, i64_w, i32_w]
                    rfl
                  refine one_ (i := 4) (N := some 40) #[true, true, true, true, true, false, false] rfl rfl (by kernel_rfl) (by decide) (fun K hK => ?_)
                  refine Kd.R_append_step (Kd.int .i64) (w0 := w) w.heap.size (by rfl) (.tmp 37) (.tmp 39) 29 3 (.int .i64 0) 8 rfl Try.underlying29 info3 rfl (by decide) (by omega) u8 x8_2 t234 [.int .i64 t234] (fun _ => True) (fun _ => False) rfl rfl ?aP (fun _ hk => hk.elim) ?aF ?aO ?aB ?aS ?aL ?_
                  (case aP => exact rfl)
                  (case aB => exact (by repeat (first | (with_reducible first | exact HB.out | apply ba | apply bn | apply bd | refine bs ?_ GE218.out | refine bs ?_ GE219.out | refine bs ?_ GE226.out | refine bs ?_ GE236.out) | exact HB.out)))
                  (case aF => exact (fun _ _ => trivial))
                  (case aO => exact (lfR HO_8.out))
                  (case aS => exact (bz (by repeat (first | (with_reducible first | exact HB.out | apply ba | apply bn | apply bd | refine bs ?_ GE218.out | refine bs ?_ GE219.out | refine bs ?_ GE226.out | refine bs ?_ GE236.out) | exact HB.out))))
                  (case aL => have := LMc32.out; omega)
                  intro v238 w46 ho hb hg hat
                  rw [← Ny237.out] at ho
                  have n0_ := AM (Kd.R_over' (lfR HO_227000.out) (Kd.R_typed (lfR HO_8.out)) (by decide) hg)
                  have n1_ := AM (blk_grown (g := gb218) (o := .cells #[.slice A0_0 l0_0.length c0_0, .int .i64 a0_1] 28 (0, 0)) (lfK BK218.out) hg (Kd.R_ne HO_8.out BK218.out (by decide)))
                  have n2_ := AM (blk_grown (g := gb219) (o := .cells #[.slice none 0 0, .int .i64 x220001_2] 28 (0, 0)) (lfK BK219.out) hg (Kd.R_ne HO_8.out BK219.out (by decide)))
                  have n3_ := AM (blk_grown (g := gb226) (o := .cells #[.slice Ao36 x227000_2.length co36, .int .i64 x227001_2] 28 (0, 0)) (lfK BK226.out) hg (Kd.R_ne HO_8.out BK226.out (by decide)))
                  have n4_ := AM (Kd.R_over' (lfR HO232.out) (Kd.R_typed (lfR HO_8.out)) (by decide) hg)
                  have n5_ := AM (blk_grown (g := gb236) (o := .cells #[.slice Ao39 t230.length co39, .int .i64 t233] 28 (0, 0)) (lfK BK236.out) hg (Kd.R_ne HO_8.out BK236.out (by decide)))
                  have n6_ := AM (hb)
                  have n7_ := AM (ho)
                  clear HO_227000 BK218 BK219 BK226 HO232 BK236 HB HO_8
                  revert n0_ n1_ n2_ n3_ n4_ n5_ n6_ n7_
                  intro HO_227000 BK218 BK219 BK226 HO232 BK236 HB HO239
                  clear ho hb hg hat
                  refine hK.out _ _ ⟨(kc BK236.out 0).trans rfl, (kc BK236.out 1).trans rfl⟩ (fun hHeld => ?_)
                  clear hK K
                  refine norm_ (a' := ?_) ?_ ?_
                  rotate_left
                  · show Act.put _ (some 40) _ = _
                    simp only [Act.put, sA, sZ, sS, i64_w, i32_w]
                    rfl
                  refine one_ (i := 5) (N := none) #[true, true, true, true, true, true, false] rfl rfl (by kernel_rfl) (by decide) (fun K hK => ?_)
                  have hs47 : w46.cell? ⟨gb226, 0, none⟩ = some (.slice Ao36 x227000_2.length co36) := (kc BK226.out 0).trans rfl
                  have hfs47 := kz BK226.out 0
                  have hns47_0 := NB218_226.out
                  have hns47_1 := NB219_226.out
                  have hns47_3 := NB236_226.out
                  have hms47_0 := NB226_218.out
                  have hms47_1 := NB226_219.out
                  have hms47_3 := NB226_236.out
                  have hs48 : w46.cell? ⟨gb226, 1, none⟩ = some (.int .i64 x227001_2) := (kc BK226.out 1).trans rfl
                  have hfs48 := kz BK226.out 1
                  have hns48_0 := NB218_226.out
                  have hns48_1 := NB219_226.out
                  have hns48_3 := NB236_226.out
                  have hms48_0 := NB226_218.out
                  have hms48_1 := NB226_219.out
                  have hms48_3 := NB226_236.out
                  refine skip_ (w1 := ?_) (by rfl) rfl ?_ ?_
                  rotate_left
                  · go_simp
                    rfl
                  refine hK.out _ _ ⟨((cell_far (p := ⟨gb226, _, none⟩) NB236_226.out _).trans (((cell_far (p := ⟨gb226, _, none⟩) NB236_226.out _).trans (hHeld.1)))), ((cell_far (p := ⟨gb226, _, none⟩) NB236_226.out _).trans (((cell_far (p := ⟨gb226, _, none⟩) NB236_226.out _).trans (hHeld.2))))⟩ (fun hHeld => ?_)
                  clear hK K
                  refine pure_ (i := 6) (N := some 8) (v := ?_) (a' := ?_) #[true, true, true, true, true, true, true] rfl rfl (by kernel_rfl) (fun _ _ _ h => h) (Or.inl ⟨by rfl, ?_⟩) ?_ ?_
                  rotate_left
                  · intro w'; go_simp; with_reducible rfl
                  rotate_left
                  · simp only [Act.put, sA, sZ, sS, i64_w, i32_w]; rfl
                  refine done_ (by kernel_rfl) ?_
                  try go_wp2
                  go_roundg k2
                  case measure => have := HJ2.out; have := HK2.out; omega
                  case rel => exact ⟨(y237), (wrap64 (x25_2 + 1)), (x220001_2), (t230), (t233), (.slice Ao39 t230.length co39), (by first | rfl | (simp; done) | (simp [*]; done)), H', ⟨by have := HJ2.out; have := HK2.out; omega⟩, ⟨by (with_reducible repeat (first | apply Ra | apply Rn | apply Rd)); exact Rm (Rf (p := ⟨gb226, 1, none⟩) (Rf (p := ⟨gb226, 0, none⟩) (Rt HO239.out BK226.out (by decide)) (fun _ hk => hk.2) (.slice Ao39 t230.length co39)) (fun _ hk => hk.2) (.int .i64 t233)) (fun _ hk => trivial)⟩, ⟨by (with_reducible repeat (first | apply Ra | apply Rn | apply Rd)); exact Rm (Rf (p := ⟨gb226, 1, none⟩) (Rf (p := ⟨gb226, 0, none⟩) (Rt HO232.out BK226.out (by decide)) (fun _ hk => hk.2) (.slice Ao39 t230.length co39)) (fun _ hk => hk.2) (.int .i64 t233)) (fun _ hk => trivial)⟩, ⟨by (with_reducible repeat (first | refine kn ?_ _ | refine kd ?_ | refine ka ?_ _)); refine kf ?_ NB218_226.out _; (with_reducible repeat (first | refine kn ?_ _ | refine kd ?_ | refine ka ?_ _)); refine kf ?_ NB218_226.out _; (with_reducible repeat (first | refine kn ?_ _ | refine kd ?_ | refine ka ?_ _)); exact BK218.out⟩, ⟨by (with_reducible repeat (first | refine kn ?_ _ | refine kd ?_ | refine ka ?_ _)); refine kf ?_ NB219_226.out _; (with_reducible repeat (first | refine kn ?_ _ | refine kd ?_ | refine ka ?_ _)); refine kf ?_ NB219_226.out _; (with_reducible repeat (first | refine kn ?_ _ | refine kd ?_ | refine ka ?_ _)); exact BK219.out⟩, ⟨by (with_reducible repeat (first | refine kn ?_ _ | refine kd ?_ | refine ka ?_ _)); refine blk_put (cs := #[.slice Ao39 t230.length co39, .int .i64 x227001_2]) ?_ 1 _ rfl; (with_reducible repeat (first | refine kn ?_ _ | refine kd ?_ | refine ka ?_ _)); refine blk_put (cs := #[.slice Ao36 x227000_2.length co36, .int .i64 x227001_2]) ?_ 0 _ rfl; (with_reducible repeat (first | refine kn ?_ _ | refine kd ?_ | refine ka ?_ _)); exact BK226.out⟩, ⟨by repeat (first | (with_reducible first | exact HB.out | apply ba | apply bn | apply bd | refine bs ?_ GE218.out | refine bs ?_ GE219.out | refine bs ?_ GE226.out | refine bs ?_ GE236.out) | exact HB.out)⟩⟩
                · rw [if_neg c32] at H
                  exact absurd H (by simp)
              · replace c31 := Bool.eq_false_iff.mpr c31
                subst c31
                have H1 : (some (([] : List (S51)), 0, ([] : List Int), false)) = some (r1, r2, r3, r4) := by rw [if_neg (show ¬ (false = true) by decide)] at H; exact H
                clear H
                have H := H1
                clear H1
                simp only [Option.some.injEq, Prod.mk.injEq] at H
                obtain ⟨rfl, rfl, rfl, rfl⟩ := H
                have hnb49 := NB226_218.out
                have hnc49 := NB218_226.out
                have hnb50 := NB226_219.out
                have hnc50 := NB219_226.out
                have hcz51_0 : wr.cell? ⟨gb226, 0, none⟩ = some (u227000) := (kc BK226.out 0).trans rfl
                have hcz51_1 : wr.cell? ⟨gb226, 1, none⟩ = some (.int .i64 x227001_2) := (kc BK226.out 1).trans rfl
                have hfz51_0 := kz BK226.out 0
                have hfz51_1 := kz BK226.out 1
                obtain ⟨Ao52, co52, eo52⟩ := Ri HO_227000.out
                subst eo52
                go_wp2_with (first | ((with_reducible refine gc (f := 23) rfl ?_); refine goesL_ (some 29) rfl rfl Try.func23 (by kernel_rfl) rfl #[.agg #[.slice Ao52 x227000_2.length co52, .int .i64 x227001_2]] rfl (by (try simp only [List.map_toArray, List.map_cons, List.map_nil]); first | done | rfl | (simp only [List.length_drop, List.length_take]; rfl)) ?_; (with_reducible refine (impl_QueueTick.calls k2 _ _ x227000_2 x227001_2 t230 t233 t234 false _ ?side1 ?side2 A30.out).mono ?_); (case side1 => repeat (first | exact (Rr HO_227000.out).2.2 | (with_reducible refine Ca ?_ _) | (with_reducible refine Cn ?_ _) | (with_reducible refine Cd ?_))); (case side2 => exact (Rr HO_227000.out).2.1); rintro e w53 ⟨v231, rfl, ho0, hb⟩; refine ⟨_, rfl, ?_⟩; have n0_ := AM (Rb (lfR HO_8.out) hb); have n1_ := AM (Re (lfR HO_227000.out) (Rs ho0) hb); have n2_ := AM (Rl (Rw ho0 (Rq (lfR HO_227000.out))) (bz (by repeat (first | (with_reducible first | exact HB.out | apply ba | apply bn | apply bd | refine bs ?_ GE218.out | refine bs ?_ GE219.out | refine bs ?_ GE226.out) | exact HB.out)))); have n3_ := AM (kb (g := gb218) (o := .cells #[.slice A0_0 l0_0.length c0_0, .int .i64 a0_1] 28 (0, 0)) (lfK BK218.out) hb); have n4_ := AM (kb (g := gb219) (o := .cells #[.slice none 0 0, .int .i64 x220001_2] 28 (0, 0)) (lfK BK219.out) hb); have n5_ := AM (kb (g := gb226) (o := .cells #[.slice Ao52 x227000_2.length co52, .int .i64 x227001_2] 28 (0, 0)) (lfK BK226.out) hb); have n6_ := AM (bp (by repeat (first | (with_reducible first | exact HB.out | apply ba | apply bn | apply bd | refine bs ?_ GE218.out | refine bs ?_ GE219.out | refine bs ?_ GE226.out) | exact HB.out)) hb); clear HO_8 HO_227000 BK218 BK219 BK226 HB; revert n0_ n1_ n2_ n3_ n4_ n5_ n6_; intro HO_8 HO_227000 HO232 BK218 BK219 BK226 HB; (try clear hb ho0)) | ((with_reducible refine gd (N := 9) rfl ?_); refine xe ?hg (N := 9) ?hd (cs := #[.slice none 0 0, .int .i64 0]) (t := 28) ?hr ?_; (case hd => rfl); (case hg => rfl); (case hr => first | (go_simp; done) | (go_simp; rfl)); intro gb236 hg w54 hbox hb; have n0_ := AM (Rb (lfR HO_8.out) hb); have n1_ := AM (Rb (lfR HO_227000.out) hb); have n2_ := AM (Rb (lfR HO232.out) hb); have n3_ := AM (kb (g := gb218) (o := .cells #[.slice A0_0 l0_0.length c0_0, .int .i64 a0_1] 28 (0, 0)) (lfK BK218.out) hb); have n4_ := AM (kb (g := gb219) (o := .cells #[.slice none 0 0, .int .i64 x220001_2] 28 (0, 0)) (lfK BK219.out) hb); have n5_ := AM (kb (g := gb226) (o := .cells #[.slice Ao52 x227000_2.length co52, .int .i64 x227001_2] 28 (0, 0)) (lfK BK226.out) hb); have n6_ := AM (bp (by repeat (first | (with_reducible first | exact HB.out | apply ba | apply bn | apply bd | refine bs ?_ GE218.out | refine bs ?_ GE219.out | refine bs ?_ GE226.out) | exact HB.out)) hb); have n7_ := AM (hbox); have n8_ := AM ((by rw [hg]; exact (bz (by repeat (first | (with_reducible first | exact HB.out | apply ba | apply bn | apply bd | refine bs ?_ GE218.out | refine bs ?_ GE219.out | refine bs ?_ GE226.out) | exact HB.out))) : w.heap.size ≤ gb236)); have n9_ := AM ((by rw [hg]; exact (bz (by repeat (first | (with_reducible first | exact HB.out | apply ba | apply bn | apply bd | refine bs ?_ GE218.out | refine bs ?_ GE219.out | refine bs ?_ GE226.out) | exact HB.out))) : w.heap.size ≤ gb236)); have n10_ := AM ((by rw [hg]; exact Nat.ne_of_lt (blk_lt (g := gb218) (o := .cells #[.slice A0_0 l0_0.length c0_0, .int .i64 a0_1] 28 (0, 0)) (lfK BK218.out)) : gb218 ≠ gb236)); have n11_ := AM ((by rw [hg]; exact Nat.ne_of_gt (blk_lt (g := gb218) (o := .cells #[.slice A0_0 l0_0.length c0_0, .int .i64 a0_1] 28 (0, 0)) (lfK BK218.out)) : gb236 ≠ gb218)); have n12_ := AM ((by rw [hg]; exact Nat.ne_of_lt (blk_lt (g := gb219) (o := .cells #[.slice none 0 0, .int .i64 x220001_2] 28 (0, 0)) (lfK BK219.out)) : gb219 ≠ gb236)); have n13_ := AM ((by rw [hg]; exact Nat.ne_of_gt (blk_lt (g := gb219) (o := .cells #[.slice none 0 0, .int .i64 x220001_2] 28 (0, 0)) (lfK BK219.out)) : gb236 ≠ gb219)); have n14_ := AM ((by rw [hg]; exact Nat.ne_of_lt (blk_lt (g := gb226) (o := .cells #[.slice Ao52 x227000_2.length co52, .int .i64 x227001_2] 28 (0, 0)) (lfK BK226.out)) : gb226 ≠ gb236)); have n15_ := AM ((by rw [hg]; exact Nat.ne_of_gt (blk_lt (g := gb226) (o := .cells #[.slice Ao52 x227000_2.length co52, .int .i64 x227001_2] 28 (0, 0)) (lfK BK226.out)) : gb236 ≠ gb226)); clear HO_8 HO_227000 HO232 BK218 BK219 BK226 HB; revert n0_ n1_ n2_ n3_ n4_ n5_ n6_ n7_ n8_ n9_ n10_ n11_ n12_ n13_ n14_ n15_; intro HO_8 HO_227000 HO232 BK218 BK219 BK226 HB BK236 GW236 GE236 NB218_236 NB236_218 NB219_236 NB236_219 NB226_236 NB236_226; clear hb hbox hg; obtain ⟨Ao55, co55, eo55⟩ := Ri HO232.out; subst eo55; have hnb56 := NB236_218.out; have hnc56 := NB218_236.out; have hnb57 := NB236_219.out; have hnc57 := NB219_236.out; have hnb58 := NB236_226.out; have hnc58 := NB226_236.out; have hcz59_0 : w54.cell? ⟨gb236, 0, none⟩ = some (.slice none 0 0) := (kc BK236.out 0).trans rfl; have hcz59_1 : w54.cell? ⟨gb236, 1, none⟩ = some (.int .i64 0) := (kc BK236.out 1).trans rfl; have hfz59_0 := kz BK236.out 0; have hfz59_1 := kz BK236.out 1; have hnb60 := NB219_218.out; have hnc60 := NB218_219.out; have hcz61_0 : w54.cell? ⟨gb219, 0, none⟩ = some (.slice none 0 0) := (kc BK219.out 0).trans rfl; have hcz61_1 : w54.cell? ⟨gb219, 1, none⟩ = some (.int .i64 x220001_2) := (kc BK219.out 1).trans rfl; have hfz61_0 := kz BK219.out 0; have hfz61_1 := kz BK219.out 1))
                refine bodyPost_ret (results_ctt rfl _ _ gb219 28 #[.slice none 0 0, .int .i64 0] (0, 0) _ rfl (by (with_reducible repeat (first | refine kn ?_ _ | refine kd ?_ | refine ka ?_ _)); refine blk_put (cs := #[.slice none 0 0, .int .i64 x220001_2]) ?_ 1 _ rfl; (with_reducible repeat (first | refine kn ?_ _ | refine kd ?_ | refine ka ?_ _)); refine blk_put (cs := #[.slice none 0 0, .int .i64 x220001_2]) ?_ 0 _ rfl; (with_reducible repeat (first | refine kn ?_ _ | refine kd ?_ | refine ka ?_ _)); refine kf ?_ NB219_236.out _; (with_reducible repeat (first | refine kn ?_ _ | refine kd ?_ | refine ka ?_ _)); refine kf ?_ NB219_236.out _; (with_reducible repeat (first | refine kn ?_ _ | refine kd ?_ | refine ka ?_ _)); exact BK219.out) Try.underlying28 rfl (by kernel_rfl)) rfl ?_
                exact ⟨_, _, by first | rfl | (simp [errW_none, errW_some] <;> rfl) | (simp [*, errW_none, errW_some] <;> rfl), by first | exact Kd.R_nil _ _ _ _ _ | exact Kd.N_nil _ _ _ _ _ | exact Kd.V_nil _ _ _ _ _ | exact Kd.Q_nil _ _ _ _ _ | exact Kd.S_nil _ _ _ _ _, by first | exact Kd.R_nil _ _ _ _ _ | exact Kd.N_nil _ _ _ _ _ | exact Kd.V_nil _ _ _ _ _ | exact Kd.Q_nil _ _ _ _ _ | exact Kd.S_nil _ _ _ _ _, by repeat (first | (with_reducible first | exact HB.out | apply ba | apply bn | apply bd | refine bs ?_ GE218.out | refine bs ?_ GE219.out | refine bs ?_ GE226.out | refine bs ?_ GE236.out) | exact HB.out)⟩
            · rw [if_neg c29] at H
              have c29b0 : decide (x25_2 < a1) = false := decide_eq_false c29
              clear c29
              simp only [Option.some.injEq, Prod.mk.injEq] at H
              obtain ⟨rfl, rfl, rfl, rfl⟩ := H
              have hnb62 := NB226_218.out
              have hnc62 := NB218_226.out
              have hnb63 := NB226_219.out
              have hnc63 := NB219_226.out
              have hcz64_0 : wr.cell? ⟨gb226, 0, none⟩ = some (u227000) := (kc BK226.out 0).trans rfl
              have hcz64_1 : wr.cell? ⟨gb226, 1, none⟩ = some (.int .i64 x227001_2) := (kc BK226.out 1).trans rfl
              have hfz64_0 := kz BK226.out 0
              have hfz64_1 := kz BK226.out 1
              obtain ⟨Ao65, co65, eo65⟩ := Ri HO_227000.out
              subst eo65
              have hnb66 := NB219_218.out
              have hnc66 := NB218_219.out
              have hcz67_0 : wr.cell? ⟨gb219, 0, none⟩ = some (.slice none 0 0) := (kc BK219.out 0).trans rfl
              have hcz67_1 : wr.cell? ⟨gb219, 1, none⟩ = some (.int .i64 x220001_2) := (kc BK219.out 1).trans rfl
              have hfz67_0 := kz BK219.out 0
              have hfz67_1 := kz BK219.out 1
              go_wp2
              refine bodyPost_ret (results_ctt rfl _ _ gb219 28 #[.slice Ao65 x227000_2.length co65, .int .i64 x227001_2] (0, 0) _ rfl (by (with_reducible repeat (first | refine kn ?_ _ | refine kd ?_ | refine ka ?_ _)); refine blk_put (cs := #[.slice Ao65 x227000_2.length co65, .int .i64 x220001_2]) ?_ 1 _ rfl; (with_reducible repeat (first | refine kn ?_ _ | refine kd ?_ | refine ka ?_ _)); refine blk_put (cs := #[.slice none 0 0, .int .i64 x220001_2]) ?_ 0 _ rfl; (with_reducible repeat (first | refine kn ?_ _ | refine kd ?_ | refine ka ?_ _)); exact BK219.out) Try.underlying28 rfl (by kernel_rfl)) rfl ?_
              exact ⟨_, _, by first | rfl | (simp [errW_none, errW_some] <;> rfl) | (simp [*, errW_none, errW_some] <;> rfl), by (with_reducible repeat (first | apply Ra | apply Rn | apply Rd)); exact Rm (Rf (p := ⟨gb219, 1, none⟩) (Rf (p := ⟨gb219, 0, none⟩) (Rt HO_227000.out BK219.out (by decide)) (fun _ hk => hk.2) (.slice Ao65 x227000_2.length co65)) (fun _ hk => hk.2) (.int .i64 x227001_2)) (fun _ hk => trivial), by (with_reducible repeat (first | apply Ra | apply Rn | apply Rd)); exact Rm (Rf (p := ⟨gb219, 1, none⟩) (Rf (p := ⟨gb219, 0, none⟩) (Rt HO_8.out BK219.out (by decide)) (fun _ hk => hk.2) (.slice Ao65 x227000_2.length co65)) (fun _ hk => hk.2) (.int .i64 x227001_2)) (fun _ hk => trivial), by repeat (first | (with_reducible first | exact HB.out | apply ba | apply bn | apply bd | refine bs ?_ GE218.out | refine bs ?_ GE219.out | refine bs ?_ GE226.out) | exact HB.out)⟩

/-! ### laws_eqTask: function 31 -/
open Go.Proofs.YtfbdkjdockbfdabW.PrintWords.Aside0 renaming mk → AM
open Go.Proofs.YtfbdkjdockbfdabW.PrintWords renaming below_alloc → ba, pw_below_drewN → bn, below_drew1 → bd, below_set → bs, blk_drewN → kn, blk_drew → kd, blk_alloc → ka, blk_cell → kc, blk_frozen → kz, blk_below → kb, below_size → bz, below_step → bp, box_event → xe, gate_dst → gd
def laws_eqTask.f (a0_0 : Int) (a0_1 : Int) (a0_2 : Int) (a0_3 : Bool) (a1_0 : Int) (a1_1 : Int) (a1_2 : Int) (a1_3 : Bool) : Option (Bool) := if a0_0 = a1_0 then (if a0_1 = a1_1 then (if a0_2 = a1_2 then (if (a0_3 != a1_3) = true then (some false) else (some true)) else (some false)) else (some false)) else (some false)
set_option maxHeartbeats 8000000 in
set_option maxRecDepth 100000 in
theorem laws_eqTask.calls (a0_0 : Int) (a0_1 : Int) (a0_2 : Int) (a0_3 : Bool) (a1_0 : Int) (a1_1 : Int) (a1_2 : Int) (a1_3 : Bool) (r : Bool) (w : World) (h : laws_eqTask.f a0_0 a0_1 a0_2 a0_3 a1_0 a1_1 a1_2 a1_3 = some r) :
    Calls Try.prog 31 #[.agg #[.int .i64 a0_0, .int .i64 a0_1, .int .i64 a0_2, .bool a0_3], .agg #[.int .i64 a1_0, .int .i64 a1_1, .int .i64 a1_2, .bool a1_3]] w fun e w' => e = .returned (.bool r) ∧ Below w.heap.size w w' := by
  have hu51 := Try.underlying51
  have HB := AM (Below.refl w.heap.size w)
  have H : (if a0_0 = a1_0 then (if a0_1 = a1_1 then (if a0_2 = a1_2 then (if (a0_3 != a1_3) = true then (some false) else (some true)) else (some false)) else (some false)) else (some false)) = some r := h
  clear h
  by_cases c3 : a0_0 = a1_0
  · rw [if_pos c3] at H
    have c3b0 : (a0_0 == a1_0) = true := beq_iff_eq.mpr c3
    have c3b1 : (a0_0 != a1_0) = false := bne_eq_false_iff_eq.mpr c3
    clear c3
    by_cases c4 : a0_1 = a1_1
    · rw [if_pos c4] at H
      have c4b0 : (a0_1 == a1_1) = true := beq_iff_eq.mpr c4
      have c4b1 : (a0_1 != a1_1) = false := bne_eq_false_iff_eq.mpr c4
      clear c4
      by_cases c5 : a0_2 = a1_2
      · rw [if_pos c5] at H
        have c5b0 : (a0_2 == a1_2) = true := beq_iff_eq.mpr c5
        have c5b1 : (a0_2 != a1_2) = false := bne_eq_false_iff_eq.mpr c5
        clear c5
        by_cases c6 : (a0_3 != a1_3) = true
        · rw [if_pos c6] at H
          have c6b0 : (a0_3 != a1_3) = true := c6
          (try (have c6b1 : decide (a0_3 = a1_3) = false := by simpa using c6))
          (try (have c6b2 : (a0_3 == a1_3) = false := by simpa using c6))
          (try (have c6b3 : ¬ (a0_3 = a1_3) := by simpa using c6))
          clear c6
          obtain rfl := Option.some.inj H
          go_enter Try.func31, Try.ntmps31
          go_wp2_with (first | ((with_reducible refine gd (N := 2) rfl ?_); refine xe ?hg (N := 2) ?hd (cs := #[.int .i64 a0_0, .int .i64 a0_1, .int .i64 a0_2, .bool a0_3]) (t := 51) ?hr ?_; (case hd => rfl); (case hg => rfl); (case hr => first | (go_simp; done) | (go_simp; rfl)); intro gb240 hg w7 hbox hb; have n0_ := AM (bp (lfB HB.out) hb); have n1_ := AM (hbox); have n2_ := AM ((by rw [hg]; exact (bz (lfB HB.out)) : w.heap.size ≤ gb240)); have n3_ := AM ((by rw [hg]; exact (bz (lfB HB.out)) : w.heap.size ≤ gb240)); clear HB; revert n0_ n1_ n2_ n3_; intro HB BK240 GW240 GE240; clear hb hbox hg) | ((with_reducible refine gd (N := 3) rfl ?_); refine xe ?hg (N := 3) ?hd (cs := #[.int .i64 a1_0, .int .i64 a1_1, .int .i64 a1_2, .bool a1_3]) (t := 51) ?hr ?_; (case hd => rfl); (case hg => rfl); (case hr => first | (go_simp; done) | (go_simp; rfl)); intro gb241 hg w8 hbox hb; have n0_ := AM (kb (g := gb240) (o := .cells #[.int .i64 a0_0, .int .i64 a0_1, .int .i64 a0_2, .bool a0_3] 51 (0, 0)) (lfK BK240.out) hb); have n1_ := AM (bp (by repeat (first | (with_reducible first | exact HB.out | apply ba | apply bn | apply bd | refine bs ?_ GE240.out) | exact HB.out)) hb); have n2_ := AM (hbox); have n3_ := AM ((by rw [hg]; exact (bz (by repeat (first | (with_reducible first | exact HB.out | apply ba | apply bn | apply bd | refine bs ?_ GE240.out) | exact HB.out))) : w.heap.size ≤ gb241)); have n4_ := AM ((by rw [hg]; exact (bz (by repeat (first | (with_reducible first | exact HB.out | apply ba | apply bn | apply bd | refine bs ?_ GE240.out) | exact HB.out))) : w.heap.size ≤ gb241)); have n5_ := AM ((by rw [hg]; exact Nat.ne_of_lt (blk_lt (g := gb240) (o := .cells #[.int .i64 a0_0, .int .i64 a0_1, .int .i64 a0_2, .bool a0_3] 51 (0, 0)) (lfK BK240.out)) : gb240 ≠ gb241)); have n6_ := AM ((by rw [hg]; exact Nat.ne_of_gt (blk_lt (g := gb240) (o := .cells #[.int .i64 a0_0, .int .i64 a0_1, .int .i64 a0_2, .bool a0_3] 51 (0, 0)) (lfK BK240.out)) : gb241 ≠ gb240)); clear BK240 HB; revert n0_ n1_ n2_ n3_ n4_ n5_ n6_; intro BK240 HB BK241 GW241 GE241 NB240_241 NB241_240; clear hb hbox hg; have hnb9 := NB240_241.out; have hnc9 := NB241_240.out; have hcz10_0 : w8.cell? ⟨gb240, 0, none⟩ = some (.int .i64 a0_0) := (kc BK240.out 0).trans rfl; have hcz10_1 : w8.cell? ⟨gb240, 1, none⟩ = some (.int .i64 a0_1) := (kc BK240.out 1).trans rfl; have hcz10_2 : w8.cell? ⟨gb240, 2, none⟩ = some (.int .i64 a0_2) := (kc BK240.out 2).trans rfl; have hcz10_3 : w8.cell? ⟨gb240, 3, none⟩ = some (.bool a0_3) := (kc BK240.out 3).trans rfl; have hfz10_0 := kz BK240.out 0; have hfz10_1 := kz BK240.out 1; have hfz10_2 := kz BK240.out 2; have hfz10_3 := kz BK240.out 3; have hcz11_0 : w8.cell? ⟨gb241, 0, none⟩ = some (.int .i64 a1_0) := (kc BK241.out 0).trans rfl; have hcz11_1 : w8.cell? ⟨gb241, 1, none⟩ = some (.int .i64 a1_1) := (kc BK241.out 1).trans rfl; have hcz11_2 : w8.cell? ⟨gb241, 2, none⟩ = some (.int .i64 a1_2) := (kc BK241.out 2).trans rfl; have hcz11_3 : w8.cell? ⟨gb241, 3, none⟩ = some (.bool a1_3) := (kc BK241.out 3).trans rfl; have hfz11_0 := kz BK241.out 0; have hfz11_1 := kz BK241.out 1; have hfz11_2 := kz BK241.out 2; have hfz11_3 := kz BK241.out 3))
          go_ret
          exact ⟨by first | rfl | (simp [errW_none, errW_some] <;> rfl) | (simp [*, errW_none, errW_some] <;> rfl), by repeat (first | (with_reducible first | exact HB.out | apply ba | apply bn | apply bd | refine bs ?_ GE240.out | refine bs ?_ GE241.out) | exact HB.out)⟩
        · rw [if_neg c6] at H
          have c6b0 : (a0_3 != a1_3) = false := by simpa using c6
          (try (have c6b1 : decide (a0_3 = a1_3) = true := by simpa using c6))
          (try (have c6b2 : (a0_3 == a1_3) = true := by simpa using c6))
          clear c6
          obtain rfl := Option.some.inj H
          go_enter Try.func31, Try.ntmps31
          go_wp2_with (first | ((with_reducible refine gd (N := 2) rfl ?_); refine xe ?hg (N := 2) ?hd (cs := #[.int .i64 a0_0, .int .i64 a0_1, .int .i64 a0_2, .bool a0_3]) (t := 51) ?hr ?_; (case hd => rfl); (case hg => rfl); (case hr => first | (go_simp; done) | (go_simp; rfl)); intro gb240 hg w12 hbox hb; have n0_ := AM (bp (lfB HB.out) hb); have n1_ := AM (hbox); have n2_ := AM ((by rw [hg]; exact (bz (lfB HB.out)) : w.heap.size ≤ gb240)); have n3_ := AM ((by rw [hg]; exact (bz (lfB HB.out)) : w.heap.size ≤ gb240)); clear HB; revert n0_ n1_ n2_ n3_; intro HB BK240 GW240 GE240; clear hb hbox hg) | ((with_reducible refine gd (N := 3) rfl ?_); refine xe ?hg (N := 3) ?hd (cs := #[.int .i64 a1_0, .int .i64 a1_1, .int .i64 a1_2, .bool a1_3]) (t := 51) ?hr ?_; (case hd => rfl); (case hg => rfl); (case hr => first | (go_simp; done) | (go_simp; rfl)); intro gb241 hg w13 hbox hb; have n0_ := AM (kb (g := gb240) (o := .cells #[.int .i64 a0_0, .int .i64 a0_1, .int .i64 a0_2, .bool a0_3] 51 (0, 0)) (lfK BK240.out) hb); have n1_ := AM (bp (by repeat (first | (with_reducible first | exact HB.out | apply ba | apply bn | apply bd | refine bs ?_ GE240.out) | exact HB.out)) hb); have n2_ := AM (hbox); have n3_ := AM ((by rw [hg]; exact (bz (by repeat (first | (with_reducible first | exact HB.out | apply ba | apply bn | apply bd | refine bs ?_ GE240.out) | exact HB.out))) : w.heap.size ≤ gb241)); have n4_ := AM ((by rw [hg]; exact (bz (by repeat (first | (with_reducible first | exact HB.out | apply ba | apply bn | apply bd | refine bs ?_ GE240.out) | exact HB.out))) : w.heap.size ≤ gb241)); have n5_ := AM ((by rw [hg]; exact Nat.ne_of_lt (blk_lt (g := gb240) (o := .cells #[.int .i64 a0_0, .int .i64 a0_1, .int .i64 a0_2, .bool a0_3] 51 (0, 0)) (lfK BK240.out)) : gb240 ≠ gb241)); have n6_ := AM ((by rw [hg]; exact Nat.ne_of_gt (blk_lt (g := gb240) (o := .cells #[.int .i64 a0_0, .int .i64 a0_1, .int .i64 a0_2, .bool a0_3] 51 (0, 0)) (lfK BK240.out)) : gb241 ≠ gb240)); clear BK240 HB; revert n0_ n1_ n2_ n3_ n4_ n5_ n6_; intro BK240 HB BK241 GW241 GE241 NB240_241 NB241_240; clear hb hbox hg; have hnb14 := NB240_241.out; have hnc14 := NB241_240.out; have hcz15_0 : w13.cell? ⟨gb240, 0, none⟩ = some (.int .i64 a0_0) := (kc BK240.out 0).trans rfl; have hcz15_1 : w13.cell? ⟨gb240, 1, none⟩ = some (.int .i64 a0_1) := (kc BK240.out 1).trans rfl; have hcz15_2 : w13.cell? ⟨gb240, 2, none⟩ = some (.int .i64 a0_2) := (kc BK240.out 2).trans rfl; have hcz15_3 : w13.cell? ⟨gb240, 3, none⟩ = some (.bool a0_3) := (kc BK240.out 3).trans rfl; have hfz15_0 := kz BK240.out 0; have hfz15_1 := kz BK240.out 1; have hfz15_2 := kz BK240.out 2; have hfz15_3 := kz BK240.out 3; have hcz16_0 : w13.cell? ⟨gb241, 0, none⟩ = some (.int .i64 a1_0) := (kc BK241.out 0).trans rfl; have hcz16_1 : w13.cell? ⟨gb241, 1, none⟩ = some (.int .i64 a1_1) := (kc BK241.out 1).trans rfl; have hcz16_2 : w13.cell? ⟨gb241, 2, none⟩ = some (.int .i64 a1_2) := (kc BK241.out 2).trans rfl; have hcz16_3 : w13.cell? ⟨gb241, 3, none⟩ = some (.bool a1_3) := (kc BK241.out 3).trans rfl; have hfz16_0 := kz BK241.out 0; have hfz16_1 := kz BK241.out 1; have hfz16_2 := kz BK241.out 2; have hfz16_3 := kz BK241.out 3))
          go_ret
          exact ⟨by first | rfl | (simp [errW_none, errW_some] <;> rfl) | (simp [*, errW_none, errW_some] <;> rfl), by repeat (first | (with_reducible first | exact HB.out | apply ba | apply bn | apply bd | refine bs ?_ GE240.out | refine bs ?_ GE241.out) | exact HB.out)⟩
      · rw [if_neg c5] at H
        have c5b0 : (a0_2 == a1_2) = false := beq_eq_false_iff_ne.mpr c5
        have c5b1 : (a0_2 != a1_2) = true := bne_iff_ne.mpr c5
        obtain rfl := Option.some.inj H
        go_enter Try.func31, Try.ntmps31
        go_wp2_with (first | ((with_reducible refine gd (N := 2) rfl ?_); refine xe ?hg (N := 2) ?hd (cs := #[.int .i64 a0_0, .int .i64 a0_1, .int .i64 a0_2, .bool a0_3]) (t := 51) ?hr ?_; (case hd => rfl); (case hg => rfl); (case hr => first | (go_simp; done) | (go_simp; rfl)); intro gb240 hg w17 hbox hb; have n0_ := AM (bp (lfB HB.out) hb); have n1_ := AM (hbox); have n2_ := AM ((by rw [hg]; exact (bz (lfB HB.out)) : w.heap.size ≤ gb240)); have n3_ := AM ((by rw [hg]; exact (bz (lfB HB.out)) : w.heap.size ≤ gb240)); clear HB; revert n0_ n1_ n2_ n3_; intro HB BK240 GW240 GE240; clear hb hbox hg) | ((with_reducible refine gd (N := 3) rfl ?_); refine xe ?hg (N := 3) ?hd (cs := #[.int .i64 a1_0, .int .i64 a1_1, .int .i64 a1_2, .bool a1_3]) (t := 51) ?hr ?_; (case hd => rfl); (case hg => rfl); (case hr => first | (go_simp; done) | (go_simp; rfl)); intro gb241 hg w18 hbox hb; have n0_ := AM (kb (g := gb240) (o := .cells #[.int .i64 a0_0, .int .i64 a0_1, .int .i64 a0_2, .bool a0_3] 51 (0, 0)) (lfK BK240.out) hb); have n1_ := AM (bp (by repeat (first | (with_reducible first | exact HB.out | apply ba | apply bn | apply bd | refine bs ?_ GE240.out) | exact HB.out)) hb); have n2_ := AM (hbox); have n3_ := AM ((by rw [hg]; exact (bz (by repeat (first | (with_reducible first | exact HB.out | apply ba | apply bn | apply bd | refine bs ?_ GE240.out) | exact HB.out))) : w.heap.size ≤ gb241)); have n4_ := AM ((by rw [hg]; exact (bz (by repeat (first | (with_reducible first | exact HB.out | apply ba | apply bn | apply bd | refine bs ?_ GE240.out) | exact HB.out))) : w.heap.size ≤ gb241)); have n5_ := AM ((by rw [hg]; exact Nat.ne_of_lt (blk_lt (g := gb240) (o := .cells #[.int .i64 a0_0, .int .i64 a0_1, .int .i64 a0_2, .bool a0_3] 51 (0, 0)) (lfK BK240.out)) : gb240 ≠ gb241)); have n6_ := AM ((by rw [hg]; exact Nat.ne_of_gt (blk_lt (g := gb240) (o := .cells #[.int .i64 a0_0, .int .i64 a0_1, .int .i64 a0_2, .bool a0_3] 51 (0, 0)) (lfK BK240.out)) : gb241 ≠ gb240)); clear BK240 HB; revert n0_ n1_ n2_ n3_ n4_ n5_ n6_; intro BK240 HB BK241 GW241 GE241 NB240_241 NB241_240; clear hb hbox hg; have hnb19 := NB240_241.out; have hnc19 := NB241_240.out; have hcz20_0 : w18.cell? ⟨gb240, 0, none⟩ = some (.int .i64 a0_0) := (kc BK240.out 0).trans rfl; have hcz20_1 : w18.cell? ⟨gb240, 1, none⟩ = some (.int .i64 a0_1) := (kc BK240.out 1).trans rfl; have hcz20_2 : w18.cell? ⟨gb240, 2, none⟩ = some (.int .i64 a0_2) := (kc BK240.out 2).trans rfl; have hcz20_3 : w18.cell? ⟨gb240, 3, none⟩ = some (.bool a0_3) := (kc BK240.out 3).trans rfl; have hfz20_0 := kz BK240.out 0; have hfz20_1 := kz BK240.out 1; have hfz20_2 := kz BK240.out 2; have hfz20_3 := kz BK240.out 3; have hcz21_0 : w18.cell? ⟨gb241, 0, none⟩ = some (.int .i64 a1_0) := (kc BK241.out 0).trans rfl; have hcz21_1 : w18.cell? ⟨gb241, 1, none⟩ = some (.int .i64 a1_1) := (kc BK241.out 1).trans rfl; have hcz21_2 : w18.cell? ⟨gb241, 2, none⟩ = some (.int .i64 a1_2) := (kc BK241.out 2).trans rfl; have hcz21_3 : w18.cell? ⟨gb241, 3, none⟩ = some (.bool a1_3) := (kc BK241.out 3).trans rfl; have hfz21_0 := kz BK241.out 0; have hfz21_1 := kz BK241.out 1; have hfz21_2 := kz BK241.out 2; have hfz21_3 := kz BK241.out 3))
        go_ret
        exact ⟨by first | rfl | (simp [errW_none, errW_some] <;> rfl) | (simp [*, errW_none, errW_some] <;> rfl), by repeat (first | (with_reducible first | exact HB.out | apply ba | apply bn | apply bd | refine bs ?_ GE240.out | refine bs ?_ GE241.out) | exact HB.out)⟩
    · rw [if_neg c4] at H
      have c4b0 : (a0_1 == a1_1) = false := beq_eq_false_iff_ne.mpr c4
      have c4b1 : (a0_1 != a1_1) = true := bne_iff_ne.mpr c4
      obtain rfl := Option.some.inj H
      go_enter Try.func31, Try.ntmps31
      go_wp2_with (first | ((with_reducible refine gd (N := 2) rfl ?_); refine xe ?hg (N := 2) ?hd (cs := #[.int .i64 a0_0, .int .i64 a0_1, .int .i64 a0_2, .bool a0_3]) (t := 51) ?hr ?_; (case hd => rfl); (case hg => rfl); (case hr => first | (go_simp; done) | (go_simp; rfl)); intro gb240 hg w22 hbox hb; have n0_ := AM (bp (lfB HB.out) hb); have n1_ := AM (hbox); have n2_ := AM ((by rw [hg]; exact (bz (lfB HB.out)) : w.heap.size ≤ gb240)); have n3_ := AM ((by rw [hg]; exact (bz (lfB HB.out)) : w.heap.size ≤ gb240)); clear HB; revert n0_ n1_ n2_ n3_; intro HB BK240 GW240 GE240; clear hb hbox hg) | ((with_reducible refine gd (N := 3) rfl ?_); refine xe ?hg (N := 3) ?hd (cs := #[.int .i64 a1_0, .int .i64 a1_1, .int .i64 a1_2, .bool a1_3]) (t := 51) ?hr ?_; (case hd => rfl); (case hg => rfl); (case hr => first | (go_simp; done) | (go_simp; rfl)); intro gb241 hg w23 hbox hb; have n0_ := AM (kb (g := gb240) (o := .cells #[.int .i64 a0_0, .int .i64 a0_1, .int .i64 a0_2, .bool a0_3] 51 (0, 0)) (lfK BK240.out) hb); have n1_ := AM (bp (by repeat (first | (with_reducible first | exact HB.out | apply ba | apply bn | apply bd | refine bs ?_ GE240.out) | exact HB.out)) hb); have n2_ := AM (hbox); have n3_ := AM ((by rw [hg]; exact (bz (by repeat (first | (with_reducible first | exact HB.out | apply ba | apply bn | apply bd | refine bs ?_ GE240.out) | exact HB.out))) : w.heap.size ≤ gb241)); have n4_ := AM ((by rw [hg]; exact (bz (by repeat (first | (with_reducible first | exact HB.out | apply ba | apply bn | apply bd | refine bs ?_ GE240.out) | exact HB.out))) : w.heap.size ≤ gb241)); have n5_ := AM ((by rw [hg]; exact Nat.ne_of_lt (blk_lt (g := gb240) (o := .cells #[.int .i64 a0_0, .int .i64 a0_1, .int .i64 a0_2, .bool a0_3] 51 (0, 0)) (lfK BK240.out)) : gb240 ≠ gb241)); have n6_ := AM ((by rw [hg]; exact Nat.ne_of_gt (blk_lt (g := gb240) (o := .cells #[.int .i64 a0_0, .int .i64 a0_1, .int .i64 a0_2, .bool a0_3] 51 (0, 0)) (lfK BK240.out)) : gb241 ≠ gb240)); clear BK240 HB; revert n0_ n1_ n2_ n3_ n4_ n5_ n6_; intro BK240 HB BK241 GW241 GE241 NB240_241 NB241_240; clear hb hbox hg; have hnb24 := NB240_241.out; have hnc24 := NB241_240.out; have hcz25_0 : w23.cell? ⟨gb240, 0, none⟩ = some (.int .i64 a0_0) := (kc BK240.out 0).trans rfl; have hcz25_1 : w23.cell? ⟨gb240, 1, none⟩ = some (.int .i64 a0_1) := (kc BK240.out 1).trans rfl; have hcz25_2 : w23.cell? ⟨gb240, 2, none⟩ = some (.int .i64 a0_2) := (kc BK240.out 2).trans rfl; have hcz25_3 : w23.cell? ⟨gb240, 3, none⟩ = some (.bool a0_3) := (kc BK240.out 3).trans rfl; have hfz25_0 := kz BK240.out 0; have hfz25_1 := kz BK240.out 1; have hfz25_2 := kz BK240.out 2; have hfz25_3 := kz BK240.out 3; have hcz26_0 : w23.cell? ⟨gb241, 0, none⟩ = some (.int .i64 a1_0) := (kc BK241.out 0).trans rfl; have hcz26_1 : w23.cell? ⟨gb241, 1, none⟩ = some (.int .i64 a1_1) := (kc BK241.out 1).trans rfl; have hcz26_2 : w23.cell? ⟨gb241, 2, none⟩ = some (.int .i64 a1_2) := (kc BK241.out 2).trans rfl; have hcz26_3 : w23.cell? ⟨gb241, 3, none⟩ = some (.bool a1_3) := (kc BK241.out 3).trans rfl; have hfz26_0 := kz BK241.out 0; have hfz26_1 := kz BK241.out 1; have hfz26_2 := kz BK241.out 2; have hfz26_3 := kz BK241.out 3))
      go_ret
      exact ⟨by first | rfl | (simp [errW_none, errW_some] <;> rfl) | (simp [*, errW_none, errW_some] <;> rfl), by repeat (first | (with_reducible first | exact HB.out | apply ba | apply bn | apply bd | refine bs ?_ GE240.out | refine bs ?_ GE241.out) | exact HB.out)⟩
  · rw [if_neg c3] at H
    have c3b0 : (a0_0 == a1_0) = false := beq_eq_false_iff_ne.mpr c3
    have c3b1 : (a0_0 != a1_0) = true := bne_iff_ne.mpr c3
    obtain rfl := Option.some.inj H
    go_enter Try.func31, Try.ntmps31
    go_wp2_with (first | ((with_reducible refine gd (N := 2) rfl ?_); refine xe ?hg (N := 2) ?hd (cs := #[.int .i64 a0_0, .int .i64 a0_1, .int .i64 a0_2, .bool a0_3]) (t := 51) ?hr ?_; (case hd => rfl); (case hg => rfl); (case hr => first | (go_simp; done) | (go_simp; rfl)); intro gb240 hg w27 hbox hb; have n0_ := AM (bp (lfB HB.out) hb); have n1_ := AM (hbox); have n2_ := AM ((by rw [hg]; exact (bz (lfB HB.out)) : w.heap.size ≤ gb240)); have n3_ := AM ((by rw [hg]; exact (bz (lfB HB.out)) : w.heap.size ≤ gb240)); clear HB; revert n0_ n1_ n2_ n3_; intro HB BK240 GW240 GE240; clear hb hbox hg) | ((with_reducible refine gd (N := 3) rfl ?_); refine xe ?hg (N := 3) ?hd (cs := #[.int .i64 a1_0, .int .i64 a1_1, .int .i64 a1_2, .bool a1_3]) (t := 51) ?hr ?_; (case hd => rfl); (case hg => rfl); (case hr => first | (go_simp; done) | (go_simp; rfl)); intro gb241 hg w28 hbox hb; have n0_ := AM (kb (g := gb240) (o := .cells #[.int .i64 a0_0, .int .i64 a0_1, .int .i64 a0_2, .bool a0_3] 51 (0, 0)) (lfK BK240.out) hb); have n1_ := AM (bp (by repeat (first | (with_reducible first | exact HB.out | apply ba | apply bn | apply bd | refine bs ?_ GE240.out) | exact HB.out)) hb); have n2_ := AM (hbox); have n3_ := AM ((by rw [hg]; exact (bz (by repeat (first | (with_reducible first | exact HB.out | apply ba | apply bn | apply bd | refine bs ?_ GE240.out) | exact HB.out))) : w.heap.size ≤ gb241)); have n4_ := AM ((by rw [hg]; exact (bz (by repeat (first | (with_reducible first | exact HB.out | apply ba | apply bn | apply bd | refine bs ?_ GE240.out) | exact HB.out))) : w.heap.size ≤ gb241)); have n5_ := AM ((by rw [hg]; exact Nat.ne_of_lt (blk_lt (g := gb240) (o := .cells #[.int .i64 a0_0, .int .i64 a0_1, .int .i64 a0_2, .bool a0_3] 51 (0, 0)) (lfK BK240.out)) : gb240 ≠ gb241)); have n6_ := AM ((by rw [hg]; exact Nat.ne_of_gt (blk_lt (g := gb240) (o := .cells #[.int .i64 a0_0, .int .i64 a0_1, .int .i64 a0_2, .bool a0_3] 51 (0, 0)) (lfK BK240.out)) : gb241 ≠ gb240)); clear BK240 HB; revert n0_ n1_ n2_ n3_ n4_ n5_ n6_; intro BK240 HB BK241 GW241 GE241 NB240_241 NB241_240; clear hb hbox hg; have hnb29 := NB240_241.out; have hnc29 := NB241_240.out; have hcz30_0 : w28.cell? ⟨gb240, 0, none⟩ = some (.int .i64 a0_0) := (kc BK240.out 0).trans rfl; have hcz30_1 : w28.cell? ⟨gb240, 1, none⟩ = some (.int .i64 a0_1) := (kc BK240.out 1).trans rfl; have hcz30_2 : w28.cell? ⟨gb240, 2, none⟩ = some (.int .i64 a0_2) := (kc BK240.out 2).trans rfl; have hcz30_3 : w28.cell? ⟨gb240, 3, none⟩ = some (.bool a0_3) := (kc BK240.out 3).trans rfl; have hfz30_0 := kz BK240.out 0; have hfz30_1 := kz BK240.out 1; have hfz30_2 := kz BK240.out 2; have hfz30_3 := kz BK240.out 3; have hcz31_0 : w28.cell? ⟨gb241, 0, none⟩ = some (.int .i64 a1_0) := (kc BK241.out 0).trans rfl; have hcz31_1 : w28.cell? ⟨gb241, 1, none⟩ = some (.int .i64 a1_1) := (kc BK241.out 1).trans rfl; have hcz31_2 : w28.cell? ⟨gb241, 2, none⟩ = some (.int .i64 a1_2) := (kc BK241.out 2).trans rfl; have hcz31_3 : w28.cell? ⟨gb241, 3, none⟩ = some (.bool a1_3) := (kc BK241.out 3).trans rfl; have hfz31_0 := kz BK241.out 0; have hfz31_1 := kz BK241.out 1; have hfz31_2 := kz BK241.out 2; have hfz31_3 := kz BK241.out 3))
    go_ret
    exact ⟨by first | rfl | (simp [errW_none, errW_some] <;> rfl) | (simp [*, errW_none, errW_some] <;> rfl), by repeat (first | (with_reducible first | exact HB.out | apply ba | apply bn | apply bd | refine bs ?_ GE240.out | refine bs ?_ GE241.out) | exact HB.out)⟩

/-! ### laws_eqTaskS: function 24 -/
open List renaming setIfInBounds_toArray → sA, set_cons_zero → sZ, set_cons_succ → sS
open Go.Proofs.YtfbdkjdockbfdabW.PrintWords.Aside0 renaming mk → AM
open Go.Proofs.YtfbdkjdockbfdabW.PrintWords renaming below_alloc → ba, pw_below_drewN → bn, below_drew1 → bd, below_step → bp
def laws_eqTaskS.l0 : Nat → List (S51) → List (S51) → Int → Option (Bool)
  | 0, _, _, _ => none
  | k + 1, x0, x1, x5 => if x5 < (x0.length : Int) then (if 0 ≤ x5 then (if x5 < (x1.length : Int) then ((laws_eqTask.f ((rd_T51 x0 x5).f0) ((rd_T51 x0 x5).f1) ((rd_T51 x0 x5).f2) ((rd_T51 x0 x5).f3) ((rd_T51 x1 x5).f0) ((rd_T51 x1 x5).f1) ((rd_T51 x1 x5).f2) ((rd_T51 x1 x5).f3)).bind fun t244 => (if t244 = true then (laws_eqTaskS.l0 k x0 x1 (wrap64 (x5 + 1))) else (some false))) else (none)) else (none)) else (some true)
def laws_eqTaskS.f (k : Nat) (l0 : List (S51)) (l1 : List (S51)) : Option (Bool) := if (l0.length : Int) = (l1.length : Int) then (laws_eqTaskS.l0 k l0 l1 0) else (some false)
theorem laws_eqTaskS.mono_l : ∀ k, (∀ y0 y1 y2, LeO (laws_eqTaskS.l0 k y0 y1 y2) (laws_eqTaskS.l0 (k + 1) y0 y1 y2))
  | 0 => fun _ _ _ r h => by simp [laws_eqTaskS.l0] at h
  | k + 1 => by
    have ih0 := laws_eqTaskS.mono_l k
    · intro y0 y1 y2
      unfold laws_eqTaskS.l0
      repeat' first
      | (with_reducible exact ih0 _ _ _)
      | (with_reducible exact LeO.refl _)
      | (with_reducible exact LeO.none _)
      | (with_reducible refine LeO.ite ?_ ?_)
      | (with_reducible refine LeO.bind ?_ (fun _ => ?_))
      | exact ih0 _ _ _
      | exact LeO.none _
      | refine LeO.ite ?_ ?_
      | refine LeO.bind ?_ (fun _ => ?_)
theorem laws_eqTaskS.mono : ∀ a0 a1 k, LeO (laws_eqTaskS.f k a0 a1) (laws_eqTaskS.f (k + 1) a0 a1) := by
  intro a0 a1 k
  have ih0 := laws_eqTaskS.mono_l k
  unfold laws_eqTaskS.f
  repeat' first
      | (with_reducible exact ih0 _ _ _)
      | (with_reducible exact LeO.refl _)
      | (with_reducible exact LeO.none _)
      | (with_reducible refine LeO.ite ?_ ?_)
      | (with_reducible refine LeO.bind ?_ (fun _ => ?_))
      | exact ih0 _ _ _
      | exact LeO.none _
      | refine LeO.ite ?_ ?_
      | refine LeO.bind ?_ (fun _ => ?_)
def laws_eqTaskS.T6 : Bool × List (List Nat × List Nat) := (true, [([], []), ([], []), ([0, 1], [0, 1]), ([2], [2]), ([], []), ([], []), ([4, 5], [4, 5]), ([6], [6]), ([3, 7], [3, 7]), ([8], [8])])
def laws_eqTaskS.B6 : List Nat := [0, 0, 3, 7, 0, 0, 48, 112, 255, 511]
theorem laws_eqTaskS.tab6 : rtab .any (opsOf Try.f24 6) = laws_eqTaskS.T6 := by kernel_rfl
theorem laws_eqTaskS.bits6 : waitsOk laws_eqTaskS.T6.2 laws_eqTaskS.B6 = true := by kernel_rfl
set_option maxHeartbeats 8000000 in
set_option maxRecDepth 100000 in
theorem laws_eqTaskS.calls (k : Nat) (A0 : Option Addr) (c0 : Nat) (l0 : List (S51)) (A1 : Option Addr) (c1 : Nat) (l1 : List (S51)) (r : Bool) (w : World) (hr0 : Kd.C k51 w A0 l0.length l0) (hc0 : l0.length ≤ c0) (hr1 : Kd.C k51 w A1 l1.length l1) (hc1 : l1.length ≤ c1) (h : laws_eqTaskS.f k l0 l1 = some r) :
    Calls Try.prog 24 #[.slice A0 l0.length c0, .slice A1 l1.length c1] w fun e w' => e = .returned (.bool r) ∧ Below w.heap.size w w' := by
  have hu51 := Try.underlying51
  have HR0 := AM hr0
  have HC0 := AM hc0
  clear hr0 hc0
  have HR1 := AM hr1
  have HC1 := AM hc1
  clear hr1 hc1
  have HB := AM (Below.refl w.heap.size w)
  have H : (if (l0.length : Int) = (l1.length : Int) then (laws_eqTaskS.l0 k l0 l1 0) else (some false)) = some r := h
  clear h
  by_cases c3 : (l0.length : Int) = (l1.length : Int)
  · rw [if_pos c3] at H
    have c3b0 : ((l0.length : Int) == (l1.length : Int)) = true := beq_iff_eq.mpr c3
    have c3b1 : ((l0.length : Int) != (l1.length : Int)) = false := bne_eq_false_iff_eq.mpr c3
    have c3b2 : (l0.length == l1.length) = true := by first | simpa using c3 | (simp at c3 ⊢; omega)
    clear c3
    have H' := AM H
    clear H
    go_enter Try.func24, Try.ntmps24
    go_wp2
    go_loopg [5] k (fun kq v5 w' => ∃ (x5_1 : Int), v5 = .int .i64 x5_1 ∧ Aside0 (laws_eqTaskS.l0 kq l0 l1 x5_1 = some r) ∧ Aside0 (kq ≤ k) ∧ Aside0 (Below w.heap.size w w'))
    case atStart => exact ⟨(0), (by first | rfl | (simp; done) | (simp [*]; done)), H', ⟨Nat.le_refl _⟩, ⟨by repeat (first | (with_reducible first | exact HB.out | apply ba | apply bn | apply bd) | exact HB.out)⟩⟩
    case round =>
      clear H'
      try clear c1
      try clear c3
      try clear c3b0
      try clear c3b1
      try clear c3b2
      obtain ⟨x5_1, rfl, HA, HK1, HB⟩ := hrel
      cases gk with
      | zero => exact absurd HA.out (by simp [laws_eqTaskS.l0])
      | succ k1 =>
        have H := HA.out
        clear HA
        simp only [laws_eqTaskS.l0] at H
        by_cases c4 : x5_1 < (l0.length : Int)
        · rw [if_pos c4] at H
          have c4b0 : decide (x5_1 < (l0.length : Int)) = true := decide_eq_true c4
          clear c4
          by_cases c5 : 0 ≤ x5_1
          · rw [if_pos c5] at H
            have c5b0 : decide (0 ≤ x5_1) = true := decide_eq_true c5
            clear c5
            by_cases c6 : x5_1 < (l1.length : Int)
            · rw [if_pos c6] at H
              have c6b0 : decide (x5_1 < (l1.length : Int)) = true := decide_eq_true c6
              clear c6
              replace H := Option.bind_eq_some_iff.mp H
              obtain ⟨t244, A70, H⟩ := H
              replace H : (if t244 = true then (laws_eqTaskS.l0 k1 l0 l1 (wrap64 (x5_1 + 1))) else (some false)) = some r := H
              have A7 := AM A70
              clear A70
              by_cases c8 : t244 = true
              · subst c8
                have H1 : (laws_eqTaskS.l0 k1 l0 l1 (wrap64 (x5_1 + 1))) = some r := by rw [if_pos rfl] at H; exact H
                clear H
                have H := H1
                clear H1
                have H' := AM H
                clear H
                try go_wp2
                have n0_ := AM (bd HB.out)
                clear HB
                revert n0_
                intro HB
                have p242 : 0 ≤ (x5_1 : Int) := of_decide_eq_true (by first | (with_reducible assumption) | assumption)
                have q242 : x5_1 < (l0.length : Int) := of_decide_eq_true (by first | (with_reducible assumption) | assumption)
                obtain ⟨ad242, e242, hx242_0, hx242_1, hx242_2, hx242_3⟩ := at_T51 HR0.out x5_1 p242 q242
                have hw242_3 := hx242_3
                have hw242_2 := hx242_2
                have hw242_1 := hx242_1
                have hw242_0 := hx242_0
                cases e242
                replace hx242_0 := (HB.out.cell (World.block_lt_of_cell? w _ hx242_0)).trans hx242_0
                replace hx242_1 := (HB.out.cell (World.block_lt_of_cell? w _ hx242_1)).trans hx242_1
                replace hx242_2 := (HB.out.cell (World.block_lt_of_cell? w _ hx242_2)).trans hx242_2
                replace hx242_3 := (HB.out.cell (World.block_lt_of_cell? w _ hx242_3)).trans hx242_3
                replace p242 := eq_true p242
                replace q242 := eq_true q242
                have p243 : 0 ≤ (x5_1 : Int) := of_decide_eq_true (by first | (with_reducible assumption) | assumption)
                have q243 : x5_1 < (l1.length : Int) := of_decide_eq_true (by first | (with_reducible assumption) | assumption)
                obtain ⟨ad243, e243, hx243_0, hx243_1, hx243_2, hx243_3⟩ := at_T51 HR1.out x5_1 p243 q243
                have hw243_3 := hx243_3
                have hw243_2 := hx243_2
                have hw243_1 := hx243_1
                have hw243_0 := hx243_0
                cases e243
                replace hx243_0 := (HB.out.cell (World.block_lt_of_cell? w _ hx243_0)).trans hx243_0
                replace hx243_1 := (HB.out.cell (World.block_lt_of_cell? w _ hx243_1)).trans hx243_1
                replace hx243_2 := (HB.out.cell (World.block_lt_of_cell? w _ hx243_2)).trans hx243_2
                replace hx243_3 := (HB.out.cell (World.block_lt_of_cell? w _ hx243_3)).trans hx243_3
                replace p243 := eq_true p243
                replace q243 := eq_true q243
                refine start_ (n := 10) (S := fun w' => w'.cell? (ad242.add ((x5_1).toNat * 4)) = some (.int .i64 ((rd_T51 l0 x5_1).f0)) ∧ w'.cell? ⟨(ad242.add ((x5_1).toNat * 4)).block, (ad242.add ((x5_1).toNat * 4)).off + 1, none⟩ = some (.int .i64 ((rd_T51 l0 x5_1).f1)) ∧ w'.cell? ⟨(ad242.add ((x5_1).toNat * 4)).block, (ad242.add ((x5_1).toNat * 4)).off + 2, none⟩ = some (.int .i64 ((rd_T51 l0 x5_1).f2)) ∧ w'.cell? ⟨(ad242.add ((x5_1).toNat * 4)).block, (ad242.add ((x5_1).toNat * 4)).off + 3, none⟩ = some (.bool ((rd_T51 l0 x5_1).f3)) ∧ w'.cell? (ad243.add ((x5_1).toNat * 4)) = some (.int .i64 ((rd_T51 l1 x5_1).f0)) ∧ w'.cell? ⟨(ad243.add ((x5_1).toNat * 4)).block, (ad243.add ((x5_1).toNat * 4)).off + 1, none⟩ = some (.int .i64 ((rd_T51 l1 x5_1).f1)) ∧ w'.cell? ⟨(ad243.add ((x5_1).toNat * 4)).block, (ad243.add ((x5_1).toNat * 4)).off + 2, none⟩ = some (.int .i64 ((rd_T51 l1 x5_1).f2)) ∧ w'.cell? ⟨(ad243.add ((x5_1).toNat * 4)).block, (ad243.add ((x5_1).toNat * 4)).off + 3, none⟩ = some (.bool ((rd_T51 l1 x5_1).f3))) (ds := []) (mB 10 0x0) (by kernel_rfl) rfl rfl ⟨((HB.out.cell (World.block_lt_of_cell? w _ hw242_0)).trans hw242_0), ((HB.out.cell (World.block_lt_of_cell? w _ hw242_1)).trans hw242_1), ((HB.out.cell (World.block_lt_of_cell? w _ hw242_2)).trans hw242_2), ((HB.out.cell (World.block_lt_of_cell? w _ hw242_3)).trans hw242_3), ((HB.out.cell (World.block_lt_of_cell? w _ hw243_0)).trans hw243_0), ((HB.out.cell (World.block_lt_of_cell? w _ hw243_1)).trans hw243_1), ((HB.out.cell (World.block_lt_of_cell? w _ hw243_2)).trans hw243_2), ((HB.out.cell (World.block_lt_of_cell? w _ hw243_3)).trans hw243_3)⟩ (fun hHeld => ?_); refine with_tabW laws_eqTaskS.tab6 laws_eqTaskS.bits6 (fun HT_ HW_ => ?_)
                generalize wr.drew = w9 at HB hx242_0 hx242_1 hx242_2 hx242_3 hx243_0 hx243_1 hx243_2 hx243_3 hHeld ⊢
                refine puY (v := ?_) (a' := ?_) 0 17 (mB 10 0x1) rfl rfl HT_.out (by kernel_rfl) (fun _ _ _ h => h) (by rfl) ?_ ?_ ?_; rotate_left; (focus intro w'; go_simp; with_reducible rfl); rotate_left; (focus simp only [Act.put, sA, sZ, sS, i64_w, i32_w]; rfl); refine puY (v := ?_) (a' := ?_) 1 18 (mB 10 0x3) rfl rfl HT_.out (by kernel_rfl) (fun _ _ _ h => h) (by rfl) ?_ ?_ ?_; rotate_left; (focus intro w'; go_simp; with_reducible rfl); rotate_left; (focus simp only [Act.put, sA, sZ, sS, i64_w, i32_w]; rfl); refine puY (v := ?_) (a' := ?_) 2 19 (mB 10 0x7) rfl rfl HT_.out (by kernel_rfl) (fun _ _ _ h => h) (by rfl) ?_ ?_ ?_; rotate_left; (focus intro w'; go_simp; with_reducible rfl); rotate_left; (focus simp only [Act.put, sA, sZ, sS, i64_w, i32_w]; rfl); refine puY (v := ?_) (a' := ?_) 4 21 (mB 10 0x17) rfl rfl HT_.out (by kernel_rfl) (fun _ _ _ h => h) (by rfl) ?_ ?_ ?_; rotate_left; (focus intro w'; go_simp; with_reducible rfl); rotate_left; (focus simp only [Act.put, sA, sZ, sS, i64_w, i32_w]; rfl); refine puY (v := ?_) (a' := ?_) 5 22 (mB 10 0x37) rfl rfl HT_.out (by kernel_rfl) (fun _ _ _ h => h) (by rfl) ?_ ?_ ?_; rotate_left; (focus intro w'; go_simp; with_reducible rfl); rotate_left; (focus simp only [Act.put, sA, sZ, sS, i64_w, i32_w]; rfl); refine puY (v := ?_) (a' := ?_) 6 23 (mB 10 0x77) rfl rfl HT_.out (by kernel_rfl) (fun _ _ _ h => h) (by rfl) ?_ ?_ ?_; rotate_left; (focus intro w'; go_simp; with_reducible rfl); rotate_left; (focus simp only [Act.put, sA, sZ, sS, i64_w, i32_w]; rfl)
                refine take_ (i := 3) (N := some 20) (v := ?_) (a' := ?_) (mB 10 0x7f) rfl rfl (take_ofW HT_.out HW_.out (by kernel_rfl)) (fun _ _ _ h => h) (Or.inl ⟨by rfl, ?_⟩) hHeld ?_ ?_
                rotate_left
                · rintro w' ⟨s0, s1, s2, s3, s4, s5, s6, s7⟩; go_simp; with_reducible rfl
                rotate_left
                · simp only [Act.put, sA, sZ, sS, i64_w, i32_w]; rfl
                refine take_ (i := 7) (N := some 24) (v := ?_) (a' := ?_) (mB 10 0xff) rfl rfl (take_ofW HT_.out HW_.out (by kernel_rfl)) (fun _ _ _ h => h) (Or.inl ⟨by rfl, ?_⟩) hHeld ?_ ?_
                rotate_left
                · rintro w' ⟨s0, s1, s2, s3, s4, s5, s6, s7⟩; go_simp; with_reducible rfl
                rotate_left
                · simp only [Act.put, sA, sZ, sS, i64_w, i32_w]; rfl
                refine one_ (i := 8) (N := some 25) (mB 10 0x1ff) rfl rfl (one_of HT_.out (by kernel_rfl)) (by decide) (fun K hK => ?_)
                refine goes_ Try.func31 (by kernel_rfl) rfl #[.agg #[.int .i64 ((rd_T51 l0 x5_1).f0), .int .i64 ((rd_T51 l0 x5_1).f1), .int .i64 ((rd_T51 l0 x5_1).f2), .bool ((rd_T51 l0 x5_1).f3)], .agg #[.int .i64 ((rd_T51 l1 x5_1).f0), .int .i64 ((rd_T51 l1 x5_1).f1), .int .i64 ((rd_T51 l1 x5_1).f2), .bool ((rd_T51 l1 x5_1).f3)]] (by rfl) rfl rfl (by (try simp only [List.map_toArray, List.map_cons, List.map_nil]); first | done | rfl | (simp only [List.length_drop, List.length_take]; rfl)) ?_
                with_reducible refine (laws_eqTask.calls ((rd_T51 l0 x5_1).f0) ((rd_T51 l0 x5_1).f1) ((rd_T51 l0 x5_1).f2) ((rd_T51 l0 x5_1).f3) ((rd_T51 l1 x5_1).f0) ((rd_T51 l1 x5_1).f1) ((rd_T51 l1 x5_1).f2) ((rd_T51 l1 x5_1).f3) true _ A7.out).mono ?_
                rintro e w10 ⟨rfl, hb⟩
                refine ⟨_, rfl, ?_⟩
                have n0_ := AM (bp (lfB HB.out) hb)
                clear HB
                revert n0_
                intro HB
                (try clear hb)
                (try clear hb2)
                (try clear hk)
                (try clear hi)
                refine hK.out _ _ ⟨((HB.out.cell (World.block_lt_of_cell? w _ hw242_0)).trans hw242_0), ((HB.out.cell (World.block_lt_of_cell? w _ hw242_1)).trans hw242_1), ((HB.out.cell (World.block_lt_of_cell? w _ hw242_2)).trans hw242_2), ((HB.out.cell (World.block_lt_of_cell? w _ hw242_3)).trans hw242_3), ((HB.out.cell (World.block_lt_of_cell? w _ hw243_0)).trans hw243_0), ((HB.out.cell (World.block_lt_of_cell? w _ hw243_1)).trans hw243_1), ((HB.out.cell (World.block_lt_of_cell? w _ hw243_2)).trans hw243_2), ((HB.out.cell (World.block_lt_of_cell? w _ hw243_3)).trans hw243_3)⟩ (fun hHeld => ?_)
                clear hK K
                refine norm_ (a' := ?_) ?_ ?_
                rotate_left
                · show Act.put _ (some 25) _ = _
                  simp only [Act.put, sA, sZ, sS, i64_w, i32_w]
                  rfl
                refine puY (v := ?_) (a' := ?_) 9 26 (mB 10 0x3ff) rfl rfl HT_.out (by kernel_rfl) (fun _ _ _ h => h) (by rfl) ?_ ?_ ?_; rotate_left; (focus intro w'; go_simp; with_reducible rfl); rotate_left; (focus simp only [Act.put, sA, sZ, sS, i64_w, i32_w]; rfl)
                refine done_ (done_of HT_.out (by kernel_rfl)) ?_
                try go_wp2
                go_roundg k1
                case measure => have := HK1.out; omega
                case rel => exact ⟨(wrap64 (x5_1 + 1)), (by first | rfl | (simp; done) | (simp [*]; done)), H', ⟨by have := HK1.out; omega⟩, ⟨by repeat (first | (with_reducible first | exact HB.out | apply ba | apply bn | apply bd) | exact HB.out)⟩⟩
              · replace c8 := Bool.eq_false_iff.mpr c8
                subst c8
                have H1 : (some false) = some r := by rw [if_neg (show ¬ (false = true) by decide)] at H; exact H
                clear H
                have H := H1
                clear H1
                obtain rfl := Option.some.inj H
                try go_wp2
                have n0_ := AM (bd HB.out)
                clear HB
                revert n0_
                intro HB
                have p242 : 0 ≤ (x5_1 : Int) := of_decide_eq_true (by first | (with_reducible assumption) | assumption)
                have q242 : x5_1 < (l0.length : Int) := of_decide_eq_true (by first | (with_reducible assumption) | assumption)
                obtain ⟨ad242, e242, hx242_0, hx242_1, hx242_2, hx242_3⟩ := at_T51 HR0.out x5_1 p242 q242
                have hw242_3 := hx242_3
                have hw242_2 := hx242_2
                have hw242_1 := hx242_1
                have hw242_0 := hx242_0
                cases e242
                replace hx242_0 := (HB.out.cell (World.block_lt_of_cell? w _ hx242_0)).trans hx242_0
                replace hx242_1 := (HB.out.cell (World.block_lt_of_cell? w _ hx242_1)).trans hx242_1
                replace hx242_2 := (HB.out.cell (World.block_lt_of_cell? w _ hx242_2)).trans hx242_2
                replace hx242_3 := (HB.out.cell (World.block_lt_of_cell? w _ hx242_3)).trans hx242_3
                replace p242 := eq_true p242
                replace q242 := eq_true q242
                have p243 : 0 ≤ (x5_1 : Int) := of_decide_eq_true (by first | (with_reducible assumption) | assumption)
                have q243 : x5_1 < (l1.length : Int) := of_decide_eq_true (by first | (with_reducible assumption) | assumption)
                obtain ⟨ad243, e243, hx243_0, hx243_1, hx243_2, hx243_3⟩ := at_T51 HR1.out x5_1 p243 q243
                have hw243_3 := hx243_3
                have hw243_2 := hx243_2
                have hw243_1 := hx243_1
                have hw243_0 := hx243_0
                cases e243
                replace hx243_0 := (HB.out.cell (World.block_lt_of_cell? w _ hx243_0)).trans hx243_0
                replace hx243_1 := (HB.out.cell (World.block_lt_of_cell? w _ hx243_1)).trans hx243_1
                replace hx243_2 := (HB.out.cell (World.block_lt_of_cell? w _ hx243_2)).trans hx243_2
                replace hx243_3 := (HB.out.cell (World.block_lt_of_cell? w _ hx243_3)).trans hx243_3
                replace p243 := eq_true p243
                replace q243 := eq_true q243
                refine start_ (n := 10) (S := fun w' => w'.cell? (ad242.add ((x5_1).toNat * 4)) = some (.int .i64 ((rd_T51 l0 x5_1).f0)) ∧ w'.cell? ⟨(ad242.add ((x5_1).toNat * 4)).block, (ad242.add ((x5_1).toNat * 4)).off + 1, none⟩ = some (.int .i64 ((rd_T51 l0 x5_1).f1)) ∧ w'.cell? ⟨(ad242.add ((x5_1).toNat * 4)).block, (ad242.add ((x5_1).toNat * 4)).off + 2, none⟩ = some (.int .i64 ((rd_T51 l0 x5_1).f2)) ∧ w'.cell? ⟨(ad242.add ((x5_1).toNat * 4)).block, (ad242.add ((x5_1).toNat * 4)).off + 3, none⟩ = some (.bool ((rd_T51 l0 x5_1).f3)) ∧ w'.cell? (ad243.add ((x5_1).toNat * 4)) = some (.int .i64 ((rd_T51 l1 x5_1).f0)) ∧ w'.cell? ⟨(ad243.add ((x5_1).toNat * 4)).block, (ad243.add ((x5_1).toNat * 4)).off + 1, none⟩ = some (.int .i64 ((rd_T51 l1 x5_1).f1)) ∧ w'.cell? ⟨(ad243.add ((x5_1).toNat * 4)).block, (ad243.add ((x5_1).toNat * 4)).off + 2, none⟩ = some (.int .i64 ((rd_T51 l1 x5_1).f2)) ∧ w'.cell? ⟨(ad243.add ((x5_1).toNat * 4)).block, (ad243.add ((x5_1).toNat * 4)).off + 3, none⟩ = some (.bool ((rd_T51 l1 x5_1).f3))) (ds := []) (mB 10 0x0) (by kernel_rfl) rfl rfl ⟨((HB.out.cell (World.block_lt_of_cell? w _ hw242_0)).trans hw242_0), ((HB.out.cell (World.block_lt_of_cell? w _ hw242_1)).trans hw242_1), ((HB.out.cell (World.block_lt_of_cell? w _ hw242_2)).trans hw242_2), ((HB.out.cell (World.block_lt_of_cell? w _ hw242_3)).trans hw242_3), ((HB.out.cell (World.block_lt_of_cell? w _ hw243_0)).trans hw243_0), ((HB.out.cell (World.block_lt_of_cell? w _ hw243_1)).trans hw243_1), ((HB.out.cell (World.block_lt_of_cell? w _ hw243_2)).trans hw243_2), ((HB.out.cell (World.block_lt_of_cell? w _ hw243_3)).trans hw243_3)⟩ (fun hHeld => ?_); refine with_tabW laws_eqTaskS.tab6 laws_eqTaskS.bits6 (fun HT_ HW_ => ?_)
                generalize wr.drew = w11 at HB hx242_0 hx242_1 hx242_2 hx242_3 hx243_0 hx243_1 hx243_2 hx243_3 hHeld ⊢
                refine puY (v := ?_) (a' := ?_) 0 17 (mB 10 0x1) rfl rfl HT_.out (by kernel_rfl) (fun _ _ _ h => h) (by rfl) ?_ ?_ ?_; rotate_left; (focus intro w'; go_simp; with_reducible rfl); rotate_left; (focus simp only [Act.put, sA, sZ, sS, i64_w, i32_w]; rfl); refine puY (v := ?_) (a' := ?_) 1 18 (mB 10 0x3) rfl rfl HT_.out (by kernel_rfl) (fun _ _ _ h => h) (by rfl) ?_ ?_ ?_; rotate_left; (focus intro w'; go_simp; with_reducible rfl); rotate_left; (focus simp only [Act.put, sA, sZ, sS, i64_w, i32_w]; rfl); refine puY (v := ?_) (a' := ?_) 2 19 (mB 10 0x7) rfl rfl HT_.out (by kernel_rfl) (fun _ _ _ h => h) (by rfl) ?_ ?_ ?_; rotate_left; (focus intro w'; go_simp; with_reducible rfl); rotate_left; (focus simp only [Act.put, sA, sZ, sS, i64_w, i32_w]; rfl); refine puY (v := ?_) (a' := ?_) 4 21 (mB 10 0x17) rfl rfl HT_.out (by kernel_rfl) (fun _ _ _ h => h) (by rfl) ?_ ?_ ?_; rotate_left; (focus intro w'; go_simp; with_reducible rfl); rotate_left; (focus simp only [Act.put, sA, sZ, sS, i64_w, i32_w]; rfl); refine puY (v := ?_) (a' := ?_) 5 22 (mB 10 0x37) rfl rfl HT_.out (by kernel_rfl) (fun _ _ _ h => h) (by rfl) ?_ ?_ ?_; rotate_left; (focus intro w'; go_simp; with_reducible rfl); rotate_left; (focus simp only [Act.put, sA, sZ, sS, i64_w, i32_w]; rfl); refine puY (v := ?_) (a' := ?_) 6 23 (mB 10 0x77) rfl rfl HT_.out (by kernel_rfl) (fun _ _ _ h => h) (by rfl) ?_ ?_ ?_; rotate_left; (focus intro w'; go_simp; with_reducible rfl); rotate_left; (focus simp only [Act.put, sA, sZ, sS, i64_w, i32_w]; rfl)
                refine take_ (i := 3) (N := some 20) (v := ?_) (a' := ?_) (mB 10 0x7f) rfl rfl (take_ofW HT_.out HW_.out (by kernel_rfl)) (fun _ _ _ h => h) (Or.inl ⟨by rfl, ?_⟩) hHeld ?_ ?_
                rotate_left
                · rintro w' ⟨s0, s1, s2, s3, s4, s5, s6, s7⟩; go_simp; with_reducible rfl
                rotate_left
                · simp only [Act.put, sA, sZ, sS, i64_w, i32_w]; rfl
                refine take_ (i := 7) (N := some 24) (v := ?_) (a' := ?_) (mB 10 0xff) rfl rfl (take_ofW HT_.out HW_.out (by kernel_rfl)) (fun _ _ _ h => h) (Or.inl ⟨by rfl, ?_⟩) hHeld ?_ ?_
                rotate_left
                · rintro w' ⟨s0, s1, s2, s3, s4, s5, s6, s7⟩; go_simp; with_reducible rfl
                rotate_left
                · simp only [Act.put, sA, sZ, sS, i64_w, i32_w]; rfl
                refine one_ (i := 8) (N := some 25) (mB 10 0x1ff) rfl rfl (one_of HT_.out (by kernel_rfl)) (by decide) (fun K hK => ?_)
                refine goes_ Try.func31 (by kernel_rfl) rfl #[.agg #[.int .i64 ((rd_T51 l0 x5_1).f0), .int .i64 ((rd_T51 l0 x5_1).f1), .int .i64 ((rd_T51 l0 x5_1).f2), .bool ((rd_T51 l0 x5_1).f3)], .agg #[.int .i64 ((rd_T51 l1 x5_1).f0), .int .i64 ((rd_T51 l1 x5_1).f1), .int .i64 ((rd_T51 l1 x5_1).f2), .bool ((rd_T51 l1 x5_1).f3)]] (by rfl) rfl rfl (by (try simp only [List.map_toArray, List.map_cons, List.map_nil]); first | done | rfl | (simp only [List.length_drop, List.length_take]; rfl)) ?_
                with_reducible refine (laws_eqTask.calls ((rd_T51 l0 x5_1).f0) ((rd_T51 l0 x5_1).f1) ((rd_T51 l0 x5_1).f2) ((rd_T51 l0 x5_1).f3) ((rd_T51 l1 x5_1).f0) ((rd_T51 l1 x5_1).f1) ((rd_T51 l1 x5_1).f2) ((rd_T51 l1 x5_1).f3) false _ A7.out).mono ?_
                rintro e w12 ⟨rfl, hb⟩
                refine ⟨_, rfl, ?_⟩
                have n0_ := AM (bp (lfB HB.out) hb)
                clear HB
                revert n0_
                intro HB
                (try clear hb)
                (try clear hb2)
                (try clear hk)
                (try clear hi)
                refine hK.out _ _ ⟨((HB.out.cell (World.block_lt_of_cell? w _ hw242_0)).trans hw242_0), ((HB.out.cell (World.block_lt_of_cell? w _ hw242_1)).trans hw242_1), ((HB.out.cell (World.block_lt_of_cell? w _ hw242_2)).trans hw242_2), ((HB.out.cell (World.block_lt_of_cell? w _ hw242_3)).trans hw242_3), ((HB.out.cell (World.block_lt_of_cell? w _ hw243_0)).trans hw243_0), ((HB.out.cell (World.block_lt_of_cell? w _ hw243_1)).trans hw243_1), ((HB.out.cell (World.block_lt_of_cell? w _ hw243_2)).trans hw243_2), ((HB.out.cell (World.block_lt_of_cell? w _ hw243_3)).trans hw243_3)⟩ (fun hHeld => ?_)
                clear hK K
                refine norm_ (a' := ?_) ?_ ?_
                rotate_left
                · show Act.put _ (some 25) _ = _
                  simp only [Act.put, sA, sZ, sS, i64_w, i32_w]
                  rfl
                refine puY (v := ?_) (a' := ?_) 9 26 (mB 10 0x3ff) rfl rfl HT_.out (by kernel_rfl) (fun _ _ _ h => h) (by rfl) ?_ ?_ ?_; rotate_left; (focus intro w'; go_simp; with_reducible rfl); rotate_left; (focus simp only [Act.put, sA, sZ, sS, i64_w, i32_w]; rfl)
                refine done_ (done_of HT_.out (by kernel_rfl)) ?_
                try go_wp2
                go_ret
                exact ⟨by first | rfl | (simp [errW_none, errW_some] <;> rfl) | (simp [*, errW_none, errW_some] <;> rfl), by repeat (first | (with_reducible first | exact HB.out | apply ba | apply bn | apply bd) | exact HB.out)⟩
            · rw [if_neg c6] at H
              exact absurd H (by simp)
          · rw [if_neg c5] at H
            exact absurd H (by simp)
        · rw [if_neg c4] at H
          have c4b0 : decide (x5_1 < (l0.length : Int)) = false := decide_eq_false c4
          clear c4
          obtain rfl := Option.some.inj H
          go_wp2
          go_ret
          exact ⟨by first | rfl | (simp [errW_none, errW_some] <;> rfl) | (simp [*, errW_none, errW_some] <;> rfl), by repeat (first | (with_reducible first | exact HB.out | apply ba | apply bn | apply bd) | exact HB.out)⟩
  · rw [if_neg c3] at H
    have c3b0 : ((l0.length : Int) == (l1.length : Int)) = false := beq_eq_false_iff_ne.mpr c3
    have c3b1 : ((l0.length : Int) != (l1.length : Int)) = true := bne_iff_ne.mpr c3
    have c3b2 : (l0.length == l1.length) = false := by first | simpa using c3 | (simp at c3 ⊢; omega)
    obtain rfl := Option.some.inj H
    go_enter Try.func24, Try.ntmps24
    go_wp2
    go_ret
    exact ⟨by first | rfl | (simp [errW_none, errW_some] <;> rfl) | (simp [*, errW_none, errW_some] <;> rfl), by repeat (first | (with_reducible first | exact HB.out | apply ba | apply bn | apply bd) | exact HB.out)⟩

/-! ### laws_eqQueue: function 8 -/
open Go.Proofs.YtfbdkjdockbfdabW.PrintWords.Aside0 renaming mk → AM
open Go.Proofs.YtfbdkjdockbfdabW.PrintWords renaming below_alloc → ba, pw_below_drewN → bn, below_drew1 → bd, below_set → bs, blk_drewN → kn, blk_drew → kd, blk_alloc → ka, blk_cell → kc, blk_frozen → kz, blk_below → kb, below_size → bz, below_step → bp, box_event → xe, gate_callee → gc, gate_dst → gd
open Go.Proofs.YtfbdkjdockbfdabW.PrintWords.Kd renaming C_alloc → Ca, C_drewN → Cn, C_drew → Cd, C_below → Cb
def laws_eqQueue.f (k : Nat) (l0_0 : List (S51)) (a0_1 : Int) (l1_0 : List (S51)) (a1_1 : Int) : Option (Bool) := (laws_eqTaskS.f k l0_0 l1_0).bind fun t247 => (if t247 = true then (if a0_1 = a1_1 then (some true) else (some false)) else (some false))
theorem laws_eqQueue.mono : ∀ a0 a1 a2 a3 k, LeO (laws_eqQueue.f k a0 a1 a2 a3) (laws_eqQueue.f (k + 1) a0 a1 a2 a3) := by
  intro a0 a1 a2 a3 k
  unfold laws_eqQueue.f
  repeat' first
      | (with_reducible exact laws_eqTaskS.mono _ _ _)
      | (with_reducible exact LeO.refl _)
      | (with_reducible exact LeO.none _)
      | (with_reducible refine LeO.ite ?_ ?_)
      | (with_reducible refine LeO.bind ?_ (fun _ => ?_))
      | exact laws_eqTaskS.mono _ _ _
      | exact LeO.none _
      | refine LeO.ite ?_ ?_
      | refine LeO.bind ?_ (fun _ => ?_)
set_option maxHeartbeats 8000000 in
set_option maxRecDepth 100000 in
theorem laws_eqQueue.calls (k : Nat) (A0_0 : Option Addr) (c0_0 : Nat) (l0_0 : List (S51)) (a0_1 : Int) (A1_0 : Option Addr) (c1_0 : Nat) (l1_0 : List (S51)) (a1_1 : Int) (r : Bool) (w : World) (hr0_0 : Kd.C k51 w A0_0 l0_0.length l0_0) (hc0_0 : l0_0.length ≤ c0_0) (hr1_0 : Kd.C k51 w A1_0 l1_0.length l1_0) (hc1_0 : l1_0.length ≤ c1_0) (h : laws_eqQueue.f k l0_0 a0_1 l1_0 a1_1 = some r) :
    Calls Try.prog 8 #[.agg #[.slice A0_0 l0_0.length c0_0, .int .i64 a0_1], .agg #[.slice A1_0 l1_0.length c1_0, .int .i64 a1_1]] w fun e w' => e = .returned (.bool r) ∧ Below w.heap.size w w' := by
  have hu28 := Try.underlying28
  have HR0_0 := AM hr0_0
  have HC0_0 := AM hc0_0
  clear hr0_0 hc0_0
  have HR1_0 := AM hr1_0
  have HC1_0 := AM hc1_0
  clear hr1_0 hc1_0
  have HB := AM (Below.refl w.heap.size w)
  have H : ((laws_eqTaskS.f k l0_0 l1_0).bind fun t247 => (if t247 = true then (if a0_1 = a1_1 then (some true) else (some false)) else (some false))) = some r := h
  clear h
  replace H := Option.bind_eq_some_iff.mp H
  obtain ⟨t247, A30, H⟩ := H
  replace H : (if t247 = true then (if a0_1 = a1_1 then (some true) else (some false)) else (some false)) = some r := H
  have A3 := AM A30
  clear A30
  by_cases c4 : t247 = true
  · subst c4
    have H1 : (if a0_1 = a1_1 then (some true) else (some false)) = some r := by rw [if_pos rfl] at H; exact H
    clear H
    have H := H1
    clear H1
    by_cases c5 : a0_1 = a1_1
    · rw [if_pos c5] at H
      have c5b0 : (a0_1 == a1_1) = true := beq_iff_eq.mpr c5
      have c5b1 : (a0_1 != a1_1) = false := bne_eq_false_iff_eq.mpr c5
      clear c5
      obtain rfl := Option.some.inj H
      go_enter Try.func8, Try.ntmps8
      go_wp2_with (first | ((with_reducible refine gd (N := 2) rfl ?_); refine xe ?hg (N := 2) ?hd (cs := #[.slice A0_0 l0_0.length c0_0, .int .i64 a0_1]) (t := 28) ?hr ?_; (case hd => rfl); (case hg => rfl); (case hr => first | (go_simp; done) | (go_simp; rfl)); intro gb245 hg w6 hbox hb; have n0_ := AM (bp (lfB HB.out) hb); have n1_ := AM (hbox); have n2_ := AM ((by rw [hg]; exact (bz (lfB HB.out)) : w.heap.size ≤ gb245)); have n3_ := AM ((by rw [hg]; exact (bz (lfB HB.out)) : w.heap.size ≤ gb245)); clear HB; revert n0_ n1_ n2_ n3_; intro HB BK245 GW245 GE245; clear hb hbox hg) | ((with_reducible refine gd (N := 3) rfl ?_); refine xe ?hg (N := 3) ?hd (cs := #[.slice A1_0 l1_0.length c1_0, .int .i64 a1_1]) (t := 28) ?hr ?_; (case hd => rfl); (case hg => rfl); (case hr => first | (go_simp; done) | (go_simp; rfl)); intro gb246 hg w7 hbox hb; have n0_ := AM (kb (g := gb245) (o := .cells #[.slice A0_0 l0_0.length c0_0, .int .i64 a0_1] 28 (0, 0)) (lfK BK245.out) hb); have n1_ := AM (bp (by repeat (first | (with_reducible first | exact HB.out | apply ba | apply bn | apply bd | refine bs ?_ GE245.out) | exact HB.out)) hb); have n2_ := AM (hbox); have n3_ := AM ((by rw [hg]; exact (bz (by repeat (first | (with_reducible first | exact HB.out | apply ba | apply bn | apply bd | refine bs ?_ GE245.out) | exact HB.out))) : w.heap.size ≤ gb246)); have n4_ := AM ((by rw [hg]; exact (bz (by repeat (first | (with_reducible first | exact HB.out | apply ba | apply bn | apply bd | refine bs ?_ GE245.out) | exact HB.out))) : w.heap.size ≤ gb246)); have n5_ := AM ((by rw [hg]; exact Nat.ne_of_lt (blk_lt (g := gb245) (o := .cells #[.slice A0_0 l0_0.length c0_0, .int .i64 a0_1] 28 (0, 0)) (lfK BK245.out)) : gb245 ≠ gb246)); have n6_ := AM ((by rw [hg]; exact Nat.ne_of_gt (blk_lt (g := gb245) (o := .cells #[.slice A0_0 l0_0.length c0_0, .int .i64 a0_1] 28 (0, 0)) (lfK BK245.out)) : gb246 ≠ gb245)); clear BK245 HB; revert n0_ n1_ n2_ n3_ n4_ n5_ n6_; intro BK245 HB BK246 GW246 GE246 NB245_246 NB246_245; clear hb hbox hg; have hnb8 := NB245_246.out; have hnc8 := NB246_245.out; have hcz9_0 : w7.cell? ⟨gb245, 0, none⟩ = some (.slice A0_0 l0_0.length c0_0) := (kc BK245.out 0).trans rfl; have hcz9_1 : w7.cell? ⟨gb245, 1, none⟩ = some (.int .i64 a0_1) := (kc BK245.out 1).trans rfl; have hfz9_0 := kz BK245.out 0; have hfz9_1 := kz BK245.out 1; have hcz10_0 : w7.cell? ⟨gb246, 0, none⟩ = some (.slice A1_0 l1_0.length c1_0) := (kc BK246.out 0).trans rfl; have hcz10_1 : w7.cell? ⟨gb246, 1, none⟩ = some (.int .i64 a1_1) := (kc BK246.out 1).trans rfl; have hfz10_0 := kz BK246.out 0; have hfz10_1 := kz BK246.out 1) | ((with_reducible refine gc (f := 24) rfl ?_); refine goesL_ (some 9) rfl rfl Try.func24 (by kernel_rfl) rfl #[.slice A0_0 l0_0.length c0_0, .slice A1_0 l1_0.length c1_0] rfl (by (try simp only [List.map_toArray, List.map_cons, List.map_nil]); first | done | rfl | (simp only [List.length_drop, List.length_take]; rfl)) ?_; (with_reducible refine (laws_eqTaskS.calls k _ _ l0_0 _ _ l1_0 true _ ?side1 ?side2 ?side3 ?side4 A3.out).mono ?_); (case side1 => repeat (first | exact (Cb HR0_0.out HB.out) | (with_reducible refine Ca ?_ _) | (with_reducible refine Cn ?_ _) | (with_reducible refine Cd ?_))); (case side2 => exact HC0_0.out); (case side3 => repeat (first | exact (Cb HR1_0.out HB.out) | (with_reducible refine Ca ?_ _) | (with_reducible refine Cn ?_ _) | (with_reducible refine Cd ?_))); (case side4 => exact HC1_0.out); rintro e w11 ⟨rfl, hb⟩; refine ⟨_, rfl, ?_⟩; have n0_ := AM (kb (g := gb245) (o := .cells #[.slice A0_0 l0_0.length c0_0, .int .i64 a0_1] 28 (0, 0)) (lfK BK245.out) hb); have n1_ := AM (kb (g := gb246) (o := .cells #[.slice A1_0 l1_0.length c1_0, .int .i64 a1_1] 28 (0, 0)) (lfK BK246.out) hb); have n2_ := AM (bp (by repeat (first | (with_reducible first | exact HB.out | apply ba | apply bn | apply bd | refine bs ?_ GE245.out | refine bs ?_ GE246.out) | exact HB.out)) hb); clear BK245 BK246 HB; revert n0_ n1_ n2_; intro BK245 BK246 HB; (try clear hb); have hcz12_0 : w11.cell? ⟨gb245, 0, none⟩ = some (.slice A0_0 l0_0.length c0_0) := (kc BK245.out 0).trans rfl; have hcz12_1 : w11.cell? ⟨gb245, 1, none⟩ = some (.int .i64 a0_1) := (kc BK245.out 1).trans rfl; have hfz12_0 := kz BK245.out 0; have hfz12_1 := kz BK245.out 1; have hcz13_0 : w11.cell? ⟨gb246, 0, none⟩ = some (.slice A1_0 l1_0.length c1_0) := (kc BK246.out 0).trans rfl; have hcz13_1 : w11.cell? ⟨gb246, 1, none⟩ = some (.int .i64 a1_1) := (kc BK246.out 1).trans rfl; have hfz13_0 := kz BK246.out 0; have hfz13_1 := kz BK246.out 1))
      go_ret
      exact ⟨by first | rfl | (simp [errW_none, errW_some] <;> rfl) | (simp [*, errW_none, errW_some] <;> rfl), by repeat (first | (with_reducible first | exact HB.out | apply ba | apply bn | apply bd | refine bs ?_ GE245.out | refine bs ?_ GE246.out) | exact HB.out)⟩
    · rw [if_neg c5] at H
      have c5b0 : (a0_1 == a1_1) = false := beq_eq_false_iff_ne.mpr c5
      have c5b1 : (a0_1 != a1_1) = true := bne_iff_ne.mpr c5
      obtain rfl := Option.some.inj H
      go_enter Try.func8, Try.ntmps8
      go_wp2_with (first | ((with_reducible refine gd (N := 2) rfl ?_); refine xe ?hg (N := 2) ?hd (cs := #[.slice A0_0 l0_0.length c0_0, .int .i64 a0_1]) (t := 28) ?hr ?_; (case hd => rfl); (case hg => rfl); (case hr => first | (go_simp; done) | (go_simp; rfl)); intro gb245 hg w14 hbox hb; have n0_ := AM (bp (lfB HB.out) hb); have n1_ := AM (hbox); have n2_ := AM ((by rw [hg]; exact (bz (lfB HB.out)) : w.heap.size ≤ gb245)); have n3_ := AM ((by rw [hg]; exact (bz (lfB HB.out)) : w.heap.size ≤ gb245)); clear HB; revert n0_ n1_ n2_ n3_; intro HB BK245 GW245 GE245; clear hb hbox hg) | ((with_reducible refine gd (N := 3) rfl ?_); refine xe ?hg (N := 3) ?hd (cs := #[.slice A1_0 l1_0.length c1_0, .int .i64 a1_1]) (t := 28) ?hr ?_; (case hd => rfl); (case hg => rfl); (case hr => first | (go_simp; done) | (go_simp; rfl)); intro gb246 hg w15 hbox hb; have n0_ := AM (kb (g := gb245) (o := .cells #[.slice A0_0 l0_0.length c0_0, .int .i64 a0_1] 28 (0, 0)) (lfK BK245.out) hb); have n1_ := AM (bp (by repeat (first | (with_reducible first | exact HB.out | apply ba | apply bn | apply bd | refine bs ?_ GE245.out) | exact HB.out)) hb); have n2_ := AM (hbox); have n3_ := AM ((by rw [hg]; exact (bz (by repeat (first | (with_reducible first | exact HB.out | apply ba | apply bn | apply bd | refine bs ?_ GE245.out) | exact HB.out))) : w.heap.size ≤ gb246)); have n4_ := AM ((by rw [hg]; exact (bz (by repeat (first | (with_reducible first | exact HB.out | apply ba | apply bn | apply bd | refine bs ?_ GE245.out) | exact HB.out))) : w.heap.size ≤ gb246)); have n5_ := AM ((by rw [hg]; exact Nat.ne_of_lt (blk_lt (g := gb245) (o := .cells #[.slice A0_0 l0_0.length c0_0, .int .i64 a0_1] 28 (0, 0)) (lfK BK245.out)) : gb245 ≠ gb246)); have n6_ := AM ((by rw [hg]; exact Nat.ne_of_gt (blk_lt (g := gb245) (o := .cells #[.slice A0_0 l0_0.length c0_0, .int .i64 a0_1] 28 (0, 0)) (lfK BK245.out)) : gb246 ≠ gb245)); clear BK245 HB; revert n0_ n1_ n2_ n3_ n4_ n5_ n6_; intro BK245 HB BK246 GW246 GE246 NB245_246 NB246_245; clear hb hbox hg; have hnb16 := NB245_246.out; have hnc16 := NB246_245.out; have hcz17_0 : w15.cell? ⟨gb245, 0, none⟩ = some (.slice A0_0 l0_0.length c0_0) := (kc BK245.out 0).trans rfl; have hcz17_1 : w15.cell? ⟨gb245, 1, none⟩ = some (.int .i64 a0_1) := (kc BK245.out 1).trans rfl; have hfz17_0 := kz BK245.out 0; have hfz17_1 := kz BK245.out 1; have hcz18_0 : w15.cell? ⟨gb246, 0, none⟩ = some (.slice A1_0 l1_0.length c1_0) := (kc BK246.out 0).trans rfl; have hcz18_1 : w15.cell? ⟨gb246, 1, none⟩ = some (.int .i64 a1_1) := (kc BK246.out 1).trans rfl; have hfz18_0 := kz BK246.out 0; have hfz18_1 := kz BK246.out 1) | ((with_reducible refine gc (f := 24) rfl ?_); refine goesL_ (some 9) rfl rfl Try.func24 (by kernel_rfl) rfl #[.slice A0_0 l0_0.length c0_0, .slice A1_0 l1_0.length c1_0] rfl (by (try simp only [List.map_toArray, List.map_cons, List.map_nil]); first | done | rfl | (simp only [List.length_drop, List.length_take]; rfl)) ?_; (with_reducible refine (laws_eqTaskS.calls k _ _ l0_0 _ _ l1_0 true _ ?side1 ?side2 ?side3 ?side4 A3.out).mono ?_); (case side1 => repeat (first | exact (Cb HR0_0.out HB.out) | (with_reducible refine Ca ?_ _) | (with_reducible refine Cn ?_ _) | (with_reducible refine Cd ?_))); (case side2 => exact HC0_0.out); (case side3 => repeat (first | exact (Cb HR1_0.out HB.out) | (with_reducible refine Ca ?_ _) | (with_reducible refine Cn ?_ _) | (with_reducible refine Cd ?_))); (case side4 => exact HC1_0.out); rintro e w19 ⟨rfl, hb⟩; refine ⟨_, rfl, ?_⟩; have n0_ := AM (kb (g := gb245) (o := .cells #[.slice A0_0 l0_0.length c0_0, .int .i64 a0_1] 28 (0, 0)) (lfK BK245.out) hb); have n1_ := AM (kb (g := gb246) (o := .cells #[.slice A1_0 l1_0.length c1_0, .int .i64 a1_1] 28 (0, 0)) (lfK BK246.out) hb); have n2_ := AM (bp (by repeat (first | (with_reducible first | exact HB.out | apply ba | apply bn | apply bd | refine bs ?_ GE245.out | refine bs ?_ GE246.out) | exact HB.out)) hb); clear BK245 BK246 HB; revert n0_ n1_ n2_; intro BK245 BK246 HB; (try clear hb); have hcz20_0 : w19.cell? ⟨gb245, 0, none⟩ = some (.slice A0_0 l0_0.length c0_0) := (kc BK245.out 0).trans rfl; have hcz20_1 : w19.cell? ⟨gb245, 1, none⟩ = some (.int .i64 a0_1) := (kc BK245.out 1).trans rfl; have hfz20_0 := kz BK245.out 0; have hfz20_1 := kz BK245.out 1; have hcz21_0 : w19.cell? ⟨gb246, 0, none⟩ = some (.slice A1_0 l1_0.length c1_0) := (kc BK246.out 0).trans rfl; have hcz21_1 : w19.cell? ⟨gb246, 1, none⟩ = some (.int .i64 a1_1) := (kc BK246.out 1).trans rfl; have hfz21_0 := kz BK246.out 0; have hfz21_1 := kz BK246.out 1))
      go_ret
      exact ⟨by first | rfl | (simp [errW_none, errW_some] <;> rfl) | (simp [*, errW_none, errW_some] <;> rfl), by repeat (first | (with_reducible first | exact HB.out | apply ba | apply bn | apply bd | refine bs ?_ GE245.out | refine bs ?_ GE246.out) | exact HB.out)⟩
  · replace c4 := Bool.eq_false_iff.mpr c4
    subst c4
    have H1 : (some false) = some r := by rw [if_neg (show ¬ (false = true) by decide)] at H; exact H
    clear H
    have H := H1
    clear H1
    obtain rfl := Option.some.inj H
    go_enter Try.func8, Try.ntmps8
    go_wp2_with (first | ((with_reducible refine gd (N := 2) rfl ?_); refine xe ?hg (N := 2) ?hd (cs := #[.slice A0_0 l0_0.length c0_0, .int .i64 a0_1]) (t := 28) ?hr ?_; (case hd => rfl); (case hg => rfl); (case hr => first | (go_simp; done) | (go_simp; rfl)); intro gb245 hg w22 hbox hb; have n0_ := AM (bp (lfB HB.out) hb); have n1_ := AM (hbox); have n2_ := AM ((by rw [hg]; exact (bz (lfB HB.out)) : w.heap.size ≤ gb245)); have n3_ := AM ((by rw [hg]; exact (bz (lfB HB.out)) : w.heap.size ≤ gb245)); clear HB; revert n0_ n1_ n2_ n3_; intro HB BK245 GW245 GE245; clear hb hbox hg) | ((with_reducible refine gd (N := 3) rfl ?_); refine xe ?hg (N := 3) ?hd (cs := #[.slice A1_0 l1_0.length c1_0, .int .i64 a1_1]) (t := 28) ?hr ?_; (case hd => rfl); (case hg => rfl); (case hr => first | (go_simp; done) | (go_simp; rfl)); intro gb246 hg w23 hbox hb; have n0_ := AM (kb (g := gb245) (o := .cells #[.slice A0_0 l0_0.length c0_0, .int .i64 a0_1] 28 (0, 0)) (lfK BK245.out) hb); have n1_ := AM (bp (by repeat (first | (with_reducible first | exact HB.out | apply ba | apply bn | apply bd | refine bs ?_ GE245.out) | exact HB.out)) hb); have n2_ := AM (hbox); have n3_ := AM ((by rw [hg]; exact (bz (by repeat (first | (with_reducible first | exact HB.out | apply ba | apply bn | apply bd | refine bs ?_ GE245.out) | exact HB.out))) : w.heap.size ≤ gb246)); have n4_ := AM ((by rw [hg]; exact (bz (by repeat (first | (with_reducible first | exact HB.out | apply ba | apply bn | apply bd | refine bs ?_ GE245.out) | exact HB.out))) : w.heap.size ≤ gb246)); have n5_ := AM ((by rw [hg]; exact Nat.ne_of_lt (blk_lt (g := gb245) (o := .cells #[.slice A0_0 l0_0.length c0_0, .int .i64 a0_1] 28 (0, 0)) (lfK BK245.out)) : gb245 ≠ gb246)); have n6_ := AM ((by rw [hg]; exact Nat.ne_of_gt (blk_lt (g := gb245) (o := .cells #[.slice A0_0 l0_0.length c0_0, .int .i64 a0_1] 28 (0, 0)) (lfK BK245.out)) : gb246 ≠ gb245)); clear BK245 HB; revert n0_ n1_ n2_ n3_ n4_ n5_ n6_; intro BK245 HB BK246 GW246 GE246 NB245_246 NB246_245; clear hb hbox hg; have hnb24 := NB245_246.out; have hnc24 := NB246_245.out; have hcz25_0 : w23.cell? ⟨gb245, 0, none⟩ = some (.slice A0_0 l0_0.length c0_0) := (kc BK245.out 0).trans rfl; have hcz25_1 : w23.cell? ⟨gb245, 1, none⟩ = some (.int .i64 a0_1) := (kc BK245.out 1).trans rfl; have hfz25_0 := kz BK245.out 0; have hfz25_1 := kz BK245.out 1; have hcz26_0 : w23.cell? ⟨gb246, 0, none⟩ = some (.slice A1_0 l1_0.length c1_0) := (kc BK246.out 0).trans rfl; have hcz26_1 : w23.cell? ⟨gb246, 1, none⟩ = some (.int .i64 a1_1) := (kc BK246.out 1).trans rfl; have hfz26_0 := kz BK246.out 0; have hfz26_1 := kz BK246.out 1) | ((with_reducible refine gc (f := 24) rfl ?_); refine goesL_ (some 9) rfl rfl Try.func24 (by kernel_rfl) rfl #[.slice A0_0 l0_0.length c0_0, .slice A1_0 l1_0.length c1_0] rfl (by (try simp only [List.map_toArray, List.map_cons, List.map_nil]); first | done | rfl | (simp only [List.length_drop, List.length_take]; rfl)) ?_; (with_reducible refine (laws_eqTaskS.calls k _ _ l0_0 _ _ l1_0 false _ ?side1 ?side2 ?side3 ?side4 A3.out).mono ?_); (case side1 => repeat (first | exact (Cb HR0_0.out HB.out) | (with_reducible refine Ca ?_ _) | (with_reducible refine Cn ?_ _) | (with_reducible refine Cd ?_))); (case side2 => exact HC0_0.out); (case side3 => repeat (first | exact (Cb HR1_0.out HB.out) | (with_reducible refine Ca ?_ _) | (with_reducible refine Cn ?_ _) | (with_reducible refine Cd ?_))); (case side4 => exact HC1_0.out); rintro e w27 ⟨rfl, hb⟩; refine ⟨_, rfl, ?_⟩; have n0_ := AM (kb (g := gb245) (o := .cells #[.slice A0_0 l0_0.length c0_0, .int .i64 a0_1] 28 (0, 0)) (lfK BK245.out) hb); have n1_ := AM (kb (g := gb246) (o := .cells #[.slice A1_0 l1_0.length c1_0, .int .i64 a1_1] 28 (0, 0)) (lfK BK246.out) hb); have n2_ := AM (bp (by repeat (first | (with_reducible first | exact HB.out | apply ba | apply bn | apply bd | refine bs ?_ GE245.out | refine bs ?_ GE246.out) | exact HB.out)) hb); clear BK245 BK246 HB; revert n0_ n1_ n2_; intro BK245 BK246 HB; (try clear hb)))
    go_ret
    exact ⟨by first | rfl | (simp [errW_none, errW_some] <;> rfl) | (simp [*, errW_none, errW_some] <;> rfl), by repeat (first | (with_reducible first | exact HB.out | apply ba | apply bn | apply bd | refine bs ?_ GE245.out | refine bs ?_ GE246.out) | exact HB.out)⟩

end Go.Proofs.Ytfbdkjdockbfdab.GQ
