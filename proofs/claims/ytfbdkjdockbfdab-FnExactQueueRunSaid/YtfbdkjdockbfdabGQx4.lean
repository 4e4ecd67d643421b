-- Written by this session's program hp.py (over the kit's printer) and out of its own hand texts. Not trusted: Lean checks it.
import Derived.Test.YtfbdkjdockbfdabGQx0
import Derived.Test.YtfbdkjdockbfdabGQx1
import Derived.Test.YtfbdkjdockbfdabGQx2
import Derived.Test.YtfbdkjdockbfdabGQx3
namespace Go.Proofs.Ytfbdkjdockbfdab.GQ
open Go.RowKit Go.Proofs.YtfbdkjdockbfdabW.PrintWords Go.Proofs.YtfbdkjdockbfdabW.PrintLast Go.Proofs.YtfbdkjdockbfdabW.PrintMore
attribute [local go_sem] max2_int min2_int max_two min_two max_three min_three max_four min_four   -- for this text's walks alone
set_option linter.unusedVariables false
set_option linter.unusedSimpArgs false

/-! ### spec_QueueRun: function 5 -/
open Go.Proofs.YtfbdkjdockbfdabW.PrintWords.Aside0 renaming mk → AM
open Go.Proofs.YtfbdkjdockbfdabW.PrintWords renaming below_alloc → ba, pw_below_drewN → bn, below_drew1 → bd, below_set → bs, blk_drewN → kn, blk_drew → kd, blk_alloc → ka, blk_far → kf, blk_cell → kc, blk_frozen → kz, blk_below → kb, below_size → bz, below_step → bp, box_event → xe, gate_callee → gc, gate_dst → gd
open Go.Proofs.YtfbdkjdockbfdabW.PrintWords.Kd renaming R_alloc → Ra, R_drewN → Rn, R_drew → Rd, R_mono → Rm, R_below → Rb, R_far → Rf, R_types → Rt, R_lower → Rl, C_alloc → Ca, C_drewN → Cn, C_drew → Cd, C_below → Cb, R_elder' → Re, R_lt → Rq, R_base → Rs, R_new' → Rw, R_slice → Ri
mutual
def spec_QueueRun.j0 : Nat → Int → Bool → List (S51) → Int → Option ((List (S51)) × Int × List Int × Bool)
  | 0, _, _, _, _ => none
  | k + 1, x1, x19, x133000, x133001 => if x19 = true then (some (([] : List (S51)), 0, (([] : List Int)), false)) else ((spec_l11Copy.f x133000 x133001).bind fun bt139 => (spec_QueueRun.l0 k x1 (([] : List Int)) 0 bt139.1 bt139.2))
def spec_QueueRun.l0 : Nat → Int → List Int → Int → List (S51) → Int → Option ((List (S51)) × Int × List Int × Bool)
  | 0, _, _, _, _, _ => none
  | k + 1, x1, x8, x9, x144000, x144001 => if x9 < x1 then ((spec_l11Tick.f k x144000 x144001).bind fun bt147 => (if bt147.2.2 < 0 then (some (([] : List (S51)), 0, (([] : List Int)), false)) else (if x8.length < 17592186044416 then (spec_QueueRun.l0 k x1 (x8 ++ [bt147.2.2]) (wrap64 (x9 + 1)) bt147.1 bt147.2.1) else (none)))) else (some (x144000, x144001, x8, true))
end
def spec_QueueRun.f (k : Nat) (l0_0 : List (S51)) (a0_1 : Int) (a1 : Int) : Option ((List (S51)) × Int × List Int × Bool) := (spec_QueueOk.f k l0_0 a0_1).bind fun t134 => (if t134 = true then ((spec_l6In.f a1 0 1000).bind fun t135 => (spec_QueueRun.j0 k a1 (!t135) l0_0 a0_1)) else (spec_QueueRun.j0 k a1 true l0_0 a0_1))
theorem spec_QueueRun.mono_l : ∀ k, (∀ y0 y1 y2 y3, LeO (spec_QueueRun.j0 k y0 y1 y2 y3) (spec_QueueRun.j0 (k + 1) y0 y1 y2 y3)) ∧ (∀ y0 y1 y2 y3 y4, LeO (spec_QueueRun.l0 k y0 y1 y2 y3 y4) (spec_QueueRun.l0 (k + 1) y0 y1 y2 y3 y4))
  | 0 => ⟨fun _ _ _ _ r h => by simp [spec_QueueRun.j0] at h, fun _ _ _ _ _ r h => by simp [spec_QueueRun.l0] at h⟩
  | k + 1 => by
    obtain ⟨ih0, ih1⟩ := spec_QueueRun.mono_l k
    refine ⟨?_, ?_⟩
    · intro y0 y1 y2 y3
      unfold spec_QueueRun.j0
      repeat' first
      | (with_reducible exact ih0 _ _ _ _)
      | (with_reducible exact ih1 _ _ _ _ _)
      | (with_reducible exact spec_QueueOk.mono _ _ _)
      | (with_reducible exact spec_l11Tick.mono _ _ _)
      | (with_reducible exact LeO.refl _)
      | (with_reducible exact LeO.none _)
      | (with_reducible refine LeO.ite ?_ ?_)
      | (with_reducible refine LeO.bind ?_ (fun _ => ?_))
      | exact ih0 _ _ _ _
      | exact ih1 _ _ _ _ _
      | exact spec_QueueOk.mono _ _ _
      | exact spec_l11Tick.mono _ _ _
      | exact LeO.none _
      | refine LeO.ite ?_ ?_
      | refine LeO.bind ?_ (fun _ => ?_)
    · intro y0 y1 y2 y3 y4
      unfold spec_QueueRun.l0
      repeat' first
      | (with_reducible exact ih0 _ _ _ _)
      | (with_reducible exact ih1 _ _ _ _ _)
      | (with_reducible exact spec_QueueOk.mono _ _ _)
      | (with_reducible exact spec_l11Tick.mono _ _ _)
      | (with_reducible exact LeO.refl _)
      | (with_reducible exact LeO.none _)
      | (with_reducible refine LeO.ite ?_ ?_)
      | (with_reducible refine LeO.bind ?_ (fun _ => ?_))
      | exact ih0 _ _ _ _
      | exact ih1 _ _ _ _ _
      | exact spec_QueueOk.mono _ _ _
      | exact spec_l11Tick.mono _ _ _
      | exact LeO.none _
      | refine LeO.ite ?_ ?_
      | refine LeO.bind ?_ (fun _ => ?_)
theorem spec_QueueRun.mono : ∀ a0 a1 a2 k, LeO (spec_QueueRun.f k a0 a1 a2) (spec_QueueRun.f (k + 1) a0 a1 a2) := by
  intro a0 a1 a2 k
  obtain ⟨ih0, ih1⟩ := spec_QueueRun.mono_l k
  unfold spec_QueueRun.f
  repeat' first
      | (with_reducible exact ih0 _ _ _ _)
      | (with_reducible exact ih1 _ _ _ _ _)
      | (with_reducible exact spec_QueueOk.mono _ _ _)
      | (with_reducible exact spec_l11Tick.mono _ _ _)
      | (with_reducible exact LeO.refl _)
      | (with_reducible exact LeO.none _)
      | (with_reducible refine LeO.ite ?_ ?_)
      | (with_reducible refine LeO.bind ?_ (fun _ => ?_))
      | exact ih0 _ _ _ _
      | exact ih1 _ _ _ _ _
      | exact spec_QueueOk.mono _ _ _
      | exact spec_l11Tick.mono _ _ _
      | exact LeO.none _
      | refine LeO.ite ?_ ?_
      | refine LeO.bind ?_ (fun _ => ?_)
set_option maxHeartbeats 8000000 in
set_option maxRecDepth 100000 in
theorem spec_QueueRun.calls (k : Nat) (A0_0 : Option Addr) (c0_0 : Nat) (l0_0 : List (S51)) (a0_1 : Int) (a1 : Int) (r1 : List (S51)) (r2 : Int) (r3 : List Int) (r4 : Bool) (w : World) (hr0_0 : Kd.C k51 w A0_0 l0_0.length l0_0) (hc0_0 : l0_0.length ≤ c0_0) (h : spec_QueueRun.f k l0_0 a0_1 a1 = some (r1, r2, r3, r4)) :
    Calls Try.prog 5 #[.agg #[.slice A0_0 l0_0.length c0_0, .int .i64 a0_1], .int .i64 a1] w fun e w' => ∃ v0_ v2_ : Value, e = .returned (.tuple #[.agg #[v0_, .int .i64 r2], v2_, .bool r4]) ∧ Kd.R k51 51 w' w.heap.size (fun _ => True) v0_ r1 ∧ Kd.R (Kd.int .i64) 3 w' w.heap.size (fun _ => True) v2_ r3 ∧ Below w.heap.size w w' := by
  have hu28 := Try.underlying28
  have HR0_0 := AM hr0_0
  have HC0_0 := AM hc0_0
  clear hr0_0 hc0_0
  have HB := AM (Below.refl w.heap.size w)
  have H : ((spec_QueueOk.f k l0_0 a0_1).bind fun t134 => (if t134 = true then ((spec_l6In.f a1 0 1000).bind fun t135 => (spec_QueueRun.j0 k a1 (!t135) l0_0 a0_1)) else (spec_QueueRun.j0 k a1 true l0_0 a0_1))) = some (r1, r2, r3, r4) := h
  clear h
  have HC3 := AM H
  clear H
  go_enter Try.func5, Try.ntmps5
  go_upto_region 1 with (first | ((with_reducible refine gd (N := 2) rfl ?_); refine xe ?hg (N := 2) ?hd (cs := #[.slice A0_0 l0_0.length c0_0, .int .i64 a0_1]) (t := 28) ?hr ?_; (case hd => rfl); (case hg => rfl); (case hr => first | (go_simp; done) | (go_simp; rfl)); intro gb132 hg w4 hbox hb; have n0_ := AM (bp (lfB HB.out) hb); have n1_ := AM (hbox); have n2_ := AM ((by rw [hg]; exact (bz (lfB HB.out)) : w.heap.size ≤ gb132)); have n3_ := AM ((by rw [hg]; exact (bz (lfB HB.out)) : w.heap.size ≤ gb132)); clear HB; revert n0_ n1_ n2_ n3_; intro HB BK132 GW132 GE132; clear hb hbox hg) | ((with_reducible refine gd (N := 4) rfl ?_); refine xe ?hg (N := 4) ?hd (cs := #[.slice none 0 0, .int .i64 0]) (t := 28) ?hr ?_; (case hd => rfl); (case hg => rfl); (case hr => first | (go_simp; done) | (go_simp; rfl)); intro gb133 hg w5 hbox hb; have n0_ := AM (kb (g := gb132) (o := .cells #[.slice A0_0 l0_0.length c0_0, .int .i64 a0_1] 28 (0, 0)) (lfK BK132.out) hb); have n1_ := AM (bp (by repeat (first | (with_reducible first | exact HB.out | apply ba | apply bn | apply bd | refine bs ?_ GE132.out) | exact HB.out)) hb); have n2_ := AM (hbox); have n3_ := AM ((by rw [hg]; exact (bz (by repeat (first | (with_reducible first | exact HB.out | apply ba | apply bn | apply bd | refine bs ?_ GE132.out) | exact HB.out))) : w.heap.size ≤ gb133)); have n4_ := AM ((by rw [hg]; exact (bz (by repeat (first | (with_reducible first | exact HB.out | apply ba | apply bn | apply bd | refine bs ?_ GE132.out) | exact HB.out))) : w.heap.size ≤ gb133)); have n5_ := AM ((by rw [hg]; exact Nat.ne_of_lt (blk_lt (g := gb132) (o := .cells #[.slice A0_0 l0_0.length c0_0, .int .i64 a0_1] 28 (0, 0)) (lfK BK132.out)) : gb132 ≠ gb133)); have n6_ := AM ((by rw [hg]; exact Nat.ne_of_gt (blk_lt (g := gb132) (o := .cells #[.slice A0_0 l0_0.length c0_0, .int .i64 a0_1] 28 (0, 0)) (lfK BK132.out)) : gb133 ≠ gb132)); clear BK132 HB; revert n0_ n1_ n2_ n3_ n4_ n5_ n6_; intro BK132 HB BK133 GW133 GE133 NB132_133 NB133_132; clear hb hbox hg))
  (try simp only [Act.put, List.setIfInBounds_toArray, List.set_cons_zero, List.set_cons_succ])
  go_cut [19] (fun v19 wc => ∃ (kq : Nat) (x19_2 : Bool), v19 = .bool x19_2 ∧ Aside0 (spec_QueueRun.j0 kq a1 x19_2 l0_0 a0_1 = some (r1, r2, r3, r4)) ∧ Aside0 (kq ≤ k) ∧ Aside0 (wc.heap[gb132]? = some (.cells #[(.slice A0_0 l0_0.length c0_0), .int .i64 a0_1] 28 (0, 0))) ∧ Aside0 (wc.heap[gb133]? = some (.cells #[(.slice none 0 0), .int .i64 0] 28 (0, 0))) ∧ Aside0 (Below w.heap.size w wc))
  case first =>
    have H := HC3.out
    clear HC3
    replace H := Option.bind_eq_some_iff.mp H
    obtain ⟨t134, A60, H⟩ := H
    replace H : (if t134 = true then ((spec_l6In.f a1 0 1000).bind fun t135 => (spec_QueueRun.j0 k a1 (!t135) l0_0 a0_1)) else (spec_QueueRun.j0 k a1 true l0_0 a0_1)) = some (r1, r2, r3, r4) := H
    have A6 := AM A60
    clear A60
    by_cases c7 : t134 = true
    · subst c7
      have H1 : ((spec_l6In.f a1 0 1000).bind fun t135 => (spec_QueueRun.j0 k a1 (!t135) l0_0 a0_1)) = some (r1, r2, r3, r4) := by rw [if_pos rfl] at H; exact H
      clear H
      have H := H1
      clear H1
      replace H := Option.bind_eq_some_iff.mp H
      obtain ⟨t135, A80, H⟩ := H
      replace H : (spec_QueueRun.j0 k a1 (!t135) l0_0 a0_1) = some (r1, r2, r3, r4) := H
      have A8 := AM A80
      clear A80
      have H' := AM H
      clear H
      have hnb9 := NB132_133.out
      have hnc9 := NB133_132.out
      have hcz10_0 : w5.cell? ⟨gb132, 0, none⟩ = some (.slice A0_0 l0_0.length c0_0) := (kc BK132.out 0).trans rfl
      have hcz10_1 : w5.cell? ⟨gb132, 1, none⟩ = some (.int .i64 a0_1) := (kc BK132.out 1).trans rfl
      have hfz10_0 := kz BK132.out 0
      have hfz10_1 := kz BK132.out 1
      go_wp2_with (first | ((with_reducible refine gc (f := 15) rfl ?_); refine goesL_ (some 13) rfl rfl Try.func15 (by kernel_rfl) rfl #[.agg #[.slice A0_0 l0_0.length c0_0, .int .i64 a0_1]] rfl (by (try simp only [List.map_toArray, List.map_cons, List.map_nil]); first | done | rfl | (simp only [List.length_drop, List.length_take]; rfl)) ?_; (with_reducible refine (spec_QueueOk.calls k _ _ l0_0 a0_1 true _ ?side1 ?side2 A6.out).mono ?_); (case side1 => repeat (first | exact (Cb HR0_0.out HB.out) | (with_reducible refine Ca ?_ _) | (with_reducible refine Cn ?_ _) | (with_reducible refine Cd ?_))); (case side2 => exact HC0_0.out); rintro e w11 ⟨rfl, hb⟩; refine ⟨_, rfl, ?_⟩; have n0_ := AM (kb (g := gb132) (o := .cells #[.slice A0_0 l0_0.length c0_0, .int .i64 a0_1] 28 (0, 0)) (lfK BK132.out) hb); have n1_ := AM (kb (g := gb133) (o := .cells #[.slice none 0 0, .int .i64 0] 28 (0, 0)) (lfK BK133.out) hb); have n2_ := AM (bp (by repeat (first | (with_reducible first | exact HB.out | apply ba | apply bn | apply bd | refine bs ?_ GE132.out | refine bs ?_ GE133.out) | exact HB.out)) hb); clear BK132 BK133 HB; revert n0_ n1_ n2_; intro BK132 BK133 HB; (try clear hb)) | (go_at_call 16; (with_reducible refine (spec_l6In.calls a1 0 1000 t135 _ A8.out).mono ?_); rintro e w' ⟨rfl, ⟨nd, rfl⟩⟩))
      go_meet
      case rel => exact ⟨_, (!t135), (by first | rfl | (simp; done) | (simp [*]; done)), H', ⟨by first | omega | exact Nat.le_refl _⟩, ⟨by (with_reducible repeat (first | refine kn ?_ _ | refine kd ?_ | refine ka ?_ _)); exact BK132.out⟩, ⟨by (with_reducible repeat (first | refine kn ?_ _ | refine kd ?_ | refine ka ?_ _)); exact BK133.out⟩, ⟨by repeat (first | (with_reducible first | exact HB.out | apply ba | apply bn | apply bd | refine bs ?_ GE132.out | refine bs ?_ GE133.out) | exact HB.out)⟩⟩
    · replace c7 := Bool.eq_false_iff.mpr c7
      subst c7
      have H1 : (spec_QueueRun.j0 k a1 true l0_0 a0_1) = some (r1, r2, r3, r4) := by rw [if_neg (show ¬ (false = true) by decide)] at H; exact H
      clear H
      have H := H1
      clear H1
      have H' := AM H
      clear H
      have hnb12 := NB132_133.out
      have hnc12 := NB133_132.out
      have hcz13_0 : w5.cell? ⟨gb132, 0, none⟩ = some (.slice A0_0 l0_0.length c0_0) := (kc BK132.out 0).trans rfl
      have hcz13_1 : w5.cell? ⟨gb132, 1, none⟩ = some (.int .i64 a0_1) := (kc BK132.out 1).trans rfl
      have hfz13_0 := kz BK132.out 0
      have hfz13_1 := kz BK132.out 1
      go_wp2_with (first | ((with_reducible refine gc (f := 15) rfl ?_); refine goesL_ (some 13) rfl rfl Try.func15 (by kernel_rfl) rfl #[.agg #[.slice A0_0 l0_0.length c0_0, .int .i64 a0_1]] rfl (by (try simp only [List.map_toArray, List.map_cons, List.map_nil]); first | done | rfl | (simp only [List.length_drop, List.length_take]; rfl)) ?_; (with_reducible refine (spec_QueueOk.calls k _ _ l0_0 a0_1 false _ ?side1 ?side2 A6.out).mono ?_); (case side1 => repeat (first | exact (Cb HR0_0.out HB.out) | (with_reducible refine Ca ?_ _) | (with_reducible refine Cn ?_ _) | (with_reducible refine Cd ?_))); (case side2 => exact HC0_0.out); rintro e w14 ⟨rfl, hb⟩; refine ⟨_, rfl, ?_⟩; have n0_ := AM (kb (g := gb132) (o := .cells #[.slice A0_0 l0_0.length c0_0, .int .i64 a0_1] 28 (0, 0)) (lfK BK132.out) hb); have n1_ := AM (kb (g := gb133) (o := .cells #[.slice none 0 0, .int .i64 0] 28 (0, 0)) (lfK BK133.out) hb); have n2_ := AM (bp (by repeat (first | (with_reducible first | exact HB.out | apply ba | apply bn | apply bd | refine bs ?_ GE132.out | refine bs ?_ GE133.out) | exact HB.out)) hb); clear BK132 BK133 HB; revert n0_ n1_ n2_; intro BK132 BK133 HB; (try clear hb)))
      go_meet
      case rel => exact ⟨_, (true), (by first | rfl | (simp; done) | (simp [*]; done)), H', ⟨by first | omega | exact Nat.le_refl _⟩, ⟨by (with_reducible repeat (first | refine kn ?_ _ | refine kd ?_ | refine ka ?_ _)); exact BK132.out⟩, ⟨by (with_reducible repeat (first | refine kn ?_ _ | refine kd ?_ | refine ka ?_ _)); exact BK133.out⟩, ⟨by repeat (first | (with_reducible first | exact HB.out | apply ba | apply bn | apply bd | refine bs ?_ GE132.out | refine bs ?_ GE133.out) | exact HB.out)⟩⟩
  case rest =>
    clear HC3
    obtain ⟨kq, x19_2, rfl, HA, HJ2, BK132, BK133, HB⟩ := hcut
    cases kq with
    | zero => exact absurd HA.out (by simp [spec_QueueRun.j0])
    | succ kj2 =>
      have H := HA.out
      clear HA
      simp only [spec_QueueRun.j0] at H
      by_cases c15 : x19_2 = true
      · subst c15
        have H1 : (some (([] : List (S51)), 0, (([] : List Int)), false)) = some (r1, r2, r3, r4) := by rw [if_pos rfl] at H; exact H
        clear H
        have H := H1
        clear H1
        obtain ⟨y136, hy136⟩ : ∃ y_ : List Int, y_ = (([] : List Int)) := ⟨_, rfl⟩
        replace H : (some (([] : List (S51)), 0, y136, false)) = some (r1, r2, r3, r4) := by first | (rw [hy136]; with_reducible exact H) | (have H2_ := (Option.bind_some _ _).symm.trans H; rw [hy136]; with_reducible exact H2_) | (have H2_ := (Option.bind_some _ _).symm.trans H; with_reducible exact H2_) | with_reducible exact H | (rw [hy136]; exact H) | exact H
        have Ny136 := AM hy136
        clear hy136
        simp only [Option.some.injEq, Prod.mk.injEq] at H
        obtain ⟨rfl, rfl, rfl, rfl⟩ := H
        go_wp2_with (first | ((with_reducible refine gd (N := 21) rfl ?_); refine Kd.R_lit (Kd.int .i64) _ 3 ?hg (N := 21) ?hd (xs := ([] : List Int)) (inner := []) (ok := fun _ => True) (okp := fun _ => True) ?hr ?hp (fun _ hk => hk) trivial (Below.refl _ _) (Nat.le_refl _) (by simp) ?_; (case hd => rfl); (case hg => rfl); (case hr => first | (go_simp; done) | (go_simp; rfl)); (case hp => exact (Reps.none _ _)); intro v137 w16 ho17 hb hg_ hnew_; clear hg_ hnew_; (first | rw [← Ny136.out] at ho17 | (simp only [Int.reduceToNat] at ho17; rw [← Ny136.out] at ho17)); have n0_ := AM (Rl ho17 (bz (by repeat (first | (with_reducible first | exact HB.out | apply ba | apply bn | apply bd | refine bs ?_ GE132.out | refine bs ?_ GE133.out) | exact HB.out)))); have n1_ := AM (kb (g := gb132) (o := .cells #[.slice A0_0 l0_0.length c0_0, .int .i64 a0_1] 28 (0, 0)) (lfK BK132.out) hb); have n2_ := AM (kb (g := gb133) (o := .cells #[.slice none 0 0, .int .i64 0] 28 (0, 0)) (lfK BK133.out) hb); have n3_ := AM (bp (by repeat (first | (with_reducible first | exact HB.out | apply ba | apply bn | apply bd | refine bs ?_ GE132.out | refine bs ?_ GE133.out) | exact HB.out)) hb); clear BK132 BK133 HB; revert n0_ n1_ n2_ n3_; intro HO138 BK132 BK133 HB; clear hb ho17; have hnb18 := NB133_132.out; have hnc18 := NB132_133.out; have hcz19_0 : w16.cell? ⟨gb133, 0, none⟩ = some (.slice none 0 0) := (kc BK133.out 0).trans rfl; have hcz19_1 : w16.cell? ⟨gb133, 1, none⟩ = some (.int .i64 0) := (kc BK133.out 1).trans rfl; have hfz19_0 := kz BK133.out 0; have hfz19_1 := kz BK133.out 1))
        refine bodyPost_ret (results_ctt rfl _ _ gb133 28 #[.slice none 0 0, .int .i64 0] (0, 0) _ rfl (by (with_reducible repeat (first | refine kn ?_ _ | refine kd ?_ | refine ka ?_ _)); refine blk_put (cs := #[.slice none 0 0, .int .i64 0]) ?_ 1 _ rfl; (with_reducible repeat (first | refine kn ?_ _ | refine kd ?_ | refine ka ?_ _)); refine blk_put (cs := #[.slice none 0 0, .int .i64 0]) ?_ 0 _ rfl; (with_reducible repeat (first | refine kn ?_ _ | refine kd ?_ | refine ka ?_ _)); exact BK133.out) Try.underlying28 rfl (by kernel_rfl)) rfl ?_
        exact ⟨_, _, by first | rfl | (simp [errW_none, errW_some] <;> rfl) | (simp [*, errW_none, errW_some] <;> rfl), by first | exact Kd.R_nil _ _ _ _ _ | exact Kd.N_nil _ _ _ _ _ | exact Kd.V_nil _ _ _ _ _ | exact Kd.Q_nil _ _ _ _ _ | exact Kd.S_nil _ _ _ _ _, by (with_reducible repeat (first | apply Ra | apply Rn | apply Rd)); exact Rm (Rf (p := ⟨gb133, 1, none⟩) (Rf (p := ⟨gb133, 0, none⟩) (Rt HO138.out BK133.out (by decide)) (fun _ hk => hk.2) (.slice none 0 0)) (fun _ hk => hk.2) (.int .i64 0)) (fun _ hk => trivial), by repeat (first | (with_reducible first | exact HB.out | apply ba | apply bn | apply bd | refine bs ?_ GE132.out | refine bs ?_ GE133.out) | exact HB.out)⟩
      · replace c15 := Bool.eq_false_iff.mpr c15
        subst c15
        have H1 : ((spec_l11Copy.f l0_0 a0_1).bind fun bt139 => (spec_QueueRun.l0 kj2 a1 (([] : List Int)) 0 bt139.1 bt139.2)) = some (r1, r2, r3, r4) := by rw [if_neg (show ¬ (false = true) by decide)] at H; exact H
        clear H
        have H := H1
        clear H1
        replace H := Option.bind_eq_some_iff.mp H
        obtain ⟨⟨t139, t142⟩, A200, H⟩ := H
        replace H : (spec_QueueRun.l0 kj2 a1 (([] : List Int)) 0 t139 t142) = some (r1, r2, r3, r4) := H
        have A20 := AM A200
        clear A200
        obtain ⟨y144, hy144⟩ : ∃ y_ : List Int, y_ = (([] : List Int)) := ⟨_, rfl⟩
        replace H : (spec_QueueRun.l0 kj2 a1 y144 0 t139 t142) = some (r1, r2, r3, r4) := by first | (rw [hy144]; with_reducible exact H) | (have H2_ := (Option.bind_some _ _).symm.trans H; rw [hy144]; with_reducible exact H2_) | (have H2_ := (Option.bind_some _ _).symm.trans H; with_reducible exact H2_) | with_reducible exact H | (rw [hy144]; exact H) | exact H
        have Ny144 := AM hy144
        clear hy144
        have H' := AM H
        clear H
        have hnb21 := NB132_133.out
        have hnc21 := NB133_132.out
        have hcz22_0 : wc.cell? ⟨gb132, 0, none⟩ = some (.slice A0_0 l0_0.length c0_0) := (kc BK132.out 0).trans rfl
        have hcz22_1 : wc.cell? ⟨gb132, 1, none⟩ = some (.int .i64 a0_1) := (kc BK132.out 1).trans rfl
        have hfz22_0 := kz BK132.out 0
        have hfz22_1 := kz BK132.out 1
        go_wp2_with (first | ((with_reducible refine gc (f := 17) rfl ?_); refine goesL_ (some 23) rfl rfl Try.func17 (by kernel_rfl) rfl #[.agg #[.slice A0_0 l0_0.length c0_0, .int .i64 a0_1]] rfl (by (try simp only [List.map_toArray, List.map_cons, List.map_nil]); first | done | rfl | (simp only [List.length_drop, List.length_take]; rfl)) ?_; (with_reducible refine (spec_l11Copy.calls _ _ l0_0 a0_1 t139 t142 _ ?side1 ?side2 A20.out).mono ?_); (case side1 => repeat (first | exact (Cb HR0_0.out HB.out) | (with_reducible refine Ca ?_ _) | (with_reducible refine Cn ?_ _) | (with_reducible refine Cd ?_))); (case side2 => exact HC0_0.out); rintro e w23 ⟨v140, rfl, ho0, hb⟩; refine ⟨_, rfl, ?_⟩; have n0_ := AM (Rl ho0 (bz (by repeat (first | (with_reducible first | exact HB.out | apply ba | apply bn | apply bd | refine bs ?_ GE132.out | refine bs ?_ GE133.out) | exact HB.out)))); have n1_ := AM (kb (g := gb132) (o := .cells #[.slice A0_0 l0_0.length c0_0, .int .i64 a0_1] 28 (0, 0)) (lfK BK132.out) hb); have n2_ := AM (kb (g := gb133) (o := .cells #[.slice none 0 0, .int .i64 0] 28 (0, 0)) (lfK BK133.out) hb); have n3_ := AM (bp (by repeat (first | (with_reducible first | exact HB.out | apply ba | apply bn | apply bd | refine bs ?_ GE132.out | refine bs ?_ GE133.out) | exact HB.out)) hb); clear BK132 BK133 HB; revert n0_ n1_ n2_ n3_; intro HO141 BK132 BK133 HB; (try clear hb ho0)) | ((with_reducible refine gd (N := 7) rfl ?_); refine xe ?hg (N := 7) ?hd (cs := #[.slice none 0 0, .int .i64 0]) (t := 28) ?hr ?_; (case hd => rfl); (case hg => rfl); (case hr => first | (go_simp; done) | (go_simp; rfl)); intro gb143 hg w24 hbox hb; have n0_ := AM (Rb (lfR HO141.out) hb); have n1_ := AM (kb (g := gb132) (o := .cells #[.slice A0_0 l0_0.length c0_0, .int .i64 a0_1] 28 (0, 0)) (lfK BK132.out) hb); have n2_ := AM (kb (g := gb133) (o := .cells #[.slice none 0 0, .int .i64 0] 28 (0, 0)) (lfK BK133.out) hb); have n3_ := AM (bp (by repeat (first | (with_reducible first | exact HB.out | apply ba | apply bn | apply bd | refine bs ?_ GE132.out | refine bs ?_ GE133.out) | exact HB.out)) hb); have n4_ := AM (hbox); have n5_ := AM ((by rw [hg]; exact (bz (by repeat (first | (with_reducible first | exact HB.out | apply ba | apply bn | apply bd | refine bs ?_ GE132.out | refine bs ?_ GE133.out) | exact HB.out))) : w.heap.size ≤ gb143)); have n6_ := AM ((by rw [hg]; exact (bz (by repeat (first | (with_reducible first | exact HB.out | apply ba | apply bn | apply bd | refine bs ?_ GE132.out | refine bs ?_ GE133.out) | exact HB.out))) : w.heap.size ≤ gb143)); have n7_ := AM ((by rw [hg]; exact Nat.ne_of_lt (blk_lt (g := gb132) (o := .cells #[.slice A0_0 l0_0.length c0_0, .int .i64 a0_1] 28 (0, 0)) (lfK BK132.out)) : gb132 ≠ gb143)); have n8_ := AM ((by rw [hg]; exact Nat.ne_of_gt (blk_lt (g := gb132) (o := .cells #[.slice A0_0 l0_0.length c0_0, .int .i64 a0_1] 28 (0, 0)) (lfK BK132.out)) : gb143 ≠ gb132)); have n9_ := AM ((by rw [hg]; exact Nat.ne_of_lt (blk_lt (g := gb133) (o := .cells #[.slice none 0 0, .int .i64 0] 28 (0, 0)) (lfK BK133.out)) : gb133 ≠ gb143)); have n10_ := AM ((by rw [hg]; exact Nat.ne_of_gt (blk_lt (g := gb133) (o := .cells #[.slice none 0 0, .int .i64 0] 28 (0, 0)) (lfK BK133.out)) : gb143 ≠ gb133)); clear HO141 BK132 BK133 HB; revert n0_ n1_ n2_ n3_ n4_ n5_ n6_ n7_ n8_ n9_ n10_; intro HO141 BK132 BK133 HB BK143 GW143 GE143 NB132_143 NB143_132 NB133_143 NB143_133; clear hb hbox hg; obtain ⟨Ao25, co25, eo25⟩ := Ri HO141.out; subst eo25; have hnb26 := NB143_132.out; have hnc26 := NB132_143.out; have hnb27 := NB143_133.out; have hnc27 := NB133_143.out; have hcz28_0 : w24.cell? ⟨gb143, 0, none⟩ = some (.slice none 0 0) := (kc BK143.out 0).trans rfl; have hcz28_1 : w24.cell? ⟨gb143, 1, none⟩ = some (.int .i64 0) := (kc BK143.out 1).trans rfl; have hfz28_0 := kz BK143.out 0; have hfz28_1 := kz BK143.out 1) | ((with_reducible refine gd (N := 24) rfl ?_); refine Kd.R_lit (Kd.int .i64) _ 3 ?hg (N := 24) ?hd (xs := ([] : List Int)) (inner := []) (ok := fun _ => True) (okp := fun _ => True) ?hr ?hp (fun _ hk => hk) trivial (Below.refl _ _) (Nat.le_refl _) (by simp) ?_; (case hd => rfl); (case hg => rfl); (case hr => first | (go_simp; done) | (go_simp; rfl)); (case hp => exact (Reps.none _ _)); intro v145 w29 ho30 hb hg_ hnew_; clear hg_ hnew_; (first | rw [← Ny144.out] at ho30 | (simp only [Int.reduceToNat] at ho30; rw [← Ny144.out] at ho30)); have n0_ := AM (Rb (by (with_reducible repeat (first | apply Ra | apply Rn | apply Rd)); exact (Rm (Rf (p := ⟨gb143, 1, none⟩) (Rf (p := ⟨gb143, 0, none⟩) (Rt HO141.out BK143.out (by decide)) (fun _ hk => hk.2) (.slice Ao25 t139.length co25)) (fun _ hk => hk.2) (.int .i64 t142)) (fun _ h_ => h_.1))) hb); have n1_ := AM (Rl ho30 (bz (by repeat (first | (with_reducible first | exact HB.out | apply ba | apply bn | apply bd | refine bs ?_ GE132.out | refine bs ?_ GE133.out | refine bs ?_ GE143.out) | exact HB.out)))); have n2_ := AM (kb (g := gb132) (o := .cells #[.slice A0_0 l0_0.length c0_0, .int .i64 a0_1] 28 (0, 0)) (by (with_reducible repeat (first | refine kn ?_ _ | refine kd ?_ | refine ka ?_ _)); refine kf ?_ NB132_143.out _; (with_reducible repeat (first | refine kn ?_ _ | refine kd ?_ | refine ka ?_ _)); refine kf ?_ NB132_143.out _; (with_reducible repeat (first | refine kn ?_ _ | refine kd ?_ | refine ka ?_ _)); exact BK132.out) hb); have n3_ := AM (kb (g := gb133) (o := .cells #[.slice none 0 0, .int .i64 0] 28 (0, 0)) (by (with_reducible repeat (first | refine kn ?_ _ | refine kd ?_ | refine ka ?_ _)); refine kf ?_ NB133_143.out _; (with_reducible repeat (first | refine kn ?_ _ | refine kd ?_ | refine ka ?_ _)); refine kf ?_ NB133_143.out _; (with_reducible repeat (first | refine kn ?_ _ | refine kd ?_ | refine ka ?_ _)); exact BK133.out) hb); have n4_ := AM (kb (g := gb143) (o := .cells #[.slice Ao25 t139.length co25, .int .i64 t142] 28 (0, 0)) (by (with_reducible repeat (first | refine kn ?_ _ | refine kd ?_ | refine ka ?_ _)); refine blk_put (cs := #[.slice Ao25 t139.length co25, .int .i64 0]) ?_ 1 _ rfl; (with_reducible repeat (first | refine kn ?_ _ | refine kd ?_ | refine ka ?_ _)); refine blk_put (cs := #[.slice none 0 0, .int .i64 0]) ?_ 0 _ rfl; (with_reducible repeat (first | refine kn ?_ _ | refine kd ?_ | refine ka ?_ _)); exact BK143.out) hb); have n5_ := AM (bp (by repeat (first | (with_reducible first | exact HB.out | apply ba | apply bn | apply bd | refine bs ?_ GE132.out | refine bs ?_ GE133.out | refine bs ?_ GE143.out) | exact HB.out)) hb); clear HO141 BK132 BK133 BK143 HB; revert n0_ n1_ n2_ n3_ n4_ n5_; intro HO141 HO146 BK132 BK133 BK143 HB; clear hb ho30))
        go_loopg [8, 9] kj2 (fun kq v8 v9 w' => ∃ (x8_2 : List Int) (x9_2 : Int) (x134001_2 : Int) (x144000_2 : List (S51)) (x144001_2 : Int) (u144000 : Value), v9 = .int .i64 x9_2 ∧ Aside0 (spec_QueueRun.l0 kq a1 x8_2 x9_2 x144000_2 x144001_2 = some (r1, r2, r3, r4)) ∧ Aside0 (kq ≤ kj2) ∧ Aside0 (Kd.R (Kd.int .i64) 3 w' w.heap.size (fun _ => True) v8 x8_2) ∧ Aside0 (Kd.R k51 51 w' w.heap.size (fun _ => True) u144000 x144000_2) ∧ Aside0 (w'.heap[gb132]? = some (.cells #[(.slice A0_0 l0_0.length c0_0), .int .i64 a0_1] 28 (0, 0))) ∧ Aside0 (w'.heap[gb133]? = some (.cells #[(.slice none 0 0), .int .i64 x134001_2] 28 (0, 0))) ∧ Aside0 (w'.heap[gb143]? = some (.cells #[u144000, .int .i64 x144001_2] 28 (0, 0))) ∧ Aside0 (Below w.heap.size w w'))
        case atStart => exact ⟨(y144), (0), (0), (t139), (t142), (.slice Ao25 t139.length co25), (by first | rfl | (simp; done) | (simp [*]; done)), H', ⟨Nat.le_refl _⟩, ⟨by (with_reducible repeat (first | apply Ra | apply Rn | apply Rd)); exact HO146.out⟩, ⟨by (with_reducible repeat (first | apply Ra | apply Rn | apply Rd)); exact HO141.out⟩, ⟨by (with_reducible repeat (first | refine kn ?_ _ | refine kd ?_ | refine ka ?_ _)); exact BK132.out⟩, ⟨by (with_reducible repeat (first | refine kn ?_ _ | refine kd ?_ | refine ka ?_ _)); exact BK133.out⟩, ⟨by (with_reducible repeat (first | refine kn ?_ _ | refine kd ?_ | refine ka ?_ _)); exact BK143.out⟩, ⟨by repeat (first | (with_reducible first | exact HB.out | apply ba | apply bn | apply bd | refine bs ?_ GE132.out | refine bs ?_ GE133.out | refine bs ?_ GE143.out) | exact HB.out)⟩⟩
        case round =>
          clear H'
          try clear c15
          try clear hcz22_0
          try clear hcz22_1
          try clear hcz28_0
          try clear hcz28_1
          try clear hfz22_0
          try clear hfz22_1
          try clear hfz28_0
          try clear hfz28_1
          obtain ⟨x8_2, x9_2, x134001_2, x144000_2, x144001_2, u144000, rfl, HA, HK2, HO_8, HO_144000, BK132, BK133, BK143, HB⟩ := hrel
          cases gk with
          | zero => exact absurd HA.out (by simp [spec_QueueRun.l0])
          | succ k2 =>
            have H := HA.out
            clear HA
            simp only [spec_QueueRun.l0] at H
            by_cases c31 : x9_2 < a1
            · rw [if_pos c31] at H
              have c31b0 : decide (x9_2 < a1) = true := decide_eq_true c31
              clear c31
              replace H := Option.bind_eq_some_iff.mp H
              obtain ⟨⟨t147, t150, t151⟩, A320, H⟩ := H
              replace H : (if t151 < 0 then (some (([] : List (S51)), 0, (([] : List Int)), false)) else (if x8_2.length < 17592186044416 then (spec_QueueRun.l0 k2 a1 (x8_2 ++ [t151]) (wrap64 (x9_2 + 1)) t147 t150) else (none))) = some (r1, r2, r3, r4) := H
              have A32 := AM A320
              clear A320
              by_cases c33 : t151 < 0
              · rw [if_pos c33] at H
                have c33b0 : decide (t151 < 0) = true := decide_eq_true c33
                clear c33
                obtain ⟨y153, hy153⟩ : ∃ y_ : List Int, y_ = (([] : List Int)) := ⟨_, rfl⟩
                replace H : (some (([] : List (S51)), 0, y153, false)) = some (r1, r2, r3, r4) := by first | (rw [hy153]; with_reducible exact H) | (have H2_ := (Option.bind_some _ _).symm.trans H; rw [hy153]; with_reducible exact H2_) | (have H2_ := (Option.bind_some _ _).symm.trans H; with_reducible exact H2_) | with_reducible exact H | (rw [hy153]; exact H) | exact H
                have Ny153 := AM hy153
                clear hy153
                simp only [Option.some.injEq, Prod.mk.injEq] at H
                obtain ⟨rfl, rfl, rfl, rfl⟩ := H
                have hnb34 := NB143_132.out
                have hnc34 := NB132_143.out
                have hnb35 := NB143_133.out
                have hnc35 := NB133_143.out
                have hcz36_0 : wr.cell? ⟨gb143, 0, none⟩ = some (u144000) := (kc BK143.out 0).trans rfl
                have hcz36_1 : wr.cell? ⟨gb143, 1, none⟩ = some (.int .i64 x144001_2) := (kc BK143.out 1).trans rfl
                have hfz36_0 := kz BK143.out 0
                have hfz36_1 := kz BK143.out 1
                obtain ⟨Ao37, co37, eo37⟩ := Ri HO_144000.out
                subst eo37
                go_wp2_with (first | ((with_reducible refine gc (f := 18) rfl ?_); refine goesL_ (some 32) rfl rfl Try.func18 (by kernel_rfl) rfl #[.agg #[.slice Ao37 x144000_2.length co37, .int .i64 x144001_2]] rfl (by (try simp only [List.map_toArray, List.map_cons, List.map_nil]); first | done | rfl | (simp only [List.length_drop, List.length_take]; rfl)) ?_; (with_reducible refine (spec_l11Tick.calls k2 (fun k_ => some k_ = (.slice Ao37 x144000_2.length co37 : Value).ownBlock) (.slice Ao37 x144000_2.length co37) x144000_2 x144001_2 t147 t150 t151 w _ ?side1 ?side2 A32.out).mono ?_); (case side1 => repeat (first | (with_reducible first | exact HB.out | apply ba | apply bn | apply bd | refine bs ?_ GE132.out | refine bs ?_ GE133.out | refine bs ?_ GE143.out) | exact HB.out)); (case side2 => exact Kd.R_tight rfl HO_144000.out); rintro e w38 ⟨v148, rfl, ho0, hb, hkp⟩; refine ⟨_, rfl, ?_⟩; have n0_ := AM (Rm (ok' := fun k_ => True) (Kd.R_keptB ((Kd.R_apart' HO_8.out (Kd.R_typed HO_144000.out) (by decide))) hkp (fun k_ hk_ hs_ => (hk_.2) hs_)) (fun k_ hk_ => trivial)); have n1_ := AM (blk_kept (lfK BK132.out) hkp (fun hs_ => (fun e_ => (Kd.R_ne HO_144000.out BK132.out (by decide)) e_) hs_)); have n2_ := AM (blk_kept (lfK BK133.out) hkp (fun hs_ => (fun e_ => (Kd.R_ne HO_144000.out BK133.out (by decide)) e_) hs_)); have n3_ := AM (blk_kept (lfK BK143.out) hkp (fun hs_ => (fun e_ => (Kd.R_ne HO_144000.out BK143.out (by decide)) e_) hs_)); have n4_ := AM (Rm (ok' := fun k_ => True) ho0 (fun k_ hk_ => trivial)); have n5_ := AM (hb); clear HO_8 BK132 BK133 BK143 HB HO_144000; revert n0_ n1_ n2_ n3_ n4_ n5_; intro HO_8 BK132 BK133 BK143 HO149 HB; (try clear hb hkp ho0)) | ((with_reducible refine gd (N := 10) rfl ?_); refine xe ?hg (N := 10) ?hd (cs := #[.slice none 0 0, .int .i64 0]) (t := 28) ?hr ?_; (case hd => rfl); (case hg => rfl); (case hr => first | (go_simp; done) | (go_simp; rfl)); intro gb152 hg w39 hbox hb; have n0_ := AM (Rb (lfR HO_8.out) hb); have n1_ := AM (Rb (lfR HO149.out) hb); have n2_ := AM (kb (g := gb132) (o := .cells #[.slice A0_0 l0_0.length c0_0, .int .i64 a0_1] 28 (0, 0)) (lfK BK132.out) hb); have n3_ := AM (kb (g := gb133) (o := .cells #[.slice none 0 0, .int .i64 x134001_2] 28 (0, 0)) (lfK BK133.out) hb); have n4_ := AM (kb (g := gb143) (o := .cells #[.slice Ao37 x144000_2.length co37, .int .i64 x144001_2] 28 (0, 0)) (lfK BK143.out) hb); have n5_ := AM (bp (by repeat (first | (with_reducible first | exact HB.out | apply ba | apply bn | apply bd | refine bs ?_ GE132.out | refine bs ?_ GE133.out | refine bs ?_ GE143.out) | exact HB.out)) hb); have n6_ := AM (hbox); have n7_ := AM ((by rw [hg]; exact (bz (by repeat (first | (with_reducible first | exact HB.out | apply ba | apply bn | apply bd | refine bs ?_ GE132.out | refine bs ?_ GE133.out | refine bs ?_ GE143.out) | exact HB.out))) : w.heap.size ≤ gb152)); have n8_ := AM ((by rw [hg]; exact (bz (by repeat (first | (with_reducible first | exact HB.out | apply ba | apply bn | apply bd | refine bs ?_ GE132.out | refine bs ?_ GE133.out | refine bs ?_ GE143.out) | exact HB.out))) : w.heap.size ≤ gb152)); have n9_ := AM ((by rw [hg]; exact Nat.ne_of_lt (blk_lt (g := gb132) (o := .cells #[.slice A0_0 l0_0.length c0_0, .int .i64 a0_1] 28 (0, 0)) (lfK BK132.out)) : gb132 ≠ gb152)); have n10_ := AM ((by rw [hg]; exact Nat.ne_of_gt (blk_lt (g := gb132) (o := .cells #[.slice A0_0 l0_0.length c0_0, .int .i64 a0_1] 28 (0, 0)) (lfK BK132.out)) : gb152 ≠ gb132)); have n11_ := AM ((by rw [hg]; exact Nat.ne_of_lt (blk_lt (g := gb133) (o := .cells #[.slice none 0 0, .int .i64 x134001_2] 28 (0, 0)) (lfK BK133.out)) : gb133 ≠ gb152)); have n12_ := AM ((by rw [hg]; exact Nat.ne_of_gt (blk_lt (g := gb133) (o := .cells #[.slice none 0 0, .int .i64 x134001_2] 28 (0, 0)) (lfK BK133.out)) : gb152 ≠ gb133)); have n13_ := AM ((by rw [hg]; exact Nat.ne_of_lt (blk_lt (g := gb143) (o := .cells #[.slice Ao37 x144000_2.length co37, .int .i64 x144001_2] 28 (0, 0)) (lfK BK143.out)) : gb143 ≠ gb152)); have n14_ := AM ((by rw [hg]; exact Nat.ne_of_gt (blk_lt (g := gb143) (o := .cells #[.slice Ao37 x144000_2.length co37, .int .i64 x144001_2] 28 (0, 0)) (lfK BK143.out)) : gb152 ≠ gb143)); clear HO_8 HO149 BK132 BK133 BK143 HB; revert n0_ n1_ n2_ n3_ n4_ n5_ n6_ n7_ n8_ n9_ n10_ n11_ n12_ n13_ n14_; intro HO_8 HO149 BK132 BK133 BK143 HB BK152 GW152 GE152 NB132_152 NB152_132 NB133_152 NB152_133 NB143_152 NB152_143; clear hb hbox hg; obtain ⟨Ao40, co40, eo40⟩ := Ri HO149.out; subst eo40; have hnb41 := NB152_132.out; have hnc41 := NB132_152.out; have hnb42 := NB152_133.out; have hnc42 := NB133_152.out; have hnb43 := NB152_143.out; have hnc43 := NB143_152.out; have hcz44_0 : w39.cell? ⟨gb152, 0, none⟩ = some (.slice none 0 0) := (kc BK152.out 0).trans rfl; have hcz44_1 : w39.cell? ⟨gb152, 1, none⟩ = some (.int .i64 0) := (kc BK152.out 1).trans rfl; have hfz44_0 := kz BK152.out 0; have hfz44_1 := kz BK152.out 1) | ((with_reducible refine gd (N := 38) rfl ?_); refine Kd.R_lit (Kd.int .i64) _ 3 ?hg (N := 38) ?hd (xs := ([] : List Int)) (inner := []) (ok := fun _ => True) (okp := fun _ => True) ?hr ?hp (fun _ hk => hk) trivial (Below.refl _ _) (Nat.le_refl _) (by simp) ?_; (case hd => rfl); (case hg => rfl); (case hr => first | (go_simp; done) | (go_simp; rfl)); (case hp => exact (Reps.none _ _)); intro v154 w45 ho46 hb hg_ hnew_; clear hg_ hnew_; (first | rw [← Ny153.out] at ho46 | (simp only [Int.reduceToNat] at ho46; rw [← Ny153.out] at ho46)); have n0_ := AM (Re (by (with_reducible repeat (first | apply Ra | apply Rn | apply Rd)); exact (Rm (Rf (p := ⟨gb152, 1, none⟩) (Rf (p := ⟨gb152, 0, none⟩) (Rt HO_8.out BK152.out (by decide)) (fun _ hk => hk.2) (.slice Ao40 t147.length co40)) (fun _ hk => hk.2) (.int .i64 t150)) (fun _ h_ => h_.1))) (Rs ho46) hb); have n1_ := AM (Rb (by (with_reducible repeat (first | apply Ra | apply Rn | apply Rd)); exact (Rm (Rf (p := ⟨gb152, 1, none⟩) (Rf (p := ⟨gb152, 0, none⟩) (Rt HO149.out BK152.out (by decide)) (fun _ hk => hk.2) (.slice Ao40 t147.length co40)) (fun _ hk => hk.2) (.int .i64 t150)) (fun _ h_ => h_.1))) hb); have n2_ := AM (Rl (Rw ho46 (Rq (by (with_reducible repeat (first | apply Ra | apply Rn | apply Rd)); exact (Rm (Rf (p := ⟨gb152, 1, none⟩) (Rf (p := ⟨gb152, 0, none⟩) (Rt HO_8.out BK152.out (by decide)) (fun _ hk => hk.2) (.slice Ao40 t147.length co40)) (fun _ hk => hk.2) (.int .i64 t150)) (fun _ h_ => h_.1))))) (bz (by repeat (first | (with_reducible first | exact HB.out | apply ba | apply bn | apply bd | refine bs ?_ GE132.out | refine bs ?_ GE133.out | refine bs ?_ GE143.out | refine bs ?_ GE152.out) | exact HB.out)))); have n3_ := AM (kb (g := gb132) (o := .cells #[.slice A0_0 l0_0.length c0_0, .int .i64 a0_1] 28 (0, 0)) (by (with_reducible repeat (first | refine kn ?_ _ | refine kd ?_ | refine ka ?_ _)); refine kf ?_ NB132_152.out _; (with_reducible repeat (first | refine kn ?_ _ | refine kd ?_ | refine ka ?_ _)); refine kf ?_ NB132_152.out _; (with_reducible repeat (first | refine kn ?_ _ | refine kd ?_ | refine ka ?_ _)); exact BK132.out) hb); have n4_ := AM (kb (g := gb133) (o := .cells #[.slice none 0 0, .int .i64 x134001_2] 28 (0, 0)) (by (with_reducible repeat (first | refine kn ?_ _ | refine kd ?_ | refine ka ?_ _)); refine kf ?_ NB133_152.out _; (with_reducible repeat (first | refine kn ?_ _ | refine kd ?_ | refine ka ?_ _)); refine kf ?_ NB133_152.out _; (with_reducible repeat (first | refine kn ?_ _ | refine kd ?_ | refine ka ?_ _)); exact BK133.out) hb); have n5_ := AM (kb (g := gb143) (o := .cells #[.slice Ao37 x144000_2.length co37, .int .i64 x144001_2] 28 (0, 0)) (by (with_reducible repeat (first | refine kn ?_ _ | refine kd ?_ | refine ka ?_ _)); refine kf ?_ NB143_152.out _; (with_reducible repeat (first | refine kn ?_ _ | refine kd ?_ | refine ka ?_ _)); refine kf ?_ NB143_152.out _; (with_reducible repeat (first | refine kn ?_ _ | refine kd ?_ | refine ka ?_ _)); exact BK143.out) hb); have n6_ := AM (kb (g := gb152) (o := .cells #[.slice Ao40 t147.length co40, .int .i64 t150] 28 (0, 0)) (by (with_reducible repeat (first | refine kn ?_ _ | refine kd ?_ | refine ka ?_ _)); refine blk_put (cs := #[.slice Ao40 t147.length co40, .int .i64 0]) ?_ 1 _ rfl; (with_reducible repeat (first | refine kn ?_ _ | refine kd ?_ | refine ka ?_ _)); refine blk_put (cs := #[.slice none 0 0, .int .i64 0]) ?_ 0 _ rfl; (with_reducible repeat (first | refine kn ?_ _ | refine kd ?_ | refine ka ?_ _)); exact BK152.out) hb); have n7_ := AM (bp (by repeat (first | (with_reducible first | exact HB.out | apply ba | apply bn | apply bd | refine bs ?_ GE132.out | refine bs ?_ GE133.out | refine bs ?_ GE143.out | refine bs ?_ GE152.out) | exact HB.out)) hb); clear HO_8 HO149 BK132 BK133 BK143 BK152 HB; revert n0_ n1_ n2_ n3_ n4_ n5_ n6_ n7_; intro HO_8 HO149 HO155 BK132 BK133 BK143 BK152 HB; clear hb ho46; have hnb47 := NB133_132.out; have hnc47 := NB132_133.out; have hcz48_0 : w45.cell? ⟨gb133, 0, none⟩ = some (.slice none 0 0) := (kc BK133.out 0).trans rfl; have hcz48_1 : w45.cell? ⟨gb133, 1, none⟩ = some (.int .i64 x134001_2) := (kc BK133.out 1).trans rfl; have hfz48_0 := kz BK133.out 0; have hfz48_1 := kz BK133.out 1))
                refine bodyPost_ret (results_ctt rfl _ _ gb133 28 #[.slice none 0 0, .int .i64 0] (0, 0) _ rfl (by (with_reducible repeat (first | refine kn ?_ _ | refine kd ?_ | refine ka ?_ _)); refine blk_put (cs := #[.slice none 0 0, .int .i64 x134001_2]) ?_ 1 _ rfl; (with_reducible repeat (first | refine kn ?_ _ | refine kd ?_ | refine ka ?_ _)); refine blk_put (cs := #[.slice none 0 0, .int .i64 x134001_2]) ?_ 0 _ rfl; (with_reducible repeat (first | refine kn ?_ _ | refine kd ?_ | refine ka ?_ _)); exact BK133.out) Try.underlying28 rfl (by kernel_rfl)) rfl ?_
                exact ⟨_, _, by first | rfl | (simp [errW_none, errW_some] <;> rfl) | (simp [*, errW_none, errW_some] <;> rfl), by first | exact Kd.R_nil _ _ _ _ _ | exact Kd.N_nil _ _ _ _ _ | exact Kd.V_nil _ _ _ _ _ | exact Kd.Q_nil _ _ _ _ _ | exact Kd.S_nil _ _ _ _ _, by (with_reducible repeat (first | apply Ra | apply Rn | apply Rd)); exact Rm (Rf (p := ⟨gb133, 1, none⟩) (Rf (p := ⟨gb133, 0, none⟩) (Rt HO155.out BK133.out (by decide)) (fun _ hk => hk.2) (.slice none 0 0)) (fun _ hk => hk.2) (.int .i64 0)) (fun _ hk => trivial), by repeat (first | (with_reducible first | exact HB.out | apply ba | apply bn | apply bd | refine bs ?_ GE132.out | refine bs ?_ GE133.out | refine bs ?_ GE143.out | refine bs ?_ GE152.out) | exact HB.out)⟩
              · rw [if_neg c33] at H
                have c33b0 : decide (t151 < 0) = false := decide_eq_false c33
                clear c33
                by_cases c49 : x8_2.length < 17592186044416
                · rw [if_pos c49] at H
                  have LMc49 := AM c49
                  clear c49
                  obtain ⟨y156, hy156⟩ : ∃ y_ : List Int, y_ = (x8_2 ++ [t151]) := ⟨_, rfl⟩
                  replace H : (spec_QueueRun.l0 k2 a1 y156 (wrap64 (x9_2 + 1)) t147 t150) = some (r1, r2, r3, r4) := by first | (rw [hy156]; with_reducible exact H) | (have H2_ := (Option.bind_some _ _).symm.trans H; rw [hy156]; with_reducible exact H2_) | (have H2_ := (Option.bind_some _ _).symm.trans H; with_reducible exact H2_) | with_reducible exact H | (rw [hy156]; exact H) | exact H
                  have Ny156 := AM hy156
                  clear hy156
                  have H' := AM H
                  clear H
                  have hnb50 := NB143_132.out
                  have hnc50 := NB132_143.out
                  have hnb51 := NB143_133.out
                  have hnc51 := NB133_143.out
                  have hcz52_0 : wr.cell? ⟨gb143, 0, none⟩ = some (u144000) := (kc BK143.out 0).trans rfl
                  have hcz52_1 : wr.cell? ⟨gb143, 1, none⟩ = some (.int .i64 x144001_2) := (kc BK143.out 1).trans rfl
                  have hfz52_0 := kz BK143.out 0
                  have hfz52_1 := kz BK143.out 1
                  obtain ⟨Ao53, co53, eo53⟩ := Ri HO_144000.out
                  subst eo53
                  go_wp2_with (first | ((with_reducible refine gc (f := 18) rfl ?_); refine goesL_ (some 32) rfl rfl Try.func18 (by kernel_rfl) rfl #[.agg #[.slice Ao53 x144000_2.length co53, .int .i64 x144001_2]] rfl (by (try simp only [List.map_toArray, List.map_cons, List.map_nil]); first | done | rfl | (simp only [List.length_drop, List.length_take]; rfl)) ?_; (with_reducible refine (spec_l11Tick.calls k2 (fun k_ => some k_ = (.slice Ao53 x144000_2.length co53 : Value).ownBlock) (.slice Ao53 x144000_2.length co53) x144000_2 x144001_2 t147 t150 t151 w _ ?side1 ?side2 A32.out).mono ?_); (case side1 => repeat (first | (with_reducible first | exact HB.out | apply ba | apply bn | apply bd | refine bs ?_ GE132.out | refine bs ?_ GE133.out | refine bs ?_ GE143.out) | exact HB.out)); (case side2 => exact Kd.R_tight rfl HO_144000.out); rintro e w54 ⟨v148, rfl, ho0, hb, hkp⟩; refine ⟨_, rfl, ?_⟩; have n0_ := AM (Rm (ok' := fun k_ => True) (Kd.R_keptB ((Kd.R_apart' HO_8.out (Kd.R_typed HO_144000.out) (by decide))) hkp (fun k_ hk_ hs_ => (hk_.2) hs_)) (fun k_ hk_ => trivial)); have n1_ := AM (blk_kept (lfK BK132.out) hkp (fun hs_ => (fun e_ => (Kd.R_ne HO_144000.out BK132.out (by decide)) e_) hs_)); have n2_ := AM (blk_kept (lfK BK133.out) hkp (fun hs_ => (fun e_ => (Kd.R_ne HO_144000.out BK133.out (by decide)) e_) hs_)); have n3_ := AM (blk_kept (lfK BK143.out) hkp (fun hs_ => (fun e_ => (Kd.R_ne HO_144000.out BK143.out (by decide)) e_) hs_)); have n4_ := AM (Rm (ok' := fun k_ => True) ho0 (fun k_ hk_ => trivial)); have n5_ := AM (hb); clear HO_8 BK132 BK133 BK143 HB HO_144000; revert n0_ n1_ n2_ n3_ n4_ n5_; intro HO_8 BK132 BK133 BK143 HO149 HB; (try clear hb hkp ho0)) | ((with_reducible refine gd (N := 10) rfl ?_); refine xe ?hg (N := 10) ?hd (cs := #[.slice none 0 0, .int .i64 0]) (t := 28) ?hr ?_; (case hd => rfl); (case hg => rfl); (case hr => first | (go_simp; done) | (go_simp; rfl)); intro gb152 hg w55 hbox hb; have n0_ := AM (Rb (lfR HO_8.out) hb); have n1_ := AM (Rb (lfR HO149.out) hb); have n2_ := AM (kb (g := gb132) (o := .cells #[.slice A0_0 l0_0.length c0_0, .int .i64 a0_1] 28 (0, 0)) (lfK BK132.out) hb); have n3_ := AM (kb (g := gb133) (o := .cells #[.slice none 0 0, .int .i64 x134001_2] 28 (0, 0)) (lfK BK133.out) hb); have n4_ := AM (kb (g := gb143) (o := .cells #[.slice Ao53 x144000_2.length co53, .int .i64 x144001_2] 28 (0, 0)) (lfK BK143.out) hb); have n5_ := AM (bp (by repeat (first | (with_reducible first | exact HB.out | apply ba | apply bn | apply bd | refine bs ?_ GE132.out | refine bs ?_ GE133.out | refine bs ?_ GE143.out) | exact HB.out)) hb); have n6_ := AM (hbox); have n7_ := AM ((by rw [hg]; exact (bz (by repeat (first | (with_reducible first | exact HB.out | apply ba | apply bn | apply bd | refine bs ?_ GE132.out | refine bs ?_ GE133.out | refine bs ?_ GE143.out) | exact HB.out))) : w.heap.size ≤ gb152)); have n8_ := AM ((by rw [hg]; exact (bz (by repeat (first | (with_reducible first | exact HB.out | apply ba | apply bn | apply bd | refine bs ?_ GE132.out | refine bs ?_ GE133.out | refine bs ?_ GE143.out) | exact HB.out))) : w.heap.size ≤ gb152)); have n9_ := AM ((by rw [hg]; exact Nat.ne_of_lt (blk_lt (g := gb132) (o := .cells #[.slice A0_0 l0_0.length c0_0, .int .i64 a0_1] 28 (0, 0)) (lfK BK132.out)) : gb132 ≠ gb152)); have n10_ := AM ((by rw [hg]; exact Nat.ne_of_gt (blk_lt (g := gb132) (o := .cells #[.slice A0_0 l0_0.length c0_0, .int .i64 a0_1] 28 (0, 0)) (lfK BK132.out)) : gb152 ≠ gb132)); have n11_ := AM ((by rw [hg]; exact Nat.ne_of_lt (blk_lt (g := gb133) (o := .cells #[.slice none 0 0, .int .i64 x134001_2] 28 (0, 0)) (lfK BK133.out)) : gb133 ≠ gb152)); have n12_ := AM ((by rw [hg]; exact Nat.ne_of_gt (blk_lt (g := gb133) (o := .cells #[.slice none 0 0, .int .i64 x134001_2] 28 (0, 0)) (lfK BK133.out)) : gb152 ≠ gb133)); have n13_ := AM ((by rw [hg]; exact Nat.ne_of_lt (blk_lt (g := gb143) (o := .cells #[.slice Ao53 x144000_2.length co53, .int .i64 x144001_2] 28 (0, 0)) (lfK BK143.out)) : gb143 ≠ gb152)); have n14_ := AM ((by rw [hg]; exact Nat.ne_of_gt (blk_lt (g := gb143) (o := .cells #[.slice Ao53 x144000_2.length co53, .int .i64 x144001_2] 28 (0, 0)) (lfK BK143.out)) : gb152 ≠ gb143)); clear HO_8 HO149 BK132 BK133 BK143 HB; revert n0_ n1_ n2_ n3_ n4_ n5_ n6_ n7_ n8_ n9_ n10_ n11_ n12_ n13_ n14_; intro HO_8 HO149 BK132 BK133 BK143 HB BK152 GW152 GE152 NB132_152 NB152_132 NB133_152 NB152_133 NB143_152 NB152_143; clear hb hbox hg; obtain ⟨Ao56, co56, eo56⟩ := Ri HO149.out; subst eo56; have hnb57 := NB152_132.out; have hnc57 := NB132_152.out; have hnb58 := NB152_133.out; have hnc58 := NB133_152.out; have hnb59 := NB152_143.out; have hnc59 := NB143_152.out; have hcz60_0 : w55.cell? ⟨gb152, 0, none⟩ = some (.slice none 0 0) := (kc BK152.out 0).trans rfl; have hcz60_1 : w55.cell? ⟨gb152, 1, none⟩ = some (.int .i64 0) := (kc BK152.out 1).trans rfl; have hfz60_0 := kz BK152.out 0; have hfz60_1 := kz BK152.out 1; have hcz61_0 : w55.cell? ⟨gb143, 0, none⟩ = some (.slice Ao53 x144000_2.length co53) := (kc BK143.out 0).trans rfl; have hcz61_1 : w55.cell? ⟨gb143, 1, none⟩ = some (.int .i64 x144001_2) := (kc BK143.out 1).trans rfl; have hfz61_0 := kz BK143.out 0; have hfz61_1 := kz BK143.out 1) | ((with_reducible refine gate_builtin (b := .append) (xs := #[.tmp 40, .tmp 42]) rfl ?_); at_builtin; refine Kd.R_append (Kd.int .i64) (w0 := w) w.heap.size rfl (.tmp 40) (.tmp 42) 29 3 (.int .i64 0) 8 rfl Try.underlying29 info3 rfl (by decide) (by omega) u8 x8_2 t151 [.int .i64 t151] (fun _ => True) (fun _ => False) rfl (by first | (go_simp; done) | (go_simp; rfl)) ?aP (fun _ hk => hk.elim) ?aF ?aO ?aB ?aS ?aL ?_; (case aP => exact rfl); (case aB => exact (by repeat (first | (with_reducible first | exact HB.out | apply ba | apply bn | apply bd | refine bs ?_ GE132.out | refine bs ?_ GE133.out | refine bs ?_ GE143.out | refine bs ?_ GE152.out) | exact HB.out))); (case aF => exact (fun _ _ => trivial)); (case aO => exact (by (with_reducible repeat (first | apply Ra | apply Rn | apply Rd)); exact Rm (Rf (p := ⟨gb143, 1, none⟩) (Rf (p := ⟨gb143, 0, none⟩) (Rf (p := ⟨gb152, 1, none⟩) (Rf (p := ⟨gb152, 0, none⟩) (Rt (Rt HO_8.out BK152.out (by decide)) BK143.out (by decide)) (fun _ hk => hk.1.2) (.slice Ao56 t147.length co56)) (fun _ hk => hk.1.2) (.int .i64 t150)) (fun _ hk => hk.2) (.slice Ao56 t147.length co56)) (fun _ hk => hk.2) (.int .i64 t150)) (fun _ hk => trivial))); (case aS => exact (bz (by repeat (first | (with_reducible first | exact HB.out | apply ba | apply bn | apply bd | refine bs ?_ GE132.out | refine bs ?_ GE133.out | refine bs ?_ GE143.out | refine bs ?_ GE152.out) | exact HB.out)))); (case aL => have := LMc49.out; omega); intro v157 w62 ho hb hg hat; rw [← Ny156.out] at ho; have n0_ := AM (blk_grown (g := gb132) (o := .cells #[.slice A0_0 l0_0.length c0_0, .int .i64 a0_1] 28 (0, 0)) (by (with_reducible repeat (first | refine kn ?_ _ | refine kd ?_ | refine ka ?_ _)); refine kf ?_ NB132_143.out _; (with_reducible repeat (first | refine kn ?_ _ | refine kd ?_ | refine ka ?_ _)); refine kf ?_ NB132_143.out _; (with_reducible repeat (first | refine kn ?_ _ | refine kd ?_ | refine ka ?_ _)); refine kf ?_ NB132_152.out _; (with_reducible repeat (first | refine kn ?_ _ | refine kd ?_ | refine ka ?_ _)); refine kf ?_ NB132_152.out _; (with_reducible repeat (first | refine kn ?_ _ | refine kd ?_ | refine ka ?_ _)); exact BK132.out) hg (Kd.R_ne HO_8.out BK132.out (by decide))); have n1_ := AM (blk_grown (g := gb133) (o := .cells #[.slice none 0 0, .int .i64 x134001_2] 28 (0, 0)) (by (with_reducible repeat (first | refine kn ?_ _ | refine kd ?_ | refine ka ?_ _)); refine kf ?_ NB133_143.out _; (with_reducible repeat (first | refine kn ?_ _ | refine kd ?_ | refine ka ?_ _)); refine kf ?_ NB133_143.out _; (with_reducible repeat (first | refine kn ?_ _ | refine kd ?_ | refine ka ?_ _)); refine kf ?_ NB133_152.out _; (with_reducible repeat (first | refine kn ?_ _ | refine kd ?_ | refine ka ?_ _)); refine kf ?_ NB133_152.out _; (with_reducible repeat (first | refine kn ?_ _ | refine kd ?_ | refine ka ?_ _)); exact BK133.out) hg (Kd.R_ne HO_8.out BK133.out (by decide))); have n2_ := AM (blk_grown (g := gb143) (o := .cells #[.slice Ao56 t147.length co56, .int .i64 t150] 28 (0, 0)) (by (with_reducible repeat (first | refine kn ?_ _ | refine kd ?_ | refine ka ?_ _)); refine blk_put (cs := #[.slice Ao56 t147.length co56, .int .i64 x144001_2]) ?_ 1 _ rfl; (with_reducible repeat (first | refine kn ?_ _ | refine kd ?_ | refine ka ?_ _)); refine blk_put (cs := #[.slice Ao53 x144000_2.length co53, .int .i64 x144001_2]) ?_ 0 _ rfl; (with_reducible repeat (first | refine kn ?_ _ | refine kd ?_ | refine ka ?_ _)); refine kf ?_ NB143_152.out _; (with_reducible repeat (first | refine kn ?_ _ | refine kd ?_ | refine ka ?_ _)); refine kf ?_ NB143_152.out _; (with_reducible repeat (first | refine kn ?_ _ | refine kd ?_ | refine ka ?_ _)); exact BK143.out) hg (Kd.R_ne HO_8.out BK143.out (by decide))); have n3_ := AM (Kd.R_over' (by (with_reducible repeat (first | apply Ra | apply Rn | apply Rd)); exact (Rm (Rm (Rf (p := ⟨gb143, 1, none⟩) (Rf (p := ⟨gb143, 0, none⟩) (Rf (p := ⟨gb152, 1, none⟩) (Rf (p := ⟨gb152, 0, none⟩) (Rt (Rt HO149.out BK152.out (by decide)) BK143.out (by decide)) (fun _ hk => hk.1.2) (.slice Ao56 t147.length co56)) (fun _ hk => hk.1.2) (.int .i64 t150)) (fun _ hk => hk.2) (.slice Ao56 t147.length co56)) (fun _ hk => hk.2) (.int .i64 t150)) (fun _ h_ => h_.1)) (fun _ h_ => h_.1))) (Kd.R_typed (by (with_reducible repeat (first | apply Ra | apply Rn | apply Rd)); exact (Rm (Rm (Rf (p := ⟨gb143, 1, none⟩) (Rf (p := ⟨gb143, 0, none⟩) (Rf (p := ⟨gb152, 1, none⟩) (Rf (p := ⟨gb152, 0, none⟩) (Rt (Rt HO_8.out BK152.out (by decide)) BK143.out (by decide)) (fun _ hk => hk.1.2) (.slice Ao56 t147.length co56)) (fun _ hk => hk.1.2) (.int .i64 t150)) (fun _ hk => hk.2) (.slice Ao56 t147.length co56)) (fun _ hk => hk.2) (.int .i64 t150)) (fun _ h_ => h_.1)) (fun _ h_ => h_.1)))) (by decide) hg); have n4_ := AM (blk_grown (g := gb152) (o := .cells #[.slice Ao56 t147.length co56, .int .i64 t150] 28 (0, 0)) (by (with_reducible repeat (first | refine kn ?_ _ | refine kd ?_ | refine ka ?_ _)); refine kf ?_ NB152_143.out _; (with_reducible repeat (first | refine kn ?_ _ | refine kd ?_ | refine ka ?_ _)); refine kf ?_ NB152_143.out _; (with_reducible repeat (first | refine kn ?_ _ | refine kd ?_ | refine ka ?_ _)); refine blk_put (cs := #[.slice Ao56 t147.length co56, .int .i64 0]) ?_ 1 _ rfl; (with_reducible repeat (first | refine kn ?_ _ | refine kd ?_ | refine ka ?_ _)); refine blk_put (cs := #[.slice none 0 0, .int .i64 0]) ?_ 0 _ rfl; (with_reducible repeat (first | refine kn ?_ _ | refine kd ?_ | refine ka ?_ _)); exact BK152.out) hg (Kd.R_ne HO_8.out BK152.out (by decide))); have n5_ := AM (hb); have n6_ := AM (ho); clear BK132 BK133 BK143 HO149 BK152 HB HO_8; revert n0_ n1_ n2_ n3_ n4_ n5_ n6_; intro BK132 BK133 BK143 HO149 BK152 HB HO158; clear ho hb hg hat))
                  go_roundg k2
                  case measure => have := HJ2.out; have := HK2.out; omega
                  case rel => exact ⟨(y156), (wrap64 (x9_2 + 1)), (x134001_2), (t147), (t150), (.slice Ao56 t147.length co56), (by first | rfl | (simp; done) | (simp [*]; done)), H', ⟨by have := HJ2.out; have := HK2.out; omega⟩, ⟨by (with_reducible repeat (first | apply Ra | apply Rn | apply Rd)); exact HO158.out⟩, ⟨by (with_reducible repeat (first | apply Ra | apply Rn | apply Rd)); exact HO149.out⟩, ⟨by (with_reducible repeat (first | refine kn ?_ _ | refine kd ?_ | refine ka ?_ _)); exact BK132.out⟩, ⟨by (with_reducible repeat (first | refine kn ?_ _ | refine kd ?_ | refine ka ?_ _)); exact BK133.out⟩, ⟨by (with_reducible repeat (first | refine kn ?_ _ | refine kd ?_ | refine ka ?_ _)); exact BK143.out⟩, ⟨by repeat (first | (with_reducible first | exact HB.out | apply ba | apply bn | apply bd | refine bs ?_ GE132.out | refine bs ?_ GE133.out | refine bs ?_ GE143.out | refine bs ?_ GE152.out) | exact HB.out)⟩⟩
                · rw [if_neg c49] at H
                  exact absurd H (by simp)
            · rw [if_neg c31] at H
              have c31b0 : decide (x9_2 < a1) = false := decide_eq_false c31
              clear c31
              simp only [Option.some.injEq, Prod.mk.injEq] at H
              obtain ⟨rfl, rfl, rfl, rfl⟩ := H
              have hnb63 := NB143_132.out
              have hnc63 := NB132_143.out
              have hnb64 := NB143_133.out
              have hnc64 := NB133_143.out
              have hcz65_0 : wr.cell? ⟨gb143, 0, none⟩ = some (u144000) := (kc BK143.out 0).trans rfl
              have hcz65_1 : wr.cell? ⟨gb143, 1, none⟩ = some (.int .i64 x144001_2) := (kc BK143.out 1).trans rfl
              have hfz65_0 := kz BK143.out 0
              have hfz65_1 := kz BK143.out 1
              obtain ⟨Ao66, co66, eo66⟩ := Ri HO_144000.out
              subst eo66
              have hnb67 := NB133_132.out
              have hnc67 := NB132_133.out
              have hcz68_0 : wr.cell? ⟨gb133, 0, none⟩ = some (.slice none 0 0) := (kc BK133.out 0).trans rfl
              have hcz68_1 : wr.cell? ⟨gb133, 1, none⟩ = some (.int .i64 x134001_2) := (kc BK133.out 1).trans rfl
              have hfz68_0 := kz BK133.out 0
              have hfz68_1 := kz BK133.out 1
              go_wp2
              refine bodyPost_ret (results_ctt rfl _ _ gb133 28 #[.slice Ao66 x144000_2.length co66, .int .i64 x144001_2] (0, 0) _ rfl (by (with_reducible repeat (first | refine kn ?_ _ | refine kd ?_ | refine ka ?_ _)); refine blk_put (cs := #[.slice Ao66 x144000_2.length co66, .int .i64 x134001_2]) ?_ 1 _ rfl; (with_reducible repeat (first | refine kn ?_ _ | refine kd ?_ | refine ka ?_ _)); refine blk_put (cs := #[.slice none 0 0, .int .i64 x134001_2]) ?_ 0 _ rfl; (with_reducible repeat (first | refine kn ?_ _ | refine kd ?_ | refine ka ?_ _)); exact BK133.out) Try.underlying28 rfl (by kernel_rfl)) rfl ?_
              exact ⟨_, _, by first | rfl | (simp [errW_none, errW_some] <;> rfl) | (simp [*, errW_none, errW_some] <;> rfl), by (with_reducible repeat (first | apply Ra | apply Rn | apply Rd)); exact Rm (Rf (p := ⟨gb133, 1, none⟩) (Rf (p := ⟨gb133, 0, none⟩) (Rt HO_144000.out BK133.out (by decide)) (fun _ hk => hk.2) (.slice Ao66 x144000_2.length co66)) (fun _ hk => hk.2) (.int .i64 x144001_2)) (fun _ hk => trivial), by (with_reducible repeat (first | apply Ra | apply Rn | apply Rd)); exact Rm (Rf (p := ⟨gb133, 1, none⟩) (Rf (p := ⟨gb133, 0, none⟩) (Rt HO_8.out BK133.out (by decide)) (fun _ hk => hk.2) (.slice Ao66 x144000_2.length co66)) (fun _ hk => hk.2) (.int .i64 x144001_2)) (fun _ hk => trivial), by repeat (first | (with_reducible first | exact HB.out | apply ba | apply bn | apply bd | refine bs ?_ GE132.out | refine bs ?_ GE133.out | refine bs ?_ GE143.out) | exact HB.out)⟩

/-! ### laws_toTask: function 28 -/
open Go.Proofs.YtfbdkjdockbfdabW.PrintWords.Aside0 renaming mk → AM
open Go.Proofs.YtfbdkjdockbfdabW.PrintWords renaming below_alloc → ba, pw_below_drewN → bn, below_drew1 → bd, below_set → bs, blk_drewN → kn, blk_drew → kd, blk_alloc → ka, blk_far → kf, blk_cell → kc, blk_frozen → kz, blk_below → kb, below_size → bz, below_step → bp, box_event → xe, gate_dst → gd
def laws_toTask.f (a0_0 : Int) (a0_1 : Int) (a0_2 : Int) (a0_3 : Bool) : Option (Int × Int × Int × Bool) := some (a0_0, a0_1, a0_2, a0_3)
set_option maxHeartbeats 8000000 in
set_option maxRecDepth 100000 in
theorem laws_toTask.calls (a0_0 : Int) (a0_1 : Int) (a0_2 : Int) (a0_3 : Bool) (r1 : Int) (r2 : Int) (r3 : Int) (r4 : Bool) (w : World) (h : laws_toTask.f a0_0 a0_1 a0_2 a0_3 = some (r1, r2, r3, r4)) :
    Calls Try.prog 28 #[.agg #[.int .i64 a0_0, .int .i64 a0_1, .int .i64 a0_2, .bool a0_3]] w fun e w' => e = .returned (.agg #[.int .i64 r1, .int .i64 r2, .int .i64 r3, .bool r4]) ∧ Below w.heap.size w w' := by
  have hu54 := Try.underlying54
  have hu51 := Try.underlying51
  have HB := AM (Below.refl w.heap.size w)
  have H : (some (a0_0, a0_1, a0_2, a0_3)) = some (r1, r2, r3, r4) := h
  clear h
  simp only [Option.some.injEq, Prod.mk.injEq] at H
  obtain ⟨rfl, rfl, rfl, rfl⟩ := H
  go_enter Try.func28, Try.ntmps28
  go_wp2_with (first | ((with_reducible refine gd (N := 1) rfl ?_); refine xe ?hg (N := 1) ?hd (cs := #[.int .i64 a0_0, .int .i64 a0_1, .int .i64 a0_2, .bool a0_3]) (t := 54) ?hr ?_; (case hd => rfl); (case hg => rfl); (case hr => first | (go_simp; done) | (go_simp; rfl)); intro gb159 hg w2 hbox hb; have n0_ := AM (bp (lfB HB.out) hb); have n1_ := AM (hbox); have n2_ := AM ((by rw [hg]; exact (bz (lfB HB.out)) : w.heap.size ≤ gb159)); have n3_ := AM ((by rw [hg]; exact (bz (lfB HB.out)) : w.heap.size ≤ gb159)); clear HB; revert n0_ n1_ n2_ n3_; intro HB BK159 GW159 GE159; clear hb hbox hg) | ((with_reducible refine gd (N := 2) rfl ?_); refine xe ?hg (N := 2) ?hd (cs := #[.int .i64 0, .int .i64 0, .int .i64 0, .bool false]) (t := 51) ?hr ?_; (case hd => rfl); (case hg => rfl); (case hr => first | (go_simp; done) | (go_simp; rfl)); intro gb160 hg w3 hbox hb; have n0_ := AM (kb (g := gb159) (o := .cells #[.int .i64 a0_0, .int .i64 a0_1, .int .i64 a0_2, .bool a0_3] 54 (0, 0)) (lfK BK159.out) hb); have n1_ := AM (bp (by repeat (first | (with_reducible first | exact HB.out | apply ba | apply bn | apply bd | refine bs ?_ GE159.out) | exact HB.out)) hb); have n2_ := AM (hbox); have n3_ := AM ((by rw [hg]; exact (bz (by repeat (first | (with_reducible first | exact HB.out | apply ba | apply bn | apply bd | refine bs ?_ GE159.out) | exact HB.out))) : w.heap.size ≤ gb160)); have n4_ := AM ((by rw [hg]; exact (bz (by repeat (first | (with_reducible first | exact HB.out | apply ba | apply bn | apply bd | refine bs ?_ GE159.out) | exact HB.out))) : w.heap.size ≤ gb160)); have n5_ := AM ((by rw [hg]; exact Nat.ne_of_lt (blk_lt (g := gb159) (o := .cells #[.int .i64 a0_0, .int .i64 a0_1, .int .i64 a0_2, .bool a0_3] 54 (0, 0)) (lfK BK159.out)) : gb159 ≠ gb160)); have n6_ := AM ((by rw [hg]; exact Nat.ne_of_gt (blk_lt (g := gb159) (o := .cells #[.int .i64 a0_0, .int .i64 a0_1, .int .i64 a0_2, .bool a0_3] 54 (0, 0)) (lfK BK159.out)) : gb160 ≠ gb159)); clear BK159 HB; revert n0_ n1_ n2_ n3_ n4_ n5_ n6_; intro BK159 HB BK160 GW160 GE160 NB159_160 NB160_159; clear hb hbox hg) | ((with_reducible refine gd (N := 3) rfl ?_); refine xe ?hg (N := 3) ?hd (cs := #[.int .i64 0, .int .i64 0, .int .i64 0, .bool false]) (t := 51) ?hr ?_; (case hd => rfl); (case hg => rfl); (case hr => first | (go_simp; done) | (go_simp; rfl)); intro gb161 hg w4 hbox hb; have n0_ := AM (kb (g := gb159) (o := .cells #[.int .i64 a0_0, .int .i64 a0_1, .int .i64 a0_2, .bool a0_3] 54 (0, 0)) (lfK BK159.out) hb); have n1_ := AM (kb (g := gb160) (o := .cells #[.int .i64 0, .int .i64 0, .int .i64 0, .bool false] 51 (0, 0)) (lfK BK160.out) hb); have n2_ := AM (bp (by repeat (first | (with_reducible first | exact HB.out | apply ba | apply bn | apply bd | refine bs ?_ GE159.out | refine bs ?_ GE160.out) | exact HB.out)) hb); have n3_ := AM (hbox); have n4_ := AM ((by rw [hg]; exact (bz (by repeat (first | (with_reducible first | exact HB.out | apply ba | apply bn | apply bd | refine bs ?_ GE159.out | refine bs ?_ GE160.out) | exact HB.out))) : w.heap.size ≤ gb161)); have n5_ := AM ((by rw [hg]; exact (bz (by repeat (first | (with_reducible first | exact HB.out | apply ba | apply bn | apply bd | refine bs ?_ GE159.out | refine bs ?_ GE160.out) | exact HB.out))) : w.heap.size ≤ gb161)); have n6_ := AM ((by rw [hg]; exact Nat.ne_of_lt (blk_lt (g := gb159) (o := .cells #[.int .i64 a0_0, .int .i64 a0_1, .int .i64 a0_2, .bool a0_3] 54 (0, 0)) (lfK BK159.out)) : gb159 ≠ gb161)); have n7_ := AM ((by rw [hg]; exact Nat.ne_of_gt (blk_lt (g := gb159) (o := .cells #[.int .i64 a0_0, .int .i64 a0_1, .int .i64 a0_2, .bool a0_3] 54 (0, 0)) (lfK BK159.out)) : gb161 ≠ gb159)); have n8_ := AM ((by rw [hg]; exact Nat.ne_of_lt (blk_lt (g := gb160) (o := .cells #[.int .i64 0, .int .i64 0, .int .i64 0, .bool false] 51 (0, 0)) (lfK BK160.out)) : gb160 ≠ gb161)); have n9_ := AM ((by rw [hg]; exact Nat.ne_of_gt (blk_lt (g := gb160) (o := .cells #[.int .i64 0, .int .i64 0, .int .i64 0, .bool false] 51 (0, 0)) (lfK BK160.out)) : gb161 ≠ gb160)); clear BK159 BK160 HB; revert n0_ n1_ n2_ n3_ n4_ n5_ n6_ n7_ n8_ n9_; intro BK159 BK160 HB BK161 GW161 GE161 NB159_161 NB161_159 NB160_161 NB161_160; clear hb hbox hg; have hnb5 := NB159_160.out; have hnc5 := NB160_159.out; have hnb6 := NB159_161.out; have hnc6 := NB161_159.out; have hcz7_0 : w4.cell? ⟨gb159, 0, none⟩ = some (.int .i64 a0_0) := (kc BK159.out 0).trans rfl; have hcz7_1 : w4.cell? ⟨gb159, 1, none⟩ = some (.int .i64 a0_1) := (kc BK159.out 1).trans rfl; have hcz7_2 : w4.cell? ⟨gb159, 2, none⟩ = some (.int .i64 a0_2) := (kc BK159.out 2).trans rfl; have hcz7_3 : w4.cell? ⟨gb159, 3, none⟩ = some (.bool a0_3) := (kc BK159.out 3).trans rfl; have hfz7_0 := kz BK159.out 0; have hfz7_1 := kz BK159.out 1; have hfz7_2 := kz BK159.out 2; have hfz7_3 := kz BK159.out 3; have hnb8 := NB161_160.out; have hnc8 := NB160_161.out; have hcz9_0 : w4.cell? ⟨gb161, 0, none⟩ = some (.int .i64 0) := (kc BK161.out 0).trans rfl; have hcz9_1 : w4.cell? ⟨gb161, 1, none⟩ = some (.int .i64 0) := (kc BK161.out 1).trans rfl; have hcz9_2 : w4.cell? ⟨gb161, 2, none⟩ = some (.int .i64 0) := (kc BK161.out 2).trans rfl; have hcz9_3 : w4.cell? ⟨gb161, 3, none⟩ = some (.bool false) := (kc BK161.out 3).trans rfl; have hfz9_0 := kz BK161.out 0; have hfz9_1 := kz BK161.out 1; have hfz9_2 := kz BK161.out 2; have hfz9_3 := kz BK161.out 3; have hcz10_0 : w4.cell? ⟨gb160, 0, none⟩ = some (.int .i64 0) := (kc BK160.out 0).trans rfl; have hcz10_1 : w4.cell? ⟨gb160, 1, none⟩ = some (.int .i64 0) := (kc BK160.out 1).trans rfl; have hcz10_2 : w4.cell? ⟨gb160, 2, none⟩ = some (.int .i64 0) := (kc BK160.out 2).trans rfl; have hcz10_3 : w4.cell? ⟨gb160, 3, none⟩ = some (.bool false) := (kc BK160.out 3).trans rfl; have hfz10_0 := kz BK160.out 0; have hfz10_1 := kz BK160.out 1; have hfz10_2 := kz BK160.out 2; have hfz10_3 := kz BK160.out 3))
  refine bodyPost_ret (results_cell_row rfl _ _ gb160 51 #[.int .i64 a0_0, .int .i64 a0_1, .int .i64 a0_2, .bool a0_3] (0, 0) _ rfl (by (with_reducible repeat (first | refine kn ?_ _ | refine kd ?_ | refine ka ?_ _)); refine blk_put (cs := #[.int .i64 a0_0, .int .i64 a0_1, .int .i64 a0_2, .bool false]) ?_ 3 _ rfl; (with_reducible repeat (first | refine kn ?_ _ | refine kd ?_ | refine ka ?_ _)); refine blk_put (cs := #[.int .i64 a0_0, .int .i64 a0_1, .int .i64 0, .bool false]) ?_ 2 _ rfl; (with_reducible repeat (first | refine kn ?_ _ | refine kd ?_ | refine ka ?_ _)); refine blk_put (cs := #[.int .i64 a0_0, .int .i64 0, .int .i64 0, .bool false]) ?_ 1 _ rfl; (with_reducible repeat (first | refine kn ?_ _ | refine kd ?_ | refine ka ?_ _)); refine blk_put (cs := #[.int .i64 0, .int .i64 0, .int .i64 0, .bool false]) ?_ 0 _ rfl; (with_reducible repeat (first | refine kn ?_ _ | refine kd ?_ | refine ka ?_ _)); refine kf ?_ NB160_161.out _; (with_reducible repeat (first | refine kn ?_ _ | refine kd ?_ | refine ka ?_ _)); refine kf ?_ NB160_161.out _; (with_reducible repeat (first | refine kn ?_ _ | refine kd ?_ | refine ka ?_ _)); refine kf ?_ NB160_161.out _; (with_reducible repeat (first | refine kn ?_ _ | refine kd ?_ | refine ka ?_ _)); refine kf ?_ NB160_161.out _; (with_reducible repeat (first | refine kn ?_ _ | refine kd ?_ | refine ka ?_ _)); exact BK160.out) Try.underlying51 rfl (by kernel_rfl)) rfl ?_
  exact ⟨by first | rfl | (simp [errW_none, errW_some] <;> rfl) | (simp [*, errW_none, errW_some] <;> rfl), by repeat (first | (with_reducible first | exact HB.out | apply ba | apply bn | apply bd | refine bs ?_ GE159.out | refine bs ?_ GE160.out | refine bs ?_ GE161.out) | exact HB.out)⟩

/-! ### laws_toTaskS: function 19 -/
open Go.Proofs.YtfbdkjdockbfdabW.PrintWords.Aside0 renaming mk → AM
open Go.Proofs.YtfbdkjdockbfdabW.PrintWords renaming below_alloc → ba, pw_below_drewN → bn, below_drew1 → bd, below_set → bs, below_size → bz, below_step → bp, store_event → se, gate_callee → gc, gate_dst → gd, gate_store → gs
open Go.Proofs.YtfbdkjdockbfdabW.PrintWords.Kd renaming R_alloc → Ra, R_drewN → Rn, R_drew → Rd, R_below → Rb, R_reads' → Rr, R_lower → Rl
def laws_toTaskS.l0 : Nat → List (S54) → List (S51) → Int → Option ((List (S51)))
  | 0, _, _, _ => none
  | k + 1, x0, x3, x4 => if x4 < (x0.length : Int) then (if 0 ≤ x4 then ((laws_toTask.f ((rd_T54 x0 x4).f0) ((rd_T54 x0 x4).f1) ((rd_T54 x0 x4).f2) ((rd_T54 x0 x4).f3)).bind fun bt166 => (if x4 < (x3.length : Int) then (laws_toTaskS.l0 k x0 (x3.set (x4 : Int).toNat (⟨bt166.1, bt166.2.1, bt166.2.2.1, bt166.2.2.2⟩ : S51)) (wrap64 (x4 + 1))) else (none))) else (none)) else (some x3)
def laws_toTaskS.f (k : Nat) (l0 : List (S54)) : Option ((List (S51))) := if 0 ≤ (l0.length : Int) then (if ((l0.length : Int) : Int).toNat ≤ 8796093022208 then (laws_toTaskS.l0 k l0 (List.replicate ((l0.length : Int) : Int).toNat z51) 0) else (none)) else (none)
theorem laws_toTaskS.mono_l : ∀ k, (∀ y0 y1 y2, LeO (laws_toTaskS.l0 k y0 y1 y2) (laws_toTaskS.l0 (k + 1) y0 y1 y2))
  | 0 => fun _ _ _ r h => by simp [laws_toTaskS.l0] at h
  | k + 1 => by
    have ih0 := laws_toTaskS.mono_l k
    · intro y0 y1 y2
      unfold laws_toTaskS.l0
      repeat' first
      | (with_reducible exact ih0 _ _ _)
      | (with_reducible exact LeO.refl _)
      | (with_reducible exact LeO.none _)
      | (with_reducible refine LeO.ite ?_ ?_)
      | (with_reducible refine LeO.bind ?_ (fun _ => ?_))
      | exact ih0 _ _ _
      | exact LeO.none _
      | refine LeO.ite ?_ ?_
      | refine LeO.bind ?_ (fun _ => ?_)
theorem laws_toTaskS.mono : ∀ a0 k, LeO (laws_toTaskS.f k a0) (laws_toTaskS.f (k + 1) a0) := by
  intro a0 k
  have ih0 := laws_toTaskS.mono_l k
  unfold laws_toTaskS.f
  repeat' first
      | (with_reducible exact ih0 _ _ _)
      | (with_reducible exact LeO.refl _)
      | (with_reducible exact LeO.none _)
      | (with_reducible refine LeO.ite ?_ ?_)
      | (with_reducible refine LeO.bind ?_ (fun _ => ?_))
      | exact ih0 _ _ _
      | exact LeO.none _
      | refine LeO.ite ?_ ?_
      | refine LeO.bind ?_ (fun _ => ?_)
set_option maxHeartbeats 8000000 in
set_option maxRecDepth 100000 in
theorem laws_toTaskS.calls (k : Nat) (A0 : Option Addr) (c0 : Nat) (l0 : List (S54)) (r : List (S51)) (w : World) (hr0 : Kd.C k54 w A0 l0.length l0) (hc0 : l0.length ≤ c0) (h : laws_toTaskS.f k l0 = some r) :
    Calls Try.prog 19 #[.slice A0 l0.length c0] w fun e w' => ∃ v0_ : Value, e = .returned (v0_) ∧ Kd.R k51 51 w' w.heap.size (fun _ => True) v0_ r ∧ Below w.heap.size w w' := by
  have hu54 := Try.underlying54
  have hu51 := Try.underlying51
  have HR0 := AM hr0
  have HC0 := AM hc0
  clear hr0 hc0
  have HB := AM (Below.refl w.heap.size w)
  have H : (if 0 ≤ (l0.length : Int) then (if ((l0.length : Int) : Int).toNat ≤ 8796093022208 then (laws_toTaskS.l0 k l0 (List.replicate ((l0.length : Int) : Int).toNat z51) 0) else (none)) else (none)) = some r := h
  clear h
  by_cases c2 : 0 ≤ (l0.length : Int)
  · rw [if_pos c2] at H
    have c2b0 := eq_true c2
    have c2b1 : decide (0 ≤ (l0.length : Int)) = true := decide_eq_true c2
    clear c2
    by_cases c3 : ((l0.length : Int) : Int).toNat ≤ 8796093022208
    · rw [if_pos c3] at H
      have c3b0 := eq_true c3
      have c3b1 : decide (((l0.length : Int) : Int).toNat ≤ 8796093022208) = true := decide_eq_true c3
      clear c3
      obtain ⟨y162, hy162⟩ : ∃ y_ : List (S51), y_ = (List.replicate ((l0.length : Int) : Int).toNat z51) := ⟨_, rfl⟩
      replace H : (laws_toTaskS.l0 k l0 y162 0) = some r := by first | (rw [hy162]; with_reducible exact H) | (have H2_ := (Option.bind_some _ _).symm.trans H; rw [hy162]; with_reducible exact H2_) | (have H2_ := (Option.bind_some _ _).symm.trans H; with_reducible exact H2_) | with_reducible exact H | (rw [hy162]; exact H) | exact H
      have Ny162 := AM hy162
      clear hy162
      have H' := AM H
      clear H
      go_enter Try.func19, Try.ntmps19
      go_wp2_with (first | ((with_reducible refine gd (N := 7) rfl ?_); refine Kd.R_make k51 _ 51 rfl (N := 7) rfl 26 _ _ rfl (l0.length : Int) rfl rfl Try.underlying26 (.agg #[(.int .i64 0), (.int .i64 0), (.int .i64 0), (.bool false)]) 32 info51 rfl (by decide) (by omega) z51 (ok := fun _ => True) (okp := fun _ => True) (k51_mkM _ _ _ z51 ) (fun _ hk => hk) trivial (of_decide_eq_true (by first | (with_reducible assumption) | assumption)) (Nat.le_trans (Nat.mul_le_mul_right _ (of_decide_eq_true (by first | (with_reducible assumption) | assumption) : (l0.length : Int).toNat ≤ 8796093022208)) (by omega)) (Below.refl _ _) (Nat.le_refl _) ?_; intro v163 w4 ho5 hb hg_ hnew_; clear hg_ hnew_; (first | rw [← Ny162.out] at ho5 | (simp only [Int.reduceToNat] at ho5; rw [← Ny162.out] at ho5)); have n0_ := AM (Rl ho5 (bz (lfB HB.out))); have n1_ := AM (bp (lfB HB.out) hb); clear HB; revert n0_ n1_; intro HO164 HB; clear hb ho5))
      go_loopg [4] k (fun kq v4 w' => ∃ (x3_1 : List (S51)) (x4_1 : Int), v4 = .int .i64 x4_1 ∧ Aside0 (laws_toTaskS.l0 kq l0 x3_1 x4_1 = some r) ∧ Aside0 (kq ≤ k) ∧ Aside0 (Kd.R k51 51 w' w.heap.size (fun _ => True) v163 x3_1) ∧ Aside0 (Below w.heap.size w w'))
      case atStart => exact ⟨(y162), (0), (by first | rfl | (simp; done) | (simp [*]; done)), H', ⟨Nat.le_refl _⟩, ⟨by (with_reducible repeat (first | apply Ra | apply Rn | apply Rd)); exact HO164.out⟩, ⟨by repeat (first | (with_reducible first | exact HB.out | apply ba | apply bn | apply bd) | exact HB.out)⟩⟩
      case round =>
        clear H'
        try clear c2
        try clear c2b0
        try clear c2b1
        try clear c3
        try clear c3b0
        try clear c3b1
        obtain ⟨x3_1, x4_1, rfl, HA, HK1, HO_3, HB⟩ := hrel
        cases gk with
        | zero => exact absurd HA.out (by simp [laws_toTaskS.l0])
        | succ k1 =>
          have H := HA.out
          clear HA
          simp only [laws_toTaskS.l0] at H
          by_cases c6 : x4_1 < (l0.length : Int)
          · rw [if_pos c6] at H
            have c6b0 : decide (x4_1 < (l0.length : Int)) = true := decide_eq_true c6
            clear c6
            by_cases c7 : 0 ≤ x4_1
            · rw [if_pos c7] at H
              have c7b0 : decide (0 ≤ x4_1) = true := decide_eq_true c7
              clear c7
              replace H := Option.bind_eq_some_iff.mp H
              obtain ⟨⟨t166, t167, t168, t169⟩, A80, H⟩ := H
              replace H : (if x4_1 < (x3_1.length : Int) then (laws_toTaskS.l0 k1 l0 (x3_1.set (x4_1 : Int).toNat (⟨t166, t167, t168, t169⟩ : S51)) (wrap64 (x4_1 + 1))) else (none)) = some r := H
              have A8 := AM A80
              clear A80
              by_cases c9 : x4_1 < (x3_1.length : Int)
              · rw [if_pos c9] at H
                have c9b0 : decide (x4_1 < (x3_1.length : Int)) = true := decide_eq_true c9
                clear c9
                obtain ⟨y170, hy170⟩ : ∃ y_ : List (S51), y_ = (x3_1.set (x4_1 : Int).toNat (⟨t166, t167, t168, t169⟩ : S51)) := ⟨_, rfl⟩
                replace H : (laws_toTaskS.l0 k1 l0 y170 (wrap64 (x4_1 + 1))) = some r := by first | (rw [hy170]; with_reducible exact H) | (have H2_ := (Option.bind_some _ _).symm.trans H; rw [hy170]; with_reducible exact H2_) | (have H2_ := (Option.bind_some _ _).symm.trans H; with_reducible exact H2_) | with_reducible exact H | (rw [hy170]; exact H) | exact H
                have Ny170 := AM hy170
                clear hy170
                have H' := AM H
                clear H
                have p165 : 0 ≤ (x4_1 : Int) := of_decide_eq_true (by first | (with_reducible assumption) | assumption)
                have q165 : x4_1 < (l0.length : Int) := of_decide_eq_true (by first | (with_reducible assumption) | assumption)
                obtain ⟨ad165, e165, hx165_0, hx165_1, hx165_2, hx165_3⟩ := at_T54 HR0.out x4_1 p165 q165
                cases e165
                replace hx165_0 := (HB.out.cell (World.block_lt_of_cell? w _ hx165_0)).trans hx165_0
                replace hx165_1 := (HB.out.cell (World.block_lt_of_cell? w _ hx165_1)).trans hx165_1
                replace hx165_2 := (HB.out.cell (World.block_lt_of_cell? w _ hx165_2)).trans hx165_2
                replace hx165_3 := (HB.out.cell (World.block_lt_of_cell? w _ hx165_3)).trans hx165_3
                replace p165 := eq_true p165
                replace q165 := eq_true q165
                go_wp2_with (first | ((with_reducible refine gc (f := 28) rfl ?_); refine goesL_ (some 20) rfl rfl Try.func28 (by kernel_rfl) rfl #[.agg #[.int .i64 ((rd_T54 l0 x4_1).f0), .int .i64 ((rd_T54 l0 x4_1).f1), .int .i64 ((rd_T54 l0 x4_1).f2), .bool ((rd_T54 l0 x4_1).f3)]] rfl (by (try simp only [List.map_toArray, List.map_cons, List.map_nil]); first | done | rfl | (simp only [List.length_drop, List.length_take]; rfl)) ?_; (with_reducible refine (laws_toTask.calls ((rd_T54 l0 x4_1).f0) ((rd_T54 l0 x4_1).f1) ((rd_T54 l0 x4_1).f2) ((rd_T54 l0 x4_1).f3) t166 t167 t168 t169 _ A8.out).mono ?_); rintro e w11 ⟨rfl, hb⟩; refine ⟨_, rfl, ?_⟩; have n0_ := AM (Rb (lfR HO_3.out) hb); have n1_ := AM (bp (lfB HB.out) hb); clear HO_3 HB; revert n0_ n1_; intro HO_3 HB; (try clear hb hk); have p10 : 0 ≤ (x4_1 : Int) := of_decide_eq_true (by first | (with_reducible assumption) | assumption); have q10 : (x4_1 : Int) < ((x3_1.length : Int) : Int) := of_decide_eq_true (by first | (with_reducible assumption) | assumption); obtain ⟨go10, co10, eo10, gb10, gl10, cl10, HG10⟩ := Kd.R_form HO_3.out (by omega); (first | cases eo10 | (injection eo10 with ea_ en_ ec_; (first | subst ea_ | (injection ea_ with ea_; subst ea_)); subst ec_; clear en_)); have GB10 := AM gb10; have GG10 := AM HG10; clear gb10 gl10 HG10; obtain ⟨ce10, hcl10, hM10, hcc10, hfr10⟩ := Kd.R_elem HO_3.out z51 (x4_1 : Int) p10 q10; obtain rfl := k51_openM hM10; have hx10_0 : w11.cell? ⟨go10, (x4_1 : Int).toNat * 4, none⟩ = some (.int .i64 ((rd_T51 x3_1 x4_1).f0)) := hcc10 0 _ rfl; have hx10_1 : w11.cell? ⟨go10, (x4_1 : Int).toNat * 4 + 1, none⟩ = some (.int .i64 ((rd_T51 x3_1 x4_1).f1)) := hcc10 1 _ rfl; have hx10_2 : w11.cell? ⟨go10, (x4_1 : Int).toNat * 4 + 2, none⟩ = some (.int .i64 ((rd_T51 x3_1 x4_1).f2)) := hcc10 2 _ rfl; have hx10_3 : w11.cell? ⟨go10, (x4_1 : Int).toNat * 4 + 3, none⟩ = some (.bool ((rd_T51 x3_1 x4_1).f3)) := hcc10 3 _ rfl; have hf10_0 : w11.frozen? ⟨go10, (x4_1 : Int).toNat * 4, none⟩ = false := hfr10 0; have hf10_1 : w11.frozen? ⟨go10, (x4_1 : Int).toNat * 4 + 1, none⟩ = false := hfr10 1; have hf10_2 : w11.frozen? ⟨go10, (x4_1 : Int).toNat * 4 + 2, none⟩ = false := hfr10 2; have hf10_3 : w11.frozen? ⟨go10, (x4_1 : Int).toNat * 4 + 3, none⟩ = false := hfr10 3; clear hcl10 hcc10 hfr10 hM10; replace p10 := eq_true p10; replace q10 := eq_true q10; have HX12 := AM (show Kd.R k51 51 w11 w.heap.size (fun _ => True) (.slice (some ⟨go10, 0, none⟩) x3_1.length co10) x3_1 from (lfR HO_3.out)); obtain ⟨ce12, hcl12, hM12, hcc12, hfr12⟩ := Kd.R_elem HX12.out z51 (x4_1 : Int) (of_decide_eq_true (by first | (with_reducible assumption) | assumption)) (by have h_ : (x4_1 : Int) < ((x3_1.length : Int) : Int) := of_decide_eq_true (by first | (with_reducible assumption) | assumption); first | exact h_ | (have e_ := (Rr HO_3.out).1; omega) | simpa using h_); obtain rfl := k51_openM hM12; have HP12 := Kd.R_seg HX12.out (x4_1 : Int) (of_decide_eq_true (by first | (with_reducible assumption) | assumption)) (by have h_ : (x4_1 : Int) < ((x3_1.length : Int) : Int) := of_decide_eq_true (by first | (with_reducible assumption) | assumption); first | exact h_ | (have e_ := (Rr HO_3.out).1; omega) | simpa using h_) (seg := [.int .i64 t166, .int .i64 t167, .int .i64 t168, .bool t169]) (j := 0) hcl12 hcc12 (show 4 ≤ 4 from by decide) (x' := (⟨t166, t167, t168, t169⟩ : S51)) (k51_mkM _ _ _ (⟨t166, t167, t168, t169⟩ : S51) ) (fun _ hk => hk); have hx12_0 := hcc12 0 _ rfl; (try simp only [show (k51).sz = 4 from rfl, Nat.mul_one, Nat.add_zero] at hx12_0); have hf12_0 := hfr12 0; (try simp only [show (k51).sz = 4 from rfl, Nat.mul_one, Nat.add_zero] at hf12_0); have hx12_1 := hcc12 1 _ rfl; (try simp only [show (k51).sz = 4 from rfl, Nat.mul_one, Nat.add_zero] at hx12_1); have hf12_1 := hfr12 1; (try simp only [show (k51).sz = 4 from rfl, Nat.mul_one, Nat.add_zero] at hf12_1); have hx12_2 := hcc12 2 _ rfl; (try simp only [show (k51).sz = 4 from rfl, Nat.mul_one, Nat.add_zero] at hx12_2); have hf12_2 := hfr12 2; (try simp only [show (k51).sz = 4 from rfl, Nat.mul_one, Nat.add_zero] at hf12_2); have hx12_3 := hcc12 3 _ rfl; (try simp only [show (k51).sz = 4 from rfl, Nat.mul_one, Nat.add_zero] at hx12_3); have hf12_3 := hfr12 3; (try simp only [show (k51).sz = 4 from rfl, Nat.mul_one, Nat.add_zero] at hf12_3); clear hcl12 hcc12 hfr12 hM12) | ((with_reducible refine gs (t := 51) (p := 21) rfl ?_); refine se (t := 51) (p := 21) (v := ?vo_w13) (w1 := ((((w11.setCell ⟨go10, (x4_1 : Int).toNat * 4, none⟩ (.int .i64 t166)).setCell ⟨go10, (x4_1 : Int).toNat * 4 + 1, none⟩ (.int .i64 t167)).setCell ⟨go10, (x4_1 : Int).toNat * 4 + 2, none⟩ (.int .i64 t168)).setCell ⟨go10, (x4_1 : Int).toNat * 4 + 3, none⟩ (.bool t169))) ?hg ?ho ?hn ?hr ?_; (case ho => rfl); (case hg => rfl); (case hn => rfl); (case hr => first | (go_simp; done) | (go_simp; rfl)); intro w13 hw; have hg : w11.grownBy w13 (some go10) := (by rw [hw]; exact HP12.2); have hp_ : Kd.R k51 51 w13 w.heap.size (fun _ => True) (.slice (some ⟨go10, 0, none⟩) x3_1.length co10) y170 := (by rw [hw, Ny170.out]; exact HP12.1); clear HP12; have n0_ := AM (hp_); have n1_ := AM ((by rw [hw]; exact bs (bs (bs (bs (HB.out) GB10.out) GB10.out) GB10.out) GB10.out : Below w.heap.size w w13)); clear HO_3 HB; revert n0_ n1_; intro HO_3 HB; clear hg hw hp_))
                go_roundg k1
                case measure => have := HK1.out; omega
                case rel => exact ⟨(y170), (wrap64 (x4_1 + 1)), (by first | rfl | (simp; done) | (simp [*]; done)), H', ⟨by have := HK1.out; omega⟩, ⟨by (with_reducible repeat (first | apply Ra | apply Rn | apply Rd)); exact HO_3.out⟩, ⟨by repeat (first | (with_reducible first | exact HB.out | apply ba | apply bn | apply bd) | exact HB.out)⟩⟩
              · rw [if_neg c9] at H
                exact absurd H (by simp)
            · rw [if_neg c7] at H
              exact absurd H (by simp)
          · rw [if_neg c6] at H
            have c6b0 : decide (x4_1 < (l0.length : Int)) = false := decide_eq_false c6
            clear c6
            obtain rfl := Option.some.inj H
            go_wp2
            go_ret
            exact ⟨_, by first | rfl | (simp [errW_none, errW_some] <;> rfl) | (simp [*, errW_none, errW_some] <;> rfl), by (with_reducible repeat (first | apply Ra | apply Rn | apply Rd)); exact HO_3.out, by repeat (first | (with_reducible first | exact HB.out | apply ba | apply bn | apply bd) | exact HB.out)⟩
    · rw [if_neg c3] at H
      exact absurd H (by simp)
  · rw [if_neg c2] at H
    exact absurd H (by simp)

/-! ### laws_toQueue: function 6 -/
open Go.Proofs.YtfbdkjdockbfdabW.PrintWords.Aside0 renaming mk → AM
open Go.Proofs.YtfbdkjdockbfdabW.PrintWords renaming below_alloc → ba, pw_below_drewN → bn, below_drew1 → bd, below_set → bs, blk_drewN → kn, blk_drew → kd, blk_alloc → ka, blk_far → kf, blk_cell → kc, blk_frozen → kz, blk_below → kb, below_size → bz, below_step → bp, box_event → xe, gate_callee → gc, gate_dst → gd
open Go.Proofs.YtfbdkjdockbfdabW.PrintWords.Kd renaming R_alloc → Ra, R_drewN → Rn, R_drew → Rd, R_mono → Rm, R_far → Rf, R_types → Rt, R_lower → Rl, C_alloc → Ca, C_drewN → Cn, C_drew → Cd, C_below → Cb, R_slice → Ri
def laws_toQueue.f (k : Nat) (l0_0 : List (S54)) (a0_1 : Int) : Option ((List (S51)) × Int) := (laws_toTaskS.f k l0_0).bind fun t174 => (some (t174, a0_1))
theorem laws_toQueue.mono : ∀ a0 a1 k, LeO (laws_toQueue.f k a0 a1) (laws_toQueue.f (k + 1) a0 a1) := by
  intro a0 a1 k
  unfold laws_toQueue.f
  repeat' first
      | (with_reducible exact laws_toTaskS.mono _ _)
      | (with_reducible exact LeO.refl _)
      | (with_reducible exact LeO.none _)
      | (with_reducible refine LeO.ite ?_ ?_)
      | (with_reducible refine LeO.bind ?_ (fun _ => ?_))
      | exact laws_toTaskS.mono _ _
      | exact LeO.none _
      | refine LeO.ite ?_ ?_
      | refine LeO.bind ?_ (fun _ => ?_)
set_option maxHeartbeats 8000000 in
set_option maxRecDepth 100000 in
theorem laws_toQueue.calls (k : Nat) (A0_0 : Option Addr) (c0_0 : Nat) (l0_0 : List (S54)) (a0_1 : Int) (r1 : List (S51)) (r2 : Int) (w : World) (hr0_0 : Kd.C k54 w A0_0 l0_0.length l0_0) (hc0_0 : l0_0.length ≤ c0_0) (h : laws_toQueue.f k l0_0 a0_1 = some (r1, r2)) :
    Calls Try.prog 6 #[.agg #[.slice A0_0 l0_0.length c0_0, .int .i64 a0_1]] w fun e w' => ∃ v0_ : Value, e = .returned (.agg #[v0_, .int .i64 r2]) ∧ Kd.R k51 51 w' w.heap.size (fun _ => True) v0_ r1 ∧ Below w.heap.size w w' := by
  have hu24 := Try.underlying24
  have hu28 := Try.underlying28
  have HR0_0 := AM hr0_0
  have HC0_0 := AM hc0_0
  clear hr0_0 hc0_0
  have HB := AM (Below.refl w.heap.size w)
  have H : ((laws_toTaskS.f k l0_0).bind fun t174 => (some (t174, a0_1))) = some (r1, r2) := h
  clear h
  replace H := Option.bind_eq_some_iff.mp H
  obtain ⟨t174, A20, H⟩ := H
  replace H : (some (t174, a0_1)) = some (r1, r2) := H
  have A2 := AM A20
  clear A20
  simp only [Option.some.injEq, Prod.mk.injEq] at H
  obtain ⟨rfl, rfl⟩ := H
  go_enter Try.func6, Try.ntmps6
  go_wp2_with (first | ((with_reducible refine gd (N := 1) rfl ?_); refine xe ?hg (N := 1) ?hd (cs := #[.slice A0_0 l0_0.length c0_0, .int .i64 a0_1]) (t := 24) ?hr ?_; (case hd => rfl); (case hg => rfl); (case hr => first | (go_simp; done) | (go_simp; rfl)); intro gb171 hg w3 hbox hb; have n0_ := AM (bp (lfB HB.out) hb); have n1_ := AM (hbox); have n2_ := AM ((by rw [hg]; exact (bz (lfB HB.out)) : w.heap.size ≤ gb171)); have n3_ := AM ((by rw [hg]; exact (bz (lfB HB.out)) : w.heap.size ≤ gb171)); clear HB; revert n0_ n1_ n2_ n3_; intro HB BK171 GW171 GE171; clear hb hbox hg) | ((with_reducible refine gd (N := 2) rfl ?_); refine xe ?hg (N := 2) ?hd (cs := #[.slice none 0 0, .int .i64 0]) (t := 28) ?hr ?_; (case hd => rfl); (case hg => rfl); (case hr => first | (go_simp; done) | (go_simp; rfl)); intro gb172 hg w4 hbox hb; have n0_ := AM (kb (g := gb171) (o := .cells #[.slice A0_0 l0_0.length c0_0, .int .i64 a0_1] 24 (0, 0)) (lfK BK171.out) hb); have n1_ := AM (bp (by repeat (first | (with_reducible first | exact HB.out | apply ba | apply bn | apply bd | refine bs ?_ GE171.out) | exact HB.out)) hb); have n2_ := AM (hbox); have n3_ := AM ((by rw [hg]; exact (bz (by repeat (first | (with_reducible first | exact HB.out | apply ba | apply bn | apply bd | refine bs ?_ GE171.out) | exact HB.out))) : w.heap.size ≤ gb172)); have n4_ := AM ((by rw [hg]; exact (bz (by repeat (first | (with_reducible first | exact HB.out | apply ba | apply bn | apply bd | refine bs ?_ GE171.out) | exact HB.out))) : w.heap.size ≤ gb172)); have n5_ := AM ((by rw [hg]; exact Nat.ne_of_lt (blk_lt (g := gb171) (o := .cells #[.slice A0_0 l0_0.length c0_0, .int .i64 a0_1] 24 (0, 0)) (lfK BK171.out)) : gb171 ≠ gb172)); have n6_ := AM ((by rw [hg]; exact Nat.ne_of_gt (blk_lt (g := gb171) (o := .cells #[.slice A0_0 l0_0.length c0_0, .int .i64 a0_1] 24 (0, 0)) (lfK BK171.out)) : gb172 ≠ gb171)); clear BK171 HB; revert n0_ n1_ n2_ n3_ n4_ n5_ n6_; intro BK171 HB BK172 GW172 GE172 NB171_172 NB172_171; clear hb hbox hg) | ((with_reducible refine gd (N := 3) rfl ?_); refine xe ?hg (N := 3) ?hd (cs := #[.slice none 0 0, .int .i64 0]) (t := 28) ?hr ?_; (case hd => rfl); (case hg => rfl); (case hr => first | (go_simp; done) | (go_simp; rfl)); intro gb173 hg w5 hbox hb; have n0_ := AM (kb (g := gb171) (o := .cells #[.slice A0_0 l0_0.length c0_0, .int .i64 a0_1] 24 (0, 0)) (lfK BK171.out) hb); have n1_ := AM (kb (g := gb172) (o := .cells #[.slice none 0 0, .int .i64 0] 28 (0, 0)) (lfK BK172.out) hb); have n2_ := AM (bp (by repeat (first | (with_reducible first | exact HB.out | apply ba | apply bn | apply bd | refine bs ?_ GE171.out | refine bs ?_ GE172.out) | exact HB.out)) hb); have n3_ := AM (hbox); have n4_ := AM ((by rw [hg]; exact (bz (by repeat (first | (with_reducible first | exact HB.out | apply ba | apply bn | apply bd | refine bs ?_ GE171.out | refine bs ?_ GE172.out) | exact HB.out))) : w.heap.size ≤ gb173)); have n5_ := AM ((by rw [hg]; exact (bz (by repeat (first | (with_reducible first | exact HB.out | apply ba | apply bn | apply bd | refine bs ?_ GE171.out | refine bs ?_ GE172.out) | exact HB.out))) : w.heap.size ≤ gb173)); have n6_ := AM ((by rw [hg]; exact Nat.ne_of_lt (blk_lt (g := gb171) (o := .cells #[.slice A0_0 l0_0.length c0_0, .int .i64 a0_1] 24 (0, 0)) (lfK BK171.out)) : gb171 ≠ gb173)); have n7_ := AM ((by rw [hg]; exact Nat.ne_of_gt (blk_lt (g := gb171) (o := .cells #[.slice A0_0 l0_0.length c0_0, .int .i64 a0_1] 24 (0, 0)) (lfK BK171.out)) : gb173 ≠ gb171)); have n8_ := AM ((by rw [hg]; exact Nat.ne_of_lt (blk_lt (g := gb172) (o := .cells #[.slice none 0 0, .int .i64 0] 28 (0, 0)) (lfK BK172.out)) : gb172 ≠ gb173)); have n9_ := AM ((by rw [hg]; exact Nat.ne_of_gt (blk_lt (g := gb172) (o := .cells #[.slice none 0 0, .int .i64 0] 28 (0, 0)) (lfK BK172.out)) : gb173 ≠ gb172)); clear BK171 BK172 HB; revert n0_ n1_ n2_ n3_ n4_ n5_ n6_ n7_ n8_ n9_; intro BK171 BK172 HB BK173 GW173 GE173 NB171_173 NB173_171 NB172_173 NB173_172; clear hb hbox hg; have hnb6 := NB171_172.out; have hnc6 := NB172_171.out; have hnb7 := NB171_173.out; have hnc7 := NB173_171.out; have hcz8_0 : w5.cell? ⟨gb171, 0, none⟩ = some (.slice A0_0 l0_0.length c0_0) := (kc BK171.out 0).trans rfl; have hcz8_1 : w5.cell? ⟨gb171, 1, none⟩ = some (.int .i64 a0_1) := (kc BK171.out 1).trans rfl; have hfz8_0 := kz BK171.out 0; have hfz8_1 := kz BK171.out 1) | ((with_reducible refine gc (f := 19) rfl ?_); refine goesL_ (some 6) rfl rfl Try.func19 (by kernel_rfl) rfl #[.slice A0_0 l0_0.length c0_0] rfl (by (try simp only [List.map_toArray, List.map_cons, List.map_nil]); first | done | rfl | (simp only [List.length_drop, List.length_take]; rfl)) ?_; (with_reducible refine (laws_toTaskS.calls k _ _ l0_0 t174 _ ?side1 ?side2 A2.out).mono ?_); (case side1 => repeat (first | exact (Cb HR0_0.out HB.out) | (with_reducible refine Ca ?_ _) | (with_reducible refine Cn ?_ _) | (with_reducible refine Cd ?_))); (case side2 => exact HC0_0.out); rintro e w9 ⟨v175, rfl, ho0, hb⟩; refine ⟨_, rfl, ?_⟩; have n0_ := AM (Rl ho0 (bz (by repeat (first | (with_reducible first | exact HB.out | apply ba | apply bn | apply bd | refine bs ?_ GE171.out | refine bs ?_ GE172.out | refine bs ?_ GE173.out) | exact HB.out)))); have n1_ := AM (kb (g := gb171) (o := .cells #[.slice A0_0 l0_0.length c0_0, .int .i64 a0_1] 24 (0, 0)) (lfK BK171.out) hb); have n2_ := AM (kb (g := gb172) (o := .cells #[.slice none 0 0, .int .i64 0] 28 (0, 0)) (lfK BK172.out) hb); have n3_ := AM (kb (g := gb173) (o := .cells #[.slice none 0 0, .int .i64 0] 28 (0, 0)) (lfK BK173.out) hb); have n4_ := AM (bp (by repeat (first | (with_reducible first | exact HB.out | apply ba | apply bn | apply bd | refine bs ?_ GE171.out | refine bs ?_ GE172.out | refine bs ?_ GE173.out) | exact HB.out)) hb); clear BK171 BK172 BK173 HB; revert n0_ n1_ n2_ n3_ n4_; intro HO176 BK171 BK172 BK173 HB; (try clear hb ho0); obtain ⟨Ao10, co10, eo10⟩ := Ri HO176.out; subst eo10; have hnb11 := NB173_172.out; have hnc11 := NB172_173.out; have hcz12_0 : w9.cell? ⟨gb173, 0, none⟩ = some (.slice none 0 0) := (kc BK173.out 0).trans rfl; have hcz12_1 : w9.cell? ⟨gb173, 1, none⟩ = some (.int .i64 0) := (kc BK173.out 1).trans rfl; have hfz12_0 := kz BK173.out 0; have hfz12_1 := kz BK173.out 1; have hcz13_0 : w9.cell? ⟨gb171, 0, none⟩ = some (.slice A0_0 l0_0.length c0_0) := (kc BK171.out 0).trans rfl; have hcz13_1 : w9.cell? ⟨gb171, 1, none⟩ = some (.int .i64 a0_1) := (kc BK171.out 1).trans rfl; have hfz13_0 := kz BK171.out 0; have hfz13_1 := kz BK171.out 1; have hcz14_0 : w9.cell? ⟨gb172, 0, none⟩ = some (.slice none 0 0) := (kc BK172.out 0).trans rfl; have hcz14_1 : w9.cell? ⟨gb172, 1, none⟩ = some (.int .i64 0) := (kc BK172.out 1).trans rfl; have hfz14_0 := kz BK172.out 0; have hfz14_1 := kz BK172.out 1))
  refine bodyPost_ret (results_cell_row rfl _ _ gb172 28 #[.slice Ao10 t174.length co10, .int .i64 a0_1] (0, 0) _ rfl (by (with_reducible repeat (first | refine kn ?_ _ | refine kd ?_ | refine ka ?_ _)); refine blk_put (cs := #[.slice Ao10 t174.length co10, .int .i64 0]) ?_ 1 _ rfl; (with_reducible repeat (first | refine kn ?_ _ | refine kd ?_ | refine ka ?_ _)); refine blk_put (cs := #[.slice none 0 0, .int .i64 0]) ?_ 0 _ rfl; (with_reducible repeat (first | refine kn ?_ _ | refine kd ?_ | refine ka ?_ _)); refine kf ?_ NB172_173.out _; (with_reducible repeat (first | refine kn ?_ _ | refine kd ?_ | refine ka ?_ _)); refine kf ?_ NB172_173.out _; (with_reducible repeat (first | refine kn ?_ _ | refine kd ?_ | refine ka ?_ _)); exact BK172.out) Try.underlying28 rfl (by kernel_rfl)) rfl ?_
  exact ⟨_, by first | rfl | (simp [errW_none, errW_some] <;> rfl) | (simp [*, errW_none, errW_some] <;> rfl), by (with_reducible repeat (first | apply Ra | apply Rn | apply Rd)); exact Rm (Rf (p := ⟨gb172, 1, none⟩) (Rf (p := ⟨gb172, 0, none⟩) (Rf (p := ⟨gb173, 1, none⟩) (Rf (p := ⟨gb173, 0, none⟩) (Rt (Rt HO176.out BK173.out (by decide)) BK172.out (by decide)) (fun _ hk => hk.1.2) (.slice Ao10 t174.length co10)) (fun _ hk => hk.1.2) (.int .i64 a0_1)) (fun _ hk => hk.2) (.slice Ao10 t174.length co10)) (fun _ hk => hk.2) (.int .i64 a0_1)) (fun _ hk => trivial), by repeat (first | (with_reducible first | exact HB.out | apply ba | apply bn | apply bd | refine bs ?_ GE171.out | refine bs ?_ GE172.out | refine bs ?_ GE173.out) | exact HB.out)⟩

/-! ### impl_in: function 21 -/
def impl_in.f (a0 : Int) (a1 : Int) (a2 : Int) : Option (Bool) := if a0 ≥ a1 then (some (decide (a0 ≤ a2))) else (some false)
set_option maxHeartbeats 8000000 in
set_option maxRecDepth 100000 in
theorem impl_in.calls (a0 : Int) (a1 : Int) (a2 : Int) (r : Bool) (w : World) (h : impl_in.f a0 a1 a2 = some r) :
    Calls Try.prog 21 #[.int .i64 a0, .int .i64 a1, .int .i64 a2] w fun e w' => e = .returned (.bool r) ∧ Drawn0 w w' := by
  have H : (if a0 ≥ a1 then (some (decide (a0 ≤ a2))) else (some false)) = some r := h
  clear h
  by_cases c4 : a0 ≥ a1
  · rw [if_pos c4] at H
    have c4b0 : decide (a1 ≤ a0) = true := decide_eq_true c4
    clear c4
    obtain rfl := Option.some.inj H
    go_enter Try.func21, Try.ntmps21
    go_wp2
    go_ret
    exact ⟨by first | rfl | (simp; done) | (simp [*]; done), by repeat (first | exact Drawn0.refl _ | apply Drawn0.step)⟩
  · rw [if_neg c4] at H
    have c4b0 : decide (a1 ≤ a0) = false := decide_eq_false c4
    clear c4
    obtain rfl := Option.some.inj H
    go_enter Try.func21, Try.ntmps21
    go_wp2
    go_ret
    exact ⟨by first | rfl | (simp; done) | (simp [*]; done), by repeat (first | exact Drawn0.refl _ | apply Drawn0.step)⟩

end Go.Proofs.Ytfbdkjdockbfdab.GQ
