-- Written by this session's program hp.py (over the kit's printer) and out of its own hand texts. Not trusted: Lean checks it.
import Derived.Test.YtpcohpkflkhfbaaGSnxx0
import Derived.Test.YtpcohpkflkhfbaaGSnxx3
import Derived.Test.YtpcohpkflkhfbaaGSnxx4
namespace Go.Proofs.Ytpcohpkflkhfbaa.GSnx
open Go.RowKit Go.Proofs.YtpcohpkflkhfbaaW.PrintWords Go.Proofs.YtpcohpkflkhfbaaW.PrintLast Go.Proofs.YtpcohpkflkhfbaaW.PrintMore
attribute [local go_sem] max2_int min2_int max_two min_two max_three min_three max_four min_four   -- for this text's walks alone
set_option linter.unusedVariables false
set_option linter.unusedSimpArgs false

/-! ### spec_l10Next: function 69 -/
open Go.Proofs.YtpcohpkflkhfbaaW.PrintWords.Aside0 renaming mk → AM
open Go.Proofs.YtpcohpkflkhfbaaW.PrintWords renaming below_alloc → ba, pw_below_drewN → bn, below_drew1 → bd, below_set → bs, blk_drewN → kn, blk_drew → kd, blk_alloc → ka, blk_cell → kc, blk_frozen → kz, below_size → bz, below_step → bp, box_event → xe, gate_dst → gd
def spec_l10Next.l0 : Nat → Int → List Bool → List Bool → List Int → Option (Int)
  | 0, _, _, _, _ => none
  | k + 1, x3, x180000, x180001, x180002 => if x3 ≤ 8 then (if 0 ≤ (wrap64 (x3 - 1)) then (if (wrap64 (x3 - 1)) < (x180000.length : Int) then (if rdOf false x180000 (wrap64 (x3 - 1)) = true then (if (wrap64 (x3 - 1)) < (x180001.length : Int) then (if (rdOf false x180001 (wrap64 (x3 - 1)) = true) then (spec_l10Next.l0 k (wrap64 (x3 + 1)) x180000 x180001 x180002) else (some x3)) else (none)) else (spec_l10Next.l0 k (wrap64 (x3 + 1)) x180000 x180001 x180002)) else (none)) else (none)) else (some 0)
def spec_l10Next.f (k : Nat) (l0_0 : List Bool) (l0_1 : List Bool) (l0_2 : List Int) : Option (Int) := spec_l10Next.l0 k 1 l0_0 l0_1 l0_2
theorem spec_l10Next.mono_l : ∀ k, (∀ y0 y1 y2 y3, LeO (spec_l10Next.l0 k y0 y1 y2 y3) (spec_l10Next.l0 (k + 1) y0 y1 y2 y3))
  | 0 => fun _ _ _ _ r h => by simp [spec_l10Next.l0] at h
  | k + 1 => by
    have ih0 := spec_l10Next.mono_l k
    · intro y0 y1 y2 y3
      unfold spec_l10Next.l0
      repeat' first
      | (with_reducible exact ih0 _ _ _ _)
      | (with_reducible exact LeO.refl _)
      | (with_reducible exact LeO.none _)
      | (with_reducible refine LeO.ite ?_ ?_)
      | (with_reducible refine LeO.bind ?_ (fun _ => ?_))
      | exact ih0 _ _ _ _
      | exact LeO.none _
      | refine LeO.ite ?_ ?_
      | refine LeO.bind ?_ (fun _ => ?_)
theorem spec_l10Next.mono : ∀ a0 a1 a2 k, LeO (spec_l10Next.f k a0 a1 a2) (spec_l10Next.f (k + 1) a0 a1 a2) := by
  intro a0 a1 a2 k
  have ih0 := spec_l10Next.mono_l k
  unfold spec_l10Next.f
  repeat' first
      | (with_reducible exact ih0 _ _ _ _)
      | (with_reducible exact LeO.refl _)
      | (with_reducible exact LeO.none _)
      | (with_reducible refine LeO.ite ?_ ?_)
      | (with_reducible refine LeO.bind ?_ (fun _ => ?_))
      | exact ih0 _ _ _ _
      | exact LeO.none _
      | refine LeO.ite ?_ ?_
      | refine LeO.bind ?_ (fun _ => ?_)
set_option maxHeartbeats 8000000 in
set_option maxRecDepth 100000 in
theorem spec_l10Next.calls (k : Nat) (A0_0 : Option Addr) (c0_0 : Nat) (l0_0 : List Bool) (A0_1 : Option Addr) (c0_1 : Nat) (l0_1 : List Bool) (A0_2 : Option Addr) (c0_2 : Nat) (l0_2 : List Int) (r : Int) (w : World) (hr0_0 : Kd.C Kd.bool w A0_0 l0_0.length l0_0) (hc0_0 : l0_0.length ≤ c0_0) (hr0_1 : Kd.C Kd.bool w A0_1 l0_1.length l0_1) (hc0_1 : l0_1.length ≤ c0_1) (hr0_2 : Kd.C (Kd.int .i64) w A0_2 l0_2.length l0_2) (hc0_2 : l0_2.length ≤ c0_2) (h : spec_l10Next.f k l0_0 l0_1 l0_2 = some r) :
    Calls Try.prog 69 #[.agg #[.slice A0_0 l0_0.length c0_0, .slice A0_1 l0_1.length c0_1, .slice A0_2 l0_2.length c0_2]] w fun e w' => e = .returned (.int .i64 r) ∧ Below w.heap.size w w' := by
  have hu27 := Try.underlying27
  have HR0_0 := AM hr0_0
  have HC0_0 := AM hc0_0
  clear hr0_0 hc0_0
  have HR0_1 := AM hr0_1
  have HC0_1 := AM hc0_1
  clear hr0_1 hc0_1
  have HR0_2 := AM hr0_2
  have HC0_2 := AM hc0_2
  clear hr0_2 hc0_2
  have HB := AM (Below.refl w.heap.size w)
  have H : (spec_l10Next.l0 k 1 l0_0 l0_1 l0_2) = some r := h
  clear h
  have H' := AM H
  clear H
  go_enter Try.func69, Try.ntmps69
  go_wp2_with (first | ((with_reducible refine gd (N := 1) rfl ?_); refine xe ?hg (N := 1) ?hd (cs := #[.slice A0_0 l0_0.length c0_0, .slice A0_1 l0_1.length c0_1, .slice A0_2 l0_2.length c0_2]) (t := 27) ?hr ?_; (case hd => rfl); (case hg => rfl); (case hr => first | (go_simp; done) | (go_simp; rfl)); intro gb179 hg w2 hbox hb; have n0_ := AM (bp (lfB HB.out) hb); have n1_ := AM (hbox); have n2_ := AM ((by rw [hg]; exact (bz (lfB HB.out)) : w.heap.size ≤ gb179)); have n3_ := AM ((by rw [hg]; exact (bz (lfB HB.out)) : w.heap.size ≤ gb179)); clear HB; revert n0_ n1_ n2_ n3_; intro HB BK179 GW179 GE179; clear hb hbox hg))
  go_loopg [3] k (fun kq v3 w' => ∃ (x3_1 : Int), v3 = .int .i64 x3_1 ∧ Aside0 (spec_l10Next.l0 kq x3_1 l0_0 l0_1 l0_2 = some r) ∧ Aside0 (kq ≤ k) ∧ Aside0 (w'.heap[gb179]? = some (.cells #[(.slice A0_0 l0_0.length c0_0), (.slice A0_1 l0_1.length c0_1), (.slice A0_2 l0_2.length c0_2)] 27 (0, 0))) ∧ Aside0 (Below w.heap.size w w'))
  case atStart => exact ⟨(1), (by first | rfl | (simp; done) | (simp [*]; done)), H', ⟨Nat.le_refl _⟩, ⟨by (with_reducible repeat (first | refine kn ?_ _ | refine kd ?_ | refine ka ?_ _)); exact BK179.out⟩, ⟨by repeat (first | (with_reducible first | exact HB.out | apply ba | apply bn | apply bd | refine bs ?_ GE179.out) | exact HB.out)⟩⟩
  case round =>
    clear H'
    obtain ⟨x3_1, rfl, HA, HK1, BK179, HB⟩ := hrel
    cases gk with
    | zero => exact absurd HA.out (by simp [spec_l10Next.l0])
    | succ k1 =>
      have H := HA.out
      clear HA
      simp only [spec_l10Next.l0] at H
      by_cases c3 : x3_1 ≤ 8
      · rw [if_pos c3] at H
        have c3b0 : decide (x3_1 ≤ 8) = true := decide_eq_true c3
        clear c3
        obtain ⟨ji4, hji4⟩ : ∃ j_ : Int, (wrap64 (x3_1 - 1)) = j_ := ⟨_, rfl⟩
        replace H : (if 0 ≤ (ji4) then (if (ji4) < (l0_0.length : Int) then (if rdOf false l0_0 (ji4) = true then (if (ji4) < (l0_1.length : Int) then (if (rdOf false l0_1 (ji4) = true) then (spec_l10Next.l0 k1 (wrap64 (x3_1 + 1)) l0_0 l0_1 l0_2) else (some x3_1)) else (none)) else (spec_l10Next.l0 k1 (wrap64 (x3_1 + 1)) l0_0 l0_1 l0_2)) else (none)) else (none)) = some r := by first | (rw [hji4] at H; exact H) | (simp only [hji4] at H ⊢; exact H)
        have hji4w : (IntKind.i64.wrap (x3_1 - 1)) = ji4 := (i64_w _).trans hji4
        by_cases c5 : 0 ≤ (ji4)
        · rw [if_pos c5] at H
          have c5b0 : decide (0 ≤ (ji4)) = true := decide_eq_true c5
          clear c5
          by_cases c6 : (ji4) < (l0_0.length : Int)
          · rw [if_pos c6] at H
            have c6b0 : decide ((ji4) < (l0_0.length : Int)) = true := decide_eq_true c6
            clear c6
            obtain ⟨bq7, hbq7⟩ : ∃ b_ : Bool, b_ = (rdOf false l0_0 (ji4)) := ⟨_, rfl⟩
            replace H : (if bq7 = true then (if (ji4) < (l0_1.length : Int) then (if (rdOf false l0_1 (ji4) = true) then (spec_l10Next.l0 k1 (wrap64 (x3_1 + 1)) l0_0 l0_1 l0_2) else (some x3_1)) else (none)) else (spec_l10Next.l0 k1 (wrap64 (x3_1 + 1)) l0_0 l0_1 l0_2)) = some r := by rw [← hbq7] at H; exact H
            have Nbq7 := AM hbq7
            clear hbq7
            by_cases c8 : bq7 = true
            · subst c8
              have H1 : (if (ji4) < (l0_1.length : Int) then (if (rdOf false l0_1 (ji4) = true) then (spec_l10Next.l0 k1 (wrap64 (x3_1 + 1)) l0_0 l0_1 l0_2) else (some x3_1)) else (none)) = some r := by rw [if_pos rfl] at H; exact H
              clear H
              have H := H1
              clear H1
              by_cases c9 : (ji4) < (l0_1.length : Int)
              · rw [if_pos c9] at H
                have c9b0 : decide ((ji4) < (l0_1.length : Int)) = true := decide_eq_true c9
                clear c9
                obtain ⟨bq10, hbq10⟩ : ∃ b_ : Bool, b_ = (rdOf false l0_1 (ji4)) := ⟨_, rfl⟩
                replace H : (if (bq10 = true) then (spec_l10Next.l0 k1 (wrap64 (x3_1 + 1)) l0_0 l0_1 l0_2) else (some x3_1)) = some r := by rw [← hbq10] at H; exact H
                have Nbq10 := AM hbq10
                clear hbq10
                by_cases c11 : (bq10 = true)
                · subst c11
                  have H1 : (spec_l10Next.l0 k1 (wrap64 (x3_1 + 1)) l0_0 l0_1 l0_2) = some r := by rw [if_pos rfl] at H; exact H
                  clear H
                  have H := H1
                  clear H1
                  have H' := AM H
                  clear H
                  have hcz12_0 : wr.cell? ⟨gb179, 0, none⟩ = some (.slice A0_0 l0_0.length c0_0) := (kc BK179.out 0).trans rfl
                  have hcz12_1 : wr.cell? ⟨gb179, 1, none⟩ = some (.slice A0_1 l0_1.length c0_1) := (kc BK179.out 1).trans rfl
                  have hcz12_2 : wr.cell? ⟨gb179, 2, none⟩ = some (.slice A0_2 l0_2.length c0_2) := (kc BK179.out 2).trans rfl
                  have hfz12_0 := kz BK179.out 0
                  have hfz12_1 := kz BK179.out 1
                  have hfz12_2 := kz BK179.out 2
                  have p180 : 0 ≤ ((ji4) : Int) := of_decide_eq_true (by first | (with_reducible assumption) | assumption)
                  have q180 : (ji4) < (l0_0.length : Int) := of_decide_eq_true (by first | (with_reducible assumption) | assumption)
                  obtain ⟨ad180, e180, hx180_0⟩ := Kd.at_bool HR0_0.out (ji4) p180 q180
                  (try rw [← Nbq7.out] at hx180_0)
                  (try rw [← Nbq10.out] at hx180_0)
                  cases e180
                  replace hx180_0 := (HB.out.cell (World.block_lt_of_cell? w _ hx180_0)).trans hx180_0
                  replace p180 := eq_true p180
                  replace q180 := eq_true q180
                  have p181 : 0 ≤ ((ji4) : Int) := of_decide_eq_true (by first | (with_reducible assumption) | assumption)
                  have q181 : (ji4) < (l0_1.length : Int) := of_decide_eq_true (by first | (with_reducible assumption) | assumption)
                  obtain ⟨ad181, e181, hx181_0⟩ := Kd.at_bool HR0_1.out (ji4) p181 q181
                  (try rw [← Nbq7.out] at hx181_0)
                  (try rw [← Nbq10.out] at hx181_0)
                  cases e181
                  replace hx181_0 := (HB.out.cell (World.block_lt_of_cell? w _ hx181_0)).trans hx181_0
                  replace p181 := eq_true p181
                  replace q181 := eq_true q181
                  go_wp2
                  go_roundg k1
                  case measure => have := HK1.out; omega
                  case rel => exact ⟨(wrap64 (x3_1 + 1)), (by first | rfl | (simp; done) | (simp [*]; done)), H', ⟨by have := HK1.out; omega⟩, ⟨by (with_reducible repeat (first | refine kn ?_ _ | refine kd ?_ | refine ka ?_ _)); exact BK179.out⟩, ⟨by repeat (first | (with_reducible first | exact HB.out | apply ba | apply bn | apply bd | refine bs ?_ GE179.out) | exact HB.out)⟩⟩
                · replace c11 := Bool.eq_false_iff.mpr c11
                  subst c11
                  have H1 : (some x3_1) = some r := by rw [if_neg (show ¬ (false = true) by decide)] at H; exact H
                  clear H
                  have H := H1
                  clear H1
                  obtain rfl := Option.some.inj H
                  have hcz13_0 : wr.cell? ⟨gb179, 0, none⟩ = some (.slice A0_0 l0_0.length c0_0) := (kc BK179.out 0).trans rfl
                  have hcz13_1 : wr.cell? ⟨gb179, 1, none⟩ = some (.slice A0_1 l0_1.length c0_1) := (kc BK179.out 1).trans rfl
                  have hcz13_2 : wr.cell? ⟨gb179, 2, none⟩ = some (.slice A0_2 l0_2.length c0_2) := (kc BK179.out 2).trans rfl
                  have hfz13_0 := kz BK179.out 0
                  have hfz13_1 := kz BK179.out 1
                  have hfz13_2 := kz BK179.out 2
                  have p180 : 0 ≤ ((ji4) : Int) := of_decide_eq_true (by first | (with_reducible assumption) | assumption)
                  have q180 : (ji4) < (l0_0.length : Int) := of_decide_eq_true (by first | (with_reducible assumption) | assumption)
                  obtain ⟨ad180, e180, hx180_0⟩ := Kd.at_bool HR0_0.out (ji4) p180 q180
                  (try rw [← Nbq7.out] at hx180_0)
                  (try rw [← Nbq10.out] at hx180_0)
                  cases e180
                  replace hx180_0 := (HB.out.cell (World.block_lt_of_cell? w _ hx180_0)).trans hx180_0
                  replace p180 := eq_true p180
                  replace q180 := eq_true q180
                  have p181 : 0 ≤ ((ji4) : Int) := of_decide_eq_true (by first | (with_reducible assumption) | assumption)
                  have q181 : (ji4) < (l0_1.length : Int) := of_decide_eq_true (by first | (with_reducible assumption) | assumption)
                  obtain ⟨ad181, e181, hx181_0⟩ := Kd.at_bool HR0_1.out (ji4) p181 q181
                  (try rw [← Nbq7.out] at hx181_0)
                  (try rw [← Nbq10.out] at hx181_0)
                  cases e181
                  replace hx181_0 := (HB.out.cell (World.block_lt_of_cell? w _ hx181_0)).trans hx181_0
                  replace p181 := eq_true p181
                  replace q181 := eq_true q181
                  go_wp2
                  go_ret
                  exact ⟨by first | rfl | (simp [errW_none, errW_some] <;> rfl) | (simp only [← hji4]; first | rfl | (simp [errW_none, errW_some] <;> rfl)) | (simp [*, errW_none, errW_some] <;> rfl), by repeat (first | (with_reducible first | exact HB.out | apply ba | apply bn | apply bd | refine bs ?_ GE179.out) | exact HB.out)⟩
              · rw [if_neg c9] at H
                exact absurd H (by simp)
            · replace c8 := Bool.eq_false_iff.mpr c8
              subst c8
              have H1 : (spec_l10Next.l0 k1 (wrap64 (x3_1 + 1)) l0_0 l0_1 l0_2) = some r := by rw [if_neg (show ¬ (false = true) by decide)] at H; exact H
              clear H
              have H := H1
              clear H1
              have H' := AM H
              clear H
              have hcz14_0 : wr.cell? ⟨gb179, 0, none⟩ = some (.slice A0_0 l0_0.length c0_0) := (kc BK179.out 0).trans rfl
              have hcz14_1 : wr.cell? ⟨gb179, 1, none⟩ = some (.slice A0_1 l0_1.length c0_1) := (kc BK179.out 1).trans rfl
              have hcz14_2 : wr.cell? ⟨gb179, 2, none⟩ = some (.slice A0_2 l0_2.length c0_2) := (kc BK179.out 2).trans rfl
              have hfz14_0 := kz BK179.out 0
              have hfz14_1 := kz BK179.out 1
              have hfz14_2 := kz BK179.out 2
              have p180 : 0 ≤ ((ji4) : Int) := of_decide_eq_true (by first | (with_reducible assumption) | assumption)
              have q180 : (ji4) < (l0_0.length : Int) := of_decide_eq_true (by first | (with_reducible assumption) | assumption)
              obtain ⟨ad180, e180, hx180_0⟩ := Kd.at_bool HR0_0.out (ji4) p180 q180
              (try rw [← Nbq7.out] at hx180_0)
              cases e180
              replace hx180_0 := (HB.out.cell (World.block_lt_of_cell? w _ hx180_0)).trans hx180_0
              replace p180 := eq_true p180
              replace q180 := eq_true q180
              go_wp2
              go_roundg k1
              case measure => have := HK1.out; omega
              case rel => exact ⟨(wrap64 (x3_1 + 1)), (by first | rfl | (simp; done) | (simp [*]; done)), H', ⟨by have := HK1.out; omega⟩, ⟨by (with_reducible repeat (first | refine kn ?_ _ | refine kd ?_ | refine ka ?_ _)); exact BK179.out⟩, ⟨by repeat (first | (with_reducible first | exact HB.out | apply ba | apply bn | apply bd | refine bs ?_ GE179.out) | exact HB.out)⟩⟩
          · rw [if_neg c6] at H
            exact absurd H (by simp)
        · rw [if_neg c5] at H
          exact absurd H (by simp)
      · rw [if_neg c3] at H
        have c3b0 : decide (x3_1 ≤ 8) = false := decide_eq_false c3
        clear c3
        obtain rfl := Option.some.inj H
        go_wp2
        go_ret
        exact ⟨by first | rfl | (simp [errW_none, errW_some] <;> rfl) | (simp [*, errW_none, errW_some] <;> rfl), by repeat (first | (with_reducible first | exact HB.out | apply ba | apply bn | apply bd | refine bs ?_ GE179.out) | exact HB.out)⟩

/-! ### spec_l10Does: function 70 -/
open Go.Proofs.YtpcohpkflkhfbaaW.PrintWords.Aside0 renaming mk → AM
open Go.Proofs.YtpcohpkflkhfbaaW.PrintWords renaming below_alloc → ba, pw_below_drewN → bn, below_drew1 → bd, below_set → bs, blk_drewN → kn, blk_drew → kd, blk_alloc → ka, blk_cell → kc, blk_frozen → kz, below_size → bz, below_step → bp, box_event → xe, gate_dst → gd
def spec_l10Does.j0 : Nat → Int → Bool → Option (Int)
  | 0, _, _ => none
  | k + 1, x1, x19 => if x19 = true then (some 2) else (if x1 = 3 then (some 3) else (if x1 = 4 then (some 1) else (if x1 = 7 then (some 1) else (some 0))))
def spec_l10Does.f (k : Nat) (l0_0 : List Bool) (l0_1 : List Bool) (l0_2 : List Int) (a1 : Int) : Option (Int) := if 0 ≤ (wrap64 (a1 - 1)) then (if (wrap64 (a1 - 1)) < (l0_2.length : Int) then (if (rd l0_2 (wrap64 (a1 - 1))) = 0 then (if a1 = 2 then (spec_l10Does.j0 k a1 true) else (spec_l10Does.j0 k a1 (a1 == 6))) else (some (rd l0_2 (wrap64 (a1 - 1))))) else (none)) else (none)
theorem spec_l10Does.mono_l : ∀ k, (∀ y0 y1, LeO (spec_l10Does.j0 k y0 y1) (spec_l10Does.j0 (k + 1) y0 y1))
  | 0 => fun _ _ r h => by simp [spec_l10Does.j0] at h
  | k + 1 => by
    have ih0 := spec_l10Does.mono_l k
    · intro y0 y1
      unfold spec_l10Does.j0
      repeat' first
      | (with_reducible exact ih0 _ _)
      | (with_reducible exact LeO.refl _)
      | (with_reducible exact LeO.none _)
      | (with_reducible refine LeO.ite ?_ ?_)
      | (with_reducible refine LeO.bind ?_ (fun _ => ?_))
      | exact ih0 _ _
      | exact LeO.none _
      | refine LeO.ite ?_ ?_
      | refine LeO.bind ?_ (fun _ => ?_)
theorem spec_l10Does.mono : ∀ a0 a1 a2 a3 k, LeO (spec_l10Does.f k a0 a1 a2 a3) (spec_l10Does.f (k + 1) a0 a1 a2 a3) := by
  intro a0 a1 a2 a3 k
  have ih0 := spec_l10Does.mono_l k
  unfold spec_l10Does.f
  repeat' first
      | (with_reducible exact ih0 _ _)
      | (with_reducible exact LeO.refl _)
      | (with_reducible exact LeO.none _)
      | (with_reducible refine LeO.ite ?_ ?_)
      | (with_reducible refine LeO.bind ?_ (fun _ => ?_))
      | exact ih0 _ _
      | exact LeO.none _
      | refine LeO.ite ?_ ?_
      | refine LeO.bind ?_ (fun _ => ?_)
set_option maxHeartbeats 8000000 in
set_option maxRecDepth 100000 in
theorem spec_l10Does.calls (k : Nat) (A0_0 : Option Addr) (c0_0 : Nat) (l0_0 : List Bool) (A0_1 : Option Addr) (c0_1 : Nat) (l0_1 : List Bool) (A0_2 : Option Addr) (c0_2 : Nat) (l0_2 : List Int) (a1 : Int) (r : Int) (w : World) (hr0_0 : Kd.C Kd.bool w A0_0 l0_0.length l0_0) (hc0_0 : l0_0.length ≤ c0_0) (hr0_1 : Kd.C Kd.bool w A0_1 l0_1.length l0_1) (hc0_1 : l0_1.length ≤ c0_1) (hr0_2 : Kd.C (Kd.int .i64) w A0_2 l0_2.length l0_2) (hc0_2 : l0_2.length ≤ c0_2) (h : spec_l10Does.f k l0_0 l0_1 l0_2 a1 = some r) :
    Calls Try.prog 70 #[.agg #[.slice A0_0 l0_0.length c0_0, .slice A0_1 l0_1.length c0_1, .slice A0_2 l0_2.length c0_2], .int .i64 a1] w fun e w' => e = .returned (.int .i64 r) ∧ Below w.heap.size w w' := by
  have hu27 := Try.underlying27
  have HR0_0 := AM hr0_0
  have HC0_0 := AM hc0_0
  clear hr0_0 hc0_0
  have HR0_1 := AM hr0_1
  have HC0_1 := AM hc0_1
  clear hr0_1 hc0_1
  have HR0_2 := AM hr0_2
  have HC0_2 := AM hc0_2
  clear hr0_2 hc0_2
  have HB := AM (Below.refl w.heap.size w)
  have H : (if 0 ≤ (wrap64 (a1 - 1)) then (if (wrap64 (a1 - 1)) < (l0_2.length : Int) then (if (rd l0_2 (wrap64 (a1 - 1))) = 0 then (if a1 = 2 then (spec_l10Does.j0 k a1 true) else (spec_l10Does.j0 k a1 (a1 == 6))) else (some (rd l0_2 (wrap64 (a1 - 1))))) else (none)) else (none)) = some r := h
  clear h
  obtain ⟨ji3, hji3⟩ : ∃ j_ : Int, (wrap64 (a1 - 1)) = j_ := ⟨_, rfl⟩
  replace H : (if 0 ≤ (ji3) then (if (ji3) < (l0_2.length : Int) then (if (rd l0_2 (ji3)) = 0 then (if a1 = 2 then (spec_l10Does.j0 k a1 true) else (spec_l10Does.j0 k a1 (a1 == 6))) else (some (rd l0_2 (ji3)))) else (none)) else (none)) = some r := by first | (rw [hji3] at H; exact H) | (simp only [hji3] at H ⊢; exact H)
  have hji3w : (IntKind.i64.wrap (a1 - 1)) = ji3 := (i64_w _).trans hji3
  by_cases c4 : 0 ≤ (ji3)
  · rw [if_pos c4] at H
    have c4b0 : decide (0 ≤ (ji3)) = true := decide_eq_true c4
    clear c4
    by_cases c5 : (ji3) < (l0_2.length : Int)
    · rw [if_pos c5] at H
      have c5b0 : decide ((ji3) < (l0_2.length : Int)) = true := decide_eq_true c5
      clear c5
      by_cases c6 : (rd l0_2 (ji3)) = 0
      · rw [if_pos c6] at H
        have c6b0 : ((rd l0_2 (ji3)) == 0) = true := beq_iff_eq.mpr c6
        have c6b1 : ((rd l0_2 (ji3)) != 0) = false := bne_eq_false_iff_eq.mpr c6
        clear c6
        have HC7 := AM H
        clear H
        go_enter Try.func70, Try.ntmps70
        go_upto_region 3 with (first | ((with_reducible refine gd (N := 2) rfl ?_); refine xe ?hg (N := 2) ?hd (cs := #[.slice A0_0 l0_0.length c0_0, .slice A0_1 l0_1.length c0_1, .slice A0_2 l0_2.length c0_2]) (t := 27) ?hr ?_; (case hd => rfl); (case hg => rfl); (case hr => first | (go_simp; done) | (go_simp; rfl)); intro gb182 hg w8 hbox hb; have n0_ := AM (bp (lfB HB.out) hb); have n1_ := AM (hbox); have n2_ := AM ((by rw [hg]; exact (bz (lfB HB.out)) : w.heap.size ≤ gb182)); have n3_ := AM ((by rw [hg]; exact (bz (lfB HB.out)) : w.heap.size ≤ gb182)); clear HB; revert n0_ n1_ n2_ n3_; intro HB BK182 GW182 GE182; clear hb hbox hg; have hcz9_0 : w8.cell? ⟨gb182, 0, none⟩ = some (.slice A0_0 l0_0.length c0_0) := (kc BK182.out 0).trans rfl; have hcz9_1 : w8.cell? ⟨gb182, 1, none⟩ = some (.slice A0_1 l0_1.length c0_1) := (kc BK182.out 1).trans rfl; have hcz9_2 : w8.cell? ⟨gb182, 2, none⟩ = some (.slice A0_2 l0_2.length c0_2) := (kc BK182.out 2).trans rfl; have hfz9_0 := kz BK182.out 0; have hfz9_1 := kz BK182.out 1; have hfz9_2 := kz BK182.out 2; have p183 : 0 ≤ ((ji3) : Int) := of_decide_eq_true (by first | (with_reducible assumption) | assumption); have q183 : (ji3) < (l0_2.length : Int) := of_decide_eq_true (by first | (with_reducible assumption) | assumption); obtain ⟨ad183, e183, hx183_0⟩ := Kd.at_int HR0_2.out (ji3) p183 q183; cases e183; replace hx183_0 := (HB.out.cell (World.block_lt_of_cell? w _ hx183_0)).trans hx183_0; replace p183 := eq_true p183; replace q183 := eq_true q183))
        (try simp only [Act.put, List.setIfInBounds_toArray, List.set_cons_zero, List.set_cons_succ])
        go_cut [19] (fun v19 wc => ∃ (kq : Nat) (x19_6 : Bool), v19 = .bool x19_6 ∧ Aside0 (spec_l10Does.j0 kq a1 x19_6 = some r) ∧ Aside0 (kq ≤ k) ∧ Aside0 (wc.heap[gb182]? = some (.cells #[(.slice A0_0 l0_0.length c0_0), (.slice A0_1 l0_1.length c0_1), (.slice (some ad183) l0_2.length c0_2)] 27 (0, 0))) ∧ Aside0 (Below w.heap.size w wc))
        case first =>
          have H := HC7.out
          clear HC7
          by_cases c10 : a1 = 2
          · rw [if_pos c10] at H
            have c10b0 : (a1 == 2) = true := beq_iff_eq.mpr c10
            have c10b1 : (a1 != 2) = false := bne_eq_false_iff_eq.mpr c10
            clear c10
            (first | rw [c10b0] | (simp only [i64_w, i32_w]; rw [c10b0]) | skip)
            have H' := AM H
            clear H
            go_wp2
            go_meet
            case rel => exact ⟨_, (true), (by first | rfl | (simp; done) | (simp [*]; done)), H', ⟨by first | omega | exact Nat.le_refl _⟩, ⟨by (with_reducible repeat (first | refine kn ?_ _ | refine kd ?_ | refine ka ?_ _)); exact BK182.out⟩, ⟨by repeat (first | (with_reducible first | exact HB.out | apply ba | apply bn | apply bd | refine bs ?_ GE182.out) | exact HB.out)⟩⟩
          · rw [if_neg c10] at H
            have c10b0 : (a1 == 2) = false := beq_eq_false_iff_ne.mpr c10
            have c10b1 : (a1 != 2) = true := bne_iff_ne.mpr c10
            (first | rw [c10b0] | (simp only [i64_w, i32_w]; rw [c10b0]) | skip)
            have H' := AM H
            clear H
            go_wp2
            go_meet
            case rel => exact ⟨_, ((a1 == 6)), (by first | rfl | (simp; done) | (simp [*]; done)), H', ⟨by first | omega | exact Nat.le_refl _⟩, ⟨by (with_reducible repeat (first | refine kn ?_ _ | refine kd ?_ | refine ka ?_ _)); exact BK182.out⟩, ⟨by repeat (first | (with_reducible first | exact HB.out | apply ba | apply bn | apply bd | refine bs ?_ GE182.out) | exact HB.out)⟩⟩
        case rest =>
          clear HC7
          try clear c4
          try clear c4b0
          try clear c5
          try clear c5b0
          try clear c6
          try clear c6b0
          try clear c6b1
          try clear hcz9_0
          try clear hcz9_1
          try clear hcz9_2
          try clear hfz9_0
          try clear hfz9_1
          try clear hfz9_2
          try clear hx183_0
          try clear p183
          try clear q183
          obtain ⟨kq, x19_6, rfl, HA, HJ6, BK182, HB⟩ := hcut
          cases kq with
          | zero => exact absurd HA.out (by simp [spec_l10Does.j0])
          | succ kj6 =>
            have H := HA.out
            clear HA
            simp only [spec_l10Does.j0] at H
            by_cases c11 : x19_6 = true
            · subst c11
              have H1 : (some 2) = some r := by rw [if_pos rfl] at H; exact H
              clear H
              have H := H1
              clear H1
              obtain rfl := Option.some.inj H
              go_wp2
              go_ret
              exact ⟨by first | rfl | (simp [errW_none, errW_some] <;> rfl) | (simp only [← hji3]; first | rfl | (simp [errW_none, errW_some] <;> rfl)) | (simp [*, errW_none, errW_some] <;> rfl), by repeat (first | (with_reducible first | exact HB.out | apply ba | apply bn | apply bd | refine bs ?_ GE182.out) | exact HB.out)⟩
            · replace c11 := Bool.eq_false_iff.mpr c11
              subst c11
              have H1 : (if a1 = 3 then (some 3) else (if a1 = 4 then (some 1) else (if a1 = 7 then (some 1) else (some 0)))) = some r := by rw [if_neg (show ¬ (false = true) by decide)] at H; exact H
              clear H
              have H := H1
              clear H1
              by_cases c12 : a1 = 3
              · rw [if_pos c12] at H
                have c12b0 : (a1 == 3) = true := beq_iff_eq.mpr c12
                have c12b1 : (a1 != 3) = false := bne_eq_false_iff_eq.mpr c12
                clear c12
                obtain rfl := Option.some.inj H
                go_wp2
                go_ret
                exact ⟨by first | rfl | (simp [errW_none, errW_some] <;> rfl) | (simp only [← hji3]; first | rfl | (simp [errW_none, errW_some] <;> rfl)) | (simp [*, errW_none, errW_some] <;> rfl), by repeat (first | (with_reducible first | exact HB.out | apply ba | apply bn | apply bd | refine bs ?_ GE182.out) | exact HB.out)⟩
              · rw [if_neg c12] at H
                have c12b0 : (a1 == 3) = false := beq_eq_false_iff_ne.mpr c12
                have c12b1 : (a1 != 3) = true := bne_iff_ne.mpr c12
                by_cases c13 : a1 = 4
                · rw [if_pos c13] at H
                  have c13b0 : (a1 == 4) = true := beq_iff_eq.mpr c13
                  have c13b1 : (a1 != 4) = false := bne_eq_false_iff_eq.mpr c13
                  clear c13
                  obtain rfl := Option.some.inj H
                  go_wp2
                  go_ret
                  exact ⟨by first | rfl | (simp [errW_none, errW_some] <;> rfl) | (simp only [← hji3]; first | rfl | (simp [errW_none, errW_some] <;> rfl)) | (simp [*, errW_none, errW_some] <;> rfl), by repeat (first | (with_reducible first | exact HB.out | apply ba | apply bn | apply bd | refine bs ?_ GE182.out) | exact HB.out)⟩
                · rw [if_neg c13] at H
                  have c13b0 : (a1 == 4) = false := beq_eq_false_iff_ne.mpr c13
                  have c13b1 : (a1 != 4) = true := bne_iff_ne.mpr c13
                  by_cases c14 : a1 = 7
                  · rw [if_pos c14] at H
                    have c14b0 : (a1 == 7) = true := beq_iff_eq.mpr c14
                    have c14b1 : (a1 != 7) = false := bne_eq_false_iff_eq.mpr c14
                    clear c14
                    obtain rfl := Option.some.inj H
                    go_wp2
                    go_ret
                    exact ⟨by first | rfl | (simp [errW_none, errW_some] <;> rfl) | (simp only [← hji3]; first | rfl | (simp [errW_none, errW_some] <;> rfl)) | (simp [*, errW_none, errW_some] <;> rfl), by repeat (first | (with_reducible first | exact HB.out | apply ba | apply bn | apply bd | refine bs ?_ GE182.out) | exact HB.out)⟩
                  · rw [if_neg c14] at H
                    have c14b0 : (a1 == 7) = false := beq_eq_false_iff_ne.mpr c14
                    have c14b1 : (a1 != 7) = true := bne_iff_ne.mpr c14
                    obtain rfl := Option.some.inj H
                    go_wp2
                    go_ret
                    exact ⟨by first | rfl | (simp [errW_none, errW_some] <;> rfl) | (simp only [← hji3]; first | rfl | (simp [errW_none, errW_some] <;> rfl)) | (simp [*, errW_none, errW_some] <;> rfl), by repeat (first | (with_reducible first | exact HB.out | apply ba | apply bn | apply bd | refine bs ?_ GE182.out) | exact HB.out)⟩
      · rw [if_neg c6] at H
        have c6b0 : ((rd l0_2 (ji3)) == 0) = false := beq_eq_false_iff_ne.mpr c6
        have c6b1 : ((rd l0_2 (ji3)) != 0) = true := bne_iff_ne.mpr c6
        obtain rfl := Option.some.inj H
        go_enter Try.func70, Try.ntmps70
        go_wp2_with (first | ((with_reducible refine gd (N := 2) rfl ?_); refine xe ?hg (N := 2) ?hd (cs := #[.slice A0_0 l0_0.length c0_0, .slice A0_1 l0_1.length c0_1, .slice A0_2 l0_2.length c0_2]) (t := 27) ?hr ?_; (case hd => rfl); (case hg => rfl); (case hr => first | (go_simp; done) | (go_simp; rfl)); intro gb182 hg w15 hbox hb; have n0_ := AM (bp (lfB HB.out) hb); have n1_ := AM (hbox); have n2_ := AM ((by rw [hg]; exact (bz (lfB HB.out)) : w.heap.size ≤ gb182)); have n3_ := AM ((by rw [hg]; exact (bz (lfB HB.out)) : w.heap.size ≤ gb182)); clear HB; revert n0_ n1_ n2_ n3_; intro HB BK182 GW182 GE182; clear hb hbox hg; have hcz16_0 : w15.cell? ⟨gb182, 0, none⟩ = some (.slice A0_0 l0_0.length c0_0) := (kc BK182.out 0).trans rfl; have hcz16_1 : w15.cell? ⟨gb182, 1, none⟩ = some (.slice A0_1 l0_1.length c0_1) := (kc BK182.out 1).trans rfl; have hcz16_2 : w15.cell? ⟨gb182, 2, none⟩ = some (.slice A0_2 l0_2.length c0_2) := (kc BK182.out 2).trans rfl; have hfz16_0 := kz BK182.out 0; have hfz16_1 := kz BK182.out 1; have hfz16_2 := kz BK182.out 2; have p183 : 0 ≤ ((ji3) : Int) := of_decide_eq_true (by first | (with_reducible assumption) | assumption); have q183 : (ji3) < (l0_2.length : Int) := of_decide_eq_true (by first | (with_reducible assumption) | assumption); obtain ⟨ad183, e183, hx183_0⟩ := Kd.at_int HR0_2.out (ji3) p183 q183; cases e183; replace hx183_0 := (HB.out.cell (World.block_lt_of_cell? w _ hx183_0)).trans hx183_0; replace p183 := eq_true p183; replace q183 := eq_true q183; have p184 : 0 ≤ ((ji3) : Int) := of_decide_eq_true (by first | (with_reducible assumption) | assumption); have q184 : (ji3) < (l0_2.length : Int) := of_decide_eq_true (by first | (with_reducible assumption) | assumption); obtain ⟨ad184, e184, hx184_0⟩ := Kd.at_int HR0_2.out (ji3) p184 q184; obtain rfl : ad183 = ad184 := (by injection e184); replace hx184_0 := (HB.out.cell (World.block_lt_of_cell? w _ hx184_0)).trans hx184_0; replace p184 := eq_true p184; replace q184 := eq_true q184))
        go_ret
        exact ⟨by first | rfl | (simp [errW_none, errW_some] <;> rfl) | (simp only [← hji3]; first | rfl | (simp [errW_none, errW_some] <;> rfl)) | (simp [*, errW_none, errW_some] <;> rfl), by repeat (first | (with_reducible first | exact HB.out | apply ba | apply bn | apply bd | refine bs ?_ GE182.out) | exact HB.out)⟩
    · rw [if_neg c5] at H
      exact absurd H (by simp)
  · rw [if_neg c4] at H
    exact absurd H (by simp)

/-! ### spec_SigsNext: function 20 -/
open List renaming setIfInBounds_toArray → sA, set_cons_zero → sZ, set_cons_succ → sS
open Go.Proofs.YtpcohpkflkhfbaaW.PrintWords.Aside0 renaming mk → AM
open Go.Proofs.YtpcohpkflkhfbaaW.PrintWords renaming below_alloc → ba, pw_below_drewN → bn, below_drew1 → bd, below_set → bs, blk_drewN → kn, blk_drew → kd, blk_alloc → ka, blk_far → kf, blk_cell → kc, blk_frozen → kz, blk_below → kb, below_size → bz, below_step → bp, box_event → xe, store_event → se, gate_callee → gc, gate_dst → gd, gate_store → gs
open Go.Proofs.YtpcohpkflkhfbaaW.PrintWords.Kd renaming R_alloc → Ra, R_drewN → Rn, R_drew → Rd, R_mono → Rm, R_below → Rb, R_far → Rf, R_types → Rt, R_lower → Rl, C_alloc → Ca, C_drewN → Cn, C_drew → Cd, C_below → Cb, R_slice → Ri
def spec_SigsNext.f (k : Nat) (l0_0 : List Bool) (l0_1 : List Bool) (l0_2 : List Int) : Option (List Bool × List Bool × List Int × Int × Int × Bool) := (spec_SigsOk.f k l0_0 l0_1 l0_2).bind fun t187 => (if t187 = true then ((spec_l10Copy.f l0_0 l0_1 l0_2).bind fun bt188 => ((spec_l10Next.f k l0_0 l0_1 l0_2).bind fun t198 => (if t198 = 0 then (some (bt188.1, bt188.2.1, bt188.2.2, 0, 1, false)) else (if 0 ≤ (wrap64 (t198 - 1)) then (if (wrap64 (t198 - 1)) < (bt188.1.length : Int) then ((spec_l10Does.f k l0_0 l0_1 l0_2 t198).bind fun t200 => (some ((bt188.1.set ((wrap64 (t198 - 1)) : Int).toNat false), bt188.2.1, bt188.2.2, t198, t200, true))) else (none)) else (none))))) else (some (([] : List Bool), ([] : List Bool), ([] : List Int), 0, 1, false)))
theorem spec_SigsNext.mono : ∀ a0 a1 a2 k, LeO (spec_SigsNext.f k a0 a1 a2) (spec_SigsNext.f (k + 1) a0 a1 a2) := by
  intro a0 a1 a2 k
  unfold spec_SigsNext.f
  repeat' first
      | (with_reducible exact spec_SigsOk.mono _ _ _ _)
      | (with_reducible exact spec_l10Does.mono _ _ _ _ _)
      | (with_reducible exact spec_l10Next.mono _ _ _ _)
      | (with_reducible exact LeO.refl _)
      | (with_reducible exact LeO.none _)
      | (with_reducible refine LeO.ite ?_ ?_)
      | (with_reducible refine LeO.bind ?_ (fun _ => ?_))
      | exact spec_SigsOk.mono _ _ _ _
      | exact spec_l10Does.mono _ _ _ _ _
      | exact spec_l10Next.mono _ _ _ _
      | exact LeO.none _
      | refine LeO.ite ?_ ?_
      | refine LeO.bind ?_ (fun _ => ?_)
def spec_SigsNext.T8 : Bool × List (List Nat × List Nat) := (true, [([], []), ([], []), ([], []), ([], []), ([2, 3], [2, 3]), ([0, 4, 0], [0]), ([1, 5, 0, 1, 5], [1]), ([4, 6, 0, 1, 2, 3, 4, 5, 6], [4]), ([7, 0, 1, 2, 3, 4, 5, 6, 7], [])])
def spec_SigsNext.B8 : List Nat := [0, 0, 0, 0, 12, 29, 63, 127, 255]
theorem spec_SigsNext.tab8 : rtab .any (opsOf Try.f20 8) = spec_SigsNext.T8 := by kernel_rfl
theorem spec_SigsNext.bits8 : waitsOk spec_SigsNext.T8.2 spec_SigsNext.B8 = true := by kernel_rfl
set_option maxHeartbeats 8000000 in
set_option maxRecDepth 100000 in
theorem spec_SigsNext.calls (k : Nat) (A0_0 : Option Addr) (c0_0 : Nat) (l0_0 : List Bool) (A0_1 : Option Addr) (c0_1 : Nat) (l0_1 : List Bool) (A0_2 : Option Addr) (c0_2 : Nat) (l0_2 : List Int) (r1 : List Bool) (r2 : List Bool) (r3 : List Int) (r4 : Int) (r5 : Int) (r6 : Bool) (w : World) (hr0_0 : Kd.C Kd.bool w A0_0 l0_0.length l0_0) (hc0_0 : l0_0.length ≤ c0_0) (hr0_1 : Kd.C Kd.bool w A0_1 l0_1.length l0_1) (hc0_1 : l0_1.length ≤ c0_1) (hr0_2 : Kd.C (Kd.int .i64) w A0_2 l0_2.length l0_2) (hc0_2 : l0_2.length ≤ c0_2) (h : spec_SigsNext.f k l0_0 l0_1 l0_2 = some (r1, r2, r3, r4, r5, r6)) :
    Calls Try.prog 20 #[.agg #[.slice A0_0 l0_0.length c0_0, .slice A0_1 l0_1.length c0_1, .slice A0_2 l0_2.length c0_2]] w fun e w' => ∃ v0_ v1_ v2_ : Value, e = .returned (.tuple #[.agg #[v0_, v1_, v2_], .int .i64 r4, .int .i64 r5, .bool r6]) ∧ Kd.R Kd.bool 4 w' w.heap.size (fun k_ => some k_ ≠ (v1_ : Value).ownBlock) v0_ r1 ∧ Kd.R Kd.bool 4 w' w.heap.size (fun k_ => some k_ ≠ (v0_ : Value).ownBlock) v1_ r2 ∧ Kd.R (Kd.int .i64) 3 w' w.heap.size (fun _ => True) v2_ r3 ∧ Below w.heap.size w w' := by
  have hu27 := Try.underlying27
  have HR0_0 := AM hr0_0
  have HC0_0 := AM hc0_0
  clear hr0_0 hc0_0
  have HR0_1 := AM hr0_1
  have HC0_1 := AM hc0_1
  clear hr0_1 hc0_1
  have HR0_2 := AM hr0_2
  have HC0_2 := AM hc0_2
  clear hr0_2 hc0_2
  have HB := AM (Below.refl w.heap.size w)
  have H : ((spec_SigsOk.f k l0_0 l0_1 l0_2).bind fun t187 => (if t187 = true then ((spec_l10Copy.f l0_0 l0_1 l0_2).bind fun bt188 => ((spec_l10Next.f k l0_0 l0_1 l0_2).bind fun t198 => (if t198 = 0 then (some (bt188.1, bt188.2.1, bt188.2.2, 0, 1, false)) else (if 0 ≤ (wrap64 (t198 - 1)) then (if (wrap64 (t198 - 1)) < (bt188.1.length : Int) then ((spec_l10Does.f k l0_0 l0_1 l0_2 t198).bind fun t200 => (some ((bt188.1.set ((wrap64 (t198 - 1)) : Int).toNat false), bt188.2.1, bt188.2.2, t198, t200, true))) else (none)) else (none))))) else (some (([] : List Bool), ([] : List Bool), ([] : List Int), 0, 1, false)))) = some (r1, r2, r3, r4, r5, r6) := h
  clear h
  replace H := Option.bind_eq_some_iff.mp H
  obtain ⟨t187, A20, H⟩ := H
  replace H : (if t187 = true then ((spec_l10Copy.f l0_0 l0_1 l0_2).bind fun bt188 => ((spec_l10Next.f k l0_0 l0_1 l0_2).bind fun t198 => (if t198 = 0 then (some (bt188.1, bt188.2.1, bt188.2.2, 0, 1, false)) else (if 0 ≤ (wrap64 (t198 - 1)) then (if (wrap64 (t198 - 1)) < (bt188.1.length : Int) then ((spec_l10Does.f k l0_0 l0_1 l0_2 t198).bind fun t200 => (some ((bt188.1.set ((wrap64 (t198 - 1)) : Int).toNat false), bt188.2.1, bt188.2.2, t198, t200, true))) else (none)) else (none))))) else (some (([] : List Bool), ([] : List Bool), ([] : List Int), 0, 1, false))) = some (r1, r2, r3, r4, r5, r6) := H
  have A2 := AM A20
  clear A20
  by_cases c3 : t187 = true
  · subst c3
    have H1 : ((spec_l10Copy.f l0_0 l0_1 l0_2).bind fun bt188 => ((spec_l10Next.f k l0_0 l0_1 l0_2).bind fun t198 => (if t198 = 0 then (some (bt188.1, bt188.2.1, bt188.2.2, 0, 1, false)) else (if 0 ≤ (wrap64 (t198 - 1)) then (if (wrap64 (t198 - 1)) < (bt188.1.length : Int) then ((spec_l10Does.f k l0_0 l0_1 l0_2 t198).bind fun t200 => (some ((bt188.1.set ((wrap64 (t198 - 1)) : Int).toNat false), bt188.2.1, bt188.2.2, t198, t200, true))) else (none)) else (none))))) = some (r1, r2, r3, r4, r5, r6) := by rw [if_pos rfl] at H; exact H
    clear H
    have H := H1
    clear H1
    replace H := Option.bind_eq_some_iff.mp H
    obtain ⟨⟨t188, t191, t194⟩, A40, H⟩ := H
    replace H : ((spec_l10Next.f k l0_0 l0_1 l0_2).bind fun t198 => (if t198 = 0 then (some (t188, t191, t194, 0, 1, false)) else (if 0 ≤ (wrap64 (t198 - 1)) then (if (wrap64 (t198 - 1)) < (t188.length : Int) then ((spec_l10Does.f k l0_0 l0_1 l0_2 t198).bind fun t200 => (some ((t188.set ((wrap64 (t198 - 1)) : Int).toNat false), t191, t194, t198, t200, true))) else (none)) else (none)))) = some (r1, r2, r3, r4, r5, r6) := H
    have A4 := AM A40
    clear A40
    replace H := Option.bind_eq_some_iff.mp H
    obtain ⟨t198, A50, H⟩ := H
    replace H : (if t198 = 0 then (some (t188, t191, t194, 0, 1, false)) else (if 0 ≤ (wrap64 (t198 - 1)) then (if (wrap64 (t198 - 1)) < (t188.length : Int) then ((spec_l10Does.f k l0_0 l0_1 l0_2 t198).bind fun t200 => (some ((t188.set ((wrap64 (t198 - 1)) : Int).toNat false), t191, t194, t198, t200, true))) else (none)) else (none))) = some (r1, r2, r3, r4, r5, r6) := H
    have A5 := AM A50
    clear A50
    by_cases c6 : t198 = 0
    · rw [if_pos c6] at H
      have c6b0 : (t198 == 0) = true := beq_iff_eq.mpr c6
      have c6b1 : (t198 != 0) = false := bne_eq_false_iff_eq.mpr c6
      clear c6
      simp only [Option.some.injEq, Prod.mk.injEq] at H
      obtain ⟨rfl, rfl, rfl, rfl, rfl, rfl⟩ := H
      go_enter Try.func20, Try.ntmps20
      go_wp2_with (first | ((with_reducible refine gd (N := 1) rfl ?_); refine xe ?hg (N := 1) ?hd (cs := #[.slice A0_0 l0_0.length c0_0, .slice A0_1 l0_1.length c0_1, .slice A0_2 l0_2.length c0_2]) (t := 27) ?hr ?_; (case hd => rfl); (case hg => rfl); (case hr => first | (go_simp; done) | (go_simp; rfl)); intro gb185 hg w7 hbox hb; have n0_ := AM (bp (lfB HB.out) hb); have n1_ := AM (hbox); have n2_ := AM ((by rw [hg]; exact (bz (lfB HB.out)) : w.heap.size ≤ gb185)); have n3_ := AM ((by rw [hg]; exact (bz (lfB HB.out)) : w.heap.size ≤ gb185)); clear HB; revert n0_ n1_ n2_ n3_; intro HB BK185 GW185 GE185; clear hb hbox hg) | ((with_reducible refine gd (N := 2) rfl ?_); refine xe ?hg (N := 2) ?hd (cs := #[.slice none 0 0, .slice none 0 0, .slice none 0 0]) (t := 27) ?hr ?_; (case hd => rfl); (case hg => rfl); (case hr => first | (go_simp; done) | (go_simp; rfl)); intro gb186 hg w8 hbox hb; have n0_ := AM (kb (g := gb185) (o := .cells #[.slice A0_0 l0_0.length c0_0, .slice A0_1 l0_1.length c0_1, .slice A0_2 l0_2.length c0_2] 27 (0, 0)) (lfK BK185.out) hb); have n1_ := AM (bp (by repeat (first | (with_reducible first | exact HB.out | apply ba | apply bn | apply bd | refine bs ?_ GE185.out) | exact HB.out)) hb); have n2_ := AM (hbox); have n3_ := AM ((by rw [hg]; exact (bz (by repeat (first | (with_reducible first | exact HB.out | apply ba | apply bn | apply bd | refine bs ?_ GE185.out) | exact HB.out))) : w.heap.size ≤ gb186)); have n4_ := AM ((by rw [hg]; exact (bz (by repeat (first | (with_reducible first | exact HB.out | apply ba | apply bn | apply bd | refine bs ?_ GE185.out) | exact HB.out))) : w.heap.size ≤ gb186)); have n5_ := AM ((by rw [hg]; exact Nat.ne_of_lt (blk_lt (g := gb185) (o := .cells #[.slice A0_0 l0_0.length c0_0, .slice A0_1 l0_1.length c0_1, .slice A0_2 l0_2.length c0_2] 27 (0, 0)) (lfK BK185.out)) : gb185 ≠ gb186)); have n6_ := AM ((by rw [hg]; exact Nat.ne_of_gt (blk_lt (g := gb185) (o := .cells #[.slice A0_0 l0_0.length c0_0, .slice A0_1 l0_1.length c0_1, .slice A0_2 l0_2.length c0_2] 27 (0, 0)) (lfK BK185.out)) : gb186 ≠ gb185)); clear BK185 HB; revert n0_ n1_ n2_ n3_ n4_ n5_ n6_; intro BK185 HB BK186 GW186 GE186 NB185_186 NB186_185; clear hb hbox hg; have hnb9 := NB185_186.out; have hnc9 := NB186_185.out; have hcz10_0 : w8.cell? ⟨gb185, 0, none⟩ = some (.slice A0_0 l0_0.length c0_0) := (kc BK185.out 0).trans rfl; have hcz10_1 : w8.cell? ⟨gb185, 1, none⟩ = some (.slice A0_1 l0_1.length c0_1) := (kc BK185.out 1).trans rfl; have hcz10_2 : w8.cell? ⟨gb185, 2, none⟩ = some (.slice A0_2 l0_2.length c0_2) := (kc BK185.out 2).trans rfl; have hfz10_0 := kz BK185.out 0; have hfz10_1 := kz BK185.out 1; have hfz10_2 := kz BK185.out 2) | ((with_reducible refine gc (f := 56) rfl ?_); refine goesL_ (some 9) rfl rfl Try.func56 (by kernel_rfl) rfl #[.agg #[.slice A0_0 l0_0.length c0_0, .slice A0_1 l0_1.length c0_1, .slice A0_2 l0_2.length c0_2]] rfl (by (try simp only [List.map_toArray, List.map_cons, List.map_nil]); first | done | rfl | (simp only [List.length_drop, List.length_take]; rfl)) ?_; (with_reducible refine (spec_SigsOk.calls k _ _ l0_0 _ _ l0_1 _ _ l0_2 true _ ?side1 ?side2 ?side3 ?side4 ?side5 ?side6 A2.out).mono ?_); (case side1 => repeat (first | exact (Cb HR0_0.out HB.out) | (with_reducible refine Ca ?_ _) | (with_reducible refine Cn ?_ _) | (with_reducible refine Cd ?_))); (case side2 => exact HC0_0.out); (case side3 => repeat (first | exact (Cb HR0_1.out HB.out) | (with_reducible refine Ca ?_ _) | (with_reducible refine Cn ?_ _) | (with_reducible refine Cd ?_))); (case side4 => exact HC0_1.out); (case side5 => repeat (first | exact (Cb HR0_2.out HB.out) | (with_reducible refine Ca ?_ _) | (with_reducible refine Cn ?_ _) | (with_reducible refine Cd ?_))); (case side6 => exact HC0_2.out); rintro e w11 ⟨rfl, hb⟩; refine ⟨_, rfl, ?_⟩; have n0_ := AM (kb (g := gb185) (o := .cells #[.slice A0_0 l0_0.length c0_0, .slice A0_1 l0_1.length c0_1, .slice A0_2 l0_2.length c0_2] 27 (0, 0)) (lfK BK185.out) hb); have n1_ := AM (kb (g := gb186) (o := .cells #[.slice none 0 0, .slice none 0 0, .slice none 0 0] 27 (0, 0)) (lfK BK186.out) hb); have n2_ := AM (bp (by repeat (first | (with_reducible first | exact HB.out | apply ba | apply bn | apply bd | refine bs ?_ GE185.out | refine bs ?_ GE186.out) | exact HB.out)) hb); clear BK185 BK186 HB; revert n0_ n1_ n2_; intro BK185 BK186 HB; (try clear hb); have hcz12_0 : w11.cell? ⟨gb185, 0, none⟩ = some (.slice A0_0 l0_0.length c0_0) := (kc BK185.out 0).trans rfl; have hcz12_1 : w11.cell? ⟨gb185, 1, none⟩ = some (.slice A0_1 l0_1.length c0_1) := (kc BK185.out 1).trans rfl; have hcz12_2 : w11.cell? ⟨gb185, 2, none⟩ = some (.slice A0_2 l0_2.length c0_2) := (kc BK185.out 2).trans rfl; have hfz12_0 := kz BK185.out 0; have hfz12_1 := kz BK185.out 1; have hfz12_2 := kz BK185.out 2) | ((with_reducible refine gc (f := 59) rfl ?_); refine goesL_ (some 13) rfl rfl Try.func59 (by kernel_rfl) rfl #[.agg #[.slice A0_0 l0_0.length c0_0, .slice A0_1 l0_1.length c0_1, .slice A0_2 l0_2.length c0_2]] rfl (by (try simp only [List.map_toArray, List.map_cons, List.map_nil]); first | done | rfl | (simp only [List.length_drop, List.length_take]; rfl)) ?_; (with_reducible refine (spec_l10Copy.calls _ _ l0_0 _ _ l0_1 _ _ l0_2 t188 t191 t194 _ ?side1 ?side2 ?side3 ?side4 ?side5 ?side6 A4.out).mono ?_); (case side1 => repeat (first | exact (Cb HR0_0.out HB.out) | (with_reducible refine Ca ?_ _) | (with_reducible refine Cn ?_ _) | (with_reducible refine Cd ?_))); (case side2 => exact HC0_0.out); (case side3 => repeat (first | exact (Cb HR0_1.out HB.out) | (with_reducible refine Ca ?_ _) | (with_reducible refine Cn ?_ _) | (with_reducible refine Cd ?_))); (case side4 => exact HC0_1.out); (case side5 => repeat (first | exact (Cb HR0_2.out HB.out) | (with_reducible refine Ca ?_ _) | (with_reducible refine Cn ?_ _) | (with_reducible refine Cd ?_))); (case side6 => exact HC0_2.out); rintro e w13 ⟨v189, v192, v195, rfl, ho0, ho1, ho2, hb⟩; refine ⟨_, rfl, ?_⟩; have n0_ := AM (Rl ho0 (bz (by repeat (first | (with_reducible first | exact HB.out | apply ba | apply bn | apply bd | refine bs ?_ GE185.out | refine bs ?_ GE186.out) | exact HB.out)))); have n1_ := AM (Rl ho1 (bz (by repeat (first | (with_reducible first | exact HB.out | apply ba | apply bn | apply bd | refine bs ?_ GE185.out | refine bs ?_ GE186.out) | exact HB.out)))); have n2_ := AM (Rl ho2 (bz (by repeat (first | (with_reducible first | exact HB.out | apply ba | apply bn | apply bd | refine bs ?_ GE185.out | refine bs ?_ GE186.out) | exact HB.out)))); have n3_ := AM (kb (g := gb185) (o := .cells #[.slice A0_0 l0_0.length c0_0, .slice A0_1 l0_1.length c0_1, .slice A0_2 l0_2.length c0_2] 27 (0, 0)) (lfK BK185.out) hb); have n4_ := AM (kb (g := gb186) (o := .cells #[.slice none 0 0, .slice none 0 0, .slice none 0 0] 27 (0, 0)) (lfK BK186.out) hb); have n5_ := AM (bp (by repeat (first | (with_reducible first | exact HB.out | apply ba | apply bn | apply bd | refine bs ?_ GE185.out | refine bs ?_ GE186.out) | exact HB.out)) hb); clear BK185 BK186 HB; revert n0_ n1_ n2_ n3_ n4_ n5_; intro HO190 HO193 HO196 BK185 BK186 HB; (try clear hb ho0 ho1 ho2)) | ((with_reducible refine gd (N := 6) rfl ?_); refine xe ?hg (N := 6) ?hd (cs := #[.slice none 0 0, .slice none 0 0, .slice none 0 0]) (t := 27) ?hr ?_; (case hd => rfl); (case hg => rfl); (case hr => first | (go_simp; done) | (go_simp; rfl)); intro gb197 hg w14 hbox hb; have n0_ := AM (Rb (lfR HO190.out) hb); have n1_ := AM (Rb (lfR HO193.out) hb); have n2_ := AM (Rb (lfR HO196.out) hb); have n3_ := AM (kb (g := gb185) (o := .cells #[.slice A0_0 l0_0.length c0_0, .slice A0_1 l0_1.length c0_1, .slice A0_2 l0_2.length c0_2] 27 (0, 0)) (lfK BK185.out) hb); have n4_ := AM (kb (g := gb186) (o := .cells #[.slice none 0 0, .slice none 0 0, .slice none 0 0] 27 (0, 0)) (lfK BK186.out) hb); have n5_ := AM (bp (by repeat (first | (with_reducible first | exact HB.out | apply ba | apply bn | apply bd | refine bs ?_ GE185.out | refine bs ?_ GE186.out) | exact HB.out)) hb); have n6_ := AM (hbox); have n7_ := AM ((by rw [hg]; exact (bz (by repeat (first | (with_reducible first | exact HB.out | apply ba | apply bn | apply bd | refine bs ?_ GE185.out | refine bs ?_ GE186.out) | exact HB.out))) : w.heap.size ≤ gb197)); have n8_ := AM ((by rw [hg]; exact (bz (by repeat (first | (with_reducible first | exact HB.out | apply ba | apply bn | apply bd | refine bs ?_ GE185.out | refine bs ?_ GE186.out) | exact HB.out))) : w.heap.size ≤ gb197)); have n9_ := AM ((by rw [hg]; exact Nat.ne_of_lt (blk_lt (g := gb185) (o := .cells #[.slice A0_0 l0_0.length c0_0, .slice A0_1 l0_1.length c0_1, .slice A0_2 l0_2.length c0_2] 27 (0, 0)) (lfK BK185.out)) : gb185 ≠ gb197)); have n10_ := AM ((by rw [hg]; exact Nat.ne_of_gt (blk_lt (g := gb185) (o := .cells #[.slice A0_0 l0_0.length c0_0, .slice A0_1 l0_1.length c0_1, .slice A0_2 l0_2.length c0_2] 27 (0, 0)) (lfK BK185.out)) : gb197 ≠ gb185)); have n11_ := AM ((by rw [hg]; exact Nat.ne_of_lt (blk_lt (g := gb186) (o := .cells #[.slice none 0 0, .slice none 0 0, .slice none 0 0] 27 (0, 0)) (lfK BK186.out)) : gb186 ≠ gb197)); have n12_ := AM ((by rw [hg]; exact Nat.ne_of_gt (blk_lt (g := gb186) (o := .cells #[.slice none 0 0, .slice none 0 0, .slice none 0 0] 27 (0, 0)) (lfK BK186.out)) : gb197 ≠ gb186)); clear HO190 HO193 HO196 BK185 BK186 HB; revert n0_ n1_ n2_ n3_ n4_ n5_ n6_ n7_ n8_ n9_ n10_ n11_ n12_; intro HO190 HO193 HO196 BK185 BK186 HB BK197 GW197 GE197 NB185_197 NB197_185 NB186_197 NB197_186; clear hb hbox hg; obtain ⟨Ao15, co15, eo15⟩ := Ri HO190.out; subst eo15; have hnb16 := NB197_185.out; have hnc16 := NB185_197.out; have hnb17 := NB197_186.out; have hnc17 := NB186_197.out; have hcz18_0 : w14.cell? ⟨gb197, 0, none⟩ = some (.slice none 0 0) := (kc BK197.out 0).trans rfl; have hcz18_1 : w14.cell? ⟨gb197, 1, none⟩ = some (.slice none 0 0) := (kc BK197.out 1).trans rfl; have hcz18_2 : w14.cell? ⟨gb197, 2, none⟩ = some (.slice none 0 0) := (kc BK197.out 2).trans rfl; have hfz18_0 := kz BK197.out 0; have hfz18_1 := kz BK197.out 1; have hfz18_2 := kz BK197.out 2; obtain ⟨Ao19, co19, eo19⟩ := Ri HO193.out; subst eo19; obtain ⟨Ao20, co20, eo20⟩ := Ri HO196.out; subst eo20; have hcz21_0 : w14.cell? ⟨gb185, 0, none⟩ = some (.slice A0_0 l0_0.length c0_0) := (kc BK185.out 0).trans rfl; have hcz21_1 : w14.cell? ⟨gb185, 1, none⟩ = some (.slice A0_1 l0_1.length c0_1) := (kc BK185.out 1).trans rfl; have hcz21_2 : w14.cell? ⟨gb185, 2, none⟩ = some (.slice A0_2 l0_2.length c0_2) := (kc BK185.out 2).trans rfl; have hfz21_0 := kz BK185.out 0; have hfz21_1 := kz BK185.out 1; have hfz21_2 := kz BK185.out 2) | ((with_reducible refine gc (f := 69) rfl ?_); refine goesL_ (some 15) rfl rfl Try.func69 (by kernel_rfl) rfl #[.agg #[.slice A0_0 l0_0.length c0_0, .slice A0_1 l0_1.length c0_1, .slice A0_2 l0_2.length c0_2]] rfl (by (try simp only [List.map_toArray, List.map_cons, List.map_nil]); first | done | rfl | (simp only [List.length_drop, List.length_take]; rfl)) ?_; (with_reducible refine (spec_l10Next.calls k _ _ l0_0 _ _ l0_1 _ _ l0_2 t198 _ ?side1 ?side2 ?side3 ?side4 ?side5 ?side6 A5.out).mono ?_); (case side1 => exact Cb HR0_0.out (by repeat (first | (with_reducible first | exact HB.out | apply ba | apply bn | apply bd | refine bs ?_ GE185.out | refine bs ?_ GE186.out | refine bs ?_ GE197.out) | exact HB.out))); (case side2 => exact HC0_0.out); (case side3 => exact Cb HR0_1.out (by repeat (first | (with_reducible first | exact HB.out | apply ba | apply bn | apply bd | refine bs ?_ GE185.out | refine bs ?_ GE186.out | refine bs ?_ GE197.out) | exact HB.out))); (case side4 => exact HC0_1.out); (case side5 => exact Cb HR0_2.out (by repeat (first | (with_reducible first | exact HB.out | apply ba | apply bn | apply bd | refine bs ?_ GE185.out | refine bs ?_ GE186.out | refine bs ?_ GE197.out) | exact HB.out))); (case side6 => exact HC0_2.out); rintro e w22 ⟨rfl, hb⟩; refine ⟨_, rfl, ?_⟩; have n0_ := AM (Rb (by (with_reducible repeat (first | apply Ra | apply Rn | apply Rd)); exact (Rm (Rf (p := ⟨gb197, 2, none⟩) (Rf (p := ⟨gb197, 1, none⟩) (Rf (p := ⟨gb197, 0, none⟩) (Rt HO190.out BK197.out (by decide)) (fun _ hk => hk.2) (.slice Ao15 t188.length co15)) (fun _ hk => hk.2) (.slice Ao19 t191.length co19)) (fun _ hk => hk.2) (.slice Ao20 t194.length co20)) (fun _ h_ => h_.1))) hb); have n1_ := AM (Rb (by (with_reducible repeat (first | apply Ra | apply Rn | apply Rd)); exact (Rm (Rf (p := ⟨gb197, 2, none⟩) (Rf (p := ⟨gb197, 1, none⟩) (Rf (p := ⟨gb197, 0, none⟩) (Rt HO193.out BK197.out (by decide)) (fun _ hk => hk.2) (.slice Ao15 t188.length co15)) (fun _ hk => hk.2) (.slice Ao19 t191.length co19)) (fun _ hk => hk.2) (.slice Ao20 t194.length co20)) (fun _ h_ => h_.1))) hb); have n2_ := AM (Rb (by (with_reducible repeat (first | apply Ra | apply Rn | apply Rd)); exact (Rm (Rf (p := ⟨gb197, 2, none⟩) (Rf (p := ⟨gb197, 1, none⟩) (Rf (p := ⟨gb197, 0, none⟩) (Rt HO196.out BK197.out (by decide)) (fun _ hk => hk.2) (.slice Ao15 t188.length co15)) (fun _ hk => hk.2) (.slice Ao19 t191.length co19)) (fun _ hk => hk.2) (.slice Ao20 t194.length co20)) (fun _ h_ => h_.1))) hb); have n3_ := AM (kb (g := gb185) (o := .cells #[.slice A0_0 l0_0.length c0_0, .slice A0_1 l0_1.length c0_1, .slice A0_2 l0_2.length c0_2] 27 (0, 0)) (by (with_reducible repeat (first | refine kn ?_ _ | refine kd ?_ | refine ka ?_ _)); refine kf ?_ NB185_197.out _; (with_reducible repeat (first | refine kn ?_ _ | refine kd ?_ | refine ka ?_ _)); refine kf ?_ NB185_197.out _; (with_reducible repeat (first | refine kn ?_ _ | refine kd ?_ | refine ka ?_ _)); refine kf ?_ NB185_197.out _; (with_reducible repeat (first | refine kn ?_ _ | refine kd ?_ | refine ka ?_ _)); exact BK185.out) hb); have n4_ := AM (kb (g := gb186) (o := .cells #[.slice none 0 0, .slice none 0 0, .slice none 0 0] 27 (0, 0)) (by (with_reducible repeat (first | refine kn ?_ _ | refine kd ?_ | refine ka ?_ _)); refine kf ?_ NB186_197.out _; (with_reducible repeat (first | refine kn ?_ _ | refine kd ?_ | refine ka ?_ _)); refine kf ?_ NB186_197.out _; (with_reducible repeat (first | refine kn ?_ _ | refine kd ?_ | refine ka ?_ _)); refine kf ?_ NB186_197.out _; (with_reducible repeat (first | refine kn ?_ _ | refine kd ?_ | refine ka ?_ _)); exact BK186.out) hb); have n5_ := AM (kb (g := gb197) (o := .cells #[.slice Ao15 t188.length co15, .slice Ao19 t191.length co19, .slice Ao20 t194.length co20] 27 (0, 0)) (by (with_reducible repeat (first | refine kn ?_ _ | refine kd ?_ | refine ka ?_ _)); refine blk_put (cs := #[.slice Ao15 t188.length co15, .slice Ao19 t191.length co19, .slice none 0 0]) ?_ 2 _ rfl; (with_reducible repeat (first | refine kn ?_ _ | refine kd ?_ | refine ka ?_ _)); refine blk_put (cs := #[.slice Ao15 t188.length co15, .slice none 0 0, .slice none 0 0]) ?_ 1 _ rfl; (with_reducible repeat (first | refine kn ?_ _ | refine kd ?_ | refine ka ?_ _)); refine blk_put (cs := #[.slice none 0 0, .slice none 0 0, .slice none 0 0]) ?_ 0 _ rfl; (with_reducible repeat (first | refine kn ?_ _ | refine kd ?_ | refine ka ?_ _)); exact BK197.out) hb); have n6_ := AM (bp (by repeat (first | (with_reducible first | exact HB.out | apply ba | apply bn | apply bd | refine bs ?_ GE185.out | refine bs ?_ GE186.out | refine bs ?_ GE197.out) | exact HB.out)) hb); clear HO190 HO193 HO196 BK185 BK186 BK197 HB; revert n0_ n1_ n2_ n3_ n4_ n5_ n6_; intro HO190 HO193 HO196 BK185 BK186 BK197 HB; (try clear hb hk); have hcz23_0 : w22.cell? ⟨gb197, 0, none⟩ = some (.slice Ao15 t188.length co15) := (kc BK197.out 0).trans rfl; have hcz23_1 : w22.cell? ⟨gb197, 1, none⟩ = some (.slice Ao19 t191.length co19) := (kc BK197.out 1).trans rfl; have hcz23_2 : w22.cell? ⟨gb197, 2, none⟩ = some (.slice Ao20 t194.length co20) := (kc BK197.out 2).trans rfl; have hfz23_0 := kz BK197.out 0; have hfz23_1 := kz BK197.out 1; have hfz23_2 := kz BK197.out 2; have hcz24_0 : w22.cell? ⟨gb186, 0, none⟩ = some (.slice none 0 0) := (kc BK186.out 0).trans rfl; have hcz24_1 : w22.cell? ⟨gb186, 1, none⟩ = some (.slice none 0 0) := (kc BK186.out 1).trans rfl; have hcz24_2 : w22.cell? ⟨gb186, 2, none⟩ = some (.slice none 0 0) := (kc BK186.out 2).trans rfl; have hfz24_0 := kz BK186.out 0; have hfz24_1 := kz BK186.out 1; have hfz24_2 := kz BK186.out 2))
      refine bodyPost_ret (results_list (rs := [.cell 2 27, .tmp 3, .tmp 4, .tmp 5]) rfl (by simp) (.cell gb186 27 #[.slice Ao15 t188.length co15, .slice Ao19 t191.length co19, .slice Ao20 t194.length co20] (0, 0) _ rfl (by (with_reducible repeat (first | refine kn ?_ _ | refine kd ?_ | refine ka ?_ _)); refine blk_put (cs := #[.slice Ao15 t188.length co15, .slice Ao19 t191.length co19, .slice none 0 0]) ?_ 2 _ rfl; (with_reducible repeat (first | refine kn ?_ _ | refine kd ?_ | refine ka ?_ _)); refine blk_put (cs := #[.slice Ao15 t188.length co15, .slice none 0 0, .slice none 0 0]) ?_ 1 _ rfl; (with_reducible repeat (first | refine kn ?_ _ | refine kd ?_ | refine ka ?_ _)); refine blk_put (cs := #[.slice none 0 0, .slice none 0 0, .slice none 0 0]) ?_ 0 _ rfl; (with_reducible repeat (first | refine kn ?_ _ | refine kd ?_ | refine ka ?_ _)); exact BK186.out) Try.underlying27 rfl (by kernel_rfl) (.tmp (.tmp (.tmp .nil))))) rfl ?_
      exact ⟨_, _, _, by first | rfl | (simp [errW_none, errW_some] <;> rfl) | (simp [*, errW_none, errW_some] <;> rfl), by (with_reducible repeat (first | apply Ra | apply Rn | apply Rd)); exact Rm (Rf (p := ⟨gb186, 2, none⟩) (Rf (p := ⟨gb186, 1, none⟩) (Rf (p := ⟨gb186, 0, none⟩) (Rt HO190.out BK186.out (by decide)) (fun _ hk => hk.2) (.slice Ao15 t188.length co15)) (fun _ hk => hk.2) (.slice Ao19 t191.length co19)) (fun _ hk => hk.2) (.slice Ao20 t194.length co20)) (fun _ hk => hk.1), by (with_reducible repeat (first | apply Ra | apply Rn | apply Rd)); exact Rm (Rf (p := ⟨gb186, 2, none⟩) (Rf (p := ⟨gb186, 1, none⟩) (Rf (p := ⟨gb186, 0, none⟩) (Rt HO193.out BK186.out (by decide)) (fun _ hk => hk.2) (.slice Ao15 t188.length co15)) (fun _ hk => hk.2) (.slice Ao19 t191.length co19)) (fun _ hk => hk.2) (.slice Ao20 t194.length co20)) (fun _ hk => hk.1), by (with_reducible repeat (first | apply Ra | apply Rn | apply Rd)); exact Rm (Rf (p := ⟨gb186, 2, none⟩) (Rf (p := ⟨gb186, 1, none⟩) (Rf (p := ⟨gb186, 0, none⟩) (Rt HO196.out BK186.out (by decide)) (fun _ hk => hk.2) (.slice Ao15 t188.length co15)) (fun _ hk => hk.2) (.slice Ao19 t191.length co19)) (fun _ hk => hk.2) (.slice Ao20 t194.length co20)) (fun _ hk => trivial), by repeat (first | (with_reducible first | exact HB.out | apply ba | apply bn | apply bd | refine bs ?_ GE185.out | refine bs ?_ GE186.out | refine bs ?_ GE197.out) | exact HB.out)⟩
    · rw [if_neg c6] at H
      have c6b0 : (t198 == 0) = false := beq_eq_false_iff_ne.mpr c6
      have c6b1 : (t198 != 0) = true := bne_iff_ne.mpr c6
      obtain ⟨ji25, hji25⟩ : ∃ j_ : Int, (wrap64 (t198 - 1)) = j_ := ⟨_, rfl⟩
      replace H : (if 0 ≤ (ji25) then (if (ji25) < (t188.length : Int) then ((spec_l10Does.f k l0_0 l0_1 l0_2 t198).bind fun t200 => (some ((t188.set ((ji25) : Int).toNat false), t191, t194, t198, t200, true))) else (none)) else (none)) = some (r1, r2, r3, r4, r5, r6) := by first | (rw [hji25] at H; exact H) | (simp only [hji25] at H ⊢; exact H)
      (try rw [hji25] at A2)
      (try rw [hji25] at A4)
      (try rw [hji25] at A5)
      have hji25w : (IntKind.i64.wrap (t198 - 1)) = ji25 := (i64_w _).trans hji25
      by_cases c26 : 0 ≤ (ji25)
      · rw [if_pos c26] at H
        have c26b0 : decide (0 ≤ (ji25)) = true := decide_eq_true c26
        clear c26
        by_cases c27 : (ji25) < (t188.length : Int)
        · rw [if_pos c27] at H
          have c27b0 : decide ((ji25) < (t188.length : Int)) = true := decide_eq_true c27
          clear c27
          obtain ⟨y199, hy199⟩ : ∃ y_ : List Bool, y_ = (t188.set ((ji25) : Int).toNat false) := ⟨_, rfl⟩
          replace H : ((spec_l10Does.f k l0_0 l0_1 l0_2 t198).bind fun t200 => (some (y199, t191, t194, t198, t200, true))) = some (r1, r2, r3, r4, r5, r6) := by first | (rw [hy199]; with_reducible exact H) | (have H2_ := (Option.bind_some _ _).symm.trans H; rw [hy199]; with_reducible exact H2_) | (have H2_ := (Option.bind_some _ _).symm.trans H; with_reducible exact H2_) | with_reducible exact H | (rw [hy199]; exact H) | exact H
          have Ny199 := AM hy199
          clear hy199
          replace H := Option.bind_eq_some_iff.mp H
          obtain ⟨t200, A290, H⟩ := H
          replace H : (some (y199, t191, t194, t198, t200, true)) = some (r1, r2, r3, r4, r5, r6) := H
          have A29 := AM A290
          clear A290
          simp only [Option.some.injEq, Prod.mk.injEq] at H
          obtain ⟨rfl, rfl, rfl, rfl, rfl, rfl⟩ := H
          go_enter Try.func20, Try.ntmps20
          try go_wp2_with (first | ((with_reducible refine gd (N := 1) rfl ?_); refine xe ?hg (N := 1) ?hd (cs := #[.slice A0_0 l0_0.length c0_0, .slice A0_1 l0_1.length c0_1, .slice A0_2 l0_2.length c0_2]) (t := 27) ?hr ?_; (case hd => rfl); (case hg => rfl); (case hr => first | (go_simp; done) | (go_simp; rfl)); intro gb185 hg w30 hbox hb; have n0_ := AM (bp (lfB HB.out) hb); have n1_ := AM (hbox); have n2_ := AM ((by rw [hg]; exact (bz (lfB HB.out)) : w.heap.size ≤ gb185)); have n3_ := AM ((by rw [hg]; exact (bz (lfB HB.out)) : w.heap.size ≤ gb185)); clear HB; revert n0_ n1_ n2_ n3_; intro HB BK185 GW185 GE185; clear hb hbox hg) | ((with_reducible refine gd (N := 2) rfl ?_); refine xe ?hg (N := 2) ?hd (cs := #[.slice none 0 0, .slice none 0 0, .slice none 0 0]) (t := 27) ?hr ?_; (case hd => rfl); (case hg => rfl); (case hr => first | (go_simp; done) | (go_simp; rfl)); intro gb186 hg w31 hbox hb; have n0_ := AM (kb (g := gb185) (o := .cells #[.slice A0_0 l0_0.length c0_0, .slice A0_1 l0_1.length c0_1, .slice A0_2 l0_2.length c0_2] 27 (0, 0)) (lfK BK185.out) hb); have n1_ := AM (bp (by repeat (first | (with_reducible first | exact HB.out | apply ba | apply bn | apply bd | refine bs ?_ GE185.out) | exact HB.out)) hb); have n2_ := AM (hbox); have n3_ := AM ((by rw [hg]; exact (bz (by repeat (first | (with_reducible first | exact HB.out | apply ba | apply bn | apply bd | refine bs ?_ GE185.out) | exact HB.out))) : w.heap.size ≤ gb186)); have n4_ := AM ((by rw [hg]; exact (bz (by repeat (first | (with_reducible first | exact HB.out | apply ba | apply bn | apply bd | refine bs ?_ GE185.out) | exact HB.out))) : w.heap.size ≤ gb186)); have n5_ := AM ((by rw [hg]; exact Nat.ne_of_lt (blk_lt (g := gb185) (o := .cells #[.slice A0_0 l0_0.length c0_0, .slice A0_1 l0_1.length c0_1, .slice A0_2 l0_2.length c0_2] 27 (0, 0)) (lfK BK185.out)) : gb185 ≠ gb186)); have n6_ := AM ((by rw [hg]; exact Nat.ne_of_gt (blk_lt (g := gb185) (o := .cells #[.slice A0_0 l0_0.length c0_0, .slice A0_1 l0_1.length c0_1, .slice A0_2 l0_2.length c0_2] 27 (0, 0)) (lfK BK185.out)) : gb186 ≠ gb185)); clear BK185 HB; revert n0_ n1_ n2_ n3_ n4_ n5_ n6_; intro BK185 HB BK186 GW186 GE186 NB185_186 NB186_185; clear hb hbox hg; have hnb32 := NB185_186.out; have hnc32 := NB186_185.out; have hcz33_0 : w31.cell? ⟨gb185, 0, none⟩ = some (.slice A0_0 l0_0.length c0_0) := (kc BK185.out 0).trans rfl; have hcz33_1 : w31.cell? ⟨gb185, 1, none⟩ = some (.slice A0_1 l0_1.length c0_1) := (kc BK185.out 1).trans rfl; have hcz33_2 : w31.cell? ⟨gb185, 2, none⟩ = some (.slice A0_2 l0_2.length c0_2) := (kc BK185.out 2).trans rfl; have hfz33_0 := kz BK185.out 0; have hfz33_1 := kz BK185.out 1; have hfz33_2 := kz BK185.out 2) | ((with_reducible refine gc (f := 56) rfl ?_); refine goesL_ (some 9) rfl rfl Try.func56 (by kernel_rfl) rfl #[.agg #[.slice A0_0 l0_0.length c0_0, .slice A0_1 l0_1.length c0_1, .slice A0_2 l0_2.length c0_2]] rfl (by (try simp only [List.map_toArray, List.map_cons, List.map_nil]); first | done | rfl | (simp only [List.length_drop, List.length_take]; rfl)) ?_; (with_reducible refine (spec_SigsOk.calls k _ _ l0_0 _ _ l0_1 _ _ l0_2 true _ ?side1 ?side2 ?side3 ?side4 ?side5 ?side6 A2.out).mono ?_); (case side1 => repeat (first | exact (Cb HR0_0.out HB.out) | (with_reducible refine Ca ?_ _) | (with_reducible refine Cn ?_ _) | (with_reducible refine Cd ?_))); (case side2 => exact HC0_0.out); (case side3 => repeat (first | exact (Cb HR0_1.out HB.out) | (with_reducible refine Ca ?_ _) | (with_reducible refine Cn ?_ _) | (with_reducible refine Cd ?_))); (case side4 => exact HC0_1.out); (case side5 => repeat (first | exact (Cb HR0_2.out HB.out) | (with_reducible refine Ca ?_ _) | (with_reducible refine Cn ?_ _) | (with_reducible refine Cd ?_))); (case side6 => exact HC0_2.out); rintro e w34 ⟨rfl, hb⟩; refine ⟨_, rfl, ?_⟩; have n0_ := AM (kb (g := gb185) (o := .cells #[.slice A0_0 l0_0.length c0_0, .slice A0_1 l0_1.length c0_1, .slice A0_2 l0_2.length c0_2] 27 (0, 0)) (lfK BK185.out) hb); have n1_ := AM (kb (g := gb186) (o := .cells #[.slice none 0 0, .slice none 0 0, .slice none 0 0] 27 (0, 0)) (lfK BK186.out) hb); have n2_ := AM (bp (by repeat (first | (with_reducible first | exact HB.out | apply ba | apply bn | apply bd | refine bs ?_ GE185.out | refine bs ?_ GE186.out) | exact HB.out)) hb); clear BK185 BK186 HB; revert n0_ n1_ n2_; intro BK185 BK186 HB; (try clear hb); have hcz35_0 : w34.cell? ⟨gb185, 0, none⟩ = some (.slice A0_0 l0_0.length c0_0) := (kc BK185.out 0).trans rfl; have hcz35_1 : w34.cell? ⟨gb185, 1, none⟩ = some (.slice A0_1 l0_1.length c0_1) := (kc BK185.out 1).trans rfl; have hcz35_2 : w34.cell? ⟨gb185, 2, none⟩ = some (.slice A0_2 l0_2.length c0_2) := (kc BK185.out 2).trans rfl; have hfz35_0 := kz BK185.out 0; have hfz35_1 := kz BK185.out 1; have hfz35_2 := kz BK185.out 2) | ((with_reducible refine gc (f := 59) rfl ?_); refine goesL_ (some 13) rfl rfl Try.func59 (by kernel_rfl) rfl #[.agg #[.slice A0_0 l0_0.length c0_0, .slice A0_1 l0_1.length c0_1, .slice A0_2 l0_2.length c0_2]] rfl (by (try simp only [List.map_toArray, List.map_cons, List.map_nil]); first | done | rfl | (simp only [List.length_drop, List.length_take]; rfl)) ?_; (with_reducible refine (spec_l10Copy.calls _ _ l0_0 _ _ l0_1 _ _ l0_2 t188 t191 t194 _ ?side1 ?side2 ?side3 ?side4 ?side5 ?side6 A4.out).mono ?_); (case side1 => repeat (first | exact (Cb HR0_0.out HB.out) | (with_reducible refine Ca ?_ _) | (with_reducible refine Cn ?_ _) | (with_reducible refine Cd ?_))); (case side2 => exact HC0_0.out); (case side3 => repeat (first | exact (Cb HR0_1.out HB.out) | (with_reducible refine Ca ?_ _) | (with_reducible refine Cn ?_ _) | (with_reducible refine Cd ?_))); (case side4 => exact HC0_1.out); (case side5 => repeat (first | exact (Cb HR0_2.out HB.out) | (with_reducible refine Ca ?_ _) | (with_reducible refine Cn ?_ _) | (with_reducible refine Cd ?_))); (case side6 => exact HC0_2.out); rintro e w36 ⟨v189, v192, v195, rfl, ho0, ho1, ho2, hb⟩; refine ⟨_, rfl, ?_⟩; have n0_ := AM (Rl ho0 (bz (by repeat (first | (with_reducible first | exact HB.out | apply ba | apply bn | apply bd | refine bs ?_ GE185.out | refine bs ?_ GE186.out) | exact HB.out)))); have n1_ := AM (Rl ho1 (bz (by repeat (first | (with_reducible first | exact HB.out | apply ba | apply bn | apply bd | refine bs ?_ GE185.out | refine bs ?_ GE186.out) | exact HB.out)))); have n2_ := AM (Rl ho2 (bz (by repeat (first | (with_reducible first | exact HB.out | apply ba | apply bn | apply bd | refine bs ?_ GE185.out | refine bs ?_ GE186.out) | exact HB.out)))); have n3_ := AM (kb (g := gb185) (o := .cells #[.slice A0_0 l0_0.length c0_0, .slice A0_1 l0_1.length c0_1, .slice A0_2 l0_2.length c0_2] 27 (0, 0)) (lfK BK185.out) hb); have n4_ := AM (kb (g := gb186) (o := .cells #[.slice none 0 0, .slice none 0 0, .slice none 0 0] 27 (0, 0)) (lfK BK186.out) hb); have n5_ := AM (bp (by repeat (first | (with_reducible first | exact HB.out | apply ba | apply bn | apply bd | refine bs ?_ GE185.out | refine bs ?_ GE186.out) | exact HB.out)) hb); clear BK185 BK186 HB; revert n0_ n1_ n2_ n3_ n4_ n5_; intro HO190 HO193 HO196 BK185 BK186 HB; (try clear hb ho0 ho1 ho2)) | ((with_reducible refine gd (N := 6) rfl ?_); refine xe ?hg (N := 6) ?hd (cs := #[.slice none 0 0, .slice none 0 0, .slice none 0 0]) (t := 27) ?hr ?_; (case hd => rfl); (case hg => rfl); (case hr => first | (go_simp; done) | (go_simp; rfl)); intro gb197 hg w37 hbox hb; have n0_ := AM (Rb (lfR HO190.out) hb); have n1_ := AM (Rb (lfR HO193.out) hb); have n2_ := AM (Rb (lfR HO196.out) hb); have n3_ := AM (kb (g := gb185) (o := .cells #[.slice A0_0 l0_0.length c0_0, .slice A0_1 l0_1.length c0_1, .slice A0_2 l0_2.length c0_2] 27 (0, 0)) (lfK BK185.out) hb); have n4_ := AM (kb (g := gb186) (o := .cells #[.slice none 0 0, .slice none 0 0, .slice none 0 0] 27 (0, 0)) (lfK BK186.out) hb); have n5_ := AM (bp (by repeat (first | (with_reducible first | exact HB.out | apply ba | apply bn | apply bd | refine bs ?_ GE185.out | refine bs ?_ GE186.out) | exact HB.out)) hb); have n6_ := AM (hbox); have n7_ := AM ((by rw [hg]; exact (bz (by repeat (first | (with_reducible first | exact HB.out | apply ba | apply bn | apply bd | refine bs ?_ GE185.out | refine bs ?_ GE186.out) | exact HB.out))) : w.heap.size ≤ gb197)); have n8_ := AM ((by rw [hg]; exact (bz (by repeat (first | (with_reducible first | exact HB.out | apply ba | apply bn | apply bd | refine bs ?_ GE185.out | refine bs ?_ GE186.out) | exact HB.out))) : w.heap.size ≤ gb197)); have n9_ := AM ((by rw [hg]; exact Nat.ne_of_lt (blk_lt (g := gb185) (o := .cells #[.slice A0_0 l0_0.length c0_0, .slice A0_1 l0_1.length c0_1, .slice A0_2 l0_2.length c0_2] 27 (0, 0)) (lfK BK185.out)) : gb185 ≠ gb197)); have n10_ := AM ((by rw [hg]; exact Nat.ne_of_gt (blk_lt (g := gb185) (o := .cells #[.slice A0_0 l0_0.length c0_0, .slice A0_1 l0_1.length c0_1, .slice A0_2 l0_2.length c0_2] 27 (0, 0)) (lfK BK185.out)) : gb197 ≠ gb185)); have n11_ := AM ((by rw [hg]; exact Nat.ne_of_lt (blk_lt (g := gb186) (o := .cells #[.slice none 0 0, .slice none 0 0, .slice none 0 0] 27 (0, 0)) (lfK BK186.out)) : gb186 ≠ gb197)); have n12_ := AM ((by rw [hg]; exact Nat.ne_of_gt (blk_lt (g := gb186) (o := .cells #[.slice none 0 0, .slice none 0 0, .slice none 0 0] 27 (0, 0)) (lfK BK186.out)) : gb197 ≠ gb186)); clear HO190 HO193 HO196 BK185 BK186 HB; revert n0_ n1_ n2_ n3_ n4_ n5_ n6_ n7_ n8_ n9_ n10_ n11_ n12_; intro HO190 HO193 HO196 BK185 BK186 HB BK197 GW197 GE197 NB185_197 NB197_185 NB186_197 NB197_186; clear hb hbox hg; obtain ⟨Ao38, co38, eo38⟩ := Ri HO190.out; subst eo38; have hnb39 := NB197_185.out; have hnc39 := NB185_197.out; have hnb40 := NB197_186.out; have hnc40 := NB186_197.out; have hcz41_0 : w37.cell? ⟨gb197, 0, none⟩ = some (.slice none 0 0) := (kc BK197.out 0).trans rfl; have hcz41_1 : w37.cell? ⟨gb197, 1, none⟩ = some (.slice none 0 0) := (kc BK197.out 1).trans rfl; have hcz41_2 : w37.cell? ⟨gb197, 2, none⟩ = some (.slice none 0 0) := (kc BK197.out 2).trans rfl; have hfz41_0 := kz BK197.out 0; have hfz41_1 := kz BK197.out 1; have hfz41_2 := kz BK197.out 2; obtain ⟨Ao42, co42, eo42⟩ := Ri HO193.out; subst eo42; obtain ⟨Ao43, co43, eo43⟩ := Ri HO196.out; subst eo43; have hcz44_0 : w37.cell? ⟨gb185, 0, none⟩ = some (.slice A0_0 l0_0.length c0_0) := (kc BK185.out 0).trans rfl; have hcz44_1 : w37.cell? ⟨gb185, 1, none⟩ = some (.slice A0_1 l0_1.length c0_1) := (kc BK185.out 1).trans rfl; have hcz44_2 : w37.cell? ⟨gb185, 2, none⟩ = some (.slice A0_2 l0_2.length c0_2) := (kc BK185.out 2).trans rfl; have hfz44_0 := kz BK185.out 0; have hfz44_1 := kz BK185.out 1; have hfz44_2 := kz BK185.out 2) | ((with_reducible refine gc (f := 69) rfl ?_); refine goesL_ (some 15) rfl rfl Try.func69 (by kernel_rfl) rfl #[.agg #[.slice A0_0 l0_0.length c0_0, .slice A0_1 l0_1.length c0_1, .slice A0_2 l0_2.length c0_2]] rfl (by (try simp only [List.map_toArray, List.map_cons, List.map_nil]); first | done | rfl | (simp only [List.length_drop, List.length_take]; rfl)) ?_; (with_reducible refine (spec_l10Next.calls k _ _ l0_0 _ _ l0_1 _ _ l0_2 t198 _ ?side1 ?side2 ?side3 ?side4 ?side5 ?side6 A5.out).mono ?_); (case side1 => exact Cb HR0_0.out (by repeat (first | (with_reducible first | exact HB.out | apply ba | apply bn | apply bd | refine bs ?_ GE185.out | refine bs ?_ GE186.out | refine bs ?_ GE197.out) | exact HB.out))); (case side2 => exact HC0_0.out); (case side3 => exact Cb HR0_1.out (by repeat (first | (with_reducible first | exact HB.out | apply ba | apply bn | apply bd | refine bs ?_ GE185.out | refine bs ?_ GE186.out | refine bs ?_ GE197.out) | exact HB.out))); (case side4 => exact HC0_1.out); (case side5 => exact Cb HR0_2.out (by repeat (first | (with_reducible first | exact HB.out | apply ba | apply bn | apply bd | refine bs ?_ GE185.out | refine bs ?_ GE186.out | refine bs ?_ GE197.out) | exact HB.out))); (case side6 => exact HC0_2.out); rintro e w45 ⟨rfl, hb⟩; refine ⟨_, rfl, ?_⟩; have n0_ := AM (Rb (by (with_reducible repeat (first | apply Ra | apply Rn | apply Rd)); exact (Rm (Rf (p := ⟨gb197, 2, none⟩) (Rf (p := ⟨gb197, 1, none⟩) (Rf (p := ⟨gb197, 0, none⟩) (Rt HO190.out BK197.out (by decide)) (fun _ hk => hk.2) (.slice Ao38 t188.length co38)) (fun _ hk => hk.2) (.slice Ao42 t191.length co42)) (fun _ hk => hk.2) (.slice Ao43 t194.length co43)) (fun _ h_ => h_.1))) hb); have n1_ := AM (Rb (by (with_reducible repeat (first | apply Ra | apply Rn | apply Rd)); exact (Rm (Rf (p := ⟨gb197, 2, none⟩) (Rf (p := ⟨gb197, 1, none⟩) (Rf (p := ⟨gb197, 0, none⟩) (Rt HO193.out BK197.out (by decide)) (fun _ hk => hk.2) (.slice Ao38 t188.length co38)) (fun _ hk => hk.2) (.slice Ao42 t191.length co42)) (fun _ hk => hk.2) (.slice Ao43 t194.length co43)) (fun _ h_ => h_.1))) hb); have n2_ := AM (Rb (by (with_reducible repeat (first | apply Ra | apply Rn | apply Rd)); exact (Rm (Rf (p := ⟨gb197, 2, none⟩) (Rf (p := ⟨gb197, 1, none⟩) (Rf (p := ⟨gb197, 0, none⟩) (Rt HO196.out BK197.out (by decide)) (fun _ hk => hk.2) (.slice Ao38 t188.length co38)) (fun _ hk => hk.2) (.slice Ao42 t191.length co42)) (fun _ hk => hk.2) (.slice Ao43 t194.length co43)) (fun _ h_ => h_.1))) hb); have n3_ := AM (kb (g := gb185) (o := .cells #[.slice A0_0 l0_0.length c0_0, .slice A0_1 l0_1.length c0_1, .slice A0_2 l0_2.length c0_2] 27 (0, 0)) (by (with_reducible repeat (first | refine kn ?_ _ | refine kd ?_ | refine ka ?_ _)); refine kf ?_ NB185_197.out _; (with_reducible repeat (first | refine kn ?_ _ | refine kd ?_ | refine ka ?_ _)); refine kf ?_ NB185_197.out _; (with_reducible repeat (first | refine kn ?_ _ | refine kd ?_ | refine ka ?_ _)); refine kf ?_ NB185_197.out _; (with_reducible repeat (first | refine kn ?_ _ | refine kd ?_ | refine ka ?_ _)); exact BK185.out) hb); have n4_ := AM (kb (g := gb186) (o := .cells #[.slice none 0 0, .slice none 0 0, .slice none 0 0] 27 (0, 0)) (by (with_reducible repeat (first | refine kn ?_ _ | refine kd ?_ | refine ka ?_ _)); refine kf ?_ NB186_197.out _; (with_reducible repeat (first | refine kn ?_ _ | refine kd ?_ | refine ka ?_ _)); refine kf ?_ NB186_197.out _; (with_reducible repeat (first | refine kn ?_ _ | refine kd ?_ | refine ka ?_ _)); refine kf ?_ NB186_197.out _; (with_reducible repeat (first | refine kn ?_ _ | refine kd ?_ | refine ka ?_ _)); exact BK186.out) hb); have n5_ := AM (kb (g := gb197) (o := .cells #[.slice Ao38 t188.length co38, .slice Ao42 t191.length co42, .slice Ao43 t194.length co43] 27 (0, 0)) (by (with_reducible repeat (first | refine kn ?_ _ | refine kd ?_ | refine ka ?_ _)); refine blk_put (cs := #[.slice Ao38 t188.length co38, .slice Ao42 t191.length co42, .slice none 0 0]) ?_ 2 _ rfl; (with_reducible repeat (first | refine kn ?_ _ | refine kd ?_ | refine ka ?_ _)); refine blk_put (cs := #[.slice Ao38 t188.length co38, .slice none 0 0, .slice none 0 0]) ?_ 1 _ rfl; (with_reducible repeat (first | refine kn ?_ _ | refine kd ?_ | refine ka ?_ _)); refine blk_put (cs := #[.slice none 0 0, .slice none 0 0, .slice none 0 0]) ?_ 0 _ rfl; (with_reducible repeat (first | refine kn ?_ _ | refine kd ?_ | refine ka ?_ _)); exact BK197.out) hb); have n6_ := AM (bp (by repeat (first | (with_reducible first | exact HB.out | apply ba | apply bn | apply bd | refine bs ?_ GE185.out | refine bs ?_ GE186.out | refine bs ?_ GE197.out) | exact HB.out)) hb); clear HO190 HO193 HO196 BK185 BK186 BK197 HB; revert n0_ n1_ n2_ n3_ n4_ n5_ n6_; intro HO190 HO193 HO196 BK185 BK186 BK197 HB; (try clear hb hk); have hcz46_0 : w45.cell? ⟨gb197, 0, none⟩ = some (.slice Ao38 t188.length co38) := (kc BK197.out 0).trans rfl; have hcz46_1 : w45.cell? ⟨gb197, 1, none⟩ = some (.slice Ao42 t191.length co42) := (kc BK197.out 1).trans rfl; have hcz46_2 : w45.cell? ⟨gb197, 2, none⟩ = some (.slice Ao43 t194.length co43) := (kc BK197.out 2).trans rfl; have hfz46_0 := kz BK197.out 0; have hfz46_1 := kz BK197.out 1; have hfz46_2 := kz BK197.out 2; have p28 : 0 ≤ ((ji25) : Int) := of_decide_eq_true (by first | (with_reducible assumption) | assumption); have q28 : ((ji25) : Int) < ((t188.length : Int) : Int) := of_decide_eq_true (by first | (with_reducible assumption) | assumption); obtain ⟨go28, co28, eo28, gb28, gl28, cl28, HG28⟩ := Kd.R_form HO190.out (by omega); (first | cases eo28 | (injection eo28 with ea_ en_ ec_; (first | subst ea_ | (injection ea_ with ea_; subst ea_)); subst ec_; clear en_)); have GB28 := AM gb28; have GG28 := AM HG28; clear gb28 gl28 HG28; obtain ⟨hx28_0, hf28_0⟩ := Kd.R_celln false HO190.out ((ji25) : Int) p28 q28; replace p28 := eq_true p28; replace q28 := eq_true q28; obtain ⟨hy47_, hz47_⟩ := Kd.R_celln false HO190.out ((ji25) : Int) (of_decide_eq_true (by first | (with_reducible assumption) | assumption)) (of_decide_eq_true (by first | (with_reducible assumption) | assumption)); have HP47 := Kd.R_putg HO190.out ((ji25) : Int) false) | ((with_reducible refine gs (t := 4) (p := 23) rfl ?_); refine se (t := 4) (p := 23) (v := ?vo_w48) (w1 := (w45.setCell ⟨go28, ((ji25) : Int).toNat, none⟩ (.bool false))) ?hg ?ho ?hn ?hr ?_; (case ho => rfl); (case hg => rfl); (case hn => rfl); (case hr => first | (go_simp; done) | (go_simp; rfl)); intro w48 hw; have hg : w45.grownBy w48 (some go28) := (by rw [hw]; exact HP47.2); have hp_ : Kd.R Kd.bool 4 w48 w.heap.size (fun k_ => some k_ ≠ (.slice Ao42 t191.length co42 : Value).ownBlock) (.slice (some ⟨go28, 0, none⟩) t188.length co38) y199 := (by rw [hw, Ny199.out]; exact HP47.1); clear HP47; have n0_ := AM (blk_grown (g := gb185) (o := .cells #[.slice A0_0 l0_0.length c0_0, .slice A0_1 l0_1.length c0_1, .slice A0_2 l0_2.length c0_2] 27 (0, 0)) (lfK BK185.out) hg (Kd.R_ne HO190.out BK185.out (by decide))); have n1_ := AM (blk_grown (g := gb186) (o := .cells #[.slice none 0 0, .slice none 0 0, .slice none 0 0] 27 (0, 0)) (lfK BK186.out) hg (Kd.R_ne HO190.out BK186.out (by decide))); have n2_ := AM (hp_); have n3_ := AM (Kd.R_after (v := (.slice (some ⟨go28, 0, none⟩) t188.length co38)) (v1 := (.slice (some ⟨go28, 0, none⟩) t188.length co38)) (ok := (fun _ => True)) (by (with_reducible repeat (first | apply Ra | apply Rn | apply Rd)); exact Rm HO193.out (fun _ hk => ⟨trivial, hk⟩)) hg (.inl rfl)); have n4_ := AM (Kd.R_over' (v := (.slice (some ⟨go28, 0, none⟩) t188.length co38)) (lfR HO196.out) (Kd.R_typed HO190.out) (by decide) hg); have n5_ := AM (blk_grown (g := gb197) (o := .cells #[.slice (some ⟨go28, 0, none⟩) t188.length co38, .slice Ao42 t191.length co42, .slice Ao43 t194.length co43] 27 (0, 0)) (lfK BK197.out) hg (Kd.R_ne HO190.out BK197.out (by decide))); have n6_ := AM ((by rw [hw]; exact bs (HB.out) GB28.out : Below w.heap.size w w48)); clear BK185 BK186 HO190 HO193 HO196 BK197 HB; revert n0_ n1_ n2_ n3_ n4_ n5_ n6_; intro BK185 BK186 HO190 HO193 HO196 BK197 HB; clear hg hw hp_))
          have n0_ := AM (Rd HO190.out)
          have n1_ := AM (Rd HO193.out)
          have n2_ := AM (Rd HO196.out)
          have n3_ := AM (kd BK185.out)
          have n4_ := AM (kd BK186.out)
          have n5_ := AM (kd BK197.out)
          have n6_ := AM (bd HB.out)
          clear HO190 HO193 HO196 BK185 BK186 BK197 HB
          revert n0_ n1_ n2_ n3_ n4_ n5_ n6_
          intro HO190 HO193 HO196 BK185 BK186 BK197 HB
          refine start_ (n := 9) (S := fun w' => w'.cell? ⟨gb197, 0, none⟩ = some (.slice (some ⟨go28, 0, none⟩) t188.length co38) ∧ w'.cell? ⟨gb197, 1, none⟩ = some (.slice Ao42 t191.length co42) ∧ w'.cell? ⟨gb197, 2, none⟩ = some (.slice Ao43 t194.length co43) ∧ w'.cell? ⟨gb185, 0, none⟩ = some (.slice A0_0 l0_0.length c0_0) ∧ w'.cell? ⟨gb185, 1, none⟩ = some (.slice A0_1 l0_1.length c0_1) ∧ w'.cell? ⟨gb185, 2, none⟩ = some (.slice A0_2 l0_2.length c0_2)) (ds := []) (mB 9 0x0) (by kernel_rfl) rfl rfl ⟨(kc BK197.out 0).trans rfl, (kc BK197.out 1).trans rfl, (kc BK197.out 2).trans rfl, (kc BK185.out 0).trans rfl, (kc BK185.out 1).trans rfl, (kc BK185.out 2).trans rfl⟩ (fun hHeld => ?_); refine with_tabW spec_SigsNext.tab8 spec_SigsNext.bits8 (fun HT_ HW_ => ?_)
          generalize w48.drew = w49 at HO190 HO193 HO196 BK185 BK186 BK197 HB hHeld ⊢
          refine plan_ 9 [(1, 25, 0x2), (3, 27, 0xa)] ?_; (iterate 2 (refine puP (v := ?_) (a' := ?_) rfl rfl HT_.out (he := ?_) (ha := ?_) (h := ?_); rotate_left; (focus intro w'; go_simp; with_reducible rfl); rotate_left; (focus simp only [Act.put, sA, sZ, sS, i64_w, i32_w]; rfl))); refine planE ?_
          refine take_ (i := 0) (N := some 24) (v := ?_) (a' := ?_) (mB 9 0xb) rfl rfl (take_ofW HT_.out HW_.out (by kernel_rfl)) (fun _ _ _ h => h) (Or.inl ⟨by rfl, ?_⟩) hHeld ?_ ?_
          rotate_left
          · rintro w' ⟨s0, s1, s2, s3, s4, s5⟩; go_simp; with_reducible rfl
          rotate_left
          · simp only [Act.put, sA, sZ, sS, i64_w, i32_w]; rfl
          refine take_ (i := 2) (N := some 26) (v := ?_) (a' := ?_) (mB 9 0xf) rfl rfl (take_ofW HT_.out HW_.out (by kernel_rfl)) (fun _ _ _ h => h) (Or.inl ⟨by rfl, ?_⟩) hHeld ?_ ?_
          rotate_left
          · rintro w' ⟨s0, s1, s2, s3, s4, s5⟩; go_simp; with_reducible rfl
          rotate_left
          · simp only [Act.put, sA, sZ, sS, i64_w, i32_w]; rfl
          refine one_ (i := 4) (N := some 28) (mB 9 0x1f) rfl rfl (one_of HT_.out (by kernel_rfl)) (by decide) (fun K hK => ?_)
          refine goes_ Try.func70 (by kernel_rfl) rfl #[.agg #[.slice A0_0 l0_0.length c0_0, .slice A0_1 l0_1.length c0_1, .slice A0_2 l0_2.length c0_2], .int .i64 t198] (by rfl) rfl rfl (by (try simp only [List.map_toArray, List.map_cons, List.map_nil]); first | done | rfl | (simp only [List.length_drop, List.length_take]; rfl)) ?_
          with_reducible refine (spec_l10Does.calls k _ _ l0_0 _ _ l0_1 _ _ l0_2 t198 t200 _ ?side1 ?side2 ?side3 ?side4 ?side5 ?side6 A29.out).mono ?_
          (case side1 => repeat (first | exact (Cb HR0_0.out HB.out) | (with_reducible refine Ca ?_ _) | (with_reducible refine Cn ?_ _) | (with_reducible refine Cd ?_)))
          (case side2 => exact HC0_0.out)
          (case side3 => repeat (first | exact (Cb HR0_1.out HB.out) | (with_reducible refine Ca ?_ _) | (with_reducible refine Cn ?_ _) | (with_reducible refine Cd ?_)))
          (case side4 => exact HC0_1.out)
          (case side5 => repeat (first | exact (Cb HR0_2.out HB.out) | (with_reducible refine Ca ?_ _) | (with_reducible refine Cn ?_ _) | (with_reducible refine Cd ?_)))
          (case side6 => exact HC0_2.out)
          rintro e w50 ⟨rfl, hb⟩
          refine ⟨_, rfl, ?_⟩
          have n0_ := AM (Rb (lfR HO190.out) hb)
          have n1_ := AM (Rb (lfR HO193.out) hb)
          have n2_ := AM (Rb (lfR HO196.out) hb)
          have n3_ := AM (kb (g := gb185) (o := .cells #[.slice A0_0 l0_0.length c0_0, .slice A0_1 l0_1.length c0_1, .slice A0_2 l0_2.length c0_2] 27 (0, 0)) (lfK BK185.out) hb)
          have n4_ := AM (kb (g := gb186) (o := .cells #[.slice none 0 0, .slice none 0 0, .slice none 0 0] 27 (0, 0)) (lfK BK186.out) hb)
          have n5_ := AM (kb (g := gb197) (o := .cells #[.slice (some ⟨go28, 0, none⟩) t188.length co38, .slice Ao42 t191.length co42, .slice Ao43 t194.length co43] 27 (0, 0)) (lfK BK197.out) hb)
          have n6_ := AM (bp (by repeat (first | (with_reducible first | exact HB.out | apply ba | apply bn | apply bd | refine bs ?_ GE185.out | refine bs ?_ GE186.out | refine bs ?_ GE197.out) | exact HB.out)) hb)
          clear HO190 HO193 HO196 BK185 BK186 BK197 HB
          revert n0_ n1_ n2_ n3_ n4_ n5_ n6_
          intro HO190 HO193 HO196 BK185 BK186 BK197 HB
          (try clear hb)
          (try clear hb2)
          (try clear hk)
          (try clear hi)
          refine hK.out _ _ ⟨(kc BK197.out 0).trans rfl, (kc BK197.out 1).trans rfl, (kc BK197.out 2).trans rfl, (kc BK185.out 0).trans rfl, (kc BK185.out 1).trans rfl, (kc BK185.out 2).trans rfl⟩ (fun hHeld => ?_)
          clear hK K
          refine norm_ (a' := ?_) ?_ ?_
          rotate_left
          · show Act.put _ (some 28) _ = _
            simp only [Act.put, sA, sZ, sS, i64_w, i32_w]
            rfl
          refine one_ (i := 5) (N := none) (mB 9 0x3f) rfl rfl (one_of HT_.out (by kernel_rfl)) (by decide) (fun K hK => ?_)
          have hs51 : w50.cell? ⟨gb186, 0, none⟩ = some (.slice none 0 0) := (kc BK186.out 0).trans rfl
          have hfs51 := kz BK186.out 0
          have hns51_0 := NB185_186.out
          have hns51_2 := NB197_186.out
          have hms51_0 := NB186_185.out
          have hms51_2 := NB186_197.out
          have hs52 : w50.cell? ⟨gb186, 1, none⟩ = some (.slice none 0 0) := (kc BK186.out 1).trans rfl
          have hfs52 := kz BK186.out 1
          have hns52_0 := NB185_186.out
          have hns52_2 := NB197_186.out
          have hms52_0 := NB186_185.out
          have hms52_2 := NB186_197.out
          have hs53 : w50.cell? ⟨gb186, 2, none⟩ = some (.slice none 0 0) := (kc BK186.out 2).trans rfl
          have hfs53 := kz BK186.out 2
          have hns53_0 := NB185_186.out
          have hns53_2 := NB197_186.out
          have hms53_0 := NB186_185.out
          have hms53_2 := NB186_197.out
          refine skip_ (w1 := ?_) (by rfl) rfl ?_ ?_
          rotate_left
          · go_simp
            rfl
          refine hK.out _ _ ⟨((cell_far (p := ⟨gb186, _, none⟩) NB197_186.out _).trans (((cell_far (p := ⟨gb186, _, none⟩) NB197_186.out _).trans (((cell_far (p := ⟨gb186, _, none⟩) NB197_186.out _).trans (hHeld.1)))))), ((cell_far (p := ⟨gb186, _, none⟩) NB197_186.out _).trans (((cell_far (p := ⟨gb186, _, none⟩) NB197_186.out _).trans (((cell_far (p := ⟨gb186, _, none⟩) NB197_186.out _).trans (hHeld.2.1)))))), ((cell_far (p := ⟨gb186, _, none⟩) NB197_186.out _).trans (((cell_far (p := ⟨gb186, _, none⟩) NB197_186.out _).trans (((cell_far (p := ⟨gb186, _, none⟩) NB197_186.out _).trans (hHeld.2.2.1)))))), ((cell_far (p := ⟨gb186, _, none⟩) NB185_186.out _).trans (((cell_far (p := ⟨gb186, _, none⟩) NB185_186.out _).trans (((cell_far (p := ⟨gb186, _, none⟩) NB185_186.out _).trans (hHeld.2.2.2.1)))))), ((cell_far (p := ⟨gb186, _, none⟩) NB185_186.out _).trans (((cell_far (p := ⟨gb186, _, none⟩) NB185_186.out _).trans (((cell_far (p := ⟨gb186, _, none⟩) NB185_186.out _).trans (hHeld.2.2.2.2.1)))))), ((cell_far (p := ⟨gb186, _, none⟩) NB185_186.out _).trans (((cell_far (p := ⟨gb186, _, none⟩) NB185_186.out _).trans (((cell_far (p := ⟨gb186, _, none⟩) NB185_186.out _).trans (hHeld.2.2.2.2.2))))))⟩ (fun hHeld => ?_)
          clear hK K
          refine plan_ 9 [(6, 3, 0x7f), (7, 4, 0xff), (8, 5, 0x1ff)] ?_; (iterate 3 (refine puP (v := ?_) (a' := ?_) rfl rfl HT_.out (he := ?_) (ha := ?_) (h := ?_); rotate_left; (focus intro w'; go_simp; with_reducible rfl); rotate_left; (focus simp only [Act.put, sA, sZ, sS, i64_w, i32_w]; rfl))); refine planE ?_
          refine done_ (done_of HT_.out (by kernel_rfl)) ?_
          try go_wp2
          refine bodyPost_ret (results_list (rs := [.cell 2 27, .tmp 3, .tmp 4, .tmp 5]) rfl (by simp) (.cell gb186 27 #[.slice (some ⟨go28, 0, none⟩) t188.length co38, .slice Ao42 t191.length co42, .slice Ao43 t194.length co43] (0, 0) _ rfl (by (with_reducible repeat (first | refine kn ?_ _ | refine kd ?_ | refine ka ?_ _)); refine blk_put (cs := #[.slice (some ⟨go28, 0, none⟩) t188.length co38, .slice Ao42 t191.length co42, .slice none 0 0]) ?_ 2 _ rfl; (with_reducible repeat (first | refine kn ?_ _ | refine kd ?_ | refine ka ?_ _)); refine blk_put (cs := #[.slice (some ⟨go28, 0, none⟩) t188.length co38, .slice none 0 0, .slice none 0 0]) ?_ 1 _ rfl; (with_reducible repeat (first | refine kn ?_ _ | refine kd ?_ | refine ka ?_ _)); refine blk_put (cs := #[.slice none 0 0, .slice none 0 0, .slice none 0 0]) ?_ 0 _ rfl; (with_reducible repeat (first | refine kn ?_ _ | refine kd ?_ | refine ka ?_ _)); exact BK186.out) Try.underlying27 rfl (by kernel_rfl) (.tmp (.tmp (.tmp .nil))))) rfl ?_
          exact ⟨_, _, _, by first | rfl | (simp [errW_none, errW_some] <;> rfl) | (simp only [← hji25]; first | rfl | (simp [errW_none, errW_some] <;> rfl)) | (simp [*, errW_none, errW_some] <;> rfl), by (with_reducible repeat (first | apply Ra | apply Rn | apply Rd)); exact Rm (Rf (p := ⟨gb186, 2, none⟩) (Rf (p := ⟨gb186, 1, none⟩) (Rf (p := ⟨gb186, 0, none⟩) (Rt HO190.out BK186.out (by decide)) (fun _ hk => hk.2) (.slice (some ⟨go28, 0, none⟩) t188.length co38)) (fun _ hk => hk.2) (.slice Ao42 t191.length co42)) (fun _ hk => hk.2) (.slice Ao43 t194.length co43)) (fun _ hk => hk.1), by (with_reducible repeat (first | apply Ra | apply Rn | apply Rd)); exact Rm (Rf (p := ⟨gb186, 2, none⟩) (Rf (p := ⟨gb186, 1, none⟩) (Rf (p := ⟨gb186, 0, none⟩) (Rt HO193.out BK186.out (by decide)) (fun _ hk => hk.2) (.slice (some ⟨go28, 0, none⟩) t188.length co38)) (fun _ hk => hk.2) (.slice Ao42 t191.length co42)) (fun _ hk => hk.2) (.slice Ao43 t194.length co43)) (fun _ hk => hk.1.2), by (with_reducible repeat (first | apply Ra | apply Rn | apply Rd)); exact Rm (Rf (p := ⟨gb186, 2, none⟩) (Rf (p := ⟨gb186, 1, none⟩) (Rf (p := ⟨gb186, 0, none⟩) (Rt HO196.out BK186.out (by decide)) (fun _ hk => hk.2) (.slice (some ⟨go28, 0, none⟩) t188.length co38)) (fun _ hk => hk.2) (.slice Ao42 t191.length co42)) (fun _ hk => hk.2) (.slice Ao43 t194.length co43)) (fun _ hk => trivial), by repeat (first | (with_reducible first | exact HB.out | apply ba | apply bn | apply bd | refine bs ?_ GE185.out | refine bs ?_ GE186.out | refine bs ?_ GE197.out) | exact HB.out)⟩
        · rw [if_neg c27] at H
          exact absurd H (by simp)
      · rw [if_neg c26] at H
        exact absurd H (by simp)
  · replace c3 := Bool.eq_false_iff.mpr c3
    subst c3
    have H1 : (some (([] : List Bool), ([] : List Bool), ([] : List Int), 0, 1, false)) = some (r1, r2, r3, r4, r5, r6) := by rw [if_neg (show ¬ (false = true) by decide)] at H; exact H
    clear H
    have H := H1
    clear H1
    simp only [Option.some.injEq, Prod.mk.injEq] at H
    obtain ⟨rfl, rfl, rfl, rfl, rfl, rfl⟩ := H
    go_enter Try.func20, Try.ntmps20
    go_wp2_with (first | ((with_reducible refine gd (N := 1) rfl ?_); refine xe ?hg (N := 1) ?hd (cs := #[.slice A0_0 l0_0.length c0_0, .slice A0_1 l0_1.length c0_1, .slice A0_2 l0_2.length c0_2]) (t := 27) ?hr ?_; (case hd => rfl); (case hg => rfl); (case hr => first | (go_simp; done) | (go_simp; rfl)); intro gb185 hg w54 hbox hb; have n0_ := AM (bp (lfB HB.out) hb); have n1_ := AM (hbox); have n2_ := AM ((by rw [hg]; exact (bz (lfB HB.out)) : w.heap.size ≤ gb185)); have n3_ := AM ((by rw [hg]; exact (bz (lfB HB.out)) : w.heap.size ≤ gb185)); clear HB; revert n0_ n1_ n2_ n3_; intro HB BK185 GW185 GE185; clear hb hbox hg) | ((with_reducible refine gd (N := 2) rfl ?_); refine xe ?hg (N := 2) ?hd (cs := #[.slice none 0 0, .slice none 0 0, .slice none 0 0]) (t := 27) ?hr ?_; (case hd => rfl); (case hg => rfl); (case hr => first | (go_simp; done) | (go_simp; rfl)); intro gb186 hg w55 hbox hb; have n0_ := AM (kb (g := gb185) (o := .cells #[.slice A0_0 l0_0.length c0_0, .slice A0_1 l0_1.length c0_1, .slice A0_2 l0_2.length c0_2] 27 (0, 0)) (lfK BK185.out) hb); have n1_ := AM (bp (by repeat (first | (with_reducible first | exact HB.out | apply ba | apply bn | apply bd | refine bs ?_ GE185.out) | exact HB.out)) hb); have n2_ := AM (hbox); have n3_ := AM ((by rw [hg]; exact (bz (by repeat (first | (with_reducible first | exact HB.out | apply ba | apply bn | apply bd | refine bs ?_ GE185.out) | exact HB.out))) : w.heap.size ≤ gb186)); have n4_ := AM ((by rw [hg]; exact (bz (by repeat (first | (with_reducible first | exact HB.out | apply ba | apply bn | apply bd | refine bs ?_ GE185.out) | exact HB.out))) : w.heap.size ≤ gb186)); have n5_ := AM ((by rw [hg]; exact Nat.ne_of_lt (blk_lt (g := gb185) (o := .cells #[.slice A0_0 l0_0.length c0_0, .slice A0_1 l0_1.length c0_1, .slice A0_2 l0_2.length c0_2] 27 (0, 0)) (lfK BK185.out)) : gb185 ≠ gb186)); have n6_ := AM ((by rw [hg]; exact Nat.ne_of_gt (blk_lt (g := gb185) (o := .cells #[.slice A0_0 l0_0.length c0_0, .slice A0_1 l0_1.length c0_1, .slice A0_2 l0_2.length c0_2] 27 (0, 0)) (lfK BK185.out)) : gb186 ≠ gb185)); clear BK185 HB; revert n0_ n1_ n2_ n3_ n4_ n5_ n6_; intro BK185 HB BK186 GW186 GE186 NB185_186 NB186_185; clear hb hbox hg; have hnb56 := NB185_186.out; have hnc56 := NB186_185.out; have hcz57_0 : w55.cell? ⟨gb185, 0, none⟩ = some (.slice A0_0 l0_0.length c0_0) := (kc BK185.out 0).trans rfl; have hcz57_1 : w55.cell? ⟨gb185, 1, none⟩ = some (.slice A0_1 l0_1.length c0_1) := (kc BK185.out 1).trans rfl; have hcz57_2 : w55.cell? ⟨gb185, 2, none⟩ = some (.slice A0_2 l0_2.length c0_2) := (kc BK185.out 2).trans rfl; have hfz57_0 := kz BK185.out 0; have hfz57_1 := kz BK185.out 1; have hfz57_2 := kz BK185.out 2) | ((with_reducible refine gc (f := 56) rfl ?_); refine goesL_ (some 9) rfl rfl Try.func56 (by kernel_rfl) rfl #[.agg #[.slice A0_0 l0_0.length c0_0, .slice A0_1 l0_1.length c0_1, .slice A0_2 l0_2.length c0_2]] rfl (by (try simp only [List.map_toArray, List.map_cons, List.map_nil]); first | done | rfl | (simp only [List.length_drop, List.length_take]; rfl)) ?_; (with_reducible refine (spec_SigsOk.calls k _ _ l0_0 _ _ l0_1 _ _ l0_2 false _ ?side1 ?side2 ?side3 ?side4 ?side5 ?side6 A2.out).mono ?_); (case side1 => repeat (first | exact (Cb HR0_0.out HB.out) | (with_reducible refine Ca ?_ _) | (with_reducible refine Cn ?_ _) | (with_reducible refine Cd ?_))); (case side2 => exact HC0_0.out); (case side3 => repeat (first | exact (Cb HR0_1.out HB.out) | (with_reducible refine Ca ?_ _) | (with_reducible refine Cn ?_ _) | (with_reducible refine Cd ?_))); (case side4 => exact HC0_1.out); (case side5 => repeat (first | exact (Cb HR0_2.out HB.out) | (with_reducible refine Ca ?_ _) | (with_reducible refine Cn ?_ _) | (with_reducible refine Cd ?_))); (case side6 => exact HC0_2.out); rintro e w58 ⟨rfl, hb⟩; refine ⟨_, rfl, ?_⟩; have n0_ := AM (kb (g := gb185) (o := .cells #[.slice A0_0 l0_0.length c0_0, .slice A0_1 l0_1.length c0_1, .slice A0_2 l0_2.length c0_2] 27 (0, 0)) (lfK BK185.out) hb); have n1_ := AM (kb (g := gb186) (o := .cells #[.slice none 0 0, .slice none 0 0, .slice none 0 0] 27 (0, 0)) (lfK BK186.out) hb); have n2_ := AM (bp (by repeat (first | (with_reducible first | exact HB.out | apply ba | apply bn | apply bd | refine bs ?_ GE185.out | refine bs ?_ GE186.out) | exact HB.out)) hb); clear BK185 BK186 HB; revert n0_ n1_ n2_; intro BK185 BK186 HB; (try clear hb); have hcz59_0 : w58.cell? ⟨gb186, 0, none⟩ = some (.slice none 0 0) := (kc BK186.out 0).trans rfl; have hcz59_1 : w58.cell? ⟨gb186, 1, none⟩ = some (.slice none 0 0) := (kc BK186.out 1).trans rfl; have hcz59_2 : w58.cell? ⟨gb186, 2, none⟩ = some (.slice none 0 0) := (kc BK186.out 2).trans rfl; have hfz59_0 := kz BK186.out 0; have hfz59_1 := kz BK186.out 1; have hfz59_2 := kz BK186.out 2))
    refine bodyPost_ret (results_list (rs := [.cell 2 27, .tmp 3, .tmp 4, .tmp 5]) rfl (by simp) (.cell gb186 27 #[.slice none 0 0, .slice none 0 0, .slice none 0 0] (0, 0) _ rfl (by (with_reducible repeat (first | refine kn ?_ _ | refine kd ?_ | refine ka ?_ _)); refine blk_put (cs := #[.slice none 0 0, .slice none 0 0, .slice none 0 0]) ?_ 2 _ rfl; (with_reducible repeat (first | refine kn ?_ _ | refine kd ?_ | refine ka ?_ _)); refine blk_put (cs := #[.slice none 0 0, .slice none 0 0, .slice none 0 0]) ?_ 1 _ rfl; (with_reducible repeat (first | refine kn ?_ _ | refine kd ?_ | refine ka ?_ _)); refine blk_put (cs := #[.slice none 0 0, .slice none 0 0, .slice none 0 0]) ?_ 0 _ rfl; (with_reducible repeat (first | refine kn ?_ _ | refine kd ?_ | refine ka ?_ _)); exact BK186.out) Try.underlying27 rfl (by kernel_rfl) (.tmp (.tmp (.tmp .nil))))) rfl ?_
    exact ⟨_, _, _, by first | rfl | (simp [errW_none, errW_some] <;> rfl) | (simp [*, errW_none, errW_some] <;> rfl), by first | exact Kd.R_nil _ _ _ _ _ | exact Kd.N_nil _ _ _ _ _ | exact Kd.V_nil _ _ _ _ _ | exact Kd.Q_nil _ _ _ _ _ | exact Kd.S_nil _ _ _ _ _, by first | exact Kd.R_nil _ _ _ _ _ | exact Kd.N_nil _ _ _ _ _ | exact Kd.V_nil _ _ _ _ _ | exact Kd.Q_nil _ _ _ _ _ | exact Kd.S_nil _ _ _ _ _, by first | exact Kd.R_nil _ _ _ _ _ | exact Kd.N_nil _ _ _ _ _ | exact Kd.V_nil _ _ _ _ _ | exact Kd.Q_nil _ _ _ _ _ | exact Kd.S_nil _ _ _ _ _, by repeat (first | (with_reducible first | exact HB.out | apply ba | apply bn | apply bd | refine bs ?_ GE185.out | refine bs ?_ GE186.out) | exact HB.out)⟩

end Go.Proofs.Ytpcohpkflkhfbaa.GSnx
