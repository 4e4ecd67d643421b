/- Of all pages and places: PagesGive of the program answers what the reference's does, changes nothing that came in, and shares no memory with it. -/
import Derived.Test.YtfbdkjdockbfdaaPuOk
import Derived.Test.YtfbdkjdockbfdaaGPagesx10
namespace Go.Proofs.Ytfbdkjdockbfdaa.Pure
open Go.RowKit Go.Proofs.YtfbdkjdockbfdaaW.PrintWords Go.Proofs.Ytfbdkjdockbfdaa.Gen Go.Proofs.Ytfbdkjdockbfdaa.GPages Go.Proofs.Ytfbdkjdockbfdaa.PuPages Go.Proofs.Ytfbdkjdockbfdaa.PuOk
set_option linter.unusedVariables false
theorem used_is (l0 : List ByteArray) (l1 : List Int) (a : Int) : spec_l1Used.f l0 l1 a = impl_Pages_has.f l0 l1 a := rfl
theorem give_is (l0 : List ByteArray) (l1 : List Int) (a : Int) (hl : l0.length = l1.length) : spec_l1Give.f l0 l1 a = impl_Pages_give.f l0 l1 a := by
  unfold spec_l1Give.f impl_Pages_give.f
  by_cases c0 : 0 ≤ a
  · rw [if_pos c0, if_pos c0]
    by_cases c1 : a < (l1.length : Int)
    · have c1' : a < (l0.length : Int) := by omega
      rw [if_pos c1, if_pos c1']
      simp only [Option.bind_some]
      rw [if_pos c1, if_pos c1']
      have hr : rd (l1.set a.toNat (wrap64 (rd l1 a - 1))) a = wrap64 (rd l1 a - 1) := by
        unfold rd
        rw [List.getD_eq_getElem?_getD, List.getElem?_set_self (by omega)]
        rfl
      rw [hr]
    · rw [if_neg c1]
      have c1' : ¬ a < (l0.length : Int) := by omega
      rw [if_neg c1']
  · rw [if_neg c0, if_neg c0]
theorem give_len {l0 : List ByteArray} {l1 : List Int} {a : Int} {r : List ByteArray × List Int} (h : impl_Pages_give.f l0 l1 a = some r) : r.1.length = l0.length ∧ r.2.length = l1.length := by
  unfold impl_Pages_give.f at h
  split at h
  · split at h
    · split at h
      · split at h
        · cases h; simp
        · cases h; simp
      · cases h
    · cases h
  · cases h
theorem has_cases (l0 : List ByteArray) (l1 : List Int) (a : Int) (hl : l1.length ≤ 1048576) : impl_Pages_has.f l0 l1 a = some false ∨ impl_Pages_has.f l0 l1 a = some true ∧ 0 ≤ a ∧ a < (l1.length : Int) := by
  unfold impl_Pages_has.f impl_in.f
  rw [wid (by omega) (by omega)]
  by_cases c0 : a ≥ 0
  · rw [if_pos c0]
    simp only [Option.bind_some]
    by_cases c1 : a ≤ (l1.length : Int) - 1
    · simp only [c1, decide_true, if_true]
      rw [if_pos (by omega), if_pos (by omega)]
      by_cases c2 : rd l1 a > 0
      · exact .inr ⟨by simp [c2], by omega, by omega⟩
      · exact .inl (by simp [c2])
    · exact .inl (by simp [c1])
  · rw [if_neg c0]
    exact .inl rfl
/-- Both answer the same. -/
theorem same (l0 : List ByteArray) (l1 : List Int) (a : Int) (h0 : l0.length ≤ 1048576) (h1 : l1.length ≤ 1048576) :
    ∃ r1 r2 r3, r1.length ≤ 1048576 ∧ r2.length ≤ 1048576 ∧ ∀ k, 1048600 ≤ k → spec_PagesGive.f k l0 l1 a = some (r1, r2, r3) ∧ impl_PagesGive.f k l0 l1 a = some (r1, r2, r3) := by
  by_cases c0 : Ok l0 l1
  · rcases has_cases l0 l1 a h1 with hh | ⟨hh, ha0, ha1⟩
    · refine ⟨[], [], false, by simp, by simp, fun k hk => ?_⟩
      obtain ⟨k, rfl⟩ : ∃ m, k = m + 1 := ⟨k - 1, by omega⟩
      constructor
      · unfold spec_PagesGive.f
        rw [spec_ok l0 l1 _ (by omega), used_is, hh]
        simp [c0, spec_PagesGive.j0]
      · unfold impl_PagesGive.f
        rw [impl_ok l0 l1 _ (by omega), hh]
        simp [c0]
    · obtain ⟨r, hr⟩ : ∃ r, impl_Pages_give.f l0 l1 a = some r := by
        unfold impl_Pages_give.f
        rw [if_pos ha0, if_pos (by have := c0.1; omega), if_pos ha1]
        split <;> exact ⟨_, rfl⟩
      obtain ⟨g1, g2⟩ := give_len hr
      refine ⟨r.1, r.2, true, by omega, by omega, fun k hk => ?_⟩
      obtain ⟨k, rfl⟩ : ∃ m, k = m + 1 := ⟨k - 1, by omega⟩
      constructor
      · unfold spec_PagesGive.f
        rw [spec_ok l0 l1 _ (by omega), used_is, hh]
        simp [c0, spec_PagesGive.j0, copy_is l0 l1 h0 h1, give_is l0 l1 a c0.1, hr]
      · unfold impl_PagesGive.f
        rw [impl_ok l0 l1 _ (by omega), hh]
        simp [c0, clone_is l0 l1 h0 h1, hr]
  · refine ⟨[], [], false, by simp, by simp, fun k hk => ?_⟩
    obtain ⟨k, rfl⟩ : ∃ m, k = m + 1 := ⟨k - 1, by omega⟩
    constructor
    · unfold spec_PagesGive.f
      rw [spec_ok l0 l1 _ (by omega)]
      simp [c0, spec_PagesGive.j0]
    · unfold impl_PagesGive.f
      rw [impl_ok l0 l1 _ (by omega)]
      simp [c0]
theorem FnExactPagesGive : laws_FnExactPagesGive.Pure := by
  intro p0 a1 hW _
  obtain ⟨⟨h0, hx⟩, h1, _⟩ := hW
  obtain ⟨t, ht, hcase⟩ := sz_pages p0.f0 p0.f1 h0 hx h1
  rcases hcase with hneg | ⟨hpos, g0, g1, _⟩
  · refine ⟨1048600, ?_⟩
    unfold laws_FnExactPagesGive.f
    rw [ht _ (by omega)]
    simp [hneg]
  · obtain ⟨r1, r2, r3, q1, q2, hs⟩ := same p0.f0 p0.f1 a1 g0 g1
    obtain ⟨K, hK⟩ : ∃ K, K = 1048900 := ⟨_, rfl⟩
    refine ⟨K + 4, ?_⟩
    have hnt : ¬ t < 0 := by omega
    have S : ∀ j, spec_PagesGive.f (K + j) p0.f0 p0.f1 a1 = some (r1, r2, r3) := fun j => (hs _ (by omega)).1
    have I : ∀ j, impl_PagesGive.f (K + j) p0.f0 p0.f1 a1 = some (r1, r2, r3) := fun j => (hs _ (by omega)).2
    have T : ∀ j, laws_toPages.f (K + j) p0.f0 p0.f1 = some (p0.f0, p0.f1) := fun j => to_pages _ _ g0 g1 _ (by omega)
    have Z : ∀ j, laws_szPages.f (K + j) p0.f0 p0.f1 1048576 = some t := fun j => ht _ (by omega)
    have E0 : ∀ j, laws_eqPages.f (K + j) p0.f0 p0.f1 p0.f0 p0.f1 = some true := fun j => eq_pages _ _ g0 g1 _ (by omega)
    have E1 : ∀ j, laws_eqPages.f (K + j) r1 r2 r1 r2 = some true := fun j => eq_pages _ _ q1 q2 _ (by omega)
    have M0 : ∀ j, laws_markPages.f (K + j) p0.f0 p0.f1 1 = some (top p0.f0 p0.f1, mkS p0.f0, mkI p0.f0 p0.f1) := fun j => mark_pages _ _ g0 g1 _ (by omega)
    have M1 : ∀ j, laws_markPages.f (K + j) r1 r2 1 = some (top r1 r2, mkS r1, mkI r1 r2) := fun j => mark_pages _ _ q1 q2 _ (by omega)
    have H1 : ∀ j, laws_heldPages.f (K + j) (mkS r1) (mkI r1 r2) 1 = some (top r1 r2) := fun j => held_pages _ _ q1 q2 _ (by omega)
    have hb : (r3 != r3) = false := by cases r3 <;> rfl
    unfold laws_FnExactPagesGive.f
    rw [Z 4]
    simp only [Option.bind_some, if_neg hnt]
    rw [T 4]
    simp only [Option.bind_some]
    rw [S 4, I 4]
    simp only [Option.bind_some]
    rw [E1 4]
    simp only [Option.bind_some, if_true, hb]
    rw [show K + 4 = (K + 3) + 1 from rfl]
    simp only [laws_FnExactPagesGive.j0, Bool.false_eq_true, if_false]
    rw [T 3]
    simp only [Option.bind_some]
    rw [E0 3]
    simp only [Option.bind_some, if_true]
    rw [M0 3]
    simp only [Option.bind_some, if_neg (top_pos _ _)]
    rw [E1 3]
    simp only [Option.bind_some, if_true, hb]
    rw [show K + 3 = (K + 2) + 1 from rfl]
    simp only [laws_FnExactPagesGive.j1, Bool.false_eq_true, if_false]
    rw [M1 2]
    simp only [Option.bind_some]
    rw [H1 2]
    simp only [Option.bind_some, if_neg (top_pos _ _), if_true]
    rw [T 2]
    simp only [Option.bind_some]
    rw [I 2]
    simp only [Option.bind_some]
    rw [E1 2]
    simp only [Option.bind_some, if_true, hb]
    rw [show K + 2 = (K + 1) + 1 from rfl]
    simp only [laws_FnExactPagesGive.j2, Bool.false_eq_true, if_false]
    rw [H1 1]
    simp only [Option.bind_some, if_neg (top_pos _ _), if_true]
end Go.Proofs.Ytfbdkjdockbfdaa.Pure
