/- Of all pages and texts: PagesTake of the program answers what the reference's does, changes nothing that came in, and shares no memory with it. -/
import Derived.Test.YtfbdkjdockbfdaaPuOk
import Derived.Test.YtfbdkjdockbfdaaGPagesx7
namespace Go.Proofs.Ytfbdkjdockbfdaa.Pure
open Go.RowKit Go.Proofs.YtfbdkjdockbfdaaW.PrintWords Go.Proofs.Ytfbdkjdockbfdaa.Gen Go.Proofs.Ytfbdkjdockbfdaa.GPages Go.Proofs.Ytfbdkjdockbfdaa.PuPages Go.Proofs.Ytfbdkjdockbfdaa.PuOk
set_option linter.unusedVariables false
set_option linter.unusedSimpArgs false
/-- The first free place from i on, or -1. -/
def freeAt (l1 : List Int) (r : Int) : Prop := r = -1 ∨ 0 ≤ r ∧ r < (l1.length : Int) ∧ rd l1 r = 0
theorem free_loop (l0 : List ByteArray) (l1 : List Int) (s : ByteArray) (hl : l0.length = l1.length) (hn : l1.length ≤ 1048576) : ∀ (d k i : Nat), i + d = l1.length → d < k →
    (impl_Pages_free.l0 k l1 (l1.length : Int) i = some (-1) ∧ spec_l1Take.l0 k s i l0 l1 = some (l0, l1, -1)) ∨
    ∃ r : Int, 0 ≤ r ∧ r < (l1.length : Int) ∧ impl_Pages_free.l0 k l1 (l1.length : Int) i = some r ∧ spec_l1Take.l0 k s i l0 l1 = some (l0.set r.toNat s, l1.set r.toNat 1, r) := by
  intro d
  induction d with
  | zero =>
    intro k i hd hk
    obtain ⟨k, rfl⟩ : ∃ m, k = m + 1 := ⟨k - 1, by omega⟩
    left
    constructor
    · simp only [impl_Pages_free.l0]; rw [if_neg (by omega)]
    · simp only [spec_l1Take.l0]; rw [if_neg (by omega)]
  | succ d ih =>
    intro k i hd hk
    obtain ⟨k, rfl⟩ : ∃ m, k = m + 1 := ⟨k - 1, by omega⟩
    simp only [impl_Pages_free.l0, spec_l1Take.l0]
    by_cases c : rd l1 (i : Int) = 0
    · right
      refine ⟨i, by omega, by omega, ?_, ?_⟩
      · rw [if_pos (by omega), if_pos (by omega), if_pos (by omega), if_pos c]
      · rw [if_pos (by omega), if_pos (by omega), if_pos c, if_pos (by omega)]
    · rw [if_pos (by omega), if_pos (by omega), if_pos (by omega), if_neg c, if_pos (by omega), if_pos (by omega), if_neg c, wr (by omega) (by omega)]
      have := ih k (i + 1) (by omega) (by omega)
      simpa using this
/-- Both answer the same. -/
theorem same (l0 : List ByteArray) (l1 : List Int) (s : ByteArray) (h0 : l0.length ≤ 1048576) (h1 : l1.length ≤ 1048576) :
    ∃ r1 r2 r3 r4, r1.length ≤ 1048576 ∧ r2.length ≤ 1048576 ∧ ∀ k, 1048600 ≤ k → spec_PagesTake.f k l0 l1 s = some (r1, r2, r3, r4) ∧ impl_PagesTake.f k l0 l1 s = some (r1, r2, r3, r4) := by
  have bad : ∀ k, 1048600 ≤ k → (¬ Ok l0 l1 ∨ ¬ (s.size : Int) = 4) → spec_PagesTake.f k l0 l1 s = some ([], [], -1, false) ∧ impl_PagesTake.f k l0 l1 s = some ([], [], -1, false) := by
    intro k hk hbad
    obtain ⟨k, rfl⟩ : ∃ m, k = m + 1 := ⟨k - 1, by omega⟩
    unfold spec_PagesTake.f impl_PagesTake.f
    rw [spec_ok l0 l1 _ (by omega), impl_ok l0 l1 _ (by omega)]
    by_cases c0 : Ok l0 l1
    · have c1 : ¬ (s.size : Int) = 4 := by
        rcases hbad with h | h
        · exact absurd c0 h
        · exact h
      have c1b : ((s.size : Int) != 4) = true := bne_iff_ne.mpr c1
      simp only [decide_eq_true c0, Option.bind_some, if_true, if_neg c1, c1b, spec_PagesTake.j0, impl_PagesTake.j0]
      exact ⟨trivial, trivial⟩
    · simp only [decide_eq_false c0, Option.bind_some, Bool.false_eq_true, if_false, spec_PagesTake.j0, impl_PagesTake.j0, if_true]
      exact ⟨trivial, trivial⟩
  by_cases c0 : Ok l0 l1
  · by_cases c1 : (s.size : Int) = 4
    · have c1b : ((s.size : Int) != 4) = false := bne_eq_false_iff_eq.mpr c1
      have hl := c0.1
      have key := fun k (hk : 1048590 ≤ k) => free_loop l0 l1 s hl h1 l1.length k 0 (by omega) (by omega)
      rcases key 1048590 (by omega) with ⟨f1, f2⟩ | ⟨r, hr0, hr1, f1, f2⟩
      · refine ⟨[], [], -1, false, by simp, by simp, fun k hk => ?_⟩
        obtain ⟨k, rfl⟩ : ∃ m, k = m + 1 := ⟨k - 1, by omega⟩
        have F : ∀ j, 1048590 ≤ j → impl_Pages_free.f j l0 l1 = some (-1) := fun j hj => at_rounds (fun k => impl_Pages_free.mono l0 l1 k) hj f1
        have T : ∀ j, 1048590 ≤ j → spec_l1Take.f j l0 l1 s = some (l0, l1, -1) := fun j hj => at_rounds (fun k => spec_l1Take.mono l0 l1 s k) hj f2
        constructor
        · unfold spec_PagesTake.f
          rw [spec_ok l0 l1 _ (by omega)]
          simp only [decide_eq_true c0, Option.bind_some, if_true, c1b, spec_PagesTake.j0, Bool.false_eq_true, if_false, copy_is l0 l1 h0 h1, T k (by omega)]
          rw [if_pos (by omega)]
        · unfold impl_PagesTake.f
          rw [impl_ok l0 l1 _ (by omega)]
          simp only [decide_eq_true c0, Option.bind_some, if_true, if_pos c1, F (k + 1) (by omega), impl_PagesTake.j0]
          rw [if_pos (by decide)]
      · refine ⟨l0.set r.toNat s, l1.set r.toNat 1, r, true, by simp; omega, by simp; omega, fun k hk => ?_⟩
        obtain ⟨k, rfl⟩ : ∃ m, k = m + 1 := ⟨k - 1, by omega⟩
        have F : ∀ j, 1048590 ≤ j → impl_Pages_free.f j l0 l1 = some r := fun j hj => at_rounds (fun k => impl_Pages_free.mono l0 l1 k) hj f1
        have T : ∀ j, 1048590 ≤ j → spec_l1Take.f j l0 l1 s = some (l0.set r.toNat s, l1.set r.toNat 1, r) := fun j hj => at_rounds (fun k => spec_l1Take.mono l0 l1 s k) hj f2
        have hrn : ¬ r < 0 := by omega
        constructor
        · unfold spec_PagesTake.f
          rw [spec_ok l0 l1 _ (by omega)]
          simp only [decide_eq_true c0, Option.bind_some, if_true, c1b, spec_PagesTake.j0, Bool.false_eq_true, if_false, copy_is l0 l1 h0 h1, T k (by omega), if_neg hrn]
        · unfold impl_PagesTake.f
          rw [impl_ok l0 l1 _ (by omega)]
          simp only [decide_eq_true c0, Option.bind_some, if_true, if_pos c1, F (k + 1) (by omega), impl_PagesTake.j0, decide_eq_false hrn, Bool.false_eq_true, if_false, F k (by omega), clone_is l0 l1 h0 h1]
          rw [if_pos hr0, if_pos (by omega), if_pos hr1]
    · exact ⟨[], [], -1, false, by simp, by simp, fun k hk => bad k hk (.inr c1)⟩
  · exact ⟨[], [], -1, false, by simp, by simp, fun k hk => bad k hk (.inl c0)⟩
theorem FnExactPagesTake : laws_FnExactPagesTake.Pure := by
  intro p0 a1 hW _
  obtain ⟨⟨h0, hx⟩, h1, _⟩ := hW
  by_cases ca : (a1.size : Int) > 1048576
  · refine ⟨0, ?_⟩
    unfold laws_FnExactPagesTake.f
    rw [if_pos ca]
  obtain ⟨t, ht, hcase⟩ := sz_pages p0.f0 p0.f1 h0 hx h1
  rcases hcase with hneg | ⟨hpos, g0, g1, _⟩
  · refine ⟨1048600, ?_⟩
    unfold laws_FnExactPagesTake.f
    rw [if_neg ca, ht _ (by omega)]
    simp [hneg]
  · obtain ⟨r1, r2, r3, r4, q1, q2, hs⟩ := same p0.f0 p0.f1 a1 g0 g1
    obtain ⟨K, hK⟩ : ∃ K, K = 1048900 := ⟨_, rfl⟩
    refine ⟨K + 4, ?_⟩
    have hnt : ¬ t < 0 := by omega
    have S : ∀ j, spec_PagesTake.f (K + j) p0.f0 p0.f1 a1 = some (r1, r2, r3, r4) := fun j => (hs _ (by omega)).1
    have I : ∀ j, impl_PagesTake.f (K + j) p0.f0 p0.f1 a1 = some (r1, r2, r3, r4) := fun j => (hs _ (by omega)).2
    have T : ∀ j, laws_toPages.f (K + j) p0.f0 p0.f1 = some (p0.f0, p0.f1) := fun j => to_pages _ _ g0 g1 _ (by omega)
    have Z : ∀ j, laws_szPages.f (K + j) p0.f0 p0.f1 1048576 = some t := fun j => ht _ (by omega)
    have E0 : ∀ j, laws_eqPages.f (K + j) p0.f0 p0.f1 p0.f0 p0.f1 = some true := fun j => eq_pages _ _ g0 g1 _ (by omega)
    have E1 : ∀ j, laws_eqPages.f (K + j) r1 r2 r1 r2 = some true := fun j => eq_pages _ _ q1 q2 _ (by omega)
    have M0 : ∀ j, laws_markPages.f (K + j) p0.f0 p0.f1 1 = some (top p0.f0 p0.f1, mkS p0.f0, mkI p0.f0 p0.f1) := fun j => mark_pages _ _ g0 g1 _ (by omega)
    have M1 : ∀ j, laws_markPages.f (K + j) r1 r2 1 = some (top r1 r2, mkS r1, mkI r1 r2) := fun j => mark_pages _ _ q1 q2 _ (by omega)
    have H1 : ∀ j, laws_heldPages.f (K + j) (mkS r1) (mkI r1 r2) 1 = some (top r1 r2) := fun j => held_pages _ _ q1 q2 _ (by omega)
    have hb : (r4 != r4) = false := by cases r4 <;> rfl
    have hi : (r3 != r3) = false := by simp
    unfold laws_FnExactPagesTake.f
    rw [if_neg ca, Z 4]
    simp only [Option.bind_some, if_neg hnt]
    rw [T 4]
    simp only [Option.bind_some]
    rw [S 4, I 4]
    simp only [Option.bind_some]
    rw [E1 4]
    simp only [Option.bind_some, if_true, hb, hi]
    rw [show K + 4 = (K + 3) + 1 from rfl]
    simp only [laws_FnExactPagesTake.j0, Bool.false_eq_true, if_false]
    rw [T 3]
    simp only [Option.bind_some]
    rw [E0 3]
    simp only [Option.bind_some, if_true]
    rw [M0 3]
    simp only [Option.bind_some, if_neg (top_pos _ _)]
    rw [E1 3]
    simp only [Option.bind_some, if_true, hb, hi]
    rw [show K + 3 = (K + 2) + 1 from rfl]
    simp only [laws_FnExactPagesTake.j1, Bool.false_eq_true, if_false]
    rw [M1 2]
    simp only [Option.bind_some]
    rw [H1 2]
    simp only [Option.bind_some, if_neg (top_pos _ _), if_true]
    rw [T 2]
    simp only [Option.bind_some]
    rw [I 2]
    simp only [Option.bind_some]
    rw [E1 2]
    simp only [Option.bind_some, if_true, hb, hi]
    rw [show K + 2 = (K + 1) + 1 from rfl]
    simp only [laws_FnExactPagesTake.j2, Bool.false_eq_true, if_false]
    rw [H1 1]
    simp only [Option.bind_some, if_neg (top_pos _ _), if_true]
end Go.Proofs.Ytfbdkjdockbfdaa.Pure
