/- Of all signals: SigsNext of the program answers what the reference's does, changes nothing that came in, and shares no memory with it. -/
import Derived.Test.YtpcohpkflkhfbaaPuSigs
import Derived.Test.YtpcohpkflkhfbaaGSnxx5
import Derived.Test.YtpcohpkflkhfbaaGSnxx7
import Derived.Test.YtpcohpkflkhfbaaGSnxx8
namespace Go.Proofs.Ytpcohpkflkhfbaa.Pure
open Go.RowKit Go.Proofs.YtpcohpkflkhfbaaW.PrintWords Go.Proofs.Ytpcohpkflkhfbaa.Gen Go.Proofs.Ytpcohpkflkhfbaa.GSnx Go.Proofs.Ytpcohpkflkhfbaa.PuSigs
set_option linter.unusedVariables false
set_option linter.unusedSimpArgs false
theorem first_loops (l0 l1 : LB) (l2 : LI) (h0 : l0.length = 8) (h1 : l1.length = 8) : ∀ (d : Nat) (i : Int), i + d = 9 → 1 ≤ i →
    ∃ r, 0 ≤ r ∧ r ≤ 8 ∧ ∀ k, d < k → spec_l10Next.l0 k i l0 l1 l2 = some r ∧ impl_Sigs_first.l0 k i l0 l1 l2 = some r := by
  intro d
  induction d with
  | zero =>
    intro i hd hi
    refine ⟨0, by omega, by omega, fun k hk => ?_⟩
    obtain ⟨k, rfl⟩ : ∃ m, k = m + 1 := ⟨k - 1, by omega⟩
    simp only [spec_l10Next.l0, impl_Sigs_first.l0]
    rw [if_neg (by omega), if_neg (by omega)]
    constructor <;> first | rfl | trivial
  | succ d ih =>
    intro i hd hi
    obtain ⟨r, r0, r1, hr⟩ := ih (i + 1) (by omega) (by omega)
    have hw : wrap64 (i - 1) = i - 1 := wid (by omega) (by omega)
    have hw2 : wrap64 (i + 1) = i + 1 := wr (by omega) (by omega)
    have a0 : i ≤ 8 := by omega
    have a1 : 0 ≤ i - 1 := by omega
    have a2 : i - 1 < (l0.length : Int) := by omega
    have a3 : i - 1 < (l1.length : Int) := by omega
    by_cases c : rdOf false l0 (i - 1) = true
    · by_cases c2 : rdOf false l1 (i - 1) = true
      · refine ⟨r, r0, r1, fun k hk => ?_⟩
        obtain ⟨k, rfl⟩ : ∃ m, k = m + 1 := ⟨k - 1, by omega⟩
        simp only [spec_l10Next.l0, impl_Sigs_first.l0, hw, hw2, if_pos a0, if_pos a1, if_pos a2, if_pos a3, if_pos c, if_pos c2]
        exact hr k (by omega)
      · refine ⟨i, by omega, by omega, fun k hk => ?_⟩
        obtain ⟨k, rfl⟩ : ∃ m, k = m + 1 := ⟨k - 1, by omega⟩
        simp only [spec_l10Next.l0, impl_Sigs_first.l0, hw, hw2, if_pos a0, if_pos a1, if_pos a2, if_pos a3, if_pos c, if_neg c2]
        constructor <;> first | rfl | trivial
    · refine ⟨r, r0, r1, fun k hk => ?_⟩
      obtain ⟨k, rfl⟩ : ∃ m, k = m + 1 := ⟨k - 1, by omega⟩
      simp only [spec_l10Next.l0, impl_Sigs_first.l0, hw, hw2, if_pos a0, if_pos a1, if_pos a2, if_neg c]
      exact hr k (by omega)
/-- Both answer the same. -/
theorem next_same (l0 l1 : LB) (l2 : LI) (h0 : l0.length ≤ 1048576) (h1 : l1.length ≤ 1048576) (h2 : l2.length ≤ 1048576) :
    ∃ r0 r1 r2 n d b, r0.length ≤ 1048576 ∧ r1.length ≤ 1048576 ∧ r2.length ≤ 1048576 ∧ ∀ k, 40 ≤ k → spec_SigsNext.f k l0 l1 l2 = some (r0, r1, r2, n, d, b) ∧ impl_SigsNext.f k l0 l1 l2 = some (r0, r1, r2, n, d, b) := by
  obtain ⟨b, hb, hk⟩ := ok_same l0 l1 l2
  cases b
  · refine ⟨[], [], [], 0, 1, false, by simp, by simp, by simp, fun k hk' => ?_⟩
    unfold spec_SigsNext.f impl_SigsNext.f
    rw [(hk k (by omega)).1, (hk k (by omega)).2]
    simp only [Option.bind_some, Bool.false_eq_true, if_false]
    exact ⟨trivial, trivial⟩
  · obtain ⟨g0, g1, g2⟩ := hb rfl
    obtain ⟨r, r0, r1, hr⟩ := first_loops l0 l1 l2 g0 g1 8 1 (by omega) (by omega)
    have hn : ∀ k, 9 ≤ k → spec_l10Next.f k l0 l1 l2 = some r ∧ impl_Sigs_first.f k l0 l1 l2 = some r := fun k hk => hr k (by omega)
    by_cases c : r = 0
    · refine ⟨l0, l1, l2, 0, 1, false, h0, h1, h2, fun k hk' => ?_⟩
      unfold spec_SigsNext.f impl_SigsNext.f
      rw [(hk k (by omega)).1, (hk k (by omega)).2]
      simp only [Option.bind_some, if_true, copy_is l0 l1 l2 h0 h1 h2, clone_is l0 l1 l2 h0 h1 h2, (hn k (by omega)).1, (hn k (by omega)).2, if_pos c]
      exact ⟨trivial, trivial⟩
    · obtain ⟨e, he⟩ := does_some l0 l1 l2 r g2 (by omega) r1
      have hw : wrap64 (r - 1) = r - 1 := wid (by omega) (by omega)
      have a1 : 0 ≤ r - 1 := by omega
      have a2 : r - 1 < (l0.length : Int) := by omega
      refine ⟨l0.set (r - 1).toNat false, l1, l2, r, e, true, by simp; omega, h1, h2, fun k hk' => ?_⟩
      unfold spec_SigsNext.f impl_SigsNext.f
      rw [(hk k (by omega)).1, (hk k (by omega)).2]
      simp only [Option.bind_some, if_true, copy_is l0 l1 l2 h0 h1 h2, clone_is l0 l1 l2 h0 h1 h2, (hn k (by omega)).1, (hn k (by omega)).2, if_neg c, hw, if_pos a1, if_pos a2, does_same l0 l1 l0 l1 l2 r k, he k (by omega)]
      exact ⟨trivial, trivial⟩
theorem FnExactSigsNext : laws_FnExactSigsNext.Pure := by
  intro p0 hW
  obtain ⟨⟨h0, _⟩, ⟨h1, _⟩, h2, _⟩ := hW
  obtain ⟨t, ht, hcase⟩ := sz_sigs p0.f0 p0.f1 p0.f2 h0 h1 h2
  rcases hcase with hneg | ⟨hpos, g0, g1, g2⟩
  · refine ⟨1048600, ?_⟩
    unfold laws_FnExactSigsNext.f
    rw [ht]
    simp [hneg]
  · obtain ⟨r0, r1, r2, n, d, b, q0, q1, q2, hs⟩ := next_same p0.f0 p0.f1 p0.f2 g0 g1 g2
    refine ⟨1048900, ?_⟩
    have hnt : ¬ t < 0 := by omega
    have hb : (b != b) = false := by cases b <;> rfl
    unfold laws_FnExactSigsNext.f
    simp only [ht, to_sigs _ _ _ g0 g1 g2 1048900 (by omega), (hs 1048900 (by omega)).1, (hs 1048900 (by omega)).2, eq_sigs _ _ _ q0 q1 q2 1048900 (by omega), eq_sigs _ _ _ g0 g1 g2 1048900 (by omega), mark_sigs _ _ _ g0 g1 g2 1048900 (by omega), mark_sigs _ _ _ q0 q1 q2 1048900 (by omega), held_sigs _ _ _ q0 q1 q2 1048900 (by omega), Option.bind_some, if_neg hnt, if_true, hb, Bool.false_eq_true, if_false, if_neg (top_pos _ _ _)]
end Go.Proofs.Ytpcohpkflkhfbaa.Pure
