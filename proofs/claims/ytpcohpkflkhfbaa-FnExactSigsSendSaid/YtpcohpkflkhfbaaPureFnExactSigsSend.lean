/- Of all signals and numbers: SigsSend of the program answers what the reference's does, changes nothing that came in, and shares no memory with it. -/
import Derived.Test.YtpcohpkflkhfbaaPuSigs
import Derived.Test.YtpcohpkflkhfbaaGSigsx2
import Derived.Test.YtpcohpkflkhfbaaGSigsx4
import Derived.Test.YtpcohpkflkhfbaaGSigsx7
import Derived.Test.YtpcohpkflkhfbaaGSigsx9
namespace Go.Proofs.Ytpcohpkflkhfbaa.Pure
open Go.RowKit Go.Proofs.YtpcohpkflkhfbaaW.PrintWords Go.Proofs.Ytpcohpkflkhfbaa.Gen Go.Proofs.Ytpcohpkflkhfbaa.GSigs Go.Proofs.Ytpcohpkflkhfbaa.PuSigs
set_option linter.unusedVariables false
set_option linter.unusedSimpArgs false
theorem send_step (l0 l1 : LB) (l2 : LI) (a : Int) (b : Bool) (h0 : l0.length = 8) (h1 : l1.length = 8) (h2 : l2.length = 8) (ha : 1 ≤ a) (hb : a ≤ 8) :
    ∃ y : LB, y.length = 8 ∧ ∀ k, 3 ≤ k → spec_l10Send.j0 k a a b l0 l1 l2 = some (y, l1, l2) ∧ impl_SigsSend.j1 k a a b l0 l1 l2 l0 l1 l2 = some (y, l1, l2, true) := by
  obtain ⟨r, hr⟩ := does_some l0 l1 l2 a h2 ha hb
  have hw : wrap64 (a - 1) = a - 1 := wid (by omega) (by omega)
  have hs : ∀ k l, 1 ≤ k → spec_l10Does.f k l l1 l2 a = some r := fun k l hk => (does_same l l1 l0 l1 l2 a k).trans (hr k hk)
  have i0 : 0 ≤ a - 1 := by omega
  have i1 : a - 1 < (l0.length : Int) := by omega
  have i2 : a - 1 < (l1.length : Int) := by omega
  have key : ∀ z : LB, z.length = 8 → ∃ y : LB, y.length = 8 ∧
      ((if r = 1 then (if rdOf false l1 (a - 1) = true then some (z.set (a - 1).toNat true, l1, l2) else some (z, l1, l2)) else some (z.set (a - 1).toNat true, l1, l2)) : Option (LB × LB × LI)) = some (y, l1, l2) ∧
      ((if rdOf false l1 (a - 1) = true then some (z.set (a - 1).toNat true, l1, l2, true) else if r = 1 then some (z, l1, l2, true) else some (z.set (a - 1).toNat true, l1, l2, true)) : Option (LB × LB × LI × Bool)) = some (y, l1, l2, true) := by
    intro z hz
    by_cases c : r = 1
    · cases hq : rdOf false l1 (a - 1)
      · exact ⟨z, hz, by simp [c], by simp [c]⟩
      · exact ⟨z.set (a - 1).toNat true, by simp [hz], by simp [c], by simp⟩
    · refine ⟨z.set (a - 1).toNat true, by simp [hz], by simp [c], by simp [c]⟩
  cases b
  · by_cases c3 : a = 3
    · obtain ⟨y, hy, e1, e2⟩ := key ((l0.set 1 false).set 5 false) (by simp [h0])
      refine ⟨y, hy, fun k hk => ?_⟩
      obtain ⟨k, rfl⟩ : ∃ m, k = m + 1 := ⟨k - 1, by omega⟩
      simp only [spec_l10Send.j0, impl_SigsSend.j1, Bool.false_eq_true, if_false, if_pos c3]
      rw [if_pos (by omega), if_pos (by omega), if_pos (by omega), if_pos (by omega)]
      simp only [Option.bind_some]
      rw [hs k _ (by omega), hr k (by omega)]
      simp only [Option.bind_some, hw, if_pos i0, if_pos i1, if_pos i2]
      exact ⟨e1, e2⟩
    · obtain ⟨y, hy, e1, e2⟩ := key l0 h0
      refine ⟨y, hy, fun k hk => ?_⟩
      obtain ⟨k, rfl⟩ : ∃ m, k = m + 1 := ⟨k - 1, by omega⟩
      simp only [spec_l10Send.j0, impl_SigsSend.j1, Bool.false_eq_true, if_false, if_neg c3]
      rw [hs k _ (by omega), hr k (by omega)]
      simp only [Option.bind_some, hw, if_pos i0, if_pos i1, if_pos i2]
      exact ⟨e1, e2⟩
  · obtain ⟨y, hy, e1, e2⟩ := key (l0.set 2 false) (by simp [h0])
    refine ⟨y, hy, fun k hk => ?_⟩
    obtain ⟨k, rfl⟩ : ∃ m, k = m + 1 := ⟨k - 1, by omega⟩
    simp only [spec_l10Send.j0, impl_SigsSend.j1, if_true]
    rw [if_pos (by omega), if_pos (by omega)]
    simp only [Option.bind_some]
    rw [hs k _ (by omega), hr k (by omega)]
    simp only [Option.bind_some, hw, if_pos i0, if_pos i1, if_pos i2]
    exact ⟨e1, e2⟩
/-- Both answer the same. -/
theorem send_same (l0 l1 : LB) (l2 : LI) (a : Int) (h0 : l0.length ≤ 1048576) (h1 : l1.length ≤ 1048576) (h2 : l2.length ≤ 1048576) :
    ∃ r0 r1 r2 b, r0.length ≤ 1048576 ∧ r1.length ≤ 1048576 ∧ r2.length ≤ 1048576 ∧ ∀ k, 40 ≤ k → spec_SigsSend.f k l0 l1 l2 a = some (r0, r1, r2, b) ∧ impl_SigsSend.f k l0 l1 l2 a = some (r0, r1, r2, b) := by
  obtain ⟨b, hb, hk⟩ := ok_same l0 l1 l2
  cases b
  · refine ⟨[], [], [], false, by simp, by simp, by simp, fun k hk' => ?_⟩
    obtain ⟨k, rfl⟩ : ∃ m, k = m + 1 := ⟨k - 1, by omega⟩
    unfold spec_SigsSend.f impl_SigsSend.f
    rw [(hk (k + 1) (by omega)).1, (hk (k + 1) (by omega)).2]
    simp only [Option.bind_some, Bool.false_eq_true, if_false, spec_SigsSend.j0, impl_SigsSend.j0, if_true]
    exact ⟨trivial, trivial⟩
  · obtain ⟨g0, g1, g2⟩ := hb rfl
    by_cases c : 1 ≤ a ∧ a ≤ 8
    · have hx : ∃ q : Bool, (∀ k, spec_l10Send.f k l0 l1 l2 a = spec_l10Send.j0 k a a q l0 l1 l2) ∧ ∀ k, impl_SigsSend.j0 (k + 1) a false l0 l1 l2 = impl_SigsSend.j1 k a a q l0 l1 l2 l0 l1 l2 := by
        by_cases c2 : a = 2
        · refine ⟨(a == 2), fun k => ?_, fun k => ?_⟩
          · unfold spec_l10Send.f
            rw [if_pos c2]
          · simp only [impl_SigsSend.j0, Bool.false_eq_true, if_false, clone_is l0 l1 l2 h0 h1 h2, Option.bind_some, if_pos c2]
        · refine ⟨(a == 6), fun k => ?_, fun k => ?_⟩
          · unfold spec_l10Send.f
            rw [if_neg c2]
          · simp only [impl_SigsSend.j0, Bool.false_eq_true, if_false, clone_is l0 l1 l2 h0 h1 h2, Option.bind_some, if_neg c2]
      obtain ⟨q, hq1, hq2⟩ := hx
      obtain ⟨y, hy, hs⟩ := send_step l0 l1 l2 a q g0 g1 g2 c.1 c.2
      refine ⟨y, l1, l2, true, by omega, h1, h2, fun k hk' => ?_⟩
      obtain ⟨k, rfl⟩ : ∃ m, k = m + 1 := ⟨k - 1, by omega⟩
      unfold spec_SigsSend.f impl_SigsSend.f
      rw [(hk (k + 1) (by omega)).1, (hk (k + 1) (by omega)).2, in_is, in_cases, decide_eq_true c]
      simp only [Option.bind_some, if_true, Bool.not_true, hq2, spec_SigsSend.j0, Bool.false_eq_true, if_false, copy_is l0 l1 l2 h0 h1 h2, hq1, (hs k (by omega)).1, (hs k (by omega)).2]
      exact ⟨trivial, trivial⟩
    · refine ⟨[], [], [], false, by simp, by simp, by simp, fun k hk' => ?_⟩
      obtain ⟨k, rfl⟩ : ∃ m, k = m + 1 := ⟨k - 1, by omega⟩
      unfold spec_SigsSend.f impl_SigsSend.f
      rw [(hk (k + 1) (by omega)).1, (hk (k + 1) (by omega)).2, in_is, in_cases, decide_eq_false c]
      simp only [Option.bind_some, if_true, Bool.not_false, spec_SigsSend.j0, impl_SigsSend.j0]
      exact ⟨trivial, trivial⟩
theorem FnExactSigsSend : laws_FnExactSigsSend.Pure := by
  intro p0 a1 hW _
  obtain ⟨⟨h0, _⟩, ⟨h1, _⟩, h2, _⟩ := hW
  obtain ⟨t, ht, hcase⟩ := sz_sigs p0.f0 p0.f1 p0.f2 h0 h1 h2
  rcases hcase with hneg | ⟨hpos, g0, g1, g2⟩
  · refine ⟨1048600, ?_⟩
    unfold laws_FnExactSigsSend.f
    rw [ht]
    simp [hneg]
  · obtain ⟨r0, r1, r2, b, q0, q1, q2, hs⟩ := send_same p0.f0 p0.f1 p0.f2 a1 g0 g1 g2
    refine ⟨1048900, ?_⟩
    have hnt : ¬ t < 0 := by omega
    have hb : (b != b) = false := by cases b <;> rfl
    unfold laws_FnExactSigsSend.f
    simp only [ht, to_sigs _ _ _ g0 g1 g2 1048900 (by omega), (hs 1048900 (by omega)).1, (hs 1048900 (by omega)).2, eq_sigs _ _ _ q0 q1 q2 1048900 (by omega), eq_sigs _ _ _ g0 g1 g2 1048900 (by omega), mark_sigs _ _ _ g0 g1 g2 1048900 (by omega), mark_sigs _ _ _ q0 q1 q2 1048900 (by omega), held_sigs _ _ _ q0 q1 q2 1048900 (by omega), Option.bind_some, if_neg hnt, if_true, hb, Bool.false_eq_true, if_false, if_neg (top_pos _ _ _)]
end Go.Proofs.Ytpcohpkflkhfbaa.Pure
