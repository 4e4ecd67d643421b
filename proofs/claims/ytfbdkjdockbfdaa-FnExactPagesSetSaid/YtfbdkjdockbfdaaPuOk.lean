/- PagesOk of the program and of the reference answer the same: that each place is valid. -/
import Derived.Test.YtfbdkjdockbfdaaPuPages
import Derived.Test.YtfbdkjdockbfdaaGPsetx6
import Derived.Test.YtfbdkjdockbfdaaGPsetx4
namespace Go.Proofs.Ytfbdkjdockbfdaa.PuOk
open Go.RowKit Go.Proofs.YtfbdkjdockbfdaaW.PrintWords Go.Proofs.Ytfbdkjdockbfdaa.Gen Go.Proofs.Ytfbdkjdockbfdaa.GPset Go.Proofs.Ytfbdkjdockbfdaa.PuPages
set_option linter.unusedVariables false
/-- One place is valid. -/
def Pl (s : ByteArray) (r : Int) : Prop := 0 ≤ r ∧ r ≤ 99 ∧ (s.size : Int) = if r = 0 then 0 else 4
instance (s : ByteArray) (r : Int) : Decidable (Pl s r) := by unfold Pl; exact inferInstance
/-- All places from i on are valid. -/
def From (l0 : List ByteArray) (l1 : List Int) (i : Nat) : Prop := ∀ j, i ≤ j → j < l0.length → Pl (l0.getD j ByteArray.empty) (l1.getD j 0)
theorem from_step {l0 : List ByteArray} {l1 : List Int} {i : Nat} (h : i < l0.length) : From l0 l1 i ↔ Pl (l0.getD i ByteArray.empty) (l1.getD i 0) ∧ From l0 l1 (i + 1) := by
  constructor
  · intro hf
    exact ⟨hf i (Nat.le_refl _) h, fun j h1 h2 => hf j (by omega) h2⟩
  · rintro ⟨h1, h2⟩ j h3 h4
    rcases Nat.lt_or_ge i j with h5 | h5
    · exact h2 j (by omega) h4
    · obtain rfl : j = i := by omega
      exact h1
noncomputable instance (l0 : List ByteArray) (l1 : List Int) (i : Nat) : Decidable (From l0 l1 i) := Classical.propDecidable _
theorem step {s : ByteArray} {r : Int} {Q : Prop} [Decidable Q] {P : Prop} [Decidable P] (h : P ↔ Pl s r ∧ Q) :
    (if r = 0 then ((if r ≥ 0 then some (decide (r ≤ 99)) else some false).bind fun t => if t = true then (if (s.size : Int) = 0 then some (decide Q) else some false) else some false)
      else ((if r ≥ 0 then some (decide (r ≤ 99)) else some false).bind fun t => if t = true then (if (s.size : Int) = 4 then some (decide Q) else some false) else some false)) = some (decide P) := by
  unfold Pl at h
  generalize (s.size : Int) = z at *
  by_cases c0 : r = 0
  · subst c0
    simp only [if_true] at h ⊢
    by_cases c1 : z = 0 <;> simp [h, c1]
  · simp only [if_neg c0] at h ⊢
    by_cases c1 : r ≥ 0
    · by_cases c2 : r ≤ 99
      · by_cases c3 : z = 4 <;> simp [h, c1, c2, c3]
      · simp [h, c1, c2]
    · have c1' : ¬ (0 ≤ r) := by omega
      simp [h, c1']
theorem spec_loop (l0 : List ByteArray) (l1 : List Int) (hl : l0.length = l1.length) (hn : l0.length ≤ 12) : ∀ (d k i : Nat), i + d = l0.length → d < k → spec_PagesOk.l0 k i l0 l1 = some (decide (From l0 l1 i)) := by
  intro d
  induction d with
  | zero =>
    intro k i hd hk
    obtain ⟨k, rfl⟩ : ∃ m, k = m + 1 := ⟨k - 1, by omega⟩
    simp only [spec_PagesOk.l0]
    rw [if_neg (by omega)]
    congr 1
    exact (decide_eq_true (p := From l0 l1 i) (fun j h1 h2 => by omega)).symm
  | succ d ih =>
    intro k i hd hk
    obtain ⟨k, rfl⟩ : ∃ m, k = m + 1 := ⟨k - 1, by omega⟩
    have ih2 : spec_PagesOk.l0 k ((i : Int) + 1) l0 l1 = some (decide (From l0 l1 (i + 1))) := by simpa using ih k (i + 1) (by omega) (by omega)
    simp only [spec_PagesOk.l0]
    rw [if_pos (by omega), if_pos (by omega), if_pos (by omega), wr (by omega) (by omega), ih2]
    exact step (from_step (by omega))
theorem impl_loop (l0 : List ByteArray) (l1 : List Int) (hl : l0.length = l1.length) (hn : l0.length ≤ 12) : ∀ (d k i : Nat), i + d = l0.length → d < k → impl_PagesOk.l0 k l1 (l1.length : Int) i l0 l1 = some (decide (From l0 l1 i)) := by
  intro d
  induction d with
  | zero =>
    intro k i hd hk
    obtain ⟨k, rfl⟩ : ∃ m, k = m + 1 := ⟨k - 1, by omega⟩
    simp only [impl_PagesOk.l0]
    rw [if_neg (by omega)]
    congr 1
    exact (decide_eq_true (p := From l0 l1 i) (fun j h1 h2 => by omega)).symm
  | succ d ih =>
    intro k i hd hk
    obtain ⟨k, rfl⟩ : ∃ m, k = m + 1 := ⟨k - 1, by omega⟩
    have ih2 : impl_PagesOk.l0 k l1 (l1.length : Int) ((i : Int) + 1) l0 l1 = some (decide (From l0 l1 (i + 1))) := by simpa using ih k (i + 1) (by omega) (by omega)
    simp only [impl_PagesOk.l0]
    have hi : (i : Int) < (l0.length : Int) := by omega
    rw [if_pos (by omega), if_pos (by omega), if_pos (by omega), wr (by omega) (by omega), ih2]
    simp only [if_pos hi]
    exact step (from_step (by omega))
/-- Pages are valid. -/
def Ok (l0 : List ByteArray) (l1 : List Int) : Prop := l0.length = l1.length ∧ 1 ≤ l0.length ∧ l0.length ≤ 12 ∧ From l0 l1 0
noncomputable instance (l0 : List ByteArray) (l1 : List Int) : Decidable (Ok l0 l1) := Classical.propDecidable _
theorem spec_ok (l0 : List ByteArray) (l1 : List Int) (k : Nat) (hk : 20 ≤ k) : spec_PagesOk.f k l0 l1 = some (decide (Ok l0 l1)) := by
  obtain ⟨k, rfl⟩ : ∃ m, k = m + 1 := ⟨k - 1, by omega⟩
  unfold spec_PagesOk.f spec_l6In.f Ok
  by_cases c0 : l0.length = l1.length
  · rw [if_pos (by omega)]
    by_cases c1 : 1 ≤ l0.length
    · rw [if_pos (by omega)]
      by_cases c2 : l0.length ≤ 12
      · have h := spec_loop l0 l1 c0 c2 l0.length k 0 (by omega) (by omega)
        have c2' : ((l0.length : Int) ≤ 12) := by omega
        simp only [Option.bind_some, spec_PagesOk.j0, c2', decide_true, Bool.not_true]
        rw [if_neg (by decide)]
        rw [show spec_PagesOk.l0 k 0 l0 l1 = some (decide (From l0 l1 0)) from h]
        simp [← c0, c1, c2]
      · have c2' : ¬ ((l0.length : Int) ≤ 12) := by omega
        simp [spec_PagesOk.j0, c2', c2]
    · rw [if_neg (by omega)]
      simp [spec_PagesOk.j0, c1]
  · rw [if_neg (by omega)]
    simp [spec_PagesOk.j0, c0]
theorem impl_ok (l0 : List ByteArray) (l1 : List Int) (k : Nat) (hk : 20 ≤ k) : impl_PagesOk.f k l0 l1 = some (decide (Ok l0 l1)) := by
  obtain ⟨k, rfl⟩ : ∃ m, k = m + 1 := ⟨k - 1, by omega⟩
  unfold impl_PagesOk.f impl_in.f Ok
  by_cases c0 : l0.length = l1.length
  · rw [if_pos (by omega)]
    by_cases c1 : 1 ≤ l0.length
    · rw [if_pos (by omega)]
      by_cases c2 : l0.length ≤ 12
      · have h := impl_loop l0 l1 c0 c2 l0.length k 0 (by omega) (by omega)
        have c2' : ((l0.length : Int) ≤ 12) := by omega
        simp only [Option.bind_some, impl_PagesOk.j0, c2', decide_true, Bool.not_true]
        rw [if_neg (by decide)]
        rw [show impl_PagesOk.l0 k l1 (l1.length : Int) 0 l0 l1 = some (decide (From l0 l1 0)) from h]
        simp [← c0, c1, c2]
      · have c2' : ¬ ((l0.length : Int) ≤ 12) := by omega
        simp [impl_PagesOk.j0, c2', c2]
    · rw [if_neg (by omega)]
      simp [impl_PagesOk.j0, c1]
  · rw [if_neg (by omega)]
    simp [impl_PagesOk.j0, c0]
theorem clone_is (l0 : List ByteArray) (l1 : List Int) (h0 : l0.length ≤ 1048576) (h1 : l1.length ≤ 1048576) : impl_Pages_clone.f l0 l1 = some (l0, l1) := by
  unfold impl_Pages_clone.f
  simp only [Option.bind_some, List.length_nil, List.nil_append]
  rw [if_pos (by omega), if_pos (by omega)]
theorem copy_is (l0 : List ByteArray) (l1 : List Int) (h0 : l0.length ≤ 1048576) (h1 : l1.length ≤ 1048576) : spec_l1Copy.f l0 l1 = some (l0, l1) := by
  unfold spec_l1Copy.f
  simp only [Option.bind_some, List.length_nil, List.nil_append]
  rw [if_pos (by omega), if_pos (by omega)]
end Go.Proofs.Ytfbdkjdockbfdaa.PuOk
