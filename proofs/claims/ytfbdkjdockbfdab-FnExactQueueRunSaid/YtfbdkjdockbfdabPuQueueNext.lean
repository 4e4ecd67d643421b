/- The next task: both sides find the same. -/
import Derived.Test.YtfbdkjdockbfdabPuQueueOk
import Derived.Test.YtfbdkjdockbfdabGQx3
import Derived.Test.YtfbdkjdockbfdabGQx6
namespace Go.Proofs.Ytfbdkjdockbfdab.PuQueue
open Go.RowKit Go.Proofs.YtfbdkjdockbfdabW.PrintWords Go.Proofs.Ytfbdkjdockbfdab.Gen Go.Proofs.Ytfbdkjdockbfdab.GQ
set_option linter.unusedVariables false
set_option linter.unusedSimpArgs false
/-- The best among the places below i. -/
def Best (xs : List T) (i : Nat) (b : Int) : Prop :=
  b = -1 ∧ (∀ j, j < i → (at_ xs j).f3 = false) ∨ 0 ≤ b ∧ b < (i : Int) ∧ (at_ xs b.toNat).f3 = true ∧ ∀ j, j < i → (at_ xs j).f3 = true → (at_ xs b.toNat).f2 ≤ (at_ xs j).f2
theorem next_loops (xs : List T) (f : Int) (hn : xs.length ≤ 1048576) : ∀ (d i : Nat) (b : Int), i + d = xs.length → Best xs i b →
    ∃ r, Best xs xs.length r ∧ ∀ k, d < k → spec_l11Next.l0 k b i xs f = some r ∧ impl_Queue_next.l0 k b xs (xs.length : Int) i xs f = some r := by
  intro d
  induction d with
  | zero =>
    intro i b hd hb
    obtain rfl : i = xs.length := by omega
    refine ⟨b, hb, fun k hk => ?_⟩
    obtain ⟨k, rfl⟩ : ∃ z, k = z + 1 := ⟨k - 1, by omega⟩
    simp only [spec_l11Next.l0, impl_Queue_next.l0]
    rw [if_neg (by omega), if_neg (by omega)]
    exact ⟨rfl, rfl⟩
  | succ d ih =>
    intro i b hd hb
    have hw : wrap64 ((i : Int) + 1) = ((i + 1 : Nat) : Int) := by rw [wr (by omega) (by omega)]; omega
    have hrd : rd_T51 xs (i : Int) = at_ xs i := rfl
    have key : ∀ b', Best xs (i + 1) b' → (∀ k, spec_l11Next.l0 (k + 1) b i xs f = spec_l11Next.l0 k b' ((i + 1 : Nat) : Int) xs f ∧ impl_Queue_next.l0 (k + 1) b xs (xs.length : Int) i xs f = impl_Queue_next.l0 k b' xs (xs.length : Int) ((i + 1 : Nat) : Int) xs f) → ∃ r, Best xs xs.length r ∧ ∀ k, d + 1 < k → spec_l11Next.l0 k b i xs f = some r ∧ impl_Queue_next.l0 k b xs (xs.length : Int) i xs f = some r := by
      intro b' h1 h2
      obtain ⟨r, h3, h4⟩ := ih (i + 1) b' (by omega) h1
      refine ⟨r, h3, fun k hk => ?_⟩
      obtain ⟨k, rfl⟩ : ∃ z, k = z + 1 := ⟨k - 1, by omega⟩
      rw [(h2 k).1, (h2 k).2]
      exact h4 k (by omega)
    by_cases c : (at_ xs i).f3 = true
    · rcases hb with ⟨e, ha⟩ | ⟨h0, h1, h2, h3⟩
      · refine key i (.inr ⟨by omega, by omega, by simpa using c, fun j hj hr => ?_⟩) (fun k => ?_)
        · by_cases ej : j = i
          · subst ej
            simp
          · have := ha j (by omega)
            rw [this] at hr
            cases hr
        · simp only [spec_l11Next.l0, impl_Queue_next.l0, hrd, hw]
          rw [if_pos (by omega), if_pos (by omega), if_pos c, if_pos (by omega), if_pos (by omega), if_pos (by omega), if_pos (by omega), if_pos c, if_pos (by omega)]
          exact ⟨rfl, rfl⟩
      · have hrb : rd_T51 xs b = at_ xs b.toNat := by unfold at_; rw [show ((b.toNat : Nat) : Int) = b from by omega]
        by_cases c2 : (at_ xs i).f2 < (at_ xs b.toNat).f2
        · refine key i (.inr ⟨by omega, by omega, by simpa using c, fun j hj hr => ?_⟩) (fun k => ?_)
          · simp only [Int.toNat_natCast]
            by_cases ej : j = i
            · subst ej
              exact Int.le_refl _
            · have := h3 j (by omega) hr
              omega
          · simp only [spec_l11Next.l0, impl_Queue_next.l0, hrd, hw, hrb]
            rw [if_pos (by omega), if_pos (by omega), if_pos c, if_neg (by omega), if_pos h0, if_pos (by omega), if_pos c2, if_pos (by omega), if_pos (by omega), if_pos (by omega), if_pos c, if_neg (by omega), if_pos h0, if_pos (by omega), if_pos c2]
            exact ⟨rfl, rfl⟩
        · refine key b (.inr ⟨by omega, by omega, h2, fun j hj hr => ?_⟩) (fun k => ?_)
          · by_cases ej : j = i
            · subst ej
              omega
            · exact h3 j (by omega) hr
          · simp only [spec_l11Next.l0, impl_Queue_next.l0, hrd, hw, hrb]
            rw [if_pos (by omega), if_pos (by omega), if_pos c, if_neg (by omega), if_pos h0, if_pos (by omega), if_neg c2, if_pos (by omega), if_pos (by omega), if_pos (by omega), if_pos c, if_neg (by omega), if_pos h0, if_pos (by omega), if_neg c2]
            exact ⟨rfl, rfl⟩
    · refine key b ?_ (fun k => ?_)
      · rcases hb with ⟨e, ha⟩ | ⟨h0, h1, h2, h3⟩
        · refine .inl ⟨e, fun j hj => ?_⟩
          by_cases ej : j = i
          · subst ej
            simpa using c
          · exact ha j (by omega)
        · refine .inr ⟨h0, by omega, h2, fun j hj hr => ?_⟩
          by_cases ej : j = i
          · subst ej
            exact absurd hr c
          · exact h3 j (by omega) hr
      · simp only [spec_l11Next.l0, impl_Queue_next.l0, hrd, hw]
        rw [if_pos (by omega), if_pos (by omega), if_neg c, if_pos (by omega), if_pos (by omega), if_pos (by omega), if_neg c]
        exact ⟨rfl, rfl⟩
/-- The next task. -/
theorem next_same (xs : List T) (f : Int) (hn : xs.length ≤ 1048576) : ∃ r, Best xs xs.length r ∧ ∀ k, xs.length < k → spec_l11Next.f k xs f = some r ∧ impl_Queue_next.f k xs f = some r := by
  obtain ⟨r, h1, h2⟩ := next_loops xs f hn xs.length 0 (-1) (by omega) (.inl ⟨rfl, fun j hj => by omega⟩)
  exact ⟨r, h1, fun k hk => h2 k hk⟩
end Go.Proofs.Ytfbdkjdockbfdab.PuQueue
