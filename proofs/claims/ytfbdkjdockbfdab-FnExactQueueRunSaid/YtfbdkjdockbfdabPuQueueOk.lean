/- Which queues are valid, which task is next: both sides say the same. -/
import Derived.Test.YtfbdkjdockbfdabPuQueue
import Derived.Test.YtfbdkjdockbfdabGQx2
import Derived.Test.YtfbdkjdockbfdabGQx5
namespace Go.Proofs.Ytfbdkjdockbfdab.PuQueue
open Go.RowKit Go.Proofs.YtfbdkjdockbfdabW.PrintWords Go.Proofs.Ytfbdkjdockbfdab.Gen Go.Proofs.Ytfbdkjdockbfdab.GQ
set_option linter.unusedVariables false
set_option linter.unusedSimpArgs false
/-- The task at a place. -/
def at_ (xs : List T) (j : Nat) : T := rd_T51 xs (j : Int)
def OkAt (xs : List T) (f : Int) (j : Nat) : Prop :=
  (0 ≤ (at_ xs j).f0 ∧ (at_ xs j).f0 ≤ 99) ∧ (1 ≤ (at_ xs j).f1 ∧ (at_ xs j).f1 ≤ 6) ∧ (0 ≤ (at_ xs j).f2 ∧ (at_ xs j).f2 ≤ 1000000) ∧ (0 < j → (at_ xs (j - 1)).f0 < (at_ xs j).f0) ∧ ((at_ xs j).f3 = true → f ≤ (at_ xs j).f2)
def Ok (xs : List T) (f : Int) : Prop := (∀ j, 0 ≤ j → j < xs.length → OkAt xs f j) ∧ xs.length ≤ 6 ∧ 0 ≤ f ∧ f ≤ 1000000
noncomputable instance okDec (xs : List T) (f : Int) : Decidable (Ok xs f) := Classical.propDecidable _
theorem l6_is (a b c : Int) : spec_l6In.f a b c = some (decide (b ≤ a ∧ a ≤ c)) := by
  unfold spec_l6In.f
  by_cases h : a ≥ b
  · rw [if_pos h]
    simp [h]
  · rw [if_neg h]
    have : ¬ (b ≤ a) := h
    simp [this]
theorem in_is (a b c : Int) : impl_in.f a b c = some (decide (b ≤ a ∧ a ≤ c)) := l6_is a b c
theorem prev {xs : List T} {i : Nat} (h : 0 < i) (hi : i < 4611686018427387904) : rd_T51 xs (wrap64 ((i : Int) - 1)) = at_ xs (i - 1) ∧ 0 ≤ wrap64 ((i : Int) - 1) ∧ wrap64 ((i : Int) - 1) < (i : Int) := by
  rw [wid (by omega) (by omega), show ((i : Int) - 1) = ((i - 1 : Nat) : Int) from by omega]
  exact ⟨rfl, by omega, by omega⟩
theorem spec_ok_loop (xs : List T) (f : Int) (hn : xs.length ≤ 1048576) (k : Nat) (hk : xs.length < k) : spec_QueueOk.f k xs f = some (decide (Ok xs f)) := by
  unfold spec_QueueOk.f
  have := all_gen (fun k i => spec_QueueOk.l0 k i xs f) xs.length (OkAt xs f) (decide (xs.length ≤ 6 ∧ 0 ≤ f ∧ f ≤ 1000000)) 0 (fun k i _ h => by
    simp only [spec_QueueOk.l0]
    rw [if_neg (by omega), l6_is]
    by_cases c : xs.length ≤ 6
    · rw [if_pos (by omega)]
      simp [c]
    · rw [if_neg (by omega)]
      simp [c]) (fun k i _ h => by
    simp only [spec_QueueOk.l0]
    rw [if_pos (by omega), if_pos (by omega), l6_is, l6_is, l6_is]
    have hw : wrap64 ((i : Int) + 1) = ((i + 1 : Nat) : Int) := by rw [wr (by omega) (by omega)]; omega
    rw [hw]
    simp only [Option.bind_some, decide_eq_true_eq]
    by_cases c1 : 0 ≤ (at_ xs i).f0 ∧ (at_ xs i).f0 ≤ 99
    case neg => rw [if_neg (show ¬ (0 ≤ (rd_T51 xs (i : Int)).f0 ∧ (rd_T51 xs (i : Int)).f0 ≤ 99) from c1), if_neg (fun h => c1 h.1)]
    rw [if_pos (show (0 ≤ (rd_T51 xs (i : Int)).f0 ∧ (rd_T51 xs (i : Int)).f0 ≤ 99) from c1)]
    by_cases c2 : 1 ≤ (at_ xs i).f1 ∧ (at_ xs i).f1 ≤ 6
    case neg => rw [if_neg (show ¬ (1 ≤ (rd_T51 xs (i : Int)).f1 ∧ (rd_T51 xs (i : Int)).f1 ≤ 6) from c2), if_neg (fun h => c2 h.2.1)]
    rw [if_pos (show (1 ≤ (rd_T51 xs (i : Int)).f1 ∧ (rd_T51 xs (i : Int)).f1 ≤ 6) from c2)]
    by_cases c3 : 0 ≤ (at_ xs i).f2 ∧ (at_ xs i).f2 ≤ 1000000
    case neg => rw [if_neg (show ¬ (0 ≤ (rd_T51 xs (i : Int)).f2 ∧ (rd_T51 xs (i : Int)).f2 ≤ 1000000) from c3), if_neg (fun h => c3 h.2.2.1)]
    rw [if_pos (show (0 ≤ (rd_T51 xs (i : Int)).f2 ∧ (rd_T51 xs (i : Int)).f2 ≤ 1000000) from c3)]
    have hr : rd_T51 xs (i : Int) = at_ xs i := rfl
    rw [hr]
    by_cases c4 : 0 < i
    · obtain ⟨p1, p2, p3⟩ := prev (xs := xs) c4 (by omega)
      rw [if_pos (by omega), if_pos p2, if_pos (by omega), p1]
      by_cases c5 : (at_ xs (i - 1)).f0 < (at_ xs i).f0
      · rw [if_neg (by omega)]
        by_cases c6 : (at_ xs i).f3 = true
        · rw [if_pos c6]
          by_cases c7 : f ≤ (at_ xs i).f2
          · rw [if_neg (by omega), if_pos ⟨c1, c2, c3, fun _ => c5, fun _ => c7⟩]
          · rw [if_pos (by omega), if_neg (fun h => c7 (h.2.2.2.2 c6))]
        · rw [if_neg c6, if_pos ⟨c1, c2, c3, fun _ => c5, fun h => absurd h c6⟩]
      · rw [if_pos (by omega), if_neg (fun h => c5 (h.2.2.2.1 c4))]
    · rw [if_neg (by omega)]
      by_cases c6 : (at_ xs i).f3 = true
      · rw [if_pos c6]
        by_cases c7 : f ≤ (at_ xs i).f2
        · rw [if_neg (by omega), if_pos ⟨c1, c2, c3, fun h => absurd h c4, fun _ => c7⟩]
        · rw [if_pos (by omega), if_neg (fun h => c7 (h.2.2.2.2 c6))]
      · rw [if_neg c6, if_pos ⟨c1, c2, c3, fun h => absurd h c4, fun h => absurd h c6⟩]) xs.length k 0 (by omega) (by omega)
  rw [show ((0 : Nat) : Int) = 0 from rfl] at this
  rw [this]
  congr 1
  rw [Bool.eq_iff_iff]
  simp only [Bool.and_eq_true, decide_eq_true_eq]
  exact Iff.rfl
theorem impl_ok_loop (xs : List T) (f : Int) (hn : xs.length ≤ 1048576) (k : Nat) (hk : xs.length < k) : impl_QueueOk.f k xs f = some (decide (Ok xs f)) := by
  unfold impl_QueueOk.f
  have := all_gen (fun k i => impl_QueueOk.l0 k xs (xs.length : Int) i xs f) xs.length (OkAt xs f) (decide (xs.length ≤ 6 ∧ 0 ≤ f ∧ f ≤ 1000000)) 0 (fun k i _ h => by
    simp only [impl_QueueOk.l0]
    rw [if_neg (by omega), in_is]
    by_cases c : xs.length ≤ 6
    · rw [if_pos (by omega)]
      simp [c]
    · rw [if_neg (by omega)]
      simp [c]) (fun k i _ h => by
    simp only [impl_QueueOk.l0]
    rw [if_pos (by omega), if_pos (by omega), if_pos (by omega), in_is, in_is, in_is]
    have hw : wrap64 ((i : Int) + 1) = ((i + 1 : Nat) : Int) := by rw [wr (by omega) (by omega)]; omega
    rw [hw]
    simp only [Option.bind_some, decide_eq_true_eq]
    by_cases c1 : 0 ≤ (at_ xs i).f0 ∧ (at_ xs i).f0 ≤ 99
    case neg => rw [if_neg (show ¬ (0 ≤ (rd_T51 xs (i : Int)).f0 ∧ (rd_T51 xs (i : Int)).f0 ≤ 99) from c1), if_neg (fun h => c1 h.1)]
    rw [if_pos (show (0 ≤ (rd_T51 xs (i : Int)).f0 ∧ (rd_T51 xs (i : Int)).f0 ≤ 99) from c1)]
    by_cases c2 : 1 ≤ (at_ xs i).f1 ∧ (at_ xs i).f1 ≤ 6
    case neg => rw [if_neg (show ¬ (1 ≤ (rd_T51 xs (i : Int)).f1 ∧ (rd_T51 xs (i : Int)).f1 ≤ 6) from c2), if_neg (fun h => c2 h.2.1)]
    rw [if_pos (show (1 ≤ (rd_T51 xs (i : Int)).f1 ∧ (rd_T51 xs (i : Int)).f1 ≤ 6) from c2)]
    by_cases c3 : 0 ≤ (at_ xs i).f2 ∧ (at_ xs i).f2 ≤ 1000000
    case neg => rw [if_neg (show ¬ (0 ≤ (rd_T51 xs (i : Int)).f2 ∧ (rd_T51 xs (i : Int)).f2 ≤ 1000000) from c3), if_neg (fun h => c3 h.2.2.1)]
    rw [if_pos (show (0 ≤ (rd_T51 xs (i : Int)).f2 ∧ (rd_T51 xs (i : Int)).f2 ≤ 1000000) from c3)]
    have hr : rd_T51 xs (i : Int) = at_ xs i := rfl
    rw [hr]
    by_cases c6 : (at_ xs i).f3 = true
    · rw [if_pos c6]
      by_cases c7 : f ≤ (at_ xs i).f2
      · rw [if_neg (by omega)]
        by_cases c4 : 0 < i
        · obtain ⟨p1, p2, p3⟩ := prev (xs := xs) c4 (by omega)
          rw [if_pos (by omega), if_pos p2, if_pos (by omega), p1]
          by_cases c5 : (at_ xs (i - 1)).f0 < (at_ xs i).f0
          · rw [if_neg (by omega), if_pos ⟨c1, c2, c3, fun _ => c5, fun _ => c7⟩]
          · rw [if_pos (by omega), if_neg (fun h => c5 (h.2.2.2.1 c4))]
        · rw [if_neg (by omega), if_pos ⟨c1, c2, c3, fun h => absurd h c4, fun _ => c7⟩]
      · rw [if_pos (by omega), if_neg (fun h => c7 (h.2.2.2.2 c6))]
    · rw [if_neg c6]
      by_cases c4 : 0 < i
      · obtain ⟨p1, p2, p3⟩ := prev (xs := xs) c4 (by omega)
        rw [if_pos (by omega), if_pos p2, if_pos (by omega), p1]
        by_cases c5 : (at_ xs (i - 1)).f0 < (at_ xs i).f0
        · rw [if_neg (by omega), if_pos ⟨c1, c2, c3, fun _ => c5, fun h => absurd h c6⟩]
        · rw [if_pos (by omega), if_neg (fun h => c5 (h.2.2.2.1 c4))]
      · rw [if_neg (by omega), if_pos ⟨c1, c2, c3, fun h => absurd h c4, fun h => absurd h c6⟩]) xs.length k 0 (by omega) (by omega)
  rw [show ((0 : Nat) : Int) = 0 from rfl] at this
  rw [this]
  congr 1
  rw [Bool.eq_iff_iff]
  simp only [Bool.and_eq_true, decide_eq_true_eq]
  exact Iff.rfl
end Go.Proofs.Ytfbdkjdockbfdab.PuQueue
