/- Plain laws of loops over lists of structs: marking, holding against the marks, comparing, asking all. No program in sight. -/
import Derived.Test.YtfbdkjdockbfdabGen
namespace Go.Proofs.Ytfbdkjdockbfdab.Gen
open Go.RowKit Go.Proofs.YtfbdkjdockbfdabW.PrintWords
def markL {α : Type} (mk : α → Int → Int × α) : List α → Int → Int × List α
  | [], m => (m, [])
  | x :: xs, m => ((markL mk xs (mk x m).1).1, (mk x m).2 :: (markL mk xs (mk x m).1).2)
def costs {α : Type} (c : α → Nat) : List α → Nat
  | [] => 0
  | x :: xs => c x + costs c xs
theorem costs_const {α : Type} (n : Nat) : ∀ xs : List α, costs (fun _ => n) xs = n * xs.length
  | [] => rfl
  | x :: xs => by rw [costs, costs_const n xs, List.length_cons, Nat.mul_succ]; omega
theorem markL_length {α : Type} (mk : α → Int → Int × α) : ∀ (xs : List α) (m : Int), (markL mk xs m).2.length = xs.length
  | [], _ => rfl
  | x :: xs, m => by simp [markL, markL_length mk xs]
theorem markL_le {α : Type} (mk : α → Int → Int × α) (c : α → Nat) (B : Int) (hc : ∀ x m, 0 ≤ m → m + c x ≤ B → m ≤ (mk x m).1 ∧ (mk x m).1 ≤ m + c x) :
    ∀ (xs : List α) (m : Int), 0 ≤ m → m + costs c xs ≤ B → m ≤ (markL mk xs m).1 ∧ (markL mk xs m).1 ≤ m + costs c xs
  | [], m, _, _ => by simp [markL, costs]
  | x :: xs, m, h0, h1 => by
    simp only [costs] at h1
    have h2 := hc x m h0 (by omega)
    have h3 := markL_le mk c B hc xs (mk x m).1 (by omega) (by omega)
    simp only [markL, costs]
    omega
theorem mid {α : Type} (pre : List α) (x : α) (rest : List α) (d : α) : (pre ++ x :: rest).getD pre.length d = x := by simp [List.getD_eq_getElem?_getD]
theorem mid_set {α : Type} (pre : List α) (x y : α) (rest : List α) : (pre ++ x :: rest).set pre.length y = (pre ++ [y]) ++ rest := by
  rw [List.set_append_right _ _ (Nat.le_refl _)]
  simp
theorem mark_gen {α : Type} (F : Nat → List α → Int → Int → Option (Int × List α)) (mk : α → Int → Int × α) (c : α → Nat) (d : α) (K : Nat) (B : Int)
    (h0 : ∀ k xs m (i : Nat), xs.length ≤ i → F (k + 1) xs m i = some (m, xs))
    (h1 : ∀ k xs m (i : Nat), K ≤ k → i < xs.length → xs.length ≤ 4611686018427387000 → 0 ≤ m → m + c (xs.getD i d) ≤ B → F (k + 1) xs m i = F k (xs.set i (mk (xs.getD i d) m).2) (mk (xs.getD i d) m).1 ((i + 1 : Nat) : Int))
    (hc : ∀ x m, 0 ≤ m → m + c x ≤ B → m ≤ (mk x m).1 ∧ (mk x m).1 ≤ m + c x) :
    ∀ (rest pre : List α) (k : Nat) (m : Int), 0 ≤ m → m + costs c rest ≤ B → pre.length + rest.length ≤ 4611686018427387000 → K + rest.length < k → F k (pre ++ rest) m (pre.length : Nat) = some ((markL mk rest m).1, pre ++ (markL mk rest m).2) := by
  intro rest
  induction rest with
  | nil =>
    intro pre k m hm hb hl hk
    obtain ⟨k, rfl⟩ : ∃ z, k = z + 1 := ⟨k - 1, by omega⟩
    rw [h0 _ _ _ _ (by simp)]
    rfl
  | cons x rest ih =>
    intro pre k m hm hb hl hk
    obtain ⟨k, rfl⟩ : ∃ z, k = z + 1 := ⟨k - 1, by omega⟩
    simp only [costs, List.length_cons] at hb hl hk
    have h2 := hc x m hm (by omega)
    rw [h1 k _ m _ (by omega) (by simp) (by simp; omega) hm (by rw [mid]; omega), mid, mid_set]
    have := ih (pre ++ [(mk x m).2]) k (mk x m).1 (by omega) (by omega) (by simp; omega) (by omega)
    simp only [List.length_append, List.length_cons, List.length_nil, Nat.zero_add] at this
    rw [this]
    simp [markL]
theorem held_gen {α : Type} (F : Nat → List α → Int → Int → Option Int) (mk : α → Int → Int × α) (c : α → Nat) (d : α) (K : Nat) (B : Int)
    (h0 : ∀ k xs m (i : Nat), xs.length ≤ i → F (k + 1) xs m i = some m)
    (h1 : ∀ k xs x m (i : Nat), K ≤ k → i < xs.length → xs.length ≤ 4611686018427387000 → 0 ≤ m → m + c x ≤ B → xs.getD i d = (mk x m).2 → F (k + 1) xs m i = F k xs (mk x m).1 ((i + 1 : Nat) : Int))
    (hc : ∀ x m, 0 ≤ m → m + c x ≤ B → m ≤ (mk x m).1 ∧ (mk x m).1 ≤ m + c x) :
    ∀ (rest pre : List α) (k : Nat) (m : Int), 0 ≤ m → m + costs c rest ≤ B → pre.length + rest.length ≤ 4611686018427387000 → K + rest.length < k → F k (pre ++ (markL mk rest m).2) m (pre.length : Nat) = some (markL mk rest m).1 := by
  intro rest
  induction rest with
  | nil =>
    intro pre k m hm hb hl hk
    obtain ⟨k, rfl⟩ : ∃ z, k = z + 1 := ⟨k - 1, by omega⟩
    rw [h0 _ _ _ _ (by simp [markL])]
    rfl
  | cons x rest ih =>
    intro pre k m hm hb hl hk
    obtain ⟨k, rfl⟩ : ∃ z, k = z + 1 := ⟨k - 1, by omega⟩
    simp only [costs, List.length_cons] at hb hl hk
    have h2 := hc x m hm (by omega)
    simp only [markL]
    rw [h1 k _ x m _ (by omega) (by simp) (by simp [markL_length]; omega) hm (by omega) (mid _ _ _ _)]
    have := ih (pre ++ [(mk x m).2]) k (mk x m).1 (by omega) (by omega) (by simp; omega) (by omega)
    simp only [List.length_append, List.length_cons, List.length_nil, Nat.zero_add, List.append_assoc, List.cons_append, List.nil_append] at this
    rw [this]
theorem eq_gen {α : Type} (F : Nat → List α → List α → Int → Option Bool) (xs : List α) (K : Nat)
    (h0 : ∀ k (i : Nat), xs.length ≤ i → F (k + 1) xs xs i = some true)
    (h1 : ∀ k (i : Nat), K ≤ k → i < xs.length → F (k + 1) xs xs i = F k xs xs ((i + 1 : Nat) : Int)) :
    ∀ (d k i : Nat), i + d = xs.length → K + d < k → F k xs xs (i : Nat) = some true := by
  intro d
  induction d with
  | zero =>
    intro k i hd hk
    obtain ⟨k, rfl⟩ : ∃ z, k = z + 1 := ⟨k - 1, by omega⟩
    exact h0 k i (by omega)
  | succ d ih =>
    intro k i hd hk
    obtain ⟨k, rfl⟩ : ∃ z, k = z + 1 := ⟨k - 1, by omega⟩
    rw [h1 k i (by omega) (by omega)]
    exact ih k (i + 1) (by omega) (by omega)
open Classical in
/-- A loop that asks P of all places. -/
theorem all_gen (F : Nat → Int → Option Bool) (n : Nat) (P : Nat → Prop) (t : Bool) (K : Nat)
    (h0 : ∀ k (i : Nat), K ≤ k → n ≤ i → F (k + 1) i = some t)
    (h1 : ∀ k (i : Nat), K ≤ k → i < n → F (k + 1) i = if P i then F k ((i + 1 : Nat) : Int) else some false) :
    ∀ (d k i : Nat), i + d = n → K + d < k → F k (i : Nat) = some (decide (∀ j, i ≤ j → j < n → P j) && t) := by
  intro d
  induction d with
  | zero =>
    intro k i hd hk
    obtain ⟨k, rfl⟩ : ∃ z, k = z + 1 := ⟨k - 1, by omega⟩
    rw [h0 k i (by omega) (by omega), decide_eq_true (fun j _ _ => by omega)]
    rfl
  | succ d ih =>
    intro k i hd hk
    obtain ⟨k, rfl⟩ : ∃ z, k = z + 1 := ⟨k - 1, by omega⟩
    rw [h1 k i (by omega) (by omega)]
    by_cases c : P i
    · rw [if_pos c, ih k (i + 1) (by omega) (by omega)]
      have : (∀ j, i + 1 ≤ j → j < n → P j) ↔ (∀ j, i ≤ j → j < n → P j) := ⟨fun h j h1 h2 => by
        by_cases e : j = i
        · exact e ▸ c
        · exact h j (by omega) h2, fun h j h1 h2 => h j (by omega) h2⟩
      rw [decide_eq_decide.mpr this]
    · rw [if_neg c, decide_eq_false (fun h => c (h i (Nat.le_refl _) (by omega)))]
      rfl
end Go.Proofs.Ytfbdkjdockbfdab.Gen
