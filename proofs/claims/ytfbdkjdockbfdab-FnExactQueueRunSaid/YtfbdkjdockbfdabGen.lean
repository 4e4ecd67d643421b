/- Plain laws of loops over lists: copying, comparing, marking, holding against the marks. No program in sight. -/
import Derived.Test.YtfbdkjdockbfdabGQw
namespace Go.Proofs.Ytfbdkjdockbfdab.Gen
open Go.RowKit Go.Proofs.YtfbdkjdockbfdabW.PrintWords
theorem wr {i : Int} (h0 : -4611686018427387904 ≤ i) (h : i < 4611686018427387904) : wrap64 (i + 1) = i + 1 := by
  unfold wrap64
  omega
theorem wid {i : Int} (h0 : -9223372036854775808 ≤ i) (h : i ≤ 9223372036854775807) : wrap64 i = i := by
  unfold wrap64
  omega
/-- A loop that copies element by element. -/
theorem copy_loop {α β : Type} (F : Nat → List α → List β → Int → Option (List β)) (g : α → β) (da : α)
    (hF : ∀ k xs acc i, F (k + 1) xs acc i = if i < (xs.length : Int) then (if 0 ≤ i then (if i < (acc.length : Int) then F k xs (acc.set i.toNat (g (xs.getD i.toNat da))) (wrap64 (i + 1)) else none) else none) else some acc)
    (xs : List α) (hn : xs.length ≤ 4611686018427387000) : ∀ (d k : Nat) (i : Nat) (acc : List β), acc.length = xs.length → i + d = xs.length → d < k → (∀ j, j < i → acc[j]? = (xs.map g)[j]?) → F k xs acc i = some (xs.map g) := by
  intro d
  induction d with
  | zero =>
    intro k i acc hl hd hk hj
    obtain ⟨k, rfl⟩ : ∃ m, k = m + 1 := ⟨k - 1, by omega⟩
    rw [hF, if_neg (by omega)]
    congr 1
    apply List.ext_getElem?
    intro j
    rcases Nat.lt_or_ge j i with h | h
    · exact hj j h
    · rw [List.getElem?_eq_none (by omega), List.getElem?_eq_none (by simp; omega)]
  | succ d ih =>
    intro k i acc hl hd hk hj
    obtain ⟨k, rfl⟩ : ∃ m, k = m + 1 := ⟨k - 1, by omega⟩
    rw [hF, if_pos (by omega), if_pos (by omega), if_pos (by omega), wr (by omega) (by omega)]
    have := ih k (i + 1) (acc.set i (g (xs.getD i da))) (by simp [hl]) (by omega) (by omega) (fun j hji => by
      rcases Nat.lt_or_ge j i with h | h
      · rw [List.getElem?_set_ne (by omega)]
        exact hj j h
      · obtain rfl : j = i := by omega
        rw [List.getElem?_set_self (by omega)]
        simp [List.getD_eq_getElem?_getD, List.getElem?_eq_getElem (show j < xs.length by omega)])
    simpa using this
/-- A loop that compares a list with itself. -/
theorem eq_loop {α : Type} (F : Nat → List α → List α → Int → Option Bool) (E : α → α → Prop) [DecidableRel E] (da : α) (refl : ∀ x, E x x)
    (hF : ∀ k xs ys i, F (k + 1) xs ys i = if i < (xs.length : Int) then (if 0 ≤ i then (if i < (ys.length : Int) then (if E (xs.getD i.toNat da) (ys.getD i.toNat da) then F k xs ys (wrap64 (i + 1)) else some false) else none) else none) else some true)
    (xs : List α) (hn : xs.length ≤ 4611686018427387000) : ∀ (d k : Nat) (i : Nat), i + d = xs.length → d < k → F k xs xs i = some true := by
  intro d
  induction d with
  | zero =>
    intro k i hd hk
    obtain ⟨k, rfl⟩ : ∃ m, k = m + 1 := ⟨k - 1, by omega⟩
    rw [hF, if_neg (by omega)]
  | succ d ih =>
    intro k i hd hk
    obtain ⟨k, rfl⟩ : ∃ m, k = m + 1 := ⟨k - 1, by omega⟩
    rw [hF, if_pos (by omega), if_pos (by omega), if_pos (by omega), if_pos (refl _), wr (by omega) (by omega)]
    have := ih k (i + 1) (by omega) (by omega)
    simpa using this
/-- What marks are: from m on, one an element. -/
def marks {α : Type} (mt : Int → α) (m : Int) (n : Nat) : List α := (List.range n).map fun (j : Nat) => mt (m + j)
theorem marks_length {α : Type} (mt : Int → α) (m : Int) (n : Nat) : (marks mt m n).length = n := by simp [marks]
theorem marks_get {α : Type} (mt : Int → α) (m : Int) (n j : Nat) (h : j < n) (d : α) : (marks mt m n).getD j d = mt (m + j) := by
  simp [marks, List.getD_eq_getElem?_getD, h]
/-- A loop that marks. -/
theorem mark_loop {α : Type} (F : Nat → List α → Int → Int → Option (Int × List α)) (M : Nat → Int → Option α) (mt : Int → α) (K : Nat) (top : Int) (htop : top ≤ 4611686018427387000)
    (hM : ∀ k m, K ≤ k → 0 ≤ m → m ≤ top → M k m = some (mt m))
    (hF : ∀ k xs m i, F (k + 1) xs m i = if i < (xs.length : Int) then ((M k m).bind fun t => if 0 ≤ i then F k (xs.set i.toNat t) (wrap64 (m + 1)) (wrap64 (i + 1)) else none) else some (m, xs))
    (m0 : Int) (n : Nat) (h0 : 0 ≤ m0) (hn : m0 + n ≤ top) : ∀ (d k : Nat) (i : Nat) (xs : List α), xs.length = n → i + d = n → d + K < k → (∀ j, j < i → xs[j]? = (marks mt m0 n)[j]?) → F k xs (m0 + i) i = some (m0 + n, marks mt m0 n) := by
  intro d
  induction d with
  | zero =>
    intro k i xs hl hd hk hj
    obtain ⟨k, rfl⟩ : ∃ m, k = m + 1 := ⟨k - 1, by omega⟩
    rw [hF, if_neg (by omega)]
    have hin : i = n := by omega
    subst hin
    congr 2
    apply List.ext_getElem?
    intro j
    rcases Nat.lt_or_ge j i with h | h
    · exact hj j h
    · rw [List.getElem?_eq_none (by omega), List.getElem?_eq_none (by rw [marks_length]; omega)]
  | succ d ih =>
    intro k i xs hl hd hk hj
    obtain ⟨k, rfl⟩ : ∃ m, k = m + 1 := ⟨k - 1, by omega⟩
    rw [hF, if_pos (by omega), hM k _ (by omega) (by omega) (by omega)]
    simp only [Option.bind_some]
    rw [if_pos (by omega), wr (by omega) (by omega), wr (by omega) (by omega)]
    have := ih k (i + 1) (xs.set i (mt (m0 + i))) (by simp [hl]) (by omega) (by omega) (fun j hji => by
      rcases Nat.lt_or_ge j i with h | h
      · rw [List.getElem?_set_ne (by omega)]
        exact hj j h
      · obtain rfl : j = i := by omega
        rw [List.getElem?_set_self (by omega)]
        simp [marks, show j < n by omega])
    simpa [Int.add_assoc] using this
/-- A loop that holds a list against the marks. -/
theorem held_loop {α : Type} (F : Nat → List α → Int → Int → Option Int) (M : Nat → Int → Option α) (E : α → α → Prop) [DecidableRel E] (da : α) (refl : ∀ x, E x x) (mt : Int → α) (K : Nat) (top : Int) (htop : top ≤ 4611686018427387000)
    (hM : ∀ k m, K ≤ k → 0 ≤ m → m ≤ top → M k m = some (mt m))
    (hF : ∀ k xs m i, F (k + 1) xs m i = if i < (xs.length : Int) then (if 0 ≤ i then ((M k m).bind fun t => if E (xs.getD i.toNat da) t then F k xs (wrap64 (m + 1)) (wrap64 (i + 1)) else some (-1)) else none) else some m)
    (m0 : Int) (n : Nat) (h0 : 0 ≤ m0) (hn : m0 + n ≤ top) : ∀ (d k : Nat) (i : Nat), i + d = n → d + K < k → F k (marks mt m0 n) (m0 + i) i = some (m0 + n) := by
  intro d
  induction d with
  | zero =>
    intro k i hd hk
    obtain ⟨k, rfl⟩ : ∃ m, k = m + 1 := ⟨k - 1, by omega⟩
    rw [hF, if_neg (by rw [marks_length]; omega)]
    have hin : i = n := by omega
    rw [hin]
  | succ d ih =>
    intro k i hd hk
    obtain ⟨k, rfl⟩ : ∃ m, k = m + 1 := ⟨k - 1, by omega⟩
    rw [hF, if_pos (by rw [marks_length]; omega), if_pos (by omega), hM k _ (by omega) (by omega) (by omega)]
    simp only [Option.bind_some]
    rw [show ((i : Int)).toNat = i from by omega, marks_get _ _ _ _ (by omega), if_pos (refl _), wr (by omega) (by omega), wr (by omega) (by omega)]
    have := ih k (i + 1) (by omega) (by omega)
    simpa [Int.add_assoc] using this
end Go.Proofs.Ytfbdkjdockbfdab.Gen
