/- Plain laws of those functions, no program in sight: the law answers true on all data. No condition. -/
import GoSem.Claim
import Derived.Test.YtpcohpkflkhfbaaGQaF2
namespace Go.Proofs.Ytpcohpkflkhfbaa.Rx.Pu
open Go
set_option linter.unusedVariables false
set_option linter.unusedSimpArgs false

/-! Plain laws of numbers and lists. -/
theorem wr {x : Int} (h0 : -9223372036854775808 ≤ x) (h1 : x ≤ 9223372036854775807) : IntKind.i64.wrap x = x := by
  have e1 : (2 : Int) ^ IntKind.i64.bits = 18446744073709551616 := rfl
  have e2 : (2 : Int) ^ (IntKind.i64.bits - 1) = 9223372036854775808 := rfl
  have e3 : IntKind.i64.signed = true := rfl
  unfold IntKind.wrap
  simp only [e1, e2, e3, Bool.true_and, decide_eq_true_eq]
  split <;> omega

theorem cond_dec {α : Type} {p : Prop} [Decidable p] {a b : α} : cond (decide p) a b = if p then a else b := by
  by_cases h : p <;> simp [h]

theorem toNat_cast (i : Nat) : ((i : Int)).toNat = i := rfl

theorem getD_drop {α : Type} {l : List α} {i : Nat} {d : α} (h : i < l.length) : l.drop i = l.getD i d :: l.drop (i + 1) := by
  rw [List.drop_eq_getElem_cons h, List.getD_eq_getElem?_getD, List.getElem?_eq_getElem h, Option.getD_some]

/-- the two numbers that are not negative, and small, differ bit by bit to a number that is small -/
theorem xor_small {a b : Int} (ha : 0 ≤ a) (ha2 : a < 4611686018427387904) (hb : 0 ≤ b) (hb2 : b < 4611686018427387904) :
    0 ≤ IntKind.i64.wrap ((BitVec.ofInt IntKind.i64.bits a ^^^ BitVec.ofInt IntKind.i64.bits b).toNat : Int) := by
  have e0 : IntKind.i64.bits = 64 := rfl
  obtain ⟨m, rfl⟩ := Int.eq_ofNat_of_zero_le ha
  obtain ⟨k, rfl⟩ := Int.eq_ofNat_of_zero_le hb
  have hm : m < 2 ^ 62 := by omega
  have hk : k < 2 ^ 62 := by omega
  have hx : m ^^^ k < 2 ^ 62 := Nat.xor_lt_two_pow hm hk
  have e : (BitVec.ofInt IntKind.i64.bits (m : Int) ^^^ BitVec.ofInt IntKind.i64.bits (k : Int)).toNat = m ^^^ k := by
    have h1 : ∀ j : Nat, j < 2 ^ 62 → (BitVec.ofInt IntKind.i64.bits (j : Int)).toNat = j := by
      intro j hj
      rw [BitVec.toNat_ofInt]
      have e9 : ((2 ^ IntKind.i64.bits : Nat) : Int) = 18446744073709551616 := rfl
      rw [e9]
      omega
    rw [BitVec.toNat_xor, h1 m hm, h1 k hk]
  rw [e, wr (by omega) (by omega)]
  omega

theorem tmod_range {a b : Int} (ha : 0 ≤ a) (hb : 1 ≤ b) : 0 ≤ a.tmod b ∧ a.tmod b < b := by
  rw [Int.tmod_eq_emod_of_nonneg ha]
  exact ⟨Int.emod_nonneg _ (by omega), Int.emod_lt_of_pos _ (by omega)⟩
theorem tdiv_range {a b : Int} (ha : 0 ≤ a) (hb : 1 ≤ b) : 0 ≤ a.tdiv b ∧ a.tdiv b ≤ a := by
  rw [Int.tdiv_eq_ediv_of_nonneg ha]
  exact ⟨Int.ediv_nonneg ha (by omega), Int.ediv_le_self _ ha⟩

/-! counting without doubles -/
theorem len_le_of_sub {α : Type} [DecidableEq α] : ∀ {S L : List α}, S.Nodup → (∀ x ∈ S, x ∈ L) → S.length ≤ L.length
  | [], L, _, _ => Nat.zero_le _
  | x :: S, L, hn, hs => by
    have hx : x ∈ L := hs x List.mem_cons_self
    have h1 := List.nodup_cons.1 hn
    have := len_le_of_sub (S := S) (L := L.erase x) h1.2 (fun y hy => (List.mem_erase_of_ne (by rintro rfl; exact h1.1 hy)).2 (hs y (List.mem_cons_of_mem _ hy)))
    rw [List.length_erase_of_mem hx] at this
    have : 0 < L.length := List.length_pos_of_mem hx
    simp; omega

theorem perm_of_sub {α : Type} [DecidableEq α] : ∀ {S L : List α}, S.Nodup → (∀ x ∈ S, x ∈ L) → L.length ≤ S.length → S.Perm L
  | [], L, _, _, hl => by
    have : L = [] := List.eq_nil_of_length_eq_zero (by simpa using hl)
    subst this
    exact .nil
  | x :: S, L, hn, hs, hl => by
    have hx : x ∈ L := hs x List.mem_cons_self
    have h1 := List.nodup_cons.1 hn
    have hp : 0 < L.length := List.length_pos_of_mem hx
    have := perm_of_sub (S := S) (L := L.erase x) h1.2 (fun y hy => (List.mem_erase_of_ne (by rintro rfl; exact h1.1 hy)).2 (hs y (List.mem_cons_of_mem _ hy))) (by
      rw [List.length_erase_of_mem hx]
      simp at hl
      omega)
    exact (this.cons x).trans (List.perm_cons_erase hx).symm
end Go.Proofs.Ytpcohpkflkhfbaa.Rx.Pu
namespace Go.Proofs.Ytpcohpkflkhfbaa.Rx.S
open Go Go.Proofs.Ytpcohpkflkhfbaa.Rx.Pu
set_option linter.unusedVariables false
set_option linter.unusedSimpArgs false

abbrev Th := Int × Int × Int × Bool
abbrev Lk := Int × List Th × List Int

/-! ## in, contains -/
theorem p57_eq (n : Nat) (a b c : Int) : p57 n a b c = some ((decide (b ≤ a ∧ a ≤ c), ()), ()) := by
  show st57_top n a b c = _
  simp only [st57_top, cond_dec]
  by_cases h : b ≤ a <;> simp [h]
theorem p62_eq (n : Nat) (a b c : Int) : p62 n a b c = some ((decide (b ≤ a ∧ a ≤ c), ()), ()) := by
  show st62_top n a b c = _
  simp only [st62_top, cond_dec]
  by_cases h : b ≤ a <;> simp [h]

theorem p76_L2_eq (n : Nat) (l : List Int) (x : Int) (hl : l.length < 4611686018427387904) : ∀ (m i : Nat), i ≤ l.length → l.length - i < m → p76_L2 n m l x (i : Int) = some ((decide (x ∈ l.drop i), ()), ())
  | 0, i, _, h => by omega
  | m + 1, i, hi, h => by
    show st76_L2 n (p76_L2 n m) l x i = _
    simp only [st76_L2, cond_dec, toNat_cast]
    by_cases h1 : i < l.length
    · rw [if_pos (by omega), if_pos (by omega), if_pos (by omega), getD_drop (d := 0) h1]
      by_cases h2 : l.getD i 0 = x
      · have h3 : x ∈ (l.getD i 0 :: l.drop (i + 1)) := by rw [h2]; exact List.mem_cons_self
        rw [if_pos h2]; simp only [h3, decide_true]
      · rw [if_neg h2, wr (by omega) (by omega)]
        have := p76_L2_eq n l x hl m (i + 1) (by omega) (by omega)
        rw [show ((i : Int) + 1) = ((i + 1 : Nat) : Int) by omega, this]
        have h3 : ¬ x = l.getD i 0 := fun e => h2 e.symm
        simp only [List.mem_cons, h3, false_or]
    · rw [if_neg (by omega), List.drop_eq_nil_of_le (by omega)]
      simp
theorem p76_eq (n : Nat) (l : List Int) (x : Int) (hl : l.length < 4611686018427387904) (hn : l.length < n) : p76 n l x = some ((decide (x ∈ l), ()), ()) := by
  have := p76_L2_eq n l x hl n 0 (by omega) (by omega)
  rw [List.drop_zero] at this
  exact this

theorem p111_L2_eq (n : Nat) (l : List Int) (x : Int) (hl : l.length < 4611686018427387904) : ∀ (m i : Nat), i ≤ l.length → l.length - i < m → ∃ r : Int, p111_L2 n m l x l.length (i : Int) = some ((r, ()), ()) ∧ decide (0 ≤ r) = decide (x ∈ l.drop i)
  | 0, i, _, h => by omega
  | m + 1, i, hi, h => by
    show ∃ r, st111_L2 n (p111_L2 n m) l x l.length i = _ ∧ _
    simp only [st111_L2, cond_dec, toNat_cast]
    by_cases h1 : i < l.length
    · rw [if_pos (by omega), if_pos (by omega), if_pos (by omega), getD_drop (d := 0) h1]
      by_cases h2 : x = l.getD i 0
      · have h3 : x ∈ (l.getD i 0 :: l.drop (i + 1)) := by rw [← h2]; exact List.mem_cons_self
        rw [if_pos h2]; exact ⟨i, rfl, by simp only [h3, decide_true]; simp⟩
      · rw [if_neg h2, wr (by omega) (by omega)]
        obtain ⟨r, h3, h4⟩ := p111_L2_eq n l x hl m (i + 1) (by omega) (by omega)
        rw [show ((i : Int) + 1) = ((i + 1 : Nat) : Int) by omega, h3]
        refine ⟨r, rfl, ?_⟩
        rw [h4]
        simp only [List.mem_cons, h2, false_or]
    · rw [if_neg (by omega), List.drop_eq_nil_of_le (by omega)]
      exact ⟨-1, rfl, by simp⟩
theorem p75_eq (n : Nat) (l : List Int) (x : Int) (hl : l.length < 4611686018427387904) (hn : l.length < n) : p75 n l x = some ((decide (x ∈ l), ()), ()) := by
  obtain ⟨r, h1, h2⟩ := p111_L2_eq n l x hl n 0 (by omega) (by omega)
  show (q111 n (l, x, ())).bind _ = _
  have h3 : q111 n (l, x, ()) = some ((r, ()), ()) := h1
  rw [h3]
  simp only [Option.bind_some]
  rw [h2]
  simp

/-! ## a lock that is valid -/
def ThOk (line : List Int) (i : Int) (t : Th) : Prop :=
  (0 ≤ t.1 ∧ t.1 ≤ 6) ∧ (0 ≤ t.2.1 ∧ t.2.1 ≤ 2) ∧ (t.1 ≠ 1 → t.2.1 = 0) ∧ (0 ≤ t.2.2.1 ∧ t.2.2.1 ≤ 3) ∧ (0 < t.1 → t.2.2.1 ≠ 0) ∧ (t.2.2.2 = true → t.1 = 3) ∧ (t.2.2.2 = decide (i ∈ line))
instance (line : List Int) (i : Int) (t : Th) : Decidable (ThOk line i t) := by unfold ThOk; infer_instance

def okL (line : List Int) : List Th → Int → Int → Bool
  | [], _, c => decide (c = line.length)
  | t :: ts, i, c => cond (decide (ThOk line i t)) (okL line ts (i + 1) (cond t.2.2.2 (c + 1) c)) false

def lockOk (k : Lk) : Bool := decide (0 ≤ k.1 ∧ k.1 ≤ 2) && (decide (1 ≤ (k.2.1.length : Int) ∧ (k.2.1.length : Int) ≤ 4) && okL k.2.2 k.2.1 0 0)

abbrev d0 : Th := (0, 0, 0, false)

theorem th_tree24 (a s u : Int) (z : Bool) {p : Prop} [Decidable p] (o1 o2 : Bool) {α β : Type} {x : α} {y : β} :
    (bif !decide (0 ≤ a ∧ a ≤ 6) then some ((false, x), y)
    else bif !decide (0 ≤ s ∧ s ≤ 2) then some ((false, x), y)
      else bif !decide (a = 1) then bif !decide (s = 0) then some ((false, x), y)
          else bif !decide (0 ≤ u ∧ u ≤ 3) then some ((false, x), y)
            else bif decide (0 < a) then bif decide (u = 0) then some ((false, x), y)
                else bif z then bif !decide (a = 3) then some ((false, x), y)
                    else bif !z == decide p then some ((false, x), y)
                      else bif z then some ((o1, x), y) else some ((o2, x), y)
                  else bif !z == decide p then some ((false, x), y)
                    else bif z then some ((o1, x), y) else some ((o2, x), y)
              else bif z then bif !decide (a = 3) then some ((false, x), y)
                  else bif !z == decide p then some ((false, x), y)
                    else bif z then some ((o1, x), y) else some ((o2, x), y)
                else bif !z == decide p then some ((false, x), y)
                  else bif z then some ((o1, x), y) else some ((o2, x), y)
        else bif !decide (0 ≤ u ∧ u ≤ 3) then some ((false, x), y)
          else bif decide (0 < a) then bif decide (u = 0) then some ((false, x), y)
              else bif z then bif !decide (a = 3) then some ((false, x), y)
                  else bif !z == decide p then some ((false, x), y)
                    else bif z then some ((o1, x), y) else some ((o2, x), y)
                else bif !z == decide p then some ((false, x), y)
                  else bif z then some ((o1, x), y) else some ((o2, x), y)
            else bif z then bif !decide (a = 3) then some ((false, x), y)
                else bif !z == decide p then some ((false, x), y)
                  else bif z then some ((o1, x), y) else some ((o2, x), y)
              else bif !z == decide p then some ((false, x), y)
                else bif z then some ((o1, x), y) else some ((o2, x), y)) =
    some ((bif decide ((0 ≤ a ∧ a ≤ 6) ∧ (0 ≤ s ∧ s ≤ 2) ∧ (a ≠ 1 → s = 0) ∧ (0 ≤ u ∧ u ≤ 3) ∧ (0 < a → u ≠ 0) ∧ (z = true → a = 3) ∧ z = decide p) then (bif z then o1 else o2) else false, x), y) := by
  by_cases hA : 0 ≤ a ∧ a ≤ 6 <;> by_cases hS : 0 ≤ s ∧ s ≤ 2 <;> by_cases hU : 0 ≤ u ∧ u ≤ 3 <;> simp only [hA, hS, hU, decide_true, decide_false, Bool.not_true, Bool.not_false, cond_true, cond_false, true_and, false_and, and_false, ite_self, Bool.cond_self]
  all_goals try (by_cases h1 : a = 1 <;> by_cases h2 : s = 0 <;> simp [h1, h2]; done)
  by_cases h1 : a = 1 <;> by_cases h2 : s = 0 <;> by_cases h3 : 0 < a <;> by_cases h4 : u = 0 <;> by_cases h5 : a = 3 <;> by_cases h6 : p <;> cases z <;> simp [h1, h2, h3, h4, h5, h6] <;> omega

theorem p24_L5_eq (n : Nat) (w : Int) (ths : List Th) (line : List Int) (hl : line.length < 4611686018427387904) (hn : line.length < n) (ht : ths.length ≤ 4) : ∀ (m i c : Nat), i ≤ ths.length → ths.length - i < m → c ≤ i →
    p24_L5 n m (c : Int) (i : Int) w ths line = some ((okL line (ths.drop i) i c, ()), ())
  | 0, i, c, _, h, _ => by omega
  | m + 1, i, c, hi, h, hc => by
    show st24_L5 n (p24_L5 n m) c i w ths line = _
    by_cases h1 : i < ths.length
    · have ih := fun c' hc' => p24_L5_eq n w ths line hl hn ht m (i + 1) c' (by omega) (by omega) hc'
      have e1 : ((i : Int) + 1) = ((i + 1 : Nat) : Int) := by omega
      have e2 : ((c : Int) + 1) = ((c + 1 : Nat) : Int) := by omega
      have i1 := ih c (by omega)
      have i2 := ih (c + 1) (by omega)
      rw [getD_drop (d := ((0 : Int), (0 : Int), (0 : Int), false)) h1]
      obtain ⟨⟨a, s, u, z⟩, ht⟩ : ∃ t, ths.getD i ((0 : Int), (0 : Int), (0 : Int), false) = t := ⟨_, rfl⟩
      simp only [st24_L5, toNat_cast, ht]
      rw [wr (by omega) (by omega), wr (by omega) (by omega), e1, e2, i1, i2]
      have h2 : decide ((i : Int) < (ths.length : Int)) = true := by simp; omega
      have h3 : decide ((0 : Int) ≤ (i : Int)) = true := by simp
      simp only [h2, h3, cond_true, q57, p57_eq, q76, p76_eq n line _ hl hn, Option.bind_some, okL, ThOk]
      rw [e1, e2]
      have e3 : okL line (ths.drop (i + 1)) ((i + 1 : Nat) : Int) (bif z then ((c + 1 : Nat) : Int) else (c : Int)) = bif z then okL line (ths.drop (i + 1)) ((i + 1 : Nat) : Int) ((c + 1 : Nat) : Int) else okL line (ths.drop (i + 1)) ((i + 1 : Nat) : Int) (c : Int) := by cases z <;> rfl
      rw [e3]
      generalize okL line (ths.drop (i + 1)) ((i + 1 : Nat) : Int) ((c + 1 : Nat) : Int) = o1
      generalize okL line (ths.drop (i + 1)) ((i + 1 : Nat) : Int) (c : Int) = o2
      clear i1 i2 ih ht e3
      exact th_tree24 a s u z o1 o2
    · simp only [st24_L5, cond_dec]
      rw [if_neg (by omega), List.drop_eq_nil_of_le (by omega)]
      rfl
theorem p24_eq (n : Nat) (k : Lk) (hl : k.2.2.length < 4611686018427387904) (hn : k.2.2.length < n) (hn2 : 5 ≤ n) : p24 n k = some ((lockOk k, ()), ()) := by
  obtain ⟨w, ths, line⟩ := k
  show st24_top n (p24_L5 n n) (w, ths, line) = _
  simp only [st24_top, q57, p57_eq, Option.bind_some, lockOk]
  by_cases h1 : 0 ≤ w ∧ w ≤ 2
  · by_cases h2 : 1 ≤ (ths.length : Int) ∧ (ths.length : Int) ≤ 4
    · have := p24_L5_eq n w ths line hl hn (by omega) n 0 0 (by omega) (by omega) (by omega)
      rw [List.drop_zero] at this
      simp only [h1, h2, and_self, decide_true, Bool.not_true, cond_false, Bool.true_and]
      exact this
    · simp only [h1, h2, and_self, decide_true, decide_false, Bool.not_true, Bool.not_false, cond_false, cond_true, Bool.false_and, Bool.true_and]
  · simp only [h1, decide_false, Bool.not_false, cond_true, Bool.false_and]

theorem p23_L5_eq (n : Nat) (w : Int) (ths : List Th) (line : List Int) (hl : line.length < 4611686018427387904) (hn : line.length < n) (ht : ths.length ≤ 4) : ∀ (m i c : Nat), i ≤ ths.length → ths.length - i < m → c ≤ i →
    p23_L5 n m (c : Int) ths ths.length (i : Int) w ths line = some ((okL line (ths.drop i) i c, ()), ())
  | 0, i, c, _, h, _ => by omega
  | m + 1, i, c, hi, h, hc => by
    show st23_L5 n (p23_L5 n m) c ths ths.length i w ths line = _
    by_cases h1 : i < ths.length
    · have ih := fun c' hc' => p23_L5_eq n w ths line hl hn ht m (i + 1) c' (by omega) (by omega) hc'
      have e1 : ((i : Int) + 1) = ((i + 1 : Nat) : Int) := by omega
      have e2 : ((c : Int) + 1) = ((c + 1 : Nat) : Int) := by omega
      have i1 := ih c (by omega)
      have i2 := ih (c + 1) (by omega)
      rw [getD_drop (d := ((0 : Int), (0 : Int), (0 : Int), false)) h1]
      obtain ⟨⟨a, s, u, z⟩, ht⟩ : ∃ t, ths.getD i ((0 : Int), (0 : Int), (0 : Int), false) = t := ⟨_, rfl⟩
      simp only [st23_L5, toNat_cast, ht]
      rw [wr (by omega) (by omega), wr (by omega) (by omega), e1, e2, i1, i2]
      have h2 : decide ((i : Int) < (ths.length : Int)) = true := by simp; omega
      have h3 : decide ((0 : Int) ≤ (i : Int)) = true := by simp
      simp only [h2, h3, cond_true, q62, p62_eq, q75, p75_eq n line _ hl hn, Option.bind_some, okL, ThOk]
      rw [e1, e2]
      have e3 : okL line (ths.drop (i + 1)) ((i + 1 : Nat) : Int) (bif z then ((c + 1 : Nat) : Int) else (c : Int)) = bif z then okL line (ths.drop (i + 1)) ((i + 1 : Nat) : Int) ((c + 1 : Nat) : Int) else okL line (ths.drop (i + 1)) ((i + 1 : Nat) : Int) (c : Int) := by cases z <;> rfl
      rw [e3]
      generalize okL line (ths.drop (i + 1)) ((i + 1 : Nat) : Int) ((c + 1 : Nat) : Int) = o1
      generalize okL line (ths.drop (i + 1)) ((i + 1 : Nat) : Int) (c : Int) = o2
      clear i1 i2 ih ht e3 h2 h3 e1 e2 h1 hi h hc
      by_cases hA : 0 ≤ a ∧ a ≤ 6 <;> by_cases hS : 0 ≤ s ∧ s ≤ 2 <;> by_cases hU : 0 ≤ u ∧ u ≤ 3 <;> simp only [hA, hS, hU, decide_true, decide_false, Bool.not_true, Bool.not_false, cond_true, cond_false, true_and, false_and, and_false, ite_self, Bool.cond_self]
      all_goals try (by_cases h1 : a = 1 <;> by_cases h2 : 0 < s <;> simp [h1, h2]; done)
      by_cases h1 : a = 1 <;> by_cases h2 : 0 < s <;> by_cases h3 : 0 < a <;> by_cases h4 : u = 0 <;> by_cases h5 : a = 3 <;> by_cases h6 : (i : Int) ∈ line <;> cases z <;> simp [h1, h2, h3, h4, h5, h6] <;> omega
    · simp only [st23_L5, cond_dec]
      rw [if_neg (by omega), List.drop_eq_nil_of_le (by omega)]
      rfl
theorem p23_eq (n : Nat) (k : Lk) (hl : k.2.2.length < 4611686018427387904) (hn : k.2.2.length < n) (hn2 : 5 ≤ n) : p23 n k = some ((lockOk k, ()), ()) := by
  obtain ⟨w, ths, line⟩ := k
  show st23_top n (p23_L5 n n) (w, ths, line) = _
  simp only [st23_top, q62, p62_eq, Option.bind_some, lockOk]
  by_cases h1 : 0 ≤ w ∧ w ≤ 2
  · by_cases h2 : 1 ≤ (ths.length : Int) ∧ (ths.length : Int) ≤ 4
    · have := p23_L5_eq n w ths line hl hn (by omega) n 0 0 (by omega) (by omega) (by omega)
      rw [List.drop_zero] at this
      simp only [h1, h2, and_self, decide_true, Bool.not_true, cond_false, Bool.true_and]
      exact this
    · simp only [h1, h2, and_self, decide_true, decide_false, Bool.not_true, Bool.not_false, cond_false, cond_true, Bool.false_and, Bool.true_and]
  · simp only [h1, decide_false, Bool.not_false, cond_true, Bool.false_and]
end Go.Proofs.Ytpcohpkflkhfbaa.Rx.S
namespace Go.Proofs.Ytpcohpkflkhfbaa.Rx.S
open Go Go.Proofs.Ytpcohpkflkhfbaa.Rx.Pu
set_option linter.unusedVariables false
set_option linter.unusedSimpArgs false

/-! ## a lock that is valid, told plainly -/
structure OkP (k : Lk) : Prop where
  w : 0 ≤ k.1 ∧ k.1 ≤ 2
  n : 1 ≤ k.2.1.length ∧ k.2.1.length ≤ 4
  th : ∀ (i : Nat) t, k.2.1[i]? = some t → ThOk k.2.2 i t
  nd : k.2.2.Nodup
  rg : ∀ x ∈ k.2.2, 0 ≤ x ∧ x < k.2.1.length

def idx : List Th → Nat → List Int
  | [], _ => []
  | t :: ts, i => bif t.2.2.2 then (i : Int) :: idx ts (i + 1) else idx ts (i + 1)

theorem mem_idx : ∀ {ths : List Th} {i : Nat} {x : Int}, x ∈ idx ths i ↔ ∃ (j : Nat) (t : Th), ths[j]? = some t ∧ t.2.2.2 = true ∧ x = ((i + j : Nat) : Int)
  | [], i, x => by simp [idx]
  | t :: ts, i, x => by
    have ih := mem_idx (ths := ts) (i := i + 1) (x := x)
    constructor
    · intro h
      simp only [idx] at h
      cases hz : t.2.2.2 with
      | true =>
        rw [hz] at h
        rcases List.mem_cons.1 h with h | h
        · exact ⟨0, t, rfl, hz, by simpa using h⟩
        · obtain ⟨j, t', h1, h2, h3⟩ := ih.1 h
          exact ⟨j + 1, t', by simpa using h1, h2, by rw [h3]; congr 1; omega⟩
      | false =>
        rw [hz] at h
        obtain ⟨j, t', h1, h2, h3⟩ := ih.1 h
        exact ⟨j + 1, t', by simpa using h1, h2, by rw [h3]; congr 1; omega⟩
    · rintro ⟨j, t', h1, h2, h3⟩
      simp only [idx]
      cases j with
      | zero =>
        have : t = t' := by simpa using h1
        subst this
        rw [h2]
        exact List.mem_cons.2 (.inl (by simpa using h3))
      | succ j =>
        have h4 : x ∈ idx ts (i + 1) := ih.2 ⟨j, t', by simpa using h1, h2, by rw [h3]; congr 1; omega⟩
        cases t.2.2.2
        · exact h4
        · exact List.mem_cons_of_mem _ h4

theorem idx_ge {ths : List Th} {i : Nat} {x : Int} (h : x ∈ idx ths i) : (i : Int) ≤ x ∧ x < i + ths.length := by
  obtain ⟨j, t, h1, _, rfl⟩ := mem_idx.1 h
  have := (List.getElem?_eq_some_iff.1 h1).1
  omega

theorem idx_nodup : ∀ (ths : List Th) (i : Nat), (idx ths i).Nodup
  | [], i => List.nodup_nil
  | t :: ts, i => by
    simp only [idx]
    cases t.2.2.2
    · exact idx_nodup ts (i + 1)
    · refine List.nodup_cons.2 ⟨fun h => ?_, idx_nodup ts (i + 1)⟩
      have := (idx_ge h).1
      omega

theorem okL_iff (line : List Int) : ∀ (ths : List Th) (i : Nat) (c : Nat), okL line ths i c = true ↔ (∀ (j : Nat) t, ths[j]? = some t → ThOk line ((i + j : Nat) : Int) t) ∧ c + (idx ths i).length = line.length
  | [], i, c => by simp [okL, idx]; omega
  | t :: ts, i, c => by
    have e1 : ((i : Int) + 1) = ((i + 1 : Nat) : Int) := by omega
    have e2 : ((c : Int) + 1) = ((c + 1 : Nat) : Int) := by omega
    have ih := fun c => okL_iff line ts (i + 1) c
    have hsplit : (∀ (j : Nat) t', (t :: ts)[j]? = some t' → ThOk line ((i + j : Nat) : Int) t') ↔ ThOk line i t ∧ ∀ (j : Nat) t', ts[j]? = some t' → ThOk line ((i + 1 + j : Nat) : Int) t' := by
      constructor
      · intro h
        refine ⟨h 0 t rfl, fun j t' hj => ?_⟩
        have := h (j + 1) t' (by simpa using hj)
        rwa [show i + (j + 1) = i + 1 + j by omega] at this
      · rintro ⟨h1, h2⟩ j t' hj
        cases j with
        | zero =>
          have : t = t' := by simpa using hj
          subst this
          exact h1
        | succ j =>
          have := h2 j t' (by simpa using hj)
          rwa [show i + 1 + j = i + (j + 1) by omega] at this
    rw [hsplit]
    simp only [okL, idx]
    rw [e1, e2]
    by_cases ho : ThOk line i t
    · simp only [ho, decide_true, cond_true, true_and]
      cases hz : t.2.2.2 with
      | true =>
        simp only [cond_true]
        rw [ih (c + 1)]
        simp only [List.length_cons]
        constructor
        · rintro ⟨h1, h2⟩; exact ⟨h1, by omega⟩
        · rintro ⟨h1, h2⟩; exact ⟨h1, by omega⟩
      | false =>
        simp only [cond_false]
        exact ih c
    · simp [ho]

theorem lockOk_iff (k : Lk) : lockOk k = true ↔ OkP k := by
  obtain ⟨w, ths, line⟩ := k
  have h0 := okL_iff line ths 0 0
  simp only [lockOk, Bool.and_eq_true, decide_eq_true_eq]
  constructor
  · rintro ⟨hw, hn, ho⟩
    obtain ⟨h1, h2⟩ := h0.1 ho
    have hsub : ∀ x ∈ idx ths 0, x ∈ line := by
      intro x hx
      obtain ⟨j, t, h3, h4, rfl⟩ := mem_idx.1 hx
      have := (h1 j t h3).2.2.2.2.2.2
      rw [h4] at this
      exact of_decide_eq_true this.symm
    have hp := perm_of_sub (idx_nodup ths 0) hsub (by omega)
    have h8 := hn.1
    have h9 := hn.2
    refine ⟨hw, (show 1 ≤ ths.length ∧ ths.length ≤ 4 by omega), fun i t ht => by simpa using h1 i t ht, hp.nodup_iff.1 (idx_nodup ths 0), fun x hx => ?_⟩
    have := idx_ge (hp.mem_iff.2 hx)
    simpa using this
  · rintro ⟨hw, hn, hth, hnd, hrg⟩
    refine ⟨hw, by have h3 : 1 ≤ ths.length := hn.1; have h4 : ths.length ≤ 4 := hn.2; omega, h0.2 ⟨fun j t hj => by simpa using hth j t hj, ?_⟩⟩
    have hsub : ∀ x ∈ idx ths 0, x ∈ line := by
      intro x hx
      obtain ⟨j, t, h3, h4, rfl⟩ := mem_idx.1 hx
      have := (hth j t h3).2.2.2.2.2.2
      rw [h4] at this
      have := of_decide_eq_true this.symm
      simpa using this
    have hsub2 : ∀ x ∈ line, x ∈ idx ths 0 := by
      intro x hx
      obtain ⟨h3, h4⟩ := hrg x hx
      have h4 : x < ths.length := h4
      obtain ⟨j, rfl⟩ := Int.eq_ofNat_of_zero_le h3
      have hj : j < ths.length := by omega
      have := (hth j _ (List.getElem?_eq_getElem hj)).2.2.2.2.2.2
      exact mem_idx.2 ⟨j, ths[j], List.getElem?_eq_getElem hj, by rw [this]; simpa using hx, by simp⟩
    have h5 : (idx ths 0).length ≤ line.length := len_le_of_sub (idx_nodup ths 0) hsub
    have h6 : line.length ≤ (idx ths 0).length := len_le_of_sub hnd hsub2
    omega

theorem OkP.line {k : Lk} (h : OkP k) : k.2.2.length ≤ 4 := by
  have := len_le_of_sub (L := (List.range k.2.1.length).map (fun i : Nat => (i : Int))) h.nd (fun x hx => by
    obtain ⟨h1, h2⟩ := h.rg x hx
    exact List.mem_map.2 ⟨x.toNat, List.mem_range.2 (by omega), by omega⟩)
  rw [List.length_map, List.length_range] at this
  exact Nat.le_trans this h.n.2

/-! ## a step -/
def canT (t : Th) : Bool := !t.2.2.2 && (decide (0 < t.1) || decide (0 < t.2.2.1))

def stepF (k : Lk) (who : Nat) : Lk :=
  let t := k.2.1.getD who ((0 : Int), (0 : Int), (0 : Int), false)
  if t.1 = 0 then (if k.1 = 0 then (1, k.2.1.set who (4, t.2.1, t.2.2.1, t.2.2.2), k.2.2) else (k.1, k.2.1.set who (1, k.1, t.2.2.1, t.2.2.2), k.2.2))
  else if t.1 = 3 then (if k.1 = 0 then (2, k.2.1.set who (4, t.2.1, t.2.2.1, t.2.2.2), k.2.2) else (k.1, k.2.1.set who (1, k.1, t.2.2.1, t.2.2.2), k.2.2))
  else if t.1 = 1 then (if t.2.1 = 2 then (k.1, k.2.1.set who (2, 0, t.2.2.1, t.2.2.2), k.2.2) else if k.1 = 0 then (k.1, k.2.1.set who (3, 0, t.2.2.1, t.2.2.2), k.2.2) else (2, k.2.1.set who (2, 0, t.2.2.1, t.2.2.2), k.2.2))
  else if t.1 = 2 then (if k.1 = 2 then (k.1, k.2.1.set who (3, t.2.1, t.2.2.1, true), k.2.2 ++ [(who : Int)]) else (k.1, k.2.1.set who (3, t.2.1, t.2.2.1, t.2.2.2), k.2.2))
  else if t.1 = 4 then (if k.1 < 2 then (0, k.2.1.set who (0, t.2.1, t.2.2.1 - 1, t.2.2.2), k.2.2) else (1, k.2.1.set who (5, t.2.1, t.2.2.1, t.2.2.2), k.2.2))
  else if t.1 = 5 then (0, k.2.1.set who (6, t.2.1, t.2.2.1, t.2.2.2), k.2.2)
  else (k.1, (match k.2.2 with | [] => k.2.1 | h :: _ => k.2.1.set h.toNat ((k.2.1.getD h.toNat ((0 : Int), (0 : Int), (0 : Int), false)).1, (k.2.1.getD h.toNat ((0 : Int), (0 : Int), (0 : Int), false)).2.1, (k.2.1.getD h.toNat ((0 : Int), (0 : Int), (0 : Int), false)).2.2.1, false)).set who (0, t.2.1, t.2.2.1 - 1, t.2.2.2), k.2.2.tail)

theorem getD_some {α : Type} {l : List α} {i : Nat} {d : α} (h : i < l.length) : l[i]? = some (l.getD i d) := by
  rw [List.getElem?_eq_getElem h, List.getD_eq_getElem?_getD, List.getElem?_eq_getElem h, Option.getD_some]

theorem p84_eq (n : Nat) (k : Lk) (who : Nat) (hk : OkP k) (hw : who < k.2.1.length) : p84 n k who = some ((stepF k who, ()), ()) := by
  obtain ⟨w, ths, line⟩ := k
  have ho := hk.th who _ (getD_some (d := ((0 : Int), (0 : Int), (0 : Int), false)) hw)
  have hw' : who < ths.length := hw
  have hrg : ∀ x ∈ line, 0 ≤ x ∧ x < ths.length := hk.rg
  obtain ⟨hw0, hw2⟩ : 0 ≤ w ∧ w ≤ 2 := hk.w
  have hll : line.length ≤ 4 := hk.line
  show st84_top n (w, ths, line) who = _
  simp only [st84_top, stepF, toNat_cast]
  obtain ⟨⟨a, s, u, z⟩, ht⟩ : ∃ t, ths.getD who ((0 : Int), (0 : Int), (0 : Int), false) = t := ⟨_, rfl⟩
  simp only [ht] at ho ⊢
  obtain ⟨⟨ha0, ha6⟩, ⟨hs0, hs2⟩, _, ⟨hu0, hu3⟩, _, _, _⟩ := ho
  simp only at ha0 ha6 hs0 hs2 hu0 hu3
  have e1 : IntKind.i64.wrap (u - 1) = u - 1 := wr (by omega) (by omega)
  have e2 : IntKind.i64.wrap (w - 1) = w - 1 := wr (by omega) (by omega)
  have e3 : IntKind.i64.wrap (1 + IntKind.i64.wrap (Int.tdiv 0 3)) = 1 := by decide
  have e4 : IntKind.i64.wrap (1 + IntKind.i64.wrap (Int.tdiv 3 3)) = 2 := by decide
  have e5 : IntKind.i64.wrap (1 + IntKind.i64.wrap 0) = 1 := by decide
  have e6 : IntKind.i64.wrap (1 + IntKind.i64.wrap 1) = 2 := by decide
  have h3 : decide ((0 : Int) ≤ (who : Int)) = true := by simp
  have h4 : decide ((who : Int) < (ths.length : Int)) = true := by simp; omega
  simp only [h3, h4, cond_true, e1, e2]
  rcases (by omega : a = 0 ∨ a = 1 ∨ a = 2 ∨ a = 3 ∨ a = 4 ∨ a = 5 ∨ a = 6) with rfl | rfl | rfl | rfl | rfl | rfl | rfl
  · by_cases h : w = 0 <;> simp [h, e3, e5]
  · by_cases h : s = 2 <;> by_cases h' : w = 0 <;> simp [h, h']
  · have h8 : (line.length + 1) * 8 ≤ 140737488355328 := by omega
    by_cases h : w = 2 <;> simp [h, h8]
  · by_cases h : w = 0 <;> simp [h, e4, e6]
  · by_cases h : w < 2
    · have h5 : w - 1 ≤ 0 := by omega
      simp [h, h5]
    · have h5 : ¬ w - 1 ≤ 0 := by omega
      have h6 : w = 2 := by omega
      simp [h5, h6]
  · simp
  · cases line with
    | nil => simp
    | cons h tl =>
      have hh := hrg h List.mem_cons_self
      have h5 : (1 : Int) ≤ (tl.length : Int) + 1 := by omega
      have h6 : (0 : Int) < (tl.length : Int) + 1 := by omega
      have h7 : tl.length * 8 ≤ 140737488355328 := by simp at hll; omega
      simp [hh.1, hh.2, h5, h6, h7, hw']

theorem getD_set_same {α : Type} {l : List α} {i : Nat} {a d : α} (h : i < l.length) : (l.set i a).getD i d = a := by
  rw [List.getD_eq_getElem?_getD, List.getElem?_set, if_pos rfl, if_pos h, Option.getD_some]
theorem getD_set_ne {α : Type} {l : List α} {i j : Nat} {a d : α} (h : i ≠ j) : (l.set i a).getD j d = l.getD j d := by
  rw [List.getD_eq_getElem?_getD, List.getElem?_set, if_neg h, List.getD_eq_getElem?_getD]

theorem p77_eq (n : Nat) (k : Lk) (h1 : k.2.1.length ≤ 1000000000) (h2 : k.2.2.length ≤ 1000000000) : p77 n k = some ((k, ()), ()) := by
  obtain ⟨w, ths, line⟩ := k
  have h1 : ths.length ≤ 1000000000 := h1
  have h2 : line.length ≤ 1000000000 := h2
  have h3 : (0 + ths.length) * 32 ≤ 140737488355328 := by omega
  have h4 : (0 + line.length) * 8 ≤ 140737488355328 := by omega
  show st77_top n (w, ths, line) = _
  simp only [st77_top, q112, q108, p112, p108, h3, h4, decide_true, cond_true, Option.bind_some]
theorem p83_eq (n : Nat) (k : Lk) (h1 : k.2.1.length ≤ 1000000000) (h2 : k.2.2.length ≤ 1000000000) : p83 n k = some ((k, ()), ()) := by
  obtain ⟨w, ths, line⟩ := k
  have h1 : ths.length ≤ 1000000000 := h1
  have h2 : line.length ≤ 1000000000 := h2
  have h3 : (0 + ths.length) * 32 ≤ 140737488355328 := by omega
  have h4 : (0 + line.length) * 8 ≤ 140737488355328 := by omega
  show st83_top n (w, ths, line) = _
  simp only [st83_top, h3, h4, decide_true, cond_true, Option.bind_some]

theorem p82_eq (n : Nat) (k : Lk) (who : Nat) (hw : who < k.2.1.length) : p82 n k who = some ((canT (k.2.1.getD who ((0 : Int), (0 : Int), (0 : Int), false)), ()), ()) := by
  obtain ⟨w, ths, line⟩ := k
  have hw' : who < ths.length := hw
  show st82_top n (w, ths, line) who = _
  have h3 : decide ((0 : Int) ≤ (who : Int)) = true := by simp
  have h4 : decide ((who : Int) < (ths.length : Int)) = true := by simp; omega
  simp only [st82_top, toNat_cast, h3, h4, cond_true, canT]
  obtain ⟨⟨a, s, u, z⟩, ht⟩ : ∃ t, ths.getD who ((0 : Int), (0 : Int), (0 : Int), false) = t := ⟨_, rfl⟩
  simp only [ht]
  cases z <;> by_cases h : 0 < a <;> simp [h]
theorem p78_eq (n : Nat) (k : Lk) (who : Nat) (hw : who < k.2.1.length) : p78 n k who = some ((canT (k.2.1.getD who ((0 : Int), (0 : Int), (0 : Int), false)), ()), ()) := by
  obtain ⟨w, ths, line⟩ := k
  have hw' : who < ths.length := hw
  show st78_top n (w, ths, line) who = _
  have h3 : decide ((0 : Int) ≤ (who : Int)) = true := by simp
  have h4 : decide ((who : Int) < (ths.length : Int)) = true := by simp; omega
  simp only [st78_top, toNat_cast, h3, h4, cond_true, canT]
  obtain ⟨⟨a, s, u, z⟩, ht⟩ : ∃ t, ths.getD who ((0 : Int), (0 : Int), (0 : Int), false) = t := ⟨_, rfl⟩
  simp only [ht]
  cases z <;> by_cases h : 0 < a <;> simp [h]

theorem p79_eq (n : Nat) (k : Lk) (who : Nat) (hk : OkP k) (hw : who < k.2.1.length) (hc : canT (k.2.1.getD who ((0 : Int), (0 : Int), (0 : Int), false)) = true) : p79 n k who = some ((stepF k who, ()), ()) := by
  have h77 := p77_eq n k (Nat.le_trans hk.n.2 (by decide)) (Nat.le_trans hk.line (by decide))
  obtain ⟨w, ths, line⟩ := k
  have ho := hk.th who _ (getD_some (d := ((0 : Int), (0 : Int), (0 : Int), false)) hw)
  have hw' : who < ths.length := hw
  have hrg : ∀ x ∈ line, 0 ≤ x ∧ x < ths.length := hk.rg
  obtain ⟨hw0, hw2⟩ : 0 ≤ w ∧ w ≤ 2 := hk.w
  have hll : line.length ≤ 4 := hk.line
  show st79_top n (w, ths, line) who = _
  simp only [st79_top, stepF, toNat_cast, q77, h77, Option.bind_some]
  obtain ⟨⟨a, s, u, z⟩, ht⟩ : ∃ t, ths.getD who ((0 : Int), (0 : Int), (0 : Int), false) = t := ⟨_, rfl⟩
  simp only [ht] at ho hc
  obtain ⟨⟨ha0, ha6⟩, ⟨hs0, hs2⟩, _, ⟨hu0, hu3⟩, _, _, hz⟩ := ho
  simp only at ha0 ha6 hs0 hs2 hu0 hu3 hz
  have e1 : IntKind.i64.wrap (u - 1) = u - 1 := wr (by omega) (by omega)
  have h3 : decide ((0 : Int) ≤ (who : Int)) = true := by simp
  have h4 : decide ((who : Int) < (ths.length : Int)) = true := by simp; omega
  have hz' : z = false := by
    simp only [canT] at hc
    cases z
    · rfl
    · cases hc
  subst hz'
  have hnl : (who : Int) ∉ line := of_decide_eq_false hz.symm
  have gs : ∀ x : Th, (ths.set who x).getD who ((0 : Int), (0 : Int), (0 : Int), false) = x := fun x => getD_set_same hw'
  simp only [h3, h4, cond_true, ht, gs, List.set_set, e1]
  rcases (by omega : a = 0 ∨ a = 1 ∨ a = 2 ∨ a = 3 ∨ a = 4 ∨ a = 5 ∨ a = 6) with rfl | rfl | rfl | rfl | rfl | rfl | rfl
  · by_cases h : w = 0 <;> simp [h]
  · by_cases h : s = 2 <;> by_cases h' : w = 0 <;> simp [h, h']
  · have h8 : (line.length + 1) * 8 ≤ 140737488355328 := by omega
    by_cases h : w = 2 <;> simp [h, h8]
  · by_cases h : w = 0 <;> simp [h]
  · by_cases h : w < 2 <;> simp [h]
  · simp
  · cases line with
    | nil => simp
    | cons h tl =>
      have hh := hrg h List.mem_cons_self
      have h5 : (1 : Int) ≤ (tl.length : Int) + 1 := by omega
      have h6 : (0 : Int) < (tl.length : Int) + 1 := by omega
      have hne : h.toNat ≠ who := by
        intro e
        apply hnl
        rw [← e]
        have : (h.toNat : Int) = h := by omega
        rw [this]
        exact List.mem_cons_self
      have g1 : ∀ x : Th, (ths.set h.toNat x).getD who ((0 : Int), (0 : Int), (0 : Int), false) = (6, s, u, false) := fun x => by rw [getD_set_ne hne, ht]
      have g2 : ∀ x y : Th, ((ths.set h.toNat x).set who y).getD who ((0 : Int), (0 : Int), (0 : Int), false) = y := fun x y => getD_set_same (by simpa using hw')
      have g0 : (h :: tl).getD (Int.toNat 0) 0 = h := rfl
      simp only [g0, g1, g2, e1]
      simp [hh.1, hh.2, h5, h6, hw']
end Go.Proofs.Ytpcohpkflkhfbaa.Rx.S
namespace Go.Proofs.Ytpcohpkflkhfbaa.Rx.S
open Go Go.Proofs.Ytpcohpkflkhfbaa.Rx.Pu
set_option linter.unusedVariables false
set_option linter.unusedSimpArgs false

theorem ThOk.line {l l' : List Int} {i : Int} {t : Th} (h : ThOk l i t) (hl : i ∈ l' ↔ i ∈ l) : ThOk l' i t := by
  obtain ⟨h1, h2, h3, h4, h5, h6, h7⟩ := h
  refine ⟨h1, h2, h3, h4, h5, h6, ?_⟩
  rw [h7]
  exact decide_eq_decide.2 hl.symm

theorem OkP.set1 {w w' : Int} {ths : List Th} {line : List Int} (hk : OkP (w, ths, line)) (hw : 0 ≤ w' ∧ w' ≤ 2) {who : Nat} {t' : Th} (ht : ThOk line who t') : OkP (w', ths.set who t', line) := by
  refine ⟨hw, by simpa using hk.n, fun i t hi => ?_, hk.nd, by simpa using hk.rg⟩
  have hi' : (ths.set who t')[i]? = some t := hi
  rw [List.getElem?_set] at hi'
  by_cases h : who = i
  · subst h
    rw [if_pos rfl] at hi'
    split at hi'
    · injection hi' with hi'; subst hi'; exact ht
    · cases hi'
  · rw [if_neg h] at hi'
    exact hk.th i t hi'

theorem step_ok {k : Lk} {who : Nat} (hk : OkP k) (hw : who < k.2.1.length) (hc : canT (k.2.1.getD who ((0 : Int), (0 : Int), (0 : Int), false)) = true) : OkP (stepF k who) := by
  obtain ⟨w, ths, line⟩ := k
  have ho := hk.th who _ (getD_some (d := ((0 : Int), (0 : Int), (0 : Int), false)) hw)
  have hw' : who < ths.length := hw
  have hrg : ∀ x ∈ line, 0 ≤ x ∧ x < ths.length := hk.rg
  obtain ⟨hw0, hw2⟩ : 0 ≤ w ∧ w ≤ 2 := hk.w
  simp only [stepF]
  obtain ⟨⟨a, s, u, z⟩, ht⟩ : ∃ t, ths.getD who ((0 : Int), (0 : Int), (0 : Int), false) = t := ⟨_, rfl⟩
  simp only [ht] at ho hc ⊢
  have ho' := ho
  obtain ⟨⟨ha0, ha6⟩, ⟨hs0, hs2⟩, h3, ⟨hu0, hu3⟩, h5, _, hz⟩ := ho
  simp only at ha0 ha6 hs0 hs2 hu0 hu3 hz h3 h5
  have hz' : z = false := by
    simp only [canT] at hc
    cases z
    · rfl
    · cases hc
  subst hz'
  have hcu : 0 < a ∨ 0 < u := by
    simp only [canT, Bool.not_false, Bool.true_and, Bool.or_eq_true, decide_eq_true_eq] at hc
    exact hc
  have hu1 : 1 ≤ u := by
    rcases hcu with h | h
    · have := h5 h; omega
    · omega
  have mk : ∀ (a' s' u' : Int), 0 ≤ a' → a' ≤ 6 → 0 ≤ s' → s' ≤ 2 → (a' ≠ 1 → s' = 0) → 0 ≤ u' → u' ≤ 3 → (0 < a' → u' ≠ 0) → ThOk line who (a', s', u', false) :=
    fun a' s' u' g1 g2 g3 g4 g5 g6 g7 g8 => ⟨⟨g1, g2⟩, ⟨g3, g4⟩, g5, ⟨g6, g7⟩, g8, (fun h => by cases h), hz⟩
  rcases (by omega : a = 0 ∨ a = 1 ∨ a = 2 ∨ a = 3 ∨ a = 4 ∨ a = 5 ∨ a = 6) with rfl | rfl | rfl | rfl | rfl | rfl | rfl
  · have := h3 (by omega)
    rw [if_pos rfl]
    split
    · exact hk.set1 (by omega) (mk _ _ _ (by omega) (by omega) (by omega) (by omega) (by omega) (by omega) (by omega) (by omega))
    · exact hk.set1 (by omega) (mk _ _ _ (by omega) (by omega) (by omega) (by omega) (by omega) (by omega) (by omega) (by omega))
  · rw [if_neg (by decide), if_neg (by decide), if_pos rfl]
    split
    · exact hk.set1 (by omega) (mk _ _ _ (by omega) (by omega) (by omega) (by omega) (by omega) (by omega) (by omega) (by omega))
    · split
      · exact hk.set1 (by omega) (mk _ _ _ (by omega) (by omega) (by omega) (by omega) (by omega) (by omega) (by omega) (by omega))
      · exact hk.set1 (by omega) (mk _ _ _ (by omega) (by omega) (by omega) (by omega) (by omega) (by omega) (by omega) (by omega))
  · have hs := h3 (by omega)
    subst hs
    rw [if_neg (by decide), if_neg (by decide), if_neg (by decide), if_pos rfl]
    split
    · have hn : (who : Int) ∉ line := of_decide_eq_false hz.symm
      refine ⟨⟨hw0, hw2⟩, by simpa using hk.n, fun i t hi => ?_, ?_, ?_⟩
      · have hi' : (ths.set who (3, 0, u, true))[i]? = some t := hi
        rw [List.getElem?_set] at hi'
        by_cases h : who = i
        · subst h
          rw [if_pos rfl, if_pos hw'] at hi'
          injection hi' with hi'
          subst hi'
          exact ⟨⟨(by decide : (0 : Int) ≤ 3), (by decide : (3 : Int) ≤ 6)⟩, ⟨(by decide : (0 : Int) ≤ 0), (by decide : (0 : Int) ≤ 2)⟩, fun _ => rfl, ⟨hu0, hu3⟩, (fun _ => by show u ≠ 0; omega), fun _ => rfl, by simp⟩
        · rw [if_neg h] at hi'
          refine (hk.th i t hi').line ?_
          have : ¬ ((i : Int) = (who : Int)) := by omega
          simp [this]
      · show (line ++ [(who : Int)]).Nodup
        rw [List.nodup_append]
        refine ⟨hk.nd, by simp, fun x hx y hy e => ?_⟩
        have : y = who := by simpa using hy
        subst this
        subst e
        exact hn hx
      · intro x hx
        have hx' : x ∈ line ++ [(who : Int)] := hx
        rcases List.mem_append.1 hx' with hx' | hx'
        · simpa using hrg x hx'
        · have : x = who := by simpa using hx'
          subst this
          constructor
          · omega
          · simpa using hw'
    · exact hk.set1 (by omega) (mk _ _ _ (by omega) (by omega) (by omega) (by omega) (by omega) (by omega) (by omega) (by omega))
  · have := h3 (by omega)
    rw [if_neg (by decide), if_pos rfl]
    split
    · exact hk.set1 (by omega) (mk _ _ _ (by omega) (by omega) (by omega) (by omega) (by omega) (by omega) (by omega) (by omega))
    · exact hk.set1 (by omega) (mk _ _ _ (by omega) (by omega) (by omega) (by omega) (by omega) (by omega) (by omega) (by omega))
  · have := h3 (by omega)
    rw [if_neg (by decide), if_neg (by decide), if_neg (by decide), if_neg (by decide), if_pos rfl]
    split
    · exact hk.set1 (by omega) (mk _ _ _ (by omega) (by omega) (by omega) (by omega) (by omega) (by omega) (by omega) (by omega))
    · exact hk.set1 (by omega) (mk _ _ _ (by omega) (by omega) (by omega) (by omega) (by omega) (by omega) (by omega) (by omega))
  · have := h3 (by omega)
    rw [if_neg (by decide), if_neg (by decide), if_neg (by decide), if_neg (by decide), if_neg (by decide), if_pos rfl]
    exact hk.set1 (by omega) (mk _ _ _ (by omega) (by omega) (by omega) (by omega) (by omega) (by omega) (by omega) (by omega))
  · have hs := h3 (by omega)
    rw [if_neg (by decide), if_neg (by decide), if_neg (by decide), if_neg (by decide), if_neg (by decide), if_neg (by decide)]
    cases line with
    | nil => exact hk.set1 (by omega) (mk _ _ _ (by omega) (by omega) (by omega) (by omega) (by omega) (by omega) (by omega) (by omega))
    | cons h tl =>
      have hh := hrg h List.mem_cons_self
      have hnd := List.nodup_cons.1 (show (h :: tl).Nodup from hk.nd)
      have hhn : (h.toNat : Int) = h := by omega
      have hhl : h.toNat < ths.length := by omega
      have hoh := hk.th h.toNat _ (getD_some (d := ((0 : Int), (0 : Int), (0 : Int), false)) hhl)
      refine ⟨⟨hw0, hw2⟩, by simpa using hk.n, fun i t hi => ?_, hnd.2, fun x hx => by simpa using hrg x (List.mem_cons_of_mem _ hx)⟩
      have hi' : ((ths.set h.toNat _).set who (0, s, u - 1, false))[i]? = some t := hi
      rw [List.getElem?_set] at hi'
      have hnw : (who : Int) ∉ (h :: tl) := of_decide_eq_false hz.symm
      by_cases hiw : who = i
      · subst hiw
        rw [if_pos rfl, if_pos (by simpa using hw')] at hi'
        injection hi' with hi'
        subst hi'
        have hnt : (who : Int) ∉ tl := fun h => hnw (List.mem_cons_of_mem _ h)
        exact ⟨⟨(by decide : (0 : Int) ≤ 0), (by decide : (0 : Int) ≤ 6)⟩, ⟨hs0, hs2⟩, fun _ => hs, (by show 0 ≤ u - 1 ∧ u - 1 ≤ 3; omega), (fun h => by simp at h), (fun h => by cases h), (by show false = decide ((who : Int) ∈ tl); simp [hnt])⟩
      · rw [if_neg hiw, List.getElem?_set] at hi'
        by_cases hih : h.toNat = i
        · subst hih
          rw [if_pos rfl, if_pos hhl] at hi'
          injection hi' with hi'
          subst hi'
          obtain ⟨g1, g2, g3, g4, g5, g6, g7⟩ := hoh
          refine ⟨g1, g2, g3, g4, g5, (fun h => by cases h), ?_⟩
          show false = decide ((h.toNat : Int) ∈ tl)
          rw [hhn]
          simp [hnd.1]
        · rw [if_neg hih] at hi'
          refine (hk.th i t hi').line ?_
          have : ¬ ((i : Int) = h) := by omega
          show (i : Int) ∈ tl ↔ (i : Int) ∈ h :: tl
          simp [this]

theorem step_len (k : Lk) (who : Nat) : (stepF k who).2.1.length = k.2.1.length := by
  unfold stepF
  simp only
  repeat' split
  all_goals simp
end Go.Proofs.Ytpcohpkflkhfbaa.Rx.S
namespace Go.Proofs.Ytpcohpkflkhfbaa.Rx.S
open Go Go.Proofs.Ytpcohpkflkhfbaa.Rx.Pu
set_option linter.unusedVariables false
set_option linter.unusedSimpArgs false

/-! ## what is drawn -/
def Bys (l : List Int) : Prop := (∀ x ∈ l, 0 ≤ x ∧ x < 256) ∧ l.length ≤ 2000

theorem Bys.get {l : List Int} (h : Bys l) (i : Nat) : 0 ≤ l.getD i 0 ∧ l.getD i 0 < 256 := by
  rw [List.getD_eq_getElem?_getD]
  cases hi : l[i]? with
  | none => simp
  | some x => exact h.1 x (List.mem_of_getElem? hi)

theorem p81_eq (n : Nat) {l : List Int} (hl : Bys l) {pos b : Int} (hp : 0 ≤ pos ∧ pos < 1000000) (hb : 1 ≤ b) :
    ∃ v : Int, p81 n (l, pos) b = some ((v, ()), ((l, pos + 1), ())) ∧ 0 ≤ v ∧ v < b := by
  have e1 : IntKind.i64.wrap (pos + 1) = pos + 1 := wr (by omega) (by omega)
  have e2 : IntKind.i64.wrap (pos + 1 - 1) = pos := (wr (x := pos + 1 - 1) (by omega) (by omega)).trans (by omega)
  have e3 : IntKind.i64.wrap (pos * 7) = pos * 7 := wr (by omega) (by omega)
  have e4 : IntKind.i64.wrap (pos * 7 + 3) = pos * 7 + 3 := wr (by omega) (by omega)
  have e5 : IntKind.i64.wrap (pos * 29) = pos * 29 := wr (by omega) (by omega)
  have hlen := hl.2
  show ∃ v : Int, st81_top n (l, pos) b = _ ∧ _
  have hb1 : ¬ b < 1 := by omega
  have hb2 : ¬ b = 0 := by omega
  simp only [st81_top, e1, e2, e3, e4, e5, hb1, hb2, decide_false, cond_false, Bool.not_false, cond_true]
  by_cases h0 : (l.length : Int) = 0
  · simp only [h0, decide_true, cond_true]
    exact ⟨0, rfl, by omega, by omega⟩
  · have hl1 : (1 : Int) ≤ l.length := by omega
    simp only [h0, decide_false, cond_false, Bool.not_false, cond_true]
    by_cases h1 : pos < (l.length : Int)
    · have hp0 : (0 : Int) ≤ pos := hp.1
      simp only [h1, hp0, decide_true, cond_true]
      have hg := hl.get pos.toNat
      rw [wr (by omega) (by omega)]
      exact ⟨_, rfl, tmod_range hg.1 hb⟩
    · simp only [h1, decide_false, cond_false]
      have t1 := tmod_range (a := pos) (b := l.length) hp.1 hl1
      have t2 := tmod_range (a := pos * 7 + 3) (b := l.length) (by omega) hl1
      have t3 := tdiv_range (a := pos) (b := l.length) hp.1 hl1
      simp only [t1.1, t1.2, t2.1, t2.2, decide_true, cond_true]
      have g1 := hl.get (pos.tmod l.length).toNat
      have g2 := hl.get ((pos * 7 + 3).tmod l.length).toNat
      generalize l.getD (pos.tmod l.length).toNat 0 = y1 at *
      generalize l.getD ((pos * 7 + 3).tmod l.length).toNat 0 = y2 at *
      generalize pos.tdiv l.length = q at *
      have w1 : IntKind.i64.wrap y1 = y1 := wr (by omega) (by omega)
      have w2 : IntKind.i64.wrap (y1 * 131) = y1 * 131 := wr (by omega) (by omega)
      have w3 : IntKind.i64.wrap y2 = y2 := wr (by omega) (by omega)
      have w4 : IntKind.i64.wrap (y2 * 1117) = y2 * 1117 := wr (by omega) (by omega)
      have w5 : IntKind.i64.wrap (y1 * 131 + y2 * 1117) = y1 * 131 + y2 * 1117 := wr (by omega) (by omega)
      have w6 : IntKind.i64.wrap (y1 * 131 + y2 * 1117 + pos * 29) = y1 * 131 + y2 * 1117 + pos * 29 := wr (by omega) (by omega)
      have w7 : IntKind.i64.wrap q = q := wr (by omega) (by omega)
      have w8 : IntKind.i64.wrap (q * 53) = q * 53 := wr (by omega) (by omega)
      have w9 : IntKind.i64.wrap (y1 * 131 + y2 * 1117 + pos * 29 + q * 53) = y1 * 131 + y2 * 1117 + pos * 29 + q * 53 := wr (by omega) (by omega)
      simp only [w1, w2, w3, w4, w5, w6, w7, w8, w9]
      have hS : 0 ≤ y1 * 131 + y2 * 1117 + pos * 29 + q * 53 ∧ y1 * 131 + y2 * 1117 + pos * 29 + q * 53 < 1000000000000 := by omega
      generalize y1 * 131 + y2 * 1117 + pos * 29 + q * 53 = S at *
      have hd := tdiv_range (a := S) (b := 64) hS.1 (by omega)
      have w10 : IntKind.i64.wrap (S.tdiv 64) = S.tdiv 64 := wr (by omega) (by omega)
      simp only [w10]
      exact ⟨_, rfl, tmod_range (xor_small hS.1 (by omega) hd.1 (by omega)) hb⟩

theorem p73_eq (n : Nat) {l : List Int} (hl : ∀ x ∈ l, 0 ≤ x ∧ x < 256) : ∃ l', p73 n l = some (((l', 0), ()), ()) ∧ Bys l' := by
  show ∃ l', st73_top n l = _ ∧ _
  simp only [st73_top]
  by_cases h : (2000 : Int) < l.length
  · have h2 : (2000 : Int) ≤ l.length := by omega
    simp only [h, h2, decide_true, cond_true]
    refine ⟨_, rfl, fun x hx => hl x (List.mem_of_mem_take hx), ?_⟩
    rw [List.length_take]
    exact Nat.min_le_left _ _
  · simp only [h, decide_false, cond_false]
    exact ⟨_, rfl, hl, by omega⟩

/-! ## the same is the same -/
theorem p80_L4_refl (n : Nat) (l : List Int) (hl : l.length < 4611686018427387904) : ∀ (m i : Nat), i ≤ l.length → l.length - i < m → p80_L4 n m l l i = some ((true, ()), ())
  | 0, i, _, h => by omega
  | m + 1, i, hi, h => by
    show st80_L4 n (p80_L4 n m) l l i = _
    simp only [st80_L4]
    by_cases h1 : i < l.length
    · have h2 : decide ((i : Int) < (l.length : Int)) = true := by simp; omega
      have h3 : decide ((0 : Int) ≤ (i : Int)) = true := by simp
      simp only [h2, h3, cond_true, decide_true, Bool.not_true, cond_false]
      rw [wr (by omega) (by omega), show ((i : Int) + 1) = ((i + 1 : Nat) : Int) by omega]
      exact p80_L4_refl n l hl m (i + 1) (by omega) (by omega)
    · have h2 : decide ((i : Int) < (l.length : Int)) = false := by simp; omega
      simp only [h2, cond_false]
theorem p80_refl (n : Nat) (l : List Int) (hl : l.length < 4611686018427387904) (hn : l.length < n) : p80 n l l = some ((true, ()), ()) := by
  show st80_top n (p80_L4 n n) l l = _
  simp only [st80_top, decide_true, Bool.not_true, cond_false]
  exact p80_L4_refl n l hl n 0 (by omega) (by omega)

theorem p26_L4_refl (n : Nat) (w : Int) (ths : List Th) (line : List Int) (hl : ths.length < 4611686018427387904) : ∀ (m i : Nat), i ≤ ths.length → ths.length - i < m → p26_L4 n m i w ths line w ths line = some ((true, ()), ())
  | 0, i, _, h => by omega
  | m + 1, i, hi, h => by
    show st26_L4 n (p26_L4 n m) i w ths line w ths line = _
    simp only [st26_L4]
    by_cases h1 : i < ths.length
    · have h2 : decide ((i : Int) < (ths.length : Int)) = true := by simp; omega
      have h3 : decide ((0 : Int) ≤ (i : Int)) = true := by simp
      simp only [h2, h3, cond_true, decide_true, Bool.not_true, cond_false, BEq.rfl, Bool.and_self]
      rw [wr (by omega) (by omega), show ((i : Int) + 1) = ((i + 1 : Nat) : Int) by omega]
      exact p26_L4_refl n w ths line hl m (i + 1) (by omega) (by omega)
    · have h2 : decide ((i : Int) < (ths.length : Int)) = false := by simp; omega
      simp only [h2, cond_false]
theorem p26_refl (n : Nat) (k : Lk) (h1 : k.2.1.length < 4611686018427387904) (h2 : k.2.2.length < 4611686018427387904) (hn1 : k.2.1.length < n) (hn2 : k.2.2.length < n) : p26 n k k = some ((true, ()), ()) := by
  obtain ⟨w, ths, line⟩ := k
  show st26_top n (p26_L4 n n) (w, ths, line) (w, ths, line) = _
  simp only [st26_top, q80, p80_refl n line h2 hn2, Option.bind_some, decide_true, Bool.not_true, cond_false]
  exact p26_L4_refl n w ths line h1 n 0 (by omega) (by show _ < n; have : ths.length < n := hn1; omega)
end Go.Proofs.Ytpcohpkflkhfbaa.Rx.S
namespace Go.Proofs.Ytpcohpkflkhfbaa.Rx.S
open Go Go.Proofs.Ytpcohpkflkhfbaa.Rx.Pu
set_option linter.unusedVariables false
set_option linter.unusedSimpArgs false

theorem p110_L5_eq (n : Nat) (b x3 w : Int) (line : List Int) (a : Int) (ha : 1 ≤ a ∧ a ≤ 4) : ∀ (m j : Nat) (ths : List Th), j ≤ a.toNat → ths.length ≤ 100 - j → j < m →
    p110_L5 n m a b (a - j) x3 w ths line = some (((w, (ths ++ List.replicate j (0, 0, b, false), line)), (true, ())), ())
  | 0, j, ths, _, _, h => by omega
  | m + 1, j, ths, hj, hl, h => by
    show st110_L5 n (p110_L5 n m) a b (a - j) x3 w ths line = _
    simp only [st110_L5]
    cases j with
    | zero =>
      have h1 : decide (a - ((0 : Nat) : Int) < a) = false := by simp
      simp only [h1, cond_false, List.replicate_zero, List.append_nil]
    | succ j =>
      have h1 : decide (a - ((j + 1 : Nat) : Int) < a) = true := by simp; omega
      have h2 : decide ((ths.length + [((0 : Int), (0 : Int), b, false)].length) * 32 ≤ 140737488355328) = true := by
        simp only [List.length_cons, List.length_nil]
        simp
        omega
      simp only [h1, h2, cond_true]
      rw [wr (by omega) (by omega), show a - ((j + 1 : Nat) : Int) + 1 = a - (j : Nat) by omega, p110_L5_eq n b x3 w line a ha m j _ (by omega) (by simp; omega) (by omega)]
      simp [List.replicate_succ]

theorem p110_eq (n : Nat) (hn : 5 ≤ n) (a b : Int) (ha : 1 ≤ a ∧ a ≤ 4) (hb : 0 ≤ b ∧ b ≤ 3) : p110 n a b = some (((0, (List.replicate a.toNat (0, 0, b, false), [])), (true, ())), ()) := by
  show st110_top n (p110_L5 n n) a b = _
  simp only [st110_top, q57, p57_eq, ha, hb, and_self, decide_true, Option.bind_some, Bool.not_true, cond_false]
  have := p110_L5_eq n b 0 0 [] a ha n a.toNat [] (Nat.le_refl _) (by simp) (by omega)
  rw [show a - (a.toNat : Int) = 0 by omega] at this
  exact this

theorem new_ok (a b : Int) (ha : 1 ≤ a ∧ a ≤ 4) (hb : 0 ≤ b ∧ b ≤ 3) : OkP (0, List.replicate a.toNat (0, 0, b, false), []) := by
  refine ⟨⟨(by decide : (0 : Int) ≤ 0), (by decide : (0 : Int) ≤ 2)⟩, by simp; omega, fun i t ht => ?_, List.nodup_nil, fun x hx => by cases hx⟩
  have ht' : (List.replicate a.toNat ((0 : Int), (0 : Int), b, false))[i]? = some t := ht
  rw [List.getElem?_replicate] at ht'
  split at ht'
  · injection ht' with ht'
    subst ht'
    exact ⟨⟨(by decide : (0 : Int) ≤ 0), (by decide : (0 : Int) ≤ 6)⟩, ⟨(by decide : (0 : Int) ≤ 0), (by decide : (0 : Int) ≤ 2)⟩, fun _ => rfl, hb, (fun h => by simp at h), (fun h => by cases h), by simp⟩
  · cases ht'

theorem p74_L3_eq (n : Nat) {l : List Int} (hl : Bys l) (x3 : Int) : ∀ (m : Nat) (x0 pos : Int) (k : Lk), 0 ≤ x0 → x0 ≤ 1000 → x0.toNat < m → OkP k → 0 ≤ pos → pos + x0 + 2 < 900000 →
    ∃ (k' : Lk) (pos' : Int), p74_L3 n m x0 l pos x3 k.1 k.2.1 k.2.2 = some ((k', ()), ((l, pos'), ())) ∧ k'.2.1.length ≤ 4 ∧ k'.2.2.length ≤ 5 ∧ 0 ≤ pos' ∧ pos' ≤ pos + x0 + 2
  | 0, x0, pos, k, _, _, h, _, _, _ => by omega
  | m + 1, x0, pos, k, h0, h00, h, hk, hp, hp2 => by
    show ∃ (k' : Lk) (pos' : Int), st74_L3 n (p74_L3 n m) x0 l pos x3 k.1 k.2.1 k.2.2 = _ ∧ _
    simp only [st74_L3]
    have hlen := hk.n
    have hline := hk.line
    by_cases h1 : 0 < x0
    · simp only [h1, decide_true, cond_true]
      obtain ⟨v, hv, hv0, hv1⟩ := p81_eq n hl (pos := pos) (b := (k.2.1.length : Int)) (by omega) (by omega)
      obtain ⟨who, rfl⟩ := Int.eq_ofNat_of_zero_le hv0
      have hwho : who < k.2.1.length := by omega
      have hc := p82_eq n k who hwho
      have hcp := p83_eq n k (Nat.le_trans hlen.2 (by decide)) (Nat.le_trans hline (by decide))
      have hs := p84_eq n k who hk hwho
      have e : (k.1, k.2.1, k.2.2) = k := rfl
      simp only [q81, hv, q82, hc, q83, hcp, q84, hs, Option.bind_some, e]
      rw [wr (x := x0 - 1) (by omega) (by omega)]
      cases hcan : canT (k.2.1.getD who ((0 : Int), (0 : Int), (0 : Int), false)) with
      | true =>
        simp only [cond_true]
        obtain ⟨k', pos', h5, h6, h7, h8, h9⟩ := p74_L3_eq n hl x3 m (x0 - 1) (pos + 1) (stepF k who) (by omega) (by omega) (by omega) (step_ok hk hwho hcan) (by omega) (by omega)
        exact ⟨k', pos', h5, h6, h7, h8, by omega⟩
      | false =>
        simp only [cond_false]
        obtain ⟨k', pos', h5, h6, h7, h8, h9⟩ := p74_L3_eq n hl x3 m (x0 - 1) (pos + 1) k (by omega) (by omega) (by omega) hk (by omega) (by omega)
        exact ⟨k', pos', h5, h6, h7, h8, by omega⟩
    · simp only [h1, decide_false, cond_false]
      obtain ⟨v, hv, hv0, hv1⟩ := p81_eq n hl (pos := pos) (b := 24) (by omega) (by omega)
      obtain ⟨v4, hv4, _, _⟩ := p81_eq n hl (pos := pos + 1) (b := 4) (by omega) (by omega)
      obtain ⟨v8, hv8, _, _⟩ := p81_eq n hl (pos := pos + 1) (b := 8) (by omega) (by omega)
      have h5 : (0 : Int) < (k.2.1.length : Int) := by omega
      have h6 : (k.2.2.length + [(0 : Int)].length) * 8 ≤ 140737488355328 := by simp; omega
      simp only [q81, hv, hv4, hv8, Option.bind_some, h5, h6, decide_true, cond_true]
      by_cases c0 : v = 0
      · simp only [c0, decide_true, cond_true]
        exact ⟨_, _, rfl, hlen.2, by show k.2.2.length ≤ 5; omega, by omega, by omega⟩
      · by_cases c1 : v = 1
        · simp only [c1, decide_true, cond_true]
          exact ⟨_, _, rfl, by simpa using hlen.2, by show k.2.2.length ≤ 5; omega, by omega, by omega⟩
        · by_cases c2 : v = 2
          · simp only [c2, decide_true, cond_true]
            exact ⟨_, _, rfl, hlen.2, by simp; omega, by omega, by omega⟩
          · by_cases c3 : v = 3
            · simp only [c3, decide_true, cond_true]
              exact ⟨_, _, rfl, by simpa using hlen.2, by show k.2.2.length ≤ 5; omega, by omega, by omega⟩
            · simp only [c0, c1, c2, c3, decide_false, cond_false]
              exact ⟨_, _, rfl, hlen.2, by show k.2.2.length ≤ 5; omega, by omega, by omega⟩

theorem p74_eq (n : Nat) (hn : 100 ≤ n) {l : List Int} (hl : Bys l) {pos : Int} (hp : 0 ≤ pos ∧ pos < 800000) :
    ∃ (k' : Lk) (pos' : Int), p74 n (l, pos) = some ((k', ()), ((l, pos'), ())) ∧ k'.2.1.length ≤ 4 ∧ k'.2.2.length ≤ 5 ∧ 0 ≤ pos' ∧ pos' ≤ pos + 100 := by
  show ∃ (k' : Lk) (pos' : Int), st74_top n (p74_L3 n n) (l, pos) = _ ∧ _
  obtain ⟨v0, hv0, g0, g1⟩ := p81_eq n hl (pos := pos) (b := 4) (by omega) (by omega)
  obtain ⟨v1, hv1, g2, g3⟩ := p81_eq n hl (pos := pos + 1) (b := 4) (by omega) (by omega)
  obtain ⟨v2, hv2, g4, g5⟩ := p81_eq n hl (pos := pos + 1 + 1) (b := 40) (by omega) (by omega)
  have hnew := p110_eq n (by omega) (1 + v0) v1 (by omega) (by omega)
  have hok := new_ok (1 + v0) v1 (by omega) (by omega)
  have w1 : IntKind.i64.wrap (1 + v0) = 1 + v0 := wr (by omega) (by omega)
  simp only [st74_top, q81, hv0, hv1, hv2, Option.bind_some, w1, q110, hnew]
  obtain ⟨k', pos', h5, h6, h7, h8, h9⟩ := p74_L3_eq n hl 0 n v2 (pos + 1 + 1 + 1) _ (by omega) (by omega) (by omega) hok (by omega) (by omega)
  exact ⟨k', pos', h5, h6, h7, h8, by omega⟩

theorem p22_eq (n : Nat) (hn : 100 ≤ n) {l : List Int} (hl : ∀ x ∈ l, 0 ≤ x ∧ x < 256) : ∃ k' : Lk, p22 n l = some ((k', ()), ()) ∧ k'.2.1.length ≤ 4 ∧ k'.2.2.length ≤ 5 := by
  obtain ⟨l', h1, h2⟩ := p73_eq n hl
  obtain ⟨k', pos', h3, h4, h5, h6, h7⟩ := p74_eq n hn h2 (pos := 0) (by omega)
  refine ⟨k', ?_, h4, h5⟩
  show st22_top n l = _
  simp only [st22_top, q73, h1, q74, h3, Option.bind_some]

theorem p27_eq (n : Nat) (hn : 100 ≤ n) {l : List Int} (hl : ∀ x ∈ l, 0 ≤ x ∧ x < 256) : ∃ (k' : Lk) (who : Int), p27 n l = some ((k', (who, ())), ()) ∧ k'.2.1.length ≤ 4 ∧ k'.2.2.length ≤ 5 := by
  obtain ⟨l', h1, h2⟩ := p73_eq n hl
  obtain ⟨k', pos', h3, h4, h5, h6, h7⟩ := p74_eq n hn h2 (pos := 0) (by omega)
  obtain ⟨v, hv, g0, g1⟩ := p81_eq n h2 (pos := pos') (b := 6) (by omega) (by omega)
  refine ⟨k', IntKind.i64.wrap (v - 1), ?_, h4, h5⟩
  show st27_top n l = _
  simp only [st27_top, q73, h1, q74, h3, q81, hv, Option.bind_some]

theorem p33_L4_eq (n : Nat) (hn : 100 ≤ n) {l : List Int} (hl : Bys l) (x1 : Int) : ∀ (m : Nat) (x0 pos : Int) (o : List Int), 0 ≤ x0 → x0 ≤ 1000 → x0.toNat < m → 0 ≤ pos → pos + 2 * x0 < 700000 → o.length ≤ 2000 - x0.toNat →
    ∃ (k' : Lk) (o' : List Int), p33_L4 n m x0 x1 l pos o = some ((k', (o', ())), ()) ∧ k'.2.1.length ≤ 4 ∧ k'.2.2.length ≤ 5 ∧ o'.length ≤ o.length + x0.toNat
  | 0, x0, pos, o, _, _, h, _, _, _ => by omega
  | m + 1, x0, pos, o, h0, h00, h, hp, hp2, ho => by
    show ∃ (k' : Lk) (o' : List Int), st33_L4 n (p33_L4 n m) x0 x1 l pos o = _ ∧ _
    simp only [st33_L4]
    by_cases h1 : 0 < x0
    · simp only [h1, decide_true, cond_true]
      obtain ⟨v, hv, hv0, hv1⟩ := p81_eq n hl (pos := pos) (b := 5) (by omega) (by omega)
      obtain ⟨v2, hv2, _, _⟩ := p81_eq n hl (pos := pos + 1) (b := 9) (by omega) (by omega)
      have h6 : ∀ x : Int, (o.length + [x].length) * 8 ≤ 140737488355328 := by intro x; simp; omega
      simp only [q81, hv, hv2, Option.bind_some, h6, decide_true, cond_true]
      rw [wr (x := x0 - 1) (by omega) (by omega)]
      obtain ⟨k', o', h5, h6, h7, h8⟩ := p33_L4_eq n hn hl x1 m (x0 - 1) (pos + 1 + 1) (o ++ [IntKind.i64.wrap (v - IntKind.i64.wrap (v2.tdiv 8))]) (by omega) (by omega) (by omega) (by omega) (by omega) (by simp; omega)
      refine ⟨k', o', h5, h6, h7, ?_⟩
      simp at h8
      omega
    · simp only [h1, decide_false, cond_false]
      obtain ⟨k', pos', h3, h4, h5, h6, h7⟩ := p74_eq n hn hl (pos := pos) (by omega)
      simp only [q74, h3, Option.bind_some]
      exact ⟨k', o, rfl, h4, h5, by omega⟩

theorem p33_eq (n : Nat) (hn : 100 ≤ n) {l : List Int} (hl : ∀ x ∈ l, 0 ≤ x ∧ x < 256) : ∃ (k' : Lk) (o : List Int), p33 n l = some ((k', (o, ())), ()) ∧ k'.2.1.length ≤ 4 ∧ k'.2.2.length ≤ 5 ∧ o.length ≤ 40 := by
  obtain ⟨l', h1, h2⟩ := p73_eq n hl
  obtain ⟨v, hv, g0, g1⟩ := p81_eq n h2 (pos := 0) (b := 40) (by omega) (by omega)
  obtain ⟨k', o, h3, h4, h5, h6⟩ := p33_L4_eq n hn h2 0 n v 1 [] (by omega) (by omega) (by omega) (by omega) (by omega) (by simp)
  refine ⟨k', o, ?_, h4, h5, by simp at h6; omega⟩
  show st33_top n (p33_L4 n n) l = _
  simp only [st33_top, q73, h1, q81, hv, Option.bind_some]
  exact h3

theorem p30_L6_eq (n : Nat) {l : List Int} (hl : Bys l) (x1 w : Int) : ∀ (m i : Nat) (pos : Int) (ths : List Th) (line : List Int), ths.length ≤ 4 → i ≤ ths.length → ths.length - i < m → 0 ≤ pos → pos < 800000 + 2 * i → line.length ≤ i →
    ∃ k' : Lk, p30_L6 n m i x1 l pos w ths line = some ((k', ()), ()) ∧ k'.2.1.length ≤ 4 ∧ k'.2.2.length ≤ 5
  | 0, i, pos, ths, line, _, _, h, _, _, _ => by omega
  | m + 1, i, pos, ths, line, h4, hi, h, hp, hp2, hline => by
    show ∃ k' : Lk, st30_L6 n (p30_L6 n m) i x1 l pos w ths line = _ ∧ _
    simp only [st30_L6]
    by_cases h1 : i < ths.length
    · have h2 : decide ((i : Int) < (ths.length : Int)) = true := by simp; omega
      have h3 : decide ((0 : Int) ≤ (i : Int)) = true := by simp
      obtain ⟨v, hv, hv0, hv1⟩ := p81_eq n hl (pos := pos) (b := 3) (by omega) (by omega)
      obtain ⟨v2, hv2, _, _⟩ := p81_eq n hl (pos := pos + 1) (b := 3) (by omega) (by omega)
      have h6 : (line.length + [(i : Int)].length) * 8 ≤ 140737488355328 := by simp; omega
      simp only [h2, h3, cond_true, q81, hv, hv2, Option.bind_some, h6, decide_true, List.length_set]
      rw [wr (x := (i : Int) + 1) (by omega) (by omega), show ((i : Int) + 1) = ((i + 1 : Nat) : Int) by omega]
      by_cases hc : 0 < v
      · simp only [hc, decide_true, cond_true]
        exact p30_L6_eq n hl x1 w m (i + 1) (pos + 1 + 1) _ _ (by simpa using h4) (by simp; omega) (by simp; omega) (by omega) (by omega) (by simp; omega)
      · simp only [hc, decide_false, cond_false]
        exact p30_L6_eq n hl x1 w m (i + 1) (pos + 1) _ _ (by simpa using h4) (by simp; omega) (by simp; omega) (by omega) (by omega) (by omega)
    · have h2 : decide ((i : Int) < (ths.length : Int)) = false := by simp; omega
      simp only [h2, cond_false]
      exact ⟨_, rfl, h4, by show line.length ≤ 5; omega⟩

theorem p30_eq (n : Nat) (hn : 100 ≤ n) {l : List Int} (hl : ∀ x ∈ l, 0 ≤ x ∧ x < 256) : ∃ k' : Lk, p30 n l = some ((k', ()), ()) ∧ k'.2.1.length ≤ 4 ∧ k'.2.2.length ≤ 5 := by
  obtain ⟨l', h1, h2⟩ := p73_eq n hl
  obtain ⟨k', pos', h3, h4, h5, h6, h7⟩ := p74_eq n hn h2 (pos := 0) (by omega)
  obtain ⟨v, hv, g0, g1⟩ := p81_eq n h2 (pos := pos') (b := 3) (by omega) (by omega)
  show ∃ k' : Lk, st30_top n (p30_L6 n n) l = _ ∧ _
  simp only [st30_top, q73, h1, q74, h3, q81, hv, Option.bind_some]
  by_cases hc : v = 0
  · simp only [hc, decide_true, cond_true]
    exact p30_L6_eq n h2 0 k'.1 n 0 (pos' + 1) k'.2.1 [] h4 (by omega) (by omega) (by omega) (by omega) (by simp)
  · simp only [hc, decide_false, cond_false]
    exact ⟨k', rfl, h4, h5⟩
end Go.Proofs.Ytpcohpkflkhfbaa.Rx.S
namespace Go.Proofs.Ytpcohpkflkhfbaa.Rx.S
open Go Go.Proofs.Ytpcohpkflkhfbaa.Rx.Pu
set_option linter.unusedVariables false
set_option linter.unusedSimpArgs false

abbrev dT : Th := ((0 : Int), (0 : Int), (0 : Int), false)

/-! ## a run -/
def canI (k : Lk) (x : Int) : Bool := decide (0 ≤ x ∧ x < k.2.1.length) && canT (k.2.1.getD x.toNat ((0 : Int), (0 : Int), (0 : Int), false))
def runF : Lk → List Int → Int → Lk × Int
  | k, [], c => (k, c)
  | k, x :: xs, c => bif canI k x then runF (stepF k x.toNat) xs (c + 1) else runF k xs c

theorem canI_step {k : Lk} {x : Int} (h : canI k x = true) : ∃ who : Nat, x = who ∧ who < k.2.1.length ∧ canT (k.2.1.getD who ((0 : Int), (0 : Int), (0 : Int), false)) = true := by
  simp only [canI, Bool.and_eq_true, decide_eq_true_eq] at h
  obtain ⟨⟨h1, h2⟩, h3⟩ := h
  exact ⟨x.toNat, by omega, by omega, h3⟩

theorem runF_ok : ∀ {o : List Int} {k : Lk} {c : Int}, OkP k → OkP (runF k o c).1
  | [], k, c, h => h
  | x :: xs, k, c, h => by
    simp only [runF]
    cases hc : canI k x with
    | false => exact runF_ok h
    | true =>
      obtain ⟨who, rfl, h1, h2⟩ := canI_step hc
      exact runF_ok (step_ok h h1 h2)

theorem runF_count : ∀ (o : List Int) (k : Lk) (c : Int), (runF k o c).2 = (runF k o 0).2 + c ∧ (runF k o c).1 = (runF k o 0).1 ∧ 0 ≤ (runF k o 0).2 ∧ (runF k o 0).2 ≤ o.length
  | [], k, c => by simp [runF]
  | x :: xs, k, c => by
    simp only [runF]
    cases canI k x with
    | false =>
      obtain ⟨h1, h2, h3, h4⟩ := runF_count xs k c
      exact ⟨h1, h2, h3, by simp; omega⟩
    | true =>
      simp only [cond_true]
      obtain ⟨h1, h2, h3, h4⟩ := runF_count xs (stepF k x.toNat) (c + 1)
      obtain ⟨g1, g2, g3, g4⟩ := runF_count xs (stepF k x.toNat) (0 + 1)
      have e : ((x :: xs).length : Int) = xs.length + 1 := by simp
      refine ⟨by omega, by rw [h2, g2], by omega, by omega⟩

theorem runF_append : ∀ (a b : List Int) (k : Lk) (c : Int), runF k (a ++ b) c = runF (runF k a c).1 b (runF k a c).2
  | [], b, k, c => rfl
  | x :: xs, b, k, c => by
    simp only [List.cons_append, runF]
    cases canI k x with
    | false => exact runF_append xs b k c
    | true => exact runF_append xs b _ _

theorem p25_L5_eq (n : Nat) (o : List Int) (ho : o.length < 1000000000) (x4 : Int) : ∀ (m i : Nat) (c : Int) (k : Lk), OkP k → i ≤ o.length → o.length - i < m → 0 ≤ c → c ≤ i →
    p25_L5 n m c o o.length i x4 k.1 k.2.1 k.2.2 = some (((runF k (o.drop i) c).1, ((runF k (o.drop i) c).2, ())), ())
  | 0, i, c, k, _, _, h, _, _ => by omega
  | m + 1, i, c, k, hk, hi, h, hc, hc2 => by
    show st25_L5 n (p25_L5 n m) c o o.length i x4 k.1 k.2.1 k.2.2 = _
    have hn := hk.n
    simp only [st25_L5]
    by_cases h1 : i < o.length
    · have h2 : decide ((i : Int) < (o.length : Int)) = true := by simp; omega
      have h3 : decide ((0 : Int) ≤ (i : Int)) = true := by simp
      simp only [h2, h3, cond_true, toNat_cast, q62, p62_eq, Option.bind_some]
      rw [wr (x := (k.2.1.length : Int) - 1) (by omega) (by omega), wr (x := (i : Int) + 1) (by omega) (by omega), wr (x := c + 1) (by omega) (by omega), show ((i : Int) + 1) = ((i + 1 : Nat) : Int) by omega, getD_drop (d := (0 : Int)) h1]
      generalize o.getD i 0 = x
      have e : (k.1, k.2.1, k.2.2) = k := rfl
      by_cases hx : 0 ≤ x ∧ x ≤ (k.2.1.length : Int) - 1
      · obtain ⟨who, rfl⟩ := Int.eq_ofNat_of_zero_le hx.1
        have hwho : who < k.2.1.length := by omega
        have h4 : (0 : Int) ≤ (who : Int) ∧ (who : Int) < k.2.1.length := by omega
        simp only [hx, and_self, decide_true, cond_true, q78, p78_eq n k who hwho, Option.bind_some, runF, canI, h4, toNat_cast, Bool.true_and]
        cases hcan : canT (k.2.1.getD who ((0 : Int), (0 : Int), (0 : Int), false)) with
        | true =>
          simp only [cond_true, q79, p79_eq n k who hk hwho hcan, Option.bind_some]
          exact p25_L5_eq n o ho x4 m (i + 1) (c + 1) (stepF k who) (step_ok hk hwho hcan) (by omega) (by omega) (by omega) (by omega)
        | false =>
          simp only [cond_false]
          exact p25_L5_eq n o ho x4 m (i + 1) c k hk (by omega) (by omega) (by omega) (by omega)
      · have h4 : ¬ (0 ≤ x ∧ x < (k.2.1.length : Int)) := by omega
        simp only [hx, decide_false, cond_false, runF, canI, h4, Bool.false_and]
        exact p25_L5_eq n o ho x4 m (i + 1) c k hk (by omega) (by omega) (by omega) (by omega)
    · have h2 : decide ((i : Int) < (o.length : Int)) = false := by simp; omega
      simp only [h2, cond_false]
      rw [List.drop_eq_nil_of_le (by omega)]
      rfl

theorem p34_L6_eq (n : Nat) (o : List Int) (ho : o.length < 1000000000) (x3 : Int) : ∀ (m i : Nat) (c : Int) (k : Lk), OkP k → i ≤ o.length → o.length - i < m → 0 ≤ c → c ≤ i →
    p34_L6 n m o c i x3 k.1 k.2.1 k.2.2 = some (((runF k (o.drop i) c).1, ((runF k (o.drop i) c).2, ())), ())
  | 0, i, c, k, _, _, h, _, _ => by omega
  | m + 1, i, c, k, hk, hi, h, hc, hc2 => by
    show st34_L6 n (p34_L6 n m) o c i x3 k.1 k.2.1 k.2.2 = _
    have hn := hk.n
    simp only [st34_L6]
    by_cases h1 : i < o.length
    · have h2 : decide ((i : Int) < (o.length : Int)) = true := by simp; omega
      have h3 : decide ((0 : Int) ≤ (i : Int)) = true := by simp
      simp only [h2, h3, cond_true, toNat_cast, q57, p57_eq, Option.bind_some]
      rw [wr (x := (k.2.1.length : Int) - 1) (by omega) (by omega), wr (x := (i : Int) + 1) (by omega) (by omega), wr (x := c + 1) (by omega) (by omega), show ((i : Int) + 1) = ((i + 1 : Nat) : Int) by omega, getD_drop (d := (0 : Int)) h1]
      generalize o.getD i 0 = x
      have e : (k.1, k.2.1, k.2.2) = k := rfl
      by_cases hx : 0 ≤ x ∧ x ≤ (k.2.1.length : Int) - 1
      · obtain ⟨who, rfl⟩ := Int.eq_ofNat_of_zero_le hx.1
        have hwho : who < k.2.1.length := by omega
        have h4 : (0 : Int) ≤ (who : Int) ∧ (who : Int) < k.2.1.length := by omega
        simp only [hx, and_self, decide_true, cond_true, q82, p82_eq n k who hwho, Option.bind_some, runF, canI, h4, toNat_cast, Bool.true_and]
        cases hcan : canT (k.2.1.getD who ((0 : Int), (0 : Int), (0 : Int), false)) with
        | true =>
          simp only [cond_true, q84, p84_eq n k who hk hwho, Option.bind_some]
          exact p34_L6_eq n o ho x3 m (i + 1) (c + 1) (stepF k who) (step_ok hk hwho hcan) (by omega) (by omega) (by omega) (by omega)
        | false =>
          simp only [cond_false]
          exact p34_L6_eq n o ho x3 m (i + 1) c k hk (by omega) (by omega) (by omega) (by omega)
      · have h4 : ¬ (0 ≤ x ∧ x < (k.2.1.length : Int)) := by omega
        simp only [hx, decide_false, cond_false, runF, canI, h4, Bool.false_and]
        exact p34_L6_eq n o ho x3 m (i + 1) c k hk (by omega) (by omega) (by omega) (by omega)
    · have h2 : decide ((i : Int) < (o.length : Int)) = false := by simp; omega
      simp only [h2, cond_false]
      rw [List.drop_eq_nil_of_le (by omega)]
      rfl

def runR (k : Lk) (o : List Int) : Lk × Int := bif lockOk k then runF k o 0 else ((0, [], []), -1)

theorem p25_eq (n : Nat) (k : Lk) (o : List Int) (hl : k.2.2.length < 4611686018427387904) (hn : k.2.2.length < n) (hn2 : 5 ≤ n) (ho : o.length < 1000000000) (ho2 : o.length < n) : p25 n k o = some (((runR k o).1, ((runR k o).2, ())), ()) := by
  show st25_top n (p25_L5 n n) k o = _
  have e : (k.1, k.2.1, k.2.2) = k := rfl
  simp only [st25_top, q23, e, p23_eq n k hl hn hn2, Option.bind_some, runR]
  cases hk : lockOk k with
  | false => rfl
  | true =>
    have hk := (lockOk_iff k).1 hk
    simp only [Bool.not_true, cond_false, cond_true, q77, p77_eq n k (Nat.le_trans hk.n.2 (by decide)) (Nat.le_trans hk.line (by decide)), Option.bind_some]
    have := p25_L5_eq n o ho 0 n 0 0 k hk (by omega) (by omega) (by omega) (by omega)
    rw [List.drop_zero] at this
    exact this
theorem p34_eq (n : Nat) (k : Lk) (o : List Int) (hl : k.2.2.length < 4611686018427387904) (hn : k.2.2.length < n) (hn2 : 5 ≤ n) (ho : o.length < 1000000000) (ho2 : o.length < n) : p34 n k o = some (((runR k o).1, ((runR k o).2, ())), ()) := by
  show st34_top n (p34_L6 n n) k o = _
  have e : (k.1, k.2.1, k.2.2) = k := rfl
  simp only [st34_top, q24, e, p24_eq n k hl hn hn2, Option.bind_some, runR]
  cases hk : lockOk k with
  | false => rfl
  | true =>
    have hk := (lockOk_iff k).1 hk
    simp only [Bool.not_true, cond_false, cond_true, q83, p83_eq n k (Nat.le_trans hk.n.2 (by decide)) (Nat.le_trans hk.line (by decide)), Option.bind_some]
    have := p34_L6_eq n o ho 0 n 0 0 k hk (by omega) (by omega) (by omega) (by omega)
    rw [List.drop_zero] at this
    exact this

theorem law5 (l : List Int) (hl : ∀ x ∈ l, 0 ≤ x ∧ x < 256) : p5 1000 l = some ((true, ()), ()) := by
  show st5_top 1000 l = _
  simp only [st5_top]
  by_cases h : (1048576 : Int) < l.length
  · simp only [h, decide_true, cond_true]
  · obtain ⟨k, h1, h2, h3⟩ := p22_eq 1000 (by omega) hl
    have e : (k.1, k.2.1, k.2.2) = k := rfl
    simp only [h, decide_false, cond_false, q22, h1, Option.bind_some, q23, q24, e, p23_eq 1000 k (by omega) (by omega) (by omega), p24_eq 1000 k (by omega) (by omega) (by omega), BEq.rfl, Bool.not_true, q25, p25_eq 1000 k [] (by omega) (by omega) (by omega) (by simp) (by simp)]
    cases hk : lockOk k with
    | false => simp [runR, hk]
    | true =>
      simp only [runR, hk, cond_true, runF, decide_true, BEq.rfl, Bool.not_true, cond_false, q26, e, p26_refl 1000 k (by omega) (by omega) (by omega) (by omega), Option.bind_some]

/-! ## FnLockRun -/
theorem law8 (l l2 : List Int) (hl : ∀ x ∈ l, 0 ≤ x ∧ x < 256) : p8 1000 l l2 = some ((true, ()), ()) := by
  show st8_top 1000 l l2 = _
  simp only [st8_top]
  by_cases h : (1048576 : Int) < l.length
  · simp only [h, decide_true, cond_true]
  by_cases h' : (1048576 : Int) < l2.length
  · simp only [h, h', decide_true, decide_false, cond_true, cond_false]
  obtain ⟨k, o, h1, h2, h3, h4⟩ := p33_eq 1000 (by omega) hl
  have e : ∀ k : Lk, (k.1, k.2.1, k.2.2) = k := fun _ => rfl
  have r25 := p25_eq 1000 k o (by omega) (by omega) (by omega) (by omega) (by omega)
  have r34 := p34_eq 1000 k o (by omega) (by omega) (by omega) (by omega) (by omega)
  simp only [h, h', decide_false, cond_false, q33, h1, Option.bind_some, q25, q34, e, r25, r34, q26]
  cases hk : lockOk k with
  | false =>
    have e2 : runR k o = ((0, [], []), -1) := by simp only [runR, hk, cond_false]
    simp only [e2, p26_refl 1000 (0, [], []) (by simp) (by simp) (by simp) (by simp), Option.bind_some, cond_true, decide_true, Bool.not_true, cond_false]
    rfl
  | true =>
    have hok := (lockOk_iff k).1 hk
    have hrok := runF_ok (o := o) (c := 0) hok
    have e2 : runR k o = runF k o 0 := by simp only [runR, hk, cond_true]
    have hcnt := runF_count o k 0
    have hr26 : ∀ k' : Lk, OkP k' → p26 1000 k' k' = some ((true, ()), ()) := fun k' hk' => by
      have g1 := hk'.n.2
      have g2 := hk'.line
      exact p26_refl 1000 k' (by omega) (by omega) (by omega) (by omega)
    have w1 : IntKind.i64.wrap ((o.length : Int) + 1) = o.length + 1 := wr (by omega) (by omega)
    have t1 := tmod_range (a := (l2.length : Int)) (b := (o.length : Int) + 1) (by omega) (by omega)
    simp only [e2, hr26 _ hrok, Option.bind_some, cond_true, decide_true, Bool.not_true, cond_false, hcnt.2.2.1, w1]
    have z1 : ¬ ((o.length : Int) + 1 = 0) := by omega
    have z2 : (l2.length : Int).tmod ((o.length : Int) + 1) ≤ (o.length : Int) := by omega
    simp only [z1, z2, t1.1, decide_true, decide_false, Bool.not_false, cond_true]
    obtain ⟨c, hc⟩ := Int.eq_ofNat_of_zero_le t1.1
    rw [hc] at z2
    simp only [hc]
    have s1 : ((c : Int) - 0).toNat = c := by omega
    have s2 : 0 + Int.toNat 0 = 0 := rfl
    have s3 : ((o.length : Int) - (c : Int)).toNat = o.length - c := by omega
    have s4 : 0 + ((c : Int)).toNat = c := by omega
    have s5 : (o.drop c).take (o.length - c) = o.drop c := List.take_of_length_le (by simp)
    simp only [s1, s2, s3, s4, s5, List.drop_zero]
    have q1 := p25_eq 1000 k (o.take c) (by omega) (by omega) (by omega) (by simp; omega) (by simp; omega)
    have e3 : runR k (o.take c) = runF k (o.take c) 0 := by simp only [runR, hk, cond_true]
    have hy := runF_ok (o := o.take c) (c := 0) hok
    have g1 := hy.line
    have q2 := p25_eq 1000 (runF k (o.take c) 0).1 (o.drop c) (by omega) (by omega) (by omega) (by simp; omega) (by simp; omega)
    have e4 : runR (runF k (o.take c) 0).1 (o.drop c) = runF (runF k (o.take c) 0).1 (o.drop c) 0 := by simp only [runR, (lockOk_iff _).2 hy, cond_true]
    have happ := runF_append (o.take c) (o.drop c) k 0
    rw [List.take_append_drop] at happ
    have hc1 := runF_count (o.take c) k 0
    have hc2 := runF_count (o.drop c) (runF k (o.take c) 0).1 (runF k (o.take c) 0).2
    have hz : (runF (runF k (o.take c) 0).1 (o.drop c) 0).1 = (runF k o 0).1 := by rw [happ, hc2.2.1]
    have hz2 : (runF k (o.take c) 0).2 + (runF (runF k (o.take c) 0).1 (o.drop c) 0).2 = (runF k o 0).2 := by rw [happ, hc2.1]; omega
    have w2 : IntKind.i64.wrap ((runF k (o.take c) 0).2 + (runF (runF k (o.take c) 0).1 (o.drop c) 0).2) = (runF k o 0).2 := by rw [hz2]; exact wr (by omega) (by omega)
    have g5 := hrok.line
    simp only [q1, e3, Option.bind_some, q2, e4, hz, hr26 _ hrok, w2, cond_true, decide_true, q23, e, p23_eq 1000 (runF k o 0).1 (by omega) (by omega) (by omega), (lockOk_iff _).2 hrok]
end Go.Proofs.Ytpcohpkflkhfbaa.Rx.S
namespace Go.Proofs.Ytpcohpkflkhfbaa.Rx.S
open Go Go.Proofs.Ytpcohpkflkhfbaa.Rx.Pu
set_option linter.unusedVariables false
set_option linter.unusedSimpArgs false

/-! ## FnLockStep -/
def stepR (k : Lk) (x : Int) : Lk × Bool :=
  bif lockOk k then (bif decide (0 ≤ x ∧ x ≤ (k.2.1.length : Int) - 1) then (bif canI k x then (stepF k x.toNat, true) else (k, false)) else ((0, [], []), false)) else ((0, [], []), false)

theorem p28_eq (n : Nat) (k : Lk) (x : Int) (hl : k.2.2.length < 4611686018427387904) (hn : k.2.2.length < n) (hn2 : 5 ≤ n) : p28 n k x = some (((stepR k x).1, ((stepR k x).2, ())), ()) := by
  show st28_top n k x = _
  have e : (k.1, k.2.1, k.2.2) = k := rfl
  simp only [st28_top, q23, e, p23_eq n k hl hn hn2, Option.bind_some, stepR]
  cases hk : lockOk k with
  | false => rfl
  | true =>
    have hk := (lockOk_iff k).1 hk
    have hn := hk.n
    simp only [Bool.not_true, cond_false, cond_true, q62]
    rw [wr (x := (k.2.1.length : Int) - 1) (by omega) (by omega)]
    simp only [p62_eq, Option.bind_some]
    by_cases hx : 0 ≤ x ∧ x ≤ (k.2.1.length : Int) - 1
    · obtain ⟨who, rfl⟩ := Int.eq_ofNat_of_zero_le hx.1
      have hwho : who < k.2.1.length := by omega
      have h4 : (0 : Int) ≤ (who : Int) ∧ (who : Int) < k.2.1.length := by omega
      simp only [hx, and_self, decide_true, cond_true, Bool.not_true, cond_false, q78, p78_eq n k who hwho, Option.bind_some, canI, h4, toNat_cast, Bool.true_and]
      cases hcan : canT (k.2.1.getD who ((0 : Int), (0 : Int), (0 : Int), false)) with
      | true =>
        simp only [Bool.not_true, cond_false, cond_true, q79, p79_eq n k who hk hwho hcan, Option.bind_some]
      | false =>
        simp only [Bool.not_false, cond_false, cond_true, q77, p77_eq n k (Nat.le_trans hk.n.2 (by decide)) (Nat.le_trans hk.line (by decide)), Option.bind_some]
    · simp only [hx, decide_false, Bool.not_false, cond_true, cond_false]
theorem p29_eq (n : Nat) (k : Lk) (x : Int) (hl : k.2.2.length < 4611686018427387904) (hn : k.2.2.length < n) (hn2 : 5 ≤ n) : p29 n k x = some (((stepR k x).1, ((stepR k x).2, ())), ()) := by
  show st29_top n k x = _
  have e : (k.1, k.2.1, k.2.2) = k := rfl
  simp only [st29_top, q24, e, p24_eq n k hl hn hn2, Option.bind_some, stepR]
  cases hk : lockOk k with
  | false => rfl
  | true =>
    have hk := (lockOk_iff k).1 hk
    have hn := hk.n
    simp only [Bool.not_true, cond_false, cond_true, q57]
    rw [wr (x := (k.2.1.length : Int) - 1) (by omega) (by omega)]
    simp only [p57_eq, Option.bind_some]
    by_cases hx : 0 ≤ x ∧ x ≤ (k.2.1.length : Int) - 1
    · obtain ⟨who, rfl⟩ := Int.eq_ofNat_of_zero_le hx.1
      have hwho : who < k.2.1.length := by omega
      have h4 : (0 : Int) ≤ (who : Int) ∧ (who : Int) < k.2.1.length := by omega
      simp only [hx, and_self, decide_true, cond_true, Bool.not_true, cond_false, q82, p82_eq n k who hwho, Option.bind_some, canI, h4, toNat_cast, Bool.true_and, q83, p83_eq n k (Nat.le_trans hk.n.2 (by decide)) (Nat.le_trans hk.line (by decide)), q84, e, p84_eq n k who hk hwho]
      cases hcan : canT (k.2.1.getD who ((0 : Int), (0 : Int), (0 : Int), false)) <;> rfl
    · simp only [hx, decide_false, Bool.not_false, cond_true, cond_false]

/-- of the other threads one is woken at most -/
theorem step_other (k : Lk) (who : Nat) : ∃ h : Nat, ∀ i, i ≠ who → (stepF k who).2.1.getD i ((0 : Int), (0 : Int), (0 : Int), false) = k.2.1.getD i ((0 : Int), (0 : Int), (0 : Int), false) ∨
    (i = h ∧ (stepF k who).2.1.getD i ((0 : Int), (0 : Int), (0 : Int), false) = ((k.2.1.getD i ((0 : Int), (0 : Int), (0 : Int), false)).1, (k.2.1.getD i ((0 : Int), (0 : Int), (0 : Int), false)).2.1, (k.2.1.getD i ((0 : Int), (0 : Int), (0 : Int), false)).2.2.1, false)) := by
  obtain ⟨w, ths, line⟩ := k
  have left : ∀ (x : Th) (i : Nat), i ≠ who → (ths.set who x).getD i ((0 : Int), (0 : Int), (0 : Int), false) = ths.getD i ((0 : Int), (0 : Int), (0 : Int), false) := fun x i hi => getD_set_ne (fun e => hi e.symm)
  unfold stepF
  simp only
  repeat' split
  all_goals try (exact ⟨0, fun i hi => .inl (left _ i hi)⟩)
  rename_i h _
  refine ⟨h.toNat, fun i hi => ?_⟩
  rw [getD_set_ne (fun e => hi e.symm)]
  by_cases hh : h.toNat = i
  · subst hh
    by_cases hl : h.toNat < ths.length
    · rw [getD_set_same hl]
      exact .inr ⟨rfl, rfl⟩
    · left
      rw [List.set_eq_of_length_le (by omega)]
  · rw [getD_set_ne hh]
    exact .inl rfl

theorem eqTh (a b : Th) : (decide (a.1 = b.1) && (decide (a.2.1 = b.2.1) && (decide (a.2.2.1 = b.2.2.1) && (a.2.2.2 == b.2.2.2 && true)))) = decide (a = b) := by
  obtain ⟨a1, a2, a3, a4⟩ := a
  obtain ⟨b1, b2, b3, b4⟩ := b
  by_cases h1 : a1 = b1 <;> by_cases h2 : a2 = b2 <;> by_cases h3 : a3 = b3 <;> cases a4 <;> cases b4 <;> simp [h1, h2, h3]

theorem p6_L11_eq (n : Nat) (hn : 100 ≤ n) (who : Nat) (w0 w1 : Int) (ths ths' : List Th) (line line' : List Int) (hlen : ths.length ≤ 4) (hll : ths'.length = ths.length) (hl4 : line'.length ≤ 4) (hok : lockOk (w1, ths', line') = true) (h : Nat)
    (hd : ∀ i, i ≠ who → ths'.getD i ((0 : Int), (0 : Int), (0 : Int), false) = ths.getD i ((0 : Int), (0 : Int), (0 : Int), false) ∨ (i = h ∧ ths'.getD i ((0 : Int), (0 : Int), (0 : Int), false) = ((ths.getD i ((0 : Int), (0 : Int), (0 : Int), false)).1, (ths.getD i ((0 : Int), (0 : Int), (0 : Int), false)).2.1, (ths.getD i ((0 : Int), (0 : Int), (0 : Int), false)).2.2.1, false))) :
    ∀ (m i : Nat) (c : Int), i ≤ ths.length → ths.length - i < m → 0 ≤ c → c ≤ (if h < i then 1 else 0) → p6_L11 n m who c i w0 w1 ths line ths' line' = some ((true, ()), ())
  | 0, i, c, _, h1, _, _ => by omega
  | m + 1, i, c, hi, hm, hc0, hc => by
    show st6_L11 n (p6_L11 n m) who c i w0 w1 ths line ths' line' = _
    simp only [st6_L11]
    by_cases h1 : i < ths.length
    · have h2 : decide ((i : Int) < (ths.length : Int)) = true := by simp; omega
      have h2' : decide ((i : Int) < (ths'.length : Int)) = true := by simp; omega
      have h3 : decide ((0 : Int) ≤ (i : Int)) = true := by simp
      have hcb : c ≤ 1 := by split at hc <;> omega
      simp only [h2, h2', h3, cond_true, toNat_cast]
      rw [wr (x := (i : Int) + 1) (by omega) (by omega), wr (x := c + 1) (by omega) (by omega), show ((i : Int) + 1) = ((i + 1 : Nat) : Int) by omega]
      have next : ∀ c' : Int, 0 ≤ c' → c' ≤ (if h < i + 1 then 1 else 0) → p6_L11 n m who c' ((i + 1 : Nat) : Int) w0 w1 ths line ths' line' = some ((true, ()), ()) := fun c' h5 h6 =>
        p6_L11_eq n hn who w0 w1 ths ths' line line' hlen hll hl4 hok h hd m (i + 1) c' (by omega) (by omega) h5 h6
      have hsame : c ≤ (if h < i + 1 then 1 else 0) := by
        split at hc
        · rw [if_pos (by omega)]; exact hc
        · split <;> omega
      by_cases hw : (i : Int) = (who : Int)
      · simp only [hw, decide_true, Bool.not_true, cond_false]
        exact next c hc0 hsame
      · have hiw : i ≠ who := fun e => hw (by rw [e])
        simp only [hw, decide_false, Bool.not_false, cond_true]
        have e1 := eqTh (ths.getD i ((0 : Int), (0 : Int), (0 : Int), false)) (ths'.getD i ((0 : Int), (0 : Int), (0 : Int), false))
        rw [e1]
        rcases hd i hiw with hd2 | ⟨rfl, hd2⟩
        · simp only [hd2, decide_true, Bool.not_true, cond_false]
          exact next c hc0 hsame
        · by_cases hq : ths.getD i ((0 : Int), (0 : Int), (0 : Int), false) = ths'.getD i ((0 : Int), (0 : Int), (0 : Int), false)
          · simp only [hq, decide_true, Bool.not_true, cond_false]
            exact next c hc0 hsame
          · simp only [hq, decide_false, Bool.not_false, cond_true]
            simp only [hd2, decide_true, BEq.rfl, Bool.and_self, Bool.not_true, cond_false]
            refine next (c + 1) (by omega) ?_
            rw [if_neg (by omega)] at hc
            rw [if_pos (by omega)]
            omega
    · have h2 : decide ((i : Int) < (ths.length : Int)) = false := by simp; omega
      have hcb : c ≤ 1 := by split at hc <;> omega
      simp only [h2, cond_false, hcb, decide_true, cond_true, q23, p23_eq n (w1, ths', line') (by show line'.length < _; omega) (by show line'.length < _; omega) (by omega), Option.bind_some, hok]

theorem law6 (l : List Int) (hl : ∀ x ∈ l, 0 ≤ x ∧ x < 256) : p6 1000 l = some ((true, ()), ()) := by
  show st6_top 1000 (p6_L11 1000 1000) l = _
  simp only [st6_top]
  by_cases h : (1048576 : Int) < l.length
  · simp only [h, decide_true, cond_true]
  obtain ⟨k, x, h1, h2, h3⟩ := p27_eq 1000 (by omega) hl
  have e : ∀ k : Lk, (k.1, k.2.1, k.2.2) = k := fun _ => rfl
  simp only [h, decide_false, cond_false, q27, h1, Option.bind_some, q28, q29, e, p28_eq 1000 k x (by omega) (by omega) (by omega), p29_eq 1000 k x (by omega) (by omega) (by omega), q26]
  have hz : p26 1000 ((0, [], []) : Lk) (0, [], []) = some ((true, ()), ()) := p26_refl 1000 (0, [], []) (by simp) (by simp) (by simp) (by simp)
  have hkk : p26 1000 k k = some ((true, ()), ()) := p26_refl 1000 k (by omega) (by omega) (by omega) (by omega)
  simp only [stepR]
  cases hk : lockOk k with
  | false => simp only [cond_false, hz, Option.bind_some, cond_true, BEq.rfl, Bool.not_true, Bool.not_false]
  | true =>
    have hok := (lockOk_iff k).1 hk
    simp only [cond_true]
    by_cases hx : 0 ≤ x ∧ x ≤ (k.2.1.length : Int) - 1
    · simp only [hx, and_self, decide_true, cond_true]
      cases hc : canI k x with
      | false => simp only [cond_false, hkk, Option.bind_some, cond_true, BEq.rfl, Bool.not_true, Bool.not_false]
      | true =>
        obtain ⟨who, rfl, hw, hct⟩ := canI_step hc
        have hs := step_ok hok hw hct
        have g1 := hs.n.2
        have g2 := hs.line
        simp only [cond_true, toNat_cast, p26_refl 1000 (stepF k who) (by omega) (by omega) (by omega) (by omega), Option.bind_some, BEq.rfl, Bool.not_true, cond_false]
        obtain ⟨hh, hd⟩ := step_other k who
        exact p6_L11_eq 1000 (by omega) who k.1 (stepF k who).1 k.2.1 (stepF k who).2.1 k.2.2 (stepF k who).2.2 h2 (step_len k who) g2 ((lockOk_iff _).2 hs) hh hd 1000 0 0 (by omega) (by omega) (by omega) (by split <;> omega)
    · simp only [hx, decide_false, cond_false, hz, Option.bind_some, cond_true, BEq.rfl, Bool.not_true, Bool.not_false]

/-! ## FnLockStuck -/
def noneF : List Th → Bool
  | [] => true
  | t :: ts => !canT t && noneF ts
theorem noneF_get : ∀ {ths : List Th} {i : Nat}, noneF ths = true → i < ths.length → canT (ths.getD i ((0 : Int), (0 : Int), (0 : Int), false)) = false
  | [], i, _, h => by simp at h
  | t :: ts, 0, h, _ => by simp only [noneF, Bool.and_eq_true, Bool.not_eq_true'] at h; exact h.1
  | t :: ts, i + 1, h, hi => by
    simp only [noneF, Bool.and_eq_true] at h
    exact noneF_get (ths := ts) (i := i) h.2 (by simpa using hi)
def stuckF (k : Lk) : Bool := lockOk k && (decide (0 < (k.2.2.length : Int)) && noneF k.2.1)

theorem p31_L4_eq (n : Nat) (k : Lk) (h4 : k.2.1.length ≤ 4) : ∀ (m i : Nat), i ≤ k.2.1.length → k.2.1.length - i < m → p31_L4 n m k.2.1.length i k.1 k.2.1 k.2.2 = some ((noneF (k.2.1.drop i), ()), ())
  | 0, i, _, h => by omega
  | m + 1, i, hi, h => by
    show st31_L4 n (p31_L4 n m) k.2.1.length i k.1 k.2.1 k.2.2 = _
    have e : (k.1, k.2.1, k.2.2) = k := rfl
    simp only [st31_L4]
    by_cases h1 : i < k.2.1.length
    · have h2 : decide ((i : Int) < (k.2.1.length : Int)) = true := by simp; omega
      simp only [h2, cond_true, q78, e, p78_eq n k i h1, Option.bind_some]
      rw [wr (x := (i : Int) + 1) (by omega) (by omega), show ((i : Int) + 1) = ((i + 1 : Nat) : Int) by omega, getD_drop (d := ((0 : Int), (0 : Int), (0 : Int), false)) h1]
      simp only [noneF]
      cases canT (k.2.1.getD i ((0 : Int), (0 : Int), (0 : Int), false)) with
      | true => rfl
      | false => exact p31_L4_eq n k h4 m (i + 1) (by omega) (by omega)
    · have h2 : decide ((i : Int) < (k.2.1.length : Int)) = false := by simp; omega
      simp only [h2, cond_false]
      rw [List.drop_eq_nil_of_le (by omega)]
      rfl
theorem p85_L2_eq (n : Nat) (k : Lk) (h4 : k.2.1.length ≤ 4) : ∀ (m i : Nat), i ≤ k.2.1.length → k.2.1.length - i < m → p85_L2 n m i k.1 k.2.1 k.2.2 = some ((noneF (k.2.1.drop i) && decide (0 < (k.2.2.length : Int)), ()), ())
  | 0, i, _, h => by omega
  | m + 1, i, hi, h => by
    show st85_L2 n (p85_L2 n m) i k.1 k.2.1 k.2.2 = _
    have e : (k.1, k.2.1, k.2.2) = k := rfl
    simp only [st85_L2]
    by_cases h1 : i < k.2.1.length
    · have h2 : decide ((i : Int) < (k.2.1.length : Int)) = true := by simp; omega
      simp only [h2, cond_true, q82, e, p82_eq n k i h1, Option.bind_some]
      rw [wr (x := (i : Int) + 1) (by omega) (by omega), show ((i : Int) + 1) = ((i + 1 : Nat) : Int) by omega, getD_drop (d := ((0 : Int), (0 : Int), (0 : Int), false)) h1]
      simp only [noneF]
      cases canT (k.2.1.getD i ((0 : Int), (0 : Int), (0 : Int), false)) with
      | true => rfl
      | false => exact p85_L2_eq n k h4 m (i + 1) (by omega) (by omega)
    · have h2 : decide ((i : Int) < (k.2.1.length : Int)) = false := by simp; omega
      simp only [h2, cond_false]
      rw [List.drop_eq_nil_of_le (by omega)]
      rfl
theorem p31_eq (n : Nat) (k : Lk) (hl : k.2.2.length < 4611686018427387904) (hn : k.2.2.length < n) (hn2 : 5 ≤ n) : p31 n k = some ((stuckF k, ()), ()) := by
  show st31_top n (p31_L4 n n) k = _
  have e : (k.1, k.2.1, k.2.2) = k := rfl
  simp only [st31_top, q23, e, p23_eq n k hl hn hn2, Option.bind_some, stuckF]
  cases hk : lockOk k with
  | false => rfl
  | true =>
    have hok := (lockOk_iff k).1 hk
    have h4 := hok.n.2
    simp only [Bool.not_true, cond_false, Bool.true_and]
    by_cases hz : (k.2.2.length : Int) = 0
    · simp [hz]
    · have hz2 : (0 : Int) < k.2.2.length := by omega
      simp only [hz, hz2, decide_true, decide_false, cond_false, Bool.true_and]
      have := p31_L4_eq n k h4 n 0 (by omega) (by omega)
      rw [List.drop_zero] at this
      exact this
theorem p32_eq (n : Nat) (k : Lk) (hl : k.2.2.length < 4611686018427387904) (hn : k.2.2.length < n) (hn2 : 5 ≤ n) : p32 n k = some ((stuckF k, ()), ()) := by
  show st32_top n k = _
  have e : (k.1, k.2.1, k.2.2) = k := rfl
  simp only [st32_top, q24, e, p24_eq n k hl hn hn2, Option.bind_some, stuckF]
  cases hk : lockOk k with
  | false => rfl
  | true =>
    have hok := (lockOk_iff k).1 hk
    have h4 := hok.n.2
    have := p85_L2_eq n k h4 n 0 (by omega) (by omega)
    rw [List.drop_zero] at this
    have h85 : p85 n k = some ((noneF k.2.1 && decide (0 < (k.2.2.length : Int)), ()), ()) := this
    simp only [cond_true, q85, h85, Option.bind_some, Bool.true_and, Bool.and_comm]

theorem p7_L10_eq (n : Nat) (hn : 100 ≤ n) (k : Lk) (hk : OkP k) (hnone : noneF k.2.1 = true) (hpos : 0 < (k.2.2.length : Int)) : ∀ (m i : Nat), i ≤ k.2.1.length → k.2.1.length - i < m → p7_L10 n m i k.1 k.2.1 k.2.2 = some ((true, ()), ())
  | 0, i, _, h => by omega
  | m + 1, i, hi, h => by
    show st7_L10 n (p7_L10 n m) i k.1 k.2.1 k.2.2 = _
    have e : (k.1, k.2.1, k.2.2) = k := rfl
    have h4 := hk.n.2
    have hl := hk.line
    simp only [st7_L10]
    by_cases h1 : i < k.2.1.length
    · have h2 : decide ((i : Int) < (k.2.1.length : Int)) = true := by simp; omega
      have hnc := noneF_get hnone h1
      have hs : (stepR k i).2 = false := by
        have hc : canI k i = false := by simp only [canI, toNat_cast, hnc, Bool.and_false]
        simp only [stepR, hc, cond_false]
        cases lockOk k <;> cases decide ((0 : Int) ≤ (i : Int) ∧ (i : Int) ≤ (k.2.1.length : Int) - 1) <;> rfl
      simp only [h2, cond_true, q28, e, p28_eq n k i (by omega) (by omega) (by omega), Option.bind_some, hs, cond_false]
      rw [wr (x := (i : Int) + 1) (by omega) (by omega), show ((i : Int) + 1) = ((i + 1 : Nat) : Int) by omega]
      exact p7_L10_eq n hn k hk hnone hpos m (i + 1) (by omega) (by omega)
    · have h2 : decide ((i : Int) < (k.2.1.length : Int)) = false := by simp; omega
      simp only [h2, cond_false, hpos, decide_true]

theorem law7 (l : List Int) (hl : ∀ x ∈ l, 0 ≤ x ∧ x < 256) : p7 1000 l = some ((true, ()), ()) := by
  show st7_top 1000 (p7_L10 1000 1000) l = _
  simp only [st7_top]
  by_cases h : (1048576 : Int) < l.length
  · simp only [h, decide_true, cond_true]
  obtain ⟨k, h1, h2, h3⟩ := p30_eq 1000 (by omega) hl
  have e : ∀ k : Lk, (k.1, k.2.1, k.2.2) = k := fun _ => rfl
  simp only [h, decide_false, cond_false, q30, h1, Option.bind_some, q31, q32, e, p31_eq 1000 k (by omega) (by omega) (by omega), p32_eq 1000 k (by omega) (by omega) (by omega), BEq.rfl, Bool.not_true]
  cases hs : stuckF k with
  | false => rfl
  | true =>
    simp only [Bool.not_true, cond_false]
    simp only [stuckF, Bool.and_eq_true, decide_eq_true_eq] at hs
    exact p7_L10_eq 1000 (by omega) k ((lockOk_iff k).1 hs.1) hs.2.2 hs.2.1 1000 0 (by omega) (by omega)
end Go.Proofs.Ytpcohpkflkhfbaa.Rx.S
namespace Go.Proofs.Ytpcohpkflkhfbaa.Rx.S
open Go Go.Proofs.Ytpcohpkflkhfbaa.Rx.Pu
theorem u8_wf {x : Int} (h : (Lit.int .u8 x).wf = true) : 0 ≤ x ∧ x < 256 := by
  simp only [Lit.wf, Bool.and_eq_true, decide_eq_true_eq, IntKind.min, IntKind.max, IntKind.signed, IntKind.bits, Bool.false_eq_true, if_false] at h
  omega
theorem bytes_wf {xs : List Int} (h : WfT (.row 5 (.int .u8)) xs) : ∀ x ∈ xs, 0 ≤ x ∧ x < 256 := fun x hx => u8_wf (h.2 x hx)

theorem pure5 (l : List Int) (h : WfT (.row 5 (.int .u8)) l) : ∃ n o, q5 n (l, ()) = some ((true, ()), o) := ⟨1000, (), law5 l (bytes_wf h)⟩
theorem pure6 (l : List Int) (h : WfT (.row 5 (.int .u8)) l) : ∃ n o, q6 n (l, ()) = some ((true, ()), o) := ⟨1000, (), law6 l (bytes_wf h)⟩
theorem pure7 (l : List Int) (h : WfT (.row 5 (.int .u8)) l) : ∃ n o, q7 n (l, ()) = some ((true, ()), o) := ⟨1000, (), law7 l (bytes_wf h)⟩
theorem pure8 (l l2 : List Int) (h : WfT (.row 5 (.int .u8)) l) (h2 : WfT (.row 5 (.int .u8)) l2) : ∃ n o, q8 n (l, l2, ()) = some ((true, ()), o) := ⟨1000, (), law8 l l2 (bytes_wf h)⟩
end Go.Proofs.Ytpcohpkflkhfbaa.Rx.S
namespace Go.Proofs.Ytpcohpkflkhfbaa.Rx.Pu
open Go
set_option linter.unusedVariables false
set_option linter.unusedSimpArgs false

/-! Loops over lists: copying, comparing with itself, marking, holding against the marks. -/
theorem copy_loop {α β γ : Type} (F : Nat → List α → Int → List β → γ) (R : List β → γ) (g : α → β) (da : α) (xs : List α)
    (hF : ∀ k (i : Nat) (acc : List β), i < xs.length → acc.length = xs.length → F (k + 1) xs i acc = F k xs ((i + 1 : Nat) : Int) (acc.set i (g (xs.getD i da))))
    (hE : ∀ k acc, F (k + 1) xs (xs.length : Int) acc = R acc) : ∀ (d k i : Nat) (acc : List β), acc.length = xs.length → i + d = xs.length → d < k → (∀ j, j < i → acc[j]? = (xs.map g)[j]?) → F k xs i acc = R (xs.map g) := by
  intro d
  induction d with
  | zero =>
    intro k i acc hl hd hk hj
    obtain ⟨k, rfl⟩ : ∃ m, k = m + 1 := ⟨k - 1, by omega⟩
    have hi : i = xs.length := by omega
    subst hi
    rw [hE]
    congr 1
    apply List.ext_getElem?
    intro j
    rcases Nat.lt_or_ge j xs.length with h | h
    · exact hj j h
    · rw [List.getElem?_eq_none (by omega), List.getElem?_eq_none (by simp; omega)]
  | succ d ih =>
    intro k i acc hl hd hk hj
    obtain ⟨k, rfl⟩ : ∃ m, k = m + 1 := ⟨k - 1, by omega⟩
    rw [hF k i acc (by omega) hl]
    refine ih k (i + 1) _ (by simp [hl]) (by omega) (by omega) (fun j hji => ?_)
    rcases Nat.lt_or_ge j i with h | h
    · rw [List.getElem?_set_ne (by omega)]
      exact hj j h
    · obtain rfl : j = i := by omega
      rw [List.getElem?_set_self (by omega)]
      simp [List.getD_eq_getElem?_getD, List.getElem?_eq_getElem (show j < xs.length by omega)]

theorem round_loop {γ : Type} (F : Nat → Int → γ) (r : γ) (n : Nat) (hF : ∀ k (i : Nat), i < n → F (k + 1) i = F k ((i + 1 : Nat) : Int)) (hE : ∀ k, F (k + 1) (n : Int) = r) : ∀ (d k i : Nat), i + d = n → d < k → F k i = r := by
  intro d
  induction d with
  | zero =>
    intro k i hd hk
    obtain ⟨k, rfl⟩ : ∃ m, k = m + 1 := ⟨k - 1, by omega⟩
    have hi : i = n := by omega
    subst hi
    exact hE k
  | succ d ih =>
    intro k i hd hk
    obtain ⟨k, rfl⟩ : ∃ m, k = m + 1 := ⟨k - 1, by omega⟩
    rw [hF k i (by omega)]
    exact ih k (i + 1) (by omega) (by omega)

/-- what marks are: from m on, s of them an element -/
def marks {α : Type} (f : Int → α) (s m : Int) (n : Nat) : List α := (List.range n).map fun (j : Nat) => f (m + s * j)
theorem marks_length {α : Type} (f : Int → α) (s m : Int) (n : Nat) : (marks f s m n).length = n := by simp [marks]
theorem marks_getD {α : Type} (f : Int → α) (s m : Int) (n j : Nat) (h : j < n) (d : α) : (marks f s m n).getD j d = f (m + s * j) := by
  simp [marks, List.getD_eq_getElem?_getD, h]

theorem mark_loop {α γ : Type} (F : Nat → Int → Int → List α → γ) (R : Int → List α → γ) (f : Int → α) (s m0 : Int) (n : Nat)
    (hF : ∀ k (i : Nat) (xs : List α), i < n → xs.length = n → F (k + 1) (m0 + s * i) i xs = F k (m0 + s * ((i + 1 : Nat) : Int)) ((i + 1 : Nat) : Int) (xs.set i (f (m0 + s * i))))
    (hE : ∀ k (xs : List α), xs.length = n → F (k + 1) (m0 + s * n) n xs = R (m0 + s * n) xs) : ∀ (d k i : Nat) (xs : List α), xs.length = n → i + d = n → d < k → (∀ j, j < i → xs[j]? = (marks f s m0 n)[j]?) →
    F k (m0 + s * i) i xs = R (m0 + s * n) (marks f s m0 n) := by
  intro d
  induction d with
  | zero =>
    intro k i xs hl hd hk hj
    obtain ⟨k, rfl⟩ : ∃ m, k = m + 1 := ⟨k - 1, by omega⟩
    have hin : i = n := by omega
    subst hin
    rw [hE k xs hl]
    congr 1
    apply List.ext_getElem?
    intro j
    rcases Nat.lt_or_ge j i with h | h
    · exact hj j h
    · rw [List.getElem?_eq_none (by omega), List.getElem?_eq_none (by rw [marks_length]; omega)]
  | succ d ih =>
    intro k i xs hl hd hk hj
    obtain ⟨k, rfl⟩ : ∃ m, k = m + 1 := ⟨k - 1, by omega⟩
    rw [hF k i xs (by omega) hl]
    refine ih k (i + 1) _ (by simp [hl]) (by omega) (by omega) (fun j hji => ?_)
    rcases Nat.lt_or_ge j i with h | h
    · rw [List.getElem?_set_ne (by omega)]
      exact hj j h
    · obtain rfl : j = i := by omega
      rw [List.getElem?_set_self (by omega)]
      simp [marks, show j < n by omega]

theorem held_loop {γ : Type} (F : Nat → Int → Int → γ) (R : Int → γ) (s m0 : Int) (n : Nat)
    (hF : ∀ k (i : Nat), i < n → F (k + 1) (m0 + s * i) i = F k (m0 + s * ((i + 1 : Nat) : Int)) ((i + 1 : Nat) : Int)) (hE : ∀ k, F (k + 1) (m0 + s * n) n = R (m0 + s * n)) : ∀ (d k i : Nat), i + d = n → d < k → F k (m0 + s * i) i = R (m0 + s * n) := by
  intro d
  induction d with
  | zero =>
    intro k i hd hk
    obtain ⟨k, rfl⟩ : ∃ m, k = m + 1 := ⟨k - 1, by omega⟩
    have hin : i = n := by omega
    subst hin
    exact hE k
  | succ d ih =>
    intro k i hd hk
    obtain ⟨k, rfl⟩ : ∃ m, k = m + 1 := ⟨k - 1, by omega⟩
    rw [hF k i (by omega)]
    exact ih k (i + 1) (by omega) (by omega)
end Go.Proofs.Ytpcohpkflkhfbaa.Rx.Pu
namespace Go.Proofs.Ytpcohpkflkhfbaa.Rx.S
open Go Go.Proofs.Ytpcohpkflkhfbaa.Rx.Pu
set_option linter.unusedVariables false
set_option linter.unusedSimpArgs false

theorem lt_t {i n : Nat} (h : i < n) : decide ((i : Int) < (n : Int)) = true := by simp; omega
theorem lt_f (n : Nat) : decide ((n : Int) < (n : Int)) = false := by simp
theorem ge_t (i : Nat) : decide ((0 : Int) ≤ (i : Int)) = true := by simp
theorem succI (i : Nat) : (i : Int) + 1 = ((i + 1 : Nat) : Int) := by omega
def mkTh (m : Int) : Th := (m, m + 1, m + 2, decide ((m + 3).tmod 3 = 0))

abbrev Qu := List Th × Int
theorem p102_eq (n : Nat) (l : List Th) (hl : l.length ≤ 2000000) (hn : l.length < n) : p102 n l = some ((l, ()), ()) := by
  have h0 : decide ((l.length : Int) * ((32 : Nat) : Int) ≤ 140737488355328) = true := by simp; omega
  show st102_top n (p102_L3 n n) l = _
  simp only [st102_top, h0, cond_true]
  have := copy_loop (F := p102_L3 n) (R := fun acc => some ((acc, ()), ())) (g := id) (da := ((0 : Int), (0 : Int), (0 : Int), false)) l (fun k i acc hi ha => by
      show st102_L3 n (p102_L3 n k) l i acc = _
      rw [← ha] at hi
      simp only [st102_L3, lt_t hi, ha ▸ lt_t hi, ge_t, cond_true, toNat_cast, q122, p122, st122_top, Option.bind_some]
      rw [wr (x := (i : Int) + 1) (by omega) (by omega), succI]
      rfl) (fun k acc => by
      show st102_L3 n (p102_L3 n k) l l.length acc = _
      simp only [st102_L3, lt_f, cond_false]) l.length n 0 (List.replicate (l.length : Int).toNat ((0 : Int), (0 : Int), (0 : Int), false)) (by simp) (by omega) hn (fun j hj => by omega)
  rw [List.map_id] at this
  exact this

theorem p123_refl (n : Nat) (t : Th) : p123 n t t = some ((true, ()), ()) := by
  show st123_top n t t = _
  simp only [st123_top, decide_true, Bool.not_true, cond_false, beq_self_eq_true]
theorem p103_refl (n : Nat) (l : List Th) (hl : l.length ≤ 2000000) (hn : l.length < n) : p103 n l l = some ((true, ()), ()) := by
  show st103_top n (p103_L4 n n) l l = _
  simp only [st103_top, decide_true, Bool.not_true, cond_false]
  exact round_loop (F := fun k i => p103_L4 n k l l i) (r := some ((true, ()), ())) l.length (fun k i hi => by
    show st103_L4 n (p103_L4 n k) l l i = _
    simp only [st103_L4, lt_t hi, ge_t, cond_true, q123, p123_refl, Option.bind_some, Bool.not_true, cond_false]
    rw [wr (x := (i : Int) + 1) (by omega) (by omega), succI]) (fun k => by
    show st103_L4 n (p103_L4 n k) l l l.length = _
    simp only [st103_L4, lt_f, cond_false]) l.length n 0 (by omega) hn
theorem p104_eq (n : Nat) (l : List Th) (m : Int) (hm : 0 ≤ m ∧ m ≤ 100000000) (hl : l.length ≤ 2000000) (hn : l.length < n) : p104 n l m = some ((m + 4 * l.length, ()), (marks mkTh 4 m l.length, ())) := by
  show p104_L2 n n m 0 l = _
  have := mark_loop (F := p104_L2 n) (R := fun m xs => some ((m, ()), (xs, ()))) (f := mkTh) (s := 4) (m0 := m) (n := l.length) (fun k i xs hi hx => by
      show st104_L2 n (p104_L2 n k) (m + 4 * (i : Int)) i xs = _
      rw [← hx] at hi
      have g1 : ∀ (xs : List Th), xs.length = l.length → ∀ x : Th, (xs.set i x).getD i ((0 : Int), (0 : Int), (0 : Int), false) = x := fun xs h x => getD_set_same (by omega)
      have w1 : IntKind.i64.wrap (m + 4 * (i : Int) + 1) = m + 4 * (i : Int) + 1 := wr (by omega) (by omega)
      have w2 : IntKind.i64.wrap (m + 4 * (i : Int) + 1 + 1) = m + 4 * (i : Int) + 2 := (wr (x := m + 4 * (i : Int) + 1 + 1) (by omega) (by omega)).trans (by omega)
      have w3 : IntKind.i64.wrap (m + 4 * (i : Int) + 2 + 1) = m + 4 * (i : Int) + 3 := (wr (x := m + 4 * (i : Int) + 2 + 1) (by omega) (by omega)).trans (by omega)
      have w4 : IntKind.i64.wrap (m + 4 * (i : Int) + 3 + 1) = m + 4 * ((i + 1 : Nat) : Int) := (wr (x := m + 4 * (i : Int) + 3 + 1) (by omega) (by omega)).trans (by omega)
      have w5 : IntKind.i64.wrap ((i : Int) + 1) = ((i + 1 : Nat) : Int) := (wr (x := (i : Int) + 1) (by omega) (by omega)).trans (by omega)
      simp only [st104_L2, List.length_set, lt_t hi, ge_t, cond_true, toNat_cast, w1, w2, w3, w4, w5, List.set_set]
      simp only [g1 xs hx, mkTh]) (fun k xs hx => by
      show st104_L2 n (p104_L2 n k) (m + 4 * (l.length : Int)) l.length xs = _
      rw [← hx]
      simp only [st104_L2, lt_f, cond_false]) l.length n 0 l rfl (by omega) hn (fun j hj => by omega)
  simpa using this
theorem p105_eq (n : Nat) (c : Nat) (m : Int) (hm : 0 ≤ m ∧ m ≤ 100000000) (hl : c ≤ 2000000) (hn : c < n) : p105 n (marks mkTh 4 m c) m = some ((m + 4 * c, ()), ()) := by
  show p105_L2 n n (marks mkTh 4 m c) m 0 = _
  have := held_loop (F := fun k m' i => p105_L2 n k (marks mkTh 4 m c) m' i) (R := fun m => some ((m, ()), ())) (s := 4) (m0 := m) (n := c) (fun k i hi => by
      show st105_L2 n (p105_L2 n k) (marks mkTh 4 m c) (m + 4 * (i : Int)) i = _
      have hi' : i < (marks mkTh 4 m c).length := by rw [marks_length]; exact hi
      have w1 : IntKind.i64.wrap (m + 4 * (i : Int) + 1) = m + 4 * (i : Int) + 1 := wr (by omega) (by omega)
      have w2 : IntKind.i64.wrap (m + 4 * (i : Int) + 1 + 1) = m + 4 * (i : Int) + 2 := (wr (x := m + 4 * (i : Int) + 1 + 1) (by omega) (by omega)).trans (by omega)
      have w3 : IntKind.i64.wrap (m + 4 * (i : Int) + 2 + 1) = m + 4 * (i : Int) + 3 := (wr (x := m + 4 * (i : Int) + 2 + 1) (by omega) (by omega)).trans (by omega)
      have w4 : IntKind.i64.wrap (m + 4 * (i : Int) + 3 + 1) = m + 4 * ((i + 1 : Nat) : Int) := (wr (x := m + 4 * (i : Int) + 3 + 1) (by omega) (by omega)).trans (by omega)
      have w5 : IntKind.i64.wrap ((i : Int) + 1) = ((i + 1 : Nat) : Int) := (wr (x := (i : Int) + 1) (by omega) (by omega)).trans (by omega)
      simp only [st105_L2, lt_t hi', ge_t, cond_true, toNat_cast, marks_getD mkTh 4 m c i hi ((0 : Int), (0 : Int), (0 : Int), false), mkTh, w1, w2, w3, w4, w5, decide_true, Bool.not_true, cond_false]
      cases decide ((m + 4 * (i : Int) + 3).tmod 3 = 0) <;> rfl) (fun k => by
      show st105_L2 n (p105_L2 n k) (marks mkTh 4 m c) (m + 4 * (c : Int)) c = _
      have : decide ((c : Int) < ((marks mkTh 4 m c).length : Int)) = false := by rw [marks_length]; simp
      simp only [st105_L2, this, cond_false]) c n 0 (by omega) hn
  simpa using this


theorem p50_eq (n : Nat) (q : Qu) (h1 : q.1.length ≤ 2000000) (hn : 2000000 < n) : p50 n q = some ((q, ()), ()) := by
  obtain ⟨l, fl⟩ := q
  have h1 : l.length ≤ 2000000 := h1
  show st50_top n (l, fl) = _
  simp only [st50_top, q102, p102_eq n l h1 (by omega), Option.bind_some]
theorem p51_refl (n : Nat) (q : Qu) (h1 : q.1.length ≤ 2000000) (hn : 2000000 < n) : p51 n q q = some ((true, ()), ()) := by
  obtain ⟨l, fl⟩ := q
  have h1 : l.length ≤ 2000000 := h1
  show st51_top n (l, fl) (l, fl) = _
  simp only [st51_top, q103, p103_refl n l h1 (by omega), Option.bind_some, decide_true, Bool.not_true, cond_false]
theorem p52_eq (n : Nat) (q : Qu) (h1 : q.1.length ≤ 2000000) (hn : 2000000 < n) : p52 n q 1 = some ((1 + 4 * (q.1.length : Int), ()), ((marks mkTh 4 1 q.1.length, q.2), ())) := by
  obtain ⟨l, fl⟩ := q
  have h1 : l.length ≤ 2000000 := h1
  show st52_top n (l, fl) 1 = _
  simp only [st52_top, q104, p104_eq n l 1 (by omega) h1 (by omega), Option.bind_some]
theorem p53_eq (n : Nat) (c : Nat) (fl : Int) (h1 : c ≤ 2000000) (hn : 2000000 < n) : p53 n (marks mkTh 4 1 c, fl) 1 = some ((1 + 4 * (c : Int), ()), ()) := by
  have z1 : ¬ (1 + 4 * (c : Int) < 0) := by omega
  show st53_top n _ 1 = _
  simp only [st53_top, q105, p105_eq n c 1 (by omega) h1 (by omega), Option.bind_some, z1, decide_false, cond_false]
theorem p49_eq (n : Nat) (q : Qu) (h1 : q.1.length ≤ 9223372036854775807) : ∃ r : Int, p49 n q 1048576 = some ((r, ()), ()) ∧ (0 ≤ r → q.1.length ≤ 1048576) := by
  obtain ⟨l, fl⟩ := q
  have h1 : l.length ≤ 9223372036854775807 := h1
  show ∃ r : Int, st49_top n (l, fl) 1048576 = _ ∧ _
  have w1 : IntKind.i64.wrap (1048576 - (l.length : Int)) = 1048576 - l.length := wr (by omega) (by omega)
  by_cases z1 : (1048576 : Int) - l.length < 0
  · have e : p101 n l 1048576 = some ((-1, ()), ()) := by
      show st101_top n l 1048576 = _
      simp only [st101_top, w1, z1, decide_true, cond_true]
    simp only [st49_top, q101, e, Option.bind_some]
    exact ⟨-1, rfl, fun h => by omega⟩
  · have e : p101 n l 1048576 = some ((1048576 - (l.length : Int), ()), ()) := by
      show st101_top n l 1048576 = _
      simp only [st101_top, w1, z1, decide_false, cond_false]
    simp only [st49_top, q101, e, Option.bind_some, z1, decide_false, cond_false]
    exact ⟨_, rfl, fun h => by show l.length ≤ _; omega⟩

/-! ## a queue that is valid -/
def tkOk (fl : Int) (p : Option Int) (t : Th) : Bool := decide (0 ≤ t.1 ∧ t.1 ≤ 99) && (decide (1 ≤ t.2.1 ∧ t.2.1 ≤ 6) && (decide (0 ≤ t.2.2.1 ∧ t.2.2.1 ≤ 1000000) && ((!t.2.2.2 || decide (fl ≤ t.2.2.1)) && (match p with | none => true | some x => decide (x < t.1)))))
def okQ (fl : Int) : Option Int → List Th → Bool
  | _, [] => true
  | p, t :: ts => cond (tkOk fl p t) (okQ fl (some t.1) ts) false
def prevOf (l : List Th) : Nat → Option Int
  | 0 => none
  | j + 1 => some (l.getD j ((0 : Int), (0 : Int), (0 : Int), false)).1
def queueOk (q : Qu) : Bool := okQ q.2 none q.1 && (decide ((q.1.length : Int) ≤ 6) && decide (0 ≤ q.2 ∧ q.2 ≤ 1000000))

theorem p48_L2_eq (n : Nat) (l : List Th) (fl : Int) (hl : l.length ≤ 2000000) : ∀ (m i : Nat), i ≤ l.length → l.length - i < m →
    p48_L2 n m l l.length i l fl = some ((okQ fl (prevOf l i) (l.drop i) && (decide ((l.length : Int) ≤ 6) && decide (0 ≤ fl ∧ fl ≤ 1000000)), ()), ())
  | 0, i, _, h => by omega
  | m + 1, i, hi, h => by
    show st48_L2 n (p48_L2 n m) l l.length i l fl = _
    by_cases h1 : i < l.length
    · have ih := p48_L2_eq n l fl hl m (i + 1) (by omega) (by omega)
      rw [getD_drop (d := ((0 : Int), (0 : Int), (0 : Int), false)) h1]
      obtain ⟨⟨a, s, u, z⟩, ht⟩ : ∃ t, l.getD i ((0 : Int), (0 : Int), (0 : Int), false) = t := ⟨_, rfl⟩
      simp only [prevOf, ht] at ih
      simp only [st48_L2, toNat_cast, lt_t h1, ge_t, cond_true, ht, q62, p62_eq, Option.bind_some, okQ]
      rw [wr (x := (i : Int) + 1) (by omega) (by omega), succI, ih]
      generalize okQ fl (some a) (l.drop (i + 1)) = o
      generalize (decide ((l.length : Int) ≤ 6) && decide (0 ≤ fl ∧ fl ≤ 1000000)) = e
      clear ih ht
      cases i with
      | zero =>
        have z0 : ¬ ((0 : Int) < ((0 : Nat) : Int)) := by omega
        simp only [z0, decide_false, cond_false, prevOf, tkOk]
        by_cases hA : 0 ≤ a ∧ a ≤ 99 <;> by_cases hS : 1 ≤ s ∧ s ≤ 6 <;> by_cases hU : 0 ≤ u ∧ u ≤ 1000000 <;> simp only [hA, hS, hU, decide_true, decide_false, Bool.not_true, Bool.not_false, cond_true, cond_false, true_and, false_and, and_false, Bool.cond_self, Bool.false_and, Bool.true_and, Bool.and_false]
        rcases Int.lt_or_le u fl with hc | hc
        · have hc2 : ¬ fl ≤ u := by omega
          cases z <;> simp [hc, hc2]
        · have hc2 : ¬ u < fl := by omega
          cases z <;> simp [hc, hc2]
      | succ j =>
        have z0 : (0 : Int) < ((j + 1 : Nat) : Int) := by omega
        have w1 : IntKind.i64.wrap (((j + 1 : Nat) : Int) - 1) = (j : Int) := (wr (x := ((j + 1 : Nat) : Int) - 1) (by omega) (by omega)).trans (by omega)
        simp only [z0, decide_true, cond_true, w1, ge_t, lt_t (show j < l.length by omega), toNat_cast, prevOf, tkOk]
        generalize (l.getD j ((0 : Int), (0 : Int), (0 : Int), false)).1 = y
        by_cases hA : 0 ≤ a ∧ a ≤ 99 <;> by_cases hS : 1 ≤ s ∧ s ≤ 6 <;> by_cases hU : 0 ≤ u ∧ u ≤ 1000000 <;> simp only [hA, hS, hU, decide_true, decide_false, Bool.not_true, Bool.not_false, cond_true, cond_false, true_and, false_and, and_false, Bool.cond_self, Bool.false_and, Bool.true_and, Bool.and_false]
        rcases Int.lt_or_le u fl with hc | hc <;> rcases Int.lt_or_le y a with hy | hy
        · have hc2 : ¬ fl ≤ u := by omega
          have hy2 : ¬ a ≤ y := by omega
          cases z <;> simp [hc, hc2, hy, hy2]
        · have hc2 : ¬ fl ≤ u := by omega
          have hy2 : ¬ y < a := by omega
          cases z <;> simp [hc, hc2, hy, hy2]
        · have hc2 : ¬ u < fl := by omega
          have hy2 : ¬ a ≤ y := by omega
          cases z <;> simp [hc, hc2, hy, hy2]
        · have hc2 : ¬ u < fl := by omega
          have hy2 : ¬ y < a := by omega
          cases z <;> simp [hc, hc2, hy, hy2]
    · have hi2 : i = l.length := by omega
      subst hi2
      simp only [st48_L2, lt_f, cond_false, q62, p62_eq, Option.bind_some]
      rw [List.drop_eq_nil_of_le (by omega)]
      simp only [okQ, Bool.true_and]
      by_cases h6 : (l.length : Int) ≤ 6 <;> simp [h6]
theorem p48_eq (n : Nat) (q : Qu) (hl : q.1.length ≤ 2000000) (hn : q.1.length < n) : p48 n q = some ((queueOk q, ()), ()) := by
  have := p48_L2_eq n q.1 q.2 hl n 0 (by omega) (by omega)
  rw [List.drop_zero] at this
  exact this

theorem p96_L2_eq (n : Nat) (l : List Th) (fl : Int) (hl : l.length ≤ 2000000) : ∀ (m i : Nat), i ≤ l.length → l.length - i < m →
    p96_L2 n m i l fl = some ((okQ fl (prevOf l i) (l.drop i) && (decide ((l.length : Int) ≤ 6) && decide (0 ≤ fl ∧ fl ≤ 1000000)), ()), ())
  | 0, i, _, h => by omega
  | m + 1, i, hi, h => by
    show st96_L2 n (p96_L2 n m) i l fl = _
    by_cases h1 : i < l.length
    · have ih := p96_L2_eq n l fl hl m (i + 1) (by omega) (by omega)
      rw [getD_drop (d := ((0 : Int), (0 : Int), (0 : Int), false)) h1]
      obtain ⟨⟨a, s, u, z⟩, ht⟩ : ∃ t, l.getD i ((0 : Int), (0 : Int), (0 : Int), false) = t := ⟨_, rfl⟩
      simp only [prevOf, ht] at ih
      simp only [st96_L2, toNat_cast, lt_t h1, ge_t, cond_true, ht, q57, p57_eq, Option.bind_some, okQ]
      rw [wr (x := (i : Int) + 1) (by omega) (by omega), succI, ih]
      generalize okQ fl (some a) (l.drop (i + 1)) = o
      generalize (decide ((l.length : Int) ≤ 6) && decide (0 ≤ fl ∧ fl ≤ 1000000)) = e
      clear ih ht
      cases i with
      | zero =>
        have z0 : ¬ ((0 : Int) < ((0 : Nat) : Int)) := by omega
        simp only [z0, decide_false, cond_false, prevOf, tkOk]
        by_cases hA : 0 ≤ a ∧ a ≤ 99 <;> by_cases hS : 1 ≤ s ∧ s ≤ 6 <;> by_cases hU : 0 ≤ u ∧ u ≤ 1000000 <;> simp only [hA, hS, hU, decide_true, decide_false, Bool.not_true, Bool.not_false, cond_true, cond_false, true_and, false_and, and_false, Bool.cond_self, Bool.false_and, Bool.true_and, Bool.and_false]
        rcases Int.lt_or_le u fl with hc | hc
        · have hc2 : ¬ fl ≤ u := by omega
          cases z <;> simp [hc, hc2]
        · have hc2 : ¬ u < fl := by omega
          cases z <;> simp [hc, hc2]
      | succ j =>
        have z0 : (0 : Int) < ((j + 1 : Nat) : Int) := by omega
        have w1 : IntKind.i64.wrap (((j + 1 : Nat) : Int) - 1) = (j : Int) := (wr (x := ((j + 1 : Nat) : Int) - 1) (by omega) (by omega)).trans (by omega)
        simp only [z0, decide_true, cond_true, w1, ge_t, lt_t (show j < l.length by omega), toNat_cast, prevOf, tkOk]
        generalize (l.getD j ((0 : Int), (0 : Int), (0 : Int), false)).1 = y
        by_cases hA : 0 ≤ a ∧ a ≤ 99 <;> by_cases hS : 1 ≤ s ∧ s ≤ 6 <;> by_cases hU : 0 ≤ u ∧ u ≤ 1000000 <;> simp only [hA, hS, hU, decide_true, decide_false, Bool.not_true, Bool.not_false, cond_true, cond_false, true_and, false_and, and_false, Bool.cond_self, Bool.false_and, Bool.true_and, Bool.and_false]
        rcases Int.lt_or_le u fl with hc | hc <;> rcases Int.lt_or_le y a with hy | hy
        · have hc2 : ¬ fl ≤ u := by omega
          have hy2 : ¬ a ≤ y := by omega
          cases z <;> simp [hc, hc2, hy, hy2]
        · have hc2 : ¬ fl ≤ u := by omega
          have hy2 : ¬ y < a := by omega
          cases z <;> simp [hc, hc2, hy, hy2]
        · have hc2 : ¬ u < fl := by omega
          have hy2 : ¬ a ≤ y := by omega
          cases z <;> simp [hc, hc2, hy, hy2]
        · have hc2 : ¬ u < fl := by omega
          have hy2 : ¬ y < a := by omega
          cases z <;> simp [hc, hc2, hy, hy2]
    · have hi2 : i = l.length := by omega
      subst hi2
      simp only [st96_L2, lt_f, cond_false, q57, p57_eq, Option.bind_some]
      rw [List.drop_eq_nil_of_le (by omega)]
      simp only [okQ, Bool.true_and]
      by_cases h6 : (l.length : Int) ≤ 6 <;> simp [h6]
theorem p96_eq (n : Nat) (q : Qu) (hl : q.1.length ≤ 2000000) (hn : q.1.length < n) : p96 n q = some ((queueOk q, ()), ()) := by
  have := p96_L2_eq n q.1 q.2 hl n 0 (by omega) (by omega)
  rw [List.drop_zero] at this
  exact this

/-! ## a place -/
def atF (x : Int) : List Th → Nat → Int
  | [], _ => -1
  | t :: ts, i => if t.1 = x then (i : Int) else atF x ts (i + 1)
theorem atF_mem {x : Int} : ∀ {l : List Th} {i : Nat}, atF x l i < 0 → ∀ t ∈ l, t.1 ≠ x
  | [], i, _, t, ht => by cases ht
  | y :: ys, i, h, t, ht => by
    simp only [atF] at h
    split at h
    · omega
    · rcases List.mem_cons.1 ht with rfl | ht
      · assumption
      · exact atF_mem h t ht
theorem p117_L2_eq (n : Nat) (l : List Th) (x : Int) (hl : l.length ≤ 2000000) : ∀ (m i : Nat), i ≤ l.length → l.length - i < m → p117_L2 n m l x l.length i = some ((atF x (l.drop i) i, ()), ())
  | 0, i, _, h => by omega
  | m + 1, i, hi, h => by
    show st117_L2 n (p117_L2 n m) l x l.length i = _
    by_cases h1 : i < l.length
    · have ih := p117_L2_eq n l x hl m (i + 1) (by omega) (by omega)
      rw [getD_drop (d := ((0 : Int), (0 : Int), (0 : Int), false)) h1]
      have e1 : ∀ y : Int, [y].getD 0 0 = y := fun _ => rfl
      simp only [st117_L2, toNat_cast, lt_t h1, ge_t, cond_true, q118, p118, st118_top, Option.bind_some, e1, atF]
      rw [wr (x := (i : Int) + 1) (by omega) (by omega), succI, ih]
      by_cases hx : (l.getD i ((0 : Int), (0 : Int), (0 : Int), false)).1 = x
      · simp only [hx, decide_true, cond_true, if_true]
      · simp only [hx, decide_false, cond_false, if_false]
    · have hi2 : i = l.length := by omega
      subst hi2
      simp only [st117_L2, lt_f, cond_false]
      rw [List.drop_eq_nil_of_le (by omega)]
      rfl
theorem p92_eq (n : Nat) (q : Qu) (x : Int) (hl : q.1.length ≤ 2000000) (hn : q.1.length < n) : p92 n q x = some ((atF x q.1 0, ()), ()) := by
  have := p117_L2_eq n q.1 x hl n 0 (by omega) (by omega)
  rw [List.drop_zero] at this
  have h117 : p117 n q.1 (x, ()) = some ((atF x q.1 0, ()), ()) := this
  show st92_top n q x = _
  simp only [st92_top, q117, h117, Option.bind_some]
theorem p97_L2_eq (n : Nat) (l : List Th) (x fl : Int) (hl : l.length ≤ 2000000) : ∀ (m i : Nat), i ≤ l.length → l.length - i < m → p97_L2 n m x i l fl = some ((atF x (l.drop i) i, ()), ())
  | 0, i, _, h => by omega
  | m + 1, i, hi, h => by
    show st97_L2 n (p97_L2 n m) x i l fl = _
    by_cases h1 : i < l.length
    · have ih := p97_L2_eq n l x fl hl m (i + 1) (by omega) (by omega)
      rw [getD_drop (d := ((0 : Int), (0 : Int), (0 : Int), false)) h1]
      simp only [st97_L2, toNat_cast, lt_t h1, ge_t, cond_true, atF]
      rw [wr (x := (i : Int) + 1) (by omega) (by omega), succI, ih]
      by_cases hx : (l.getD i ((0 : Int), (0 : Int), (0 : Int), false)).1 = x
      · simp only [hx, decide_true, cond_true, if_true]
      · simp only [hx, decide_false, cond_false, if_false]
    · have hi2 : i = l.length := by omega
      subst hi2
      simp only [st97_L2, lt_f, cond_false]
      rw [List.drop_eq_nil_of_le (by omega)]
      rfl
theorem p97_eq (n : Nat) (q : Qu) (x : Int) (hl : q.1.length ≤ 2000000) (hn : q.1.length < n) : p97 n q x = some ((atF x q.1 0, ()), ()) := by
  have := p97_L2_eq n q.1 x q.2 hl n 0 (by omega) (by omega)
  rw [List.drop_zero] at this
  exact this

/-! ## in its place -/
def ins (t : Th) : List Th → List Th
  | [] => [t]
  | x :: xs => if t.1 < x.1 then t :: x :: xs else x :: ins t xs
theorem ins_len (t : Th) : ∀ l : List Th, (ins t l).length = l.length + 1
  | [] => rfl
  | x :: xs => by
    simp only [ins]
    split
    · rfl
    · simp [ins_len t xs]
theorem ins_front {t : Th} : ∀ {l : List Th}, (∀ y ∈ l, t.1 < y.1) → ins t l = t :: l
  | [], _ => rfl
  | x :: xs, h => by simp only [ins, if_pos (h x List.mem_cons_self)]
theorem ins_split {t : Th} : ∀ {A B : List Th}, (∀ y ∈ A, ¬ t.1 < y.1) → (∀ y ∈ B, t.1 < y.1) → ins t (A ++ B) = A ++ t :: B
  | [], B, _, h => ins_front h
  | x :: A, B, ha, h => by
    simp only [List.cons_append, ins, if_neg (ha x List.mem_cons_self)]
    rw [ins_split (fun y hy => ha y (List.mem_cons_of_mem _ hy)) h]

theorem p98_L4_done (n : Nat) (l : List Th) (fl a s u : Int) (z : Bool) (x8 : Int) (hl : l.length ≤ 2000000) : ∀ (m i : Nat) (out : List Th), i ≤ l.length → l.length - i < m → out.length ≤ 1 + i →
    p98_L4 n m true i l fl a s u z x8 out = some (((out ++ l.drop i, fl), ()), ())
  | 0, i, out, _, h, _ => by omega
  | m + 1, i, out, hi, h, ho => by
    show st98_L4 n (p98_L4 n m) true i l fl a s u z x8 out = _
    by_cases h1 : i < l.length
    · have h2 : ∀ y : Th, (out.length + [y].length) * 32 ≤ 140737488355328 := by intro y; simp; omega
      have ih := p98_L4_done n l fl a s u z x8 hl m (i + 1) (out ++ [l.getD i ((0 : Int), (0 : Int), (0 : Int), false)]) (by omega) (by omega) (by simp; omega)
      rw [getD_drop (d := ((0 : Int), (0 : Int), (0 : Int), false)) h1]
      simp only [st98_L4, toNat_cast, lt_t h1, ge_t, cond_true, Bool.not_true, cond_false, h2, decide_true]
      rw [wr (x := (i : Int) + 1) (by omega) (by omega), succI]
      refine ih.trans ?_
      simp
    · have hi2 : i = l.length := by omega
      subst hi2
      simp only [st98_L4, lt_f, cond_false, Bool.not_true]
      rw [List.drop_eq_nil_of_le (by omega), List.append_nil]
theorem p98_L4_eq (n : Nat) (l : List Th) (fl : Int) (t : Th) (x8 : Int) (hl : l.length ≤ 2000000) : ∀ (m i : Nat) (out : List Th), i ≤ l.length → l.length - i < m → out.length ≤ i →
    p98_L4 n m false i l fl t.1 t.2.1 t.2.2.1 t.2.2.2 x8 out = some (((out ++ ins t (l.drop i), fl), ()), ())
  | 0, i, out, _, h, _ => by omega
  | m + 1, i, out, hi, h, ho => by
    show st98_L4 n (p98_L4 n m) false i l fl t.1 t.2.1 t.2.2.1 t.2.2.2 x8 out = _
    by_cases h1 : i < l.length
    · have h2 : ∀ y : Th, (out.length + [y].length) * 32 ≤ 140737488355328 := by intro y; simp; omega
      have h3 : ∀ y x : Th, ((out ++ [y]).length + [x].length) * 32 ≤ 140737488355328 := by intro y x; simp; omega
      have ih := p98_L4_eq n l fl t x8 hl m (i + 1) (out ++ [l.getD i ((0 : Int), (0 : Int), (0 : Int), false)]) (by omega) (by omega) (by simp; omega)
      have id := p98_L4_done n l fl t.1 t.2.1 t.2.2.1 t.2.2.2 x8 hl m (i + 1) (out ++ [t] ++ [l.getD i ((0 : Int), (0 : Int), (0 : Int), false)]) (by omega) (by omega) (by simp; omega)
      rw [getD_drop (d := ((0 : Int), (0 : Int), (0 : Int), false)) h1]
      simp only [st98_L4, toNat_cast, lt_t h1, ge_t, cond_true, Bool.not_false, h2, h3, decide_true, ins]
      rw [wr (x := (i : Int) + 1) (by omega) (by omega), succI]
      by_cases hx : t.1 < (l.getD i ((0 : Int), (0 : Int), (0 : Int), false)).1
      · simp only [hx, decide_true, cond_true, if_true]
        refine id.trans ?_
        simp
      · simp only [hx, decide_false, cond_false, if_false]
        refine ih.trans ?_
        simp
    · have hi2 : i = l.length := by omega
      have h2 : ∀ y : Th, (out.length + [y].length) * 32 ≤ 140737488355328 := by intro y; simp; omega
      subst hi2
      simp only [st98_L4, lt_f, cond_false, Bool.not_false, cond_true, h2, decide_true]
      rw [List.drop_eq_nil_of_le (by omega)]
      rfl
theorem p98_eq (n : Nat) (q : Qu) (t : Th) (hl : q.1.length ≤ 2000000) (hn : q.1.length < n) : p98 n q t = some (((ins t q.1, q.2), ()), ()) := by
  have := p98_L4_eq n q.1 q.2 t 0 hl n 0 [] (by omega) (by omega) (by simp)
  rw [List.drop_zero, List.nil_append] at this
  exact this

/-! ## sorting by insertion -/
theorem getD_app {A B : List Th} {t d : Th} : (A ++ t :: B).getD A.length d = t := by
  rw [List.getD_eq_getElem?_getD, List.getElem?_append_right (Nat.le_refl _)]
  simp
theorem getD_app1 {A B : List Th} {x t d : Th} : (A ++ x :: t :: B).getD (A.length + 1) d = t := by
  rw [List.getD_eq_getElem?_getD, List.getElem?_append_right (by omega)]
  simp
theorem swap_app {A B : List Th} {x t : Th} : ((A ++ x :: t :: B).set (A.length + 1) x).set A.length t = A ++ t :: x :: B := by
  rw [List.set_append_right _ _ (by omega), List.set_append_right _ _ (by omega)]
  simp

theorem p125_L4_eq (g1 : Int → Int → Int → (List Th) → Option R125) (n : Nat) (l : List Th) (t : Th) (hl : l.length ≤ 100) (hid : ∀ y ∈ l, 0 ≤ y.1 ∧ y.1 ≤ 99) (ht : 0 ≤ t.1 ∧ t.1 ≤ 99) (hs : l.Pairwise (fun a b => a.1 < b.1)) (b : Int) (i : Nat) (hi : i ≤ 1000) :
    ∀ (j m : Nat), j ≤ l.length → j < m → (∀ y ∈ l.drop j, t.1 < y.1) → p125_L4 g1 n m 0 b i j (l.take j ++ t :: l.drop j) = g1 0 b ((i + 1 : Nat) : Int) (ins t l)
  | j, 0, _, h, _ => by omega
  | 0, m + 1, _, _, hd => by
    show st125_L4 n (p125_L4 g1 n m) g1 0 b i ((0 : Nat) : Int) _ = _
    have z0 : ¬ ((0 : Int) < ((0 : Nat) : Int)) := by omega
    simp only [st125_L4, z0, decide_false, cond_false]
    rw [wr (x := (i : Int) + 1) (by omega) (by omega), succI]
    simp only [List.take_zero, List.drop_zero, List.nil_append] at hd ⊢
    rw [ins_front hd]
  | j + 1, m + 1, hj, hm, hd => by
    show st125_L4 n (p125_L4 g1 n m) g1 0 b i ((j + 1 : Nat) : Int) _ = _
    have hjl : j < l.length := by omega
    obtain ⟨x, hx⟩ : ∃ x, l.getD j ((0 : Int), (0 : Int), (0 : Int), false) = x := ⟨_, rfl⟩
    have hdrop : l.drop j = x :: l.drop (j + 1) := by rw [getD_drop (d := ((0 : Int), (0 : Int), (0 : Int), false)) hjl, hx]
    have hgx : l[j]? = some x := by rw [← hx]; exact getD_some hjl
    have htake : l.take (j + 1) = l.take j ++ [x] := by
      rw [List.take_add_one, hgx]; rfl
    have hlen : (l.take j).length = j := by rw [List.length_take]; omega
    have hxl : x ∈ l := List.mem_of_getElem? hgx
    have hxs : l.take (j + 1) ++ t :: l.drop (j + 1) = l.take j ++ x :: t :: l.drop (j + 1) := by rw [htake]; simp
    rw [hxs]
    have hlx : (l.take j ++ x :: t :: l.drop (j + 1)).length = l.length + 1 := by simp; omega
    have g1' : (l.take j ++ x :: t :: l.drop (j + 1)).getD (j + 1) ((0 : Int), (0 : Int), (0 : Int), false) = t := by
      have := getD_app1 (A := l.take j) (B := l.drop (j + 1)) (x := x) (t := t) (d := ((0 : Int), (0 : Int), (0 : Int), false))
      rw [hlen] at this; exact this
    have g2' : (l.take j ++ x :: t :: l.drop (j + 1)).getD j ((0 : Int), (0 : Int), (0 : Int), false) = x := by
      have := getD_app (A := l.take j) (B := t :: l.drop (j + 1)) (t := x) (d := ((0 : Int), (0 : Int), (0 : Int), false))
      rw [hlen] at this; exact this
    have g3' : ((l.take j ++ x :: t :: l.drop (j + 1)).set (j + 1) x).set j t = l.take j ++ t :: l.drop j := by
      have := swap_app (A := l.take j) (B := l.drop (j + 1)) (x := x) (t := t)
      rw [hlen] at this; rw [this, hdrop]
    have z0 : (0 : Int) < ((j + 1 : Nat) : Int) := by omega
    have w1 : IntKind.i64.wrap (((j + 1 : Nat) : Int) - 1) = (j : Int) := (wr (x := ((j + 1 : Nat) : Int) - 1) (by omega) (by omega)).trans (by omega)
    have b1 : j + 1 < (l.take j ++ x :: t :: l.drop (j + 1)).length := by rw [hlx]; omega
    have b2 : j < (l.take j ++ x :: t :: l.drop (j + 1)).length := by rw [hlx]; omega
    have hx2 := hid x hxl
    have w2 : IntKind.i64.wrap (t.1 - x.1) = t.1 - x.1 := wr (by omega) (by omega)
    simp only [st125_L4, z0, decide_true, cond_true, ge_t, w1, lt_t b1, lt_t b2, List.length_set, toNat_cast, g1', g2', q95, p95, st95_top, Option.bind_some, w2]
    rw [wr (x := (i : Int) + 1) (by omega) (by omega), succI]
    by_cases hc : t.1 < x.1
    · have hc' : t.1 - x.1 < 0 := by omega
      simp only [hc', decide_true, cond_true]
      have e : ((l.take j ++ x :: t :: l.drop (j + 1)).set (j + 1) (x.1, x.2.1, x.2.2.1, x.2.2.2)).set j (t.1, t.2.1, t.2.2.1, t.2.2.2) = l.take j ++ t :: l.drop j := g3'
      rw [e]
      refine p125_L4_eq g1 n l t hl hid ht hs b i hi j m (by omega) (by omega) (fun y hy => ?_)
      rw [hdrop] at hy
      rcases List.mem_cons.1 hy with rfl | hy
      · exact hc
      · exact hd y hy
    · have hc' : ¬ t.1 - x.1 < 0 := by omega
      simp only [hc', decide_false, cond_false]
      congr 1
      have e2 : l = (l.take j ++ [x]) ++ l.drop (j + 1) := by rw [← htake, List.take_append_drop]
      conv => rhs; rw [e2]
      rw [ins_split]
      · simp
      · intro y hy
        rcases List.mem_append.1 hy with hy | hy
        · have hpw := hs
          rw [← List.take_append_drop j l, hdrop, List.pairwise_append] at hpw
          have := hpw.2.2 y hy x List.mem_cons_self
          omega
        · have : y = x := by simpa using hy
          subst this
          exact hc
      · exact hd

theorem p125_L1_eq (n : Nat) (l : List Th) (t : Th) (hl : l.length ≤ 100) (hn : 200 ≤ n) (hid : ∀ y ∈ l, 0 ≤ y.1 ∧ y.1 ≤ 99) (ht : 0 ≤ t.1 ∧ t.1 ≤ 99) (hs : l.Pairwise (fun a b => a.1 < b.1)) :
    ∀ (m i : Nat), 1 ≤ i → i ≤ l.length + 1 → l.length + 1 - i + 1 < m → (i = l.length + 1 → l = []) → p125_L1 n m 0 ((l.length + 1 : Nat) : Int) i (l ++ [t]) = some ((), (ins t l, ()))
  | 0, i, _, _, h, _ => by omega
  | m + 1, i, h1, hi, hm, hnil => by
    show st125_L1 n (p125_L4 (p125_L1 n m) n n) 0 ((l.length + 1 : Nat) : Int) i (l ++ [t]) = _
    by_cases hlt : i < l.length + 1
    · simp only [st125_L1, lt_t hlt, cond_true]
      by_cases hlast : i = l.length
      · have := p125_L4_eq (p125_L1 n m) n l t hl hid ht hs ((l.length + 1 : Nat) : Int) i (by omega) i n (by omega) (by omega) (by rw [hlast]; simp)
        rw [hlast, List.take_length, List.drop_length] at this
        rw [hlast]
        refine this.trans ?_
        obtain ⟨m, rfl⟩ : ∃ k, m = k + 1 := ⟨m - 1, by omega⟩
        show st125_L1 n (p125_L4 (p125_L1 n m) n n) 0 ((l.length + 1 : Nat) : Int) ((l.length + 1 : Nat) : Int) (ins t l) = _
        simp only [st125_L1, lt_f, cond_false]
      · have hil : i < l.length := by omega
        obtain ⟨n', rfl⟩ : ∃ k, n = k + 1 := ⟨n - 1, by omega⟩
        show st125_L4 (n' + 1) (p125_L4 (p125_L1 (n' + 1) m) (n' + 1) n') (p125_L1 (n' + 1) m) 0 ((l.length + 1 : Nat) : Int) i i (l ++ [t]) = _
        obtain ⟨j, rfl⟩ : ∃ j, i = j + 1 := ⟨i - 1, by omega⟩
        have hjl : j < l.length := by omega
        have gg : ∀ k, k < l.length → (l ++ [t]).getD k ((0 : Int), (0 : Int), (0 : Int), false) = l.getD k ((0 : Int), (0 : Int), (0 : Int), false) := fun k hk => by
          rw [List.getD_eq_getElem?_getD, List.getElem?_append_left hk, List.getD_eq_getElem?_getD]
        have z0 : (0 : Int) < ((j + 1 : Nat) : Int) := by omega
        have w1 : IntKind.i64.wrap (((j + 1 : Nat) : Int) - 1) = (j : Int) := (wr (x := ((j + 1 : Nat) : Int) - 1) (by omega) (by omega)).trans (by omega)
        have b1 : j + 1 < (l ++ [t]).length := by simp; omega
        have b2 : j < (l ++ [t]).length := by simp; omega
        obtain ⟨x, hx⟩ : ∃ x, l.getD j ((0 : Int), (0 : Int), (0 : Int), false) = x := ⟨_, rfl⟩
        obtain ⟨y, hy⟩ : ∃ y, l.getD (j + 1) ((0 : Int), (0 : Int), (0 : Int), false) = y := ⟨_, rfl⟩
        have hgx : l[j]? = some x := by rw [← hx]; exact getD_some hjl
        have hgy : l[j + 1]? = some y := by rw [← hy]; exact getD_some hil
        have hx2 := hid x (List.mem_of_getElem? hgx)
        have hy2 := hid y (List.mem_of_getElem? hgy)
        have hxy : x.1 < y.1 := by
          have h5 := List.pairwise_iff_getElem.1 hs j (j + 1) hjl hil (by omega)
          have e1 : l[j] = x := by rw [List.getElem?_eq_getElem hjl] at hgx; injection hgx
          have e2 : l[j + 1] = y := by rw [List.getElem?_eq_getElem hil] at hgy; injection hgy
          rw [e1, e2] at h5
          exact h5
        have w2 : IntKind.i64.wrap (y.1 - x.1) = y.1 - x.1 := wr (by omega) (by omega)
        have hc' : ¬ y.1 - x.1 < 0 := by omega
        simp only [st125_L4, z0, decide_true, cond_true, ge_t, w1, lt_t b1, lt_t b2, List.length_set, toNat_cast, gg _ hjl, gg _ hil, hx, hy, q95, p95, st95_top, Option.bind_some, w2, hc', decide_false, cond_false]
        rw [wr (x := ((j + 1 : Nat) : Int) + 1) (by omega) (by omega), succI]
        exact p125_L1_eq (n' + 1) l t hl hn hid ht hs m (j + 1 + 1) (by omega) (by omega) (by omega) (fun h => by omega)
    · have hi2 : i = l.length + 1 := by omega
      have hln := hnil hi2
      subst hln
      subst hi2
      simp only [st125_L1, List.length_nil]
      simp [ins]

theorem p134_total (n : Nat) (c : Nat) (h : c ≤ 7) : ∃ r : Int, p134 n c = some ((r, ()), ()) := by
  rcases (by omega : c = 0 ∨ c = 1 ∨ c = 2 ∨ c = 3 ∨ c = 4 ∨ c = 5 ∨ c = 6 ∨ c = 7) with rfl | rfl | rfl | rfl | rfl | rfl | rfl | rfl
  · exact ⟨0, by kernel_rfl⟩
  · exact ⟨1, by kernel_rfl⟩
  · exact ⟨2, by kernel_rfl⟩
  · exact ⟨2, by kernel_rfl⟩
  · exact ⟨3, by kernel_rfl⟩
  · exact ⟨3, by kernel_rfl⟩
  · exact ⟨3, by kernel_rfl⟩
  · exact ⟨3, by kernel_rfl⟩

theorem p94_eq (n : Nat) (l : List Th) (t : Th) (hl : l.length ≤ 6) (hn : 200 ≤ n) (hid : ∀ y ∈ l, 0 ≤ y.1 ∧ y.1 ≤ 99) (ht : 0 ≤ t.1 ∧ t.1 ≤ 99) (hs : l.Pairwise (fun a b => a.1 < b.1)) : p94 n (l ++ [t]) () = some ((), (ins t l, ())) := by
  have hlen : (l ++ [t]).length = l.length + 1 := by simp
  have hw : IntKind.u64.wrap (((l ++ [t]).length : Nat) : Int) = ((l.length + 1 : Nat) : Int) := by
    rw [hlen]
    have e1 : (2 : Int) ^ IntKind.u64.bits = 18446744073709551616 := rfl
    have e3 : IntKind.u64.signed = false := rfl
    unfold IntKind.wrap
    simp only [e1, e3, Bool.false_and, Bool.false_eq_true, if_false]
    omega
  obtain ⟨r, hr⟩ := p134_total n (l.length + 1) (by omega)
  have h121 : p121 n ((l.length + 1 : Nat) : Int) = some ((r, ()), ()) := by
    show st121_top n _ = _
    simp only [st121_top, q134, hr, Option.bind_some]
  have h125 : p125 n (l ++ [t]) 0 ((l.length + 1 : Nat) : Int) () = some ((), (ins t l, ())) := by
    show st125_top n (p125_L1 n n) (l ++ [t]) 0 ((l.length + 1 : Nat) : Int) () = _
    simp only [st125_top]
    have w0 : IntKind.i64.wrap (0 + 1) = ((1 : Nat) : Int) := by decide
    rw [w0]
    exact p125_L1_eq n l t (by omega) hn hid ht hs n 1 (by omega) (by omega) (by omega) (fun h => List.eq_nil_of_length_eq_zero (by omega))
  have h120 : p120 n (l ++ [t]) 0 ((l.length + 1 : Nat) : Int) r () = some ((), (ins t l, ())) := by
    obtain ⟨n', rfl⟩ : ∃ k, n = k + 1 := ⟨n - 1, by omega⟩
    show st120_L2 (n' + 1) 0 ((l.length + 1 : Nat) : Int) r true true (l ++ [t]) = _
    have w1 : IntKind.i64.wrap (((l.length + 1 : Nat) : Int) - 0) = ((l.length + 1 : Nat) : Int) := (wr (x := ((l.length + 1 : Nat) : Int) - 0) (by omega) (by omega)).trans (by omega)
    have z1 : ((l.length + 1 : Nat) : Int) ≤ 12 := by omega
    simp only [st120_L2, w1, z1, decide_true, cond_true, q125, h125, Option.bind_some]
  show st94_top n (l ++ [t]) () = _
  rw [hlen] at hw
  simp only [st94_top, hlen, hw, q121, h121, Option.bind_some, q120, h120]

/-! ## adding -/
def addR (q : Qu) (x w : Int) : Qu × Bool :=
  if queueOk q = true ∧ atF x q.1 0 < 0 ∧ (q.1.length : Int) < 6 ∧ (0 ≤ x ∧ x ≤ 99) ∧ (1 ≤ w ∧ w ≤ 6) then ((ins (x, w, q.2, true) q.1, q.2), true) else (([], 0), false)

theorem okQ_pw {fl : Int} : ∀ {l : List Th} {p : Option Int}, okQ fl p l = true → (∀ y ∈ l, 0 ≤ y.1 ∧ y.1 ≤ 99) ∧ l.Pairwise (fun a b => a.1 < b.1) ∧ ∀ x, p = some x → ∀ y ∈ l, x < y.1
  | [], p, _ => ⟨(fun y hy => by cases hy), List.Pairwise.nil, fun _ _ y hy => by cases hy⟩
  | t :: ts, p, h => by
    simp only [okQ] at h
    cases hk : tkOk fl p t with
    | true =>
      simp only [hk, cond_true] at h
      simp only [tkOk, Bool.and_eq_true, decide_eq_true_eq] at hk
      obtain ⟨h1, h2, h3⟩ := okQ_pw h
      have h4 := h3 t.1 rfl
      refine ⟨fun y hy => ?_, List.pairwise_cons.2 ⟨h4, h2⟩, fun x hx y hy => ?_⟩
      · rcases List.mem_cons.1 hy with rfl | hy
        · exact hk.1
        · exact h1 y hy
      · have := hk.2.2.2.2
        rw [hx] at this
        have := of_decide_eq_true this
        rcases List.mem_cons.1 hy with rfl | hy
        · exact this
        · have := h4 y hy
          omega
    | false =>
      simp only [hk, cond_false] at h
      cases h

theorem p45_eq (n : Nat) (q : Qu) (x w : Int) (hl : q.1.length ≤ 2000000) (hn : q.1.length < n) : p45 n q x w = some (((addR q x w).1, ((addR q x w).2, ())), ()) := by
  obtain ⟨l, fl⟩ := q
  have hl : l.length ≤ 2000000 := hl
  have hn : l.length < n := hn
  show st45_top n (l, fl) x w = _
  have e1 := p96_eq n (l, fl) hl hn
  have e2 := p97_eq n (l, fl) x hl hn
  have e3 : p99 n (l, fl) = some (((l, fl), ()), ()) := by
    have h3 : (0 + l.length) * 32 ≤ 140737488355328 := by omega
    show st99_top n (l, fl) = _
    simp only [st99_top, h3, decide_true, cond_true]
  have e4 := p98_eq n (l, fl) (x, w, fl, true) hl hn
  simp only [st45_top, q96, e1, Option.bind_some, q97, e2, q57, p57_eq, q99, e3, q98, e4, addR]
  cases ho : queueOk (l, fl) with
  | false => simp
  | true =>
    by_cases ha : atF x l 0 < 0
    · have ha' : ¬ 0 ≤ atF x l 0 := by omega
      by_cases h6 : (l.length : Int) < 6
      · have h6' : ¬ (6 : Int) ≤ l.length := by omega
        by_cases hx : 0 ≤ x ∧ x ≤ 99 <;> by_cases hw : 1 ≤ w ∧ w ≤ 6 <;> simp [ha, ha', h6, h6', hx, hw]
      · have h6' : (6 : Int) ≤ l.length := by omega
        simp [ha, ha', h6, h6']
    · have ha' : 0 ≤ atF x l 0 := by omega
      simp [ha, ha']

theorem p44_eq (n : Nat) (q : Qu) (x w : Int) (hl : q.1.length ≤ 2000000) (hn : q.1.length < n) (hn2 : 200 ≤ n) : p44 n q x w = some (((addR q x w).1, ((addR q x w).2, ())), ()) := by
  obtain ⟨l, fl⟩ := q
  have hl : l.length ≤ 2000000 := hl
  have hn : l.length < n := hn
  show st44_top n (l, fl) x w = _
  have e1 := p48_eq n (l, fl) hl hn
  have e2 := p92_eq n (l, fl) x hl hn
  have e3 : p93 n (l, fl) = some (((l, fl), ()), ()) := by
    have h3 : (0 + l.length) * 32 ≤ 140737488355328 := by omega
    show st93_top n (l, fl) = _
    simp only [st93_top, q119, p119, h3, decide_true, cond_true, Option.bind_some]
  have h7 : (l.length + [((x, w, fl, true) : Th)].length) * 32 ≤ 140737488355328 := by simp; omega
  simp only [st44_top, q48, e1, Option.bind_some, q92, e2, q62, p62_eq, q93, e3, h7, decide_true, cond_true, addR]
  cases ho : queueOk (l, fl) with
  | false => simp
  | true =>
    have ho2 := ho
    simp only [queueOk, Bool.and_eq_true, decide_eq_true_eq] at ho2
    obtain ⟨hq, h6, hf⟩ := ho2
    by_cases h6e : (l.length : Int) = 6
    · have h6' : ¬ (l.length : Int) < 6 := by omega
      simp [h6e]
    · have h6' : (l.length : Int) < 6 := by omega
      by_cases ha : atF x l 0 < 0
      · have ha' : ¬ 0 ≤ atF x l 0 := by omega
        by_cases hx : 0 ≤ x ∧ x ≤ 99
        · by_cases hw : 1 ≤ w ∧ w ≤ 6
          · obtain ⟨k1, k2, _⟩ := okQ_pw hq
            have e4 := p94_eq n l (x, w, fl, true) (by omega) hn2 k1 hx k2
            simp only [ha, ha', h6e, h6', hx, hw, q94, e4, Option.bind_some, decide_true, decide_false, Bool.not_true, cond_false, and_self, if_true]
          · simp [ha, ha', h6e, h6', hx, hw]
        · simp [ha, ha', h6e, h6', hx]
      · have ha' : 0 ≤ atF x l 0 := by omega
        simp [ha, ha', h6e]

theorem addR_small (q : Qu) (x w : Int) : (addR q x w).1.1.length ≤ 7 := by
  unfold addR
  split
  · rename_i h
    have := h.2.2.1
    show (ins _ q.1).length ≤ 7
    rw [ins_len]
    omega
  · simp

theorem law12 (q : Qu) (x w : Int) (h1 : q.1.length ≤ 9223372036854775807) : p12 3000000 q x w = some ((true, ()), ()) := by
  obtain ⟨r, hr, hr2⟩ := p49_eq 3000000 q h1
  have e : ∀ q : Qu, (q.1, q.2) = q := fun _ => rfl
  show st12_top 3000000 q x w = _
  simp only [st12_top, q49, e, hr, Option.bind_some]
  by_cases z : r < 0
  · simp only [z, decide_true, cond_true]
  · have g1 := hr2 (by omega)
    have hto := p50_eq 3000000 q (by omega) (by omega)
    have hsp := p45_eq 3000000 q x w (by omega) (by omega)
    have him := p44_eq 3000000 q x w (by omega) (by omega) (by omega)
    have s1 := addR_small q x w
    have hrefl := p51_refl 3000000 (addR q x w).1 (by omega) (by omega)
    have hrefl2 := p51_refl 3000000 q (by omega) (by omega)
    have hm1 := p52_eq 3000000 q (by omega) (by omega)
    have hm2 := p52_eq 3000000 (addR q x w).1 (by omega) (by omega)
    have hh := p53_eq 3000000 (addR q x w).1.1.length (addR q x w).1.2 (by omega) (by omega)
    have z1 : ¬ (1 + 4 * (q.1.length : Int) < 0) := by omega
    have z2 : ¬ (1 + 4 * ((addR q x w).1.1.length : Int) < 0) := by omega
    have bb : ∀ b : Bool, (!b == b) = false := by intro b; cases b <;> rfl
    simp only [z, decide_false, cond_false, q50, hto, q45, hsp, q44, him, q51, e, hrefl, hrefl2, q52, hm1, hm2, q53, hh, Option.bind_some, z1, z2, bb, Bool.not_true, decide_true]

abbrev tLQ : Ty := .pair (.row 139 tTh) i64
theorem pure12 (q : Qu) (x w : Int) (h : WfT tLQ q) (hx : (Lit.int .i64 x).wf = true) (hw : (Lit.int .i64 w).wf = true) : ∃ n o, q12 n (q, x, w, ()) = some ((true, ()), o) := ⟨3000000, (), law12 q x w h.1.1⟩
end Go.Proofs.Ytpcohpkflkhfbaa.Rx.S
