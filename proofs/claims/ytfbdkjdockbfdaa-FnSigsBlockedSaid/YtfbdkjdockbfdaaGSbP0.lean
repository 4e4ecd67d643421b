/- Plain laws of those functions, no program in sight: the law answers true on all data. No condition. -/
import GoSem.Claim
import Derived.Test.YtfbdkjdockbfdaaGSbF0
namespace Go.Proofs.Ytfbdkjdockbfdaa.Rx.Pu
open Go
set_option linter.unusedVariables false
set_option linter.unusedSimpArgs false

/-! Plain laws of numbers and lists. -/
theorem wr {x : Int} (h0 : -9223372036854775808 ≤ x) (h1 : x ≤ 9223372036854775807) : IntKind.i64.wrap x = x := by
  have e1 : (2 : Int) ^ IntKind.i64.bits = 18446744073709551616 := rfl
  have e2 : (2 : Int) ^ (IntKind.i64.bits - 1) = 9223372036854775808 := rfl
  have e3 : IntKind.i64.signed = true := rfl
  unfold IntKind.wrap
  simp only [e1, e2, e3, Bool.true_and, decide_eq_true_eq]
  split <;> omega

theorem cond_dec {α : Type} {p : Prop} [Decidable p] {a b : α} : cond (decide p) a b = if p then a else b := by
  by_cases h : p <;> simp [h]

theorem toNat_cast (i : Nat) : ((i : Int)).toNat = i := rfl

theorem getD_drop {α : Type} {l : List α} {i : Nat} {d : α} (h : i < l.length) : l.drop i = l.getD i d :: l.drop (i + 1) := by
  rw [List.drop_eq_getElem_cons h, List.getD_eq_getElem?_getD, List.getElem?_eq_getElem h, Option.getD_some]

/-- the two numbers that are not negative, and small, differ bit by bit to a number that is small -/
theorem xor_small {a b : Int} (ha : 0 ≤ a) (ha2 : a < 4611686018427387904) (hb : 0 ≤ b) (hb2 : b < 4611686018427387904) :
    0 ≤ IntKind.i64.wrap ((BitVec.ofInt IntKind.i64.bits a ^^^ BitVec.ofInt IntKind.i64.bits b).toNat : Int) := by
  have e0 : IntKind.i64.bits = 64 := rfl
  obtain ⟨m, rfl⟩ := Int.eq_ofNat_of_zero_le ha
  obtain ⟨k, rfl⟩ := Int.eq_ofNat_of_zero_le hb
  have hm : m < 2 ^ 62 := by omega
  have hk : k < 2 ^ 62 := by omega
  have hx : m ^^^ k < 2 ^ 62 := Nat.xor_lt_two_pow hm hk
  have e : (BitVec.ofInt IntKind.i64.bits (m : Int) ^^^ BitVec.ofInt IntKind.i64.bits (k : Int)).toNat = m ^^^ k := by
    have h1 : ∀ j : Nat, j < 2 ^ 62 → (BitVec.ofInt IntKind.i64.bits (j : Int)).toNat = j := by
      intro j hj
      rw [BitVec.toNat_ofInt]
      have e9 : ((2 ^ IntKind.i64.bits : Nat) : Int) = 18446744073709551616 := rfl
      rw [e9]
      omega
    rw [BitVec.toNat_xor, h1 m hm, h1 k hk]
  rw [e, wr (by omega) (by omega)]
  omega

theorem tmod_range {a b : Int} (ha : 0 ≤ a) (hb : 1 ≤ b) : 0 ≤ a.tmod b ∧ a.tmod b < b := by
  rw [Int.tmod_eq_emod_of_nonneg ha]
  exact ⟨Int.emod_nonneg _ (by omega), Int.emod_lt_of_pos _ (by omega)⟩
theorem tdiv_range {a b : Int} (ha : 0 ≤ a) (hb : 1 ≤ b) : 0 ≤ a.tdiv b ∧ a.tdiv b ≤ a := by
  rw [Int.tdiv_eq_ediv_of_nonneg ha]
  exact ⟨Int.ediv_nonneg ha (by omega), Int.ediv_le_self _ ha⟩

/-! counting without doubles -/
theorem len_le_of_sub {α : Type} [DecidableEq α] : ∀ {S L : List α}, S.Nodup → (∀ x ∈ S, x ∈ L) → S.length ≤ L.length
  | [], L, _, _ => Nat.zero_le _
  | x :: S, L, hn, hs => by
    have hx : x ∈ L := hs x List.mem_cons_self
    have h1 := List.nodup_cons.1 hn
    have := len_le_of_sub (S := S) (L := L.erase x) h1.2 (fun y hy => (List.mem_erase_of_ne (by rintro rfl; exact h1.1 hy)).2 (hs y (List.mem_cons_of_mem _ hy)))
    rw [List.length_erase_of_mem hx] at this
    have : 0 < L.length := List.length_pos_of_mem hx
    simp; omega

theorem perm_of_sub {α : Type} [DecidableEq α] : ∀ {S L : List α}, S.Nodup → (∀ x ∈ S, x ∈ L) → L.length ≤ S.length → S.Perm L
  | [], L, _, _, hl => by
    have : L = [] := List.eq_nil_of_length_eq_zero (by simpa using hl)
    subst this
    exact .nil
  | x :: S, L, hn, hs, hl => by
    have hx : x ∈ L := hs x List.mem_cons_self
    have h1 := List.nodup_cons.1 hn
    have hp : 0 < L.length := List.length_pos_of_mem hx
    have := perm_of_sub (S := S) (L := L.erase x) h1.2 (fun y hy => (List.mem_erase_of_ne (by rintro rfl; exact h1.1 hy)).2 (hs y (List.mem_cons_of_mem _ hy))) (by
      rw [List.length_erase_of_mem hx]
      simp at hl
      omega)
    exact (this.cons x).trans (List.perm_cons_erase hx).symm
end Go.Proofs.Ytfbdkjdockbfdaa.Rx.Pu
namespace Go.Proofs.Ytfbdkjdockbfdaa.Rx.Pu
open Go
set_option linter.unusedVariables false
set_option linter.unusedSimpArgs false

/-! Loops over lists: copying, comparing with itself, marking, holding against the marks. -/
theorem copy_loop {α β γ : Type} (F : Nat → List α → Int → List β → γ) (R : List β → γ) (g : α → β) (da : α) (xs : List α)
    (hF : ∀ k (i : Nat) (acc : List β), i < xs.length → acc.length = xs.length → F (k + 1) xs i acc = F k xs ((i + 1 : Nat) : Int) (acc.set i (g (xs.getD i da))))
    (hE : ∀ k acc, F (k + 1) xs (xs.length : Int) acc = R acc) : ∀ (d k i : Nat) (acc : List β), acc.length = xs.length → i + d = xs.length → d < k → (∀ j, j < i → acc[j]? = (xs.map g)[j]?) → F k xs i acc = R (xs.map g) := by
  intro d
  induction d with
  | zero =>
    intro k i acc hl hd hk hj
    obtain ⟨k, rfl⟩ : ∃ m, k = m + 1 := ⟨k - 1, by omega⟩
    have hi : i = xs.length := by omega
    subst hi
    rw [hE]
    congr 1
    apply List.ext_getElem?
    intro j
    rcases Nat.lt_or_ge j xs.length with h | h
    · exact hj j h
    · rw [List.getElem?_eq_none (by omega), List.getElem?_eq_none (by simp; omega)]
  | succ d ih =>
    intro k i acc hl hd hk hj
    obtain ⟨k, rfl⟩ : ∃ m, k = m + 1 := ⟨k - 1, by omega⟩
    rw [hF k i acc (by omega) hl]
    refine ih k (i + 1) _ (by simp [hl]) (by omega) (by omega) (fun j hji => ?_)
    rcases Nat.lt_or_ge j i with h | h
    · rw [List.getElem?_set_ne (by omega)]
      exact hj j h
    · obtain rfl : j = i := by omega
      rw [List.getElem?_set_self (by omega)]
      simp [List.getD_eq_getElem?_getD, List.getElem?_eq_getElem (show j < xs.length by omega)]

theorem round_loop {γ : Type} (F : Nat → Int → γ) (r : γ) (n : Nat) (hF : ∀ k (i : Nat), i < n → F (k + 1) i = F k ((i + 1 : Nat) : Int)) (hE : ∀ k, F (k + 1) (n : Int) = r) : ∀ (d k i : Nat), i + d = n → d < k → F k i = r := by
  intro d
  induction d with
  | zero =>
    intro k i hd hk
    obtain ⟨k, rfl⟩ : ∃ m, k = m + 1 := ⟨k - 1, by omega⟩
    have hi : i = n := by omega
    subst hi
    exact hE k
  | succ d ih =>
    intro k i hd hk
    obtain ⟨k, rfl⟩ : ∃ m, k = m + 1 := ⟨k - 1, by omega⟩
    rw [hF k i (by omega)]
    exact ih k (i + 1) (by omega) (by omega)

/-- what marks are: from m on, s of them an element -/
def marks {α : Type} (f : Int → α) (s m : Int) (n : Nat) : List α := (List.range n).map fun (j : Nat) => f (m + s * j)
theorem marks_length {α : Type} (f : Int → α) (s m : Int) (n : Nat) : (marks f s m n).length = n := by simp [marks]
theorem marks_getD {α : Type} (f : Int → α) (s m : Int) (n j : Nat) (h : j < n) (d : α) : (marks f s m n).getD j d = f (m + s * j) := by
  simp [marks, List.getD_eq_getElem?_getD, h]

theorem mark_loop {α γ : Type} (F : Nat → Int → Int → List α → γ) (R : Int → List α → γ) (f : Int → α) (s m0 : Int) (n : Nat)
    (hF : ∀ k (i : Nat) (xs : List α), i < n → xs.length = n → F (k + 1) (m0 + s * i) i xs = F k (m0 + s * ((i + 1 : Nat) : Int)) ((i + 1 : Nat) : Int) (xs.set i (f (m0 + s * i))))
    (hE : ∀ k (xs : List α), xs.length = n → F (k + 1) (m0 + s * n) n xs = R (m0 + s * n) xs) : ∀ (d k i : Nat) (xs : List α), xs.length = n → i + d = n → d < k → (∀ j, j < i → xs[j]? = (marks f s m0 n)[j]?) →
    F k (m0 + s * i) i xs = R (m0 + s * n) (marks f s m0 n) := by
  intro d
  induction d with
  | zero =>
    intro k i xs hl hd hk hj
    obtain ⟨k, rfl⟩ : ∃ m, k = m + 1 := ⟨k - 1, by omega⟩
    have hin : i = n := by omega
    subst hin
    rw [hE k xs hl]
    congr 1
    apply List.ext_getElem?
    intro j
    rcases Nat.lt_or_ge j i with h | h
    · exact hj j h
    · rw [List.getElem?_eq_none (by omega), List.getElem?_eq_none (by rw [marks_length]; omega)]
  | succ d ih =>
    intro k i xs hl hd hk hj
    obtain ⟨k, rfl⟩ : ∃ m, k = m + 1 := ⟨k - 1, by omega⟩
    rw [hF k i xs (by omega) hl]
    refine ih k (i + 1) _ (by simp [hl]) (by omega) (by omega) (fun j hji => ?_)
    rcases Nat.lt_or_ge j i with h | h
    · rw [List.getElem?_set_ne (by omega)]
      exact hj j h
    · obtain rfl : j = i := by omega
      rw [List.getElem?_set_self (by omega)]
      simp [marks, show j < n by omega]

theorem held_loop {γ : Type} (F : Nat → Int → Int → γ) (R : Int → γ) (s m0 : Int) (n : Nat)
    (hF : ∀ k (i : Nat), i < n → F (k + 1) (m0 + s * i) i = F k (m0 + s * ((i + 1 : Nat) : Int)) ((i + 1 : Nat) : Int)) (hE : ∀ k, F (k + 1) (m0 + s * n) n = R (m0 + s * n)) : ∀ (d k i : Nat), i + d = n → d < k → F k (m0 + s * i) i = R (m0 + s * n) := by
  intro d
  induction d with
  | zero =>
    intro k i hd hk
    obtain ⟨k, rfl⟩ : ∃ m, k = m + 1 := ⟨k - 1, by omega⟩
    have hin : i = n := by omega
    subst hin
    exact hE k
  | succ d ih =>
    intro k i hd hk
    obtain ⟨k, rfl⟩ : ∃ m, k = m + 1 := ⟨k - 1, by omega⟩
    rw [hF k i (by omega)]
    exact ih k (i + 1) (by omega) (by omega)
end Go.Proofs.Ytfbdkjdockbfdaa.Rx.Pu
namespace Go.Proofs.Ytfbdkjdockbfdaa.Rx.S
open Go Go.Proofs.Ytfbdkjdockbfdaa.Rx.Pu
set_option linter.unusedVariables false
set_option linter.unusedSimpArgs false

theorem lt_t {i n : Nat} (h : i < n) : decide ((i : Int) < (n : Int)) = true := by simp; omega
theorem lt_f (n : Nat) : decide ((n : Int) < (n : Int)) = false := by simp
theorem ge_t (i : Nat) : decide ((0 : Int) ≤ (i : Int)) = true := by simp
theorem succI (i : Nat) : (i : Int) + 1 = ((i + 1 : Nat) : Int) := by omega

theorem p46_eq (n : Nat) (a b c : Int) : p46 n a b c = some ((decide (b ≤ a ∧ a ≤ c), ()), ()) := by
  show st46_top n a b c = _
  simp only [st46_top, cond_dec]
  by_cases h : b ≤ a <;> simp [h]
theorem p42_eq (n : Nat) (a b c : Int) : p42 n a b c = some ((decide (b ≤ a ∧ a ≤ c), ()), ()) := by
  show st42_top n a b c = _
  simp only [st42_top, cond_dec]
  by_cases h : b ≤ a <;> simp [h]

/-! ## what is drawn -/
def Bys (l : List Int) : Prop := (∀ x ∈ l, 0 ≤ x ∧ x < 256) ∧ l.length ≤ 2000

theorem Bys.get {l : List Int} (h : Bys l) (i : Nat) : 0 ≤ l.getD i 0 ∧ l.getD i 0 < 256 := by
  rw [List.getD_eq_getElem?_getD]
  cases hi : l[i]? with
  | none => simp
  | some x => exact h.1 x (List.mem_of_getElem? hi)

theorem p40_eq (n : Nat) {l : List Int} (hl : Bys l) {pos b : Int} (hp : 0 ≤ pos ∧ pos < 1000000) (hb : 1 ≤ b) :
    ∃ v : Int, p40 n (l, pos) b = some ((v, ()), ((l, pos + 1), ())) ∧ 0 ≤ v ∧ v < b := by
  have e1 : IntKind.i64.wrap (pos + 1) = pos + 1 := wr (by omega) (by omega)
  have e2 : IntKind.i64.wrap (pos + 1 - 1) = pos := (wr (x := pos + 1 - 1) (by omega) (by omega)).trans (by omega)
  have e3 : IntKind.i64.wrap (pos * 7) = pos * 7 := wr (by omega) (by omega)
  have e4 : IntKind.i64.wrap (pos * 7 + 3) = pos * 7 + 3 := wr (by omega) (by omega)
  have e5 : IntKind.i64.wrap (pos * 29) = pos * 29 := wr (by omega) (by omega)
  have hlen := hl.2
  show ∃ v : Int, st40_top n (l, pos) b = _ ∧ _
  have hb1 : ¬ b < 1 := by omega
  have hb2 : ¬ b = 0 := by omega
  simp only [st40_top, e1, e2, e3, e4, e5, hb1, hb2, decide_false, cond_false, Bool.not_false, cond_true]
  by_cases h0 : (l.length : Int) = 0
  · simp only [h0, decide_true, cond_true]
    exact ⟨0, rfl, by omega, by omega⟩
  · have hl1 : (1 : Int) ≤ l.length := by omega
    simp only [h0, decide_false, cond_false, Bool.not_false, cond_true]
    by_cases h1 : pos < (l.length : Int)
    · have hp0 : (0 : Int) ≤ pos := hp.1
      simp only [h1, hp0, decide_true, cond_true]
      have hg := hl.get pos.toNat
      rw [wr (by omega) (by omega)]
      exact ⟨_, rfl, tmod_range hg.1 hb⟩
    · simp only [h1, decide_false, cond_false]
      have t1 := tmod_range (a := pos) (b := l.length) hp.1 hl1
      have t2 := tmod_range (a := pos * 7 + 3) (b := l.length) (by omega) hl1
      have t3 := tdiv_range (a := pos) (b := l.length) hp.1 hl1
      simp only [t1.1, t1.2, t2.1, t2.2, decide_true, cond_true]
      have g1 := hl.get (pos.tmod l.length).toNat
      have g2 := hl.get ((pos * 7 + 3).tmod l.length).toNat
      generalize l.getD (pos.tmod l.length).toNat 0 = y1 at *
      generalize l.getD ((pos * 7 + 3).tmod l.length).toNat 0 = y2 at *
      generalize pos.tdiv l.length = q at *
      have w1 : IntKind.i64.wrap y1 = y1 := wr (by omega) (by omega)
      have w2 : IntKind.i64.wrap (y1 * 131) = y1 * 131 := wr (by omega) (by omega)
      have w3 : IntKind.i64.wrap y2 = y2 := wr (by omega) (by omega)
      have w4 : IntKind.i64.wrap (y2 * 1117) = y2 * 1117 := wr (by omega) (by omega)
      have w5 : IntKind.i64.wrap (y1 * 131 + y2 * 1117) = y1 * 131 + y2 * 1117 := wr (by omega) (by omega)
      have w6 : IntKind.i64.wrap (y1 * 131 + y2 * 1117 + pos * 29) = y1 * 131 + y2 * 1117 + pos * 29 := wr (by omega) (by omega)
      have w7 : IntKind.i64.wrap q = q := wr (by omega) (by omega)
      have w8 : IntKind.i64.wrap (q * 53) = q * 53 := wr (by omega) (by omega)
      have w9 : IntKind.i64.wrap (y1 * 131 + y2 * 1117 + pos * 29 + q * 53) = y1 * 131 + y2 * 1117 + pos * 29 + q * 53 := wr (by omega) (by omega)
      simp only [w1, w2, w3, w4, w5, w6, w7, w8, w9]
      have hS : 0 ≤ y1 * 131 + y2 * 1117 + pos * 29 + q * 53 ∧ y1 * 131 + y2 * 1117 + pos * 29 + q * 53 < 1000000000000 := by omega
      generalize y1 * 131 + y2 * 1117 + pos * 29 + q * 53 = S at *
      have hd := tdiv_range (a := S) (b := 64) hS.1 (by omega)
      have w10 : IntKind.i64.wrap (S.tdiv 64) = S.tdiv 64 := wr (by omega) (by omega)
      simp only [w10]
      exact ⟨_, rfl, tmod_range (xor_small hS.1 (by omega) hd.1 (by omega)) hb⟩

theorem p38_eq (n : Nat) {l : List Int} (hl : ∀ x ∈ l, 0 ≤ x ∧ x < 256) : ∃ l', p38 n l = some (((l', 0), ()), ()) ∧ Bys l' := by
  show ∃ l', st38_top n l = _ ∧ _
  simp only [st38_top]
  by_cases h : (2000 : Int) < l.length
  · have h2 : (2000 : Int) ≤ l.length := by omega
    simp only [h, h2, decide_true, cond_true]
    refine ⟨_, rfl, fun x hx => hl x (List.mem_of_mem_take hx), ?_⟩
    rw [List.length_take]
    exact Nat.min_le_left _ _
  · simp only [h, decide_false, cond_false]
    exact ⟨_, rfl, hl, by omega⟩

/-! ## the same is the same -/
theorem p50_L4_refl (n : Nat) (l : List Int) (hl : l.length < 4611686018427387904) : ∀ (m i : Nat), i ≤ l.length → l.length - i < m → p50_L4 n m l l i = some ((true, ()), ())
  | 0, i, _, h => by omega
  | m + 1, i, hi, h => by
    show st50_L4 n (p50_L4 n m) l l i = _
    simp only [st50_L4]
    by_cases h1 : i < l.length
    · have h2 : decide ((i : Int) < (l.length : Int)) = true := by simp; omega
      have h3 : decide ((0 : Int) ≤ (i : Int)) = true := by simp
      simp only [h2, h3, cond_true, decide_true, Bool.not_true, cond_false]
      rw [wr (by omega) (by omega), show ((i : Int) + 1) = ((i + 1 : Nat) : Int) by omega]
      exact p50_L4_refl n l hl m (i + 1) (by omega) (by omega)
    · have h2 : decide ((i : Int) < (l.length : Int)) = false := by simp; omega
      simp only [h2, cond_false]
theorem p50_refl (n : Nat) (l : List Int) (hl : l.length < 4611686018427387904) (hn : l.length < n) : p50 n l l = some ((true, ()), ()) := by
  show st50_top n (p50_L4 n n) l l = _
  simp only [st50_top, decide_true, Bool.not_true, cond_false]
  exact p50_L4_refl n l hl n 0 (by omega) (by omega)


theorem bnn (b : Bool) : (!b == b) = false := by cases b <;> rfl
theorem p49_L4_refl (n : Nat) (l : List Bool) (hl : l.length < 4611686018427387904) : ∀ (m i : Nat), i ≤ l.length → l.length - i < m → p49_L4 n m l l i = some ((true, ()), ())
  | 0, i, _, h => by omega
  | m + 1, i, hi, h => by
    show st49_L4 n (p49_L4 n m) l l i = _
    simp only [st49_L4]
    by_cases h1 : i < l.length
    · have h2 : decide ((i : Int) < (l.length : Int)) = true := by simp; omega
      have h3 : decide ((0 : Int) ≤ (i : Int)) = true := by simp
      simp only [h2, h3, cond_true, decide_true, Bool.not_true, cond_false, bnn]
      rw [wr (by omega) (by omega), show ((i : Int) + 1) = ((i + 1 : Nat) : Int) by omega]
      exact p49_L4_refl n l hl m (i + 1) (by omega) (by omega)
    · have h2 : decide ((i : Int) < (l.length : Int)) = false := by simp; omega
      simp only [h2, cond_false]
theorem p49_refl (n : Nat) (l : List Bool) (hl : l.length < 4611686018427387904) (hn : l.length < n) : p49 n l l = some ((true, ()), ()) := by
  show st49_top n (p49_L4 n n) l l = _
  simp only [st49_top, decide_true, Bool.not_true, cond_false]
  exact p49_L4_refl n l hl n 0 (by omega) (by omega)


/-! ## signals -/
abbrev Sg := List Bool × List Bool × List Int
theorem p12_refl (n : Nat) (s : Sg) (h1 : s.1.length ≤ 8) (h2 : s.2.1.length ≤ 8) (h3 : s.2.2.length ≤ 8) (hn : 100 ≤ n) : p12 n s s = some ((true, ()), ()) := by
  obtain ⟨h, b, d⟩ := s
  have h1 : h.length ≤ 8 := h1
  have h2 : b.length ≤ 8 := h2
  have h3 : d.length ≤ 8 := h3
  show st12_top n (h, b, d) (h, b, d) = _
  simp only [st12_top, q49, q50, p49_refl n h (by omega) (by omega), p49_refl n b (by omega) (by omega), p50_refl n d (by omega) (by omega), Option.bind_some, cond_true]

def okAt (b : List Bool) (d : List Int) (i : Nat) : Bool :=
  (decide (d.getD i 0 = 0) || (decide (d.getD i 0 = 1) || decide (d.getD i 0 = 4))) && (!(decide (i = 0) || decide (i = 1)) || (!b.getD i false && decide (d.getD i 0 = 0)))
def okFrom (b : List Bool) (d : List Int) : Nat → Nat → Bool
  | _, 0 => true
  | i, r + 1 => cond (okAt b d i) (okFrom b d (i + 1) r) false
def sigsOk (s : Sg) : Bool := decide ((s.1.length : Int) = 8) && (decide ((s.2.1.length : Int) = 8) && (decide ((s.2.2.length : Int) = 8) && okFrom s.2.1 s.2.2 0 8))

theorem p41_L4_eq (n : Nat) (h b : List Bool) (d : List Int) (hb : b.length = 8) (hd : d.length = 8) : ∀ (m r i : Nat), i + r = 8 → r < m → p41_L4 n m d d.length i h b d = some ((okFrom b d i r, ()), ())
  | 0, r, i, _, h => by omega
  | m + 1, 0, i, hi, hm => by
    have : i = d.length := by omega
    subst this
    show st41_L4 n (p41_L4 n m) d d.length d.length h b d = _
    simp only [st41_L4, lt_f, cond_false]
    rfl
  | m + 1, r + 1, i, hi, hm => by
    show st41_L4 n (p41_L4 n m) d d.length i h b d = _
    have ih := p41_L4_eq n h b d hb hd m r (i + 1) (by omega) (by omega)
    simp only [st41_L4, lt_t (show i < d.length by omega), lt_t (show i < b.length by omega), ge_t, cond_true, toNat_cast, okFrom, okAt]
    rw [wr (x := (i : Int) + 1) (by omega) (by omega), succI, ih]
    have c1 : decide (((i + 1 : Nat) : Int) = 1) = decide (i = 0) := by by_cases h : i = 0 <;> simp [h] <;> omega
    have c2 : decide (((i + 1 : Nat) : Int) = 2) = decide (i = 1) := by by_cases h : i = 1 <;> simp [h] <;> omega
    simp only [c1, c2]
    generalize okFrom b d (i + 1) r = o
    generalize decide (d.getD i 0 = 0) = x0
    generalize decide (d.getD i 0 = 1) = x1
    generalize decide (d.getD i 0 = 4) = x4
    generalize b.getD i false = z
    cases decide (i = 0) <;> cases decide (i = 1) <;> cases x0 <;> cases x1 <;> cases x4 <;> cases z <;> cases o <;> rfl
theorem p41_eq (n : Nat) (hn : 100 ≤ n) (s : Sg) : p41 n s = some ((sigsOk s, ()), ()) := by
  obtain ⟨h, b, d⟩ := s
  show st41_top n (p41_L4 n n) (h, b, d) = _
  simp only [st41_top, sigsOk]
  by_cases h1 : (h.length : Int) = 8 <;> by_cases h2 : (b.length : Int) = 8 <;> by_cases h3 : (d.length : Int) = 8 <;> simp only [h1, h2, h3, decide_true, decide_false, Bool.not_true, Bool.not_false, cond_true, cond_false, Bool.true_and, Bool.false_and]
  have := p41_L4_eq n h b d (by omega) (by omega) n 8 0 (by omega) (by omega)
  rw [h3] at this
  exact this

theorem p45_L4_eq (n : Nat) (h b : List Bool) (d : List Int) (hb : b.length = 8) (hd : d.length = 8) : ∀ (m r i : Nat), i + r = 8 → r < m → p45_L4 n m i h b d = some ((okFrom b d i r, ()), ())
  | 0, r, i, _, h => by omega
  | m + 1, 0, i, hi, hm => by
    have : i = 8 := by omega
    subst this
    show st45_L4 n (p45_L4 n m) ((8 : Nat) : Int) h b d = _
    simp only [st45_L4]
    rfl
  | m + 1, r + 1, i, hi, hm => by
    show st45_L4 n (p45_L4 n m) i h b d = _
    have ih := p45_L4_eq n h b d hb hd m r (i + 1) (by omega) (by omega)
    have l8 : decide ((i : Int) < 8) = true := by simp; omega
    simp only [st45_L4, l8, lt_t (show i < d.length by omega), lt_t (show i < b.length by omega), ge_t, cond_true, toNat_cast, okFrom, okAt, q89, p89, st89_top]
    rw [wr (x := (i : Int) + 1) (by omega) (by omega), succI, ih]
    have c1 : decide (((i + 1 : Nat) : Int) = 1) = decide (i = 0) := by by_cases h : i = 0 <;> simp [h] <;> omega
    have c2 : decide (((i + 1 : Nat) : Int) = 2) = decide (i = 1) := by by_cases h : i = 1 <;> simp [h] <;> omega
    simp only [c1, c2]
    generalize okFrom b d (i + 1) r = o
    generalize decide (d.getD i 0 = 0) = x0
    generalize decide (d.getD i 0 = 1) = x1
    generalize decide (d.getD i 0 = 4) = x4
    generalize b.getD i false = z
    cases decide (i = 0) <;> cases decide (i = 1) <;> cases x0 <;> cases x1 <;> cases x4 <;> cases z <;> cases o <;> rfl
theorem p45_eq (n : Nat) (hn : 100 ≤ n) (s : Sg) : p45 n s = some ((sigsOk s, ()), ()) := by
  obtain ⟨h, b, d⟩ := s
  show st45_top n (p45_L4 n n) (h, b, d) = _
  simp only [st45_top, sigsOk]
  by_cases h1 : (h.length : Int) = 8 <;> by_cases h2 : (b.length : Int) = 8 <;> by_cases h3 : (d.length : Int) = 8 <;> simp only [h1, h2, h3, decide_true, decide_false, Bool.not_true, Bool.not_false, cond_true, cond_false, Bool.true_and, Bool.false_and]
  exact p45_L4_eq n h b d (by omega) (by omega) n 8 0 (by omega) (by omega)

structure Ok8 (s : Sg) : Prop where
  h : s.1.length = 8
  b : s.2.1.length = 8
  d : s.2.2.length = 8
  ok : okFrom s.2.1 s.2.2 0 8 = true
theorem sigsOk_iff (s : Sg) : sigsOk s = true ↔ Ok8 s := by
  simp only [sigsOk, Bool.and_eq_true, decide_eq_true_eq]
  constructor
  · rintro ⟨h1, h2, h3, h4⟩; exact ⟨by omega, by omega, by omega, h4⟩
  · rintro ⟨h1, h2, h3, h4⟩; exact ⟨by omega, by omega, by omega, h4⟩

def doesF (d : List Int) (j : Nat) : Int :=
  if d.getD j 0 = 0 then (if j = 1 then 2 else if j = 5 then 2 else if j = 2 then 3 else if j = 3 then 1 else if j = 6 then 1 else 0) else d.getD j 0
theorem jj {j : Nat} (hj : j < 8) : IntKind.i64.wrap (((j + 1 : Nat) : Int) - 1) = (j : Int) := (wr (x := ((j + 1 : Nat) : Int) - 1) (by omega) (by omega)).trans (by omega)
theorem eqj (j k : Nat) : decide (((j + 1 : Nat) : Int) = ((k + 1 : Nat) : Int)) = decide (j = k) := by by_cases h : j = k <;> simp [h] <;> omega
theorem p44_eq (n : Nat) (s : Sg) (hd : s.2.2.length = 8) (j : Nat) (hj : j < 8) : p44 n s ((j + 1 : Nat) : Int) = some ((doesF s.2.2 j, ()), ()) := by
  obtain ⟨h, b, d⟩ := s
  have hd : d.length = 8 := hd
  show st44_top n (h, b, d) ((j + 1 : Nat) : Int) = _
  have e2 := eqj j 1; have e6 := eqj j 5; have e3 := eqj j 2; have e4 := eqj j 3; have e7 := eqj j 6
  simp only [st44_top, jj hj, lt_t (show j < d.length by omega), ge_t, cond_true, toNat_cast, q92, p92, st92_top, doesF]
  rcases (by omega : j = 0 ∨ j = 1 ∨ j = 2 ∨ j = 3 ∨ j = 4 ∨ j = 5 ∨ j = 6 ∨ j = 7) with rfl | rfl | rfl | rfl | rfl | rfl | rfl | rfl <;> cases hz : decide (d.getD _ 0 = 0) <;> simp_all
theorem p93_eq (n : Nat) (s : Sg) (hd : s.2.2.length = 8) (j : Nat) (hj : j < 8) : p93 n s ((j + 1 : Nat) : Int) = some ((doesF s.2.2 j, ()), ()) := by
  obtain ⟨h, b, d⟩ := s
  have hd : d.length = 8 := hd
  show st93_top n (h, b, d) ((j + 1 : Nat) : Int) = _
  simp only [st93_top, jj hj, lt_t (show j < d.length by omega), ge_t, cond_true, toNat_cast, doesF]
  rcases (by omega : j = 0 ∨ j = 1 ∨ j = 2 ∨ j = 3 ∨ j = 4 ∨ j = 5 ∨ j = 6 ∨ j = 7) with rfl | rfl | rfl | rfl | rfl | rfl | rfl | rfl <;> cases hz : decide (d.getD _ 0 = 0) <;> simp_all
end Go.Proofs.Ytfbdkjdockbfdaa.Rx.S
namespace Go.Proofs.Ytfbdkjdockbfdaa.Rx.S
open Go Go.Proofs.Ytfbdkjdockbfdaa.Rx.Pu
set_option linter.unusedVariables false
set_option linter.unusedSimpArgs false

def sendB (h : List Bool) (j : Nat) : List Bool := if j = 1 then h.set 2 false else if j = 5 then h.set 2 false else if j = 2 then (h.set 1 false).set 5 false else h
def sendF (s : Sg) (j : Nat) : Sg := (cond (s.2.1.getD j false || !decide (doesF s.2.2 j = 1)) ((sendB s.1 j).set j true) (sendB s.1 j), s.2.1, s.2.2)
def sendR (s : Sg) (x : Int) : Sg × Bool := bif sigsOk s && decide (1 ≤ x ∧ x ≤ 8) then (sendF s (x - 1).toNat, true) else (([], [], []), false)

theorem clone_eq (n : Nat) (s : Sg) (h : Ok8 s) : p43 n s = some ((s, ()), ()) ∧ p48 n s = some ((s, ()), ()) := by
  obtain ⟨h0, b, d⟩ := s
  have h1 : h0.length = 8 := h.h
  have h2 : b.length = 8 := h.b
  have h3 : d.length = 8 := h.d
  constructor
  · show st43_top n (h0, b, d) = _
    simp only [st43_top, q90, p90, q91, p91, h1, h2, h3]
    rfl
  · show st48_top n (h0, b, d) = _
    simp only [st48_top, h1, h2, h3]
    rfl

theorem p10_eq (n : Nat) (hn : 100 ≤ n) (s : Sg) (x : Int) : p10 n s x = some (((sendR s x).1, ((sendR s x).2, ())), ()) := by
  obtain ⟨h, b, d⟩ := s
  show st10_top n (h, b, d) x = _
  simp only [st10_top, q41, p41_eq n hn, Option.bind_some, sendR]
  cases hk : sigsOk (h, b, d) with
  | false => rfl
  | true =>
    have hok := (sigsOk_iff _).1 hk
    have h1 : h.length = 8 := hok.h
    have h2 : b.length = 8 := hok.b
    have h3 : d.length = 8 := hok.d
    simp only [Bool.not_true, cond_false, Bool.true_and, q42, p42_eq, Option.bind_some, q43, (clone_eq n _ hok).1]
    by_cases hx : 1 ≤ x ∧ x ≤ 8
    · obtain ⟨j, hj⟩ := Int.eq_ofNat_of_zero_le (show 0 ≤ x - 1 by omega)
      have hxj : x = ((j + 1 : Nat) : Int) := by omega
      subst hxj
      have hj8 : j < 8 := by omega
      have hjn : (((j + 1 : Nat) : Int) - 1).toNat = j := by omega
      have e2 : decide (((j + 1 : Nat) : Int) = 2) = decide (j = 1) := eqj j 1
      have e6 : decide (((j + 1 : Nat) : Int) = 6) = decide (j = 5) := eqj j 5
      have e3 : decide (((j + 1 : Nat) : Int) = 3) = decide (j = 2) := eqj j 2
      have l2 : ((2 : Int) < 8) := by decide
      simp only [hx, and_self, decide_true, Bool.not_true, cond_false, cond_true, e2, e6, e3, List.length_set, h1, h2, jj hj8, hjn, toNat_cast, ge_t, lt_t hj8, q44, p44_eq n (h, b, d) h3 j hj8, Option.bind_some, sendF, sendB]
      have z1 : Int.toNat 2 = 2 := rfl
      have z2 : Int.toNat 1 = 1 := rfl
      have z3 : Int.toNat 5 = 5 := rfl
      have z4 : decide ((2 : Int) < ((8 : Nat) : Int)) = true := rfl
      have z5 : decide ((1 : Int) < ((8 : Nat) : Int)) = true := rfl
      have z6 : decide ((5 : Int) < ((8 : Nat) : Int)) = true := rfl
      simp only [z1, z2, z3, z4, z5, z6, cond_true]
      generalize b.getD j false = z
      generalize decide (doesF d j = 1) = w
      by_cases j1 : j = 1
      · subst j1; cases z <;> cases w <;> rfl
      · by_cases j5 : j = 5
        · subst j5; cases z <;> cases w <;> rfl
        · by_cases j2 : j = 2
          · subst j2; cases z <;> cases w <;> rfl
          · simp only [j1, j5, j2, decide_false, cond_false, if_false]
            cases z <;> cases w <;> rfl
    · simp only [hx, decide_false, Bool.not_false, cond_true, cond_false]

theorem p47_eq (n : Nat) (s : Sg) (hok : Ok8 s) (j : Nat) (hj8 : j < 8) : p47 n s ((j + 1 : Nat) : Int) = some ((sendF s j, ()), ()) := by
  obtain ⟨h, b, d⟩ := s
  have h1 : h.length = 8 := hok.h
  have h2 : b.length = 8 := hok.b
  have h3 : d.length = 8 := hok.d
  show st47_top n (h, b, d) ((j + 1 : Nat) : Int) = _
  have e2 : decide (((j + 1 : Nat) : Int) = 2) = decide (j = 1) := eqj j 1
  have e6 : decide (((j + 1 : Nat) : Int) = 6) = decide (j = 5) := eqj j 5
  have e3 : decide (((j + 1 : Nat) : Int) = 3) = decide (j = 2) := eqj j 2
  have k93 : ∀ hh, p93 n (hh, b, d) ((j + 1 : Nat) : Int) = some ((doesF d j, ()), ()) := fun hh => p93_eq n (hh, b, d) h3 j hj8
  simp only [st47_top, cond_false, cond_true, e2, e6, e3, List.length_set, h1, h2, jj hj8, toNat_cast, ge_t, lt_t hj8, q93, k93, Option.bind_some, sendF, sendB]
  have z1 : Int.toNat 2 = 2 := rfl
  have z2 : Int.toNat 1 = 1 := rfl
  have z3 : Int.toNat 5 = 5 := rfl
  have z4 : decide ((2 : Int) < ((8 : Nat) : Int)) = true := rfl
  have z5 : decide ((1 : Int) < ((8 : Nat) : Int)) = true := rfl
  have z6 : decide ((5 : Int) < ((8 : Nat) : Int)) = true := rfl
  simp only [z1, z2, z3, z4, z5, z6, cond_true]
  generalize b.getD j false = z
  generalize decide (doesF d j = 1) = w
  by_cases j1 : j = 1
  · subst j1; cases z <;> cases w <;> rfl
  · by_cases j5 : j = 5
    · subst j5; cases z <;> cases w <;> rfl
    · by_cases j2 : j = 2
      · subst j2; cases z <;> cases w <;> rfl
      · simp only [j1, j5, j2, decide_false, cond_false, if_false]
        cases z <;> cases w <;> rfl
theorem p11_eq (n : Nat) (hn : 100 ≤ n) (s : Sg) (x : Int) : p11 n s x = some (((sendR s x).1, ((sendR s x).2, ())), ()) := by
  show st11_top n s x = _
  have e : (s.1, s.2.1, s.2.2) = s := rfl
  simp only [st11_top, q45, e, p45_eq n hn, Option.bind_some, sendR]
  cases hk : sigsOk s with
  | false => rfl
  | true =>
    have hok := (sigsOk_iff _).1 hk
    simp only [Bool.not_true, cond_false, Bool.true_and, q46, p46_eq, Option.bind_some, q48, (clone_eq n _ hok).2, e]
    by_cases hx : 1 ≤ x ∧ x ≤ 8
    · obtain ⟨j, hj⟩ := Int.eq_ofNat_of_zero_le (show 0 ≤ x - 1 by omega)
      have hxj : x = ((j + 1 : Nat) : Int) := by omega
      subst hxj
      have hjn : (((j + 1 : Nat) : Int) - 1).toNat = j := by omega
      simp only [hx, and_self, decide_true, Bool.not_true, cond_false, cond_true, q47, p47_eq n s hok j (by omega), Option.bind_some, hjn]
    · simp only [hx, decide_false, Bool.not_false, cond_true, cond_false]

/-! ## the next one -/
def firstF (h b : List Bool) : Nat → Nat → Nat
  | _, 0 => 0
  | i, r + 1 => cond (h.getD i false && !b.getD i false) (i + 1) (firstF h b (i + 1) r)
theorem firstF_spec (h b : List Bool) : ∀ (r i : Nat), (firstF h b i r = 0 ∧ ∀ t, i ≤ t → t < i + r → (h.getD t false && !b.getD t false) = false) ∨
    ∃ t, firstF h b i r = t + 1 ∧ i ≤ t ∧ t < i + r ∧ (h.getD t false && !b.getD t false) = true ∧ ∀ u, i ≤ u → u < t → (h.getD u false && !b.getD u false) = false
  | 0, i => .inl ⟨rfl, fun t h1 h2 => by omega⟩
  | r + 1, i => by
    simp only [firstF]
    cases hc : (h.getD i false && !b.getD i false) with
    | true => exact .inr ⟨i, rfl, by omega, by omega, hc, fun u h1 h2 => by omega⟩
    | false =>
      rcases firstF_spec h b r (i + 1) with ⟨h1, h2⟩ | ⟨t, h1, h2, h3, h4, h5⟩
      · refine .inl ⟨h1, fun t g1 g2 => ?_⟩
        by_cases e : t = i
        · rw [e]; exact hc
        · exact h2 t (by omega) (by omega)
      · refine .inr ⟨t, h1, by omega, by omega, h4, fun u g1 g2 => ?_⟩
        by_cases e : u = i
        · rw [e]; exact hc
        · exact h5 u (by omega) g2
theorem p51_L2_eq (n : Nat) (h b : List Bool) (d : List Int) (hh : h.length = 8) (hb : b.length = 8) : ∀ (m r i : Nat), i + r = 8 → r < m → p51_L2 n m ((i + 1 : Nat) : Int) h b d = some ((((firstF h b i r : Nat) : Int), ()), ())
  | 0, r, i, _, h => by omega
  | m + 1, 0, i, hi, hm => by
    have : i = 8 := by omega
    subst this
    show st51_L2 n (p51_L2 n m) ((8 + 1 : Nat) : Int) h b d = _
    simp only [st51_L2]
    rfl
  | m + 1, r + 1, i, hi, hm => by
    show st51_L2 n (p51_L2 n m) ((i + 1 : Nat) : Int) h b d = _
    have ih := p51_L2_eq n h b d hh hb m r (i + 1) (by omega) (by omega)
    have l8 : decide (((i + 1 : Nat) : Int) ≤ 8) = true := by simp; omega
    simp only [st51_L2, l8, jj (show i < 8 by omega), lt_t (show i < h.length by omega), lt_t (show i < b.length by omega), ge_t, cond_true, toNat_cast, q52, p52, st52_top, Option.bind_some, firstF]
    rw [wr (x := ((i + 1 : Nat) : Int) + 1) (by omega) (by omega), succI, ih]
    cases h.getD i false <;> cases b.getD i false <;> rfl

def nextF (s : Sg) : Sg × Nat := (bif decide (firstF s.1 s.2.1 0 8 = 0) then s else (s.1.set (firstF s.1 s.2.1 0 8 - 1) false, s.2.1, s.2.2), firstF s.1 s.2.1 0 8)
theorem p13_eq (n : Nat) (hn : 100 ≤ n) (s : Sg) (hok : Ok8 s) : ∃ (w : Int), p13 n s = some (((nextF s).1, ((((nextF s).2 : Nat) : Int), (w, (!decide ((nextF s).2 = 0), ())))), ()) := by
  have hk := (sigsOk_iff _).2 hok
  have e : (s.1, s.2.1, s.2.2) = s := rfl
  have h51 : p51 n s () = some ((((firstF s.1 s.2.1 0 8 : Nat) : Int), ()), ()) := p51_L2_eq n s.1 s.2.1 s.2.2 hok.h hok.b n 8 0 (by omega) (by omega)
  show ∃ w : Int, st13_top n s = _
  simp only [st13_top, q41, e, p41_eq n hn, hk, Bool.not_true, cond_false, Option.bind_some, q43, (clone_eq n _ hok).1, q51, h51, nextF]
  rcases firstF_spec s.1 s.2.1 8 0 with ⟨h1, _⟩ | ⟨t, h1, h2, h3, _⟩
  · simp only [h1]
    exact ⟨1, rfl⟩
  · have z : ¬ (((t + 1 : Nat) : Int) = 0) := by omega
    have z2 : ¬ (t + 1 = 0) := by omega
    have ht : t < 8 := by omega
    have hl : decide ((t : Int) < (s.1.length : Int)) = true := lt_t (by rw [hok.h]; exact ht)
    simp only [h1, z, z2, decide_false, cond_false, jj ht, ge_t, hl, cond_true, toNat_cast, q44, p44_eq n s hok.d t ht, Option.bind_some, Bool.not_false, Nat.add_sub_cancel]
    exact ⟨_, rfl⟩

theorem p14_eq (n : Nat) (hn : 100 ≤ n) (s : Sg) (hok : Ok8 s) : p14 n s (List.replicate 8 false) = some (((s.1, List.replicate 8 false, s.2.2), (true, ())), ()) := by
  have hk := (sigsOk_iff _).2 hok
  have e : (s.1, s.2.1, s.2.2) = s := rfl
  have z8 : decide (((List.replicate 8 false).length : Int) = 8) = true := rfl
  show st14_top n (p14_L5 n n) s (List.replicate 8 false) = _
  simp only [st14_top, q41, e, p41_eq n hn, hk, Bool.not_true, cond_false, Option.bind_some, z8, q43, (clone_eq n _ hok).1]
  have := copy_loop (F := fun k xs i acc => p14_L5 n k xs (xs.length : Int) i s.1 acc s.2.2) (R := fun acc => some (((s.1, acc, s.2.2), (true, ())), ())) (g := fun _ => false) (da := false) (List.replicate 8 false) (fun k i acc hi ha => by
      show st14_L5 n (p14_L5 n k) (List.replicate 8 false) ((List.replicate 8 false).length : Int) i s.1 acc s.2.2 = _
      have hi8 : i < 8 := by simpa using hi
      have hg : (List.replicate 8 false).getD i false = false := by
        rw [List.getD_eq_getElem?_getD, List.getElem?_replicate, if_pos hi8]; rfl
      have hla : i < acc.length := by rw [ha]; exact hi
      simp only [st14_L5, lt_t hi, lt_t hla, ge_t, cond_true, toNat_cast, hg, cond_false]
      rw [wr (x := (i : Int) + 1) (by omega) (by omega), succI]) (fun k acc => by
      show st14_L5 n (p14_L5 n k) (List.replicate 8 false) ((List.replicate 8 false).length : Int) ((List.replicate 8 false).length : Int) s.1 acc s.2.2 = _
      simp only [st14_L5, lt_f, cond_false]) 8 n 0 s.2.1 (by rw [hok.b]; rfl) rfl (by omega) (fun j hj => by omega)
  have hm : (List.replicate 8 false).map (fun _ => false) = List.replicate 8 false := rfl
  rw [hm] at this
  exact this

/-! ## what is drawn -/
theorem p39_L3_eq (n : Nat) {l : List Int} (hl : Bys l) : ∀ (m r i : Nat) (pos : Int) (h b : List Bool) (d : List Int), i + r = 8 → r < m → 0 ≤ pos → pos < 1000 + 10 * i → h.length = 8 → b.length = 8 → d.length = 8 →
    ∃ (s : Sg) (pos' : Int), p39_L3 n m i l pos h b d = some ((s, ()), ((l, pos'), ())) ∧ s.1.length ≤ 8 ∧ s.2.1.length ≤ 8 ∧ s.2.2.length ≤ 8 ∧ 0 ≤ pos' ∧ pos' < 2000
  | 0, r, i, _, _, _, _, _, h, _, _, _, _, _ => by omega
  | m + 1, 0, i, pos, h, b, d, hi, hm, hp, hp2, h1, h2, h3 => by
    have : i = 8 := by omega
    subst this
    show ∃ (s : Sg) (pos' : Int), st39_L3 n (p39_L3 n m) ((8 : Nat) : Int) l pos h b d = _ ∧ _
    have l8 : decide (((8 : Nat) : Int) < 8) = false := rfl
    obtain ⟨v, hv, hv0, hv1⟩ := p40_eq n hl (pos := pos) (b := 24) (by omega) (by omega)
    obtain ⟨v8, hv8, g0, g1⟩ := p40_eq n hl (pos := pos + 1) (b := 8) (by omega) (by omega)
    obtain ⟨v6, hv6, _, _⟩ := p40_eq n hl (pos := pos + 1 + 1) (b := 6) (by omega) (by omega)
    obtain ⟨v2, hv2, g2, g3⟩ := p40_eq n hl (pos := pos + 1) (b := 2) (by omega) (by omega)
    have k1 : decide (v8 < ((8 : Nat) : Int)) = true := by simp; omega
    have k2 : decide (v2 < ((8 : Nat) : Int)) = true := by simp; omega
    have k3 : decide ((1 : Int) ≤ ((8 : Nat) : Int)) = true := rfl
    simp only [st39_L3, l8, cond_false, q40, hv, hv8, hv6, hv2, Option.bind_some, h1, h2, h3, g0, g2, k1, k2, k3, decide_true, cond_true]
    by_cases c0 : v = 0
    · simp only [c0, decide_true, cond_true]
      exact ⟨_, _, rfl, by show h.length ≤ 8; omega, by show b.length ≤ 8; omega, by simp [h3], by omega, by omega⟩
    · by_cases c1 : v = 1
      · simp only [c1, decide_true, cond_true]
        exact ⟨_, _, rfl, by show h.length ≤ 8; omega, by simp [h2], by show d.length ≤ 8; omega, by omega, by omega⟩
      · by_cases c2 : v = 2
        · simp only [c2, decide_true, cond_true]
          exact ⟨_, _, rfl, by show (List.take _ (List.drop _ h)).length ≤ 8; rw [List.length_take, List.length_drop]; omega, by show b.length ≤ 8; omega, by show d.length ≤ 8; omega, by omega, by omega⟩
        · simp only [c0, c1, c2, decide_false, cond_false]
          exact ⟨_, _, rfl, by show h.length ≤ 8; omega, by show b.length ≤ 8; omega, by show d.length ≤ 8; omega, by omega, by omega⟩
  | m + 1, r + 1, i, pos, h, b, d, hi, hm, hp, hp2, h1, h2, h3 => by
    show ∃ (s : Sg) (pos' : Int), st39_L3 n (p39_L3 n m) i l pos h b d = _ ∧ _
    have l8 : decide ((i : Int) < 8) = true := by simp; omega
    obtain ⟨v, hv, _, _⟩ := p40_eq n hl (pos := pos) (b := 3) (by omega) (by omega)
    obtain ⟨v', hv', _, _⟩ := p40_eq n hl (pos := pos + 1) (b := 3) (by omega) (by omega)
    obtain ⟨v4, hv4, g0, g1⟩ := p40_eq n hl (pos := pos + 1 + 1) (b := 4) (by omega) (by omega)
    have k1 : decide (v4 < ((([0, 0, 1, 4] : List Int).length : Nat) : Int)) = true := by simp; omega
    simp only [st39_L3, l8, cond_true, q40, hv, hv', hv4, Option.bind_some, ge_t, lt_t (show i < h.length by omega), lt_t (show i < b.length by omega), lt_t (show i < d.length by omega), toNat_cast, q89, p89, st89_top, g0, k1, decide_true]
    rw [wr (x := (i : Int) + 1) (by omega) (by omega), succI]
    cases decide (((i + 1 : Nat) : Int) = 1) with
    | true =>
      exact p39_L3_eq n hl m r (i + 1) (pos + 1) _ _ _ (by omega) (by omega) (by omega) (by omega) (by simpa using h1) h2 h3
    | false =>
      try simp only [cond_false, Option.bind_some]
      cases decide (((i + 1 : Nat) : Int) = 2) with
      | true => exact p39_L3_eq n hl m r (i + 1) (pos + 1) _ _ _ (by omega) (by omega) (by omega) (by omega) (by simpa using h1) h2 h3
      | false => exact p39_L3_eq n hl m r (i + 1) (pos + 1 + 1 + 1) _ _ _ (by omega) (by omega) (by omega) (by omega) (by simpa using h1) (by simpa using h2) (by simpa using h3)
theorem p9_eq (n : Nat) (hn : 100 ≤ n) {l : List Int} (hl : ∀ x ∈ l, 0 ≤ x ∧ x < 256) : ∃ (s : Sg) (x : Int), p9 n l = some ((s, (x, ())), ()) ∧ s.1.length ≤ 8 ∧ s.2.1.length ≤ 8 ∧ s.2.2.length ≤ 8 := by
  obtain ⟨l', e1, e2⟩ := p38_eq n hl
  obtain ⟨s, pos', h3, h4, h5, h6, h7, h8⟩ := p39_L3_eq n e2 n 8 0 0 (List.replicate 8 false) (List.replicate 8 false) (List.replicate 8 0) (by omega) (by omega) (by omega) (by omega) (by simp) (by simp) (by simp)
  have h39 : p39 n (l', 0) = some ((s, ()), ((l', pos'), ())) := h3
  obtain ⟨v, hv, g0, g1⟩ := p40_eq n e2 (pos := pos') (b := 11) (by omega) (by omega)
  refine ⟨s, IntKind.i64.wrap (v - 1), ?_, h4, h5, h6⟩
  show st9_top n l = _
  simp only [st9_top, q38, e1, q39, h39, q40, hv, Option.bind_some]

/-! ## the law -/
theorem okFrom_free {b : List Bool} {d : List Int} : ∀ {r i : Nat}, okFrom b d i r = true → okFrom (List.replicate 8 false) d i r = true
  | 0, i, h => rfl
  | r + 1, i, h => by
    simp only [okFrom] at h ⊢
    have hg : (List.replicate 8 false).getD i false = false := by
      rw [List.getD_eq_getElem?_getD, List.getElem?_replicate]
      split <;> rfl
    cases ho : okAt b d i with
    | false => rw [ho] at h; cases h
    | true =>
      rw [ho] at h
      have : okAt (List.replicate 8 false) d i = true := by
        simp only [okAt, hg] at ho ⊢
        revert ho
        generalize decide (d.getD i 0 = 0) = x0
        generalize decide (d.getD i 0 = 1) = x1
        generalize decide (d.getD i 0 = 4) = x4
        cases decide (i = 0) <;> cases decide (i = 1) <;> cases x0 <;> cases x1 <;> cases x4 <;> cases b.getD i false <;> simp
      rw [this]
      exact okFrom_free h

theorem setB {h : List Bool} {i t : Nat} {z : Bool} (hi : i < h.length) : (h.set i z).getD t false = if i = t then z else h.getD t false := by
  rw [List.getD_eq_getElem?_getD, List.getElem?_set]
  by_cases e : i = t
  · rw [if_pos e, if_pos hi, if_pos e]; rfl
  · rw [if_neg e, if_neg e, List.getD_eq_getElem?_getD]

theorem p3_L11_eq (n : Nat) (hn : 100 ≤ n) (j : Nat) (hj : j < 8) (k : Int) (hk : k ≠ ((j + 1 : Nat) : Int)) (d : List Int) (hd : d.length = 8) (hok : okFrom (List.replicate 8 false) d 0 8 = true) :
    ∀ (m r i : Nat) (h : List Bool), i + r = j → r < m → h.length = 8 → h.getD j false = true → (∀ t, t < i → h.getD t false = false) → p3_L11 n m ((j + 1 : Nat) : Int) k true i h (List.replicate 8 false) d = some ((true, ()), ())
  | 0, r, i, _, _, h, _, _, _ => by omega
  | m + 1, r, i, h, hi, hm, hl, hjt, hlow => by
    show st3_L11 n (p3_L11 n m) ((j + 1 : Nat) : Int) k true i h (List.replicate 8 false) d = _
    have l8 : decide ((i : Int) < 8) = true := by simp; omega
    obtain ⟨w, h13⟩ := p13_eq n hn (h, List.replicate 8 false, d) ⟨hl, rfl, hd, hok⟩
    have hg : ∀ t, (List.replicate 8 false).getD t false = false := by
      intro t
      rw [List.getD_eq_getElem?_getD, List.getElem?_replicate]
      split <;> rfl
    simp only [st3_L11, l8, cond_true, q13, h13, Option.bind_some]
    rcases firstF_spec h (List.replicate 8 false) 8 0 with ⟨_, h2⟩ | ⟨t, h1, h2, h3, h4, h5⟩
    · have := h2 j (by omega) (by omega)
      rw [hjt, hg] at this
      cases this
    · have ht : h.getD t false = true := by
        rw [hg] at h4
        simpa using h4
      have htj : t ≤ j := by
        rcases Nat.lt_or_ge j t with hlt | hge
        · have := h5 j (by omega) hlt
          rw [hjt, hg] at this
          cases this
        · exact hge
      have hti : i ≤ t := by
        rcases Nat.lt_or_ge t i with hlt | hge
        · rw [hlow t hlt] at ht; cases ht
        · exact hge
      have z0 : ¬ (t + 1 = 0) := by omega
      simp only [nextF, h1, z0, decide_false, Bool.not_false, cond_true, cond_false, Nat.add_sub_cancel]
      by_cases e : t = j
      · subst e
        simp only [decide_true, cond_true, hk, decide_false, Bool.not_false]
      · have z1 : ¬ (((t + 1 : Nat) : Int) = ((j + 1 : Nat) : Int)) := by omega
        simp only [z1, decide_false, cond_false]
        rw [wr (x := (i : Int) + 1) (by omega) (by omega), succI]
        refine p3_L11_eq n hn j hj k hk d hd hok m (r - 1) (i + 1) _ (by omega) (by omega) (by simpa using hl) ?_ (fun u hu => ?_)
        · rw [setB (by omega), if_neg e]; exact hjt
        · rw [setB (by omega)]
          split
          · rfl
          · rename_i hne
            have := h5 u (by omega) (by omega)
            rw [hg] at this
            simpa using this

theorem law3 (l : List Int) (hl : ∀ x ∈ l, 0 ≤ x ∧ x < 256) : p3 1000 l = some ((true, ()), ()) := by
  show st3_top 1000 (p3_L11 1000 1000) l = _
  simp only [st3_top]
  by_cases h : (1048576 : Int) < l.length
  · simp only [h, decide_true, cond_true]
  obtain ⟨s, x, h1, h2, h3, h4⟩ := p9_eq 1000 (by omega) hl
  have e : ∀ s : Sg, (s.1, s.2.1, s.2.2) = s := fun _ => rfl
  have hr : (sendR s x).1.1.length ≤ 8 ∧ (sendR s x).1.2.1.length ≤ 8 ∧ (sendR s x).1.2.2.length ≤ 8 := by
    unfold sendR
    cases (sigsOk s && decide (1 ≤ x ∧ x ≤ 8)) with
    | false => exact ⟨by simp, by simp, by simp⟩
    | true =>
      refine ⟨?_, h3, h4⟩
      show (sendF s (x - 1).toNat).1.length ≤ 8
      unfold sendF sendB
      simp only
      cases (s.2.1.getD (x - 1).toNat false || !decide (doesF s.2.2 (x - 1).toNat = 1)) <;> simp only [cond_true, cond_false] <;> (repeat' split) <;> simpa using h2
  have hrefl := p12_refl 1000 (sendR s x).1 hr.1 hr.2.1 hr.2.2 (by omega)
  have bb : ∀ b : Bool, (!b == b) = false := by intro b; cases b <;> rfl
  have bb2 : ∀ b : Bool, (b == b) = true := by intro b; cases b <;> rfl
  simp only [h, decide_false, cond_false, q9, h1, Option.bind_some, q10, q11, e, p10_eq 1000 (by omega), p11_eq 1000 (by omega), bb, bb2, q12, hrefl, Bool.not_true, cond_true]
  unfold sendR
  cases hc : (sigsOk s && decide (1 ≤ x ∧ x ≤ 8)) with
  | false => simp only [cond_false, Bool.not_false, cond_true]
  | true =>
    simp only [Bool.and_eq_true, decide_eq_true_eq] at hc
    obtain ⟨hk, hx⟩ := hc
    have hok := (sigsOk_iff _).1 hk
    obtain ⟨j, hj⟩ := Int.eq_ofNat_of_zero_le (show 0 ≤ x - 1 by omega)
    have hxj : x = ((j + 1 : Nat) : Int) := by omega
    subst hxj
    have hj8 : j < 8 := by omega
    have hjn : (((j + 1 : Nat) : Int) - 1).toNat = j := by omega
    have hlb : decide ((j : Int) < (s.2.1.length : Int)) = true := lt_t (by rw [hok.b]; exact hj8)
    simp only [cond_true, Bool.not_true, cond_false, jj hj8, ge_t, hlb, toNat_cast, hjn]
    cases hb : s.2.1.getD j false with
    | false => simp only [Bool.not_false, cond_true]
    | true =>
      simp only [Bool.not_true, cond_false]
      have hsl : (sendB s.1 j).length = 8 := by
        unfold sendB
        have := hok.h
        repeat' split
        all_goals simpa using this
      have hs : sendF s j = ((sendB s.1 j).set j true, s.2.1, s.2.2) := by
        unfold sendF
        rw [hb]
        rfl
      have hok2 : Ok8 (sendF s j) := by
        rw [hs]
        exact ⟨by simpa using hsl, hok.b, hok.d, hok.ok⟩
      obtain ⟨w, h13⟩ := p13_eq 1000 (by omega) (sendF s j) hok2
      have z8 : Int.toNat 8 = 8 := rfl
      have h14 := p14_eq 1000 (by omega) (sendF s j) hok2
      simp only [q13, h13, Option.bind_some, z8, q14, h14]
      have hst : (sendF s j).1.getD j false = true := by
        rw [hs]
        show ((sendB s.1 j).set j true).getD j false = true
        rw [setB (by omega), if_pos rfl]
      refine p3_L11_eq 1000 (by omega) j hj8 _ ?_ _ hok.d (okFrom_free hok.ok) 1000 j 0 _ (by omega) (by omega) hok2.h hst (fun t ht => by omega)
      -- the next one is not blocked
      intro hkk
      have hk2 : (nextF (sendF s j)).2 = j + 1 := by exact_mod_cast hkk
      rcases firstF_spec (sendF s j).1 (sendF s j).2.1 8 0 with ⟨g1, _⟩ | ⟨t, g1, _, _, g4, _⟩
      · rw [show (nextF (sendF s j)).2 = firstF (sendF s j).1 (sendF s j).2.1 0 8 from rfl, g1] at hk2
        omega
      · rw [show (nextF (sendF s j)).2 = firstF (sendF s j).1 (sendF s j).2.1 0 8 from rfl, g1] at hk2
        have htj : t = j := by omega
        rw [htj, show (sendF s j).2.1 = s.2.1 from rfl, hb] at g4
        simp at g4
end Go.Proofs.Ytfbdkjdockbfdaa.Rx.S
namespace Go.Proofs.Ytfbdkjdockbfdaa.Rx.S
open Go Go.Proofs.Ytfbdkjdockbfdaa.Rx.Pu
theorem u8_wf {x : Int} (h : (Lit.int .u8 x).wf = true) : 0 ≤ x ∧ x < 256 := by
  simp only [Lit.wf, Bool.and_eq_true, decide_eq_true_eq, IntKind.min, IntKind.max, IntKind.signed, IntKind.bits, Bool.false_eq_true, if_false] at h
  omega
theorem bytes_wf {xs : List Int} (h : WfT (.row 5 (.int .u8)) xs) : ∀ x ∈ xs, 0 ≤ x ∧ x < 256 := fun x hx => u8_wf (h.2 x hx)
theorem pure3 (l : List Int) (h : WfT (.row 5 (.int .u8)) l) : ∃ n o, q3 n (l, ()) = some ((true, ()), o) := ⟨1000, (), law3 l (bytes_wf h)⟩
end Go.Proofs.Ytfbdkjdockbfdaa.Rx.S
