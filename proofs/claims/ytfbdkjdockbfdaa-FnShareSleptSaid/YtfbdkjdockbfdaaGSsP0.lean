/- Plain laws of those functions, no program in sight: the law answers true on all data. No condition. -/
import GoSem.Claim
import Derived.Test.YtfbdkjdockbfdaaGSsF1
namespace Go.Proofs.Ytfbdkjdockbfdaa.Rx.Pu
open Go
set_option linter.unusedVariables false
set_option linter.unusedSimpArgs false

/-! Plain laws of numbers and lists. -/
theorem wr {x : Int} (h0 : -9223372036854775808 ≤ x) (h1 : x ≤ 9223372036854775807) : IntKind.i64.wrap x = x := by
  have e1 : (2 : Int) ^ IntKind.i64.bits = 18446744073709551616 := rfl
  have e2 : (2 : Int) ^ (IntKind.i64.bits - 1) = 9223372036854775808 := rfl
  have e3 : IntKind.i64.signed = true := rfl
  unfold IntKind.wrap
  simp only [e1, e2, e3, Bool.true_and, decide_eq_true_eq]
  split <;> omega

theorem cond_dec {α : Type} {p : Prop} [Decidable p] {a b : α} : cond (decide p) a b = if p then a else b := by
  by_cases h : p <;> simp [h]

theorem toNat_cast (i : Nat) : ((i : Int)).toNat = i := rfl

theorem getD_drop {α : Type} {l : List α} {i : Nat} {d : α} (h : i < l.length) : l.drop i = l.getD i d :: l.drop (i + 1) := by
  rw [List.drop_eq_getElem_cons h, List.getD_eq_getElem?_getD, List.getElem?_eq_getElem h, Option.getD_some]

/-- the two numbers that are not negative, and small, differ bit by bit to a number that is small -/
theorem xor_small {a b : Int} (ha : 0 ≤ a) (ha2 : a < 4611686018427387904) (hb : 0 ≤ b) (hb2 : b < 4611686018427387904) :
    0 ≤ IntKind.i64.wrap ((BitVec.ofInt IntKind.i64.bits a ^^^ BitVec.ofInt IntKind.i64.bits b).toNat : Int) := by
  have e0 : IntKind.i64.bits = 64 := rfl
  obtain ⟨m, rfl⟩ := Int.eq_ofNat_of_zero_le ha
  obtain ⟨k, rfl⟩ := Int.eq_ofNat_of_zero_le hb
  have hm : m < 2 ^ 62 := by omega
  have hk : k < 2 ^ 62 := by omega
  have hx : m ^^^ k < 2 ^ 62 := Nat.xor_lt_two_pow hm hk
  have e : (BitVec.ofInt IntKind.i64.bits (m : Int) ^^^ BitVec.ofInt IntKind.i64.bits (k : Int)).toNat = m ^^^ k := by
    have h1 : ∀ j : Nat, j < 2 ^ 62 → (BitVec.ofInt IntKind.i64.bits (j : Int)).toNat = j := by
      intro j hj
      rw [BitVec.toNat_ofInt]
      have e9 : ((2 ^ IntKind.i64.bits : Nat) : Int) = 18446744073709551616 := rfl
      rw [e9]
      omega
    rw [BitVec.toNat_xor, h1 m hm, h1 k hk]
  rw [e, wr (by omega) (by omega)]
  omega

theorem tmod_range {a b : Int} (ha : 0 ≤ a) (hb : 1 ≤ b) : 0 ≤ a.tmod b ∧ a.tmod b < b := by
  rw [Int.tmod_eq_emod_of_nonneg ha]
  exact ⟨Int.emod_nonneg _ (by omega), Int.emod_lt_of_pos _ (by omega)⟩
theorem tdiv_range {a b : Int} (ha : 0 ≤ a) (hb : 1 ≤ b) : 0 ≤ a.tdiv b ∧ a.tdiv b ≤ a := by
  rw [Int.tdiv_eq_ediv_of_nonneg ha]
  exact ⟨Int.ediv_nonneg ha (by omega), Int.ediv_le_self _ ha⟩

/-! counting without doubles -/
theorem len_le_of_sub {α : Type} [DecidableEq α] : ∀ {S L : List α}, S.Nodup → (∀ x ∈ S, x ∈ L) → S.length ≤ L.length
  | [], L, _, _ => Nat.zero_le _
  | x :: S, L, hn, hs => by
    have hx : x ∈ L := hs x List.mem_cons_self
    have h1 := List.nodup_cons.1 hn
    have := len_le_of_sub (S := S) (L := L.erase x) h1.2 (fun y hy => (List.mem_erase_of_ne (by rintro rfl; exact h1.1 hy)).2 (hs y (List.mem_cons_of_mem _ hy)))
    rw [List.length_erase_of_mem hx] at this
    have : 0 < L.length := List.length_pos_of_mem hx
    simp; omega

theorem perm_of_sub {α : Type} [DecidableEq α] : ∀ {S L : List α}, S.Nodup → (∀ x ∈ S, x ∈ L) → L.length ≤ S.length → S.Perm L
  | [], L, _, _, hl => by
    have : L = [] := List.eq_nil_of_length_eq_zero (by simpa using hl)
    subst this
    exact .nil
  | x :: S, L, hn, hs, hl => by
    have hx : x ∈ L := hs x List.mem_cons_self
    have h1 := List.nodup_cons.1 hn
    have hp : 0 < L.length := List.length_pos_of_mem hx
    have := perm_of_sub (S := S) (L := L.erase x) h1.2 (fun y hy => (List.mem_erase_of_ne (by rintro rfl; exact h1.1 hy)).2 (hs y (List.mem_cons_of_mem _ hy))) (by
      rw [List.length_erase_of_mem hx]
      simp at hl
      omega)
    exact (this.cons x).trans (List.perm_cons_erase hx).symm
end Go.Proofs.Ytfbdkjdockbfdaa.Rx.Pu
namespace Go.Proofs.Ytfbdkjdockbfdaa.Rx.Pu
open Go
set_option linter.unusedVariables false
set_option linter.unusedSimpArgs false

/-! Loops over lists: copying, comparing with itself, marking, holding against the marks. -/
theorem copy_loop {α β γ : Type} (F : Nat → List α → Int → List β → γ) (R : List β → γ) (g : α → β) (da : α) (xs : List α)
    (hF : ∀ k (i : Nat) (acc : List β), i < xs.length → acc.length = xs.length → F (k + 1) xs i acc = F k xs ((i + 1 : Nat) : Int) (acc.set i (g (xs.getD i da))))
    (hE : ∀ k acc, F (k + 1) xs (xs.length : Int) acc = R acc) : ∀ (d k i : Nat) (acc : List β), acc.length = xs.length → i + d = xs.length → d < k → (∀ j, j < i → acc[j]? = (xs.map g)[j]?) → F k xs i acc = R (xs.map g) := by
  intro d
  induction d with
  | zero =>
    intro k i acc hl hd hk hj
    obtain ⟨k, rfl⟩ : ∃ m, k = m + 1 := ⟨k - 1, by omega⟩
    have hi : i = xs.length := by omega
    subst hi
    rw [hE]
    congr 1
    apply List.ext_getElem?
    intro j
    rcases Nat.lt_or_ge j xs.length with h | h
    · exact hj j h
    · rw [List.getElem?_eq_none (by omega), List.getElem?_eq_none (by simp; omega)]
  | succ d ih =>
    intro k i acc hl hd hk hj
    obtain ⟨k, rfl⟩ : ∃ m, k = m + 1 := ⟨k - 1, by omega⟩
    rw [hF k i acc (by omega) hl]
    refine ih k (i + 1) _ (by simp [hl]) (by omega) (by omega) (fun j hji => ?_)
    rcases Nat.lt_or_ge j i with h | h
    · rw [List.getElem?_set_ne (by omega)]
      exact hj j h
    · obtain rfl : j = i := by omega
      rw [List.getElem?_set_self (by omega)]
      simp [List.getD_eq_getElem?_getD, List.getElem?_eq_getElem (show j < xs.length by omega)]

theorem round_loop {γ : Type} (F : Nat → Int → γ) (r : γ) (n : Nat) (hF : ∀ k (i : Nat), i < n → F (k + 1) i = F k ((i + 1 : Nat) : Int)) (hE : ∀ k, F (k + 1) (n : Int) = r) : ∀ (d k i : Nat), i + d = n → d < k → F k i = r := by
  intro d
  induction d with
  | zero =>
    intro k i hd hk
    obtain ⟨k, rfl⟩ : ∃ m, k = m + 1 := ⟨k - 1, by omega⟩
    have hi : i = n := by omega
    subst hi
    exact hE k
  | succ d ih =>
    intro k i hd hk
    obtain ⟨k, rfl⟩ : ∃ m, k = m + 1 := ⟨k - 1, by omega⟩
    rw [hF k i (by omega)]
    exact ih k (i + 1) (by omega) (by omega)

/-- what marks are: from m on, s of them an element -/
def marks {α : Type} (f : Int → α) (s m : Int) (n : Nat) : List α := (List.range n).map fun (j : Nat) => f (m + s * j)
theorem marks_length {α : Type} (f : Int → α) (s m : Int) (n : Nat) : (marks f s m n).length = n := by simp [marks]
theorem marks_getD {α : Type} (f : Int → α) (s m : Int) (n j : Nat) (h : j < n) (d : α) : (marks f s m n).getD j d = f (m + s * j) := by
  simp [marks, List.getD_eq_getElem?_getD, h]

theorem mark_loop {α γ : Type} (F : Nat → Int → Int → List α → γ) (R : Int → List α → γ) (f : Int → α) (s m0 : Int) (n : Nat)
    (hF : ∀ k (i : Nat) (xs : List α), i < n → xs.length = n → F (k + 1) (m0 + s * i) i xs = F k (m0 + s * ((i + 1 : Nat) : Int)) ((i + 1 : Nat) : Int) (xs.set i (f (m0 + s * i))))
    (hE : ∀ k (xs : List α), xs.length = n → F (k + 1) (m0 + s * n) n xs = R (m0 + s * n) xs) : ∀ (d k i : Nat) (xs : List α), xs.length = n → i + d = n → d < k → (∀ j, j < i → xs[j]? = (marks f s m0 n)[j]?) →
    F k (m0 + s * i) i xs = R (m0 + s * n) (marks f s m0 n) := by
  intro d
  induction d with
  | zero =>
    intro k i xs hl hd hk hj
    obtain ⟨k, rfl⟩ : ∃ m, k = m + 1 := ⟨k - 1, by omega⟩
    have hin : i = n := by omega
    subst hin
    rw [hE k xs hl]
    congr 1
    apply List.ext_getElem?
    intro j
    rcases Nat.lt_or_ge j i with h | h
    · exact hj j h
    · rw [List.getElem?_eq_none (by omega), List.getElem?_eq_none (by rw [marks_length]; omega)]
  | succ d ih =>
    intro k i xs hl hd hk hj
    obtain ⟨k, rfl⟩ : ∃ m, k = m + 1 := ⟨k - 1, by omega⟩
    rw [hF k i xs (by omega) hl]
    refine ih k (i + 1) _ (by simp [hl]) (by omega) (by omega) (fun j hji => ?_)
    rcases Nat.lt_or_ge j i with h | h
    · rw [List.getElem?_set_ne (by omega)]
      exact hj j h
    · obtain rfl : j = i := by omega
      rw [List.getElem?_set_self (by omega)]
      simp [marks, show j < n by omega]

theorem held_loop {γ : Type} (F : Nat → Int → Int → γ) (R : Int → γ) (s m0 : Int) (n : Nat)
    (hF : ∀ k (i : Nat), i < n → F (k + 1) (m0 + s * i) i = F k (m0 + s * ((i + 1 : Nat) : Int)) ((i + 1 : Nat) : Int)) (hE : ∀ k, F (k + 1) (m0 + s * n) n = R (m0 + s * n)) : ∀ (d k i : Nat), i + d = n → d < k → F k (m0 + s * i) i = R (m0 + s * n) := by
  intro d
  induction d with
  | zero =>
    intro k i hd hk
    obtain ⟨k, rfl⟩ : ∃ m, k = m + 1 := ⟨k - 1, by omega⟩
    have hin : i = n := by omega
    subst hin
    exact hE k
  | succ d ih =>
    intro k i hd hk
    obtain ⟨k, rfl⟩ : ∃ m, k = m + 1 := ⟨k - 1, by omega⟩
    rw [hF k i (by omega)]
    exact ih k (i + 1) (by omega) (by omega)
end Go.Proofs.Ytfbdkjdockbfdaa.Rx.Pu
namespace Go.Proofs.Ytfbdkjdockbfdaa.Rx.S
open Go Go.Proofs.Ytfbdkjdockbfdaa.Rx.Pu
set_option linter.unusedVariables false
set_option linter.unusedSimpArgs false

theorem lt_t {i n : Nat} (h : i < n) : decide ((i : Int) < (n : Int)) = true := by simp; omega
theorem lt_f (n : Nat) : decide ((n : Int) < (n : Int)) = false := by simp
theorem ge_t (i : Nat) : decide ((0 : Int) ≤ (i : Int)) = true := by simp
theorem succI (i : Nat) : (i : Int) + 1 = ((i + 1 : Nat) : Int) := by omega

theorem p46_eq (n : Nat) (a b c : Int) : p46 n a b c = some ((decide (b ≤ a ∧ a ≤ c), ()), ()) := by
  show st46_top n a b c = _
  simp only [st46_top, cond_dec]
  by_cases h : b ≤ a <;> simp [h]
theorem p42_eq (n : Nat) (a b c : Int) : p42 n a b c = some ((decide (b ≤ a ∧ a ≤ c), ()), ()) := by
  show st42_top n a b c = _
  simp only [st42_top, cond_dec]
  by_cases h : b ≤ a <;> simp [h]

/-! ## what is drawn -/
def Bys (l : List Int) : Prop := (∀ x ∈ l, 0 ≤ x ∧ x < 256) ∧ l.length ≤ 2000

theorem Bys.get {l : List Int} (h : Bys l) (i : Nat) : 0 ≤ l.getD i 0 ∧ l.getD i 0 < 256 := by
  rw [List.getD_eq_getElem?_getD]
  cases hi : l[i]? with
  | none => simp
  | some x => exact h.1 x (List.mem_of_getElem? hi)

theorem p40_eq (n : Nat) {l : List Int} (hl : Bys l) {pos b : Int} (hp : 0 ≤ pos ∧ pos < 1000000) (hb : 1 ≤ b) :
    ∃ v : Int, p40 n (l, pos) b = some ((v, ()), ((l, pos + 1), ())) ∧ 0 ≤ v ∧ v < b := by
  have e1 : IntKind.i64.wrap (pos + 1) = pos + 1 := wr (by omega) (by omega)
  have e2 : IntKind.i64.wrap (pos + 1 - 1) = pos := (wr (x := pos + 1 - 1) (by omega) (by omega)).trans (by omega)
  have e3 : IntKind.i64.wrap (pos * 7) = pos * 7 := wr (by omega) (by omega)
  have e4 : IntKind.i64.wrap (pos * 7 + 3) = pos * 7 + 3 := wr (by omega) (by omega)
  have e5 : IntKind.i64.wrap (pos * 29) = pos * 29 := wr (by omega) (by omega)
  have hlen := hl.2
  show ∃ v : Int, st40_top n (l, pos) b = _ ∧ _
  have hb1 : ¬ b < 1 := by omega
  have hb2 : ¬ b = 0 := by omega
  simp only [st40_top, e1, e2, e3, e4, e5, hb1, hb2, decide_false, cond_false, Bool.not_false, cond_true]
  by_cases h0 : (l.length : Int) = 0
  · simp only [h0, decide_true, cond_true]
    exact ⟨0, rfl, by omega, by omega⟩
  · have hl1 : (1 : Int) ≤ l.length := by omega
    simp only [h0, decide_false, cond_false, Bool.not_false, cond_true]
    by_cases h1 : pos < (l.length : Int)
    · have hp0 : (0 : Int) ≤ pos := hp.1
      simp only [h1, hp0, decide_true, cond_true]
      have hg := hl.get pos.toNat
      rw [wr (by omega) (by omega)]
      exact ⟨_, rfl, tmod_range hg.1 hb⟩
    · simp only [h1, decide_false, cond_false]
      have t1 := tmod_range (a := pos) (b := l.length) hp.1 hl1
      have t2 := tmod_range (a := pos * 7 + 3) (b := l.length) (by omega) hl1
      have t3 := tdiv_range (a := pos) (b := l.length) hp.1 hl1
      simp only [t1.1, t1.2, t2.1, t2.2, decide_true, cond_true]
      have g1 := hl.get (pos.tmod l.length).toNat
      have g2 := hl.get ((pos * 7 + 3).tmod l.length).toNat
      generalize l.getD (pos.tmod l.length).toNat 0 = y1 at *
      generalize l.getD ((pos * 7 + 3).tmod l.length).toNat 0 = y2 at *
      generalize pos.tdiv l.length = q at *
      have w1 : IntKind.i64.wrap y1 = y1 := wr (by omega) (by omega)
      have w2 : IntKind.i64.wrap (y1 * 131) = y1 * 131 := wr (by omega) (by omega)
      have w3 : IntKind.i64.wrap y2 = y2 := wr (by omega) (by omega)
      have w4 : IntKind.i64.wrap (y2 * 1117) = y2 * 1117 := wr (by omega) (by omega)
      have w5 : IntKind.i64.wrap (y1 * 131 + y2 * 1117) = y1 * 131 + y2 * 1117 := wr (by omega) (by omega)
      have w6 : IntKind.i64.wrap (y1 * 131 + y2 * 1117 + pos * 29) = y1 * 131 + y2 * 1117 + pos * 29 := wr (by omega) (by omega)
      have w7 : IntKind.i64.wrap q = q := wr (by omega) (by omega)
      have w8 : IntKind.i64.wrap (q * 53) = q * 53 := wr (by omega) (by omega)
      have w9 : IntKind.i64.wrap (y1 * 131 + y2 * 1117 + pos * 29 + q * 53) = y1 * 131 + y2 * 1117 + pos * 29 + q * 53 := wr (by omega) (by omega)
      simp only [w1, w2, w3, w4, w5, w6, w7, w8, w9]
      have hS : 0 ≤ y1 * 131 + y2 * 1117 + pos * 29 + q * 53 ∧ y1 * 131 + y2 * 1117 + pos * 29 + q * 53 < 1000000000000 := by omega
      generalize y1 * 131 + y2 * 1117 + pos * 29 + q * 53 = S at *
      have hd := tdiv_range (a := S) (b := 64) hS.1 (by omega)
      have w10 : IntKind.i64.wrap (S.tdiv 64) = S.tdiv 64 := wr (by omega) (by omega)
      simp only [w10]
      exact ⟨_, rfl, tmod_range (xor_small hS.1 (by omega) hd.1 (by omega)) hb⟩

theorem p38_eq (n : Nat) {l : List Int} (hl : ∀ x ∈ l, 0 ≤ x ∧ x < 256) : ∃ l', p38 n l = some (((l', 0), ()), ()) ∧ Bys l' := by
  show ∃ l', st38_top n l = _ ∧ _
  simp only [st38_top]
  by_cases h : (2000 : Int) < l.length
  · have h2 : (2000 : Int) ≤ l.length := by omega
    simp only [h, h2, decide_true, cond_true]
    refine ⟨_, rfl, fun x hx => hl x (List.mem_of_mem_take hx), ?_⟩
    rw [List.length_take]
    exact Nat.min_le_left _ _
  · simp only [h, decide_false, cond_false]
    exact ⟨_, rfl, hl, by omega⟩

/-! ## the same is the same -/
theorem p50_L4_refl (n : Nat) (l : List Int) (hl : l.length < 4611686018427387904) : ∀ (m i : Nat), i ≤ l.length → l.length - i < m → p50_L4 n m l l i = some ((true, ()), ())
  | 0, i, _, h => by omega
  | m + 1, i, hi, h => by
    show st50_L4 n (p50_L4 n m) l l i = _
    simp only [st50_L4]
    by_cases h1 : i < l.length
    · have h2 : decide ((i : Int) < (l.length : Int)) = true := by simp; omega
      have h3 : decide ((0 : Int) ≤ (i : Int)) = true := by simp
      simp only [h2, h3, cond_true, decide_true, Bool.not_true, cond_false]
      rw [wr (by omega) (by omega), show ((i : Int) + 1) = ((i + 1 : Nat) : Int) by omega]
      exact p50_L4_refl n l hl m (i + 1) (by omega) (by omega)
    · have h2 : decide ((i : Int) < (l.length : Int)) = false := by simp; omega
      simp only [h2, cond_false]
theorem p50_refl (n : Nat) (l : List Int) (hl : l.length < 4611686018427387904) (hn : l.length < n) : p50 n l l = some ((true, ()), ()) := by
  show st50_top n (p50_L4 n n) l l = _
  simp only [st50_top, decide_true, Bool.not_true, cond_false]
  exact p50_L4_refl n l hl n 0 (by omega) (by omega)


theorem bnn (b : Bool) : (!b == b) = false := by cases b <;> rfl
theorem p49_L4_refl (n : Nat) (l : List Bool) (hl : l.length < 4611686018427387904) : ∀ (m i : Nat), i ≤ l.length → l.length - i < m → p49_L4 n m l l i = some ((true, ()), ())
  | 0, i, _, h => by omega
  | m + 1, i, hi, h => by
    show st49_L4 n (p49_L4 n m) l l i = _
    simp only [st49_L4]
    by_cases h1 : i < l.length
    · have h2 : decide ((i : Int) < (l.length : Int)) = true := by simp; omega
      have h3 : decide ((0 : Int) ≤ (i : Int)) = true := by simp
      simp only [h2, h3, cond_true, decide_true, Bool.not_true, cond_false, bnn]
      rw [wr (by omega) (by omega), show ((i : Int) + 1) = ((i + 1 : Nat) : Int) by omega]
      exact p49_L4_refl n l hl m (i + 1) (by omega) (by omega)
    · have h2 : decide ((i : Int) < (l.length : Int)) = false := by simp; omega
      simp only [h2, cond_false]
theorem p49_refl (n : Nat) (l : List Bool) (hl : l.length < 4611686018427387904) (hn : l.length < n) : p49 n l l = some ((true, ()), ()) := by
  show st49_top n (p49_L4 n n) l l = _
  simp only [st49_top, decide_true, Bool.not_true, cond_false]
  exact p49_L4_refl n l hl n 0 (by omega) (by omega)


/-! ## signals -/
abbrev Sg := List Bool × List Bool × List Int
theorem p12_refl (n : Nat) (s : Sg) (h1 : s.1.length ≤ 8) (h2 : s.2.1.length ≤ 8) (h3 : s.2.2.length ≤ 8) (hn : 100 ≤ n) : p12 n s s = some ((true, ()), ()) := by
  obtain ⟨h, b, d⟩ := s
  have h1 : h.length ≤ 8 := h1
  have h2 : b.length ≤ 8 := h2
  have h3 : d.length ≤ 8 := h3
  show st12_top n (h, b, d) (h, b, d) = _
  simp only [st12_top, q49, q50, p49_refl n h (by omega) (by omega), p49_refl n b (by omega) (by omega), p50_refl n d (by omega) (by omega), Option.bind_some, cond_true]

def okAt (b : List Bool) (d : List Int) (i : Nat) : Bool :=
  (decide (d.getD i 0 = 0) || (decide (d.getD i 0 = 1) || decide (d.getD i 0 = 4))) && (!(decide (i = 0) || decide (i = 1)) || (!b.getD i false && decide (d.getD i 0 = 0)))
def okFrom (b : List Bool) (d : List Int) : Nat → Nat → Bool
  | _, 0 => true
  | i, r + 1 => cond (okAt b d i) (okFrom b d (i + 1) r) false
def sigsOk (s : Sg) : Bool := decide ((s.1.length : Int) = 8) && (decide ((s.2.1.length : Int) = 8) && (decide ((s.2.2.length : Int) = 8) && okFrom s.2.1 s.2.2 0 8))

theorem p41_L4_eq (n : Nat) (h b : List Bool) (d : List Int) (hb : b.length = 8) (hd : d.length = 8) : ∀ (m r i : Nat), i + r = 8 → r < m → p41_L4 n m d d.length i h b d = some ((okFrom b d i r, ()), ())
  | 0, r, i, _, h => by omega
  | m + 1, 0, i, hi, hm => by
    have : i = d.length := by omega
    subst this
    show st41_L4 n (p41_L4 n m) d d.length d.length h b d = _
    simp only [st41_L4, lt_f, cond_false]
    rfl
  | m + 1, r + 1, i, hi, hm => by
    show st41_L4 n (p41_L4 n m) d d.length i h b d = _
    have ih := p41_L4_eq n h b d hb hd m r (i + 1) (by omega) (by omega)
    simp only [st41_L4, lt_t (show i < d.length by omega), lt_t (show i < b.length by omega), ge_t, cond_true, toNat_cast, okFrom, okAt]
    rw [wr (x := (i : Int) + 1) (by omega) (by omega), succI, ih]
    have c1 : decide (((i + 1 : Nat) : Int) = 1) = decide (i = 0) := by by_cases h : i = 0 <;> simp [h] <;> omega
    have c2 : decide (((i + 1 : Nat) : Int) = 2) = decide (i = 1) := by by_cases h : i = 1 <;> simp [h] <;> omega
    simp only [c1, c2]
    generalize okFrom b d (i + 1) r = o
    generalize decide (d.getD i 0 = 0) = x0
    generalize decide (d.getD i 0 = 1) = x1
    generalize decide (d.getD i 0 = 4) = x4
    generalize b.getD i false = z
    cases decide (i = 0) <;> cases decide (i = 1) <;> cases x0 <;> cases x1 <;> cases x4 <;> cases z <;> cases o <;> rfl
theorem p41_eq (n : Nat) (hn : 100 ≤ n) (s : Sg) : p41 n s = some ((sigsOk s, ()), ()) := by
  obtain ⟨h, b, d⟩ := s
  show st41_top n (p41_L4 n n) (h, b, d) = _
  simp only [st41_top, sigsOk]
  by_cases h1 : (h.length : Int) = 8 <;> by_cases h2 : (b.length : Int) = 8 <;> by_cases h3 : (d.length : Int) = 8 <;> simp only [h1, h2, h3, decide_true, decide_false, Bool.not_true, Bool.not_false, cond_true, cond_false, Bool.true_and, Bool.false_and]
  have := p41_L4_eq n h b d (by omega) (by omega) n 8 0 (by omega) (by omega)
  rw [h3] at this
  exact this

theorem p45_L4_eq (n : Nat) (h b : List Bool) (d : List Int) (hb : b.length = 8) (hd : d.length = 8) : ∀ (m r i : Nat), i + r = 8 → r < m → p45_L4 n m i h b d = some ((okFrom b d i r, ()), ())
  | 0, r, i, _, h => by omega
  | m + 1, 0, i, hi, hm => by
    have : i = 8 := by omega
    subst this
    show st45_L4 n (p45_L4 n m) ((8 : Nat) : Int) h b d = _
    simp only [st45_L4]
    rfl
  | m + 1, r + 1, i, hi, hm => by
    show st45_L4 n (p45_L4 n m) i h b d = _
    have ih := p45_L4_eq n h b d hb hd m r (i + 1) (by omega) (by omega)
    have l8 : decide ((i : Int) < 8) = true := by simp; omega
    simp only [st45_L4, l8, lt_t (show i < d.length by omega), lt_t (show i < b.length by omega), ge_t, cond_true, toNat_cast, okFrom, okAt, q89, p89, st89_top]
    rw [wr (x := (i : Int) + 1) (by omega) (by omega), succI, ih]
    have c1 : decide (((i + 1 : Nat) : Int) = 1) = decide (i = 0) := by by_cases h : i = 0 <;> simp [h] <;> omega
    have c2 : decide (((i + 1 : Nat) : Int) = 2) = decide (i = 1) := by by_cases h : i = 1 <;> simp [h] <;> omega
    simp only [c1, c2]
    generalize okFrom b d (i + 1) r = o
    generalize decide (d.getD i 0 = 0) = x0
    generalize decide (d.getD i 0 = 1) = x1
    generalize decide (d.getD i 0 = 4) = x4
    generalize b.getD i false = z
    cases decide (i = 0) <;> cases decide (i = 1) <;> cases x0 <;> cases x1 <;> cases x4 <;> cases z <;> cases o <;> rfl
theorem p45_eq (n : Nat) (hn : 100 ≤ n) (s : Sg) : p45 n s = some ((sigsOk s, ()), ()) := by
  obtain ⟨h, b, d⟩ := s
  show st45_top n (p45_L4 n n) (h, b, d) = _
  simp only [st45_top, sigsOk]
  by_cases h1 : (h.length : Int) = 8 <;> by_cases h2 : (b.length : Int) = 8 <;> by_cases h3 : (d.length : Int) = 8 <;> simp only [h1, h2, h3, decide_true, decide_false, Bool.not_true, Bool.not_false, cond_true, cond_false, Bool.true_and, Bool.false_and]
  exact p45_L4_eq n h b d (by omega) (by omega) n 8 0 (by omega) (by omega)

structure Ok8 (s : Sg) : Prop where
  h : s.1.length = 8
  b : s.2.1.length = 8
  d : s.2.2.length = 8
  ok : okFrom s.2.1 s.2.2 0 8 = true
theorem sigsOk_iff (s : Sg) : sigsOk s = true ↔ Ok8 s := by
  simp only [sigsOk, Bool.and_eq_true, decide_eq_true_eq]
  constructor
  · rintro ⟨h1, h2, h3, h4⟩; exact ⟨by omega, by omega, by omega, h4⟩
  · rintro ⟨h1, h2, h3, h4⟩; exact ⟨by omega, by omega, by omega, h4⟩

def doesF (d : List Int) (j : Nat) : Int :=
  if d.getD j 0 = 0 then (if j = 1 then 2 else if j = 5 then 2 else if j = 2 then 3 else if j = 3 then 1 else if j = 6 then 1 else 0) else d.getD j 0
theorem jj {j : Nat} (hj : j < 8) : IntKind.i64.wrap (((j + 1 : Nat) : Int) - 1) = (j : Int) := (wr (x := ((j + 1 : Nat) : Int) - 1) (by omega) (by omega)).trans (by omega)
theorem eqj (j k : Nat) : decide (((j + 1 : Nat) : Int) = ((k + 1 : Nat) : Int)) = decide (j = k) := by by_cases h : j = k <;> simp [h] <;> omega
theorem p44_eq (n : Nat) (s : Sg) (hd : s.2.2.length = 8) (j : Nat) (hj : j < 8) : p44 n s ((j + 1 : Nat) : Int) = some ((doesF s.2.2 j, ()), ()) := by
  obtain ⟨h, b, d⟩ := s
  have hd : d.length = 8 := hd
  show st44_top n (h, b, d) ((j + 1 : Nat) : Int) = _
  have e2 := eqj j 1; have e6 := eqj j 5; have e3 := eqj j 2; have e4 := eqj j 3; have e7 := eqj j 6
  simp only [st44_top, jj hj, lt_t (show j < d.length by omega), ge_t, cond_true, toNat_cast, q92, p92, st92_top, doesF]
  rcases (by omega : j = 0 ∨ j = 1 ∨ j = 2 ∨ j = 3 ∨ j = 4 ∨ j = 5 ∨ j = 6 ∨ j = 7) with rfl | rfl | rfl | rfl | rfl | rfl | rfl | rfl <;> cases hz : decide (d.getD _ 0 = 0) <;> simp_all
theorem p93_eq (n : Nat) (s : Sg) (hd : s.2.2.length = 8) (j : Nat) (hj : j < 8) : p93 n s ((j + 1 : Nat) : Int) = some ((doesF s.2.2 j, ()), ()) := by
  obtain ⟨h, b, d⟩ := s
  have hd : d.length = 8 := hd
  show st93_top n (h, b, d) ((j + 1 : Nat) : Int) = _
  simp only [st93_top, jj hj, lt_t (show j < d.length by omega), ge_t, cond_true, toNat_cast, doesF]
  rcases (by omega : j = 0 ∨ j = 1 ∨ j = 2 ∨ j = 3 ∨ j = 4 ∨ j = 5 ∨ j = 6 ∨ j = 7) with rfl | rfl | rfl | rfl | rfl | rfl | rfl | rfl <;> cases hz : decide (d.getD _ 0 = 0) <;> simp_all
end Go.Proofs.Ytfbdkjdockbfdaa.Rx.S
namespace Go.Proofs.Ytfbdkjdockbfdaa.Rx.S
open Go Go.Proofs.Ytfbdkjdockbfdaa.Rx.Pu
set_option linter.unusedVariables false
set_option linter.unusedSimpArgs false

def sendB (h : List Bool) (j : Nat) : List Bool := if j = 1 then h.set 2 false else if j = 5 then h.set 2 false else if j = 2 then (h.set 1 false).set 5 false else h
def sendF (s : Sg) (j : Nat) : Sg := (cond (s.2.1.getD j false || !decide (doesF s.2.2 j = 1)) ((sendB s.1 j).set j true) (sendB s.1 j), s.2.1, s.2.2)
def sendR (s : Sg) (x : Int) : Sg × Bool := bif sigsOk s && decide (1 ≤ x ∧ x ≤ 8) then (sendF s (x - 1).toNat, true) else (([], [], []), false)

theorem clone_eq (n : Nat) (s : Sg) (h : Ok8 s) : p43 n s = some ((s, ()), ()) ∧ p48 n s = some ((s, ()), ()) := by
  obtain ⟨h0, b, d⟩ := s
  have h1 : h0.length = 8 := h.h
  have h2 : b.length = 8 := h.b
  have h3 : d.length = 8 := h.d
  constructor
  · show st43_top n (h0, b, d) = _
    simp only [st43_top, q90, p90, q91, p91, h1, h2, h3]
    rfl
  · show st48_top n (h0, b, d) = _
    simp only [st48_top, h1, h2, h3]
    rfl

theorem p10_eq (n : Nat) (hn : 100 ≤ n) (s : Sg) (x : Int) : p10 n s x = some (((sendR s x).1, ((sendR s x).2, ())), ()) := by
  obtain ⟨h, b, d⟩ := s
  show st10_top n (h, b, d) x = _
  simp only [st10_top, q41, p41_eq n hn, Option.bind_some, sendR]
  cases hk : sigsOk (h, b, d) with
  | false => rfl
  | true =>
    have hok := (sigsOk_iff _).1 hk
    have h1 : h.length = 8 := hok.h
    have h2 : b.length = 8 := hok.b
    have h3 : d.length = 8 := hok.d
    simp only [Bool.not_true, cond_false, Bool.true_and, q42, p42_eq, Option.bind_some, q43, (clone_eq n _ hok).1]
    by_cases hx : 1 ≤ x ∧ x ≤ 8
    · obtain ⟨j, hj⟩ := Int.eq_ofNat_of_zero_le (show 0 ≤ x - 1 by omega)
      have hxj : x = ((j + 1 : Nat) : Int) := by omega
      subst hxj
      have hj8 : j < 8 := by omega
      have hjn : (((j + 1 : Nat) : Int) - 1).toNat = j := by omega
      have e2 : decide (((j + 1 : Nat) : Int) = 2) = decide (j = 1) := eqj j 1
      have e6 : decide (((j + 1 : Nat) : Int) = 6) = decide (j = 5) := eqj j 5
      have e3 : decide (((j + 1 : Nat) : Int) = 3) = decide (j = 2) := eqj j 2
      have l2 : ((2 : Int) < 8) := by decide
      simp only [hx, and_self, decide_true, Bool.not_true, cond_false, cond_true, e2, e6, e3, List.length_set, h1, h2, jj hj8, hjn, toNat_cast, ge_t, lt_t hj8, q44, p44_eq n (h, b, d) h3 j hj8, Option.bind_some, sendF, sendB]
      have z1 : Int.toNat 2 = 2 := rfl
      have z2 : Int.toNat 1 = 1 := rfl
      have z3 : Int.toNat 5 = 5 := rfl
      have z4 : decide ((2 : Int) < ((8 : Nat) : Int)) = true := rfl
      have z5 : decide ((1 : Int) < ((8 : Nat) : Int)) = true := rfl
      have z6 : decide ((5 : Int) < ((8 : Nat) : Int)) = true := rfl
      simp only [z1, z2, z3, z4, z5, z6, cond_true]
      generalize b.getD j false = z
      generalize decide (doesF d j = 1) = w
      by_cases j1 : j = 1
      · subst j1; cases z <;> cases w <;> rfl
      · by_cases j5 : j = 5
        · subst j5; cases z <;> cases w <;> rfl
        · by_cases j2 : j = 2
          · subst j2; cases z <;> cases w <;> rfl
          · simp only [j1, j5, j2, decide_false, cond_false, if_false]
            cases z <;> cases w <;> rfl
    · simp only [hx, decide_false, Bool.not_false, cond_true, cond_false]

theorem p47_eq (n : Nat) (s : Sg) (hok : Ok8 s) (j : Nat) (hj8 : j < 8) : p47 n s ((j + 1 : Nat) : Int) = some ((sendF s j, ()), ()) := by
  obtain ⟨h, b, d⟩ := s
  have h1 : h.length = 8 := hok.h
  have h2 : b.length = 8 := hok.b
  have h3 : d.length = 8 := hok.d
  show st47_top n (h, b, d) ((j + 1 : Nat) : Int) = _
  have e2 : decide (((j + 1 : Nat) : Int) = 2) = decide (j = 1) := eqj j 1
  have e6 : decide (((j + 1 : Nat) : Int) = 6) = decide (j = 5) := eqj j 5
  have e3 : decide (((j + 1 : Nat) : Int) = 3) = decide (j = 2) := eqj j 2
  have k93 : ∀ hh, p93 n (hh, b, d) ((j + 1 : Nat) : Int) = some ((doesF d j, ()), ()) := fun hh => p93_eq n (hh, b, d) h3 j hj8
  simp only [st47_top, cond_false, cond_true, e2, e6, e3, List.length_set, h1, h2, jj hj8, toNat_cast, ge_t, lt_t hj8, q93, k93, Option.bind_some, sendF, sendB]
  have z1 : Int.toNat 2 = 2 := rfl
  have z2 : Int.toNat 1 = 1 := rfl
  have z3 : Int.toNat 5 = 5 := rfl
  have z4 : decide ((2 : Int) < ((8 : Nat) : Int)) = true := rfl
  have z5 : decide ((1 : Int) < ((8 : Nat) : Int)) = true := rfl
  have z6 : decide ((5 : Int) < ((8 : Nat) : Int)) = true := rfl
  simp only [z1, z2, z3, z4, z5, z6, cond_true]
  generalize b.getD j false = z
  generalize decide (doesF d j = 1) = w
  by_cases j1 : j = 1
  · subst j1; cases z <;> cases w <;> rfl
  · by_cases j5 : j = 5
    · subst j5; cases z <;> cases w <;> rfl
    · by_cases j2 : j = 2
      · subst j2; cases z <;> cases w <;> rfl
      · simp only [j1, j5, j2, decide_false, cond_false, if_false]
        cases z <;> cases w <;> rfl
theorem p11_eq (n : Nat) (hn : 100 ≤ n) (s : Sg) (x : Int) : p11 n s x = some (((sendR s x).1, ((sendR s x).2, ())), ()) := by
  show st11_top n s x = _
  have e : (s.1, s.2.1, s.2.2) = s := rfl
  simp only [st11_top, q45, e, p45_eq n hn, Option.bind_some, sendR]
  cases hk : sigsOk s with
  | false => rfl
  | true =>
    have hok := (sigsOk_iff _).1 hk
    simp only [Bool.not_true, cond_false, Bool.true_and, q46, p46_eq, Option.bind_some, q48, (clone_eq n _ hok).2, e]
    by_cases hx : 1 ≤ x ∧ x ≤ 8
    · obtain ⟨j, hj⟩ := Int.eq_ofNat_of_zero_le (show 0 ≤ x - 1 by omega)
      have hxj : x = ((j + 1 : Nat) : Int) := by omega
      subst hxj
      have hjn : (((j + 1 : Nat) : Int) - 1).toNat = j := by omega
      simp only [hx, and_self, decide_true, Bool.not_true, cond_false, cond_true, q47, p47_eq n s hok j (by omega), Option.bind_some, hjn]
    · simp only [hx, decide_false, Bool.not_false, cond_true, cond_false]

/-! ## the next one -/
def firstF (h b : List Bool) : Nat → Nat → Nat
  | _, 0 => 0
  | i, r + 1 => cond (h.getD i false && !b.getD i false) (i + 1) (firstF h b (i + 1) r)
theorem firstF_spec (h b : List Bool) : ∀ (r i : Nat), (firstF h b i r = 0 ∧ ∀ t, i ≤ t → t < i + r → (h.getD t false && !b.getD t false) = false) ∨
    ∃ t, firstF h b i r = t + 1 ∧ i ≤ t ∧ t < i + r ∧ (h.getD t false && !b.getD t false) = true ∧ ∀ u, i ≤ u → u < t → (h.getD u false && !b.getD u false) = false
  | 0, i => .inl ⟨rfl, fun t h1 h2 => by omega⟩
  | r + 1, i => by
    simp only [firstF]
    cases hc : (h.getD i false && !b.getD i false) with
    | true => exact .inr ⟨i, rfl, by omega, by omega, hc, fun u h1 h2 => by omega⟩
    | false =>
      rcases firstF_spec h b r (i + 1) with ⟨h1, h2⟩ | ⟨t, h1, h2, h3, h4, h5⟩
      · refine .inl ⟨h1, fun t g1 g2 => ?_⟩
        by_cases e : t = i
        · rw [e]; exact hc
        · exact h2 t (by omega) (by omega)
      · refine .inr ⟨t, h1, by omega, by omega, h4, fun u g1 g2 => ?_⟩
        by_cases e : u = i
        · rw [e]; exact hc
        · exact h5 u (by omega) g2
theorem p51_L2_eq (n : Nat) (h b : List Bool) (d : List Int) (hh : h.length = 8) (hb : b.length = 8) : ∀ (m r i : Nat), i + r = 8 → r < m → p51_L2 n m ((i + 1 : Nat) : Int) h b d = some ((((firstF h b i r : Nat) : Int), ()), ())
  | 0, r, i, _, h => by omega
  | m + 1, 0, i, hi, hm => by
    have : i = 8 := by omega
    subst this
    show st51_L2 n (p51_L2 n m) ((8 + 1 : Nat) : Int) h b d = _
    simp only [st51_L2]
    rfl
  | m + 1, r + 1, i, hi, hm => by
    show st51_L2 n (p51_L2 n m) ((i + 1 : Nat) : Int) h b d = _
    have ih := p51_L2_eq n h b d hh hb m r (i + 1) (by omega) (by omega)
    have l8 : decide (((i + 1 : Nat) : Int) ≤ 8) = true := by simp; omega
    simp only [st51_L2, l8, jj (show i < 8 by omega), lt_t (show i < h.length by omega), lt_t (show i < b.length by omega), ge_t, cond_true, toNat_cast, q52, p52, st52_top, Option.bind_some, firstF]
    rw [wr (x := ((i + 1 : Nat) : Int) + 1) (by omega) (by omega), succI, ih]
    cases h.getD i false <;> cases b.getD i false <;> rfl

def nextF (s : Sg) : Sg × Nat := (bif decide (firstF s.1 s.2.1 0 8 = 0) then s else (s.1.set (firstF s.1 s.2.1 0 8 - 1) false, s.2.1, s.2.2), firstF s.1 s.2.1 0 8)
theorem p13_eq (n : Nat) (hn : 100 ≤ n) (s : Sg) (hok : Ok8 s) : ∃ (w : Int), p13 n s = some (((nextF s).1, ((((nextF s).2 : Nat) : Int), (w, (!decide ((nextF s).2 = 0), ())))), ()) := by
  have hk := (sigsOk_iff _).2 hok
  have e : (s.1, s.2.1, s.2.2) = s := rfl
  have h51 : p51 n s () = some ((((firstF s.1 s.2.1 0 8 : Nat) : Int), ()), ()) := p51_L2_eq n s.1 s.2.1 s.2.2 hok.h hok.b n 8 0 (by omega) (by omega)
  show ∃ w : Int, st13_top n s = _
  simp only [st13_top, q41, e, p41_eq n hn, hk, Bool.not_true, cond_false, Option.bind_some, q43, (clone_eq n _ hok).1, q51, h51, nextF]
  rcases firstF_spec s.1 s.2.1 8 0 with ⟨h1, _⟩ | ⟨t, h1, h2, h3, _⟩
  · simp only [h1]
    exact ⟨1, rfl⟩
  · have z : ¬ (((t + 1 : Nat) : Int) = 0) := by omega
    have z2 : ¬ (t + 1 = 0) := by omega
    have ht : t < 8 := by omega
    have hl : decide ((t : Int) < (s.1.length : Int)) = true := lt_t (by rw [hok.h]; exact ht)
    simp only [h1, z, z2, decide_false, cond_false, jj ht, ge_t, hl, cond_true, toNat_cast, q44, p44_eq n s hok.d t ht, Option.bind_some, Bool.not_false, Nat.add_sub_cancel]
    exact ⟨_, rfl⟩

theorem p14_eq (n : Nat) (hn : 100 ≤ n) (s : Sg) (hok : Ok8 s) : p14 n s (List.replicate 8 false) = some (((s.1, List.replicate 8 false, s.2.2), (true, ())), ()) := by
  have hk := (sigsOk_iff _).2 hok
  have e : (s.1, s.2.1, s.2.2) = s := rfl
  have z8 : decide (((List.replicate 8 false).length : Int) = 8) = true := rfl
  show st14_top n (p14_L5 n n) s (List.replicate 8 false) = _
  simp only [st14_top, q41, e, p41_eq n hn, hk, Bool.not_true, cond_false, Option.bind_some, z8, q43, (clone_eq n _ hok).1]
  have := copy_loop (F := fun k xs i acc => p14_L5 n k xs (xs.length : Int) i s.1 acc s.2.2) (R := fun acc => some (((s.1, acc, s.2.2), (true, ())), ())) (g := fun _ => false) (da := false) (List.replicate 8 false) (fun k i acc hi ha => by
      show st14_L5 n (p14_L5 n k) (List.replicate 8 false) ((List.replicate 8 false).length : Int) i s.1 acc s.2.2 = _
      have hi8 : i < 8 := by simpa using hi
      have hg : (List.replicate 8 false).getD i false = false := by
        rw [List.getD_eq_getElem?_getD, List.getElem?_replicate, if_pos hi8]; rfl
      have hla : i < acc.length := by rw [ha]; exact hi
      simp only [st14_L5, lt_t hi, lt_t hla, ge_t, cond_true, toNat_cast, hg, cond_false]
      rw [wr (x := (i : Int) + 1) (by omega) (by omega), succI]) (fun k acc => by
      show st14_L5 n (p14_L5 n k) (List.replicate 8 false) ((List.replicate 8 false).length : Int) ((List.replicate 8 false).length : Int) s.1 acc s.2.2 = _
      simp only [st14_L5, lt_f, cond_false]) 8 n 0 s.2.1 (by rw [hok.b]; rfl) rfl (by omega) (fun j hj => by omega)
  have hm : (List.replicate 8 false).map (fun _ => false) = List.replicate 8 false := rfl
  rw [hm] at this
  exact this

/-! ## what is drawn -/
theorem p39_L3_eq (n : Nat) {l : List Int} (hl : Bys l) : ∀ (m r i : Nat) (pos : Int) (h b : List Bool) (d : List Int), i + r = 8 → r < m → 0 ≤ pos → pos < 1000 + 10 * i → h.length = 8 → b.length = 8 → d.length = 8 →
    ∃ (s : Sg) (pos' : Int), p39_L3 n m i l pos h b d = some ((s, ()), ((l, pos'), ())) ∧ s.1.length ≤ 8 ∧ s.2.1.length ≤ 8 ∧ s.2.2.length ≤ 8 ∧ 0 ≤ pos' ∧ pos' < 2000
  | 0, r, i, _, _, _, _, _, h, _, _, _, _, _ => by omega
  | m + 1, 0, i, pos, h, b, d, hi, hm, hp, hp2, h1, h2, h3 => by
    have : i = 8 := by omega
    subst this
    show ∃ (s : Sg) (pos' : Int), st39_L3 n (p39_L3 n m) ((8 : Nat) : Int) l pos h b d = _ ∧ _
    have l8 : decide (((8 : Nat) : Int) < 8) = false := rfl
    obtain ⟨v, hv, hv0, hv1⟩ := p40_eq n hl (pos := pos) (b := 24) (by omega) (by omega)
    obtain ⟨v8, hv8, g0, g1⟩ := p40_eq n hl (pos := pos + 1) (b := 8) (by omega) (by omega)
    obtain ⟨v6, hv6, _, _⟩ := p40_eq n hl (pos := pos + 1 + 1) (b := 6) (by omega) (by omega)
    obtain ⟨v2, hv2, g2, g3⟩ := p40_eq n hl (pos := pos + 1) (b := 2) (by omega) (by omega)
    have k1 : decide (v8 < ((8 : Nat) : Int)) = true := by simp; omega
    have k2 : decide (v2 < ((8 : Nat) : Int)) = true := by simp; omega
    have k3 : decide ((1 : Int) ≤ ((8 : Nat) : Int)) = true := rfl
    simp only [st39_L3, l8, cond_false, q40, hv, hv8, hv6, hv2, Option.bind_some, h1, h2, h3, g0, g2, k1, k2, k3, decide_true, cond_true]
    by_cases c0 : v = 0
    · simp only [c0, decide_true, cond_true]
      exact ⟨_, _, rfl, by show h.length ≤ 8; omega, by show b.length ≤ 8; omega, by simp [h3], by omega, by omega⟩
    · by_cases c1 : v = 1
      · simp only [c1, decide_true, cond_true]
        exact ⟨_, _, rfl, by show h.length ≤ 8; omega, by simp [h2], by show d.length ≤ 8; omega, by omega, by omega⟩
      · by_cases c2 : v = 2
        · simp only [c2, decide_true, cond_true]
          exact ⟨_, _, rfl, by show (List.take _ (List.drop _ h)).length ≤ 8; rw [List.length_take, List.length_drop]; omega, by show b.length ≤ 8; omega, by show d.length ≤ 8; omega, by omega, by omega⟩
        · simp only [c0, c1, c2, decide_false, cond_false]
          exact ⟨_, _, rfl, by show h.length ≤ 8; omega, by show b.length ≤ 8; omega, by show d.length ≤ 8; omega, by omega, by omega⟩
  | m + 1, r + 1, i, pos, h, b, d, hi, hm, hp, hp2, h1, h2, h3 => by
    show ∃ (s : Sg) (pos' : Int), st39_L3 n (p39_L3 n m) i l pos h b d = _ ∧ _
    have l8 : decide ((i : Int) < 8) = true := by simp; omega
    obtain ⟨v, hv, _, _⟩ := p40_eq n hl (pos := pos) (b := 3) (by omega) (by omega)
    obtain ⟨v', hv', _, _⟩ := p40_eq n hl (pos := pos + 1) (b := 3) (by omega) (by omega)
    obtain ⟨v4, hv4, g0, g1⟩ := p40_eq n hl (pos := pos + 1 + 1) (b := 4) (by omega) (by omega)
    have k1 : decide (v4 < ((([0, 0, 1, 4] : List Int).length : Nat) : Int)) = true := by simp; omega
    simp only [st39_L3, l8, cond_true, q40, hv, hv', hv4, Option.bind_some, ge_t, lt_t (show i < h.length by omega), lt_t (show i < b.length by omega), lt_t (show i < d.length by omega), toNat_cast, q89, p89, st89_top, g0, k1, decide_true]
    rw [wr (x := (i : Int) + 1) (by omega) (by omega), succI]
    cases decide (((i + 1 : Nat) : Int) = 1) with
    | true =>
      exact p39_L3_eq n hl m r (i + 1) (pos + 1) _ _ _ (by omega) (by omega) (by omega) (by omega) (by simpa using h1) h2 h3
    | false =>
      try simp only [cond_false, Option.bind_some]
      cases decide (((i + 1 : Nat) : Int) = 2) with
      | true => exact p39_L3_eq n hl m r (i + 1) (pos + 1) _ _ _ (by omega) (by omega) (by omega) (by omega) (by simpa using h1) h2 h3
      | false => exact p39_L3_eq n hl m r (i + 1) (pos + 1 + 1 + 1) _ _ _ (by omega) (by omega) (by omega) (by omega) (by simpa using h1) (by simpa using h2) (by simpa using h3)
theorem p9_eq (n : Nat) (hn : 100 ≤ n) {l : List Int} (hl : ∀ x ∈ l, 0 ≤ x ∧ x < 256) : ∃ (s : Sg) (x : Int), p9 n l = some ((s, (x, ())), ()) ∧ s.1.length ≤ 8 ∧ s.2.1.length ≤ 8 ∧ s.2.2.length ≤ 8 := by
  obtain ⟨l', e1, e2⟩ := p38_eq n hl
  obtain ⟨s, pos', h3, h4, h5, h6, h7, h8⟩ := p39_L3_eq n e2 n 8 0 0 (List.replicate 8 false) (List.replicate 8 false) (List.replicate 8 0) (by omega) (by omega) (by omega) (by omega) (by simp) (by simp) (by simp)
  have h39 : p39 n (l', 0) = some ((s, ()), ((l', pos'), ())) := h3
  obtain ⟨v, hv, g0, g1⟩ := p40_eq n e2 (pos := pos') (b := 11) (by omega) (by omega)
  refine ⟨s, IntKind.i64.wrap (v - 1), ?_, h4, h5, h6⟩
  show st9_top n l = _
  simp only [st9_top, q38, e1, q39, h39, q40, hv, Option.bind_some]

/-! ## the law -/
theorem okFrom_free {b : List Bool} {d : List Int} : ∀ {r i : Nat}, okFrom b d i r = true → okFrom (List.replicate 8 false) d i r = true
  | 0, i, h => rfl
  | r + 1, i, h => by
    simp only [okFrom] at h ⊢
    have hg : (List.replicate 8 false).getD i false = false := by
      rw [List.getD_eq_getElem?_getD, List.getElem?_replicate]
      split <;> rfl
    cases ho : okAt b d i with
    | false => rw [ho] at h; cases h
    | true =>
      rw [ho] at h
      have : okAt (List.replicate 8 false) d i = true := by
        simp only [okAt, hg] at ho ⊢
        revert ho
        generalize decide (d.getD i 0 = 0) = x0
        generalize decide (d.getD i 0 = 1) = x1
        generalize decide (d.getD i 0 = 4) = x4
        cases decide (i = 0) <;> cases decide (i = 1) <;> cases x0 <;> cases x1 <;> cases x4 <;> cases b.getD i false <;> simp
      rw [this]
      exact okFrom_free h

theorem setB {h : List Bool} {i t : Nat} {z : Bool} (hi : i < h.length) : (h.set i z).getD t false = if i = t then z else h.getD t false := by
  rw [List.getD_eq_getElem?_getD, List.getElem?_set]
  by_cases e : i = t
  · rw [if_pos e, if_pos hi, if_pos e]; rfl
  · rw [if_neg e, if_neg e, List.getD_eq_getElem?_getD]

theorem p3_L11_eq (n : Nat) (hn : 100 ≤ n) (j : Nat) (hj : j < 8) (k : Int) (hk : k ≠ ((j + 1 : Nat) : Int)) (d : List Int) (hd : d.length = 8) (hok : okFrom (List.replicate 8 false) d 0 8 = true) :
    ∀ (m r i : Nat) (h : List Bool), i + r = j → r < m → h.length = 8 → h.getD j false = true → (∀ t, t < i → h.getD t false = false) → p3_L11 n m ((j + 1 : Nat) : Int) k true i h (List.replicate 8 false) d = some ((true, ()), ())
  | 0, r, i, _, _, h, _, _, _ => by omega
  | m + 1, r, i, h, hi, hm, hl, hjt, hlow => by
    show st3_L11 n (p3_L11 n m) ((j + 1 : Nat) : Int) k true i h (List.replicate 8 false) d = _
    have l8 : decide ((i : Int) < 8) = true := by simp; omega
    obtain ⟨w, h13⟩ := p13_eq n hn (h, List.replicate 8 false, d) ⟨hl, rfl, hd, hok⟩
    have hg : ∀ t, (List.replicate 8 false).getD t false = false := by
      intro t
      rw [List.getD_eq_getElem?_getD, List.getElem?_replicate]
      split <;> rfl
    simp only [st3_L11, l8, cond_true, q13, h13, Option.bind_some]
    rcases firstF_spec h (List.replicate 8 false) 8 0 with ⟨_, h2⟩ | ⟨t, h1, h2, h3, h4, h5⟩
    · have := h2 j (by omega) (by omega)
      rw [hjt, hg] at this
      cases this
    · have ht : h.getD t false = true := by
        rw [hg] at h4
        simpa using h4
      have htj : t ≤ j := by
        rcases Nat.lt_or_ge j t with hlt | hge
        · have := h5 j (by omega) hlt
          rw [hjt, hg] at this
          cases this
        · exact hge
      have hti : i ≤ t := by
        rcases Nat.lt_or_ge t i with hlt | hge
        · rw [hlow t hlt] at ht; cases ht
        · exact hge
      have z0 : ¬ (t + 1 = 0) := by omega
      simp only [nextF, h1, z0, decide_false, Bool.not_false, cond_true, cond_false, Nat.add_sub_cancel]
      by_cases e : t = j
      · subst e
        simp only [decide_true, cond_true, hk, decide_false, Bool.not_false]
      · have z1 : ¬ (((t + 1 : Nat) : Int) = ((j + 1 : Nat) : Int)) := by omega
        simp only [z1, decide_false, cond_false]
        rw [wr (x := (i : Int) + 1) (by omega) (by omega), succI]
        refine p3_L11_eq n hn j hj k hk d hd hok m (r - 1) (i + 1) _ (by omega) (by omega) (by simpa using hl) ?_ (fun u hu => ?_)
        · rw [setB (by omega), if_neg e]; exact hjt
        · rw [setB (by omega)]
          split
          · rfl
          · rename_i hne
            have := h5 u (by omega) (by omega)
            rw [hg] at this
            simpa using this

theorem law3 (l : List Int) (hl : ∀ x ∈ l, 0 ≤ x ∧ x < 256) : p3 1000 l = some ((true, ()), ()) := by
  show st3_top 1000 (p3_L11 1000 1000) l = _
  simp only [st3_top]
  by_cases h : (1048576 : Int) < l.length
  · simp only [h, decide_true, cond_true]
  obtain ⟨s, x, h1, h2, h3, h4⟩ := p9_eq 1000 (by omega) hl
  have e : ∀ s : Sg, (s.1, s.2.1, s.2.2) = s := fun _ => rfl
  have hr : (sendR s x).1.1.length ≤ 8 ∧ (sendR s x).1.2.1.length ≤ 8 ∧ (sendR s x).1.2.2.length ≤ 8 := by
    unfold sendR
    cases (sigsOk s && decide (1 ≤ x ∧ x ≤ 8)) with
    | false => exact ⟨by simp, by simp, by simp⟩
    | true =>
      refine ⟨?_, h3, h4⟩
      show (sendF s (x - 1).toNat).1.length ≤ 8
      unfold sendF sendB
      simp only
      cases (s.2.1.getD (x - 1).toNat false || !decide (doesF s.2.2 (x - 1).toNat = 1)) <;> simp only [cond_true, cond_false] <;> (repeat' split) <;> simpa using h2
  have hrefl := p12_refl 1000 (sendR s x).1 hr.1 hr.2.1 hr.2.2 (by omega)
  have bb : ∀ b : Bool, (!b == b) = false := by intro b; cases b <;> rfl
  have bb2 : ∀ b : Bool, (b == b) = true := by intro b; cases b <;> rfl
  simp only [h, decide_false, cond_false, q9, h1, Option.bind_some, q10, q11, e, p10_eq 1000 (by omega), p11_eq 1000 (by omega), bb, bb2, q12, hrefl, Bool.not_true, cond_true]
  unfold sendR
  cases hc : (sigsOk s && decide (1 ≤ x ∧ x ≤ 8)) with
  | false => simp only [cond_false, Bool.not_false, cond_true]
  | true =>
    simp only [Bool.and_eq_true, decide_eq_true_eq] at hc
    obtain ⟨hk, hx⟩ := hc
    have hok := (sigsOk_iff _).1 hk
    obtain ⟨j, hj⟩ := Int.eq_ofNat_of_zero_le (show 0 ≤ x - 1 by omega)
    have hxj : x = ((j + 1 : Nat) : Int) := by omega
    subst hxj
    have hj8 : j < 8 := by omega
    have hjn : (((j + 1 : Nat) : Int) - 1).toNat = j := by omega
    have hlb : decide ((j : Int) < (s.2.1.length : Int)) = true := lt_t (by rw [hok.b]; exact hj8)
    simp only [cond_true, Bool.not_true, cond_false, jj hj8, ge_t, hlb, toNat_cast, hjn]
    cases hb : s.2.1.getD j false with
    | false => simp only [Bool.not_false, cond_true]
    | true =>
      simp only [Bool.not_true, cond_false]
      have hsl : (sendB s.1 j).length = 8 := by
        unfold sendB
        have := hok.h
        repeat' split
        all_goals simpa using this
      have hs : sendF s j = ((sendB s.1 j).set j true, s.2.1, s.2.2) := by
        unfold sendF
        rw [hb]
        rfl
      have hok2 : Ok8 (sendF s j) := by
        rw [hs]
        exact ⟨by simpa using hsl, hok.b, hok.d, hok.ok⟩
      obtain ⟨w, h13⟩ := p13_eq 1000 (by omega) (sendF s j) hok2
      have z8 : Int.toNat 8 = 8 := rfl
      have h14 := p14_eq 1000 (by omega) (sendF s j) hok2
      simp only [q13, h13, Option.bind_some, z8, q14, h14]
      have hst : (sendF s j).1.getD j false = true := by
        rw [hs]
        show ((sendB s.1 j).set j true).getD j false = true
        rw [setB (by omega), if_pos rfl]
      refine p3_L11_eq 1000 (by omega) j hj8 _ ?_ _ hok.d (okFrom_free hok.ok) 1000 j 0 _ (by omega) (by omega) hok2.h hst (fun t ht => by omega)
      -- the next one is not blocked
      intro hkk
      have hk2 : (nextF (sendF s j)).2 = j + 1 := by exact_mod_cast hkk
      rcases firstF_spec (sendF s j).1 (sendF s j).2.1 8 0 with ⟨g1, _⟩ | ⟨t, g1, _, _, g4, _⟩
      · rw [show (nextF (sendF s j)).2 = firstF (sendF s j).1 (sendF s j).2.1 0 8 from rfl, g1] at hk2
        omega
      · rw [show (nextF (sendF s j)).2 = firstF (sendF s j).1 (sendF s j).2.1 0 8 from rfl, g1] at hk2
        have htj : t = j := by omega
        rw [htj, show (sendF s j).2.1 = s.2.1 from rfl, hb] at g4
        simp at g4
end Go.Proofs.Ytfbdkjdockbfdaa.Rx.S
namespace Go.Proofs.Ytfbdkjdockbfdaa.Rx.S
open Go Go.Proofs.Ytfbdkjdockbfdaa.Rx.Pu
theorem u8_wf {x : Int} (h : (Lit.int .u8 x).wf = true) : 0 ≤ x ∧ x < 256 := by
  simp only [Lit.wf, Bool.and_eq_true, decide_eq_true_eq, IntKind.min, IntKind.max, IntKind.signed, IntKind.bits, Bool.false_eq_true, if_false] at h
  omega
theorem bytes_wf {xs : List Int} (h : WfT (.row 5 (.int .u8)) xs) : ∀ x ∈ xs, 0 ≤ x ∧ x < 256 := fun x hx => u8_wf (h.2 x hx)
theorem pure3 (l : List Int) (h : WfT (.row 5 (.int .u8)) l) : ∃ n o, q3 n (l, ()) = some ((true, ()), o) := ⟨1000, (), law3 l (bytes_wf h)⟩
end Go.Proofs.Ytfbdkjdockbfdaa.Rx.S
namespace Go.Proofs.Ytfbdkjdockbfdaa.Rx.S
open Go Go.Proofs.Ytfbdkjdockbfdaa.Rx.Pu
set_option linter.unusedVariables false
set_option linter.unusedSimpArgs false

abbrev Th := Int × Int × Int × Bool
abbrev Qu := List Th × Int
theorem getD_some {α : Type} {l : List α} {i : Nat} {d : α} (h : i < l.length) : l[i]? = some (l.getD i d) := by
  rw [List.getElem?_eq_getElem h, List.getD_eq_getElem?_getD, List.getElem?_eq_getElem h, Option.getD_some]
theorem getD_set_same {α : Type} {l : List α} {i : Nat} {a d : α} (h : i < l.length) : (l.set i a).getD i d = a := by
  rw [List.getD_eq_getElem?_getD, List.getElem?_set, if_pos rfl, if_pos h, Option.getD_some]
theorem getD_set_ne {α : Type} {l : List α} {i j : Nat} {a d : α} (h : i ≠ j) : (l.set i a).getD j d = l.getD j d := by
  rw [List.getD_eq_getElem?_getD, List.getElem?_set, if_neg h, List.getD_eq_getElem?_getD]
theorem getD_mem {α : Type} {l : List α} {i : Nat} {d : α} (h : i < l.length) : l.getD i d ∈ l := List.mem_of_getElem? (getD_some h)

def tkOk (fl : Int) (p : Option Int) (t : Th) : Bool := decide (0 ≤ t.1 ∧ t.1 ≤ 99) && (decide (1 ≤ t.2.1 ∧ t.2.1 ≤ 6) && (decide (0 ≤ t.2.2.1 ∧ t.2.2.1 ≤ 1000000) && ((!t.2.2.2 || decide (fl ≤ t.2.2.1)) && (match p with | none => true | some x => decide (x < t.1)))))
def okQ (fl : Int) : Option Int → List Th → Bool
  | _, [] => true
  | p, t :: ts => cond (tkOk fl p t) (okQ fl (some t.1) ts) false
def prevOf (l : List Th) : Nat → Option Int
  | 0 => none
  | j + 1 => some (l.getD j ((0 : Int), (0 : Int), (0 : Int), false)).1
def queueOk (q : Qu) : Bool := okQ q.2 none q.1 && (decide ((q.1.length : Int) ≤ 6) && decide (0 ≤ q.2 ∧ q.2 ≤ 1000000))

theorem p32_L2_eq (n : Nat) (l : List Th) (fl : Int) (hl : l.length ≤ 2000000) : ∀ (m i : Nat), i ≤ l.length → l.length - i < m →
    p32_L2 n m l l.length i l fl = some ((okQ fl (prevOf l i) (l.drop i) && (decide ((l.length : Int) ≤ 6) && decide (0 ≤ fl ∧ fl ≤ 1000000)), ()), ())
  | 0, i, _, h => by omega
  | m + 1, i, hi, h => by
    show st32_L2 n (p32_L2 n m) l l.length i l fl = _
    by_cases h1 : i < l.length
    · have ih := p32_L2_eq n l fl hl m (i + 1) (by omega) (by omega)
      rw [getD_drop (d := ((0 : Int), (0 : Int), (0 : Int), false)) h1]
      obtain ⟨⟨a, s, u, z⟩, ht⟩ : ∃ t, l.getD i ((0 : Int), (0 : Int), (0 : Int), false) = t := ⟨_, rfl⟩
      simp only [prevOf, ht] at ih
      simp only [st32_L2, toNat_cast, lt_t h1, ge_t, cond_true, ht, q42, p42_eq, Option.bind_some, okQ]
      rw [wr (x := (i : Int) + 1) (by omega) (by omega), succI, ih]
      generalize okQ fl (some a) (l.drop (i + 1)) = o
      generalize (decide ((l.length : Int) ≤ 6) && decide (0 ≤ fl ∧ fl ≤ 1000000)) = e
      clear ih ht
      cases i with
      | zero =>
        have z0 : ¬ ((0 : Int) < ((0 : Nat) : Int)) := by omega
        simp only [z0, decide_false, cond_false, prevOf, tkOk]
        by_cases hA : 0 ≤ a ∧ a ≤ 99 <;> by_cases hS : 1 ≤ s ∧ s ≤ 6 <;> by_cases hU : 0 ≤ u ∧ u ≤ 1000000 <;> simp only [hA, hS, hU, decide_true, decide_false, Bool.not_true, Bool.not_false, cond_true, cond_false, true_and, false_and, and_false, Bool.cond_self, Bool.false_and, Bool.true_and, Bool.and_false]
        rcases Int.lt_or_le u fl with hc | hc
        · have hc2 : ¬ fl ≤ u := by omega
          cases z <;> simp [hc, hc2]
        · have hc2 : ¬ u < fl := by omega
          cases z <;> simp [hc, hc2]
      | succ j =>
        have z0 : (0 : Int) < ((j + 1 : Nat) : Int) := by omega
        have w1 : IntKind.i64.wrap (((j + 1 : Nat) : Int) - 1) = (j : Int) := (wr (x := ((j + 1 : Nat) : Int) - 1) (by omega) (by omega)).trans (by omega)
        simp only [z0, decide_true, cond_true, w1, ge_t, lt_t (show j < l.length by omega), toNat_cast, prevOf, tkOk]
        generalize (l.getD j ((0 : Int), (0 : Int), (0 : Int), false)).1 = y
        by_cases hA : 0 ≤ a ∧ a ≤ 99 <;> by_cases hS : 1 ≤ s ∧ s ≤ 6 <;> by_cases hU : 0 ≤ u ∧ u ≤ 1000000 <;> simp only [hA, hS, hU, decide_true, decide_false, Bool.not_true, Bool.not_false, cond_true, cond_false, true_and, false_and, and_false, Bool.cond_self, Bool.false_and, Bool.true_and, Bool.and_false]
        rcases Int.lt_or_le u fl with hc | hc <;> rcases Int.lt_or_le y a with hy | hy
        · have hc2 : ¬ fl ≤ u := by omega
          have hy2 : ¬ a ≤ y := by omega
          cases z <;> simp [hc, hc2, hy, hy2]
        · have hc2 : ¬ fl ≤ u := by omega
          have hy2 : ¬ y < a := by omega
          cases z <;> simp [hc, hc2, hy, hy2]
        · have hc2 : ¬ u < fl := by omega
          have hy2 : ¬ a ≤ y := by omega
          cases z <;> simp [hc, hc2, hy, hy2]
        · have hc2 : ¬ u < fl := by omega
          have hy2 : ¬ y < a := by omega
          cases z <;> simp [hc, hc2, hy, hy2]
    · have hi2 : i = l.length := by omega
      subst hi2
      simp only [st32_L2, lt_f, cond_false, q42, p42_eq, Option.bind_some]
      rw [List.drop_eq_nil_of_le (by omega)]
      simp only [okQ, Bool.true_and]
      by_cases h6 : (l.length : Int) ≤ 6 <;> simp [h6]
theorem p32_eq (n : Nat) (q : Qu) (hl : q.1.length ≤ 2000000) (hn : q.1.length < n) : p32 n q = some ((queueOk q, ()), ()) := by
  have := p32_L2_eq n q.1 q.2 hl n 0 (by omega) (by omega)
  rw [List.drop_zero] at this
  exact this

theorem p80_L2_eq (n : Nat) (l : List Th) (fl : Int) (hl : l.length ≤ 2000000) : ∀ (m i : Nat), i ≤ l.length → l.length - i < m →
    p80_L2 n m i l fl = some ((okQ fl (prevOf l i) (l.drop i) && (decide ((l.length : Int) ≤ 6) && decide (0 ≤ fl ∧ fl ≤ 1000000)), ()), ())
  | 0, i, _, h => by omega
  | m + 1, i, hi, h => by
    show st80_L2 n (p80_L2 n m) i l fl = _
    by_cases h1 : i < l.length
    · have ih := p80_L2_eq n l fl hl m (i + 1) (by omega) (by omega)
      rw [getD_drop (d := ((0 : Int), (0 : Int), (0 : Int), false)) h1]
      obtain ⟨⟨a, s, u, z⟩, ht⟩ : ∃ t, l.getD i ((0 : Int), (0 : Int), (0 : Int), false) = t := ⟨_, rfl⟩
      simp only [prevOf, ht] at ih
      simp only [st80_L2, toNat_cast, lt_t h1, ge_t, cond_true, ht, q46, p46_eq, Option.bind_some, okQ]
      rw [wr (x := (i : Int) + 1) (by omega) (by omega), succI, ih]
      generalize okQ fl (some a) (l.drop (i + 1)) = o
      generalize (decide ((l.length : Int) ≤ 6) && decide (0 ≤ fl ∧ fl ≤ 1000000)) = e
      clear ih ht
      cases i with
      | zero =>
        have z0 : ¬ ((0 : Int) < ((0 : Nat) : Int)) := by omega
        simp only [z0, decide_false, cond_false, prevOf, tkOk]
        by_cases hA : 0 ≤ a ∧ a ≤ 99 <;> by_cases hS : 1 ≤ s ∧ s ≤ 6 <;> by_cases hU : 0 ≤ u ∧ u ≤ 1000000 <;> simp only [hA, hS, hU, decide_true, decide_false, Bool.not_true, Bool.not_false, cond_true, cond_false, true_and, false_and, and_false, Bool.cond_self, Bool.false_and, Bool.true_and, Bool.and_false]
        rcases Int.lt_or_le u fl with hc | hc
        · have hc2 : ¬ fl ≤ u := by omega
          cases z <;> simp [hc, hc2]
        · have hc2 : ¬ u < fl := by omega
          cases z <;> simp [hc, hc2]
      | succ j =>
        have z0 : (0 : Int) < ((j + 1 : Nat) : Int) := by omega
        have w1 : IntKind.i64.wrap (((j + 1 : Nat) : Int) - 1) = (j : Int) := (wr (x := ((j + 1 : Nat) : Int) - 1) (by omega) (by omega)).trans (by omega)
        simp only [z0, decide_true, cond_true, w1, ge_t, lt_t (show j < l.length by omega), toNat_cast, prevOf, tkOk]
        generalize (l.getD j ((0 : Int), (0 : Int), (0 : Int), false)).1 = y
        by_cases hA : 0 ≤ a ∧ a ≤ 99 <;> by_cases hS : 1 ≤ s ∧ s ≤ 6 <;> by_cases hU : 0 ≤ u ∧ u ≤ 1000000 <;> simp only [hA, hS, hU, decide_true, decide_false, Bool.not_true, Bool.not_false, cond_true, cond_false, true_and, false_and, and_false, Bool.cond_self, Bool.false_and, Bool.true_and, Bool.and_false]
        rcases Int.lt_or_le u fl with hc | hc <;> rcases Int.lt_or_le y a with hy | hy
        · have hc2 : ¬ fl ≤ u := by omega
          have hy2 : ¬ a ≤ y := by omega
          cases z <;> simp [hc, hc2, hy, hy2]
        · have hc2 : ¬ fl ≤ u := by omega
          have hy2 : ¬ y < a := by omega
          cases z <;> simp [hc, hc2, hy, hy2]
        · have hc2 : ¬ u < fl := by omega
          have hy2 : ¬ a ≤ y := by omega
          cases z <;> simp [hc, hc2, hy, hy2]
        · have hc2 : ¬ u < fl := by omega
          have hy2 : ¬ y < a := by omega
          cases z <;> simp [hc, hc2, hy, hy2]
    · have hi2 : i = l.length := by omega
      subst hi2
      simp only [st80_L2, lt_f, cond_false, q46, p46_eq, Option.bind_some]
      rw [List.drop_eq_nil_of_le (by omega)]
      simp only [okQ, Bool.true_and]
      by_cases h6 : (l.length : Int) ≤ 6 <;> simp [h6]
theorem p80_eq (n : Nat) (q : Qu) (hl : q.1.length ≤ 2000000) (hn : q.1.length < n) : p80 n q = some ((queueOk q, ()), ()) := by
  have := p80_L2_eq n q.1 q.2 hl n 0 (by omega) (by omega)
  rw [List.drop_zero] at this
  exact this

/-! ## a place -/
def atF (x : Int) : List Th → Nat → Int
  | [], _ => -1
  | t :: ts, i => if t.1 = x then (i : Int) else atF x ts (i + 1)
theorem atF_mem {x : Int} : ∀ {l : List Th} {i : Nat}, atF x l i < 0 → ∀ t ∈ l, t.1 ≠ x
  | [], i, _, t, ht => by cases ht
  | y :: ys, i, h, t, ht => by
    simp only [atF] at h
    split at h
    · omega
    · rcases List.mem_cons.1 ht with rfl | ht
      · assumption
      · exact atF_mem h t ht
theorem p98_L2_eq (n : Nat) (l : List Th) (x : Int) (hl : l.length ≤ 2000000) : ∀ (m i : Nat), i ≤ l.length → l.length - i < m → p98_L2 n m l x l.length i = some ((atF x (l.drop i) i, ()), ())
  | 0, i, _, h => by omega
  | m + 1, i, hi, h => by
    show st98_L2 n (p98_L2 n m) l x l.length i = _
    by_cases h1 : i < l.length
    · have ih := p98_L2_eq n l x hl m (i + 1) (by omega) (by omega)
      rw [getD_drop (d := ((0 : Int), (0 : Int), (0 : Int), false)) h1]
      have e1 : ∀ y : Int, [y].getD 0 0 = y := fun _ => rfl
      simp only [st98_L2, toNat_cast, lt_t h1, ge_t, cond_true, q99, p99, st99_top, Option.bind_some, e1, atF]
      rw [wr (x := (i : Int) + 1) (by omega) (by omega), succI, ih]
      by_cases hx : (l.getD i ((0 : Int), (0 : Int), (0 : Int), false)).1 = x
      · simp only [hx, decide_true, cond_true, if_true]
      · simp only [hx, decide_false, cond_false, if_false]
    · have hi2 : i = l.length := by omega
      subst hi2
      simp only [st98_L2, lt_f, cond_false]
      rw [List.drop_eq_nil_of_le (by omega)]
      rfl
theorem p77_eq (n : Nat) (q : Qu) (x : Int) (hl : q.1.length ≤ 2000000) (hn : q.1.length < n) : p77 n q x = some ((atF x q.1 0, ()), ()) := by
  have := p98_L2_eq n q.1 x hl n 0 (by omega) (by omega)
  rw [List.drop_zero] at this
  have h117 : p98 n q.1 (x, ()) = some ((atF x q.1 0, ()), ()) := this
  show st77_top n q x = _
  simp only [st77_top, q98, h117, Option.bind_some]
theorem p79_L2_eq (n : Nat) (l : List Th) (x fl : Int) (hl : l.length ≤ 2000000) : ∀ (m i : Nat), i ≤ l.length → l.length - i < m → p79_L2 n m x i l fl = some ((atF x (l.drop i) i, ()), ())
  | 0, i, _, h => by omega
  | m + 1, i, hi, h => by
    show st79_L2 n (p79_L2 n m) x i l fl = _
    by_cases h1 : i < l.length
    · have ih := p79_L2_eq n l x fl hl m (i + 1) (by omega) (by omega)
      rw [getD_drop (d := ((0 : Int), (0 : Int), (0 : Int), false)) h1]
      simp only [st79_L2, toNat_cast, lt_t h1, ge_t, cond_true, atF]
      rw [wr (x := (i : Int) + 1) (by omega) (by omega), succI, ih]
      by_cases hx : (l.getD i ((0 : Int), (0 : Int), (0 : Int), false)).1 = x
      · simp only [hx, decide_true, cond_true, if_true]
      · simp only [hx, decide_false, cond_false, if_false]
    · have hi2 : i = l.length := by omega
      subst hi2
      simp only [st79_L2, lt_f, cond_false]
      rw [List.drop_eq_nil_of_le (by omega)]
      rfl
theorem p79_eq (n : Nat) (q : Qu) (x : Int) (hl : q.1.length ≤ 2000000) (hn : q.1.length < n) : p79 n q x = some ((atF x q.1 0, ()), ()) := by
  have := p79_L2_eq n q.1 x q.2 hl n 0 (by omega) (by omega)
  rw [List.drop_zero] at this
  exact this

/-! ## in its place -/
def ins (t : Th) : List Th → List Th
  | [] => [t]
  | x :: xs => if t.1 < x.1 then t :: x :: xs else x :: ins t xs
theorem ins_len (t : Th) : ∀ l : List Th, (ins t l).length = l.length + 1
  | [] => rfl
  | x :: xs => by
    simp only [ins]
    split
    · rfl
    · simp [ins_len t xs]
theorem ins_front {t : Th} : ∀ {l : List Th}, (∀ y ∈ l, t.1 < y.1) → ins t l = t :: l
  | [], _ => rfl
  | x :: xs, h => by simp only [ins, if_pos (h x List.mem_cons_self)]
theorem ins_split {t : Th} : ∀ {A B : List Th}, (∀ y ∈ A, ¬ t.1 < y.1) → (∀ y ∈ B, t.1 < y.1) → ins t (A ++ B) = A ++ t :: B
  | [], B, _, h => ins_front h
  | x :: A, B, ha, h => by
    simp only [List.cons_append, ins, if_neg (ha x List.mem_cons_self)]
    rw [ins_split (fun y hy => ha y (List.mem_cons_of_mem _ hy)) h]

theorem p95_L4_done (n : Nat) (l : List Th) (fl a s u : Int) (z : Bool) (x8 : Int) (hl : l.length ≤ 2000000) : ∀ (m i : Nat) (out : List Th), i ≤ l.length → l.length - i < m → out.length ≤ 1 + i →
    p95_L4 n m true i l fl a s u z x8 out = some (((out ++ l.drop i, fl), ()), ())
  | 0, i, out, _, h, _ => by omega
  | m + 1, i, out, hi, h, ho => by
    show st95_L4 n (p95_L4 n m) true i l fl a s u z x8 out = _
    by_cases h1 : i < l.length
    · have h2 : ∀ y : Th, (out.length + [y].length) * 32 ≤ 140737488355328 := by intro y; simp; omega
      have ih := p95_L4_done n l fl a s u z x8 hl m (i + 1) (out ++ [l.getD i ((0 : Int), (0 : Int), (0 : Int), false)]) (by omega) (by omega) (by simp; omega)
      rw [getD_drop (d := ((0 : Int), (0 : Int), (0 : Int), false)) h1]
      simp only [st95_L4, toNat_cast, lt_t h1, ge_t, cond_true, Bool.not_true, cond_false, h2, decide_true]
      rw [wr (x := (i : Int) + 1) (by omega) (by omega), succI]
      refine ih.trans ?_
      simp
    · have hi2 : i = l.length := by omega
      subst hi2
      simp only [st95_L4, lt_f, cond_false, Bool.not_true]
      rw [List.drop_eq_nil_of_le (by omega), List.append_nil]
theorem p95_L4_eq (n : Nat) (l : List Th) (fl : Int) (t : Th) (x8 : Int) (hl : l.length ≤ 2000000) : ∀ (m i : Nat) (out : List Th), i ≤ l.length → l.length - i < m → out.length ≤ i →
    p95_L4 n m false i l fl t.1 t.2.1 t.2.2.1 t.2.2.2 x8 out = some (((out ++ ins t (l.drop i), fl), ()), ())
  | 0, i, out, _, h, _ => by omega
  | m + 1, i, out, hi, h, ho => by
    show st95_L4 n (p95_L4 n m) false i l fl t.1 t.2.1 t.2.2.1 t.2.2.2 x8 out = _
    by_cases h1 : i < l.length
    · have h2 : ∀ y : Th, (out.length + [y].length) * 32 ≤ 140737488355328 := by intro y; simp; omega
      have h3 : ∀ y x : Th, ((out ++ [y]).length + [x].length) * 32 ≤ 140737488355328 := by intro y x; simp; omega
      have ih := p95_L4_eq n l fl t x8 hl m (i + 1) (out ++ [l.getD i ((0 : Int), (0 : Int), (0 : Int), false)]) (by omega) (by omega) (by simp; omega)
      have id := p95_L4_done n l fl t.1 t.2.1 t.2.2.1 t.2.2.2 x8 hl m (i + 1) (out ++ [t] ++ [l.getD i ((0 : Int), (0 : Int), (0 : Int), false)]) (by omega) (by omega) (by simp; omega)
      rw [getD_drop (d := ((0 : Int), (0 : Int), (0 : Int), false)) h1]
      simp only [st95_L4, toNat_cast, lt_t h1, ge_t, cond_true, Bool.not_false, h2, h3, decide_true, ins]
      rw [wr (x := (i : Int) + 1) (by omega) (by omega), succI]
      by_cases hx : t.1 < (l.getD i ((0 : Int), (0 : Int), (0 : Int), false)).1
      · simp only [hx, decide_true, cond_true, if_true]
        refine id.trans ?_
        simp
      · simp only [hx, decide_false, cond_false, if_false]
        refine ih.trans ?_
        simp
    · have hi2 : i = l.length := by omega
      have h2 : ∀ y : Th, (out.length + [y].length) * 32 ≤ 140737488355328 := by intro y; simp; omega
      subst hi2
      simp only [st95_L4, lt_f, cond_false, Bool.not_false, cond_true, h2, decide_true]
      rw [List.drop_eq_nil_of_le (by omega)]
      rfl
theorem p95_eq (n : Nat) (q : Qu) (t : Th) (hl : q.1.length ≤ 2000000) (hn : q.1.length < n) : p95 n q t = some (((ins t q.1, q.2), ()), ()) := by
  have := p95_L4_eq n q.1 q.2 t 0 hl n 0 [] (by omega) (by omega) (by simp)
  rw [List.drop_zero, List.nil_append] at this
  exact this


theorem eqTh (t : Th) : (decide (t.1 = t.1) && (decide (t.2.1 = t.2.1) && (decide (t.2.2.1 = t.2.2.1) && (t.2.2.2 == t.2.2.2 && true)))) = true := by simp
theorem p29_L4_refl (n : Nat) (fl : Int) (l : List Th) (hl : l.length ≤ 2000000) : ∀ (m i : Nat), i ≤ l.length → l.length - i < m → p29_L4 n m i l fl l fl = some ((true, ()), ())
  | 0, i, _, h => by omega
  | m + 1, i, hi, h => by
    show st29_L4 n (p29_L4 n m) i l fl l fl = _
    by_cases h1 : i < l.length
    · simp only [st29_L4, lt_t h1, ge_t, cond_true, decide_true, BEq.rfl, Bool.and_self, Bool.not_true, cond_false]
      rw [wr (x := (i : Int) + 1) (by omega) (by omega), succI]
      exact p29_L4_refl n fl l hl m (i + 1) (by omega) (by omega)
    · have hi2 : i = l.length := by omega
      subst hi2
      simp only [st29_L4, lt_f, cond_false]
theorem p29_refl (n : Nat) (q : Qu) (h1 : q.1.length ≤ 2000000) (hn : q.1.length < n) : p29 n q q = some ((true, ()), ()) := by
  obtain ⟨l, fl⟩ := q
  have h1 : l.length ≤ 2000000 := h1
  show st29_top n (p29_L4 n n) (l, fl) (l, fl) = _
  simp only [st29_top, decide_true, Bool.not_true, cond_false]
  exact p29_L4_refl n fl l h1 n 0 (by omega) (by show l.length - 0 < n; have : l.length < n := hn; omega)

/-! ## a queue that is valid, told plainly -/
structure QW (q : Qu) : Prop where
  tk : ∀ t ∈ q.1, (0 ≤ t.1 ∧ t.1 ≤ 99) ∧ (1 ≤ t.2.1 ∧ t.2.1 ≤ 6) ∧ (0 ≤ t.2.2.1 ∧ t.2.2.1 ≤ 1000000) ∧ (t.2.2.2 = true → q.2 ≤ t.2.2.1)
  sr : (q.1.map (·.1)).Pairwise (· < ·)
  fl : 0 ≤ q.2 ∧ q.2 ≤ 1000000

theorem okQ_iff {fl : Int} : ∀ {l : List Th} {p : Option Int}, okQ fl p l = true ↔ (∀ t ∈ l, (0 ≤ t.1 ∧ t.1 ≤ 99) ∧ (1 ≤ t.2.1 ∧ t.2.1 ≤ 6) ∧ (0 ≤ t.2.2.1 ∧ t.2.2.1 ≤ 1000000) ∧ (t.2.2.2 = true → fl ≤ t.2.2.1)) ∧ (l.map (·.1)).Pairwise (· < ·) ∧ ∀ x, p = some x → ∀ y ∈ l, x < y.1
  | [], p => by simp [okQ]
  | t :: ts, p => by
    have ih := okQ_iff (fl := fl) (l := ts) (p := some t.1)
    have hb : (!t.2.2.2 || decide (fl ≤ t.2.2.1)) = true ↔ (t.2.2.2 = true → fl ≤ t.2.2.1) := by cases t.2.2.2 <;> simp
    have hm : (match p with | none => true | some x => decide (x < t.1)) = true ↔ ∀ x, p = some x → x < t.1 := by cases p <;> simp
    simp only [okQ]
    constructor
    · intro h
      cases hk : tkOk fl p t with
      | false => rw [hk] at h; cases h
      | true =>
        rw [hk] at h
        simp only [tkOk, Bool.and_eq_true, decide_eq_true_eq] at hk
        obtain ⟨k1, k2, k3, k4, k5⟩ := hk
        obtain ⟨h1, h2, h3⟩ := ih.1 h
        refine ⟨fun y hy => ?_, ?_, fun x hx y hy => ?_⟩
        · rcases List.mem_cons.1 hy with rfl | hy
          · exact ⟨k1, k2, k3, hb.1 k4⟩
          · exact h1 y hy
        · rw [List.map_cons, List.pairwise_cons]
          refine ⟨fun z hz => ?_, h2⟩
          obtain ⟨y, hy, rfl⟩ := List.mem_map.1 hz
          exact h3 t.1 rfl y hy
        · have := hm.1 k5 x hx
          rcases List.mem_cons.1 hy with rfl | hy
          · exact this
          · have := h3 t.1 rfl y hy
            omega
    · rintro ⟨h1, h2, h3⟩
      rw [List.map_cons, List.pairwise_cons] at h2
      obtain ⟨k1, k2, k3, k4⟩ := h1 t List.mem_cons_self
      have hk : tkOk fl p t = true := by
        simp only [tkOk, Bool.and_eq_true, decide_eq_true_eq]
        exact ⟨k1, k2, k3, hb.2 k4, hm.2 (fun x hx => h3 x hx t List.mem_cons_self)⟩
      rw [hk]
      exact ih.2 ⟨fun y hy => h1 y (List.mem_cons_of_mem _ hy), h2.2, fun x hx y hy => by
        injection hx with hx
        subst hx
        exact h2.1 y.1 (List.mem_map.2 ⟨y, hy, rfl⟩)⟩
theorem queueOk_iff (q : Qu) : queueOk q = true ↔ QW q ∧ q.1.length ≤ 6 := by
  simp only [queueOk, Bool.and_eq_true, decide_eq_true_eq, okQ_iff]
  constructor
  · rintro ⟨⟨h1, h2, _⟩, h3, h4⟩; exact ⟨⟨h1, h2, h4⟩, by omega⟩
  · rintro ⟨⟨h1, h2, h4⟩, h3⟩; exact ⟨⟨h1, h2, fun x hx => by cases hx⟩, by omega, h4⟩

theorem map_set {l : List Th} {k : Nat} {t' : Th} (hk : k < l.length) (h : t'.1 = (l.getD k ((0 : Int), (0 : Int), (0 : Int), false)).1) : (l.set k t').map (·.1) = l.map (·.1) := by
  rw [List.map_set]
  apply List.ext_getElem?
  intro i
  rw [List.getElem?_set]
  split
  · rename_i e
    subst e
    rw [List.length_map, if_pos hk, List.getElem?_map, getD_some (d := ((0 : Int), (0 : Int), (0 : Int), false)) hk, h]
    rfl
  · rfl

theorem atF_spec (x : Int) : ∀ (l : List Th) (i : Nat), (atF x l i < 0 ∧ ∀ t ∈ l, t.1 ≠ x) ∨ ∃ j, j < l.length ∧ atF x l i = ((i + j : Nat) : Int) ∧ (l.getD j ((0 : Int), (0 : Int), (0 : Int), false)).1 = x
  | [], i => .inl ⟨by simp [atF], by simp⟩
  | t :: ts, i => by
    simp only [atF]
    by_cases h : t.1 = x
    · rw [if_pos h]
      exact .inr ⟨0, by simp, by simp, h⟩
    · rw [if_neg h]
      rcases atF_spec x ts (i + 1) with ⟨h1, h2⟩ | ⟨j, h1, h2, h3⟩
      · refine .inl ⟨h1, fun y hy => ?_⟩
        rcases List.mem_cons.1 hy with rfl | hy
        · exact h
        · exact h2 y hy
      · exact .inr ⟨j + 1, by simp; omega, by rw [h2]; congr 1; omega, h3⟩

/-! ## the next one -/
abbrev g0 (l : List Th) (i : Nat) : Th := l.getD i ((0 : Int), (0 : Int), (0 : Int), false)
def Best (l : List Th) (i : Nat) (b : Int) : Prop := (b = -1 ∧ ∀ t, t < i → (g0 l t).2.2.2 = false) ∨ ∃ k : Nat, b = k ∧ k < i ∧ (g0 l k).2.2.2 = true ∧ ∀ t, t < i → (g0 l t).2.2.2 = true → (g0 l k).2.2.1 ≤ (g0 l t).2.2.1

theorem best_skip {l : List Th} {i : Nat} {b : Int} (h : Best l i b) (hi : (g0 l i).2.2.2 = false) : Best l (i + 1) b := by
  rcases h with ⟨h1, h2⟩ | ⟨k, h1, h2, h3, h4⟩
  · refine .inl ⟨h1, fun t ht => ?_⟩
    by_cases e : t = i
    · rw [e]; exact hi
    · exact h2 t (by omega)
  · refine .inr ⟨k, h1, by omega, h3, fun t ht hr => ?_⟩
    by_cases e : t = i
    · rw [e, hi] at hr; cases hr
    · exact h4 t (by omega) hr
theorem best_first {l : List Th} {i : Nat} {b : Int} (h : Best l i b) (hb : b < 0) (hi : (g0 l i).2.2.2 = true) : Best l (i + 1) i := by
  rcases h with ⟨h1, h2⟩ | ⟨k, h1, h2, h3, h4⟩
  · refine .inr ⟨i, rfl, by omega, hi, fun t ht hr => ?_⟩
    by_cases e : t = i
    · rw [e]; exact Int.le_refl _
    · have := h2 t (by omega)
      rw [hr] at this; cases this
  · omega
theorem best_less {l : List Th} {i : Nat} {k : Nat} (h : Best l i k) (hi : (g0 l i).2.2.2 = true) (hc : (g0 l i).2.2.1 < (g0 l k).2.2.1) : Best l (i + 1) i := by
  rcases h with ⟨h1, h2⟩ | ⟨k', h1, h2, h3, h4⟩
  · omega
  · have hkk : k = k' := by omega
    subst hkk
    refine .inr ⟨i, rfl, by omega, hi, fun t ht hr => ?_⟩
    by_cases e : t = i
    · rw [e]; exact Int.le_refl _
    · have := h4 t (by omega) hr
      omega
theorem best_more {l : List Th} {i : Nat} {k : Nat} (h : Best l i k) (hc : ¬ (g0 l i).2.2.1 < (g0 l k).2.2.1) : Best l (i + 1) k := by
  rcases h with ⟨h1, h2⟩ | ⟨k', h1, h2, h3, h4⟩
  · omega
  · have hkk : k = k' := by omega
    subst hkk
    refine .inr ⟨k, rfl, by omega, h3, fun t ht hr => ?_⟩
    by_cases e : t = i
    · rw [e]; omega
    · exact h4 t (by omega) hr

theorem p101_L3_eq (n : Nat) (l : List Th) (fl : Int) (hl : l.length ≤ 2000000) : ∀ (m i : Nat) (b : Int), i ≤ l.length → l.length - i < m → Best l i b → ∃ r : Int, p101_L3 n m b l l.length i l fl = some ((r, ()), ()) ∧ Best l l.length r
  | 0, i, b, _, h, _ => by omega
  | m + 1, i, b, hi, h, hb => by
    show ∃ r : Int, st101_L3 n (p101_L3 n m) b l l.length i l fl = _ ∧ _
    by_cases h1 : i < l.length
    · simp only [st101_L3, lt_t h1, ge_t, cond_true, toNat_cast]
      rw [wr (x := (i : Int) + 1) (by omega) (by omega), succI]
      have ih := fun b => p101_L3_eq n l fl hl m (i + 1) b (by omega) (by omega)
      cases hr : (l.getD i ((0 : Int), (0 : Int), (0 : Int), false)).2.2.2 with
      | false => exact ih b (best_skip hb hr)
      | true =>
        simp only [cond_true]
        by_cases hn : b < 0
        · simp only [hn, decide_true, cond_true]
          exact ih i (best_first hb hn hr)
        · obtain ⟨k, hk⟩ : ∃ k : Nat, b = k ∧ k < i := by
            rcases hb with ⟨h1, _⟩ | ⟨k, h1, h2, _⟩
            · omega
            · exact ⟨k, h1, h2⟩
          obtain ⟨rfl, hki⟩ := hk
          simp only [hn, decide_false, cond_false, ge_t, lt_t (show k < l.length by omega), cond_true, toNat_cast]
          by_cases hc : (l.getD i ((0 : Int), (0 : Int), (0 : Int), false)).2.2.1 < (l.getD k ((0 : Int), (0 : Int), (0 : Int), false)).2.2.1
          · simp only [hc, decide_true, cond_true]
            exact ih i (best_less hb hr hc)
          · simp only [hc, decide_false, cond_false]
            exact ih k (best_more hb hc)
    · have hi2 : i = l.length := by omega
      subst hi2
      simp only [st101_L3, lt_f, cond_false]
      exact ⟨b, rfl, hb⟩
theorem p101_eq (n : Nat) (q : Qu) (hl : q.1.length ≤ 2000000) (hn : q.1.length < n) : ∃ r : Int, p101 n q = some ((r, ()), ()) ∧ Best q.1 q.1.length r :=
  p101_L3_eq n q.1 q.2 hl n 0 (-1) (by omega) (by omega) (.inl ⟨rfl, fun t ht => by omega⟩)
theorem p110_L3_eq (n : Nat) (l : List Th) (fl : Int) (hl : l.length ≤ 2000000) : ∀ (m i : Nat) (b : Int), i ≤ l.length → l.length - i < m → Best l i b → ∃ r : Int, p110_L3 n m b i l fl = some ((r, ()), ()) ∧ Best l l.length r
  | 0, i, b, _, h, _ => by omega
  | m + 1, i, b, hi, h, hb => by
    show ∃ r : Int, st110_L3 n (p110_L3 n m) b i l fl = _ ∧ _
    by_cases h1 : i < l.length
    · simp only [st110_L3, lt_t h1, ge_t, cond_true, toNat_cast]
      rw [wr (x := (i : Int) + 1) (by omega) (by omega), succI]
      have ih := fun b => p110_L3_eq n l fl hl m (i + 1) b (by omega) (by omega)
      cases hr : (l.getD i ((0 : Int), (0 : Int), (0 : Int), false)).2.2.2 with
      | false => exact ih b (best_skip hb hr)
      | true =>
        simp only [cond_true]
        by_cases hn : b < 0
        · simp only [hn, decide_true, cond_true]
          exact ih i (best_first hb hn hr)
        · obtain ⟨k, hk⟩ : ∃ k : Nat, b = k ∧ k < i := by
            rcases hb with ⟨h1, _⟩ | ⟨k, h1, h2, _⟩
            · omega
            · exact ⟨k, h1, h2⟩
          obtain ⟨rfl, hki⟩ := hk
          simp only [hn, decide_false, cond_false, ge_t, lt_t (show k < l.length by omega), cond_true, toNat_cast]
          by_cases hc : (l.getD i ((0 : Int), (0 : Int), (0 : Int), false)).2.2.1 < (l.getD k ((0 : Int), (0 : Int), (0 : Int), false)).2.2.1
          · simp only [hc, decide_true, cond_true]
            exact ih i (best_less hb hr hc)
          · simp only [hc, decide_false, cond_false]
            exact ih k (best_more hb hc)
    · have hi2 : i = l.length := by omega
      subst hi2
      simp only [st110_L3, lt_f, cond_false]
      exact ⟨b, rfl, hb⟩
theorem p110_eq (n : Nat) (q : Qu) (hl : q.1.length ≤ 2000000) (hn : q.1.length < n) : ∃ r : Int, p110 n q = some ((r, ()), ()) ∧ Best q.1 q.1.length r :=
  p110_L3_eq n q.1 q.2 hl n 0 (-1) (by omega) (by omega) (.inl ⟨rfl, fun t ht => by omega⟩)
end Go.Proofs.Ytfbdkjdockbfdaa.Rx.S
namespace Go.Proofs.Ytfbdkjdockbfdaa.Rx.S
open Go Go.Proofs.Ytfbdkjdockbfdaa.Rx.Pu
set_option linter.unusedVariables false
set_option linter.unusedSimpArgs false

theorem QW.set {l : List Th} {fl fl' : Int} {k : Nat} {t' : Th} (h : QW (l, fl)) (hk : k < l.length) (hid : t'.1 = (g0 l k).1) (ht : (0 ≤ t'.1 ∧ t'.1 ≤ 99) ∧ (1 ≤ t'.2.1 ∧ t'.2.1 ≤ 6) ∧ (0 ≤ t'.2.2.1 ∧ t'.2.2.1 ≤ 1000000) ∧ (t'.2.2.2 = true → fl' ≤ t'.2.2.1))
    (hf : 0 ≤ fl' ∧ fl' ≤ 1000000) (ho : ∀ i, i < l.length → i ≠ k → (g0 l i).2.2.2 = true → fl' ≤ (g0 l i).2.2.1) : QW (l.set k t', fl') := by
  refine ⟨fun t hm => ?_, ?_, hf⟩
  · obtain ⟨i, hi, he⟩ := List.getElem_of_mem (show t ∈ l.set k t' from hm)
    have hil : i < l.length := by simpa using hi
    by_cases e : k = i
    · subst e
      rw [List.getElem_set_self] at he
      subst he
      exact ht
    · rw [List.getElem_set_ne e] at he
      have hg : g0 l i = t := by
        have := getD_some (d := ((0 : Int), (0 : Int), (0 : Int), false)) hil
        rw [List.getElem?_eq_getElem hil, he] at this
        injection this with this
        exact this.symm
      obtain ⟨h1, h2, h3, h4⟩ := h.tk t (by rw [← he]; exact List.getElem_mem hil)
      refine ⟨h1, h2, h3, fun hr => ?_⟩
      have := ho i hil (fun e' => e e'.symm) (by rw [hg]; exact hr)
      rw [hg] at this
      exact this
  · show ((l.set k t').map (·.1)).Pairwise _
    rw [map_set hk hid]
    exact h.sr

theorem g0_set_same {l : List Th} {k : Nat} {t' : Th} (h : k < l.length) : g0 (l.set k t') k = t' := getD_set_same h
theorem g0_set_ne {l : List Th} {k i : Nat} {t' : Th} (h : k ≠ i) : g0 (l.set k t') i = g0 l i := getD_set_ne h

theorem tick_QW {l : List Th} {fl c : Int} {k r : Nat} (h : QW (l, fl)) (hk : k < l.length) (hc : (g0 l k).2.2.1 ≤ c) (hc2 : c ≤ 1000000) (hrd : (g0 l k).2.2.2 = true) (hr : r < l.length)
    (hb : Best (l.set k ((g0 l k).1, (g0 l k).2.1, c, (g0 l k).2.2.2)) l.length r) :
    QW (l.set k ((g0 l k).1, (g0 l k).2.1, c, (g0 l k).2.2.2), if (g0 (l.set k ((g0 l k).1, (g0 l k).2.1, c, (g0 l k).2.2.2)) r).2.2.1 > fl then (g0 (l.set k ((g0 l k).1, (g0 l k).2.1, c, (g0 l k).2.2.2)) r).2.2.1 else fl) := by
  obtain ⟨k1, k2, k3, k4⟩ := h.tk (g0 l k) (getD_mem hk)
  have hf := h.fl
  simp only at hf k4
  have hb4 : ∀ t, t < l.length → (g0 (l.set k ((g0 l k).1, (g0 l k).2.1, c, (g0 l k).2.2.2)) t).2.2.2 = true → (g0 (l.set k ((g0 l k).1, (g0 l k).2.1, c, (g0 l k).2.2.2)) r).2.2.1 ≤ (g0 (l.set k ((g0 l k).1, (g0 l k).2.1, c, (g0 l k).2.2.2)) t).2.2.1 := by
    rcases hb with ⟨h1, _⟩ | ⟨k', h1, _, _, h4⟩
    · omega
    · have : r = k' := by omega
      subst this
      exact h4
  have hcr : 0 ≤ (g0 (l.set k ((g0 l k).1, (g0 l k).2.1, c, (g0 l k).2.2.2)) r).2.2.1 ∧ (g0 (l.set k ((g0 l k).1, (g0 l k).2.1, c, (g0 l k).2.2.2)) r).2.2.1 ≤ 1000000 := by
    by_cases e : k = r
    · subst e
      rw [g0_set_same hk]
      exact ⟨by show 0 ≤ c; omega, hc2⟩
    · rw [g0_set_ne e]
      exact (h.tk (g0 l r) (getD_mem hr)).2.2.1
  have hkk := hb4 k hk (by rw [g0_set_same hk]; exact hrd)
  rw [g0_set_same hk] at hkk
  have hkk : (g0 (l.set k ((g0 l k).1, (g0 l k).2.1, c, (g0 l k).2.2.2)) r).2.2.1 ≤ c := hkk
  have k4' := k4 hrd
  refine h.set hk rfl ⟨k1, k2, ⟨by show 0 ≤ c; omega, hc2⟩, fun _ => ?_⟩ ?_ (fun i hi hik hri => ?_)
  · show (if _ then _ else _) ≤ c
    split <;> omega
  · split <;> omega
  · have := hb4 i hi (by rw [g0_set_ne (fun e => hik e.symm)]; exact hri)
    rw [g0_set_ne (fun e => hik e.symm)] at this
    have h5 := (h.tk (g0 l i) (getD_mem hi)).2.2.2 hri
    simp only at h5
    split <;> omega

theorem p78_eq (n : Nat) (q : Qu) (hl : q.1.length ≤ 2000000) : p78 n q = some ((q, ()), ()) := by
  obtain ⟨l, fl⟩ := q
  have hl : l.length ≤ 2000000 := hl
  have h3 : (0 + l.length) * 32 ≤ 140737488355328 := by omega
  show st78_top n (l, fl) = _
  simp only [st78_top, q100, p100, h3, decide_true, cond_true, Option.bind_some]
theorem p81_eq (n : Nat) (q : Qu) (hl : q.1.length ≤ 2000000) : p81 n q = some ((q, ()), ()) := by
  obtain ⟨l, fl⟩ := q
  have hl : l.length ≤ 2000000 := hl
  have h3 : (0 + l.length) * 32 ≤ 140737488355328 := by omega
  show st81_top n (l, fl) = _
  simp only [st81_top, h3, decide_true, cond_true]

theorem tdiv60 {w : Int} (h : 1 ≤ w ∧ w ≤ 6) : 10 ≤ Int.tdiv 60 w ∧ Int.tdiv 60 w ≤ 60 := by
  rcases (by omega : w = 1 ∨ w = 2 ∨ w = 3 ∨ w = 4 ∨ w = 5 ∨ w = 6) with rfl | rfl | rfl | rfl | rfl | rfl <;> decide

theorem p82_eq (n : Nat) (q : Qu) (hl : q.1.length ≤ 2000000) (hn : q.1.length < n) :
    ∃ (q' : Qu) (x : Int) (ok : Bool), p82 n q = some ((q', (x, (ok, ()))), ()) ∧ (ok = true → QW q' ∧ q'.1.map (·.1) = q.1.map (·.1) ∧ q'.1.length ≤ 6) := by
  obtain ⟨l, fl⟩ := q
  have hl : l.length ≤ 2000000 := hl
  have hn : l.length < n := hn
  show ∃ (q' : Qu) (x : Int) (ok : Bool), st82_top n (l, fl) = _ ∧ _
  obtain ⟨r, hr, hb⟩ := p101_eq n (l, fl) hl hn
  simp only [st82_top, q101, hr, Option.bind_some, q32, p32_eq n (l, fl) hl hn]
  cases ho : queueOk (l, fl) with
  | false =>
    simp only [Bool.not_false, cond_true]
    exact ⟨_, _, _, rfl, fun h => by cases h⟩
  | true =>
    obtain ⟨hw, hlen⟩ := (queueOk_iff _).1 ho
    have hlen : l.length ≤ 6 := hlen
    simp only [Bool.not_true, cond_false]
    by_cases hneg : r < 0
    · simp only [hneg, decide_true, cond_true]
      exact ⟨_, _, _, rfl, fun h => by cases h⟩
    · simp only [hneg, decide_false, cond_false]
      rcases hb with ⟨h1, _⟩ | ⟨k, h1, h2, h3, h4⟩
      · omega
      · have h2 : k < l.length := h2
        have h3 : (g0 l k).2.2.2 = true := h3
        subst h1
        obtain ⟨k1, k2, k3, k4⟩ := hw.tk (g0 l k) (getD_mem h2)
        have hw0 : ¬ (g0 l k).2.1 = 0 := by omega
        have ht := tdiv60 k2
        have w1 : IntKind.i64.wrap (Int.tdiv 60 (g0 l k).2.1) = Int.tdiv 60 (g0 l k).2.1 := wr (by omega) (by omega)
        have w2 : IntKind.i64.wrap ((g0 l k).2.2.1 + Int.tdiv 60 (g0 l k).2.1) = (g0 l k).2.2.1 + Int.tdiv 60 (g0 l k).2.1 := wr (by omega) (by omega)
        simp only [ge_t, lt_t h2, cond_true, toNat_cast, hw0, decide_false, Bool.not_false, w1, w2]
        by_cases htop : 1000000 < (g0 l k).2.2.1 + Int.tdiv 60 (g0 l k).2.1
        · simp only [htop, decide_true, cond_true]
          exact ⟨_, _, _, rfl, fun h => by cases h⟩
        · simp only [htop, decide_false, cond_false, q78, p78_eq n (l, fl) hl, Option.bind_some, ge_t, lt_t h2, cond_true, toNat_cast, hw0, Bool.not_false, w1, w2]
          generalize hc : (g0 l k).2.2.1 + Int.tdiv 60 (g0 l k).2.1 = c at htop
          have hl2 : (l.set k ((g0 l k).1, (g0 l k).2.1, c, (g0 l k).2.2.2)).length = l.length := by simp
          obtain ⟨r2, hr2, hb2⟩ := p101_eq n (l.set k ((g0 l k).1, (g0 l k).2.1, c, (g0 l k).2.2.2), fl) (by show (l.set k _).length ≤ _; omega) (by show (l.set k _).length < _; omega)
          simp only at hb2
          rw [hl2] at hb2
          have hkey : ∃ k2 : Nat, r2 = k2 ∧ k2 < l.length := by
            rcases hb2 with ⟨_, g2⟩ | ⟨k', g1, g2, _⟩
            · have := g2 k h2
              rw [g0_set_same h2] at this
              have this : (g0 l k).2.2.2 = false := this
              rw [h3] at this; cases this
            · exact ⟨k', g1, g2⟩
          obtain ⟨k2', rfl, hk2⟩ := hkey
          simp only [hr2, Option.bind_some, List.length_set, ge_t, lt_t hk2, lt_t h2, cond_true, toNat_cast]
          refine ⟨_, _, _, rfl, fun _ => ⟨tick_QW hw h2 (by omega) (by omega) h3 hk2 hb2, map_set h2 rfl, by rw [List.length_set]; exact hlen⟩⟩

theorem p96_eq (n : Nat) (q : Qu) (hl : q.1.length ≤ 2000000) (hn : q.1.length < n) (hw : QW q) : ∃ (q' : Qu) (x : Int), p96 n q = some ((q', (x, ())), ()) ∧ QW q' ∧ q'.1.map (·.1) = q.1.map (·.1) := by
  obtain ⟨l, fl⟩ := q
  have hl : l.length ≤ 2000000 := hl
  have hn : l.length < n := hn
  show ∃ (q' : Qu) (x : Int), st96_top n (l, fl) = _ ∧ _
  obtain ⟨r, hr, hb⟩ := p110_eq n (l, fl) hl hn
  simp only [st96_top, q110, hr, Option.bind_some]
  by_cases hneg : r < 0
  · simp only [hneg, decide_true, cond_true]
    exact ⟨_, _, rfl, hw, rfl⟩
  · simp only [hneg, decide_false, cond_false]
    rcases hb with ⟨h1, _⟩ | ⟨k, h1, h2, h3, h4⟩
    · omega
    · have h2 : k < l.length := h2
      have h3 : (g0 l k).2.2.2 = true := h3
      subst h1
      obtain ⟨k1, k2, k3, k4⟩ := hw.tk (g0 l k) (getD_mem h2)
      have hw0 : ¬ (g0 l k).2.1 = 0 := by omega
      have ht := tdiv60 k2
      have w1 : IntKind.i64.wrap (Int.tdiv 60 (g0 l k).2.1) = Int.tdiv 60 (g0 l k).2.1 := wr (by omega) (by omega)
      have w2 : IntKind.i64.wrap ((g0 l k).2.2.1 + Int.tdiv 60 (g0 l k).2.1) = (g0 l k).2.2.1 + Int.tdiv 60 (g0 l k).2.1 := wr (by omega) (by omega)
      simp only [ge_t, lt_t h2, cond_true, toNat_cast, hw0, decide_false, Bool.not_false, w1, w2]
      by_cases htop : 1000000 < (g0 l k).2.2.1 + Int.tdiv 60 (g0 l k).2.1
      · simp only [htop, decide_true, cond_true]
        exact ⟨_, _, rfl, hw, rfl⟩
      · simp only [htop, decide_false, cond_false]
        generalize hc : (g0 l k).2.2.1 + Int.tdiv 60 (g0 l k).2.1 = c at htop
        have hl2 : (l.set k ((g0 l k).1, (g0 l k).2.1, c, (g0 l k).2.2.2)).length = l.length := by simp
        obtain ⟨r2, hr2, hb2⟩ := p110_eq n (l.set k ((g0 l k).1, (g0 l k).2.1, c, (g0 l k).2.2.2), fl) (by show (l.set k _).length ≤ _; omega) (by show (l.set k _).length < _; omega)
        simp only at hb2
        rw [hl2] at hb2
        have hkey : ∃ k2 : Nat, r2 = k2 ∧ k2 < l.length := by
          rcases hb2 with ⟨_, g2⟩ | ⟨k', g1, g2, _⟩
          · have := g2 k h2
            rw [g0_set_same h2] at this
            have this : (g0 l k).2.2.2 = false := this
            rw [h3] at this; cases this
          · exact ⟨k', g1, g2⟩
        obtain ⟨k2', rfl, hk2⟩ := hkey
        simp only [hr2, Option.bind_some, List.length_set, ge_t, lt_t hk2, lt_t h2, cond_true, toNat_cast]
        exact ⟨_, _, rfl, tick_QW hw h2 (by omega) (by omega) h3 hk2 hb2, map_set h2 rfl⟩

/-! ## running, sleeping, waking -/
theorem p30_L6_eq (n : Nat) (x0 x2 : Int) (hx : x0 ≤ 1000) : ∀ (m : Nat) (i : Nat) (q : Qu) (o : List Int), (x0 - i).toNat < m → (i : Int) ≤ 1000 → QW q → q.1.length ≤ 6 → 7 ≤ n → o.length ≤ i →
    ∃ (q' : Qu) (o' : List Int) (ok : Bool), p30_L6 n m x0 i x2 q.2 o q.1 = some ((q', (o', (ok, ()))), ()) ∧ (ok = true → QW q' ∧ q'.1.map (·.1) = q.1.map (·.1) ∧ q'.1.length ≤ 6)
  | 0, i, q, o, h, _, _, _, _, _ => by omega
  | m + 1, i, q, o, h, hi, hw, hl, hn, ho => by
    show ∃ (q' : Qu) (o' : List Int) (ok : Bool), st30_L6 n (p30_L6 n m) x0 i x2 q.2 o q.1 = _ ∧ _
    simp only [st30_L6]
    by_cases h1 : (i : Int) < x0
    · simp only [h1, decide_true, cond_true]
      obtain ⟨q', x, ok, e1, e2⟩ := p82_eq n q (by omega) (by omega)
      have e : (q.1, q.2) = q := rfl
      simp only [q82, e, e1, Option.bind_some]
      cases ok with
      | false =>
        simp only [Bool.not_false, cond_true]
        exact ⟨_, _, _, rfl, fun h => by cases h⟩
      | true =>
        obtain ⟨g1, g2, g3⟩ := e2 rfl
        have h8 : (o.length + [x].length) * 8 ≤ 140737488355328 := by simp; omega
        simp only [Bool.not_true, cond_false, h8, decide_true, cond_true]
        rw [wr (x := (i : Int) + 1) (by omega) (by omega), succI]
        obtain ⟨q2, o2, ok2, f1, f2⟩ := p30_L6_eq n x0 x2 hx m (i + 1) q' (o ++ [x]) (by omega) (by omega) g1 g3 hn (by simp; omega)
        exact ⟨q2, o2, ok2, f1, fun hk => by
          obtain ⟨a1, a2, a3⟩ := f2 hk
          exact ⟨a1, a2.trans g2, a3⟩⟩
    · simp only [h1, decide_false, cond_false]
      exact ⟨q, o, true, rfl, fun _ => ⟨hw, rfl, hl⟩⟩
theorem p30_eq (n : Nat) (q : Qu) (x : Int) (hl : q.1.length ≤ 2000000) (hn : q.1.length < n) (hn2 : 2000 ≤ n) : ∃ (q' : Qu) (o' : List Int) (ok : Bool), p30 n q x = some ((q', (o', (ok, ()))), ()) ∧ (ok = true → QW q' ∧ q'.1.map (·.1) = q.1.map (·.1) ∧ q'.1.length ≤ 6) := by
  have e : (q.1, q.2) = q := rfl
  show ∃ (q' : Qu) (o' : List Int) (ok : Bool), st30_top n (p30_L6 n n) q x = _ ∧ _
  simp only [st30_top, q32, e, p32_eq n q hl hn, Option.bind_some]
  cases ho : queueOk q with
  | false =>
    simp only [Bool.not_false, cond_true]
    exact ⟨_, _, _, rfl, fun h => by cases h⟩
  | true =>
    obtain ⟨hw, hlen⟩ := (queueOk_iff _).1 ho
    simp only [Bool.not_true, cond_false, q42, p42_eq, Option.bind_some]
    by_cases hx : 0 ≤ x ∧ x ≤ 1000
    · simp only [hx, and_self, decide_true, Bool.not_true, cond_false, q78, p78_eq n q hl, Option.bind_some]
      exact p30_L6_eq n x 0 (by omega) n 0 q [] (by omega) (by omega) hw hlen (by omega) (by simp)
    · simp only [hx, decide_false, Bool.not_false, cond_true]
      exact ⟨_, _, _, rfl, fun h => by cases h⟩

def sleepR (q : Qu) (x : Int) : Qu × Bool :=
  bif queueOk q then (bif decide (atF x q.1 0 < 0) then (([], 0), false) else ((q.1.set (atF x q.1 0).toNat ((g0 q.1 (atF x q.1 0).toNat).1, (g0 q.1 (atF x q.1 0).toNat).2.1, (g0 q.1 (atF x q.1 0).toNat).2.2.1, false), q.2), true)) else (([], 0), false)
theorem p27_eq (n : Nat) (q : Qu) (x : Int) (hl : q.1.length ≤ 2000000) (hn : q.1.length < n) : p27 n q x = some (((sleepR q x).1, ((sleepR q x).2, ())), ()) := by
  have e : (q.1, q.2) = q := rfl
  show st27_top n q x = _
  simp only [st27_top, q77, e, p77_eq n q x hl hn, Option.bind_some, q32, p32_eq n q hl hn, sleepR]
  cases ho : queueOk q with
  | false => rfl
  | true =>
    simp only [Bool.not_true, cond_false, cond_true]
    rcases atF_spec x q.1 0 with ⟨h1, _⟩ | ⟨j, h1, h2, h3⟩
    · simp only [h1, decide_true, cond_true]
    · have hj : ¬ ((0 + j : Nat) : Int) < 0 := by omega
      have h0 : 0 + j = j := Nat.zero_add j
      rw [h0] at h2 hj
      simp only [h2, hj, decide_false, cond_false, q78, p78_eq n q hl, Option.bind_some, ge_t, lt_t h1, cond_true, toNat_cast]
theorem p28_eq (n : Nat) (q : Qu) (x : Int) (hl : q.1.length ≤ 2000000) (hn : q.1.length < n) : p28 n q x = some (((sleepR q x).1, ((sleepR q x).2, ())), ()) := by
  have e : (q.1, q.2) = q := rfl
  show st28_top n q x = _
  simp only [st28_top, q79, e, p79_eq n q x hl hn, Option.bind_some, q80, p80_eq n q hl hn, sleepR]
  cases ho : queueOk q with
  | false => rfl
  | true =>
    simp only [Bool.not_true, cond_false, cond_true]
    rcases atF_spec x q.1 0 with ⟨h1, _⟩ | ⟨j, h1, h2, h3⟩
    · simp only [h1, decide_true, cond_true]
    · have hj : ¬ ((0 + j : Nat) : Int) < 0 := by omega
      have h0 : 0 + j = j := Nat.zero_add j
      rw [h0] at h2 hj
      simp only [h2, hj, decide_false, cond_false, q81, p81_eq n q hl, Option.bind_some, ge_t, lt_t h1, cond_true, toNat_cast]
theorem sleepR_small (q : Qu) (x : Int) : (sleepR q x).1.1.length ≤ 6 := by
  unfold sleepR
  cases ho : queueOk q with
  | false => simp
  | true =>
    have := ((queueOk_iff _).1 ho).2
    simp only [cond_true]
    cases decide (atF x q.1 0 < 0) with
    | true => simp
    | false => simpa using this
theorem sleepR_ids {q : Qu} {x : Int} (h : (sleepR q x).2 = true) : x ∈ (sleepR q x).1.1.map (·.1) := by
  revert h
  unfold sleepR
  cases ho : queueOk q with
  | false => intro h; cases h
  | true =>
    simp only [cond_true]
    rcases atF_spec x q.1 0 with ⟨h1, _⟩ | ⟨j, h1, h2, h3⟩
    · simp only [h1, decide_true, cond_true]
      intro h; cases h
    · have hj : ¬ ((0 + j : Nat) : Int) < 0 := by omega
      have h0 : 0 + j = j := Nat.zero_add j
      rw [h0] at h2 hj
      simp only [h2, hj, decide_false, cond_false, toNat_cast]
      intro _
      rw [map_set (t' := ((g0 q.1 j).1, (g0 q.1 j).2.1, (g0 q.1 j).2.2.1, false)) h1 rfl, List.mem_map]
      exact ⟨g0 q.1 j, getD_mem h1, h3⟩

theorem wake_eq (n : Nat) (q : Qu) (x : Int) (hw : QW q) (hlen : q.1.length ≤ 6) (hn : 7 ≤ n) (hx : x ∈ q.1.map (·.1)) :
    ∃ q' : Qu, p31 n q x = some ((q', (true, ())), ()) ∧ QW q' ∧ q'.1.length ≤ 6 ∧ ∀ t ∈ q'.1, t.1 = x → q.2 ≤ t.2.2.1 := by
  have ho := (queueOk_iff _).2 ⟨hw, hlen⟩
  obtain ⟨l, fl⟩ := q
  have hlen : l.length ≤ 6 := hlen
  have e1 := p77_eq n (l, fl) x (by show l.length ≤ _; omega) (by show l.length < _; omega)
  have e2 := p32_eq n (l, fl) (by show l.length ≤ _; omega) (by show l.length < _; omega)
  show ∃ q' : Qu, st31_top n (l, fl) x = _ ∧ _
  simp only [st31_top, q77, e1, Option.bind_some, q32, e2, ho, Bool.not_true, cond_false]
  rcases atF_spec x l 0 with ⟨h1, h2⟩ | ⟨j, h1, h2, h3⟩
  · obtain ⟨t, ht, hte⟩ := List.mem_map.1 hx
    exact absurd hte (h2 t ht)
  · have h0 : 0 + j = j := Nat.zero_add j
    rw [h0] at h2
    have hj : ¬ (j : Int) < 0 := by omega
    have h3 : (g0 l j).1 = x := h3
    have huniq : ∀ i, i < l.length → i ≠ j → (g0 l i).1 ≠ x := by
      intro i hi hij heq
      have hp := List.pairwise_iff_getElem.1 hw.sr
      have gi : (l.map (·.1))[i]'(by simpa using hi) = (g0 l i).1 := by
        rw [List.getElem_map]
        have := getD_some (d := ((0 : Int), (0 : Int), (0 : Int), false)) hi
        rw [List.getElem?_eq_getElem hi] at this
        injection this with this
        rw [this]
      have gj : (l.map (·.1))[j]'(by simpa using h1) = (g0 l j).1 := by
        rw [List.getElem_map]
        have := getD_some (d := ((0 : Int), (0 : Int), (0 : Int), false)) h1
        rw [List.getElem?_eq_getElem h1] at this
        injection this with this
        rw [this]
      rcases Nat.lt_or_ge i j with hlt | hge
      · have := hp i j (by simpa using hi) (by simpa using h1) hlt
        rw [gi, gj, h3, heq] at this
        omega
      · have := hp j i (by simpa using h1) (by simpa using hi) (by omega)
        rw [gi, gj, h3, heq] at this
        omega
    have e3 := p78_eq n (l, fl) (by show l.length ≤ _; omega)
    simp only [h2, hj, decide_false, cond_false, q78, e3, Option.bind_some, ge_t, lt_t h1, cond_true, toNat_cast]
    obtain ⟨k1, k2, k3, k4⟩ := hw.tk (g0 l j) (getD_mem h1)
    have hfl := hw.fl
    simp only at hfl
    cases hz : (g0 l j).2.2.2 with
    | true =>
      simp only [hz, Bool.not_true, cond_false]
      refine ⟨_, rfl, hw, hlen, fun t ht hte => ?_⟩
      obtain ⟨i, hi, he⟩ := List.getElem_of_mem (show t ∈ l from ht)
      have hg : g0 l i = t := by
        have := getD_some (d := ((0 : Int), (0 : Int), (0 : Int), false)) hi
        rw [List.getElem?_eq_getElem hi, he] at this
        injection this with this
        exact this.symm
      by_cases hij : i = j
      · subst hij
        rw [← hg]
        exact k4 hz
      · exact absurd (by rw [hg]; exact hte) (huniq i hi hij)
    | false =>
      have gs : ∀ y : Th, (l.set j y).getD j ((0 : Int), (0 : Int), (0 : Int), false) = y := fun y => getD_set_same h1
      simp only [hz, Bool.not_false, cond_true, gs, List.set_set]
      have hmx : fl ≤ (if fl > (g0 l j).2.2.1 then fl else (g0 l j).2.2.1) ∧ 0 ≤ (if fl > (g0 l j).2.2.1 then fl else (g0 l j).2.2.1) ∧ (if fl > (g0 l j).2.2.1 then fl else (g0 l j).2.2.1) ≤ 1000000 := by
        split <;> omega
      refine ⟨_, rfl, hw.set h1 rfl ⟨k1, k2, hmx.2, fun _ => hmx.1⟩ hfl (fun i hi hij hr => (hw.tk (g0 l i) (getD_mem hi)).2.2.2 hr), by simpa using hlen, fun t ht hte => ?_⟩
      obtain ⟨i, hi, he⟩ := List.getElem_of_mem (show t ∈ l.set j _ from ht)
      have hil : i < l.length := by simpa using hi
      by_cases hij : j = i
      · subst hij
        rw [List.getElem_set_self] at he
        subst he
        exact hmx.1
      · rw [List.getElem_set_ne hij] at he
        have hg : g0 l i = t := by
          have := getD_some (d := ((0 : Int), (0 : Int), (0 : Int), false)) hil
          rw [List.getElem?_eq_getElem hil, he] at this
          injection this with this
          exact this.symm
        exact absurd (by rw [hg]; exact hte) (huniq i hil (fun e => hij e.symm))
end Go.Proofs.Ytfbdkjdockbfdaa.Rx.S
namespace Go.Proofs.Ytfbdkjdockbfdaa.Rx.S
open Go Go.Proofs.Ytfbdkjdockbfdaa.Rx.Pu
set_option linter.unusedVariables false
set_option linter.unusedSimpArgs false

theorem mem_ins {t y : Th} : ∀ {l : List Th}, y ∈ ins t l → y = t ∨ y ∈ l
  | [], h => by simp only [ins, List.mem_singleton] at h; exact .inl h
  | x :: xs, h => by
    simp only [ins] at h
    split at h
    · rcases List.mem_cons.1 h with h | h
      · exact .inl h
      · exact .inr h
    · rcases List.mem_cons.1 h with h | h
      · exact .inr (by rw [h]; exact List.mem_cons_self)
      · rcases mem_ins h with h | h
        · exact .inl h
        · exact .inr (List.mem_cons_of_mem _ h)
theorem ins_sr {t : Th} : ∀ {l : List Th}, (l.map (·.1)).Pairwise (· < ·) → (∀ y ∈ l, y.1 ≠ t.1) → ((ins t l).map (·.1)).Pairwise (· < ·)
  | [], _, _ => by simp [ins]
  | x :: xs, h, hn => by
    rw [List.map_cons, List.pairwise_cons] at h
    simp only [ins]
    split
    · rename_i hlt
      rw [List.map_cons, List.pairwise_cons]
      refine ⟨fun z hz => ?_, by rw [List.map_cons, List.pairwise_cons]; exact h⟩
      rw [List.map_cons] at hz
      rcases List.mem_cons.1 hz with rfl | hz
      · exact hlt
      · have := h.1 z hz
        omega
    · rename_i hlt
      rw [List.map_cons, List.pairwise_cons]
      refine ⟨fun z hz => ?_, ins_sr h.2 (fun y hy => hn y (List.mem_cons_of_mem _ hy))⟩
      obtain ⟨y, hy, rfl⟩ := List.mem_map.1 hz
      rcases mem_ins hy with rfl | hy
      · have := hn x List.mem_cons_self
        omega
      · exact h.1 y.1 (List.mem_map.2 ⟨y, hy, rfl⟩)
theorem QW.ins {q : Qu} {t : Th} (h : QW q) (ht : (0 ≤ t.1 ∧ t.1 ≤ 99) ∧ (1 ≤ t.2.1 ∧ t.2.1 ≤ 6) ∧ (0 ≤ t.2.2.1 ∧ t.2.2.1 ≤ 1000000) ∧ (t.2.2.2 = true → q.2 ≤ t.2.2.1)) (hn : ∀ y ∈ q.1, y.1 ≠ t.1) : QW (ins t q.1, q.2) :=
  ⟨fun y hy => by
    rcases mem_ins hy with rfl | hy
    · exact ht
    · exact h.tk y hy, ins_sr h.sr hn, h.fl⟩

theorem asleep_QW {q : Qu} {k : Nat} (h : QW q) (hk : k < q.1.length) : QW (q.1.set k ((g0 q.1 k).1, (g0 q.1 k).2.1, (g0 q.1 k).2.2.1, false), q.2) := by
  obtain ⟨l, fl⟩ := q
  obtain ⟨k1, k2, k3, k4⟩ := h.tk (g0 l k) (getD_mem hk)
  exact h.set hk rfl ⟨k1, k2, k3, fun h => by cases h⟩ h.fl (fun i hi hik hr => (h.tk (g0 l i) (getD_mem hi)).2.2.2 hr)

theorem p97_eq (n : Nat) (q : Qu) (k : Nat) (hk : k < q.1.length) (h : QW q) : ∃ q' : Qu, p97 n q k = some ((q', ()), ()) ∧ QW q' ∧ q'.1.length = q.1.length := by
  obtain ⟨l, fl⟩ := q
  have h1 : k < l.length := hk
  obtain ⟨k1, k2, k3, k4⟩ := h.tk (g0 l k) (getD_mem h1)
  have hfl := h.fl
  simp only at hfl
  show ∃ q' : Qu, st97_top n (l, fl) k = _ ∧ _
  have gs : ∀ y : Th, (l.set k y).getD k ((0 : Int), (0 : Int), (0 : Int), false) = y := fun y => getD_set_same h1
  simp only [st97_top, ge_t, lt_t h1, cond_true, toNat_cast, gs, List.set_set, List.length_set]
  cases hz : (g0 l k).2.2.2 with
  | true =>
    simp only [hz, Bool.not_true, cond_false]
    exact ⟨_, rfl, h, rfl⟩
  | false =>
    simp only [hz, Bool.not_false, cond_true]
    have hmx : fl ≤ (if fl > (g0 l k).2.2.1 then fl else (g0 l k).2.2.1) ∧ 0 ≤ (if fl > (g0 l k).2.2.1 then fl else (g0 l k).2.2.1) ∧ (if fl > (g0 l k).2.2.1 then fl else (g0 l k).2.2.1) ≤ 1000000 := by
      split <;> omega
    exact ⟨_, rfl, h.set h1 rfl ⟨k1, k2, hmx.2, fun _ => hmx.1⟩ hfl (fun i hi hij hr => (h.tk (g0 l i) (getD_mem hi)).2.2.2 hr), by simp⟩

/-! ## what is drawn -/
def DrOk (l : List Int) (o : Option R76) : Prop := ∃ (q' : Qu) (pos' : Int), o = some ((q', ()), ((l, pos'), ())) ∧ q'.1.length ≤ 6 ∧ 0 ≤ pos' ∧ pos' < 2000

theorem p76_L9_eq (n : Nat) (hn : 100 ≤ n) {l : List Int} (hl : Bys l) (g3 : Int → List Int → Int → Int → Int → List Th → Option R76) (x0 x4 : Int) (L : Nat) (B : Int) (hL : L ≤ 5) (hB : B ≤ 1000) (h0 : 1 ≤ x0 ∧ x0 ≤ 10)
    (hg : ∀ (pos : Int) (q : Qu), 0 ≤ pos → pos < B + 3 → QW q → q.1.length ≤ L → DrOk l (g3 (x0 - 1) l pos x4 q.2 q.1)) :
    ∀ (m r : Nat) (pos : Int) (q : Qu), r < m → r ≤ 10 → 0 ≤ pos → pos < B → QW q → q.1.length ≤ L → DrOk l (p76_L9 g3 n m x0 r l pos x4 q.2 q.1)
  | 0, r, _, _, h, _, _, _, _, _ => by omega
  | m + 1, r, pos, q, h, hr, hp, hp2, hw, hlen => by
    show DrOk l (st76_L9 n (p76_L9 g3 n m) g3 x0 r l pos x4 q.2 q.1)
    have e : (q.1, q.2) = q := rfl
    have wx : IntKind.i64.wrap (x0 - 1) = x0 - 1 := wr (by omega) (by omega)
    cases r with
    | succ r =>
      have l8 : decide ((0 : Int) < ((r + 1 : Nat) : Int)) = true := decide_eq_true (by omega)
      obtain ⟨q', x, e1, e2, e3⟩ := p96_eq n q (by omega) (by omega) hw
      have hlen' : q'.1.length ≤ L := by
        have := congrArg List.length e3
        simp only [List.length_map] at this
        omega
      simp only [st76_L9, l8, cond_true, q96, e, e1, Option.bind_some]
      rw [show IntKind.i64.wrap (((r + 1 : Nat) : Int) - 1) = (r : Int) from (wr (x := ((r + 1 : Nat) : Int) - 1) (by omega) (by omega)).trans (by omega)]
      exact p76_L9_eq n hn hl g3 x0 x4 L B hL hB h0 hg m r pos q' (by omega) (by omega) hp hp2 e2 hlen'
    | zero =>
      have l8 : decide ((0 : Int) < ((0 : Nat) : Int)) = false := rfl
      simp only [st76_L9, l8, cond_false]
      by_cases hz : 0 < q.1.length
      · have hz' : decide ((0 : Int) < (q.1.length : Int)) = true := decide_eq_true (by omega)
        obtain ⟨v3, hv3, _, _⟩ := p40_eq n hl (pos := pos) (b := 3) (by omega) (by omega)
        simp only [hz', cond_true, q40, hv3, Option.bind_some]
        by_cases c3 : v3 = 0
        · obtain ⟨va, hva, a0, a1⟩ := p40_eq n hl (pos := pos + 1) (b := (q.1.length : Int)) (by omega) (by omega)
          obtain ⟨k, rfl⟩ : ∃ k : Nat, va = k := ⟨va.toNat, by omega⟩
          have hk : k < q.1.length := by omega
          obtain ⟨v2, hv2, _, _⟩ := p40_eq n hl (pos := pos + 1 + 1) (b := 2) (by omega) (by omega)
          have hq2 := asleep_QW hw hk
          simp only [c3, decide_true, cond_true, hva, Option.bind_some, ge_t, lt_t hk, hv2, toNat_cast, wx]
          by_cases c2 : v2 = 0
          · obtain ⟨q', e1, e2, e3⟩ := p97_eq n (q.1.set k ((g0 q.1 k).1, (g0 q.1 k).2.1, (g0 q.1 k).2.2.1, false), q.2) k (by simpa using hk) hq2
            simp only [c2, decide_true, cond_true, q97, e1, Option.bind_some]
            exact hg (pos + 1 + 1 + 1) q' (by omega) (by omega) e2 (by rw [e3]; simpa using hlen)
          · simp only [c2, decide_false, cond_false]
            exact hg (pos + 1 + 1 + 1) (q.1.set k ((g0 q.1 k).1, (g0 q.1 k).2.1, (g0 q.1 k).2.2.1, false), q.2) (by omega) (by omega) hq2 (by simpa using hlen)
        · simp only [c3, decide_false, cond_false, wx]
          exact hg (pos + 1) q (by omega) (by omega) hw hlen
      · have hz' : decide ((0 : Int) < (q.1.length : Int)) = false := decide_eq_false (by omega)
        simp only [hz', cond_false, wx]
        exact hg pos q (by omega) (by omega) hw hlen

theorem p76_L3_eq (n : Nat) (hn : 100 ≤ n) {l : List Int} (hl : Bys l) (x3 : Int) : ∀ (m r : Nat) (pos : Int) (q : Qu), r < m → r ≤ 5 → 0 ≤ pos → pos < 100 - 10 * r → QW q → q.1.length + r ≤ 5 → DrOk l (p76_L3 n m r l pos x3 q.2 q.1)
  | 0, r, _, _, h, _, _, _, _, _ => by omega
  | m + 1, 0, pos, q, h, hr, hp, hp2, hw, hlen => by
    show DrOk l (st76_L3 n (p76_L9 (p76_L3 n m) n n) ((0 : Nat) : Int) l pos x3 q.2 q.1)
    have l8 : decide ((0 : Int) < ((0 : Nat) : Int)) = false := rfl
    obtain ⟨v, hv, _, _⟩ := p40_eq n hl (pos := pos) (b := 24) (by omega) (by omega)
    obtain ⟨v4, hv4, a0, a1⟩ := p40_eq n hl (pos := pos + 1) (b := 4) (by omega) (by omega)
    obtain ⟨v5, hv5, _, _⟩ := p40_eq n hl (pos := pos + 1) (b := 101) (by omega) (by omega)
    obtain ⟨v6, hv6, _, _⟩ := p40_eq n hl (pos := pos + 1 + 1) (b := 8) (by omega) (by omega)
    obtain ⟨v7, hv7, b0, b1⟩ := p40_eq n hl (pos := pos + 1 + 1 + 1) (b := 3) (by omega) (by omega)
    simp only [st76_L3, l8, cond_false, q40, hv, hv4, hv5, hv6, hv7, Option.bind_some]
    by_cases c0 : v = 0
    · have k1 : decide (v4 < (([(-1 : Int), IntKind.i64.wrap (q.2 + 30), 1000000, 1000001].length : Nat) : Int)) = true := by simp; omega
      simp only [c0, decide_true, cond_true, a0, k1]
      exact ⟨_, _, rfl, by show q.1.length ≤ 6; omega, by omega, by omega⟩
    · by_cases c1 : v = 1
      · have k1 : decide (v7 < (([(0 : Int), 1000000, 999990].length : Nat) : Int)) = true := by simp; omega
        have k2 : ∀ y : Th, (q.1.length + [y].length) * 32 ≤ 140737488355328 := by intro y; simp; omega
        simp only [c1, decide_true, cond_true, b0, k1, k2]
        exact ⟨_, _, rfl, by simp; omega, by omega, by omega⟩
      · simp only [c0, c1, decide_false, cond_false]
        exact ⟨_, _, rfl, by show q.1.length ≤ 6; omega, by omega, by omega⟩
  | m + 1, r + 1, pos, q, h, hr, hp, hp2, hw, hlen => by
    show DrOk l (st76_L3 n (p76_L9 (p76_L3 n m) n n) ((r + 1 : Nat) : Int) l pos x3 q.2 q.1)
    have l8 : decide ((0 : Int) < ((r + 1 : Nat) : Int)) = true := decide_eq_true (by omega)
    have e : (q.1, q.2) = q := rfl
    obtain ⟨v, hv, a0, a1⟩ := p40_eq n hl (pos := pos) (b := 8) (by omega) (by omega)
    obtain ⟨v6, hv6, b0, b1⟩ := p40_eq n hl (pos := pos + 1) (b := 6) (by omega) (by omega)
    obtain ⟨v9, hv9, c0, c1⟩ := p40_eq n hl (pos := pos + 1) (b := 9) (by omega) (by omega)
    obtain ⟨w9, hw9, d0, d1⟩ := p40_eq n hl (pos := pos + 1 + 1) (b := 9) (by omega) (by omega)
    have hat := p79_eq n q v (by omega) (by omega)
    have w1 : IntKind.i64.wrap (1 + v6) = 1 + v6 := wr (by omega) (by omega)
    have step : ∀ (x : Int) (q' : Qu) (p' : Int), 0 ≤ x → x < 9 → 0 ≤ p' → p' < pos + 5 → QW q' → q'.1.length ≤ q.1.length + 1 → DrOk l (p76_L9 (p76_L3 n m) n n ((r + 1 : Nat) : Int) x l p' x3 q'.2 q'.1) := by
      intro x q' p' hx0 hx1 hp0 hp1 hqw hql
      obtain ⟨k, rfl⟩ : ∃ k : Nat, x = k := ⟨x.toNat, by omega⟩
      refine p76_L9_eq n hn hl (p76_L3 n m) ((r + 1 : Nat) : Int) x3 (5 - r) (100 - 10 * r - 5) (by omega) (by omega) (by omega) (fun pos q hp hp2 hw hlen => ?_) n k p' q' (by omega) (by omega) hp0 (by omega) hqw (by omega)
      rw [show ((r + 1 : Nat) : Int) - 1 = (r : Int) by omega]
      exact p76_L3_eq n hn hl x3 m r pos q (by omega) (by omega) hp (by omega) hw (by omega)
    simp only [st76_L3, l8, cond_true, q40, hv, hv6, hv9, hw9, Option.bind_some, q79, e, hat, w1]
    rcases atF_spec v q.1 0 with ⟨h1, h2⟩ | ⟨j, h1, h2, h3⟩
    · have hfl := hw.fl
      have hp95 := p95_eq n q (v, 1 + v6, q.2, true) (by omega) (by omega)
      simp only [h1, decide_true, cond_true, q95, e, hp95, Option.bind_some]
      refine step w9 (ins (v, 1 + v6, q.2, true) q.1, q.2) _ d0 d1 (by omega) (by omega) (hw.ins ⟨⟨a0, by show v ≤ 99; omega⟩, ⟨by show 1 ≤ 1 + v6; omega, by show 1 + v6 ≤ 6; omega⟩, hfl, fun _ => Int.le_refl _⟩ h2) ?_
      show (ins _ q.1).length ≤ _
      rw [ins_len]; omega
    · have hj : ¬ ((0 + j : Nat) : Int) < 0 := by omega
      simp only [h2, hj, decide_false, cond_false]
      exact step v9 q _ c0 c1 (by omega) (by omega) hw (by omega)

theorem QW_nil : QW (([], 0) : Qu) := ⟨(fun t h => by cases h), List.Pairwise.nil, by simp⟩
theorem p76_eq (n : Nat) (hn : 100 ≤ n) {l : List Int} (hl : Bys l) : DrOk l (p76 n (l, 0)) := by
  show DrOk l (st76_top n (p76_L3 n n) (l, 0))
  obtain ⟨v, hv, a0, a1⟩ := p40_eq n hl (pos := 0) (b := 6) (by omega) (by omega)
  obtain ⟨k, rfl⟩ : ∃ k : Nat, v = k := ⟨v.toNat, by omega⟩
  simp only [st76_top, q40, hv, Option.bind_some]
  exact p76_L3_eq n hn hl 0 n k _ ([], 0) (by omega) (by omega) (by omega) (by omega) QW_nil (by simp; omega)
theorem p26_eq (n : Nat) (hn : 100 ≤ n) {l : List Int} (hl : ∀ x ∈ l, 0 ≤ x ∧ x < 256) : ∃ (q : Qu) (x : Int), p26 n l = some ((q, (x, ())), ()) ∧ q.1.length ≤ 6 := by
  obtain ⟨l', e1, e2⟩ := p38_eq n hl
  obtain ⟨q, pos', h3, h4, h5, h6⟩ := p76_eq n hn e2
  obtain ⟨v, hv, g0, g1⟩ := p40_eq n e2 (pos := pos') (b := 8) (by omega) (by omega)
  refine ⟨q, v, ?_, h4⟩
  show st26_top n l = _
  simp only [st26_top, q38, e1, q76, h3, q40, hv, Option.bind_some]

/-! ## the law -/
theorem sleepR_QW {q : Qu} {x : Int} (h : (sleepR q x).2 = true) : QW (sleepR q x).1 := by
  revert h
  unfold sleepR
  cases ho : queueOk q with
  | false => intro h; cases h
  | true =>
    simp only [cond_true]
    rcases atF_spec x q.1 0 with ⟨h1, _⟩ | ⟨j, h1, h2, h3⟩
    · simp only [h1, decide_true, cond_true]
      intro h; cases h
    · have hj : ¬ ((0 + j : Nat) : Int) < 0 := by omega
      have h0 : 0 + j = j := Nat.zero_add j
      rw [h0] at h2 hj
      simp only [h2, hj, decide_false, cond_false, toNat_cast]
      intro _
      exact asleep_QW ((queueOk_iff q).1 ho).1 h1

theorem p7_L13_eq (n : Nat) (hn : 100 ≤ n) (x : Int) (fl : Int) (c : Int) (l2 : List Th) (z : Qu) (hz : QW z) (hl : z.1.length ≤ 6) (hf : ∀ t ∈ z.1, t.1 = x → fl ≤ t.2.2.1) : ∀ (m i : Nat), i ≤ z.1.length → z.1.length - i < m →
    p7_L13 n m x true i fl z.2 l2 z.1 = some ((true, ()), ())
  | 0, i, _, h => by omega
  | m + 1, i, hi, h => by
    show st7_L13 n (p7_L13 n m) x true i fl z.2 l2 z.1 = _
    by_cases h1 : i < z.1.length
    · have ih := p7_L13_eq n hn x fl c l2 z hz hl hf m (i + 1) (by omega) (by omega)
      simp only [st7_L13, lt_t h1, ge_t, cond_true, toNat_cast]
      rw [wr (x := (i : Int) + 1) (by omega) (by omega), succI, ih]
      by_cases he : (g0 z.1 i).1 = x
      · have := hf (g0 z.1 i) (getD_mem h1) he
        have hnl : ¬ (g0 z.1 i).2.2.1 < fl := by omega
        simp only [he, hnl, decide_true, decide_false, cond_true, cond_false]
      · simp only [he, decide_false, cond_false]
    · have hi2 : i = z.1.length := by omega
      subst hi2
      have e : (z.1, z.2) = z := rfl
      have ho := (queueOk_iff z).2 ⟨hz, hl⟩
      simp only [st7_L13, lt_f, cond_false, cond_true, q32, e, p32_eq n z (by omega) (by omega), Option.bind_some, ho]

theorem law7 (a b : List Int) (ha : ∀ x ∈ a, 0 ≤ x ∧ x < 256) : p7 3000 a b = some ((true, ()), ()) := by
  show st7_top 3000 (p7_L13 3000 3000) a b = _
  simp only [st7_top]
  by_cases g1 : (1048576 : Int) < a.length
  · simp only [g1, decide_true, cond_true]
  · by_cases g2 : (1048576 : Int) < b.length
    · simp only [g1, g2, decide_true, decide_false, cond_true, cond_false]
    · obtain ⟨q, x, h1, h2⟩ := p26_eq 3000 (by omega) ha
      have e : (q.1, q.2) = q := rfl
      have hs := sleepR_small q x
      have es : ((sleepR q x).1.1, (sleepR q x).1.2) = (sleepR q x).1 := rfl
      have hb : ∀ b : Bool, (!b == b) = false := by intro b; cases b <;> rfl
      simp only [g1, g2, decide_false, cond_false, q26, h1, Option.bind_some, q27, q28, e, p27_eq 3000 q x (by omega) (by omega), p28_eq 3000 q x (by omega) (by omega), q29, es, p29_refl 3000 (sleepR q x).1 (by omega) (by omega), Bool.not_true, BEq.rfl, cond_true, hb]
      cases ho : (sleepR q x).2 with
      | false => simp only [Bool.not_false, cond_true]
      | true =>
        simp only [Bool.not_true, cond_false]
        obtain ⟨y, o, ok, e1, e2⟩ := p30_eq 3000 (sleepR q x).1 ((b.length : Int).tmod 50) (by omega) (by omega) (by omega)
        simp only [q30, e1, Option.bind_some]
        cases ok with
        | false => simp only [Bool.not_false, cond_true]
        | true =>
          obtain ⟨k1, k2, k3⟩ := e2 rfl
          obtain ⟨z, f1, f2, f3, f4⟩ := wake_eq 3000 y x k1 k3 (by omega) (by rw [k2]; exact sleepR_ids ho)
          have ey : (y.1, y.2) = y := rfl
          simp only [Bool.not_true, cond_false, q31, ey, f1, Option.bind_some]
          exact p7_L13_eq 3000 (by omega) x y.2 0 y.1 z f2 f3 f4 3000 0 (by omega) (by omega)
theorem pure7 (a b : List Int) (h : WfT (.row 5 (.int .u8)) a) (_ : WfT (.row 5 (.int .u8)) b) : ∃ n o, q7 n (a, b, ()) = some ((true, ()), o) := ⟨3000, (), law7 a b (bytes_wf h)⟩
end Go.Proofs.Ytfbdkjdockbfdaa.Rx.S
