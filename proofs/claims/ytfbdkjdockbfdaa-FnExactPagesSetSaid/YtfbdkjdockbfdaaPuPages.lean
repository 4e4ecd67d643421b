/- What the laws' own functions on pages do: sizes, copies, comparisons, marks. -/
import Derived.Test.YtfbdkjdockbfdaaGen
import Derived.Test.YtfbdkjdockbfdaaGPsetx3
namespace Go.Proofs.Ytfbdkjdockbfdaa.PuPages
open Go.RowKit Go.Proofs.YtfbdkjdockbfdaaW.PrintWords Go.Proofs.Ytfbdkjdockbfdaa.Gen Go.Proofs.Ytfbdkjdockbfdaa.GPset
set_option linter.unusedVariables false
theorem sz_strs (xs : List ByteArray) (hx : ∀ y ∈ xs, y.size ≤ 9223372036854775807) (hn : xs.length ≤ 4611686018427387000) : ∀ (d k i : Nat) (left : Int), i + d = xs.length → d < k → 0 ≤ left → left ≤ 1048576 →
    ∃ r, laws_szStringS.l0 k xs left i = some r ∧ (r = -1 ∨ 0 ≤ r ∧ r ≤ left ∧ ∀ j : Nat, i ≤ j → j < xs.length → (xs.getD j ByteArray.empty).size ≤ 1048576) := by
  intro d
  induction d with
  | zero =>
    intro k i left hd hk h0 h1
    obtain ⟨k, rfl⟩ : ∃ m, k = m + 1 := ⟨k - 1, by omega⟩
    refine ⟨left, by simp only [laws_szStringS.l0]; rw [if_neg (by omega)], .inr ⟨h0, Int.le_refl _, fun j h2 h3 => by omega⟩⟩
  | succ d ih =>
    intro k i left hd hk h0 h1
    obtain ⟨k, rfl⟩ : ∃ m, k = m + 1 := ⟨k - 1, by omega⟩
    simp only [laws_szStringS.l0]
    rw [if_pos (by omega), if_pos (by omega)]
    have hs : (rdOf ByteArray.empty xs (i : Int)) = xs.getD i ByteArray.empty := rfl
    rw [hs]
    have hsz : (xs.getD i ByteArray.empty).size ≤ 9223372036854775807 := by
      rw [List.getD_eq_getElem?_getD, List.getElem?_eq_getElem (show i < xs.length by omega)]
      exact hx _ (List.getElem_mem _)
    rw [wid (by omega) (by omega)]
    by_cases c : left - ((xs.getD i ByteArray.empty).size : Int) < 0
    · rw [if_pos c]
      exact ⟨-1, rfl, .inl rfl⟩
    · rw [if_neg c, wr (by omega) (by omega)]
      obtain ⟨r, hr, h⟩ := ih k (i + 1) (left - ((xs.getD i ByteArray.empty).size : Int)) (by omega) (by omega) (by omega) (by omega)
      refine ⟨r, by simpa using hr, ?_⟩
      rcases h with h | ⟨h2, h3, h4⟩
      · exact .inl h
      · refine .inr ⟨h2, by omega, fun j h5 h6 => ?_⟩
        rcases Nat.lt_or_ge i j with h7 | h7
        · exact h4 j (by omega) h6
        · obtain rfl : j = i := by omega
          omega
/-- The size that is asked: where it is no more than there may be, all is short. -/
theorem sz_pages (l0 : List ByteArray) (l1 : List Int) (h0 : l0.length ≤ 9223372036854775807) (hx : ∀ y ∈ l0, y.size ≤ 9223372036854775807) (h1 : l1.length ≤ 9223372036854775807) :
    ∃ r, (∀ k, 1048600 ≤ k → laws_szPages.f k l0 l1 1048576 = some r) ∧ (r < 0 ∨ 0 ≤ r ∧ l0.length ≤ 1048576 ∧ l1.length ≤ 1048576 ∧ ∀ j : Nat, j < l0.length → (l0.getD j ByteArray.empty).size ≤ 1048576) := by
  by_cases c0 : (1048576 : Int) - (l0.length : Int) < 0
  · refine ⟨-1, fun k hk => ?_, .inl (by omega)⟩
    unfold laws_szPages.f laws_szStringS.f
    rw [wid (by omega) (by omega), if_pos c0]
    rfl
  · obtain ⟨r, hr, h⟩ := sz_strs l0 hx (by omega) l0.length 1048600 0 (1048576 - (l0.length : Int)) (by omega) (by omega) (by omega) (by omega)
    have hr' : ∀ k, 1048600 ≤ k → laws_szStringS.f k l0 1048576 = some r := fun k hk => by
      unfold laws_szStringS.f
      rw [wid (by omega) (by omega), if_neg c0]
      exact at_rounds (fun k => laws_szStringS.mono_l k _ _ _) hk hr
    rcases h with h | ⟨h2, h3, h4⟩
    · refine ⟨-1, fun k hk => ?_, .inl (by omega)⟩
      unfold laws_szPages.f
      rw [hr' k hk]
      simp only [Option.bind_some]
      rw [if_pos (by omega)]
    · by_cases c1 : r - (l1.length : Int) < 0
      · refine ⟨-1, fun k hk => ?_, .inl (by omega)⟩
        unfold laws_szPages.f laws_szIntS.f
        rw [hr' k hk]
        simp only [Option.bind_some]
        rw [if_neg (by omega), wid (by omega) (by omega), if_pos c1]
        rfl
      · refine ⟨r - (l1.length : Int), fun k hk => ?_, .inr ⟨by omega, by omega, by omega, fun j hj => h4 j (Nat.zero_le _) hj⟩⟩
        unfold laws_szPages.f laws_szIntS.f
        rw [hr' k hk]
        simp only [Option.bind_some]
        rw [if_neg (by omega), wid (by omega) (by omega), if_neg c1]
        simp only [Option.bind_some]
        rw [if_neg c1]
theorem to_strs (xs : List ByteArray) (hn : xs.length ≤ 1048576) (k : Nat) (hk : 1048600 ≤ k) : laws_toStringS.f k xs = some xs := by
  unfold laws_toStringS.f
  rw [if_pos (by omega), if_pos (by omega)]
  have := copy_loop laws_toStringS.l0 id ByteArray.empty (fun k xs acc i => by simp only [laws_toStringS.l0, id]; rfl) xs (by omega) xs.length k 0 (List.replicate xs.length (⟨#[]⟩ : ByteArray)) (by simp) (by omega) (by omega) (fun j h => by omega)
  simpa using this
theorem to_ints (xs : List Int) (hn : xs.length ≤ 1048576) (k : Nat) (hk : 1048600 ≤ k) : laws_toIntS.f k xs = some xs := by
  unfold laws_toIntS.f
  rw [if_pos (by omega), if_pos (by omega)]
  have := copy_loop laws_toIntS.l0 id 0 (fun k xs acc i => by simp only [laws_toIntS.l0, id]; rfl) xs (by omega) xs.length k 0 (List.replicate xs.length 0) (by simp) (by omega) (by omega) (fun j h => by omega)
  simpa using this
theorem to_pages (l0 : List ByteArray) (l1 : List Int) (h0 : l0.length ≤ 1048576) (h1 : l1.length ≤ 1048576) (k : Nat) (hk : 1048600 ≤ k) : laws_toPages.f k l0 l1 = some (l0, l1) := by
  unfold laws_toPages.f
  rw [to_strs l0 h0 k hk, to_ints l1 h1 k hk]
  rfl
theorem eq_pages (l0 : List ByteArray) (l1 : List Int) (h0 : l0.length ≤ 1048576) (h1 : l1.length ≤ 1048576) (k : Nat) (hk : 1048600 ≤ k) : laws_eqPages.f k l0 l1 l0 l1 = some true := by
  unfold laws_eqPages.f laws_eqStringS.f laws_eqIntS.f
  have e0 := eq_loop laws_eqStringS.l0 (fun a b => a.toList = b.toList) ByteArray.empty (fun _ => rfl) (fun k xs ys i => by simp only [laws_eqStringS.l0]; rfl) l0 (by omega) l0.length k 0 (by omega) (by omega)
  have e1 := eq_loop laws_eqIntS.l0 (fun a b => a = b) 0 (fun _ => rfl) (fun k xs ys i => by simp only [laws_eqIntS.l0]; rfl) l1 (by omega) l1.length k 0 (by omega) (by omega)
  rw [if_pos rfl, if_pos rfl, show laws_eqStringS.l0 k l0 l0 0 = some true from e0, show laws_eqIntS.l0 k l1 l1 0 = some true from e1]
  simp
/-- A mark's text. -/
theorem mark_text_l : ∀ (d k : Nat) (m : Int) (s : ByteArray), 0 ≤ m → m < 10 ^ d → m ≤ 4611686018427387000 → d < k → s.size + d ≤ 1000 → ∃ r, laws_markText.l0 k m s = some r := by
  intro d
  induction d with
  | zero =>
    intro k m s h0 h1 h2 hk hs
    obtain ⟨k, rfl⟩ : ∃ m, k = m + 1 := ⟨k - 1, by omega⟩
    have hm : m = 0 := by simp at h1; omega
    subst hm
    simp only [laws_markText.l0]
    rw [if_neg (by omega), if_pos (by omega)]
    exact ⟨_, rfl⟩
  | succ d ih =>
    intro k m s h0 h1 h2 hk hs
    obtain ⟨k, rfl⟩ : ∃ m, k = m + 1 := ⟨k - 1, by omega⟩
    simp only [laws_markText.l0]
    by_cases c : m > 0
    · rw [if_pos c]
      simp only [Option.bind_some]
      have hsz : (strOfNums ([(wrap64 (48 + (Int.tmod m 10))) % 256] : List Int)).size = 1 := by simp [strOfNums, ByteArray.size]
      rw [hsz, if_pos (by omega)]
      have ht : Int.tdiv m 10 = m / 10 := Int.tdiv_eq_ediv_of_nonneg h0
      have hlt : m / 10 < 10 ^ d := by
        rw [Int.pow_succ] at h1
        omega
      rw [ht, wid (by omega) (by omega)]
      exact ih k _ _ (by omega) hlt (by omega) (by omega) (by rw [ByteArray.size_append, hsz]; omega)
    · rw [if_neg c, if_pos (by omega)]
      exact ⟨_, rfl⟩
def mt (m : Int) : ByteArray := (laws_markText.f 100 m).getD ⟨#[]⟩
theorem mark_text (k : Nat) (m : Int) (hk : 100 ≤ k) (h0 : 0 ≤ m) (h1 : m ≤ 10000000) : laws_markText.f k m = some (mt m) := by
  obtain ⟨r, hr⟩ : ∃ r, laws_markText.f 100 m = some r := by
    unfold laws_markText.f
    by_cases c : m ≤ 0
    · rw [if_pos c]; exact ⟨_, rfl⟩
    · rw [if_neg c]
      exact mark_text_l 10 100 m _ h0 (by omega) (by omega) (by omega) (by decide)
  have : mt m = r := by unfold mt; rw [hr]; rfl
  rw [this]
  exact at_rounds (fun k => laws_markText.mono m k) hk hr
theorem mark_strs (xs : List ByteArray) (m : Int) (h0 : 0 ≤ m) (h1 : m ≤ 4194304) (hn : xs.length ≤ 1048576) (k : Nat) (hk : 1048900 ≤ k) : laws_markStringS.f k xs m = some (m + xs.length, marks mt m xs.length) := by
  unfold laws_markStringS.f
  have := mark_loop laws_markStringS.l0 laws_markText.f mt 100 10000000 (by omega) mark_text (fun k xs m i => by simp only [laws_markStringS.l0]) m xs.length h0 (by omega) xs.length k 0 xs rfl (by omega) (by omega) (fun j h => by omega)
  simpa using this
theorem mark_ints (xs : List Int) (m : Int) (h0 : 0 ≤ m) (h1 : m ≤ 4194304) (hn : xs.length ≤ 1048576) (k : Nat) (hk : 1048900 ≤ k) : laws_markIntS.f k xs m = some (m + xs.length, marks id m xs.length) := by
  unfold laws_markIntS.f
  have := mark_loop laws_markIntS.l0 (fun _ m => some m) id 100 10000000 (by omega) (fun _ _ _ _ _ => rfl) (fun k xs m i => by simp only [laws_markIntS.l0, Option.bind_some]) m xs.length h0 (by omega) xs.length k 0 xs rfl (by omega) (by omega) (fun j h => by omega)
  simpa using this
theorem held_strs (n : Nat) (m : Int) (h0 : 0 ≤ m) (h1 : m ≤ 4194304) (hn : n ≤ 1048576) (k : Nat) (hk : 1048900 ≤ k) : laws_heldStringS.f k (marks mt m n) m = some (m + n) := by
  unfold laws_heldStringS.f
  have := held_loop laws_heldStringS.l0 laws_markText.f (fun a b => a.toList = b.toList) ByteArray.empty (fun _ => rfl) mt 100 10000000 (by omega) mark_text (fun k xs m i => by simp only [laws_heldStringS.l0]; rfl) m n h0 (by omega) n k 0 (by omega) (by omega)
  simpa using this
theorem held_ints (n : Nat) (m : Int) (h0 : 0 ≤ m) (h1 : m ≤ 4194304) (hn : n ≤ 1048576) (k : Nat) (hk : 1048900 ≤ k) : laws_heldIntS.f k (marks id m n) m = some (m + n) := by
  unfold laws_heldIntS.f
  have := held_loop laws_heldIntS.l0 (fun _ m => some m) (fun a b => a = b) 0 (fun _ => rfl) id 100 10000000 (by omega) (fun _ _ _ _ _ => rfl) (fun k xs m i => by simp only [laws_heldIntS.l0, Option.bind_some]; rfl) m n h0 (by omega) n k 0 (by omega) (by omega)
  simpa using this
def mkS (l0 : List ByteArray) : List ByteArray := marks mt 1 l0.length
def mkI (l0 : List ByteArray) (l1 : List Int) : List Int := marks id (1 + (l0.length : Int)) l1.length
def top (l0 : List ByteArray) (l1 : List Int) : Int := 1 + (l0.length : Int) + (l1.length : Int)
theorem top_pos (l0 : List ByteArray) (l1 : List Int) : ¬ top l0 l1 < 0 := by unfold top; omega
theorem mark_pages (l0 : List ByteArray) (l1 : List Int) (h0 : l0.length ≤ 1048576) (h1 : l1.length ≤ 1048576) (k : Nat) (hk : 1048900 ≤ k) : laws_markPages.f k l0 l1 1 = some (top l0 l1, mkS l0, mkI l0 l1) := by
  unfold laws_markPages.f
  rw [mark_strs l0 1 (by omega) (by omega) h0 k hk]
  simp only [Option.bind_some]
  rw [mark_ints l1 _ (by omega) (by omega) h1 k hk]
  rfl
theorem held_pages (l0 : List ByteArray) (l1 : List Int) (h0 : l0.length ≤ 1048576) (h1 : l1.length ≤ 1048576) (k : Nat) (hk : 1048900 ≤ k) : laws_heldPages.f k (mkS l0) (mkI l0 l1) 1 = some (top l0 l1) := by
  unfold laws_heldPages.f mkS mkI
  rw [held_strs l0.length 1 (by omega) (by omega) h0 k hk]
  simp only [Option.bind_some]
  rw [if_neg (by omega), held_ints l1.length _ (by omega) (by omega) h1 k hk]
  simp only [Option.bind_some]
  rw [if_neg (by omega)]
  rfl
end Go.Proofs.Ytfbdkjdockbfdaa.PuPages
