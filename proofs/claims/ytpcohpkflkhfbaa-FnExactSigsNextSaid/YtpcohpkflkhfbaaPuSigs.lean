/- What the laws' own functions on signals do, and what both sides say of valid ones. -/
import Derived.Test.YtpcohpkflkhfbaaGen
import Derived.Test.YtpcohpkflkhfbaaGSnxx1
import Derived.Test.YtpcohpkflkhfbaaGSnxx2
import Derived.Test.YtpcohpkflkhfbaaGSnxx3
import Derived.Test.YtpcohpkflkhfbaaGSnxx6
import Derived.Test.YtpcohpkflkhfbaaGSnxx4
import Derived.Test.YtpcohpkflkhfbaaGSnxx7
import Derived.Test.YtpcohpkflkhfbaaGSnxx5
namespace Go.Proofs.Ytpcohpkflkhfbaa.PuSigs
open Go.RowKit Go.Proofs.YtpcohpkflkhfbaaW.PrintWords Go.Proofs.Ytpcohpkflkhfbaa.Gen Go.Proofs.Ytpcohpkflkhfbaa.GSnx
set_option linter.unusedVariables false
set_option linter.unusedSimpArgs false
abbrev LB := List Bool
abbrev LI := List Int
theorem sz_sigs (l0 l1 : LB) (l2 : LI) (h0 : l0.length ≤ 9223372036854775807) (h1 : l1.length ≤ 9223372036854775807) (h2 : l2.length ≤ 9223372036854775807) :
    ∃ r, laws_szSigs.f l0 l1 l2 1048576 = some r ∧ (r < 0 ∨ 0 ≤ r ∧ l0.length ≤ 1048576 ∧ l1.length ≤ 1048576 ∧ l2.length ≤ 1048576) := by
  unfold laws_szSigs.f laws_szBoolS.f laws_szIntS.f
  by_cases c0 : (1048576 : Int) - (l0.length : Int) < 0
  · rw [wid (by omega) (by omega), if_pos c0]
    exact ⟨-1, rfl, .inl (by omega)⟩
  rw [wid (by omega) (by omega), if_neg c0]
  simp only [Option.bind_some]
  rw [if_neg c0]
  by_cases c1 : (1048576 : Int) - (l0.length : Int) - (l1.length : Int) < 0
  · rw [wid (by omega) (by omega), if_pos c1]
    exact ⟨-1, rfl, .inl (by omega)⟩
  rw [wid (by omega) (by omega), if_neg c1]
  simp only [Option.bind_some]
  rw [if_neg c1]
  by_cases c2 : (1048576 : Int) - (l0.length : Int) - (l1.length : Int) - (l2.length : Int) < 0
  · rw [wid (by omega) (by omega), if_pos c2]
    exact ⟨-1, rfl, .inl (by omega)⟩
  rw [wid (by omega) (by omega), if_neg c2]
  simp only [Option.bind_some]
  rw [if_neg c2]
  exact ⟨_, rfl, .inr ⟨by omega, by omega, by omega, by omega⟩⟩
theorem to_bools (xs : LB) (hn : xs.length ≤ 1048576) (k : Nat) (hk : 1048600 ≤ k) : laws_toBoolS.f k xs = some xs := by
  unfold laws_toBoolS.f
  rw [if_pos (by omega), if_pos (by omega)]
  have := copy_loop laws_toBoolS.l0 id false (fun k xs acc i => by simp only [laws_toBoolS.l0, id]; rfl) xs (by omega) xs.length k 0 (List.replicate xs.length false) (by simp) (by omega) (by omega) (fun j h => by omega)
  simpa using this
theorem to_ints (xs : LI) (hn : xs.length ≤ 1048576) (k : Nat) (hk : 1048600 ≤ k) : laws_toIntS.f k xs = some xs := by
  unfold laws_toIntS.f
  rw [if_pos (by omega), if_pos (by omega)]
  have := copy_loop laws_toIntS.l0 id 0 (fun k xs acc i => by simp only [laws_toIntS.l0, id]; rfl) xs (by omega) xs.length k 0 (List.replicate xs.length 0) (by simp) (by omega) (by omega) (fun j h => by omega)
  simpa using this
theorem to_sigs (l0 l1 : LB) (l2 : LI) (h0 : l0.length ≤ 1048576) (h1 : l1.length ≤ 1048576) (h2 : l2.length ≤ 1048576) (k : Nat) (hk : 1048600 ≤ k) : laws_toSigs.f k l0 l1 l2 = some (l0, l1, l2) := by
  unfold laws_toSigs.f
  rw [to_bools l0 h0 k hk, to_bools l1 h1 k hk, to_ints l2 h2 k hk]
  rfl
theorem eq_bools (xs : LB) (hn : xs.length ≤ 1048576) (k : Nat) (hk : 1048600 ≤ k) : laws_eqBoolS.f k xs xs = some true := by
  unfold laws_eqBoolS.f
  rw [if_pos rfl]
  exact eq_loop laws_eqBoolS.l0 (fun a b => a = b) false (fun _ => rfl) (fun k xs ys i => by
    simp only [laws_eqBoolS.l0]
    by_cases c : rdOf false xs i = rdOf false ys i
    · have c' : ¬ ((rdOf false xs i != rdOf false ys i) = true) := by simp [c]
      rw [if_neg c', if_pos (show xs.getD i.toNat false = ys.getD i.toNat false from c)]
    · have c' : ((rdOf false xs i != rdOf false ys i) = true) := by simp [c]
      rw [if_pos c', if_neg (show ¬ xs.getD i.toNat false = ys.getD i.toNat false from c)]) xs (by omega) xs.length k 0 (by omega) (by omega)
theorem eq_ints (xs : LI) (hn : xs.length ≤ 1048576) (k : Nat) (hk : 1048600 ≤ k) : laws_eqIntS.f k xs xs = some true := by
  unfold laws_eqIntS.f
  rw [if_pos rfl]
  exact eq_loop laws_eqIntS.l0 (fun a b => a = b) 0 (fun _ => rfl) (fun k xs ys i => by simp only [laws_eqIntS.l0]; rfl) xs (by omega) xs.length k 0 (by omega) (by omega)
theorem eq_sigs (l0 l1 : LB) (l2 : LI) (h0 : l0.length ≤ 1048576) (h1 : l1.length ≤ 1048576) (h2 : l2.length ≤ 1048576) (k : Nat) (hk : 1048600 ≤ k) : laws_eqSigs.f k l0 l1 l2 l0 l1 l2 = some true := by
  unfold laws_eqSigs.f
  rw [eq_bools l0 h0 k hk, eq_bools l1 h1 k hk, eq_ints l2 h2 k hk]
  simp
def mb (m : Int) : Bool := Int.tmod m 3 == 0
theorem mark_bools (xs : LB) (m : Int) (h0 : 0 ≤ m) (h1 : m ≤ 4194304) (hn : xs.length ≤ 1048576) (k : Nat) (hk : 1048900 ≤ k) : laws_markBoolS.f k xs m = some (m + xs.length, marks mb m xs.length) := by
  unfold laws_markBoolS.f
  have := mark_loop laws_markBoolS.l0 (fun _ m => some (mb m)) mb 100 10000000 (by omega) (fun _ _ _ _ _ => rfl) (fun k xs m i => by simp only [laws_markBoolS.l0, Option.bind_some, mb]) m xs.length h0 (by omega) xs.length k 0 xs rfl (by omega) (by omega) (fun j h => by omega)
  simpa using this
theorem mark_ints (xs : LI) (m : Int) (h0 : 0 ≤ m) (h1 : m ≤ 4194304) (hn : xs.length ≤ 1048576) (k : Nat) (hk : 1048900 ≤ k) : laws_markIntS.f k xs m = some (m + xs.length, marks id m xs.length) := by
  unfold laws_markIntS.f
  have := mark_loop laws_markIntS.l0 (fun _ m => some m) id 100 10000000 (by omega) (fun _ _ _ _ _ => rfl) (fun k xs m i => by simp only [laws_markIntS.l0, Option.bind_some]) m xs.length h0 (by omega) xs.length k 0 xs rfl (by omega) (by omega) (fun j h => by omega)
  simpa using this
theorem held_bools (n : Nat) (m : Int) (h0 : 0 ≤ m) (h1 : m ≤ 4194304) (hn : n ≤ 1048576) (k : Nat) (hk : 1048900 ≤ k) : laws_heldBoolS.f k (marks mb m n) m = some (m + n) := by
  unfold laws_heldBoolS.f
  have := held_loop laws_heldBoolS.l0 (fun _ m => some (mb m)) (fun a b => a = b) false (fun _ => rfl) mb 100 10000000 (by omega) (fun _ _ _ _ _ => rfl) (fun k xs m i => by
    simp only [laws_heldBoolS.l0, Option.bind_some]
    by_cases c : rdOf false xs i = mb m
    · have c' : ¬ ((rdOf false xs i != (Int.tmod m 3 == 0)) = true) := by simp [show rdOf false xs i = (Int.tmod m 3 == 0) from c]
      rw [if_neg c', if_pos (show xs.getD i.toNat false = mb m from c)]
    · have c' : ((rdOf false xs i != (Int.tmod m 3 == 0)) = true) := by simpa [mb] using c
      rw [if_pos c', if_neg (show ¬ xs.getD i.toNat false = mb m from c)]) m n h0 (by omega) n k 0 (by omega) (by omega)
  simpa using this
theorem held_ints (n : Nat) (m : Int) (h0 : 0 ≤ m) (h1 : m ≤ 4194304) (hn : n ≤ 1048576) (k : Nat) (hk : 1048900 ≤ k) : laws_heldIntS.f k (marks id m n) m = some (m + n) := by
  unfold laws_heldIntS.f
  have := held_loop laws_heldIntS.l0 (fun _ m => some m) (fun a b => a = b) 0 (fun _ => rfl) id 100 10000000 (by omega) (fun _ _ _ _ _ => rfl) (fun k xs m i => by simp only [laws_heldIntS.l0, Option.bind_some]; rfl) m n h0 (by omega) n k 0 (by omega) (by omega)
  simpa using this
def top (l0 l1 : LB) (l2 : LI) : Int := 1 + (l0.length : Int) + (l1.length : Int) + (l2.length : Int)
def m0 (l0 : LB) : LB := marks mb 1 l0.length
def m1 (l0 l1 : LB) : LB := marks mb (1 + (l0.length : Int)) l1.length
def m2 (l0 l1 : LB) (l2 : LI) : LI := marks id (1 + (l0.length : Int) + (l1.length : Int)) l2.length
theorem top_pos (l0 l1 : LB) (l2 : LI) : ¬ top l0 l1 l2 < 0 := by unfold top; omega
theorem mark_sigs (l0 l1 : LB) (l2 : LI) (h0 : l0.length ≤ 1048576) (h1 : l1.length ≤ 1048576) (h2 : l2.length ≤ 1048576) (k : Nat) (hk : 1048900 ≤ k) : laws_markSigs.f k l0 l1 l2 1 = some (top l0 l1 l2, m0 l0, m1 l0 l1, m2 l0 l1 l2) := by
  unfold laws_markSigs.f
  rw [mark_bools l0 1 (by omega) (by omega) h0 k hk]
  simp only [Option.bind_some]
  rw [mark_bools l1 _ (by omega) (by omega) h1 k hk]
  simp only [Option.bind_some]
  rw [mark_ints l2 _ (by omega) (by omega) h2 k hk]
  rfl
theorem held_sigs (l0 l1 : LB) (l2 : LI) (h0 : l0.length ≤ 1048576) (h1 : l1.length ≤ 1048576) (h2 : l2.length ≤ 1048576) (k : Nat) (hk : 1048900 ≤ k) : laws_heldSigs.f k (m0 l0) (m1 l0 l1) (m2 l0 l1 l2) 1 = some (top l0 l1 l2) := by
  unfold laws_heldSigs.f m0 m1 m2
  rw [held_bools l0.length 1 (by omega) (by omega) h0 k hk]
  simp only [Option.bind_some]
  rw [if_neg (by omega), held_bools l1.length _ (by omega) (by omega) h1 k hk]
  simp only [Option.bind_some]
  rw [if_neg (by omega), held_ints l2.length _ (by omega) (by omega) h2 k hk]
  simp only [Option.bind_some]
  rw [if_neg (by omega)]
  rfl
theorem clone_bools (xs : LB) (h : xs.length ≤ 1048576) : slices_Clone_bool_bool.f xs = some xs := by
  unfold slices_Clone_bool_bool.f
  simp only [Option.bind_some, List.length_nil, List.nil_append]
  rw [if_pos (by omega)]
theorem clone_ints (xs : LI) (h : xs.length ≤ 1048576) : slices_Clone_int_int.f xs = some xs := by
  unfold slices_Clone_int_int.f
  simp only [Option.bind_some, List.length_nil, List.nil_append]
  rw [if_pos (by omega)]
theorem clone_is (l0 l1 : LB) (l2 : LI) (h0 : l0.length ≤ 1048576) (h1 : l1.length ≤ 1048576) (h2 : l2.length ≤ 1048576) : impl_Sigs_clone.f l0 l1 l2 = some (l0, l1, l2) := by
  unfold impl_Sigs_clone.f
  rw [clone_bools l0 h0, clone_bools l1 h1, clone_ints l2 h2]
  rfl
theorem copy_is (l0 l1 : LB) (l2 : LI) (h0 : l0.length ≤ 1048576) (h1 : l1.length ≤ 1048576) (h2 : l2.length ≤ 1048576) : spec_l10Copy.f l0 l1 l2 = some (l0, l1, l2) := by
  unfold spec_l10Copy.f
  simp only [Option.bind_some, List.length_nil, List.nil_append]
  rw [if_pos (by omega), if_pos (by omega), if_pos (by omega)]
/-- The two loops say the same, whatever the rounds. -/
theorem loops (l0 l1 : LB) (l2 : LI) (h1 : l1.length = 8) (h2 : l2.length = 8) : ∀ (k : Nat) (i : Int), 0 ≤ i → i ≤ 8 → impl_SigsOk.l0 k l2 (l2.length : Int) i l0 l1 l2 = spec_SigsOk.l0 k i l0 l1 l2 := by
  intro k
  induction k with
  | zero => intro i _ _; rfl
  | succ k ih =>
    intro i h3 h4
    simp only [impl_SigsOk.l0, spec_SigsOk.l0, spec_l10Fixed.f]
    by_cases c : i < 8
    · have hw : wrap64 (i + 1) = i + 1 := wr (by omega) (by omega)
      rw [if_pos (show i < (l2.length : Int) by omega), if_pos h3, if_pos (show i < (l2.length : Int) by omega), if_pos c, if_pos h3, if_pos (show i < (l2.length : Int) by omega), hw, ih (i + 1) (by omega) (by omega)]
      have hb : i < (l1.length : Int) := by omega
      simp only [if_pos hb]
      by_cases c1 : i + 1 = 1
      · simp only [if_pos c1, Option.bind_some, if_true]
      · simp only [if_neg c1]
        by_cases c2 : i + 1 = 2
        · simp [c2]
        · simp [c2]
    · rw [if_neg (by omega), if_neg c]
theorem spec_ends (l0 l1 : LB) (l2 : LI) (h1 : l1.length = 8) (h2 : l2.length = 8) : ∀ (d k i : Nat), i + d = 8 → d < k → ∃ r, spec_SigsOk.l0 k i l0 l1 l2 = some r := by
  intro d
  induction d with
  | zero =>
    intro k i hd hk
    obtain ⟨k, rfl⟩ : ∃ m, k = m + 1 := ⟨k - 1, by omega⟩
    exact ⟨true, by simp only [spec_SigsOk.l0]; rw [if_neg (by omega)]⟩
  | succ d ih =>
    intro k i hd hk
    obtain ⟨k, rfl⟩ : ∃ m, k = m + 1 := ⟨k - 1, by omega⟩
    obtain ⟨r, hr⟩ := ih k (i + 1) (by omega) (by omega)
    simp only [spec_SigsOk.l0, spec_l10Fixed.f]
    have hb : (i : Int) < (l1.length : Int) := by omega
    rw [if_pos (by omega), if_pos (by omega), if_pos (by omega), wr (by omega) (by omega), show spec_SigsOk.l0 k ((i : Int) + 1) l0 l1 l2 = some r from by simpa using hr]
    simp only [if_pos hb]
    by_cases c0 : rd l2 (i : Int) = 0 <;> by_cases c1 : rd l2 (i : Int) = 1 <;> by_cases c4 : rd l2 (i : Int) = 4 <;> by_cases d1 : (i : Int) + 1 = 1 <;> by_cases d2 : (i : Int) + 1 = 2 <;> cases hq : rdOf false l1 (i : Int) <;> simp [c0, c1, c4, d1, d2]
/-- Both say the same of any signals; where they hold, the lists have 8 cells. -/
theorem ok_same (l0 l1 : LB) (l2 : LI) : ∃ b, (b = true → l0.length = 8 ∧ l1.length = 8 ∧ l2.length = 8) ∧ ∀ k, 30 ≤ k → spec_SigsOk.f k l0 l1 l2 = some b ∧ impl_SigsOk.f k l0 l1 l2 = some b := by
  by_cases c0 : l0.length = 8
  · by_cases c1 : l1.length = 8
    · by_cases c2 : l2.length = 8
      · obtain ⟨r, hr⟩ := spec_ends l0 l1 l2 c1 c2 8 20 0 (by omega) (by omega)
        have hr' : ∀ k, 20 ≤ k → spec_SigsOk.l0 k 0 l0 l1 l2 = some r := fun k hk => at_rounds (fun k => (spec_SigsOk.mono_l k).2 _ _ _ _) hk hr
        refine ⟨r, fun _ => ⟨c0, c1, c2⟩, fun k hk => ?_⟩
        obtain ⟨k, rfl⟩ : ∃ m, k = m + 1 := ⟨k - 1, by omega⟩
        have hl := loops l0 l1 l2 c1 c2 k 0 (by omega) (by omega)
        unfold spec_SigsOk.f impl_SigsOk.f
        have e0 : (l0.length : Int) = 8 := by omega
        have e1 : (l1.length : Int) = 8 := by omega
        have e2 : ((l2.length : Int) != 8) = false := by simp [c2]
        rw [if_pos e0, if_pos e1, e2, if_pos e0, if_pos e1]
        simp only [spec_SigsOk.j0, impl_SigsOk.j0, Bool.false_eq_true, if_false]
        exact ⟨hr' k (by omega), hl.trans (hr' k (by omega))⟩
      · refine ⟨false, by simp, fun k hk => ?_⟩
        obtain ⟨k, rfl⟩ : ∃ m, k = m + 1 := ⟨k - 1, by omega⟩
        have e2 : ((l2.length : Int) != 8) = true := by simp; omega
        unfold spec_SigsOk.f impl_SigsOk.f
        rw [e2]
        simp [spec_SigsOk.j0, impl_SigsOk.j0]
    · refine ⟨false, by simp, fun k hk => ?_⟩
      obtain ⟨k, rfl⟩ : ∃ m, k = m + 1 := ⟨k - 1, by omega⟩
      unfold spec_SigsOk.f impl_SigsOk.f
      have e1 : ¬ (l1.length : Int) = 8 := by omega
      rw [if_neg e1, if_neg e1]
      simp [spec_SigsOk.j0, impl_SigsOk.j0]
  · refine ⟨false, by simp, fun k hk => ?_⟩
    obtain ⟨k, rfl⟩ : ∃ m, k = m + 1 := ⟨k - 1, by omega⟩
    unfold spec_SigsOk.f impl_SigsOk.f
    have e1 : ¬ (l0.length : Int) = 8 := by omega
    rw [if_neg e1, if_neg e1]
    simp [spec_SigsOk.j0, impl_SigsOk.j0]
/-- What a signal does: both say the same, and nothing hangs on what is here or blocked. -/
theorem does_same (l0 l1 l0' l1' : LB) (l2 : LI) (a : Int) (k : Nat) : spec_l10Does.f k l0 l1 l2 a = impl_Sigs_does.f k l0' l1' l2 a := by
  unfold spec_l10Does.f impl_Sigs_does.f impl_usual.f
  have hj : ∀ k x b, impl_usual.j0 k x b = spec_l10Does.j0 k x b := by
    intro k x b
    cases k with
    | zero => rfl
    | succ k => simp only [impl_usual.j0, spec_l10Does.j0]
  by_cases c : a = 2
  · subst c
    simp [hj]
  · simp [hj, c]
theorem does_some (l0 l1 : LB) (l2 : LI) (a : Int) (h : l2.length = 8) (ha : 1 ≤ a) (hb : a ≤ 8) : ∃ r, ∀ k, 1 ≤ k → impl_Sigs_does.f k l0 l1 l2 a = some r := by
  have : ∃ r, impl_Sigs_does.f 1 l0 l1 l2 a = some r := by
    unfold impl_Sigs_does.f
    rw [wid (by omega) (by omega), if_pos (by omega), if_pos (by omega)]
    by_cases c : rd l2 (a - 1) = 0
    · rw [if_pos c]
      have : ∃ r, impl_usual.f 1 a = some r := by
        unfold impl_usual.f
        by_cases c2 : a = 2
        · rw [if_pos c2]; subst c2; exact ⟨2, rfl⟩
        · rw [if_neg c2]
          simp only [impl_usual.j0]
          split
          · exact ⟨_, rfl⟩
          · split
            · exact ⟨_, rfl⟩
            · split
              · exact ⟨_, rfl⟩
              · split <;> exact ⟨_, rfl⟩
      obtain ⟨r, hr⟩ := this
      rw [hr]
      exact ⟨r, rfl⟩
    · rw [if_neg c]
      exact ⟨_, rfl⟩
  obtain ⟨r, hr⟩ := this
  exact ⟨r, fun k hk => at_rounds (fun k => impl_Sigs_does.mono l0 l1 l2 a k) hk hr⟩
end Go.Proofs.Ytpcohpkflkhfbaa.PuSigs
