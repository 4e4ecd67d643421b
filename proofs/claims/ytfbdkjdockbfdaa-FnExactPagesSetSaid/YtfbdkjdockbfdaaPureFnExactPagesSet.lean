/- Of all pages, places and bytes: PagesSet of the program answers what the reference's does, changes nothing that came in, and shares no memory with it. -/
import Derived.Test.YtfbdkjdockbfdaaPuOk
import Derived.Test.YtfbdkjdockbfdaaGPsetx8
namespace Go.Proofs.Ytfbdkjdockbfdaa.Pure
open Go.RowKit Go.Proofs.YtfbdkjdockbfdaaW.PrintWords Go.Proofs.Ytfbdkjdockbfdaa.Gen Go.Proofs.Ytfbdkjdockbfdaa.GPset Go.Proofs.Ytfbdkjdockbfdaa.PuPages Go.Proofs.Ytfbdkjdockbfdaa.PuOk
set_option linter.unusedVariables false
set_option linter.unusedSimpArgs false
theorem used_is (l0 : List ByteArray) (l1 : List Int) (a : Int) : spec_l1Used.f l0 l1 a = impl_Pages_has.f l0 l1 a := rfl
theorem in_is (a b c : Int) : spec_l6In.f a b c = impl_in.f a b c := rfl
theorem has_cases (l0 : List ByteArray) (l1 : List Int) (a : Int) (hl : l1.length ≤ 1048576) : impl_Pages_has.f l0 l1 a = some false ∨ impl_Pages_has.f l0 l1 a = some true ∧ 0 ≤ a ∧ a < (l1.length : Int) ∧ rd l1 a > 0 := by
  unfold impl_Pages_has.f impl_in.f
  rw [wid (by omega) (by omega)]
  by_cases c0 : a ≥ 0
  · rw [if_pos c0]
    simp only [Option.bind_some]
    by_cases c1 : a ≤ (l1.length : Int) - 1
    · simp only [c1, decide_true, if_true]
      rw [if_pos (by omega), if_pos (by omega)]
      by_cases c2 : rd l1 a > 0
      · exact .inr ⟨by simp [c2], by omega, by omega, c2⟩
      · exact .inl (by simp [c2])
    · exact .inl (by simp [c1])
  · rw [if_neg c0]
    exact .inl rfl
theorem in_cases (a b c : Int) : impl_in.f a b c = some (decide (b ≤ a ∧ a ≤ c)) := by
  unfold impl_in.f
  by_cases h : a ≥ b
  · rw [if_pos h]
    simp [h]
  · rw [if_neg h]
    have : ¬ (b ≤ a) := h
    simp [this]
theorem put_bytes (s : ByteArray) (k b : Int) (h1 : k.toNat < s.size) (hb0 : 0 ≤ b) (hb1 : b ≤ 255) : (s.extract 0 k.toNat ++ strOfNums ([b % 256] : List Int)) ++ s.extract (k.toNat + 1) s.size = strOfNums ((bytesOf s).set k.toNat b) := by
  apply ByteArray.ext
  apply Array.toList_inj.mp
  have hlen : s.data.toList.length = s.size := data_length s
  have hb : (b % 256).toNat = b.toNat := by omega
  simp only [ByteArray.data_append, ByteArray.data_extract, Array.toList_append, Array.toList_extract, strOfNums_data, List.map_cons, List.map_nil, hb]
  have e : List.map (fun n : Int => UInt8.ofNat n.toNat) ((bytesOf s).set k.toNat b) = s.data.toList.set k.toNat (UInt8.ofNat b.toNat) := by
    rw [List.map_set]
    congr 1
    unfold bytesOf
    rw [List.map_map]
    conv => rhs; rw [← List.map_id s.data.toList]
    apply List.map_congr_left
    intro x _
    simp
  rw [e, List.set_eq_take_append_cons_drop, if_pos (by omega)]
  have ht : List.take (s.size - (k.toNat + 1)) (List.drop (k.toNat + 1) s.data.toList) = List.drop (k.toNat + 1) s.data.toList := List.take_of_length_le (by rw [List.length_drop]; omega)
  simp [ht]
/-- A byte of a text. -/
theorem set_is (s : ByteArray) (k b : Int) (h0 : 0 ≤ k) (h1 : k < (s.size : Int)) (hb0 : 0 ≤ b) (hb1 : b ≤ 255) (hs : s.size ≤ 1048576) : spec_l1Set.f s k b = impl_with.f s k b := by
  have hsz : (strOfNums ([b % 256] : List Int)).size = 1 := by simp [strOfNums, ByteArray.size]
  have hx : (s.extract 0 k.toNat).size = k.toNat := by rw [ByteArray.size_extract]; omega
  have hy : (s.extract (k + 1).toNat s.size).size = s.size - (k + 1).toNat := by rw [ByteArray.size_extract]; omega
  unfold spec_l1Set.f impl_with.f
  rw [if_pos h0, if_pos (by omega)]
  simp only [Option.bind_some]
  rw [wid (by omega) (by omega), if_pos (by rw [hx, hsz]; omega), if_pos (by omega), if_pos (by omega), if_pos (by rw [ByteArray.size_append, hx, hy, hsz]; omega)]
  rw [if_pos (by omega), if_pos h0, if_pos h1, if_pos hb0, if_pos hb1]
  congr 1
  unfold impl_with.put
  rw [show (k + 1).toNat = k.toNat + 1 from by omega]
  exact put_bytes s k b (by omega) hb0 hb1
theorem ok_size {l0 : List ByteArray} {l1 : List Int} (h : Ok l0 l1) {a : Int} (h0 : 0 ≤ a) (h1 : a < (l1.length : Int)) (hp : rd l1 a > 0) : ((rdOf ByteArray.empty l0 a).size : Int) = 4 := by
  have hl := h.1
  have := h.2.2.2 a.toNat (Nat.zero_le _) (by omega)
  have e : (if l1.getD a.toNat 0 = 0 then (0 : Int) else 4) = 4 := if_neg (by unfold rd at hp; omega)
  have h4 := this.2.2
  rw [e] at h4
  exact h4
/-- Both answer the same. -/
theorem same (l0 : List ByteArray) (l1 : List Int) (a x b : Int) (h0 : l0.length ≤ 1048576) (h1 : l1.length ≤ 1048576) :
    ∃ r1 r2 r3, r1.length ≤ 1048576 ∧ r2.length ≤ 1048576 ∧ ∀ k, 1048600 ≤ k → spec_PagesSet.f k l0 l1 a x b = some (r1, r2, r3) ∧ impl_PagesSet.f k l0 l1 a x b = some (r1, r2, r3) := by
  by_cases c0 : Ok l0 l1
  · have hl := c0.1
    rcases has_cases l0 l1 a h1 with hh | ⟨hh, ha0, ha1, hp⟩
    · refine ⟨[], [], false, by simp, by simp, fun k hk => ?_⟩
      obtain ⟨k, rfl⟩ : ∃ m, k = m + 1 := ⟨k - 1, by omega⟩
      unfold spec_PagesSet.f impl_PagesSet.f impl_PagesGet.f
      rw [spec_ok l0 l1 _ (by omega), impl_ok l0 l1 _ (by omega), used_is, hh]
      simp only [decide_eq_true c0, Option.bind_some, if_true, Bool.false_eq_true, if_false, spec_PagesSet.j0, impl_PagesSet.j0]
      exact ⟨trivial, trivial⟩
    · have hsz := ok_size c0 ha0 ha1 hp
      by_cases c1 : 0 ≤ x ∧ x ≤ 3
      · by_cases c2 : 0 ≤ b ∧ b ≤ 255
        · have hw : impl_with.f (rdOf ByteArray.empty l0 a) x b = some (impl_with.put (rdOf ByteArray.empty l0 a) x b) := by
            unfold impl_with.f
            rw [if_pos (by omega), if_pos c1.1, if_pos (by omega), if_pos c2.1, if_pos c2.2]
          have hs : spec_l1Set.f (rdOf ByteArray.empty l0 a) x b = some (impl_with.put (rdOf ByteArray.empty l0 a) x b) := (set_is _ x b c1.1 (by omega) c2.1 c2.2 (by omega)).trans hw
          refine ⟨l0.set a.toNat (impl_with.put (rdOf ByteArray.empty l0 a) x b), l1, true, by simp; omega, h1, fun k hk => ?_⟩
          obtain ⟨k, rfl⟩ : ∃ m, k = m + 1 := ⟨k - 1, by omega⟩
          unfold spec_PagesSet.f impl_PagesSet.f impl_PagesGet.f
          rw [spec_ok l0 l1 _ (by omega), impl_ok l0 l1 _ (by omega), used_is, hh]
          have hal : a < (l0.length : Int) := by omega
          simp only [decide_eq_true c0, Option.bind_some, if_true, Bool.false_eq_true, if_false, in_is, in_cases, decide_eq_true c1, decide_eq_true c2, Bool.not_true, if_pos ha0, if_pos hal, spec_PagesSet.j0, impl_PagesSet.j0, copy_is l0 l1 h0 h1, clone_is l0 l1 h0 h1, hw, hs]
          exact ⟨trivial, trivial⟩
        · refine ⟨[], [], false, by simp, by simp, fun k hk => ?_⟩
          obtain ⟨k, rfl⟩ : ∃ m, k = m + 1 := ⟨k - 1, by omega⟩
          unfold spec_PagesSet.f impl_PagesSet.f impl_PagesGet.f
          rw [spec_ok l0 l1 _ (by omega), impl_ok l0 l1 _ (by omega), used_is, hh]
          have hal : a < (l0.length : Int) := by omega
          simp only [decide_eq_true c0, Option.bind_some, if_true, Bool.false_eq_true, if_false, in_is, in_cases, decide_eq_true c1, decide_eq_false c2, Bool.not_false, if_pos ha0, if_pos hal, spec_PagesSet.j0, impl_PagesSet.j0]
          exact ⟨trivial, trivial⟩
      · refine ⟨[], [], false, by simp, by simp, fun k hk => ?_⟩
        obtain ⟨k, rfl⟩ : ∃ m, k = m + 1 := ⟨k - 1, by omega⟩
        unfold spec_PagesSet.f impl_PagesSet.f impl_PagesGet.f
        rw [spec_ok l0 l1 _ (by omega), impl_ok l0 l1 _ (by omega), used_is, hh]
        have hal : a < (l0.length : Int) := by omega
        simp only [decide_eq_true c0, Option.bind_some, if_true, Bool.false_eq_true, if_false, in_is, in_cases, decide_eq_false c1, if_pos ha0, if_pos hal, spec_PagesSet.j0, impl_PagesSet.j0]
        exact ⟨trivial, trivial⟩
  · refine ⟨[], [], false, by simp, by simp, fun k hk => ?_⟩
    obtain ⟨k, rfl⟩ : ∃ m, k = m + 1 := ⟨k - 1, by omega⟩
    unfold spec_PagesSet.f impl_PagesSet.f impl_PagesGet.f
    rw [spec_ok l0 l1 _ (by omega), impl_ok l0 l1 _ (by omega)]
    simp only [decide_eq_false c0, Option.bind_some, if_true, Bool.false_eq_true, if_false, spec_PagesSet.j0, impl_PagesSet.j0]
    exact ⟨trivial, trivial⟩
theorem FnExactPagesSet : laws_FnExactPagesSet.Pure := by
  intro p0 a1 a2 a3 hW _ _ _
  obtain ⟨⟨h0, hx⟩, h1, _⟩ := hW
  obtain ⟨t, ht, hcase⟩ := sz_pages p0.f0 p0.f1 h0 hx h1
  rcases hcase with hneg | ⟨hpos, g0, g1, _⟩
  · refine ⟨1048600, ?_⟩
    unfold laws_FnExactPagesSet.f
    rw [ht _ (by omega)]
    simp [hneg]
  · obtain ⟨r1, r2, r3, q1, q2, hs⟩ := same p0.f0 p0.f1 a1 a2 a3 g0 g1
    refine ⟨1048900, ?_⟩
    have hnt : ¬ t < 0 := by omega
    have hb : (r3 != r3) = false := by cases r3 <;> rfl
    unfold laws_FnExactPagesSet.f
    simp only [ht 1048900 (by omega), to_pages _ _ g0 g1 1048900 (by omega), (hs 1048900 (by omega)).1, (hs 1048900 (by omega)).2, eq_pages _ _ q1 q2 1048900 (by omega), eq_pages _ _ g0 g1 1048900 (by omega), mark_pages _ _ g0 g1 1048900 (by omega), mark_pages _ _ q1 q2 1048900 (by omega), held_pages _ _ q1 q2 1048900 (by omega), Option.bind_some, if_neg hnt, if_true, hb, Bool.false_eq_true, if_false, if_neg (top_pos _ _)]
end Go.Proofs.Ytfbdkjdockbfdaa.Pure
