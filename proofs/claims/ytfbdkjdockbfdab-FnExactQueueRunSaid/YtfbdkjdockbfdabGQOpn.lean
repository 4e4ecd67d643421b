import Derived.Test.YtfbdkjdockbfdabGQw
import Derived.ChangeArms
import Derived.ChangeOld
import Derived.Deep.Slices
import Derived.WideShapes
import Derived.DataReads
namespace Go.Proofs.Ytfbdkjdockbfdab.Opn
open Go.ChangeShapes Go.WideShapes Go.Deep Go.Proofs.YtfbdkjdockbfdabW.PrintWords
/-- What reads as data of type t is of the kind d. -/
def Opn {H α : Type} (enc : TypeId × Value → H) (P : Program) (w : World) (t : TypeId) (d : Kd α) (Wf : α → Prop) : Prop :=
  ∀ fuel cs x, DataW.trod enc P w 0 (fun _ => true) true fuel t cs = some x → ∃ a, d.K w a cs ∧ Wf a
section
variable {H α β : Type} {enc : TypeId × Value → H} {P : Program} {w : World} {t e : TypeId}
theorem opn_int {k : IntKind} (ht : P.underlying t = some (.int k)) : Opn enc P w t (Kd.int k) (fun n => (Lit.int k n).wf = true) := by
  intro fuel cs x h
  obtain ⟨n, rfl, _, hw⟩ := DataW.trod_int ht h
  exact ⟨n, rfl, hw⟩
theorem opn_bool (ht : P.underlying t = some .bool) : Opn enc P w t Kd.bool (fun _ => True) := by
  intro fuel cs x h
  obtain ⟨n, rfl, _⟩ := DataW.trod_bool ht h
  exact ⟨n, rfl, trivial⟩
theorem opn_string (ht : P.underlying t = some .string) : Opn enc P w t Kd.string (fun s => s.size ≤ 9223372036854775807) := by
  intro fuel cs x h
  obtain ⟨s, rfl, _, hs⟩ := DataW.trod_string ht h
  exact ⟨s, rfl, hs⟩
theorem add_add (ad : Addr) (i j : Nat) : (ad.add i).add j = ad.add (i + j) := by
  unfold Addr.add
  by_cases hi : i = 0 <;> by_cases hj : j = 0 <;> simp [hi, hj, Nat.add_assoc]
theorem pick {Q : Nat → α → Prop} : ∀ (len : Nat), (∀ i, i < len → ∃ x, Q i x) → ∃ xs : List α, xs.length = len ∧ ∀ (i : Nat) (y : α), xs[i]? = some y → i < len ∧ Q i y
  | 0, _ => ⟨[], rfl, fun i y hy => by simp at hy⟩
  | len + 1, key => by
    obtain ⟨xs, hlen, hxs⟩ := pick len (fun i hil => key i (by omega))
    obtain ⟨x, hx⟩ := key len (by omega)
    refine ⟨xs ++ [x], by simp [hlen], fun i y hy => ?_⟩
    rcases Nat.lt_or_ge i xs.length with hlt | hge
    · rw [List.getElem?_append_left hlt] at hy
      obtain ⟨h1, h2⟩ := hxs i y hy
      exact ⟨by omega, h2⟩
    · rw [List.getElem?_append_right hge] at hy
      have hi0 : i - xs.length = 0 := by
        have := (List.getElem?_eq_some_iff.1 hy).1
        simp at this
        omega
      rw [hi0] at hy
      have hyx : x = y := by simpa using hy
      have hil : i = len := by omega
      subst hyx
      subst hil
      exact ⟨by omega, hx⟩
theorem opn_slice {d : Kd α} {We : α → Prop} (ht : P.underlying t = some (.slice e)) (hc : P.cellsOf e = d.sz) (h : Opn enc P w e d We) : Opn enc P w t (Kd.slice e d) (fun xs => xs.length ≤ 9223372036854775807 ∧ ∀ x ∈ xs, We x) := by
  intro fuel cs x hx
  rcases open_slice ht hx with ⟨rfl, _⟩ | ⟨a, len, cap, m, n, D, Pl, rfl, hb, hl, hm, hmm, _, hi⟩
  · exact ⟨[], ⟨none, 0, rfl, Nat.le_refl _, Kd.C_nil d w⟩, by simp, by simp⟩
  · simp only [if_true] at hmm
    have key : ∀ i, i < len → ∃ x, We x ∧ ∃ c, c.length = d.sz ∧ d.K w x c ∧ ∀ j u, c[j]? = some u → w.cell? (a.add (i * d.sz + j)) = some u := by
      intro i hil
      obtain ⟨cs', hcs, htr⟩ := hi i (by omega)
      obtain ⟨x, hK, hW⟩ := h _ _ _ htr
      rw [hc] at hcs
      obtain ⟨_, hcl, hat⟩ := World.cells?_some hcs
      refine ⟨x, hW, cs', hcl, hK, fun j u hu => ?_⟩
      have hj : j < d.sz := by
        rw [← hcl]
        exact (List.getElem?_eq_some_iff.1 hu).1
      rw [← add_add, hat j hj, hu]
    obtain ⟨xs, hlen, hxs⟩ := pick len key
    have hmax : cap ≤ 9223372036854775807 := by
      have : maxLen = 9223372036854775807 := rfl
      omega
    refine ⟨xs, ⟨some a, cap, by rw [hlen], by omega, ?_⟩, by omega, ?_⟩
    · refine ⟨rfl, by omega, fun _ => ⟨a, rfl, fun j p hp => ?_⟩⟩
      exact (hxs j p hp).2.2
    · intro x hmem
      obtain ⟨i, hi', hx'⟩ := List.getElem_of_mem hmem
      exact (hxs i x (by rw [List.getElem?_eq_getElem hi', hx'])).2.1
theorem cut (cs : List Value) (o s o' : Nat) (h : o + s = o') : cs.drop o = (cs.drop o).take s ++ cs.drop o' := by
  subst h
  rw [← List.drop_drop]
  exact (List.take_append_drop _ _).symm
theorem last (cs : List Value) (o s : Nat) (h : cs.length ≤ o + s) : (cs.drop o).take s = cs.drop o := List.take_of_length_le (by rw [List.length_drop]; omega)
theorem pairK (a : Kd α) (b : Kd β) (x : α × β) (cs c0 c1 : List Value) (e : cs = c0 ++ c1) (h0 : a.K w x.1 c0) (h1 : b.K w x.2 c1) : (Kd.pair a b).K w x cs := ⟨c0, c1, e, h0, h1⟩
theorem isoK (d : Kd α) (f : β → α) (y : β) (cs : List Value) (h : d.K w (f y) cs) : (Kd.iso d f).K w y cs := h
end
end Go.Proofs.Ytfbdkjdockbfdab.Opn
