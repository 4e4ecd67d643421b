/- What the laws' own functions on queues do, and what both sides say of valid ones. -/
import Derived.Test.YtfbdkjdockbfdabGen2
import Derived.Test.YtfbdkjdockbfdabGQx1
import Derived.Test.YtfbdkjdockbfdabGQx4
import Derived.Test.YtfbdkjdockbfdabGQx8
import Derived.Test.YtfbdkjdockbfdabGQx9
namespace Go.Proofs.Ytfbdkjdockbfdab.PuQueue
open Go.RowKit Go.Proofs.YtfbdkjdockbfdabW.PrintWords Go.Proofs.Ytfbdkjdockbfdab.Gen Go.Proofs.Ytfbdkjdockbfdab.GQ
set_option linter.unusedVariables false
set_option linter.unusedSimpArgs false
abbrev T := S51
abbrev T0 := S54
theorem sz_queue (l0 : List T0) (f : Int) (h0 : l0.length ≤ 9223372036854775807) :
    ∃ r, laws_szQueue.f l0 f 1048576 = some r ∧ (r < 0 ∨ 0 ≤ r ∧ l0.length ≤ 1048576) := by
  unfold laws_szQueue.f laws_szTaskS.f
  by_cases c0 : (1048576 : Int) - (l0.length : Int) < 0
  · rw [wid (by omega) (by omega), if_pos c0]
    exact ⟨-1, rfl, .inl (by omega)⟩
  rw [wid (by omega) (by omega), if_neg c0]
  simp only [Option.bind_some]
  rw [if_neg c0]
  exact ⟨_, rfl, .inr ⟨by omega, by omega⟩⟩
def tk (x : T0) : T := ⟨x.f0, x.f1, x.f2, x.f3⟩
theorem to_tasks (xs : List T0) (hn : xs.length ≤ 1048576) (k : Nat) (hk : 1048600 ≤ k) : laws_toTaskS.f k xs = some (xs.map tk) := by
  unfold laws_toTaskS.f
  rw [if_pos (by omega), if_pos (by omega)]
  have := copy_loop laws_toTaskS.l0 tk z54 (fun k xs acc i => by simp only [laws_toTaskS.l0, laws_toTask.f, Option.bind_some]; rfl) xs (by omega) xs.length k 0 (List.replicate xs.length z51) (by simp) (by omega) (by omega) (fun j h => by omega)
  simpa using this
theorem to_queue (xs : List T0) (f : Int) (hn : xs.length ≤ 1048576) (k : Nat) (hk : 1048600 ≤ k) : laws_toQueue.f k xs f = some (xs.map tk, f) := by
  unfold laws_toQueue.f
  rw [to_tasks xs hn k hk]
  rfl
theorem eq_queue (xs : List T) (f : Int) (hn : xs.length ≤ 1048576) (k : Nat) (hk : 1048600 ≤ k) : laws_eqQueue.f k xs f xs f = some true := by
  unfold laws_eqQueue.f laws_eqTaskS.f
  rw [if_pos rfl]
  have := eq_gen laws_eqTaskS.l0 xs 0 (fun k i h => by simp only [laws_eqTaskS.l0]; rw [if_neg (by omega)]) (fun k i _ h => by
    simp only [laws_eqTaskS.l0, laws_eqTask.f]
    rw [if_pos (by omega), if_pos (by omega), if_pos (by omega), wr (by omega) (by omega)]
    simp) xs.length k 0 (by omega) (by omega)
  rw [show ((0 : Nat) : Int) = 0 from rfl] at this
  rw [this]
  simp
def mkT (x : T) (m : Int) : Int × T := (m + 4, ⟨m, m + 1, m + 2, Int.tmod (m + 3) 3 == 0⟩)
theorem rd_set (xs : List T) (i : Nat) (y : T) (h : i < xs.length) : rd_T51 (xs.set i y) (i : Int) = y := by
  simp [rd_T51, List.getD_eq_getElem?_getD, h]
theorem mark_tasks (xs : List T) (m : Int) (h0 : 0 ≤ m) (h1 : m ≤ 4194304) (hn : xs.length ≤ 1048576) (k : Nat) (hk : 1048900 ≤ k) : laws_markTaskS.f k xs m = some (markL mkT xs m) := by
  unfold laws_markTaskS.f
  have := mark_gen laws_markTaskS.l0 mkT (fun _ => 4) z51 0 100000000 (fun k xs m i h => by simp only [laws_markTaskS.l0]; rw [if_neg (by omega)]) (fun k xs m i _ h hl hm hb => by
    simp only [laws_markTaskS.l0]
    rw [if_pos (by omega), if_pos (by omega)]
    simp only [Option.bind_some, Int.toNat_natCast]
    have w1 : wrap64 (m + 1) = m + 1 := wr (by omega) (by omega)
    have w2 : wrap64 (m + 1 + 1) = m + 2 := by rw [wr (by omega) (by omega)]; omega
    have w3 : wrap64 (m + 2 + 1) = m + 3 := by rw [wr (by omega) (by omega)]; omega
    have w4 : wrap64 (m + 3 + 1) = m + 4 := by rw [wr (by omega) (by omega)]; omega
    have w5 : wrap64 ((i : Int) + 1) = ((i + 1 : Nat) : Int) := by rw [wr (by omega) (by omega)]; omega
    rw [w1, w2, w3, w4, w5]
    rw [rd_set _ _ _ h]
    simp only [List.set_set]
    rw [rd_set _ _ _ h]
    simp only [List.set_set]
    rw [rd_set _ _ _ h]
    simp only [List.set_set]
    rfl) (fun x m h0 h1 => by simp only [mkT]; omega) xs [] k m h0 (by rw [costs_const]; omega) (by simp; omega) (by omega)
  simpa using this
theorem held_tasks (xs : List T) (m : Int) (h0 : 0 ≤ m) (h1 : m ≤ 4194304) (hn : xs.length ≤ 1048576) (k : Nat) (hk : 1048900 ≤ k) : laws_heldTaskS.f k (markL mkT xs m).2 m = some (markL mkT xs m).1 := by
  unfold laws_heldTaskS.f
  have := held_gen laws_heldTaskS.l0 mkT (fun _ => 4) z51 0 100000000 (fun k xs m i h => by simp only [laws_heldTaskS.l0]; rw [if_neg (by omega)]) (fun k xs x m i _ h hl hm hb he => by
    simp only [laws_heldTaskS.l0]
    have he' : rd_T51 xs (i : Int) = (mkT x m).2 := by rw [← he]; rfl
    rw [if_pos (by omega), if_pos (by omega), he']
    have w1 : wrap64 (m + 1) = m + 1 := wr (by omega) (by omega)
    have w2 : wrap64 (m + 1 + 1) = m + 2 := by rw [wr (by omega) (by omega)]; omega
    have w3 : wrap64 (m + 2 + 1) = m + 3 := by rw [wr (by omega) (by omega)]; omega
    have w4 : wrap64 (m + 3 + 1) = m + 4 := by rw [wr (by omega) (by omega)]; omega
    have w5 : wrap64 ((i : Int) + 1) = ((i + 1 : Nat) : Int) := by rw [wr (by omega) (by omega)]; omega
    rw [w1, w2, w3, w4, w5]
    simp [mkT]) (fun x m h0 h1 => by simp only [mkT]; omega) xs [] k m h0 (by rw [costs_const]; omega) (by simp; omega) (by omega)
  simpa using this
theorem top_tasks (xs : List T) (m : Int) (h0 : 0 ≤ m) (h1 : m ≤ 4194304) (hn : xs.length ≤ 1048576) : m ≤ (markL mkT xs m).1 ∧ (markL mkT xs m).1 ≤ m + 4 * xs.length := by
  have := markL_le mkT (fun _ => 4) 100000000 (fun x m h0 h1 => by simp only [mkT]; omega) xs m h0 (by rw [costs_const]; omega)
  rw [costs_const] at this
  omega
theorem mark_queue (xs : List T) (f m : Int) (h0 : 0 ≤ m) (h1 : m ≤ 4194304) (hn : xs.length ≤ 1048576) (k : Nat) (hk : 1048900 ≤ k) : laws_markQueue.f k xs f m = some (markL mkT xs m) := by
  unfold laws_markQueue.f
  rw [mark_tasks xs m h0 h1 hn k hk]
  rfl
theorem held_queue (xs : List T) (f m : Int) (h0 : 0 ≤ m) (h1 : m ≤ 4194304) (hn : xs.length ≤ 1048576) (k : Nat) (hk : 1048900 ≤ k) : laws_heldQueue.f k (markL mkT xs m).2 f m = some (markL mkT xs m).1 := by
  unfold laws_heldQueue.f
  rw [held_tasks xs m h0 h1 hn k hk]
  have := top_tasks xs m h0 h1 hn
  simp only [Option.bind_some]
  rw [if_neg (by omega)]
end Go.Proofs.Ytfbdkjdockbfdab.PuQueue
