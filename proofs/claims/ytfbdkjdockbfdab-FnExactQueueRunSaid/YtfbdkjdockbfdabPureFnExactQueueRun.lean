/- Of all queues and numbers: QueueRun of the program answers what the reference's does, changes nothing that came in, and shares no memory with it. -/
import Derived.Test.YtfbdkjdockbfdabPuQueueNext
import Derived.Test.YtfbdkjdockbfdabGQx3
import Derived.Test.YtfbdkjdockbfdabGQx7
import Derived.Test.YtfbdkjdockbfdabGQx4
import Derived.Test.YtfbdkjdockbfdabGQx8
import Derived.Test.YtfbdkjdockbfdabGQx10
namespace Go.Proofs.Ytfbdkjdockbfdab.Pure
open Go.RowKit Go.Proofs.YtfbdkjdockbfdabW.PrintWords Go.Proofs.Ytfbdkjdockbfdab.Gen Go.Proofs.Ytfbdkjdockbfdab.GQ Go.Proofs.Ytfbdkjdockbfdab.PuQueue
set_option linter.unusedVariables false
set_option linter.unusedSimpArgs false
theorem clone_q (xs : List T) (f : Int) (h : xs.length ≤ 1048576) : impl_Queue_clone.f xs f = some (xs, f) := by
  unfold impl_Queue_clone.f impl_Task.f
  simp only [Option.bind_some, List.length_nil, List.nil_append]
  rw [if_pos (by omega)]
  rfl
theorem copy_q (xs : List T) (f : Int) (h : xs.length ≤ 1048576) : spec_l11Copy.f xs f = some (xs, f) := by
  unfold spec_l11Copy.f
  simp only [Option.bind_some, List.length_nil, List.nil_append]
  rw [if_pos (by omega)]
theorem at_set (xs : List T) (i j : Nat) (y : T) (h : j < xs.length) : at_ (xs.set i y) j = if i = j then y else at_ xs j := by
  unfold at_ rd_T51
  simp only [Int.toNat_natCast, List.getD_eq_getElem?_getD, List.getElem?_set]
  by_cases c : i = j
  · subst c
    simp [h]
  · simp [c]
theorem mx_le (a b c : Int) (h1 : a ≤ c) (h2 : b ≤ c) : mx a b ≤ c := by unfold mx; split <;> omega
theorem le_mx1 (a b : Int) : a ≤ mx a b := by unfold mx; split <;> omega
theorem le_mx2 (a b : Int) : b ≤ mx a b := by unfold mx; split <;> omega
theorem share (w : Int) (h1 : 1 ≤ w) (h2 : w ≤ 6) : 0 ≤ Int.tdiv 60 w ∧ Int.tdiv 60 w ≤ 60 := by
  have : w = 1 ∨ w = 2 ∨ w = 3 ∨ w = 4 ∨ w = 5 ∨ w = 6 := by omega
  rcases this with rfl | rfl | rfl | rfl | rfl | rfl <;> decide
/-- A tick of a valid queue: both refuse it, or both give the same valid queue. -/
theorem tick_same (xs : List T) (f : Int) (ho : Ok xs f) :
    (∃ y g, ∀ k, 30 < k → spec_l11Tick.f k xs f = some (y, g, -1) ∧ impl_QueueTick.f k xs f = some ([], 0, -1, false)) ∨
    ∃ y g i, Ok y g ∧ 0 ≤ i ∧ ∀ k, 30 < k → spec_l11Tick.f k xs f = some (y, g, i) ∧ impl_QueueTick.f k xs f = some (y, g, i, true) := by
  have hl := ho.2.1
  obtain ⟨r, hb, hn⟩ := next_same xs f (by omega)
  have ok1 : ∀ k, 10 < k → impl_QueueOk.f k xs f = some true := fun k hk => by rw [impl_ok_loop xs f (by omega) k (by omega), decide_eq_true ho]
  rcases hb with ⟨e, ha⟩ | ⟨h0, h1, h2, h3⟩
  · refine .inl ⟨xs, f, fun k hk => ?_⟩
    obtain ⟨k, rfl⟩ : ∃ z, k = z + 1 := ⟨k - 1, by omega⟩
    unfold spec_l11Tick.f impl_QueueTick.f
    rw [(hn (k + 1) (by omega)).1, (hn (k + 1) (by omega)).2, ok1 (k + 1) (by omega)]
    simp only [Option.bind_some, if_true]
    rw [if_pos (by omega), if_pos (by omega)]
    simp only [impl_QueueTick.j0, if_true]
    exact ⟨trivial, trivial⟩
  · obtain ⟨b, rfl⟩ : ∃ b : Nat, r = (b : Int) := ⟨r.toNat, by omega⟩
    simp only [Int.toNat_natCast] at h2 h3
    have hbl : b < xs.length := by omega
    have hrd : rd_T51 xs (b : Int) = at_ xs b := rfl
    have ob := ho.1 b (by omega) hbl
    have hc := ob.2.2.1
    have hw1 := ob.2.1
    have hs := share (at_ xs b).f1 ob.2.1.1 ob.2.1.2
    have ww : wrap64 (Int.tdiv 60 (at_ xs b).f1) = Int.tdiv 60 (at_ xs b).f1 := wid (by omega) (by omega)
    have wc : wrap64 ((at_ xs b).f2 + Int.tdiv 60 (at_ xs b).f1) = (at_ xs b).f2 + Int.tdiv 60 (at_ xs b).f1 := wid (by omega) (by omega)
    by_cases c : (at_ xs b).f2 + Int.tdiv 60 (at_ xs b).f1 > 1000000
    · refine .inl ⟨xs, f, fun k hk => ?_⟩
      obtain ⟨k, rfl⟩ : ∃ z, k = z + 1 := ⟨k - 1, by omega⟩
      unfold spec_l11Tick.f impl_QueueTick.f
      rw [(hn (k + 1) (by omega)).1, (hn (k + 1) (by omega)).2, ok1 (k + 1) (by omega)]
      simp only [Option.bind_some, if_true, hrd, ww, wc]
      rw [if_neg (by omega), if_pos (by omega), if_pos (by omega), if_neg (by omega), if_pos c, if_neg (by omega), if_pos (by omega), if_pos (by omega), if_neg (by omega)]
      simp only [impl_QueueTick.j0, decide_eq_true c, if_true]
      exact ⟨trivial, trivial⟩
    · obtain ⟨y, hy⟩ : ∃ y : List T, y = xs.set b (⟨(at_ xs b).f0, (at_ xs b).f1, (at_ xs b).f2 + Int.tdiv 60 (at_ xs b).f1, (at_ xs b).f3⟩ : T) := ⟨_, rfl⟩
      have hyl : y.length = xs.length := by rw [hy, List.length_set]
      have hat : ∀ j, j < xs.length → at_ y j = if b = j then (⟨(at_ xs b).f0, (at_ xs b).f1, (at_ xs b).f2 + Int.tdiv 60 (at_ xs b).f1, (at_ xs b).f3⟩ : T) else at_ xs j := fun j hj => by rw [hy, at_set _ _ _ _ hj]
      obtain ⟨r2, hb2, hn2⟩ := next_same y f (by omega)
      rcases hb2 with ⟨e, ha⟩ | ⟨g0, g1, g2, g3⟩
      · have := ha b (by omega)
        rw [hat b hbl, if_pos rfl] at this
        simp only at this
        rw [h2] at this
        cases this
      · obtain ⟨q, rfl⟩ : ∃ q : Nat, r2 = (q : Int) := ⟨r2.toNat, by omega⟩
        simp only [Int.toNat_natCast] at g2 g3
        have hrq : rd_T51 y (q : Int) = at_ y q := rfl
        have hrb : rd_T51 y (b : Int) = at_ y b := rfl
        have hab : at_ y b = (⟨(at_ xs b).f0, (at_ xs b).f1, (at_ xs b).f2 + Int.tdiv 60 (at_ xs b).f1, (at_ xs b).f3⟩ : T) := by rw [hat b hbl, if_pos rfl]
        have hf0 : ∀ j, j < xs.length → (at_ y j).f0 = (at_ xs j).f0 := fun j hj => by
          rw [hat j hj]
          split
          · rename_i e; subst e; rfl
          · rfl
        have okj : ∀ j, j < xs.length → (0 ≤ (at_ y j).f2 ∧ (at_ y j).f2 ≤ 1000000) := fun j hj => by
          have oj := ho.1 j (by omega) hj
          rw [hat j hj]
          split
          · simp only
            have := ob.2.2.1
            omega
          · exact oj.2.2.1
        refine .inr ⟨y, mx f (at_ y q).f2, (at_ xs b).f0, ⟨fun j _ hj => ?_, by omega, ?_, ?_⟩, ob.1.1, fun k hk => ?_⟩
        · rw [hyl] at hj
          have oj := ho.1 j (by omega) hj
          refine ⟨by rw [hf0 j hj]; exact oj.1, ?_, okj j hj, fun h => by rw [hf0 j hj, hf0 (j - 1) (by omega)]; exact oj.2.2.2.1 h, fun hr => mx_le _ _ _ ?_ (g3 j (by omega) hr)⟩
          · rw [hat j hj]
            split
            · exact ob.2.1
            · exact oj.2.1
          · rw [hat j hj] at hr ⊢
            split
            · rename_i e
              simp only
              have := ob.2.2.2.2 h2
              omega
            · rename_i e
              rw [if_neg e] at hr
              exact oj.2.2.2.2 hr
        · exact Int.le_trans ho.2.2.1 (le_mx1 _ _)
        · exact mx_le _ _ _ ho.2.2.2 (okj q (by omega)).2
        · obtain ⟨k, rfl⟩ : ∃ z, k = z + 1 := ⟨k - 1, by omega⟩
          unfold spec_l11Tick.f impl_QueueTick.f
          rw [(hn (k + 1) (by omega)).1, (hn (k + 1) (by omega)).2, ok1 (k + 1) (by omega)]
          simp only [Option.bind_some, if_true, hrd, ww, wc]
          rw [if_neg (by omega), if_pos (by omega), if_pos (by omega), if_neg (by omega), if_neg c, if_neg (by omega), if_pos (by omega), if_pos (by omega), if_neg (by omega)]
          simp only [impl_QueueTick.j0, decide_eq_false c, Bool.false_eq_true, if_false]
          rw [clone_q xs f (by omega)]
          simp only [Option.bind_some, hrd, ww, wc, Int.toNat_natCast]
          rw [if_pos (by omega), if_pos (by omega), if_neg (by omega), ← hy, (hn2 (k + 1) (by omega)).1, (hn2 k (by omega)).2]
          simp only [Option.bind_some, hrq, hrb, hab]
          rw [if_pos (by omega), if_pos (by omega), if_pos (by omega), if_pos (by omega)]
          constructor <;> first | rfl | trivial
/-- The runs. -/
theorem run_loops : ∀ (d : Nat) (n i : Int) (acc : List Int) (xs : List T) (f : Int), i + d = n → 0 ≤ i → n ≤ 1000 → acc.length + d ≤ 2000 → Ok xs f →
    ∃ r1 r2 r3 b, r1.length ≤ 6 ∧ r3.length ≤ 2000 ∧ ∀ k, d + 40 < k → spec_QueueRun.l0 k n acc i xs f = some (r1, r2, r3, b) ∧ impl_QueueRun.l0 k acc n i xs f = some (r1, r2, r3, b) := by
  intro d
  induction d with
  | zero =>
    intro n i acc xs f hd h0 h1 ha ho
    refine ⟨xs, f, acc, true, ho.2.1, by omega, fun k hk => ?_⟩
    obtain ⟨k, rfl⟩ : ∃ z, k = z + 1 := ⟨k - 1, by omega⟩
    simp only [spec_QueueRun.l0, impl_QueueRun.l0]
    rw [if_neg (by omega), if_neg (by omega)]
    constructor <;> first | rfl | trivial
  | succ d ih =>
    intro n i acc xs f hd h0 h1 ha ho
    rcases tick_same xs f ho with ⟨y, g, ht⟩ | ⟨y, g, e, hy, he, ht⟩
    · refine ⟨[], 0, [], false, by simp, by simp, fun k hk => ?_⟩
      obtain ⟨k, rfl⟩ : ∃ z, k = z + 1 := ⟨k - 1, by omega⟩
      simp only [spec_QueueRun.l0, impl_QueueRun.l0]
      rw [if_pos (by omega), if_pos (by omega), (ht k (by omega)).1, (ht k (by omega)).2]
      simp only [Option.bind_some, Bool.false_eq_true, if_false]
      rw [if_pos (by omega)]
      constructor <;> first | rfl | trivial
    · obtain ⟨r1, r2, r3, b, q1, q3, hr⟩ := ih n (i + 1) (acc ++ [e]) y g (by omega) (by omega) h1 (by simp; omega) hy
      refine ⟨r1, r2, r3, b, q1, q3, fun k hk => ?_⟩
      obtain ⟨k, rfl⟩ : ∃ z, k = z + 1 := ⟨k - 1, by omega⟩
      simp only [spec_QueueRun.l0, impl_QueueRun.l0]
      rw [if_pos (by omega), if_pos (by omega), (ht k (by omega)).1, (ht k (by omega)).2]
      simp only [Option.bind_some, if_true]
      rw [if_neg (by omega), if_pos (by omega), wr (by omega) (by omega), if_pos (by omega)]
      exact hr k (by omega)
/-- Both answer the same. -/
theorem same (xs : List T) (f a : Int) (hn : xs.length ≤ 1048576) :
    ∃ r1 r2 r3 b, r1.length ≤ 1048576 ∧ r3.length ≤ 1048576 ∧ ∀ k, 1048700 < k → spec_QueueRun.f k xs f a = some (r1, r2, r3, b) ∧ impl_QueueRun.f k xs f a = some (r1, r2, r3, b) := by
  by_cases c0 : Ok xs f
  · by_cases c1 : 0 ≤ a ∧ a ≤ 1000
    · obtain ⟨r1, r2, r3, b, q1, q3, hr⟩ := run_loops a.toNat a 0 [] xs f (by omega) (by omega) c1.2 (by simp; omega) c0
      refine ⟨r1, r2, r3, b, by omega, by omega, fun k hk => ?_⟩
      obtain ⟨k, rfl⟩ : ∃ z, k = z + 1 := ⟨k - 1, by omega⟩
      unfold spec_QueueRun.f impl_QueueRun.f
      rw [spec_ok_loop xs f hn _ (by omega), impl_ok_loop xs f hn _ (by omega), l6_is, in_is]
      simp only [decide_eq_true c0, decide_eq_true c1, Option.bind_some, if_true, Bool.not_true, spec_QueueRun.j0, impl_QueueRun.j0, Bool.false_eq_true, if_false]
      rw [copy_q xs f hn, clone_q xs f hn]
      exact hr k (by omega)
    · refine ⟨[], 0, [], false, by simp, by simp, fun k hk => ?_⟩
      obtain ⟨k, rfl⟩ : ∃ z, k = z + 1 := ⟨k - 1, by omega⟩
      unfold spec_QueueRun.f impl_QueueRun.f
      rw [spec_ok_loop xs f hn _ (by omega), impl_ok_loop xs f hn _ (by omega), l6_is, in_is]
      simp only [decide_eq_true c0, decide_eq_false c1, Option.bind_some, if_true, Bool.not_false, spec_QueueRun.j0, impl_QueueRun.j0]
      exact ⟨trivial, trivial⟩
  · refine ⟨[], 0, [], false, by simp, by simp, fun k hk => ?_⟩
    obtain ⟨k, rfl⟩ : ∃ z, k = z + 1 := ⟨k - 1, by omega⟩
    unfold spec_QueueRun.f impl_QueueRun.f
    rw [spec_ok_loop xs f hn _ (by omega), impl_ok_loop xs f hn _ (by omega)]
    simp only [decide_eq_false c0, Option.bind_some, if_true, Bool.false_eq_true, if_false, spec_QueueRun.j0, impl_QueueRun.j0]
    exact ⟨trivial, trivial⟩
theorem eq_int (xs : List Int) (hn : xs.length ≤ 1048576) (k : Nat) (hk : 1048600 ≤ k) : laws_eqIntS.f k xs xs = some true := by
  unfold laws_eqIntS.f
  rw [if_pos rfl]
  exact eq_loop laws_eqIntS.l0 (fun a b => a = b) 0 (fun _ => rfl) (fun k xs ys i => by simp only [laws_eqIntS.l0]; rfl) xs (by omega) xs.length k 0 (by omega) (by omega)
theorem mark_int (xs : List Int) (m : Int) (h0 : 0 ≤ m) (h1 : m ≤ 10000000) (hn : xs.length ≤ 1048576) (k : Nat) (hk : 1048900 ≤ k) : laws_markIntS.f k xs m = some (m + xs.length, marks id m xs.length) := by
  unfold laws_markIntS.f
  have := mark_loop laws_markIntS.l0 (fun _ m => some m) id 100 100000000 (by omega) (fun _ _ _ _ _ => rfl) (fun k xs m i => by simp only [laws_markIntS.l0, Option.bind_some]) m xs.length h0 (by omega) xs.length k 0 xs rfl (by omega) (by omega) (fun j h => by omega)
  simpa using this
theorem held_int (n : Nat) (m : Int) (h0 : 0 ≤ m) (h1 : m ≤ 10000000) (hn : n ≤ 1048576) (k : Nat) (hk : 1048900 ≤ k) : laws_heldIntS.f k (marks id m n) m = some (m + n) := by
  unfold laws_heldIntS.f
  have := held_loop laws_heldIntS.l0 (fun _ m => some m) (fun a b => a = b) 0 (fun _ => rfl) id 100 100000000 (by omega) (fun _ _ _ _ _ => rfl) (fun k xs m i => by simp only [laws_heldIntS.l0, Option.bind_some]; rfl) m n h0 (by omega) n k 0 (by omega) (by omega)
  simpa using this
theorem FnExactQueueRun : laws_FnExactQueueRun.Pure := by
  intro p0 a1 hW _
  obtain ⟨⟨h0, hx⟩, _⟩ := hW
  obtain ⟨t, ht, hcase⟩ := sz_queue p0.f0 p0.f1 h0
  rcases hcase with hneg | ⟨hpos, g0⟩
  · refine ⟨1, ?_⟩
    unfold laws_FnExactQueueRun.f
    rw [ht]
    simp [hneg]
  · have gm : (p0.f0.map tk).length ≤ 1048576 := by simpa using g0
    obtain ⟨r1, r2, r3, b, q1, q3, hs⟩ := same (p0.f0.map tk) p0.f1 a1 gm
    refine ⟨1048900, ?_⟩
    have hnt : ¬ t < 0 := by omega
    have hb : (b != b) = false := by cases b <;> rfl
    have t1 := top_tasks r1 1 (by omega) (by omega) q1
    have t2 := top_tasks (p0.f0.map tk) 1 (by omega) (by omega) gm
    have n1 : ¬ (markL mkT r1 1).1 < 0 := by omega
    have n2 : ¬ (markL mkT (p0.f0.map tk) 1).1 < 0 := by omega
    have n3 : ¬ ((markL mkT r1 1).1 + (r3.length : Int)) < 0 := by omega
    unfold laws_FnExactQueueRun.f
    simp only [ht, to_queue _ _ g0 1048900 (by omega), (hs 1048900 (by omega)).1, (hs 1048900 (by omega)).2, eq_queue _ _ q1 1048900 (by omega), eq_queue _ _ gm 1048900 (by omega), eq_int _ q3 1048900 (by omega), mark_queue _ _ 1 (by omega) (by omega) gm 1048900 (by omega), mark_queue _ _ 1 (by omega) (by omega) q1 1048900 (by omega), held_queue _ _ 1 (by omega) (by omega) q1 1048900 (by omega), mark_int r3 (markL mkT r1 1).1 (by omega) (by omega) q3 1048900 (by omega), held_int r3.length (markL mkT r1 1).1 (by omega) (by omega) q3 1048900 (by omega), Option.bind_some, if_neg hnt, if_true, hb, Bool.false_eq_true, if_false, if_neg n1, if_neg n2, if_neg n3]
end Go.Proofs.Ytfbdkjdockbfdab.Pure
