-- Written by this session's program hp.py (over the kit's printer) and out of its own hand texts. Not trusted: Lean checks it.
import Derived.Test.YtpcohpkflkhfbaaProg
import Derived.Test.YtpcohpkflkhfbaaGSnxOpn
import Derived.Below
import Derived.Deep.Draws
import Derived.Deep.AppendLies
import Derived.Maps.AppendAt
import Derived.OwnWalk
import Derived.Laws.BytesArg
import Derived.Laws.MakeOwn
import Derived.Laws.OwnMore
import Derived.Deep.OwnRows
import Derived.Tactics
import Derived.Lib.ConvBytes
import Derived.Laws.Slices
import Derived.WalkKit
import Derived.KernelRfl
import Derived.RowKit3
import Derived.Deep.LoopGhost
import Derived.Deep.QuietTactic
import Derived.BigQuiet
import Derived.WideLaws
import Derived.Deep.DeepCutAuto
import Derived.Deep.CutBlock
import Derived.Deep.RegionHeld3
import Derived.Laws.Rows
import Derived.Lib.AppendStr
import Derived.ArgAppend
import Derived.Laws.IdiomCopy
import Derived.OrdersHeld
import Derived.Laws.BitsLemmas
import Derived.RowKit
import Derived.Lib.Hide
import Derived.Handy
import Derived.RegionTactic
import Derived.ChangeAlike
import Derived.Outline
import Derived.WalkSpells
import Derived.Test.YtpcohpkflkhfbaaGSnxw
namespace Go.Proofs.Ytpcohpkflkhfbaa.GSnx
open Go.RowKit Go.Proofs.YtpcohpkflkhfbaaW.PrintWords Go.Proofs.YtpcohpkflkhfbaaW.PrintLast Go.Proofs.YtpcohpkflkhfbaaW.PrintMore
attribute [local go_sem] max2_int min2_int max_two min_two max_three min_three max_four min_four   -- for this text's walks alone
set_option linter.unusedVariables false
set_option linter.unusedSimpArgs false



def errW : Option Int → Value
  | none => .nilIface
  | some c => .iface 0 (.int .i64 c)
theorem errW_none : errW none = .nilIface := rfl
theorem errW_some (c : Int) : errW (some c) = .iface 0 (.int .i64 c) := rfl

theorem setCell_swap (w : World) (p q : Addr) (x y : Value) (h : p.block ≠ q.block) : (w.setCell p x).setCell q y = (w.setCell q y).setCell p x := by
  unfold World.setCell
  simp only [World.mk.injEq, true_and, and_true]
  apply Array.ext_getElem?
  intro i
  simp only [Array.getElem?_modify]
  by_cases h1 : p.block = i <;> by_cases h2 : q.block = i <;> simp [h1, h2]
  exact absurd (h1.trans h2.symm) h
theorem setCell_swap_off (w : World) (g i j : Nat) (x y : Value) (h : i ≠ j) : (w.setCell ⟨g, i, none⟩ x).setCell ⟨g, j, none⟩ y = (w.setCell ⟨g, j, none⟩ y).setCell ⟨g, i, none⟩ x := by
  unfold World.setCell
  simp only [World.mk.injEq, true_and, and_true]
  apply Array.ext_getElem?
  intro k
  simp only [Array.getElem?_modify]
  by_cases h1 : g = k
  · simp only [h1, if_true, Option.map_map]
    congr 1
    funext o
    cases o <;> simp [Array.setIfInBounds_comm _ _ h]
  · simp [h1]
/-- What a world came to by new blocks and draws alone. -/
class Lf (w W : World) : Prop where
  b : Below w.heap.size w W
instance lf_0 (w : World) : Lf w w := ⟨Below.refl _ _⟩
instance lf_a (w W : World) (o : Obj) [h : Lf w W] : Lf w (W.alloc o) := ⟨below_alloc h.b o⟩
instance lf_d (w W : World) [h : Lf w W] : Lf w W.drew := ⟨below_drew1 h.b⟩
instance lf_n (w W : World) (n : Nat) [h : Lf w W] : Lf w (W.drewN n) := ⟨pw_below_drewN h.b n⟩
theorem lfK {w W : World} [l : Lf w W] {g : Nat} {o : Obj} (h : w.heap[g]? = some o) : W.heap[g]? = some o := blk_below h l.b
theorem lfB {w0 w W : World} [l : Lf w W] (h : Below w0.heap.size w0 w) : Below w0.heap.size w0 W := below_step h l.b
theorem lfR {α : Type} {d : Kd α} {e : TypeId} {w W : World} [l : Lf w W] {base : Nat} {ok : Nat → Prop} {v : Value} {xs : List α} (h : Kd.R d e w base ok v xs) : Kd.R d e W base ok v xs := Kd.R_below h l.b
theorem lfQ {α : Type} {d : Kd α} {e : TypeId} {w W : World} [l : Lf w W] {base : Nat} {ok : Nat → Prop} {v : Value} {xs : List α} (h : Kd.Q d e w base ok v xs) : Kd.Q d e W base ok v xs := Kd.Q_below h l.b
theorem lfS {α : Type} {d : Kd α} {e : TypeId} {w W : World} [l : Lf w W] {base : Nat} {ok : Nat → Prop} {v : Value} {xs : List α} (h : Kd.S d e w base ok v xs) : Kd.S d e W base ok v xs := Kd.S_below h l.b
theorem lfC {α : Type} {d : Kd α} {w W : World} [l : Lf w W] {A : Option Addr} {n : Nat} {xs : List α} (h : Kd.C d w A n xs) : Kd.C d W A n xs := Kd.C_below h l.b
/-- The marks of a region, as bits. -/
def mB (n m : Nat) : Array Bool := ((List.range n).map (fun i => m.testBit i)).toArray
section
variable {P : Program} {ops : Array Oper} {Q : Exit → Act → World → Prop} {md : Region.Mode} {S : World → Prop} {ds : List Nat}
/-- The steps that a region goes next: operation, destination, marks behind it. -/
def Plan (_n : Nat) (_ps : List (Nat × Nat × Nat)) (p : Prop) : Prop := p
theorem plan_ (n : Nat) (ps : List (Nat × Nat × Nat)) {p : Prop} (h : Plan n ps p) : p := h
theorem planE {n : Nat} {p : Prop} (h : p) : Plan n [] p := h
theorem puP {i N m n : Nat} {ps : List (Nat × Nat × Nat)} {oi : Oper} {v : Value} {fuel : Nat} {l : Array Bool} {a : Act} {w : World} {T : Bool × List (List Nat × List Nat)} (hi : ops[i]? = some oi) (hN : oi.dst = some N) (hT : rtab md ops = T) (hk : anyT T l.toList (mB n m).toList i = true := by kernel_rfl)
    (hQ : ∀ c a w, Q (.panic c) (a.put oi.dst v) w → Q (.panic c) a w := by exact fun _ _ _ h => h) (hw : Region.wanted oi (yielded ops a.tmps) = true := by rfl) (he : ∀ w, (execOp a.eval oi).run P w = .ok (.value v) w) {a' : Act} (ha : a.put (some N) v = a')
    (h : Plan n ps (wpAnyLast P md ops Q S ds fuel (mB n m) a' w)) : Plan n ((i, N, m) :: ps) (wpAnyLast P md ops Q S ds (fuel + 1) l a w) := pure_ (mB n m) hi hN (any_of hT hk) hQ (Or.inl ⟨hw, he⟩) ha h
theorem puQ {i N m n : Nat} {ps : List (Nat × Nat × Nat)} {oi : Oper} {fuel : Nat} {l : Array Bool} {a : Act} {w : World} {T : Bool × List (List Nat × List Nat)} (hi : ops[i]? = some oi) (hN : oi.dst = some N) (hT : rtab md ops = T) (hk : anyT T l.toList (mB n m).toList i = true := by kernel_rfl)
    (hQ : ∀ c a w, Q (.panic c) (a.put oi.dst undef) w → Q (.panic c) a w := by exact fun _ _ _ h => h) (hw : Region.wanted oi (yielded ops a.tmps) = false := by rfl) {a' : Act} (ha : a.put (some N) undef = a')
    (h : Plan n ps (wpAnyLast P md ops Q S ds fuel (mB n m) a' w)) : Plan n ((i, N, m) :: ps) (wpAnyLast P md ops Q S ds (fuel + 1) l a w) := pure_ (mB n m) hi hN (any_of hT hk) hQ (Or.inr ⟨hw, rfl⟩) ha h
end

theorem info3 : (Try.prog.info? 3).map (fun i => (i.zero, i.size, i.bytes)) = some (some (.int .i64 0), 1, 8) := by kernel_rfl
theorem info4 : (Try.prog.info? 4).map (fun i => (i.zero, i.size, i.bytes)) = some (some (.bool false), 1, 1) := by kernel_rfl
-- the values' own types
def rd_L2 (xs : List (List Bool)) (i : Int) : (List Bool) := xs.getD i.toNat ([] : List Bool)
theorem at_L2 {w : World} {A : Option Addr} {n : Nat} {xs : List (List Bool)} (h : Kd.C (Kd.slice 4 Kd.bool) w A n xs) (i : Int) (h0 : 0 ≤ i) (h1 : i < n) : ∃ ad A0 c0, A = some ad ∧ w.cell? (ad.add i.toNat) = some (.slice A0 (rd_L2 xs i).length c0) ∧ (rd_L2 xs i).length ≤ c0 ∧ Kd.bool.C w A0 (rd_L2 xs i).length (rd_L2 xs i) := by
  obtain ⟨ad, c, e, _, hK, hc0⟩ := Kd.C_get h ([] : List Bool) i h0 h1
  have hc : ∀ j u, c[j]? = some u → w.cell? (ad.add (i.toNat * 1 + j)) = some u := hc0
  obtain ⟨A0, c0, rfl, l0, g0⟩ := hK
  exact ⟨ad, A0, c0, e, by have hq := hc 0 _ rfl; rwa [Nat.mul_one, Nat.add_zero] at hq, l0, g0⟩

def rd_L3 (xs : List (List Int)) (i : Int) : (List Int) := xs.getD i.toNat ([] : List Int)
theorem at_L3 {w : World} {A : Option Addr} {n : Nat} {xs : List (List Int)} (h : Kd.C (Kd.slice 3 (Kd.int .i64)) w A n xs) (i : Int) (h0 : 0 ≤ i) (h1 : i < n) : ∃ ad A0 c0, A = some ad ∧ w.cell? (ad.add i.toNat) = some (.slice A0 (rd_L3 xs i).length c0) ∧ (rd_L3 xs i).length ≤ c0 ∧ (Kd.int .i64).C w A0 (rd_L3 xs i).length (rd_L3 xs i) := by
  obtain ⟨ad, c, e, _, hK, hc0⟩ := Kd.C_get h ([] : List Int) i h0 h1
  have hc : ∀ j u, c[j]? = some u → w.cell? (ad.add (i.toNat * 1 + j)) = some u := hc0
  obtain ⟨A0, c0, rfl, l0, g0⟩ := hK
  exact ⟨ad, A0, c0, e, by have hq := hc 0 _ rfl; rwa [Nat.mul_one, Nat.add_zero] at hq, l0, g0⟩

/-! #### struct type 25 -/
structure S25 where
  f0 : (List Bool)
  f1 : (List Bool)
  f2 : (List Int)
def z25 : S25 := ⟨([] : List Bool), ([] : List Bool), ([] : List Int)⟩
def k25 : Kd S25 := Kd.iso (Kd.pair (Kd.slice 4 Kd.bool) (Kd.pair (Kd.slice 4 Kd.bool) (Kd.slice 3 (Kd.int .i64)))) (fun x : S25 => (x.f0, x.f1, x.f2))
theorem k25_open {w : World} {x : S25} {cs : List Value} (h : k25.K w x cs) : ∃ A0 c0 A1 c1 A2 c2, cs = [.slice A0 x.f0.length c0, .slice A1 x.f1.length c1, .slice A2 x.f2.length c2] ∧ x.f0.length ≤ c0 ∧ Kd.bool.C w A0 x.f0.length x.f0 ∧ x.f1.length ≤ c1 ∧ Kd.bool.C w A1 x.f1.length x.f1 ∧ x.f2.length ≤ c2 ∧ (Kd.int .i64).C w A2 x.f2.length x.f2 := by
  obtain ⟨_, _, rfl, ⟨A0, c0, rfl, l0, g0⟩, ⟨_, _, rfl, ⟨A1, c1, rfl, l1, g1⟩, ⟨A2, c2, rfl, l2, g2⟩⟩⟩ := h
  exact ⟨A0, c0, A1, c1, A2, c2, rfl, l0, g0, l1, g1, l2, g2⟩
theorem k25_openM {w : World} {base : Nat} {ok : Nat → Prop} {x : S25} {cs : List Value} (h : k25.M w base ok x cs) : ∃ v0 v1 v2, cs = [v0, v1, v2] ∧ Kd.bool.R 4 w base ok v0 x.f0 ∧ Kd.bool.R 4 w base ok v1 x.f1 ∧ (Kd.int .i64).R 3 w base ok v2 x.f2 := by
  obtain ⟨_, _, rfl, ⟨v0, rfl, g0⟩, ⟨_, _, rfl, ⟨v1, rfl, g1⟩, ⟨v2, rfl, g2⟩⟩⟩ := h
  exact ⟨v0, v1, v2, rfl, g0, g1, g2⟩
theorem k25_mk (w : World) (x : S25) {A0 : Option Addr} {c0 : Nat} (l0 : x.f0.length ≤ c0) (g0 : Kd.bool.C w A0 x.f0.length x.f0) {A1 : Option Addr} {c1 : Nat} (l1 : x.f1.length ≤ c1) (g1 : Kd.bool.C w A1 x.f1.length x.f1) {A2 : Option Addr} {c2 : Nat} (l2 : x.f2.length ≤ c2) (g2 : (Kd.int .i64).C w A2 x.f2.length x.f2) : k25.K w x [.slice A0 x.f0.length c0, .slice A1 x.f1.length c1, .slice A2 x.f2.length c2] := ⟨[.slice A0 x.f0.length c0], [.slice A1 x.f1.length c1, .slice A2 x.f2.length c2], rfl, ⟨A0, c0, rfl, l0, g0⟩, ⟨[.slice A1 x.f1.length c1], [.slice A2 x.f2.length c2], rfl, ⟨A1, c1, rfl, l1, g1⟩, ⟨A2, c2, rfl, l2, g2⟩⟩⟩
theorem k25_mkM (w : World) (base : Nat) (ok : Nat → Prop) (x : S25) {v0 : Value} (g0 : Kd.bool.R 4 w base ok v0 x.f0) {v1 : Value} (g1 : Kd.bool.R 4 w base ok v1 x.f1) {v2 : Value} (g2 : (Kd.int .i64).R 3 w base ok v2 x.f2) : k25.M w base ok x [v0, v1, v2] := ⟨[v0], [v1, v2], rfl, ⟨v0, rfl, g0⟩, ⟨[v1], [v2], rfl, ⟨v1, rfl, g1⟩, ⟨v2, rfl, g2⟩⟩⟩
def rd_T25 (xs : List S25) (i : Int) : S25 := xs.getD i.toNat z25
theorem at_T25 {w : World} {A : Option Addr} {n : Nat} {xs : List S25} (h : Kd.C k25 w A n xs) (i : Int) (h0 : 0 ≤ i) (h1 : i < n) : ∃ ad A0 c0 A1 c1 A2 c2, A = some ad ∧ w.cell? (ad.add (i.toNat * 3)) = some (.slice A0 (rd_T25 xs i).f0.length c0) ∧ w.cell? ⟨(ad.add (i.toNat * 3)).block, (ad.add (i.toNat * 3)).off + 1, none⟩ = some (.slice A1 (rd_T25 xs i).f1.length c1) ∧ w.cell? ⟨(ad.add (i.toNat * 3)).block, (ad.add (i.toNat * 3)).off + 2, none⟩ = some (.slice A2 (rd_T25 xs i).f2.length c2) ∧ (rd_T25 xs i).f0.length ≤ c0 ∧ Kd.bool.C w A0 (rd_T25 xs i).f0.length (rd_T25 xs i).f0 ∧ (rd_T25 xs i).f1.length ≤ c1 ∧ Kd.bool.C w A1 (rd_T25 xs i).f1.length (rd_T25 xs i).f1 ∧ (rd_T25 xs i).f2.length ≤ c2 ∧ (Kd.int .i64).C w A2 (rd_T25 xs i).f2.length (rd_T25 xs i).f2 := by
  obtain ⟨ad, c, e, _, hK, hc0⟩ := Kd.C_get h z25 i h0 h1
  have hc : ∀ j u, c[j]? = some u → w.cell? (ad.add (i.toNat * 3 + j)) = some u := hc0
  obtain ⟨A0, c0, A1, c1, A2, c2, rfl, l0, g0, l1, g1, l2, g2⟩ := k25_open hK
  exact ⟨ad, A0, c0, A1, c1, A2, c2, e, hc 0 _ rfl, by rw [← add_field _ _ 1 (by omega)]; exact hc 1 _ rfl, by rw [← add_field _ _ 2 (by omega)]; exact hc 2 _ rfl, l0, g0, l1, g1, l2, g2⟩

def W25 (x : S25) : Prop := (x.f0.length ≤ 9223372036854775807 ∧ ∀ y0 ∈ x.f0, True) ∧ (x.f1.length ≤ 9223372036854775807 ∧ ∀ y0 ∈ x.f1, True) ∧ (x.f2.length ≤ 9223372036854775807 ∧ ∀ y0 ∈ x.f2, (Lit.int .i64 y0).wf = true)
theorem opn25 {H : Type} {enc : TypeId × Value → H} {w : World} : Opn.Opn enc Try.prog w 25 k25 W25 := by
  intro fuel cs x h
  obtain ⟨xs, n, _, _, hlen, hxs, hf⟩ := DataW.trod_struct Try.underlying25 h
  have hl : cs.length = 3 := hlen.trans (by kernel_rfl)
  have e0 : DataW.trod enc Try.prog w 0 (fun _ => true) true n 22 ((cs.drop 0).take (Try.prog.cellsOf 22)) = xs[0]? := hf 0 _ rfl
  rw [(by kernel_rfl : Try.prog.cellsOf 22 = 1), List.getElem?_eq_getElem (show 0 < xs.length by rw [hxs]; decide)] at e0
  obtain ⟨a0, h0, w0⟩ := (Opn.opn_slice Try.underlying22 (by kernel_rfl : Try.prog.cellsOf 4 = 1) (Opn.opn_bool Try.underlying4) : Opn.Opn enc Try.prog w 22 (Kd.slice 4 Kd.bool) _) _ _ _ e0
  have e1 : DataW.trod enc Try.prog w 0 (fun _ => true) true n 22 ((cs.drop 1).take (Try.prog.cellsOf 22)) = xs[1]? := hf 1 _ rfl
  rw [(by kernel_rfl : Try.prog.cellsOf 22 = 1), List.getElem?_eq_getElem (show 1 < xs.length by rw [hxs]; decide)] at e1
  obtain ⟨a1, h1, w1⟩ := (Opn.opn_slice Try.underlying22 (by kernel_rfl : Try.prog.cellsOf 4 = 1) (Opn.opn_bool Try.underlying4) : Opn.Opn enc Try.prog w 22 (Kd.slice 4 Kd.bool) _) _ _ _ e1
  have e2 : DataW.trod enc Try.prog w 0 (fun _ => true) true n 23 ((cs.drop 2).take (Try.prog.cellsOf 23)) = xs[2]? := hf 2 _ rfl
  rw [(by kernel_rfl : Try.prog.cellsOf 23 = 1), List.getElem?_eq_getElem (show 2 < xs.length by rw [hxs]; decide)] at e2
  obtain ⟨a2, h2, w2⟩ := (Opn.opn_slice Try.underlying23 (by kernel_rfl : Try.prog.cellsOf 3 = 1) (Opn.opn_int Try.underlying3) : Opn.Opn enc Try.prog w 23 (Kd.slice 3 (Kd.int .i64)) _) _ _ _ e2
  refine ⟨⟨a0, a1, a2⟩, ?_, w0, w1, w2⟩
  rw [Opn.last cs 2 1 (by omega)] at h2
  exact Opn.isoK _ _ _ _ (Opn.pairK _ _ _ _ _ _ (Opn.cut cs 0 1 1 rfl) h0 (Opn.pairK _ _ _ _ _ _ (Opn.cut cs 1 1 2 rfl) h1 h2))
end Go.Proofs.Ytpcohpkflkhfbaa.GSnx
