/- What the functions of this seat compute, each as a plain function on lists and numbers, with the proof that a call answers so. No condition. -/
import Derived.Test.YtfbdkjdockbfdaaProg
import Derived.KernelRfl
import Derived.Test.YtfbdkjdockbfdaaRxK3
namespace Go.Proofs.Ytfbdkjdockbfdaa.Rx.S
open Go Go.RowKit Go.Proofs
def tbl : List (TypeId × TI) := [
(2, ⟨.int .i64, 1, 8, [.int .i64], some (.int .i64), false⟩),
(3, ⟨.int .i64, 1, 8, [.int .i64], some (.int .i64), false⟩),
(4, ⟨.bool, 1, 1, [.bool], some .bool, false⟩),
(5, ⟨.int .u8, 1, 1, [.int .u8], some (.int .u8), false⟩),
(6, ⟨.int .u8, 1, 1, [.int .u8], some (.int .u8), false⟩),
(7, ⟨.struct [(0, 1), (1, 1), (2, 1), (3, 1)], 4, 24, [.int .i64, .int .i64, .bool, .int .u8], some (.pair (.int .i64) (.pair (.int .i64) (.pair .bool (.int .u8)))), true⟩),
(8, ⟨.struct [(0, 1), (1, 1), (2, 1), (3, 1)], 4, 24, [.int .i64, .int .i64, .bool, .int .u8], some (.pair (.int .i64) (.pair (.int .i64) (.pair .bool (.int .u8)))), true⟩),
(9, ⟨.str, 1, 16, [.str], some .str, false⟩),
(10, ⟨.str, 1, 16, [.str], some .str, false⟩),
(11, ⟨.str, 1, 16, [.str], some .str, false⟩),
(12, ⟨.int .u64, 1, 8, [.int .u64], some (.int .u64), false⟩),
(13, ⟨.struct [(0, 1), (1, 1)], 2, 24, [.str, .int .u64], some (.pair .str (.int .u64)), false⟩),
(14, ⟨.struct [(0, 1), (1, 1)], 2, 24, [.str, .int .u64], some (.pair .str (.int .u64)), false⟩),
(15, ⟨.ptr, 1, 8, [.ptr], none, false⟩),
(16, ⟨.ptr, 1, 8, [.ptr], none, false⟩),
(17, ⟨.ptr, 1, 8, [.ptr], none, false⟩),
(18, ⟨.struct [(0, 1)], 1, 8, [.ptr], none, false⟩),
(19, ⟨.struct [(0, 1)], 1, 8, [.ptr], none, false⟩),
(21, ⟨.int .i32, 1, 4, [.int .i32], some (.int .i32), false⟩),
(22, ⟨.slice 5, 1, 24, [.slice], some (.row 5 (.int .u8)), false⟩),
(23, ⟨.slice 4, 1, 24, [.slice], some (.row 4 .bool), false⟩),
(24, ⟨.slice 3, 1, 24, [.slice], some (.row 3 (.int .i64)), false⟩),
(25, ⟨.struct [(0, 1), (1, 1), (2, 1)], 3, 72, [.slice, .slice, .slice], some (.pair (.row 4 .bool) (.pair (.row 4 .bool) (.row 3 (.int .i64)))), false⟩),
(26, ⟨.struct [(0, 1), (1, 1), (2, 1)], 3, 72, [.slice, .slice, .slice], some (.pair (.row 4 .bool) (.pair (.row 4 .bool) (.row 3 (.int .i64)))), false⟩),
(36, ⟨.slice 9, 1, 24, [.slice], some (.row 9 .str), false⟩),
(37, ⟨.struct [(0, 1), (1, 1)], 2, 48, [.slice, .slice], some (.pair (.row 9 .str) (.row 3 (.int .i64))), false⟩),
(38, ⟨.struct [(0, 1), (1, 1)], 2, 48, [.slice, .slice], some (.pair (.row 9 .str) (.row 3 (.int .i64))), false⟩),
(40, ⟨.struct [(0, 1), (1, 1)], 2, 48, [.slice, .slice], some (.pair (.row 9 .str) (.row 3 (.int .i64))), false⟩),
(52, ⟨.slice 63, 1, 24, [.slice], some (.row 63 (.pair (.int .i64) (.pair (.int .i64) (.pair (.int .i64) .bool)))), false⟩),
(53, ⟨.struct [(0, 1), (1, 1)], 2, 32, [.slice, .int .i64], some (.pair (.row 63 (.pair (.int .i64) (.pair (.int .i64) (.pair (.int .i64) .bool)))) (.int .i64)), false⟩),
(54, ⟨.struct [(0, 1), (1, 1)], 2, 32, [.slice, .int .i64], some (.pair (.row 63 (.pair (.int .i64) (.pair (.int .i64) (.pair (.int .i64) .bool)))) (.int .i64)), false⟩),
(62, ⟨.struct [(0, 1), (1, 1), (2, 1), (3, 1)], 4, 32, [.int .i64, .int .i64, .int .i64, .bool], some (.pair (.int .i64) (.pair (.int .i64) (.pair (.int .i64) .bool))), true⟩),
(63, ⟨.struct [(0, 1), (1, 1), (2, 1), (3, 1)], 4, 32, [.int .i64, .int .i64, .int .i64, .bool], some (.pair (.int .i64) (.pair (.int .i64) (.pair (.int .i64) .bool))), true⟩),
(66, ⟨.slice 135, 1, 24, [.slice], some (.row 135 (.pair (.int .i64) (.pair .str (.pair (.int .i64) (.pair .str (.pair .bool (.row 3 (.int .i64)))))))), false⟩),
(67, ⟨.struct [(0, 1)], 1, 24, [.slice], some (.row 135 (.pair (.int .i64) (.pair .str (.pair (.int .i64) (.pair .str (.pair .bool (.row 3 (.int .i64)))))))), false⟩),
(68, ⟨.struct [(0, 1)], 1, 24, [.slice], some (.row 135 (.pair (.int .i64) (.pair .str (.pair (.int .i64) (.pair .str (.pair .bool (.row 3 (.int .i64)))))))), false⟩),
(71, ⟨.slice 119, 1, 24, [.slice], some (.row 119 (.pair (.int .i64) (.pair .str (.pair (.int .i64) (.pair .str (.pair .bool (.row 3 (.int .i64)))))))), false⟩),
(72, ⟨.struct [(0, 1)], 1, 24, [.slice], some (.row 119 (.pair (.int .i64) (.pair .str (.pair (.int .i64) (.pair .str (.pair .bool (.row 3 (.int .i64)))))))), false⟩),
(73, ⟨.struct [(0, 1)], 1, 24, [.slice], some (.row 119 (.pair (.int .i64) (.pair .str (.pair (.int .i64) (.pair .str (.pair .bool (.row 3 (.int .i64)))))))), false⟩),
(77, ⟨.ptr, 1, 8, [.ptr], none, false⟩),
(113, ⟨.ptr, 1, 8, [.ptr], none, false⟩),
(118, ⟨.struct [(0, 1), (1, 1), (2, 1), (3, 1), (4, 1), (5, 1)], 6, 80, [.int .i64, .str, .int .i64, .str, .bool, .slice], some (.pair (.int .i64) (.pair .str (.pair (.int .i64) (.pair .str (.pair .bool (.row 3 (.int .i64))))))), false⟩),
(119, ⟨.struct [(0, 1), (1, 1), (2, 1), (3, 1), (4, 1), (5, 1)], 6, 80, [.int .i64, .str, .int .i64, .str, .bool, .slice], some (.pair (.int .i64) (.pair .str (.pair (.int .i64) (.pair .str (.pair .bool (.row 3 (.int .i64))))))), false⟩),
(122, ⟨.struct [(0, 1), (1, 1)], 2, 32, [.slice, .int .i64], some (.pair (.row 5 (.int .u8)) (.int .i64)), false⟩),
(123, ⟨.struct [(0, 1), (1, 1)], 2, 32, [.slice, .int .i64], some (.pair (.row 5 (.int .u8)) (.int .i64)), false⟩),
(126, ⟨.ptr, 1, 8, [.ptr], none, false⟩),
(135, ⟨.struct [(0, 1), (1, 1), (2, 1), (3, 1), (4, 1), (5, 1)], 6, 80, [.int .i64, .str, .int .i64, .str, .bool, .slice], some (.pair (.int .i64) (.pair .str (.pair (.int .i64) (.pair .str (.pair .bool (.row 3 (.int .i64))))))), false⟩),
(145, ⟨.struct [(0, 1), (1, 1), (2, 1), (3, 1)], 4, 40, [.ptr, .ptr, .ptr, .str], none, false⟩),
(146, ⟨.struct [(0, 1), (1, 1), (2, 1), (3, 1)], 4, 40, [.ptr, .ptr, .ptr, .str], none, false⟩),
(148, ⟨.struct [(0, 0)], 0, 0, [], none, false⟩),
(149, ⟨.struct [(0, 0)], 0, 0, [], none, false⟩),
(150, ⟨.int .u32, 1, 4, [.int .u32], some (.int .u32), false⟩),
(151, ⟨.int .u8, 1, 1, [.int .u8], some (.int .u8), false⟩),
(152, ⟨.int .u8, 1, 1, [.int .u8], some (.int .u8), false⟩),
(154, ⟨.ptr, 1, 8, [.ptr], none, false⟩),
(155, ⟨.int .i32, 1, 4, [.int .i32], some (.int .i32), false⟩),
(156, ⟨.int .i32, 1, 4, [.int .i32], some (.int .i32), false⟩),
(159, ⟨.other, 1, 8, [.ptr], none, false⟩)]

def TT : TB := tbOf tbl
theorem tt_ok : TBok Try.prog TT := tbOk (by decide +kernel)
abbrev i64 : Ty := .int .i64
abbrev tTh : Ty := .pair i64 (.pair i64 (.pair i64 .bool))
abbrev tRd : Ty := .pair (.row 5 (.int .u8)) i64
abbrev tSg : Ty := .pair (.row 4 .bool) (.pair (.row 4 .bool) (.row 3 i64))
abbrev tQu : Ty := .pair (.row 63 tTh) i64
theorem mixed : Try.prog.follows .mixedOrders = true := by kernel_rfl
end Go.Proofs.Ytfbdkjdockbfdaa.Rx.S
namespace Go.Proofs.Ytfbdkjdockbfdaa.Rx.S
open Go Go.RowKit Go.Proofs
set_option maxRecDepth 100000
noncomputable def c38 : Code := (Try.f38.body.getD .skip)
def an38 : An := ⟨fun _ => ⟨[], []⟩, fun _ _ => none⟩
abbrev ps38 : List PK := [.val (.row 5 (.int .u8)) false]
abbrev rs38 : List RK := [.bx tRd]
abbrev R38 := retsD rs38 × outsD ps38
noncomputable def G38 : Gam := fun _ => none
theorem h0_38 (hg : GamOK Try.prog G38) : Holds Try.prog 38 ⟨ps38, rs38, true, runF TT G38 an38 Try.f38 c38 ps38 rs38⟩ := holds_of tt_ok hg mixed Try.func38 (by kernel_rfl) (by rfl) (by decide +kernel)
noncomputable def at38 : Nat → Pt → List Nat → St → Option R38 := atF TT G38 an38 Try.f38 c38 _ _
noncomputable def st38_top (n : Nat)  (a : List Int) : Option R38 :=
  cond (decide ((2000 : Int) < (↑a.length : Int))) (cond (decide ((2000 : Int) ≤ (↑a.length : Int))) (some (((List.take (Int.toNat (2000 : Int)) a, (0 : Int)), ()), ())) (none)) (some (((a, (0 : Int)), ()), ()))
theorem e38_top (n : Nat) (a : List Int) : runF TT G38 an38 Try.f38 c38 ps38 rs38 n (a, ()) = st38_top n  a := by kernel_rfl
noncomputable def p38 (n : Nat) (a : List Int) : Option R38 := st38_top n  a
theorem F38_eq (n : Nat) (a : List Int) : runF TT G38 an38 Try.f38 c38 ps38 rs38 n (a, ()) = p38 n a := by
  rw [e38_top]
  skip
  try rfl
noncomputable def q38 (n : Nat) (x : argsD ps38) : Option R38 := p38 n x.1
noncomputable def Sm38 : Sm := ⟨ps38, rs38, true, q38⟩
theorem holds38 (hg : GamOK Try.prog G38) : Holds Try.prog 38 Sm38 := by
  have := h0_38 hg
  have e : (runF TT G38 an38 Try.f38 c38 ps38 rs38) = q38 := by
    funext n x
    exact F38_eq n x.1
  rw [e] at this
  exact this
theorem gam38 : GamOK Try.prog G38 := fun _ _ h => by cases h
theorem hh38 : Holds Try.prog 38 Sm38 := holds38 gam38
end Go.Proofs.Ytfbdkjdockbfdaa.Rx.S
namespace Go.Proofs.Ytfbdkjdockbfdaa.Rx.S
open Go Go.RowKit Go.Proofs
set_option maxRecDepth 100000
noncomputable def c40 : Code := (Try.f40.body.getD .skip)
def an40 : An := ⟨fun _ => ⟨[], []⟩, fun _ _ => none⟩
abbrev ps40 : List PK := [.bx tRd, .val i64 false]
abbrev rs40 : List RK := [.val i64 false]
abbrev R40 := retsD rs40 × outsD ps40
noncomputable def G40 : Gam := fun _ => none
theorem h0_40 (hg : GamOK Try.prog G40) : Holds Try.prog 40 ⟨ps40, rs40, true, runF TT G40 an40 Try.f40 c40 ps40 rs40⟩ := holds_of tt_ok hg mixed Try.func40 (by kernel_rfl) (by rfl) (by decide +kernel)
noncomputable def at40 : Nat → Pt → List Nat → St → Option R40 := atF TT G40 an40 Try.f40 c40 _ _
noncomputable def st40_top (n : Nat)  (a : List Int × Int) (b : Int) : Option R40 :=
  cond (decide (b < (1 : Int))) (some (((0 : Int), ()), ((a.fst, Go.IntKind.i64.wrap (a.snd + (1 : Int))), ()))) (cond (decide ((↑(List.length a.fst) : Int) = (0 : Int))) (some (((0 : Int), ()), ((a.fst, Go.IntKind.i64.wrap (a.snd + (1 : Int))), ()))) (cond (decide (Go.IntKind.i64.wrap (Go.IntKind.i64.wrap (a.snd + (1 : Int)) - (1 : Int)) < (↑(List.length a.fst) : Int))) (cond (decide ((0 : Int) ≤ Go.IntKind.i64.wrap (Go.IntKind.i64.wrap (a.snd + (1 : Int)) - (1 : Int)))) (cond (decide (Go.IntKind.i64.wrap (Go.IntKind.i64.wrap (a.snd + (1 : Int)) - (1 : Int)) < (↑(List.length a.fst) : Int))) (cond (!decide (b = (0 : Int))) (some (((Go.IntKind.i64.wrap       (List.getD a.fst (Go.IntKind.i64.wrap (Go.IntKind.i64.wrap (a.snd + (1 : Int)) - (1 : Int))).toNat         (0 : Int))).tmod   b, ()), ((a.fst, Go.IntKind.i64.wrap (a.snd + (1 : Int))), ()))) (none)) (none)) (none)) (cond (!decide ((↑(List.length a.fst) : Int) = (0 : Int))) (cond (decide   ((0 : Int) ≤     (Go.IntKind.i64.wrap (Go.IntKind.i64.wrap (a.snd + (1 : Int)) - (1 : Int))).tmod (↑(List.length a.fst) : Int))) (cond (decide   ((Go.IntKind.i64.wrap (Go.IntKind.i64.wrap (a.snd + (1 : Int)) - (1 : Int))).tmod (↑(List.length a.fst) : Int) <     (↑(List.length a.fst) : Int))) (cond (!decide ((↑(List.length a.fst) : Int) = (0 : Int))) (cond (decide   ((0 : Int) ≤     (Go.IntKind.i64.wrap           (Go.IntKind.i64.wrap (Go.IntKind.i64.wrap (Go.IntKind.i64.wrap (a.snd + (1 : Int)) - (1 : Int)) * (7 : Int)) +             (3 : Int))).tmod       (↑(List.length a.fst) : Int))) (cond (decide   ((Go.IntKind.i64.wrap           (Go.IntKind.i64.wrap (Go.IntKind.i64.wrap (Go.IntKind.i64.wrap (a.snd + (1 : Int)) - (1 : Int)) * (7 : Int)) +             (3 : Int))).tmod       (↑(List.length a.fst) : Int) <     (↑(List.length a.fst) : Int))) (cond (!decide ((↑(List.length a.fst) : Int) = (0 : Int))) (cond (!decide (b = (0 : Int))) (some (((Go.IntKind.i64.wrap       (↑(BitVec.ofInt Go.IntKind.i64.bits                 (Go.IntKind.i64.wrap                   (Go.IntKind.i64.wrap                       (Go.IntKind.i64.wrap                           (Go.IntKind.i64.wrap                               (Go.IntKind.i64.wrap                                   (List.getD a.fst                                     ((Go.IntKind.i64.wrap (Go.IntKind.i64.wrap (a.snd + (1 : Int)) - (1 : Int))).tmod                                         (↑(List.length a.fst) : Int)).toNat                                     (0 : Int)) *                                 (131 : Int)) +                             Go.IntKind.i64.wrap                               (Go.IntKind.i64.wrap                                   (List.getD a.fst                                     ((Go.IntKind.i64.wrap                                             (Go.IntKind.i64.wrap                                                 (Go.IntKind.i64.wrap                                                     (Go.IntKind.i64.wrap (a.snd + (1 : Int)) - (1 : Int)) *                                                   (7 : Int)) +                                               (3 : Int))).tmod                                         (↑(List.length a.fst) : Int)).toNat                                     (0 : Int)) *                                 (1117 : Int))) +                         Go.IntKind.i64.wrap                           (Go.IntKind.i64.wrap (Go.IntKind.i64.wrap (a.snd + (1 : Int)) - (1 : Int)) * (29 : Int))) +                     Go.IntKind.i64.wrap                       (Go.IntKind.i64.wrap                           ((Go.IntKind.i64.wrap (Go.IntKind.i64.wrap (a.snd + (1 : Int)) - (1 : Int))).tdiv                             (↑(List.length a.fst) : Int)) *                         (53 : Int)))) ^^^               BitVec.ofInt Go.IntKind.i64.bits                 (Go.IntKind.i64.wrap                   ((Go.IntKind.i64.wrap                         (Go.IntKind.i64.wrap                             (Go.IntKind.i64.wrap                                 (Go.IntKind.i64.wrap                                     (Go.IntKind.i64.wrap                                         (List.getD a.fst                                           ((Go.IntKind.i64.wrap                                                   (Go.IntKind.i64.wrap (a.snd + (1 : Int)) - (1 : Int))).tmod                                               (↑(List.length a.fst) : Int)).toNat                                           (0 : Int)) *                                       (131 : Int)) +                                   Go.IntKind.i64.wrap                                     (Go.IntKind.i64.wrap                                         (List.getD a.fst                                           ((Go.IntKind.i64.wrap                                                   (Go.IntKind.i64.wrap                                                       (Go.IntKind.i64.wrap                                                           (Go.IntKind.i64.wrap (a.snd + (1 : Int)) - (1 : Int)) *                                                         (7 : Int)) +                                                     (3 : Int))).tmod                                               (↑(List.length a.fst) : Int)).toNat                                           (0 : Int)) *                                       (1117 : Int))) +                               Go.IntKind.i64.wrap                                 (Go.IntKind.i64.wrap (Go.IntKind.i64.wrap (a.snd + (1 : Int)) - (1 : Int)) *                                   (29 : Int))) +                           Go.IntKind.i64.wrap                             (Go.IntKind.i64.wrap                                 ((Go.IntKind.i64.wrap (Go.IntKind.i64.wrap (a.snd + (1 : Int)) - (1 : Int))).tdiv                                   (↑(List.length a.fst) : Int)) *                               (53 : Int)))).tdiv                     (64 : Int)))).toNat :         Int)).tmod   b, ()), ((a.fst, Go.IntKind.i64.wrap (a.snd + (1 : Int))), ()))) (none)) (none)) (none)) (none)) (none)) (none)) (none)) (none))))
theorem e40_top (n : Nat) (a : List Int × Int) (b : Int) : runF TT G40 an40 Try.f40 c40 ps40 rs40 n (a, b, ()) = st40_top n  a b := by kernel_rfl
noncomputable def p40 (n : Nat) (a : List Int × Int) (b : Int) : Option R40 := st40_top n  a b
theorem F40_eq (n : Nat) (a : List Int × Int) (b : Int) : runF TT G40 an40 Try.f40 c40 ps40 rs40 n (a, b, ()) = p40 n a b := by
  rw [e40_top]
  skip
  try rfl
noncomputable def q40 (n : Nat) (x : argsD ps40) : Option R40 := p40 n x.1 x.2.1
noncomputable def Sm40 : Sm := ⟨ps40, rs40, true, q40⟩
theorem holds40 (hg : GamOK Try.prog G40) : Holds Try.prog 40 Sm40 := by
  have := h0_40 hg
  have e : (runF TT G40 an40 Try.f40 c40 ps40 rs40) = q40 := by
    funext n x
    exact F40_eq n x.1 x.2.1
  rw [e] at this
  exact this
theorem gam40 : GamOK Try.prog G40 := fun _ _ h => by cases h
theorem hh40 : Holds Try.prog 40 Sm40 := holds40 gam40
end Go.Proofs.Ytfbdkjdockbfdaa.Rx.S
namespace Go.Proofs.Ytfbdkjdockbfdaa.Rx.S
open Go Go.RowKit Go.Proofs
set_option maxRecDepth 100000
noncomputable def c88 : Code := (Try.f88.body.getD .skip)
def an88 : An := ⟨fun _ => ⟨[], []⟩, fun _ _ => none⟩
abbrev ps88 : List PK := []
abbrev rs88 : List RK := [.own tSg true]
abbrev R88 := retsD rs88 × outsD ps88
noncomputable def G88 : Gam := fun _ => none
theorem h0_88 (hg : GamOK Try.prog G88) : Holds Try.prog 88 ⟨ps88, rs88, false, runF TT G88 an88 Try.f88 c88 ps88 rs88⟩ := holds_of tt_ok hg mixed Try.func88 (by kernel_rfl) (by rfl) (by decide +kernel)
noncomputable def at88 : Nat → Pt → List Nat → St → Option R88 := atF TT G88 an88 Try.f88 c88 _ _
noncomputable def st88_top (n : Nat)   : Option R88 :=
  some (((List.replicate (Int.toNat (8 : Int)) false, (List.replicate (Int.toNat (8 : Int)) false, List.replicate (Int.toNat (8 : Int)) (0 : Int))), ()), ())
theorem e88_top (n : Nat)  : runF TT G88 an88 Try.f88 c88 ps88 rs88 n () = st88_top n   := by kernel_rfl
noncomputable def p88 (n : Nat)  : Option R88 := st88_top n  
theorem F88_eq (n : Nat)  : runF TT G88 an88 Try.f88 c88 ps88 rs88 n () = p88 n  := by
  rw [e88_top]
  skip
  try rfl
noncomputable def q88 (n : Nat) (x : argsD ps88) : Option R88 := p88 n 
noncomputable def Sm88 : Sm := ⟨ps88, rs88, false, q88⟩
theorem holds88 (hg : GamOK Try.prog G88) : Holds Try.prog 88 Sm88 := by
  have := h0_88 hg
  have e : (runF TT G88 an88 Try.f88 c88 ps88 rs88) = q88 := by
    funext n x
    exact F88_eq n 
  rw [e] at this
  exact this
theorem gam88 : GamOK Try.prog G88 := fun _ _ h => by cases h
theorem hh88 : Holds Try.prog 88 Sm88 := holds88 gam88
end Go.Proofs.Ytfbdkjdockbfdaa.Rx.S
namespace Go.Proofs.Ytfbdkjdockbfdaa.Rx.S
open Go Go.RowKit Go.Proofs
set_option maxRecDepth 100000
noncomputable def c89 : Code := (Try.f89.body.getD .skip)
def an89 : An := ⟨fun _ => ⟨[], []⟩, fun _ _ => none⟩
abbrev ps89 : List PK := [.val i64 false]
abbrev rs89 : List RK := [.val .bool false]
abbrev R89 := retsD rs89 × outsD ps89
noncomputable def G89 : Gam := fun _ => none
theorem h0_89 (hg : GamOK Try.prog G89) : Holds Try.prog 89 ⟨ps89, rs89, false, runF TT G89 an89 Try.f89 c89 ps89 rs89⟩ := holds_of tt_ok hg mixed Try.func89 (by kernel_rfl) (by rfl) (by decide +kernel)
noncomputable def at89 : Nat → Pt → List Nat → St → Option R89 := atF TT G89 an89 Try.f89 c89 _ _
noncomputable def st89_top (n : Nat)  (a : Int) : Option R89 :=
  cond (decide (a = (1 : Int))) (some ((true, ()), ())) (some ((decide (a = (2 : Int)), ()), ()))
theorem e89_top (n : Nat) (a : Int) : runF TT G89 an89 Try.f89 c89 ps89 rs89 n (a, ()) = st89_top n  a := by kernel_rfl
noncomputable def p89 (n : Nat) (a : Int) : Option R89 := st89_top n  a
theorem F89_eq (n : Nat) (a : Int) : runF TT G89 an89 Try.f89 c89 ps89 rs89 n (a, ()) = p89 n a := by
  rw [e89_top]
  skip
  try rfl
noncomputable def q89 (n : Nat) (x : argsD ps89) : Option R89 := p89 n x.1
noncomputable def Sm89 : Sm := ⟨ps89, rs89, false, q89⟩
theorem holds89 (hg : GamOK Try.prog G89) : Holds Try.prog 89 Sm89 := by
  have := h0_89 hg
  have e : (runF TT G89 an89 Try.f89 c89 ps89 rs89) = q89 := by
    funext n x
    exact F89_eq n x.1
  rw [e] at this
  exact this
theorem gam89 : GamOK Try.prog G89 := fun _ _ h => by cases h
theorem hh89 : Holds Try.prog 89 Sm89 := holds89 gam89
end Go.Proofs.Ytfbdkjdockbfdaa.Rx.S
namespace Go.Proofs.Ytfbdkjdockbfdaa.Rx.S
open Go Go.RowKit Go.Proofs
set_option maxRecDepth 100000
noncomputable def c39 : Code := (Try.f39.body.getD .skip)
def an39 : An := ⟨fun r => match r with | 3 => ⟨[0, 2, 3, 4], []⟩ | _ => ⟨[], []⟩, fun _ _ => none⟩
abbrev ps39 : List PK := [.bx tRd]
abbrev rs39 : List RK := [.own tSg true]
abbrev R39 := retsD rs39 × outsD ps39
noncomputable def G39 : Gam := fun f => match f with | 40 => some Sm40 | 88 => some Sm88 | 89 => some Sm89 | _ => none
theorem h0_39 (hg : GamOK Try.prog G39) : Holds Try.prog 39 ⟨ps39, rs39, true, runF TT G39 an39 Try.f39 c39 ps39 rs39⟩ := holds_of tt_ok hg mixed Try.func39 (by kernel_rfl) (by rfl) (by decide +kernel)
noncomputable def at39 : Nat → Pt → List Nat → St → Option R39 := atF TT G39 an39 Try.f39 c39 _ _
def sh39_L3 (x0 : Int) (x1 : List Int) (x2 : Int) (x3 : List Bool) (x4 : List Bool) (x5 : List Int) : St := (Go.Proofs.Ytfbdkjdockbfdaa.Rx.St.mk ((Go.Proofs.Ytfbdkjdockbfdaa.Rx.AV.par 0 false ((Go.Proofs.Ytfbdkjdockbfdaa.Rx.SV.bptr 1000000 0) :: [])) :: (Go.Proofs.Ytfbdkjdockbfdaa.Rx.AV.undef :: ((Go.Proofs.Ytfbdkjdockbfdaa.Rx.AV.one (Go.Proofs.Ytfbdkjdockbfdaa.Rx.SV.bptr 1000001 0)) :: ((Go.Proofs.Ytfbdkjdockbfdaa.Rx.AV.one (Go.Proofs.Ytfbdkjdockbfdaa.Rx.SV.bptr 1000002 0)) :: ((Go.Proofs.Ytfbdkjdockbfdaa.Rx.AV.one (Go.Proofs.Ytfbdkjdockbfdaa.Rx.SV.int (Go.IntKind.i64) x0)) :: (Go.Proofs.Ytfbdkjdockbfdaa.Rx.AV.undef :: (Go.Proofs.Ytfbdkjdockbfdaa.Rx.AV.undef :: (Go.Proofs.Ytfbdkjdockbfdaa.Rx.AV.undef :: (Go.Proofs.Ytfbdkjdockbfdaa.Rx.AV.undef :: (Go.Proofs.Ytfbdkjdockbfdaa.Rx.AV.undef :: (Go.Proofs.Ytfbdkjdockbfdaa.Rx.AV.undef :: (Go.Proofs.Ytfbdkjdockbfdaa.Rx.AV.undef :: (Go.Proofs.Ytfbdkjdockbfdaa.Rx.AV.undef :: (Go.Proofs.Ytfbdkjdockbfdaa.Rx.AV.undef :: (Go.Proofs.Ytfbdkjdockbfdaa.Rx.AV.undef :: (Go.Proofs.Ytfbdkjdockbfdaa.Rx.AV.undef :: (Go.Proofs.Ytfbdkjdockbfdaa.Rx.AV.undef :: (Go.Proofs.Ytfbdkjdockbfdaa.Rx.AV.undef :: (Go.Proofs.Ytfbdkjdockbfdaa.Rx.AV.undef :: (Go.Proofs.Ytfbdkjdockbfdaa.Rx.AV.undef :: (Go.Proofs.Ytfbdkjdockbfdaa.Rx.AV.undef :: (Go.Proofs.Ytfbdkjdockbfdaa.Rx.AV.undef :: (Go.Proofs.Ytfbdkjdockbfdaa.Rx.AV.undef :: (Go.Proofs.Ytfbdkjdockbfdaa.Rx.AV.undef :: (Go.Proofs.Ytfbdkjdockbfdaa.Rx.AV.undef :: (Go.Proofs.Ytfbdkjdockbfdaa.Rx.AV.undef :: (Go.Proofs.Ytfbdkjdockbfdaa.Rx.AV.undef :: (Go.Proofs.Ytfbdkjdockbfdaa.Rx.AV.undef :: (Go.Proofs.Ytfbdkjdockbfdaa.Rx.AV.undef :: (Go.Proofs.Ytfbdkjdockbfdaa.Rx.AV.undef :: (Go.Proofs.Ytfbdkjdockbfdaa.Rx.AV.undef :: (Go.Proofs.Ytfbdkjdockbfdaa.Rx.AV.undef :: (Go.Proofs.Ytfbdkjdockbfdaa.Rx.AV.undef :: (Go.Proofs.Ytfbdkjdockbfdaa.Rx.AV.undef :: (Go.Proofs.Ytfbdkjdockbfdaa.Rx.AV.undef :: (Go.Proofs.Ytfbdkjdockbfdaa.Rx.AV.undef :: (Go.Proofs.Ytfbdkjdockbfdaa.Rx.AV.undef :: (Go.Proofs.Ytfbdkjdockbfdaa.Rx.AV.undef :: (Go.Proofs.Ytfbdkjdockbfdaa.Rx.AV.undef :: (Go.Proofs.Ytfbdkjdockbfdaa.Rx.AV.undef :: (Go.Proofs.Ytfbdkjdockbfdaa.Rx.AV.undef :: (Go.Proofs.Ytfbdkjdockbfdaa.Rx.AV.undef :: (Go.Proofs.Ytfbdkjdockbfdaa.Rx.AV.undef :: (Go.Proofs.Ytfbdkjdockbfdaa.Rx.AV.undef :: (Go.Proofs.Ytfbdkjdockbfdaa.Rx.AV.undef :: (Go.Proofs.Ytfbdkjdockbfdaa.Rx.AV.undef :: (Go.Proofs.Ytfbdkjdockbfdaa.Rx.AV.undef :: (Go.Proofs.Ytfbdkjdockbfdaa.Rx.AV.undef :: (Go.Proofs.Ytfbdkjdockbfdaa.Rx.AV.undef :: (Go.Proofs.Ytfbdkjdockbfdaa.Rx.AV.undef :: (Go.Proofs.Ytfbdkjdockbfdaa.Rx.AV.undef :: (Go.Proofs.Ytfbdkjdockbfdaa.Rx.AV.undef :: (Go.Proofs.Ytfbdkjdockbfdaa.Rx.AV.undef :: (Go.Proofs.Ytfbdkjdockbfdaa.Rx.AV.undef :: (Go.Proofs.Ytfbdkjdockbfdaa.Rx.AV.undef :: (Go.Proofs.Ytfbdkjdockbfdaa.Rx.AV.undef :: (Go.Proofs.Ytfbdkjdockbfdaa.Rx.AV.undef :: (Go.Proofs.Ytfbdkjdockbfdaa.Rx.AV.undef :: (Go.Proofs.Ytfbdkjdockbfdaa.Rx.AV.undef :: (Go.Proofs.Ytfbdkjdockbfdaa.Rx.AV.undef :: (Go.Proofs.Ytfbdkjdockbfdaa.Rx.AV.undef :: (Go.Proofs.Ytfbdkjdockbfdaa.Rx.AV.undef :: [])))))))))))))))))))))))))))))))))))))))))))))))))))))))))))))) ((1000000, (Go.Proofs.Ytfbdkjdockbfdaa.Rx.Ent.box ((Go.Proofs.Ytfbdkjdockbfdaa.Rx.SV.con (⟨5, Go.Proofs.Ytfbdkjdockbfdaa.Rx.Ty.int Go.IntKind.u8, x1⟩ : Rw)) :: ((Go.Proofs.Ytfbdkjdockbfdaa.Rx.SV.int (Go.IntKind.i64) x2) :: [])))) :: ((1000001, (Go.Proofs.Ytfbdkjdockbfdaa.Rx.Ent.box (Go.Proofs.Ytfbdkjdockbfdaa.Rx.SV.nil :: (Go.Proofs.Ytfbdkjdockbfdaa.Rx.SV.nil :: (Go.Proofs.Ytfbdkjdockbfdaa.Rx.SV.nil :: []))))) :: ((1000002, (Go.Proofs.Ytfbdkjdockbfdaa.Rx.Ent.box ((Go.Proofs.Ytfbdkjdockbfdaa.Rx.SV.ref 1000003 0 [] Option.none) :: ((Go.Proofs.Ytfbdkjdockbfdaa.Rx.SV.ref 1000004 0 [] Option.none) :: ((Go.Proofs.Ytfbdkjdockbfdaa.Rx.SV.ref 1000005 0 [] Option.none) :: []))))) :: ((1000003, (Go.Proofs.Ytfbdkjdockbfdaa.Rx.Ent.row (⟨4, Go.Proofs.Ytfbdkjdockbfdaa.Rx.Ty.bool, x3⟩ : Rw) 0 Option.none)) :: ((1000004, (Go.Proofs.Ytfbdkjdockbfdaa.Rx.Ent.row (⟨4, Go.Proofs.Ytfbdkjdockbfdaa.Rx.Ty.bool, x4⟩ : Rw) 0 Option.none)) :: ((1000005, (Go.Proofs.Ytfbdkjdockbfdaa.Rx.Ent.row (⟨3, Go.Proofs.Ytfbdkjdockbfdaa.Rx.Ty.int Go.IntKind.i64, x5⟩ : Rw) 0 Option.none)) :: [])))))))
noncomputable def st39_top (n : Nat) (lL3 : Int → (List Int) → Int → (List Bool) → (List Bool) → (List Int) → Option R39) (a : List Int × Int) : Option R39 :=
  (Go.Proofs.Ytfbdkjdockbfdaa.Rx.S.q88 n ()).bind fun r0 => lL3 ((0 : Int)) (a.fst) (a.snd) (r0.fst.fst.fst) (r0.fst.fst.snd.fst) (r0.fst.fst.snd.snd)
noncomputable def st39_L3 (n : Nat) (lL3 : Int → (List Int) → Int → (List Bool) → (List Bool) → (List Int) → Option R39) (x0 : Int) (x1 : List Int) (x2 : Int) (x3 : List Bool) (x4 : List Bool) (x5 : List Int) : Option R39 :=
  cond (decide (x0 < (8 : Int))) ((Go.Proofs.Ytfbdkjdockbfdaa.Rx.S.q40 n ((x1, x2), (3 : Int), ())).bind fun r2 => cond (decide ((0 : Int) ≤ x0)) (cond (decide (x0 < (↑x3.length : Int))) ((Go.Proofs.Ytfbdkjdockbfdaa.Rx.S.q89 n (Go.IntKind.i64.wrap (x0 + (1 : Int)), ())).bind fun r3 => cond (!r3.fst.fst) ((Go.Proofs.Ytfbdkjdockbfdaa.Rx.S.q40 n ((r2.snd.fst.fst, r2.snd.fst.snd), (3 : Int), ())).bind fun r4 => cond (decide ((0 : Int) ≤ x0)) (cond (decide (x0 < (↑x4.length : Int))) ((Go.Proofs.Ytfbdkjdockbfdaa.Rx.S.q40 n ((r4.snd.fst.fst, r4.snd.fst.snd), (4 : Int), ())).bind fun r5 => cond (decide ((0 : Int) ≤ r5.fst.fst)) (cond (decide (r5.fst.fst < (↑[(0 : Int), (0 : Int), (1 : Int), (4 : Int)].length : Int))) (cond (decide ((0 : Int) ≤ x0)) (cond (decide (x0 < (↑x5.length : Int))) (lL3 (Go.IntKind.i64.wrap (x0 + (1 : Int))) (r5.snd.fst.fst) (r5.snd.fst.snd) (x3.set x0.toNat (decide (r2.fst.fst = (0 : Int)))) (x4.set x0.toNat (decide (r4.fst.fst = (0 : Int)))) (x5.set x0.toNat ([(0 : Int), (0 : Int), (1 : Int), (4 : Int)].getD (Int.toNat r5.fst.fst) (0 : Int)))) (none)) (none)) (none)) (none)) (none)) (none)) (lL3 (Go.IntKind.i64.wrap (x0 + (1 : Int))) (r2.snd.fst.fst) (r2.snd.fst.snd) (x3.set x0.toNat (decide (r2.fst.fst = (0 : Int)))) (x4) (x5))) (none)) (none)) ((Go.Proofs.Ytfbdkjdockbfdaa.Rx.S.q40 n ((x1, x2), (24 : Int), ())).bind fun r6 => cond (decide (r6.fst.fst = (0 : Int))) ((Go.Proofs.Ytfbdkjdockbfdaa.Rx.S.q40 n ((r6.snd.fst.fst, r6.snd.fst.snd), (8 : Int), ())).bind fun r7 => (Go.Proofs.Ytfbdkjdockbfdaa.Rx.S.q40 n ((r7.snd.fst.fst, r7.snd.fst.snd), (6 : Int), ())).bind fun r8 => cond (decide ((0 : Int) ≤ r7.fst.fst)) (cond (decide (r7.fst.fst < (↑x5.length : Int))) (some (((x3, (x4, x5.set (Int.toNat r7.fst.fst) r8.fst.fst)), ()), ((r8.snd.fst.fst, r8.snd.fst.snd), ()))) (none)) (none)) (cond (decide (r6.fst.fst = (1 : Int))) ((Go.Proofs.Ytfbdkjdockbfdaa.Rx.S.q40 n ((r6.snd.fst.fst, r6.snd.fst.snd), (2 : Int), ())).bind fun r9 => cond (decide ((0 : Int) ≤ r9.fst.fst)) (cond (decide (r9.fst.fst < (↑x4.length : Int))) (some (((x3, (x4.set (Int.toNat r9.fst.fst) true, x5)), ()), ((r9.snd.fst.fst, r9.snd.fst.snd), ()))) (none)) (none)) (cond (decide (r6.fst.fst = (2 : Int))) (cond (decide ((1 : Int) ≤ (↑x3.length : Int))) (some (((List.take ((↑x3.length : Int) - (1 : Int)).toNat (List.drop ((0 : Nat) + Int.toNat (1 : Int)) x3), (x4, x5)), ()), ((r6.snd.fst.fst, r6.snd.fst.snd), ()))) (none)) (some (((x3, (x4, x5)), ()), ((r6.snd.fst.fst, r6.snd.fst.snd), ()))))))
theorem e39_top (n : Nat) (a : List Int × Int) : runF TT G39 an39 Try.f39 c39 ps39 rs39 n (a, ()) = st39_top n (fun x0 x1 x2 x3 x4 x5 => at39 n (.head 3) [n] (sh39_L3 x0 x1 x2 x3 x4 x5)) a := by kernel_rfl
theorem e39_L3_0 (n : Nat) (x0 : Int) (x1 : List Int) (x2 : Int) (x3 : List Bool) (x4 : List Bool) (x5 : List Int) : at39 n (.head 3) [0] (sh39_L3 x0 x1 x2 x3 x4 x5) = none := by kernel_rfl
theorem e39_L3 (n : Nat) (m3 : Nat) (x0 : Int) (x1 : List Int) (x2 : Int) (x3 : List Bool) (x4 : List Bool) (x5 : List Int) : at39 n (.head 3) [m3 + 1] (sh39_L3 x0 x1 x2 x3 x4 x5) = st39_L3 n (fun x0 x1 x2 x3 x4 x5 => at39 n (.head 3) [m3] (sh39_L3 x0 x1 x2 x3 x4 x5)) x0 x1 x2 x3 x4 x5 := by kernel_rfl
noncomputable def p39_L3 (n : Nat) : Nat → Int → (List Int) → Int → (List Bool) → (List Bool) → (List Int) → Option R39
  | 0, _, _, _, _, _, _ => none
  | m + 1, x0, x1, x2, x3, x4, x5 => st39_L3 n (p39_L3 n m) x0 x1 x2 x3 x4 x5
noncomputable def p39 (n : Nat) (a : List Int × Int) : Option R39 := st39_top n (p39_L3 n n) a
theorem t39_L3 (n : Nat) : ∀ (m3 : Nat) (x0 : Int) (x1 : List Int) (x2 : Int) (x3 : List Bool) (x4 : List Bool) (x5 : List Int), at39 n (.head 3) [m3] (sh39_L3 x0 x1 x2 x3 x4 x5) = p39_L3  n m3 x0 x1 x2 x3 x4 x5 := by
  intro m
  induction m with
  | zero => intros; rw [e39_L3_0]; rfl
  | succ m ih =>
    intros
    rw [e39_L3]
    try simp only [ih]
    rfl
theorem F39_eq (n : Nat) (a : List Int × Int) : runF TT G39 an39 Try.f39 c39 ps39 rs39 n (a, ()) = p39 n a := by
  rw [e39_top]
  simp only [t39_L3]
  try rfl
noncomputable def q39 (n : Nat) (x : argsD ps39) : Option R39 := p39 n x.1
noncomputable def Sm39 : Sm := ⟨ps39, rs39, true, q39⟩
theorem holds39 (hg : GamOK Try.prog G39) : Holds Try.prog 39 Sm39 := by
  have := h0_39 hg
  have e : (runF TT G39 an39 Try.f39 c39 ps39 rs39) = q39 := by
    funext n x
    exact F39_eq n x.1
  rw [e] at this
  exact this
theorem gam39 : GamOK Try.prog G39 := by
  intro f s h
  unfold G39 at h
  split at h
  · injection h with h; subst h; exact ⟨⟨Try.f40, c40, Try.func40, by kernel_rfl, by decide +kernel⟩, hh40⟩
  · injection h with h; subst h; exact ⟨⟨Try.f88, c88, Try.func88, by kernel_rfl, by decide +kernel⟩, hh88⟩
  · injection h with h; subst h; exact ⟨⟨Try.f89, c89, Try.func89, by kernel_rfl, by decide +kernel⟩, hh89⟩
  · cases h
theorem hh39 : Holds Try.prog 39 Sm39 := holds39 gam39
end Go.Proofs.Ytfbdkjdockbfdaa.Rx.S
namespace Go.Proofs.Ytfbdkjdockbfdaa.Rx.S
open Go Go.RowKit Go.Proofs
set_option maxRecDepth 100000
noncomputable def c9 : Code := (Try.f9.body.getD .skip)
def an9 : An := ⟨fun _ => ⟨[], []⟩, fun _ _ => none⟩
abbrev ps9 : List PK := [.val (.row 5 (.int .u8)) false]
abbrev rs9 : List RK := [.own tSg true, .val i64 false]
abbrev R9 := retsD rs9 × outsD ps9
noncomputable def G9 : Gam := fun f => match f with | 38 => some Sm38 | 39 => some Sm39 | 40 => some Sm40 | _ => none
theorem h0_9 (hg : GamOK Try.prog G9) : Holds Try.prog 9 ⟨ps9, rs9, true, runF TT G9 an9 Try.f9 c9 ps9 rs9⟩ := holds_of tt_ok hg mixed Try.func9 (by kernel_rfl) (by rfl) (by decide +kernel)
noncomputable def at9 : Nat → Pt → List Nat → St → Option R9 := atF TT G9 an9 Try.f9 c9 _ _
noncomputable def st9_top (n : Nat)  (a : List Int) : Option R9 :=
  (Go.Proofs.Ytfbdkjdockbfdaa.Rx.S.q38 n (a, ())).bind fun r0 => (Go.Proofs.Ytfbdkjdockbfdaa.Rx.S.q39 n ((r0.fst.fst.fst, r0.fst.fst.snd), ())).bind fun r1 => (Go.Proofs.Ytfbdkjdockbfdaa.Rx.S.q40 n ((r1.snd.fst.fst, r1.snd.fst.snd), (11 : Int), ())).bind fun r2 => some (((r1.fst.fst.fst, (r1.fst.fst.snd.fst, r1.fst.fst.snd.snd)), (Go.IntKind.i64.wrap (r2.fst.fst - (1 : Int)), ())), ())
theorem e9_top (n : Nat) (a : List Int) : runF TT G9 an9 Try.f9 c9 ps9 rs9 n (a, ()) = st9_top n  a := by kernel_rfl
noncomputable def p9 (n : Nat) (a : List Int) : Option R9 := st9_top n  a
theorem F9_eq (n : Nat) (a : List Int) : runF TT G9 an9 Try.f9 c9 ps9 rs9 n (a, ()) = p9 n a := by
  rw [e9_top]
  skip
  try rfl
noncomputable def q9 (n : Nat) (x : argsD ps9) : Option R9 := p9 n x.1
noncomputable def Sm9 : Sm := ⟨ps9, rs9, true, q9⟩
theorem holds9 (hg : GamOK Try.prog G9) : Holds Try.prog 9 Sm9 := by
  have := h0_9 hg
  have e : (runF TT G9 an9 Try.f9 c9 ps9 rs9) = q9 := by
    funext n x
    exact F9_eq n x.1
  rw [e] at this
  exact this
theorem gam9 : GamOK Try.prog G9 := by
  intro f s h
  unfold G9 at h
  split at h
  · injection h with h; subst h; exact ⟨⟨Try.f38, c38, Try.func38, by kernel_rfl, by decide +kernel⟩, hh38⟩
  · injection h with h; subst h; exact ⟨⟨Try.f39, c39, Try.func39, by kernel_rfl, by decide +kernel⟩, hh39⟩
  · injection h with h; subst h; exact ⟨⟨Try.f40, c40, Try.func40, by kernel_rfl, by decide +kernel⟩, hh40⟩
  · cases h
theorem hh9 : Holds Try.prog 9 Sm9 := holds9 gam9
end Go.Proofs.Ytfbdkjdockbfdaa.Rx.S
namespace Go.Proofs.Ytfbdkjdockbfdaa.Rx.S
open Go Go.RowKit Go.Proofs
set_option maxRecDepth 100000
noncomputable def c41 : Code := (Try.f41.body.getD .skip)
def an41 : An := ⟨fun r => match r with | 4 => ⟨[1, 23, 24, 25], []⟩ | _ => ⟨[], []⟩, fun _ _ => none⟩
abbrev ps41 : List PK := [.val tSg true]
abbrev rs41 : List RK := [.val .bool false]
abbrev R41 := retsD rs41 × outsD ps41
noncomputable def G41 : Gam := fun _ => none
theorem h0_41 (hg : GamOK Try.prog G41) : Holds Try.prog 41 ⟨ps41, rs41, false, runF TT G41 an41 Try.f41 c41 ps41 rs41⟩ := holds_of tt_ok hg mixed Try.func41 (by kernel_rfl) (by rfl) (by decide +kernel)
noncomputable def at41 : Nat → Pt → List Nat → St → Option R41 := atF TT G41 an41 Try.f41 c41 _ _
def sh41_L4 (x0 : List Int) (x1 : Int) (x2 : Int) (x3 : List Bool) (x4 : List Bool) (x5 : List Int) : St := (Go.Proofs.Ytfbdkjdockbfdaa.Rx.St.mk (Go.Proofs.Ytfbdkjdockbfdaa.Rx.AV.undef :: ((Go.Proofs.Ytfbdkjdockbfdaa.Rx.AV.one (Go.Proofs.Ytfbdkjdockbfdaa.Rx.SV.bptr 1000000 0)) :: (Go.Proofs.Ytfbdkjdockbfdaa.Rx.AV.undef :: (Go.Proofs.Ytfbdkjdockbfdaa.Rx.AV.undef :: (Go.Proofs.Ytfbdkjdockbfdaa.Rx.AV.undef :: (Go.Proofs.Ytfbdkjdockbfdaa.Rx.AV.undef :: (Go.Proofs.Ytfbdkjdockbfdaa.Rx.AV.undef :: (Go.Proofs.Ytfbdkjdockbfdaa.Rx.AV.undef :: (Go.Proofs.Ytfbdkjdockbfdaa.Rx.AV.undef :: (Go.Proofs.Ytfbdkjdockbfdaa.Rx.AV.undef :: (Go.Proofs.Ytfbdkjdockbfdaa.Rx.AV.undef :: (Go.Proofs.Ytfbdkjdockbfdaa.Rx.AV.undef :: (Go.Proofs.Ytfbdkjdockbfdaa.Rx.AV.undef :: (Go.Proofs.Ytfbdkjdockbfdaa.Rx.AV.undef :: (Go.Proofs.Ytfbdkjdockbfdaa.Rx.AV.undef :: (Go.Proofs.Ytfbdkjdockbfdaa.Rx.AV.undef :: (Go.Proofs.Ytfbdkjdockbfdaa.Rx.AV.undef :: (Go.Proofs.Ytfbdkjdockbfdaa.Rx.AV.undef :: (Go.Proofs.Ytfbdkjdockbfdaa.Rx.AV.undef :: (Go.Proofs.Ytfbdkjdockbfdaa.Rx.AV.undef :: (Go.Proofs.Ytfbdkjdockbfdaa.Rx.AV.undef :: (Go.Proofs.Ytfbdkjdockbfdaa.Rx.AV.undef :: (Go.Proofs.Ytfbdkjdockbfdaa.Rx.AV.undef :: ((Go.Proofs.Ytfbdkjdockbfdaa.Rx.AV.one (Go.Proofs.Ytfbdkjdockbfdaa.Rx.SV.con (⟨3, Go.Proofs.Ytfbdkjdockbfdaa.Rx.Ty.int Go.IntKind.i64, x0⟩ : Rw))) :: ((Go.Proofs.Ytfbdkjdockbfdaa.Rx.AV.one (Go.Proofs.Ytfbdkjdockbfdaa.Rx.SV.int (Go.IntKind.i64) x1)) :: ((Go.Proofs.Ytfbdkjdockbfdaa.Rx.AV.one (Go.Proofs.Ytfbdkjdockbfdaa.Rx.SV.int (Go.IntKind.i64) x2)) :: (Go.Proofs.Ytfbdkjdockbfdaa.Rx.AV.undef :: (Go.Proofs.Ytfbdkjdockbfdaa.Rx.AV.undef :: (Go.Proofs.Ytfbdkjdockbfdaa.Rx.AV.undef :: (Go.Proofs.Ytfbdkjdockbfdaa.Rx.AV.undef :: (Go.Proofs.Ytfbdkjdockbfdaa.Rx.AV.undef :: (Go.Proofs.Ytfbdkjdockbfdaa.Rx.AV.undef :: (Go.Proofs.Ytfbdkjdockbfdaa.Rx.AV.undef :: (Go.Proofs.Ytfbdkjdockbfdaa.Rx.AV.undef :: (Go.Proofs.Ytfbdkjdockbfdaa.Rx.AV.undef :: (Go.Proofs.Ytfbdkjdockbfdaa.Rx.AV.undef :: (Go.Proofs.Ytfbdkjdockbfdaa.Rx.AV.undef :: (Go.Proofs.Ytfbdkjdockbfdaa.Rx.AV.undef :: (Go.Proofs.Ytfbdkjdockbfdaa.Rx.AV.undef :: (Go.Proofs.Ytfbdkjdockbfdaa.Rx.AV.undef :: (Go.Proofs.Ytfbdkjdockbfdaa.Rx.AV.undef :: (Go.Proofs.Ytfbdkjdockbfdaa.Rx.AV.undef :: (Go.Proofs.Ytfbdkjdockbfdaa.Rx.AV.undef :: (Go.Proofs.Ytfbdkjdockbfdaa.Rx.AV.undef :: (Go.Proofs.Ytfbdkjdockbfdaa.Rx.AV.undef :: (Go.Proofs.Ytfbdkjdockbfdaa.Rx.AV.undef :: (Go.Proofs.Ytfbdkjdockbfdaa.Rx.AV.undef :: (Go.Proofs.Ytfbdkjdockbfdaa.Rx.AV.undef :: (Go.Proofs.Ytfbdkjdockbfdaa.Rx.AV.undef :: (Go.Proofs.Ytfbdkjdockbfdaa.Rx.AV.undef :: (Go.Proofs.Ytfbdkjdockbfdaa.Rx.AV.undef :: (Go.Proofs.Ytfbdkjdockbfdaa.Rx.AV.undef :: (Go.Proofs.Ytfbdkjdockbfdaa.Rx.AV.undef :: (Go.Proofs.Ytfbdkjdockbfdaa.Rx.AV.undef :: (Go.Proofs.Ytfbdkjdockbfdaa.Rx.AV.undef :: (Go.Proofs.Ytfbdkjdockbfdaa.Rx.AV.undef :: (Go.Proofs.Ytfbdkjdockbfdaa.Rx.AV.undef :: (Go.Proofs.Ytfbdkjdockbfdaa.Rx.AV.undef :: (Go.Proofs.Ytfbdkjdockbfdaa.Rx.AV.undef :: (Go.Proofs.Ytfbdkjdockbfdaa.Rx.AV.undef :: (Go.Proofs.Ytfbdkjdockbfdaa.Rx.AV.undef :: (Go.Proofs.Ytfbdkjdockbfdaa.Rx.AV.undef :: (Go.Proofs.Ytfbdkjdockbfdaa.Rx.AV.undef :: []))))))))))))))))))))))))))))))))))))))))))))))))))))))))))))))) ((1000000, (Go.Proofs.Ytfbdkjdockbfdaa.Rx.Ent.box ((Go.Proofs.Ytfbdkjdockbfdaa.Rx.SV.con (⟨4, Go.Proofs.Ytfbdkjdockbfdaa.Rx.Ty.bool, x3⟩ : Rw)) :: ((Go.Proofs.Ytfbdkjdockbfdaa.Rx.SV.con (⟨4, Go.Proofs.Ytfbdkjdockbfdaa.Rx.Ty.bool, x4⟩ : Rw)) :: ((Go.Proofs.Ytfbdkjdockbfdaa.Rx.SV.con (⟨3, Go.Proofs.Ytfbdkjdockbfdaa.Rx.Ty.int Go.IntKind.i64, x5⟩ : Rw)) :: []))))) :: []))
noncomputable def st41_top (n : Nat) (lL4 : (List Int) → Int → Int → (List Bool) → (List Bool) → (List Int) → Option R41) (a : List Bool × List Bool × List Int) : Option R41 :=
  cond (!decide ((↑(List.length a.fst) : Int) = (8 : Int))) (some ((false, ()), ())) (cond (!decide ((↑(List.length a.snd.fst) : Int) = (8 : Int))) (some ((false, ()), ())) (cond (!decide ((↑(List.length a.snd.snd) : Int) = (8 : Int))) (some ((false, ()), ())) (lL4 (a.snd.snd) ((↑(List.length a.snd.snd) : Int)) ((0 : Int)) (a.fst) (a.snd.fst) (a.snd.snd))))
noncomputable def st41_L4 (n : Nat) (lL4 : (List Int) → Int → Int → (List Bool) → (List Bool) → (List Int) → Option R41) (x0 : List Int) (x1 : Int) (x2 : Int) (x3 : List Bool) (x4 : List Bool) (x5 : List Int) : Option R41 :=
  cond (decide (x2 < x1)) (cond (decide ((0 : Int) ≤ x2)) (cond (decide (x2 < (↑x0.length : Int))) (cond (decide (Go.IntKind.i64.wrap (x2 + (1 : Int)) = (1 : Int))) (cond (!decide (x0.getD x2.toNat (0 : Int) = (0 : Int))) (cond (!decide (x0.getD x2.toNat (0 : Int) = (1 : Int))) (cond (!decide (x0.getD x2.toNat (0 : Int) = (4 : Int))) (some ((false, ()), ())) (cond (decide ((0 : Int) ≤ x2)) (cond (decide (x2 < (↑x4.length : Int))) (cond (x4.getD x2.toNat false) (some ((false, ()), ())) (cond (!decide (x0.getD x2.toNat (0 : Int) = (0 : Int))) (some ((false, ()), ())) (lL4 (x0) (x1) (Go.IntKind.i64.wrap (x2 + (1 : Int))) (x3) (x4) (x5)))) (none)) (none))) (cond (decide ((0 : Int) ≤ x2)) (cond (decide (x2 < (↑x4.length : Int))) (cond (x4.getD x2.toNat false) (some ((false, ()), ())) (cond (!decide (x0.getD x2.toNat (0 : Int) = (0 : Int))) (some ((false, ()), ())) (lL4 (x0) (x1) (Go.IntKind.i64.wrap (x2 + (1 : Int))) (x3) (x4) (x5)))) (none)) (none))) (cond (decide ((0 : Int) ≤ x2)) (cond (decide (x2 < (↑x4.length : Int))) (cond (x4.getD x2.toNat false) (some ((false, ()), ())) (cond (!decide (x0.getD x2.toNat (0 : Int) = (0 : Int))) (some ((false, ()), ())) (lL4 (x0) (x1) (Go.IntKind.i64.wrap (x2 + (1 : Int))) (x3) (x4) (x5)))) (none)) (none))) (cond (!decide (x0.getD x2.toNat (0 : Int) = (0 : Int))) (cond (!decide (x0.getD x2.toNat (0 : Int) = (1 : Int))) (cond (!decide (x0.getD x2.toNat (0 : Int) = (4 : Int))) (some ((false, ()), ())) (cond (decide (Go.IntKind.i64.wrap (x2 + (1 : Int)) = (2 : Int))) (cond (decide ((0 : Int) ≤ x2)) (cond (decide (x2 < (↑x4.length : Int))) (cond (x4.getD x2.toNat false) (some ((false, ()), ())) (cond (!decide (x0.getD x2.toNat (0 : Int) = (0 : Int))) (some ((false, ()), ())) (lL4 (x0) (x1) (Go.IntKind.i64.wrap (x2 + (1 : Int))) (x3) (x4) (x5)))) (none)) (none)) (lL4 (x0) (x1) (Go.IntKind.i64.wrap (x2 + (1 : Int))) (x3) (x4) (x5)))) (cond (decide (Go.IntKind.i64.wrap (x2 + (1 : Int)) = (2 : Int))) (cond (decide ((0 : Int) ≤ x2)) (cond (decide (x2 < (↑x4.length : Int))) (cond (x4.getD x2.toNat false) (some ((false, ()), ())) (cond (!decide (x0.getD x2.toNat (0 : Int) = (0 : Int))) (some ((false, ()), ())) (lL4 (x0) (x1) (Go.IntKind.i64.wrap (x2 + (1 : Int))) (x3) (x4) (x5)))) (none)) (none)) (lL4 (x0) (x1) (Go.IntKind.i64.wrap (x2 + (1 : Int))) (x3) (x4) (x5)))) (cond (decide (Go.IntKind.i64.wrap (x2 + (1 : Int)) = (2 : Int))) (cond (decide ((0 : Int) ≤ x2)) (cond (decide (x2 < (↑x4.length : Int))) (cond (x4.getD x2.toNat false) (some ((false, ()), ())) (cond (!decide (x0.getD x2.toNat (0 : Int) = (0 : Int))) (some ((false, ()), ())) (lL4 (x0) (x1) (Go.IntKind.i64.wrap (x2 + (1 : Int))) (x3) (x4) (x5)))) (none)) (none)) (lL4 (x0) (x1) (Go.IntKind.i64.wrap (x2 + (1 : Int))) (x3) (x4) (x5))))) (none)) (none)) (some ((true, ()), ()))
theorem e41_top (n : Nat) (a : List Bool × List Bool × List Int) : runF TT G41 an41 Try.f41 c41 ps41 rs41 n (a, ()) = st41_top n (fun x0 x1 x2 x3 x4 x5 => at41 n (.head 4) [n] (sh41_L4 x0 x1 x2 x3 x4 x5)) a := by kernel_rfl
theorem e41_L4_0 (n : Nat) (x0 : List Int) (x1 : Int) (x2 : Int) (x3 : List Bool) (x4 : List Bool) (x5 : List Int) : at41 n (.head 4) [0] (sh41_L4 x0 x1 x2 x3 x4 x5) = none := by kernel_rfl
theorem e41_L4 (n : Nat) (m4 : Nat) (x0 : List Int) (x1 : Int) (x2 : Int) (x3 : List Bool) (x4 : List Bool) (x5 : List Int) : at41 n (.head 4) [m4 + 1] (sh41_L4 x0 x1 x2 x3 x4 x5) = st41_L4 n (fun x0 x1 x2 x3 x4 x5 => at41 n (.head 4) [m4] (sh41_L4 x0 x1 x2 x3 x4 x5)) x0 x1 x2 x3 x4 x5 := by kernel_rfl
noncomputable def p41_L4 (n : Nat) : Nat → (List Int) → Int → Int → (List Bool) → (List Bool) → (List Int) → Option R41
  | 0, _, _, _, _, _, _ => none
  | m + 1, x0, x1, x2, x3, x4, x5 => st41_L4 n (p41_L4 n m) x0 x1 x2 x3 x4 x5
noncomputable def p41 (n : Nat) (a : List Bool × List Bool × List Int) : Option R41 := st41_top n (p41_L4 n n) a
theorem t41_L4 (n : Nat) : ∀ (m4 : Nat) (x0 : List Int) (x1 : Int) (x2 : Int) (x3 : List Bool) (x4 : List Bool) (x5 : List Int), at41 n (.head 4) [m4] (sh41_L4 x0 x1 x2 x3 x4 x5) = p41_L4  n m4 x0 x1 x2 x3 x4 x5 := by
  intro m
  induction m with
  | zero => intros; rw [e41_L4_0]; rfl
  | succ m ih =>
    intros
    rw [e41_L4]
    try simp only [ih]
    rfl
theorem F41_eq (n : Nat) (a : List Bool × List Bool × List Int) : runF TT G41 an41 Try.f41 c41 ps41 rs41 n (a, ()) = p41 n a := by
  rw [e41_top]
  simp only [t41_L4]
  try rfl
noncomputable def q41 (n : Nat) (x : argsD ps41) : Option R41 := p41 n x.1
noncomputable def Sm41 : Sm := ⟨ps41, rs41, false, q41⟩
theorem holds41 (hg : GamOK Try.prog G41) : Holds Try.prog 41 Sm41 := by
  have := h0_41 hg
  have e : (runF TT G41 an41 Try.f41 c41 ps41 rs41) = q41 := by
    funext n x
    exact F41_eq n x.1
  rw [e] at this
  exact this
theorem gam41 : GamOK Try.prog G41 := fun _ _ h => by cases h
theorem hh41 : Holds Try.prog 41 Sm41 := holds41 gam41
end Go.Proofs.Ytfbdkjdockbfdaa.Rx.S
namespace Go.Proofs.Ytfbdkjdockbfdaa.Rx.S
open Go Go.RowKit Go.Proofs
set_option maxRecDepth 100000
noncomputable def c42 : Code := (Try.f42.body.getD .skip)
def an42 : An := ⟨fun _ => ⟨[], []⟩, fun _ _ => none⟩
abbrev ps42 : List PK := [.val i64 false, .val i64 false, .val i64 false]
abbrev rs42 : List RK := [.val .bool false]
abbrev R42 := retsD rs42 × outsD ps42
noncomputable def G42 : Gam := fun _ => none
theorem h0_42 (hg : GamOK Try.prog G42) : Holds Try.prog 42 ⟨ps42, rs42, false, runF TT G42 an42 Try.f42 c42 ps42 rs42⟩ := holds_of tt_ok hg mixed Try.func42 (by kernel_rfl) (by rfl) (by decide +kernel)
noncomputable def at42 : Nat → Pt → List Nat → St → Option R42 := atF TT G42 an42 Try.f42 c42 _ _
noncomputable def st42_top (n : Nat)  (a : Int) (b : Int) (c : Int) : Option R42 :=
  cond (decide (b ≤ a)) (some ((decide (a ≤ c), ()), ())) (some ((false, ()), ()))
theorem e42_top (n : Nat) (a : Int) (b : Int) (c : Int) : runF TT G42 an42 Try.f42 c42 ps42 rs42 n (a, b, c, ()) = st42_top n  a b c := by kernel_rfl
noncomputable def p42 (n : Nat) (a : Int) (b : Int) (c : Int) : Option R42 := st42_top n  a b c
theorem F42_eq (n : Nat) (a : Int) (b : Int) (c : Int) : runF TT G42 an42 Try.f42 c42 ps42 rs42 n (a, b, c, ()) = p42 n a b c := by
  rw [e42_top]
  skip
  try rfl
noncomputable def q42 (n : Nat) (x : argsD ps42) : Option R42 := p42 n x.1 x.2.1 x.2.2.1
noncomputable def Sm42 : Sm := ⟨ps42, rs42, false, q42⟩
theorem holds42 (hg : GamOK Try.prog G42) : Holds Try.prog 42 Sm42 := by
  have := h0_42 hg
  have e : (runF TT G42 an42 Try.f42 c42 ps42 rs42) = q42 := by
    funext n x
    exact F42_eq n x.1 x.2.1 x.2.2.1
  rw [e] at this
  exact this
theorem gam42 : GamOK Try.prog G42 := fun _ _ h => by cases h
theorem hh42 : Holds Try.prog 42 Sm42 := holds42 gam42
end Go.Proofs.Ytfbdkjdockbfdaa.Rx.S
namespace Go.Proofs.Ytfbdkjdockbfdaa.Rx.S
open Go Go.RowKit Go.Proofs
set_option maxRecDepth 100000
noncomputable def c90 : Code := (Try.f90.body.getD .skip)
abbrev ps90 : List PK := [.val (.row 4 .bool) false]
abbrev rs90 : List RK := [.own (.row 4 .bool) false]
abbrev R90 := retsD rs90 × outsD ps90
noncomputable def p90 (n : Nat) (a : List (Bool)) : Option R90 := cond (decide ((0 + a.length) * (1 : Nat) ≤ (140737488355328 : Nat))) (some ((a, ()), ())) none
noncomputable def q90 (n : Nat) (x : argsD ps90) : Option R90 := p90 n x.1
noncomputable def Sm90 : Sm := ⟨ps90, rs90, false, q90⟩
noncomputable def S0_90 (n : Nat) (xs : List (Bool)) : St := (initS Try.f90.ntmps ps90 (xs, ())).put (some 2) (.one .nil)
noncomputable def S1_90 (n : Nat) (xs : List (Bool)) : St := (S0_90 n xs).put (some 3) (.one (.con ⟨4, .bool, xs⟩))
theorem gam0_90 : GamOK Try.prog (fun _ => none) := fun f s h => by cases h
theorem hh90 : Holds Try.prog 90 Sm90 := by
  refine holds_nilq tt_ok gam0_90 mixed (an := ⟨fun _ => ⟨[], []⟩, fun _ _ => none⟩) Try.func90 (by rfl) rfl (by first | exact Try.underlying23 | kernel_rfl) (by decide +kernel) S0_90 (fun n xs => by kernel_rfl) S1_90 (fun n xs => by kernel_rfl) (fun n xs => rfl) (fun n xs b => by kernel_rfl) (fun n y h => ?_) (fun n xs y h => ?_)
  · have h' : some (([], ()), ()) = some y := h
    refine Eq.trans ?_ h'
    kernel_rfl
  · have h' : cond (decide ((0 + xs.length) * (1 : Nat) ≤ (140737488355328 : Nat))) (some ((xs, ()), ())) none = some y := h
    refine Eq.trans ?_ h'
    kernel_rfl
end Go.Proofs.Ytfbdkjdockbfdaa.Rx.S
namespace Go.Proofs.Ytfbdkjdockbfdaa.Rx.S
open Go Go.RowKit Go.Proofs
set_option maxRecDepth 100000
noncomputable def c91 : Code := (Try.f91.body.getD .skip)
abbrev ps91 : List PK := [.val (.row 3 (.int .i64)) false]
abbrev rs91 : List RK := [.own (.row 3 (.int .i64)) false]
abbrev R91 := retsD rs91 × outsD ps91
noncomputable def p91 (n : Nat) (a : List (Int)) : Option R91 := cond (decide ((0 + a.length) * (8 : Nat) ≤ (140737488355328 : Nat))) (some ((a, ()), ())) none
noncomputable def q91 (n : Nat) (x : argsD ps91) : Option R91 := p91 n x.1
noncomputable def Sm91 : Sm := ⟨ps91, rs91, false, q91⟩
noncomputable def S0_91 (n : Nat) (xs : List (Int)) : St := (initS Try.f91.ntmps ps91 (xs, ())).put (some 2) (.one .nil)
noncomputable def S1_91 (n : Nat) (xs : List (Int)) : St := (S0_91 n xs).put (some 3) (.one (.con ⟨3, (.int .i64), xs⟩))
theorem gam0_91 : GamOK Try.prog (fun _ => none) := fun f s h => by cases h
theorem hh91 : Holds Try.prog 91 Sm91 := by
  refine holds_nilq tt_ok gam0_91 mixed (an := ⟨fun _ => ⟨[], []⟩, fun _ _ => none⟩) Try.func91 (by rfl) rfl (by first | exact Try.underlying24 | kernel_rfl) (by decide +kernel) S0_91 (fun n xs => by kernel_rfl) S1_91 (fun n xs => by kernel_rfl) (fun n xs => rfl) (fun n xs b => by kernel_rfl) (fun n y h => ?_) (fun n xs y h => ?_)
  · have h' : some (([], ()), ()) = some y := h
    refine Eq.trans ?_ h'
    kernel_rfl
  · have h' : cond (decide ((0 + xs.length) * (8 : Nat) ≤ (140737488355328 : Nat))) (some ((xs, ()), ())) none = some y := h
    refine Eq.trans ?_ h'
    kernel_rfl
end Go.Proofs.Ytfbdkjdockbfdaa.Rx.S
namespace Go.Proofs.Ytfbdkjdockbfdaa.Rx.S
open Go Go.RowKit Go.Proofs
set_option maxRecDepth 100000
noncomputable def c43 : Code := (Try.f43.body.getD .skip)
def an43 : An := ⟨fun _ => ⟨[], []⟩, fun _ _ => none⟩
abbrev ps43 : List PK := [.val tSg true]
abbrev rs43 : List RK := [.own tSg true]
abbrev R43 := retsD rs43 × outsD ps43
noncomputable def G43 : Gam := fun f => match f with | 90 => some Sm90 | 91 => some Sm91 | _ => none
theorem h0_43 (hg : GamOK Try.prog G43) : Holds Try.prog 43 ⟨ps43, rs43, false, runF TT G43 an43 Try.f43 c43 ps43 rs43⟩ := holds_of tt_ok hg mixed Try.func43 (by kernel_rfl) (by rfl) (by decide +kernel)
noncomputable def at43 : Nat → Pt → List Nat → St → Option R43 := atF TT G43 an43 Try.f43 c43 _ _
noncomputable def st43_top (n : Nat)  (a : List Bool × List Bool × List Int) : Option R43 :=
  (Go.Proofs.Ytfbdkjdockbfdaa.Rx.S.q90 n (a.fst, ())).bind fun r0 => (Go.Proofs.Ytfbdkjdockbfdaa.Rx.S.q90 n (a.snd.fst, ())).bind fun r1 => (Go.Proofs.Ytfbdkjdockbfdaa.Rx.S.q91 n (a.snd.snd, ())).bind fun r2 => some (((r0.fst.fst, (r1.fst.fst, r2.fst.fst)), ()), ())
theorem e43_top (n : Nat) (a : List Bool × List Bool × List Int) : runF TT G43 an43 Try.f43 c43 ps43 rs43 n (a, ()) = st43_top n  a := by kernel_rfl
noncomputable def p43 (n : Nat) (a : List Bool × List Bool × List Int) : Option R43 := st43_top n  a
theorem F43_eq (n : Nat) (a : List Bool × List Bool × List Int) : runF TT G43 an43 Try.f43 c43 ps43 rs43 n (a, ()) = p43 n a := by
  rw [e43_top]
  skip
  try rfl
noncomputable def q43 (n : Nat) (x : argsD ps43) : Option R43 := p43 n x.1
noncomputable def Sm43 : Sm := ⟨ps43, rs43, false, q43⟩
theorem holds43 (hg : GamOK Try.prog G43) : Holds Try.prog 43 Sm43 := by
  have := h0_43 hg
  have e : (runF TT G43 an43 Try.f43 c43 ps43 rs43) = q43 := by
    funext n x
    exact F43_eq n x.1
  rw [e] at this
  exact this
theorem gam43 : GamOK Try.prog G43 := by
  intro f s h
  unfold G43 at h
  split at h
  · injection h with h; subst h; exact ⟨⟨Try.f90, c90, Try.func90, by kernel_rfl, by decide +kernel⟩, hh90⟩
  · injection h with h; subst h; exact ⟨⟨Try.f91, c91, Try.func91, by kernel_rfl, by decide +kernel⟩, hh91⟩
  · cases h
theorem hh43 : Holds Try.prog 43 Sm43 := holds43 gam43
end Go.Proofs.Ytfbdkjdockbfdaa.Rx.S
namespace Go.Proofs.Ytfbdkjdockbfdaa.Rx.S
open Go Go.RowKit Go.Proofs
set_option maxRecDepth 100000
noncomputable def c92 : Code := (Try.f92.body.getD .skip)
def an92 : An := ⟨fun _ => ⟨[], []⟩, fun _ _ => none⟩
abbrev ps92 : List PK := [.val i64 false]
abbrev rs92 : List RK := [.val i64 false]
abbrev R92 := retsD rs92 × outsD ps92
noncomputable def G92 : Gam := fun _ => none
theorem h0_92 (hg : GamOK Try.prog G92) : Holds Try.prog 92 ⟨ps92, rs92, false, runF TT G92 an92 Try.f92 c92 ps92 rs92⟩ := holds_of tt_ok hg mixed Try.func92 (by kernel_rfl) (by rfl) (by decide +kernel)
noncomputable def at92 : Nat → Pt → List Nat → St → Option R92 := atF TT G92 an92 Try.f92 c92 _ _
noncomputable def st92_top (n : Nat)  (a : Int) : Option R92 :=
  cond (decide (a = (2 : Int))) (some (((2 : Int), ()), ())) (cond (decide (a = (6 : Int))) (some (((2 : Int), ()), ())) (cond (decide (a = (3 : Int))) (some (((3 : Int), ()), ())) (cond (decide (a = (4 : Int))) (some (((1 : Int), ()), ())) (cond (decide (a = (7 : Int))) (some (((1 : Int), ()), ())) (some (((0 : Int), ()), ()))))))
theorem e92_top (n : Nat) (a : Int) : runF TT G92 an92 Try.f92 c92 ps92 rs92 n (a, ()) = st92_top n  a := by kernel_rfl
noncomputable def p92 (n : Nat) (a : Int) : Option R92 := st92_top n  a
theorem F92_eq (n : Nat) (a : Int) : runF TT G92 an92 Try.f92 c92 ps92 rs92 n (a, ()) = p92 n a := by
  rw [e92_top]
  skip
  try rfl
noncomputable def q92 (n : Nat) (x : argsD ps92) : Option R92 := p92 n x.1
noncomputable def Sm92 : Sm := ⟨ps92, rs92, false, q92⟩
theorem holds92 (hg : GamOK Try.prog G92) : Holds Try.prog 92 Sm92 := by
  have := h0_92 hg
  have e : (runF TT G92 an92 Try.f92 c92 ps92 rs92) = q92 := by
    funext n x
    exact F92_eq n x.1
  rw [e] at this
  exact this
theorem gam92 : GamOK Try.prog G92 := fun _ _ h => by cases h
theorem hh92 : Holds Try.prog 92 Sm92 := holds92 gam92
end Go.Proofs.Ytfbdkjdockbfdaa.Rx.S
namespace Go.Proofs.Ytfbdkjdockbfdaa.Rx.S
open Go Go.RowKit Go.Proofs
set_option maxRecDepth 100000
noncomputable def c44 : Code := (Try.f44.body.getD .skip)
def an44 : An := ⟨fun _ => ⟨[], []⟩, fun _ _ => none⟩
abbrev ps44 : List PK := [.val tSg true, .val i64 false]
abbrev rs44 : List RK := [.val i64 false]
abbrev R44 := retsD rs44 × outsD ps44
noncomputable def G44 : Gam := fun f => match f with | 92 => some Sm92 | _ => none
theorem h0_44 (hg : GamOK Try.prog G44) : Holds Try.prog 44 ⟨ps44, rs44, false, runF TT G44 an44 Try.f44 c44 ps44 rs44⟩ := holds_of tt_ok hg mixed Try.func44 (by kernel_rfl) (by rfl) (by decide +kernel)
noncomputable def at44 : Nat → Pt → List Nat → St → Option R44 := atF TT G44 an44 Try.f44 c44 _ _
noncomputable def st44_top (n : Nat)  (a : List Bool × List Bool × List Int) (b : Int) : Option R44 :=
  cond (decide ((0 : Int) ≤ Go.IntKind.i64.wrap (b - (1 : Int)))) (cond (decide (Go.IntKind.i64.wrap (b - (1 : Int)) < (↑(List.length a.snd.snd) : Int))) (cond (decide (List.getD a.snd.snd (Go.IntKind.i64.wrap (b - (1 : Int))).toNat (0 : Int) = (0 : Int))) ((Go.Proofs.Ytfbdkjdockbfdaa.Rx.S.q92 n (b, ())).bind fun r0 => some ((r0.fst.fst, ()), ())) (cond (decide ((0 : Int) ≤ Go.IntKind.i64.wrap (b - (1 : Int)))) (cond (decide (Go.IntKind.i64.wrap (b - (1 : Int)) < (↑(List.length a.snd.snd) : Int))) (some ((List.getD a.snd.snd (Go.IntKind.i64.wrap (b - (1 : Int))).toNat (0 : Int), ()), ())) (none)) (none))) (none)) (none)
theorem e44_top (n : Nat) (a : List Bool × List Bool × List Int) (b : Int) : runF TT G44 an44 Try.f44 c44 ps44 rs44 n (a, b, ()) = st44_top n  a b := by kernel_rfl
noncomputable def p44 (n : Nat) (a : List Bool × List Bool × List Int) (b : Int) : Option R44 := st44_top n  a b
theorem F44_eq (n : Nat) (a : List Bool × List Bool × List Int) (b : Int) : runF TT G44 an44 Try.f44 c44 ps44 rs44 n (a, b, ()) = p44 n a b := by
  rw [e44_top]
  skip
  try rfl
noncomputable def q44 (n : Nat) (x : argsD ps44) : Option R44 := p44 n x.1 x.2.1
noncomputable def Sm44 : Sm := ⟨ps44, rs44, false, q44⟩
theorem holds44 (hg : GamOK Try.prog G44) : Holds Try.prog 44 Sm44 := by
  have := h0_44 hg
  have e : (runF TT G44 an44 Try.f44 c44 ps44 rs44) = q44 := by
    funext n x
    exact F44_eq n x.1 x.2.1
  rw [e] at this
  exact this
theorem gam44 : GamOK Try.prog G44 := by
  intro f s h
  unfold G44 at h
  split at h
  · injection h with h; subst h; exact ⟨⟨Try.f92, c92, Try.func92, by kernel_rfl, by decide +kernel⟩, hh92⟩
  · cases h
theorem hh44 : Holds Try.prog 44 Sm44 := holds44 gam44
end Go.Proofs.Ytfbdkjdockbfdaa.Rx.S
namespace Go.Proofs.Ytfbdkjdockbfdaa.Rx.S
open Go Go.RowKit Go.Proofs
set_option maxRecDepth 100000
noncomputable def c10 : Code := (Try.f10.body.getD .skip)
def an10 : An := ⟨fun _ => ⟨[], []⟩, fun _ _ => none⟩
abbrev ps10 : List PK := [.val tSg true, .val i64 false]
abbrev rs10 : List RK := [.own tSg true, .val .bool false]
abbrev R10 := retsD rs10 × outsD ps10
noncomputable def G10 : Gam := fun f => match f with | 41 => some Sm41 | 42 => some Sm42 | 43 => some Sm43 | 44 => some Sm44 | _ => none
theorem h0_10 (hg : GamOK Try.prog G10) : Holds Try.prog 10 ⟨ps10, rs10, false, runF TT G10 an10 Try.f10 c10 ps10 rs10⟩ := holds_of tt_ok hg mixed Try.func10 (by kernel_rfl) (by rfl) (by decide +kernel)
noncomputable def at10 : Nat → Pt → List Nat → St → Option R10 := atF TT G10 an10 Try.f10 c10 _ _
noncomputable def st10_top (n : Nat)  (a : List Bool × List Bool × List Int) (b : Int) : Option R10 :=
  (Go.Proofs.Ytfbdkjdockbfdaa.Rx.S.q41 n ((a.fst, a.snd.fst, a.snd.snd), ())).bind fun r0 => cond (!r0.fst.fst) (some ((([], ([], [])), (false, ())), ())) ((Go.Proofs.Ytfbdkjdockbfdaa.Rx.S.q42 n (b, (1 : Int), (8 : Int), ())).bind fun r1 => cond (!r1.fst.fst) (some ((([], ([], [])), (false, ())), ())) ((Go.Proofs.Ytfbdkjdockbfdaa.Rx.S.q43 n ((a.fst, a.snd.fst, a.snd.snd), ())).bind fun r2 => cond (decide (b = (2 : Int))) (cond (decide ((2 : Int) < (↑(List.length r2.fst.fst.fst) : Int))) (cond (decide ((0 : Int) ≤ Go.IntKind.i64.wrap (b - (1 : Int)))) (cond (decide (Go.IntKind.i64.wrap (b - (1 : Int)) < (↑(List.length a.snd.fst) : Int))) (cond (List.getD a.snd.fst (Go.IntKind.i64.wrap (b - (1 : Int))).toNat false) (cond (decide ((0 : Int) ≤ Go.IntKind.i64.wrap (b - (1 : Int)))) (cond (decide (Go.IntKind.i64.wrap (b - (1 : Int)) < (↑(List.set r2.fst.fst.fst (Int.toNat (2 : Int)) false).length : Int))) (some ((((List.set r2.fst.fst.fst (Int.toNat (2 : Int)) false).set (Go.IntKind.i64.wrap (b - (1 : Int))).toNat true, (r2.fst.fst.snd.fst, r2.fst.fst.snd.snd)), (true, ())), ())) (none)) (none)) ((Go.Proofs.Ytfbdkjdockbfdaa.Rx.S.q44 n ((a.fst, a.snd.fst, a.snd.snd), b, ())).bind fun r3 => cond (!decide (r3.fst.fst = (1 : Int))) (cond (decide ((0 : Int) ≤ Go.IntKind.i64.wrap (b - (1 : Int)))) (cond (decide (Go.IntKind.i64.wrap (b - (1 : Int)) < (↑(List.set r2.fst.fst.fst (Int.toNat (2 : Int)) false).length : Int))) (some ((((List.set r2.fst.fst.fst (Int.toNat (2 : Int)) false).set (Go.IntKind.i64.wrap (b - (1 : Int))).toNat true, (r2.fst.fst.snd.fst, r2.fst.fst.snd.snd)), (true, ())), ())) (none)) (none)) (some (((List.set r2.fst.fst.fst (Int.toNat (2 : Int)) false, (r2.fst.fst.snd.fst, r2.fst.fst.snd.snd)), (true, ())), ())))) (none)) (none)) (none)) (cond (decide (b = (6 : Int))) (cond (decide ((2 : Int) < (↑(List.length r2.fst.fst.fst) : Int))) (cond (decide ((0 : Int) ≤ Go.IntKind.i64.wrap (b - (1 : Int)))) (cond (decide (Go.IntKind.i64.wrap (b - (1 : Int)) < (↑(List.length a.snd.fst) : Int))) (cond (List.getD a.snd.fst (Go.IntKind.i64.wrap (b - (1 : Int))).toNat false) (cond (decide ((0 : Int) ≤ Go.IntKind.i64.wrap (b - (1 : Int)))) (cond (decide (Go.IntKind.i64.wrap (b - (1 : Int)) < (↑(List.set r2.fst.fst.fst (Int.toNat (2 : Int)) false).length : Int))) (some ((((List.set r2.fst.fst.fst (Int.toNat (2 : Int)) false).set (Go.IntKind.i64.wrap (b - (1 : Int))).toNat true, (r2.fst.fst.snd.fst, r2.fst.fst.snd.snd)), (true, ())), ())) (none)) (none)) ((Go.Proofs.Ytfbdkjdockbfdaa.Rx.S.q44 n ((a.fst, a.snd.fst, a.snd.snd), b, ())).bind fun r4 => cond (!decide (r4.fst.fst = (1 : Int))) (cond (decide ((0 : Int) ≤ Go.IntKind.i64.wrap (b - (1 : Int)))) (cond (decide (Go.IntKind.i64.wrap (b - (1 : Int)) < (↑(List.set r2.fst.fst.fst (Int.toNat (2 : Int)) false).length : Int))) (some ((((List.set r2.fst.fst.fst (Int.toNat (2 : Int)) false).set (Go.IntKind.i64.wrap (b - (1 : Int))).toNat true, (r2.fst.fst.snd.fst, r2.fst.fst.snd.snd)), (true, ())), ())) (none)) (none)) (some (((List.set r2.fst.fst.fst (Int.toNat (2 : Int)) false, (r2.fst.fst.snd.fst, r2.fst.fst.snd.snd)), (true, ())), ())))) (none)) (none)) (none)) (cond (decide (b = (3 : Int))) (cond (decide ((1 : Int) < (↑(List.length r2.fst.fst.fst) : Int))) (cond (decide ((5 : Int) < (↑(List.set r2.fst.fst.fst (Int.toNat (1 : Int)) false).length : Int))) (cond (decide ((0 : Int) ≤ Go.IntKind.i64.wrap (b - (1 : Int)))) (cond (decide (Go.IntKind.i64.wrap (b - (1 : Int)) < (↑(List.length a.snd.fst) : Int))) (cond (List.getD a.snd.fst (Go.IntKind.i64.wrap (b - (1 : Int))).toNat false) (cond (decide ((0 : Int) ≤ Go.IntKind.i64.wrap (b - (1 : Int)))) (cond (decide   (Go.IntKind.i64.wrap (b - (1 : Int)) <     (↑((List.set r2.fst.fst.fst (Int.toNat (1 : Int)) false).set (Int.toNat (5 : Int)) false).length : Int))) (some (((((List.set r2.fst.fst.fst (Int.toNat (1 : Int)) false).set (Int.toNat (5 : Int)) false).set   (Go.IntKind.i64.wrap (b - (1 : Int))).toNat true, (r2.fst.fst.snd.fst, r2.fst.fst.snd.snd)), (true, ())), ())) (none)) (none)) ((Go.Proofs.Ytfbdkjdockbfdaa.Rx.S.q44 n ((a.fst, a.snd.fst, a.snd.snd), b, ())).bind fun r5 => cond (!decide (r5.fst.fst = (1 : Int))) (cond (decide ((0 : Int) ≤ Go.IntKind.i64.wrap (b - (1 : Int)))) (cond (decide   (Go.IntKind.i64.wrap (b - (1 : Int)) <     (↑((List.set r2.fst.fst.fst (Int.toNat (1 : Int)) false).set (Int.toNat (5 : Int)) false).length : Int))) (some (((((List.set r2.fst.fst.fst (Int.toNat (1 : Int)) false).set (Int.toNat (5 : Int)) false).set   (Go.IntKind.i64.wrap (b - (1 : Int))).toNat true, (r2.fst.fst.snd.fst, r2.fst.fst.snd.snd)), (true, ())), ())) (none)) (none)) (some ((((List.set r2.fst.fst.fst (Int.toNat (1 : Int)) false).set (Int.toNat (5 : Int)) false, (r2.fst.fst.snd.fst, r2.fst.fst.snd.snd)), (true, ())), ())))) (none)) (none)) (none)) (none)) (cond (decide ((0 : Int) ≤ Go.IntKind.i64.wrap (b - (1 : Int)))) (cond (decide (Go.IntKind.i64.wrap (b - (1 : Int)) < (↑(List.length a.snd.fst) : Int))) (cond (List.getD a.snd.fst (Go.IntKind.i64.wrap (b - (1 : Int))).toNat false) (cond (decide ((0 : Int) ≤ Go.IntKind.i64.wrap (b - (1 : Int)))) (cond (decide (Go.IntKind.i64.wrap (b - (1 : Int)) < (↑(List.length r2.fst.fst.fst) : Int))) (some (((List.set r2.fst.fst.fst (Go.IntKind.i64.wrap (b - (1 : Int))).toNat true, (r2.fst.fst.snd.fst, r2.fst.fst.snd.snd)), (true, ())), ())) (none)) (none)) ((Go.Proofs.Ytfbdkjdockbfdaa.Rx.S.q44 n ((a.fst, a.snd.fst, a.snd.snd), b, ())).bind fun r6 => cond (!decide (r6.fst.fst = (1 : Int))) (cond (decide ((0 : Int) ≤ Go.IntKind.i64.wrap (b - (1 : Int)))) (cond (decide (Go.IntKind.i64.wrap (b - (1 : Int)) < (↑(List.length r2.fst.fst.fst) : Int))) (some (((List.set r2.fst.fst.fst (Go.IntKind.i64.wrap (b - (1 : Int))).toNat true, (r2.fst.fst.snd.fst, r2.fst.fst.snd.snd)), (true, ())), ())) (none)) (none)) (some (((r2.fst.fst.fst, (r2.fst.fst.snd.fst, r2.fst.fst.snd.snd)), (true, ())), ())))) (none)) (none))))))
theorem e10_top (n : Nat) (a : List Bool × List Bool × List Int) (b : Int) : runF TT G10 an10 Try.f10 c10 ps10 rs10 n (a, b, ()) = st10_top n  a b := by kernel_rfl
noncomputable def p10 (n : Nat) (a : List Bool × List Bool × List Int) (b : Int) : Option R10 := st10_top n  a b
theorem F10_eq (n : Nat) (a : List Bool × List Bool × List Int) (b : Int) : runF TT G10 an10 Try.f10 c10 ps10 rs10 n (a, b, ()) = p10 n a b := by
  rw [e10_top]
  skip
  try rfl
noncomputable def q10 (n : Nat) (x : argsD ps10) : Option R10 := p10 n x.1 x.2.1
noncomputable def Sm10 : Sm := ⟨ps10, rs10, false, q10⟩
theorem holds10 (hg : GamOK Try.prog G10) : Holds Try.prog 10 Sm10 := by
  have := h0_10 hg
  have e : (runF TT G10 an10 Try.f10 c10 ps10 rs10) = q10 := by
    funext n x
    exact F10_eq n x.1 x.2.1
  rw [e] at this
  exact this
theorem gam10 : GamOK Try.prog G10 := by
  intro f s h
  unfold G10 at h
  split at h
  · injection h with h; subst h; exact ⟨⟨Try.f41, c41, Try.func41, by kernel_rfl, by decide +kernel⟩, hh41⟩
  · injection h with h; subst h; exact ⟨⟨Try.f42, c42, Try.func42, by kernel_rfl, by decide +kernel⟩, hh42⟩
  · injection h with h; subst h; exact ⟨⟨Try.f43, c43, Try.func43, by kernel_rfl, by decide +kernel⟩, hh43⟩
  · injection h with h; subst h; exact ⟨⟨Try.f44, c44, Try.func44, by kernel_rfl, by decide +kernel⟩, hh44⟩
  · cases h
theorem hh10 : Holds Try.prog 10 Sm10 := holds10 gam10
end Go.Proofs.Ytfbdkjdockbfdaa.Rx.S
namespace Go.Proofs.Ytfbdkjdockbfdaa.Rx.S
open Go Go.RowKit Go.Proofs
set_option maxRecDepth 100000
noncomputable def c45 : Code := (Try.f45.body.getD .skip)
def an45 : An := ⟨fun r => match r with | 4 => ⟨[1, 3], []⟩ | _ => ⟨[], []⟩, fun _ _ => none⟩
abbrev ps45 : List PK := [.val tSg true]
abbrev rs45 : List RK := [.val .bool false]
abbrev R45 := retsD rs45 × outsD ps45
noncomputable def G45 : Gam := fun f => match f with | 89 => some Sm89 | _ => none
theorem h0_45 (hg : GamOK Try.prog G45) : Holds Try.prog 45 ⟨ps45, rs45, false, runF TT G45 an45 Try.f45 c45 ps45 rs45⟩ := holds_of tt_ok hg mixed Try.func45 (by kernel_rfl) (by rfl) (by decide +kernel)
noncomputable def at45 : Nat → Pt → List Nat → St → Option R45 := atF TT G45 an45 Try.f45 c45 _ _
def sh45_L4 (x0 : Int) (x1 : List Bool) (x2 : List Bool) (x3 : List Int) : St := (Go.Proofs.Ytfbdkjdockbfdaa.Rx.St.mk (Go.Proofs.Ytfbdkjdockbfdaa.Rx.AV.undef :: ((Go.Proofs.Ytfbdkjdockbfdaa.Rx.AV.one (Go.Proofs.Ytfbdkjdockbfdaa.Rx.SV.bptr 1000000 0)) :: (Go.Proofs.Ytfbdkjdockbfdaa.Rx.AV.undef :: ((Go.Proofs.Ytfbdkjdockbfdaa.Rx.AV.one (Go.Proofs.Ytfbdkjdockbfdaa.Rx.SV.int (Go.IntKind.i64) x0)) :: (Go.Proofs.Ytfbdkjdockbfdaa.Rx.AV.undef :: (Go.Proofs.Ytfbdkjdockbfdaa.Rx.AV.undef :: (Go.Proofs.Ytfbdkjdockbfdaa.Rx.AV.undef :: (Go.Proofs.Ytfbdkjdockbfdaa.Rx.AV.undef :: (Go.Proofs.Ytfbdkjdockbfdaa.Rx.AV.undef :: (Go.Proofs.Ytfbdkjdockbfdaa.Rx.AV.undef :: (Go.Proofs.Ytfbdkjdockbfdaa.Rx.AV.undef :: (Go.Proofs.Ytfbdkjdockbfdaa.Rx.AV.undef :: (Go.Proofs.Ytfbdkjdockbfdaa.Rx.AV.undef :: (Go.Proofs.Ytfbdkjdockbfdaa.Rx.AV.undef :: (Go.Proofs.Ytfbdkjdockbfdaa.Rx.AV.undef :: (Go.Proofs.Ytfbdkjdockbfdaa.Rx.AV.undef :: (Go.Proofs.Ytfbdkjdockbfdaa.Rx.AV.undef :: (Go.Proofs.Ytfbdkjdockbfdaa.Rx.AV.undef :: (Go.Proofs.Ytfbdkjdockbfdaa.Rx.AV.undef :: (Go.Proofs.Ytfbdkjdockbfdaa.Rx.AV.undef :: (Go.Proofs.Ytfbdkjdockbfdaa.Rx.AV.undef :: (Go.Proofs.Ytfbdkjdockbfdaa.Rx.AV.undef :: (Go.Proofs.Ytfbdkjdockbfdaa.Rx.AV.undef :: (Go.Proofs.Ytfbdkjdockbfdaa.Rx.AV.undef :: (Go.Proofs.Ytfbdkjdockbfdaa.Rx.AV.undef :: (Go.Proofs.Ytfbdkjdockbfdaa.Rx.AV.undef :: (Go.Proofs.Ytfbdkjdockbfdaa.Rx.AV.undef :: (Go.Proofs.Ytfbdkjdockbfdaa.Rx.AV.undef :: (Go.Proofs.Ytfbdkjdockbfdaa.Rx.AV.undef :: (Go.Proofs.Ytfbdkjdockbfdaa.Rx.AV.undef :: (Go.Proofs.Ytfbdkjdockbfdaa.Rx.AV.undef :: (Go.Proofs.Ytfbdkjdockbfdaa.Rx.AV.undef :: (Go.Proofs.Ytfbdkjdockbfdaa.Rx.AV.undef :: (Go.Proofs.Ytfbdkjdockbfdaa.Rx.AV.undef :: (Go.Proofs.Ytfbdkjdockbfdaa.Rx.AV.undef :: (Go.Proofs.Ytfbdkjdockbfdaa.Rx.AV.undef :: (Go.Proofs.Ytfbdkjdockbfdaa.Rx.AV.undef :: (Go.Proofs.Ytfbdkjdockbfdaa.Rx.AV.undef :: (Go.Proofs.Ytfbdkjdockbfdaa.Rx.AV.undef :: (Go.Proofs.Ytfbdkjdockbfdaa.Rx.AV.undef :: (Go.Proofs.Ytfbdkjdockbfdaa.Rx.AV.undef :: (Go.Proofs.Ytfbdkjdockbfdaa.Rx.AV.undef :: (Go.Proofs.Ytfbdkjdockbfdaa.Rx.AV.undef :: (Go.Proofs.Ytfbdkjdockbfdaa.Rx.AV.undef :: (Go.Proofs.Ytfbdkjdockbfdaa.Rx.AV.undef :: (Go.Proofs.Ytfbdkjdockbfdaa.Rx.AV.undef :: (Go.Proofs.Ytfbdkjdockbfdaa.Rx.AV.undef :: (Go.Proofs.Ytfbdkjdockbfdaa.Rx.AV.undef :: (Go.Proofs.Ytfbdkjdockbfdaa.Rx.AV.undef :: (Go.Proofs.Ytfbdkjdockbfdaa.Rx.AV.undef :: (Go.Proofs.Ytfbdkjdockbfdaa.Rx.AV.undef :: (Go.Proofs.Ytfbdkjdockbfdaa.Rx.AV.undef :: (Go.Proofs.Ytfbdkjdockbfdaa.Rx.AV.undef :: (Go.Proofs.Ytfbdkjdockbfdaa.Rx.AV.undef :: (Go.Proofs.Ytfbdkjdockbfdaa.Rx.AV.undef :: (Go.Proofs.Ytfbdkjdockbfdaa.Rx.AV.undef :: [])))))))))))))))))))))))))))))))))))))))))))))))))))))))) ((1000000, (Go.Proofs.Ytfbdkjdockbfdaa.Rx.Ent.box ((Go.Proofs.Ytfbdkjdockbfdaa.Rx.SV.con (⟨4, Go.Proofs.Ytfbdkjdockbfdaa.Rx.Ty.bool, x1⟩ : Rw)) :: ((Go.Proofs.Ytfbdkjdockbfdaa.Rx.SV.con (⟨4, Go.Proofs.Ytfbdkjdockbfdaa.Rx.Ty.bool, x2⟩ : Rw)) :: ((Go.Proofs.Ytfbdkjdockbfdaa.Rx.SV.con (⟨3, Go.Proofs.Ytfbdkjdockbfdaa.Rx.Ty.int Go.IntKind.i64, x3⟩ : Rw)) :: []))))) :: []))
noncomputable def st45_top (n : Nat) (lL4 : Int → (List Bool) → (List Bool) → (List Int) → Option R45) (a : List Bool × List Bool × List Int) : Option R45 :=
  cond (!decide ((↑(List.length a.fst) : Int) = (8 : Int))) (some ((false, ()), ())) (cond (!decide ((↑(List.length a.snd.fst) : Int) = (8 : Int))) (some ((false, ()), ())) (cond (!decide ((↑(List.length a.snd.snd) : Int) = (8 : Int))) (some ((false, ()), ())) (lL4 ((0 : Int)) (a.fst) (a.snd.fst) (a.snd.snd))))
noncomputable def st45_L4 (n : Nat) (lL4 : Int → (List Bool) → (List Bool) → (List Int) → Option R45) (x0 : Int) (x1 : List Bool) (x2 : List Bool) (x3 : List Int) : Option R45 :=
  cond (decide (x0 < (8 : Int))) (cond (decide ((0 : Int) ≤ x0)) (cond (decide (x0 < (↑x3.length : Int))) (cond (!decide (x3.getD x0.toNat (0 : Int) = (0 : Int))) (cond (!decide (x3.getD x0.toNat (0 : Int) = (1 : Int))) (cond (!decide (x3.getD x0.toNat (0 : Int) = (4 : Int))) (some ((false, ()), ())) ((Go.Proofs.Ytfbdkjdockbfdaa.Rx.S.q89 n (Go.IntKind.i64.wrap (x0 + (1 : Int)), ())).bind fun r1 => cond (r1.fst.fst) (cond (decide ((0 : Int) ≤ x0)) (cond (decide (x0 < (↑x2.length : Int))) (cond (x2.getD x0.toNat false) (some ((false, ()), ())) (cond (!decide (x3.getD x0.toNat (0 : Int) = (0 : Int))) (some ((false, ()), ())) (lL4 (Go.IntKind.i64.wrap (x0 + (1 : Int))) (x1) (x2) (x3)))) (none)) (none)) (lL4 (Go.IntKind.i64.wrap (x0 + (1 : Int))) (x1) (x2) (x3)))) ((Go.Proofs.Ytfbdkjdockbfdaa.Rx.S.q89 n (Go.IntKind.i64.wrap (x0 + (1 : Int)), ())).bind fun r2 => cond (r2.fst.fst) (cond (decide ((0 : Int) ≤ x0)) (cond (decide (x0 < (↑x2.length : Int))) (cond (x2.getD x0.toNat false) (some ((false, ()), ())) (cond (!decide (x3.getD x0.toNat (0 : Int) = (0 : Int))) (some ((false, ()), ())) (lL4 (Go.IntKind.i64.wrap (x0 + (1 : Int))) (x1) (x2) (x3)))) (none)) (none)) (lL4 (Go.IntKind.i64.wrap (x0 + (1 : Int))) (x1) (x2) (x3)))) ((Go.Proofs.Ytfbdkjdockbfdaa.Rx.S.q89 n (Go.IntKind.i64.wrap (x0 + (1 : Int)), ())).bind fun r3 => cond (r3.fst.fst) (cond (decide ((0 : Int) ≤ x0)) (cond (decide (x0 < (↑x2.length : Int))) (cond (x2.getD x0.toNat false) (some ((false, ()), ())) (cond (!decide (x3.getD x0.toNat (0 : Int) = (0 : Int))) (some ((false, ()), ())) (lL4 (Go.IntKind.i64.wrap (x0 + (1 : Int))) (x1) (x2) (x3)))) (none)) (none)) (lL4 (Go.IntKind.i64.wrap (x0 + (1 : Int))) (x1) (x2) (x3)))) (none)) (none)) (some ((true, ()), ()))
theorem e45_top (n : Nat) (a : List Bool × List Bool × List Int) : runF TT G45 an45 Try.f45 c45 ps45 rs45 n (a, ()) = st45_top n (fun x0 x1 x2 x3 => at45 n (.head 4) [n] (sh45_L4 x0 x1 x2 x3)) a := by kernel_rfl
theorem e45_L4_0 (n : Nat) (x0 : Int) (x1 : List Bool) (x2 : List Bool) (x3 : List Int) : at45 n (.head 4) [0] (sh45_L4 x0 x1 x2 x3) = none := by kernel_rfl
theorem e45_L4 (n : Nat) (m4 : Nat) (x0 : Int) (x1 : List Bool) (x2 : List Bool) (x3 : List Int) : at45 n (.head 4) [m4 + 1] (sh45_L4 x0 x1 x2 x3) = st45_L4 n (fun x0 x1 x2 x3 => at45 n (.head 4) [m4] (sh45_L4 x0 x1 x2 x3)) x0 x1 x2 x3 := by kernel_rfl
noncomputable def p45_L4 (n : Nat) : Nat → Int → (List Bool) → (List Bool) → (List Int) → Option R45
  | 0, _, _, _, _ => none
  | m + 1, x0, x1, x2, x3 => st45_L4 n (p45_L4 n m) x0 x1 x2 x3
noncomputable def p45 (n : Nat) (a : List Bool × List Bool × List Int) : Option R45 := st45_top n (p45_L4 n n) a
theorem t45_L4 (n : Nat) : ∀ (m4 : Nat) (x0 : Int) (x1 : List Bool) (x2 : List Bool) (x3 : List Int), at45 n (.head 4) [m4] (sh45_L4 x0 x1 x2 x3) = p45_L4  n m4 x0 x1 x2 x3 := by
  intro m
  induction m with
  | zero => intros; rw [e45_L4_0]; rfl
  | succ m ih =>
    intros
    rw [e45_L4]
    try simp only [ih]
    rfl
theorem F45_eq (n : Nat) (a : List Bool × List Bool × List Int) : runF TT G45 an45 Try.f45 c45 ps45 rs45 n (a, ()) = p45 n a := by
  rw [e45_top]
  simp only [t45_L4]
  try rfl
noncomputable def q45 (n : Nat) (x : argsD ps45) : Option R45 := p45 n x.1
noncomputable def Sm45 : Sm := ⟨ps45, rs45, false, q45⟩
theorem holds45 (hg : GamOK Try.prog G45) : Holds Try.prog 45 Sm45 := by
  have := h0_45 hg
  have e : (runF TT G45 an45 Try.f45 c45 ps45 rs45) = q45 := by
    funext n x
    exact F45_eq n x.1
  rw [e] at this
  exact this
theorem gam45 : GamOK Try.prog G45 := by
  intro f s h
  unfold G45 at h
  split at h
  · injection h with h; subst h; exact ⟨⟨Try.f89, c89, Try.func89, by kernel_rfl, by decide +kernel⟩, hh89⟩
  · cases h
theorem hh45 : Holds Try.prog 45 Sm45 := holds45 gam45
end Go.Proofs.Ytfbdkjdockbfdaa.Rx.S
namespace Go.Proofs.Ytfbdkjdockbfdaa.Rx.S
open Go Go.RowKit Go.Proofs
set_option maxRecDepth 100000
noncomputable def c46 : Code := (Try.f46.body.getD .skip)
def an46 : An := ⟨fun _ => ⟨[], []⟩, fun _ _ => none⟩
abbrev ps46 : List PK := [.val i64 false, .val i64 false, .val i64 false]
abbrev rs46 : List RK := [.val .bool false]
abbrev R46 := retsD rs46 × outsD ps46
noncomputable def G46 : Gam := fun _ => none
theorem h0_46 (hg : GamOK Try.prog G46) : Holds Try.prog 46 ⟨ps46, rs46, false, runF TT G46 an46 Try.f46 c46 ps46 rs46⟩ := holds_of tt_ok hg mixed Try.func46 (by kernel_rfl) (by rfl) (by decide +kernel)
noncomputable def at46 : Nat → Pt → List Nat → St → Option R46 := atF TT G46 an46 Try.f46 c46 _ _
noncomputable def st46_top (n : Nat)  (a : Int) (b : Int) (c : Int) : Option R46 :=
  cond (decide (b ≤ a)) (some ((decide (a ≤ c), ()), ())) (some ((false, ()), ()))
theorem e46_top (n : Nat) (a : Int) (b : Int) (c : Int) : runF TT G46 an46 Try.f46 c46 ps46 rs46 n (a, b, c, ()) = st46_top n  a b c := by kernel_rfl
noncomputable def p46 (n : Nat) (a : Int) (b : Int) (c : Int) : Option R46 := st46_top n  a b c
theorem F46_eq (n : Nat) (a : Int) (b : Int) (c : Int) : runF TT G46 an46 Try.f46 c46 ps46 rs46 n (a, b, c, ()) = p46 n a b c := by
  rw [e46_top]
  skip
  try rfl
noncomputable def q46 (n : Nat) (x : argsD ps46) : Option R46 := p46 n x.1 x.2.1 x.2.2.1
noncomputable def Sm46 : Sm := ⟨ps46, rs46, false, q46⟩
theorem holds46 (hg : GamOK Try.prog G46) : Holds Try.prog 46 Sm46 := by
  have := h0_46 hg
  have e : (runF TT G46 an46 Try.f46 c46 ps46 rs46) = q46 := by
    funext n x
    exact F46_eq n x.1 x.2.1 x.2.2.1
  rw [e] at this
  exact this
theorem gam46 : GamOK Try.prog G46 := fun _ _ h => by cases h
theorem hh46 : Holds Try.prog 46 Sm46 := holds46 gam46
end Go.Proofs.Ytfbdkjdockbfdaa.Rx.S
namespace Go.Proofs.Ytfbdkjdockbfdaa.Rx.S
open Go Go.RowKit Go.Proofs
set_option maxRecDepth 100000
noncomputable def c93 : Code := (Try.f93.body.getD .skip)
def an93 : An := ⟨fun _ => ⟨[], []⟩, fun _ _ => none⟩
abbrev ps93 : List PK := [.val tSg true, .val i64 false]
abbrev rs93 : List RK := [.val i64 false]
abbrev R93 := retsD rs93 × outsD ps93
noncomputable def G93 : Gam := fun _ => none
theorem h0_93 (hg : GamOK Try.prog G93) : Holds Try.prog 93 ⟨ps93, rs93, false, runF TT G93 an93 Try.f93 c93 ps93 rs93⟩ := holds_of tt_ok hg mixed Try.func93 (by kernel_rfl) (by rfl) (by decide +kernel)
noncomputable def at93 : Nat → Pt → List Nat → St → Option R93 := atF TT G93 an93 Try.f93 c93 _ _
noncomputable def st93_top (n : Nat)  (a : List Bool × List Bool × List Int) (b : Int) : Option R93 :=
  cond (decide ((0 : Int) ≤ Go.IntKind.i64.wrap (b - (1 : Int)))) (cond (decide (Go.IntKind.i64.wrap (b - (1 : Int)) < (↑(List.length a.snd.snd) : Int))) (cond (!decide (List.getD a.snd.snd (Go.IntKind.i64.wrap (b - (1 : Int))).toNat (0 : Int) = (0 : Int))) (cond (decide ((0 : Int) ≤ Go.IntKind.i64.wrap (b - (1 : Int)))) (cond (decide (Go.IntKind.i64.wrap (b - (1 : Int)) < (↑(List.length a.snd.snd) : Int))) (some ((List.getD a.snd.snd (Go.IntKind.i64.wrap (b - (1 : Int))).toNat (0 : Int), ()), ())) (none)) (none)) (cond (decide (b = (2 : Int))) (some (((2 : Int), ()), ())) (cond (decide (b = (6 : Int))) (some (((2 : Int), ()), ())) (cond (decide (b = (3 : Int))) (some (((3 : Int), ()), ())) (cond (decide (b = (4 : Int))) (some (((1 : Int), ()), ())) (cond (decide (b = (7 : Int))) (some (((1 : Int), ()), ())) (some (((0 : Int), ()), ())))))))) (none)) (none)
theorem e93_top (n : Nat) (a : List Bool × List Bool × List Int) (b : Int) : runF TT G93 an93 Try.f93 c93 ps93 rs93 n (a, b, ()) = st93_top n  a b := by kernel_rfl
noncomputable def p93 (n : Nat) (a : List Bool × List Bool × List Int) (b : Int) : Option R93 := st93_top n  a b
theorem F93_eq (n : Nat) (a : List Bool × List Bool × List Int) (b : Int) : runF TT G93 an93 Try.f93 c93 ps93 rs93 n (a, b, ()) = p93 n a b := by
  rw [e93_top]
  skip
  try rfl
noncomputable def q93 (n : Nat) (x : argsD ps93) : Option R93 := p93 n x.1 x.2.1
noncomputable def Sm93 : Sm := ⟨ps93, rs93, false, q93⟩
theorem holds93 (hg : GamOK Try.prog G93) : Holds Try.prog 93 Sm93 := by
  have := h0_93 hg
  have e : (runF TT G93 an93 Try.f93 c93 ps93 rs93) = q93 := by
    funext n x
    exact F93_eq n x.1 x.2.1
  rw [e] at this
  exact this
theorem gam93 : GamOK Try.prog G93 := fun _ _ h => by cases h
theorem hh93 : Holds Try.prog 93 Sm93 := holds93 gam93
end Go.Proofs.Ytfbdkjdockbfdaa.Rx.S
namespace Go.Proofs.Ytfbdkjdockbfdaa.Rx.S
open Go Go.RowKit Go.Proofs
set_option maxRecDepth 100000
noncomputable def c47 : Code := (Try.f47.body.getD .skip)
def an47 : An := ⟨fun _ => ⟨[], []⟩, fun _ _ => none⟩
abbrev ps47 : List PK := [.own tSg true, .val i64 false]
abbrev rs47 : List RK := [.own tSg true]
abbrev R47 := retsD rs47 × outsD ps47
noncomputable def G47 : Gam := fun f => match f with | 93 => some Sm93 | _ => none
theorem h0_47 (hg : GamOK Try.prog G47) : Holds Try.prog 47 ⟨ps47, rs47, false, runF TT G47 an47 Try.f47 c47 ps47 rs47⟩ := holds_of tt_ok hg mixed Try.func47 (by kernel_rfl) (by rfl) (by decide +kernel)
noncomputable def at47 : Nat → Pt → List Nat → St → Option R47 := atF TT G47 an47 Try.f47 c47 _ _
noncomputable def st47_top (n : Nat)  (a : List Bool × List Bool × List Int) (b : Int) : Option R47 :=
  cond (decide (b = (2 : Int))) (cond (decide ((2 : Int) < (↑(List.length a.fst) : Int))) ((Go.Proofs.Ytfbdkjdockbfdaa.Rx.S.q93 n ((List.set a.fst (Int.toNat (2 : Int)) false, a.snd.fst, a.snd.snd), b, ())).bind fun r0 => cond (!decide (r0.fst.fst = (1 : Int))) (cond (decide ((0 : Int) ≤ Go.IntKind.i64.wrap (b - (1 : Int)))) (cond (decide (Go.IntKind.i64.wrap (b - (1 : Int)) < (↑(List.set a.fst (Int.toNat (2 : Int)) false).length : Int))) (some ((((List.set a.fst (Int.toNat (2 : Int)) false).set (Go.IntKind.i64.wrap (b - (1 : Int))).toNat true, (a.snd.fst, a.snd.snd)), ()), ())) (none)) (none)) (cond (decide ((0 : Int) ≤ Go.IntKind.i64.wrap (b - (1 : Int)))) (cond (decide (Go.IntKind.i64.wrap (b - (1 : Int)) < (↑(List.length a.snd.fst) : Int))) (cond (List.getD a.snd.fst (Go.IntKind.i64.wrap (b - (1 : Int))).toNat false) (cond (decide ((0 : Int) ≤ Go.IntKind.i64.wrap (b - (1 : Int)))) (cond (decide (Go.IntKind.i64.wrap (b - (1 : Int)) < (↑(List.set a.fst (Int.toNat (2 : Int)) false).length : Int))) (some ((((List.set a.fst (Int.toNat (2 : Int)) false).set (Go.IntKind.i64.wrap (b - (1 : Int))).toNat true, (a.snd.fst, a.snd.snd)), ()), ())) (none)) (none)) (some (((List.set a.fst (Int.toNat (2 : Int)) false, (a.snd.fst, a.snd.snd)), ()), ()))) (none)) (none))) (none)) (cond (decide (b = (6 : Int))) (cond (decide ((2 : Int) < (↑(List.length a.fst) : Int))) ((Go.Proofs.Ytfbdkjdockbfdaa.Rx.S.q93 n ((List.set a.fst (Int.toNat (2 : Int)) false, a.snd.fst, a.snd.snd), b, ())).bind fun r1 => cond (!decide (r1.fst.fst = (1 : Int))) (cond (decide ((0 : Int) ≤ Go.IntKind.i64.wrap (b - (1 : Int)))) (cond (decide (Go.IntKind.i64.wrap (b - (1 : Int)) < (↑(List.set a.fst (Int.toNat (2 : Int)) false).length : Int))) (some ((((List.set a.fst (Int.toNat (2 : Int)) false).set (Go.IntKind.i64.wrap (b - (1 : Int))).toNat true, (a.snd.fst, a.snd.snd)), ()), ())) (none)) (none)) (cond (decide ((0 : Int) ≤ Go.IntKind.i64.wrap (b - (1 : Int)))) (cond (decide (Go.IntKind.i64.wrap (b - (1 : Int)) < (↑(List.length a.snd.fst) : Int))) (cond (List.getD a.snd.fst (Go.IntKind.i64.wrap (b - (1 : Int))).toNat false) (cond (decide ((0 : Int) ≤ Go.IntKind.i64.wrap (b - (1 : Int)))) (cond (decide (Go.IntKind.i64.wrap (b - (1 : Int)) < (↑(List.set a.fst (Int.toNat (2 : Int)) false).length : Int))) (some ((((List.set a.fst (Int.toNat (2 : Int)) false).set (Go.IntKind.i64.wrap (b - (1 : Int))).toNat true, (a.snd.fst, a.snd.snd)), ()), ())) (none)) (none)) (some (((List.set a.fst (Int.toNat (2 : Int)) false, (a.snd.fst, a.snd.snd)), ()), ()))) (none)) (none))) (none)) (cond (decide (b = (3 : Int))) (cond (decide ((1 : Int) < (↑(List.length a.fst) : Int))) (cond (decide ((5 : Int) < (↑(List.set a.fst (Int.toNat (1 : Int)) false).length : Int))) ((Go.Proofs.Ytfbdkjdockbfdaa.Rx.S.q93 n   (((List.set a.fst (Int.toNat (1 : Int)) false).set (Int.toNat (5 : Int)) false, a.snd.fst, a.snd.snd), b, ())).bind fun r2 => cond (!decide (r2.fst.fst = (1 : Int))) (cond (decide ((0 : Int) ≤ Go.IntKind.i64.wrap (b - (1 : Int)))) (cond (decide   (Go.IntKind.i64.wrap (b - (1 : Int)) <     (↑((List.set a.fst (Int.toNat (1 : Int)) false).set (Int.toNat (5 : Int)) false).length : Int))) (some (((((List.set a.fst (Int.toNat (1 : Int)) false).set (Int.toNat (5 : Int)) false).set   (Go.IntKind.i64.wrap (b - (1 : Int))).toNat true, (a.snd.fst, a.snd.snd)), ()), ())) (none)) (none)) (cond (decide ((0 : Int) ≤ Go.IntKind.i64.wrap (b - (1 : Int)))) (cond (decide (Go.IntKind.i64.wrap (b - (1 : Int)) < (↑(List.length a.snd.fst) : Int))) (cond (List.getD a.snd.fst (Go.IntKind.i64.wrap (b - (1 : Int))).toNat false) (cond (decide ((0 : Int) ≤ Go.IntKind.i64.wrap (b - (1 : Int)))) (cond (decide   (Go.IntKind.i64.wrap (b - (1 : Int)) <     (↑((List.set a.fst (Int.toNat (1 : Int)) false).set (Int.toNat (5 : Int)) false).length : Int))) (some (((((List.set a.fst (Int.toNat (1 : Int)) false).set (Int.toNat (5 : Int)) false).set   (Go.IntKind.i64.wrap (b - (1 : Int))).toNat true, (a.snd.fst, a.snd.snd)), ()), ())) (none)) (none)) (some ((((List.set a.fst (Int.toNat (1 : Int)) false).set (Int.toNat (5 : Int)) false, (a.snd.fst, a.snd.snd)), ()), ()))) (none)) (none))) (none)) (none)) ((Go.Proofs.Ytfbdkjdockbfdaa.Rx.S.q93 n ((a.fst, a.snd.fst, a.snd.snd), b, ())).bind fun r3 => cond (!decide (r3.fst.fst = (1 : Int))) (cond (decide ((0 : Int) ≤ Go.IntKind.i64.wrap (b - (1 : Int)))) (cond (decide (Go.IntKind.i64.wrap (b - (1 : Int)) < (↑(List.length a.fst) : Int))) (some (((List.set a.fst (Go.IntKind.i64.wrap (b - (1 : Int))).toNat true, (a.snd.fst, a.snd.snd)), ()), ())) (none)) (none)) (cond (decide ((0 : Int) ≤ Go.IntKind.i64.wrap (b - (1 : Int)))) (cond (decide (Go.IntKind.i64.wrap (b - (1 : Int)) < (↑(List.length a.snd.fst) : Int))) (cond (List.getD a.snd.fst (Go.IntKind.i64.wrap (b - (1 : Int))).toNat false) (cond (decide ((0 : Int) ≤ Go.IntKind.i64.wrap (b - (1 : Int)))) (cond (decide (Go.IntKind.i64.wrap (b - (1 : Int)) < (↑(List.length a.fst) : Int))) (some (((List.set a.fst (Go.IntKind.i64.wrap (b - (1 : Int))).toNat true, (a.snd.fst, a.snd.snd)), ()), ())) (none)) (none)) (some (((a.fst, (a.snd.fst, a.snd.snd)), ()), ()))) (none)) (none)))))
theorem e47_top (n : Nat) (a : List Bool × List Bool × List Int) (b : Int) : runF TT G47 an47 Try.f47 c47 ps47 rs47 n (a, b, ()) = st47_top n  a b := by kernel_rfl
noncomputable def p47 (n : Nat) (a : List Bool × List Bool × List Int) (b : Int) : Option R47 := st47_top n  a b
theorem F47_eq (n : Nat) (a : List Bool × List Bool × List Int) (b : Int) : runF TT G47 an47 Try.f47 c47 ps47 rs47 n (a, b, ()) = p47 n a b := by
  rw [e47_top]
  skip
  try rfl
noncomputable def q47 (n : Nat) (x : argsD ps47) : Option R47 := p47 n x.1 x.2.1
noncomputable def Sm47 : Sm := ⟨ps47, rs47, false, q47⟩
theorem holds47 (hg : GamOK Try.prog G47) : Holds Try.prog 47 Sm47 := by
  have := h0_47 hg
  have e : (runF TT G47 an47 Try.f47 c47 ps47 rs47) = q47 := by
    funext n x
    exact F47_eq n x.1 x.2.1
  rw [e] at this
  exact this
theorem gam47 : GamOK Try.prog G47 := by
  intro f s h
  unfold G47 at h
  split at h
  · injection h with h; subst h; exact ⟨⟨Try.f93, c93, Try.func93, by kernel_rfl, by decide +kernel⟩, hh93⟩
  · cases h
theorem hh47 : Holds Try.prog 47 Sm47 := holds47 gam47
end Go.Proofs.Ytfbdkjdockbfdaa.Rx.S
namespace Go.Proofs.Ytfbdkjdockbfdaa.Rx.S
open Go Go.RowKit Go.Proofs
set_option maxRecDepth 100000
noncomputable def c48 : Code := (Try.f48.body.getD .skip)
def an48 : An := ⟨fun _ => ⟨[], []⟩, fun _ _ => none⟩
abbrev ps48 : List PK := [.val tSg true]
abbrev rs48 : List RK := [.own tSg true]
abbrev R48 := retsD rs48 × outsD ps48
noncomputable def G48 : Gam := fun _ => none
theorem h0_48 (hg : GamOK Try.prog G48) : Holds Try.prog 48 ⟨ps48, rs48, false, runF TT G48 an48 Try.f48 c48 ps48 rs48⟩ := holds_of tt_ok hg mixed Try.func48 (by kernel_rfl) (by rfl) (by decide +kernel)
noncomputable def at48 : Nat → Pt → List Nat → St → Option R48 := atF TT G48 an48 Try.f48 c48 _ _
noncomputable def st48_top (n : Nat)  (a : List Bool × List Bool × List Int) : Option R48 :=
  cond (decide (((0 : Nat) + List.length a.fst) * (1 : Nat) ≤ (140737488355328 : Nat))) (cond (decide (((0 : Nat) + List.length a.snd.fst) * (1 : Nat) ≤ (140737488355328 : Nat))) (cond (decide (((0 : Nat) + List.length a.snd.snd) * (8 : Nat) ≤ (140737488355328 : Nat))) (some (((a.fst, (a.snd.fst, a.snd.snd)), ()), ())) (none)) (none)) (none)
theorem e48_top (n : Nat) (a : List Bool × List Bool × List Int) : runF TT G48 an48 Try.f48 c48 ps48 rs48 n (a, ()) = st48_top n  a := by kernel_rfl
noncomputable def p48 (n : Nat) (a : List Bool × List Bool × List Int) : Option R48 := st48_top n  a
theorem F48_eq (n : Nat) (a : List Bool × List Bool × List Int) : runF TT G48 an48 Try.f48 c48 ps48 rs48 n (a, ()) = p48 n a := by
  rw [e48_top]
  skip
  try rfl
noncomputable def q48 (n : Nat) (x : argsD ps48) : Option R48 := p48 n x.1
noncomputable def Sm48 : Sm := ⟨ps48, rs48, false, q48⟩
theorem holds48 (hg : GamOK Try.prog G48) : Holds Try.prog 48 Sm48 := by
  have := h0_48 hg
  have e : (runF TT G48 an48 Try.f48 c48 ps48 rs48) = q48 := by
    funext n x
    exact F48_eq n x.1
  rw [e] at this
  exact this
theorem gam48 : GamOK Try.prog G48 := fun _ _ h => by cases h
theorem hh48 : Holds Try.prog 48 Sm48 := holds48 gam48
end Go.Proofs.Ytfbdkjdockbfdaa.Rx.S
namespace Go.Proofs.Ytfbdkjdockbfdaa.Rx.S
open Go Go.RowKit Go.Proofs
set_option maxRecDepth 100000
noncomputable def c11 : Code := (Try.f11.body.getD .skip)
def an11 : An := ⟨fun _ => ⟨[], []⟩, fun _ _ => none⟩
abbrev ps11 : List PK := [.val tSg true, .val i64 false]
abbrev rs11 : List RK := [.own tSg true, .val .bool false]
abbrev R11 := retsD rs11 × outsD ps11
noncomputable def G11 : Gam := fun f => match f with | 45 => some Sm45 | 46 => some Sm46 | 47 => some Sm47 | 48 => some Sm48 | _ => none
theorem h0_11 (hg : GamOK Try.prog G11) : Holds Try.prog 11 ⟨ps11, rs11, false, runF TT G11 an11 Try.f11 c11 ps11 rs11⟩ := holds_of tt_ok hg mixed Try.func11 (by kernel_rfl) (by rfl) (by decide +kernel)
noncomputable def at11 : Nat → Pt → List Nat → St → Option R11 := atF TT G11 an11 Try.f11 c11 _ _
noncomputable def st11_top (n : Nat)  (a : List Bool × List Bool × List Int) (b : Int) : Option R11 :=
  (Go.Proofs.Ytfbdkjdockbfdaa.Rx.S.q45 n ((a.fst, a.snd.fst, a.snd.snd), ())).bind fun r0 => cond (!r0.fst.fst) (some ((([], ([], [])), (false, ())), ())) ((Go.Proofs.Ytfbdkjdockbfdaa.Rx.S.q46 n (b, (1 : Int), (8 : Int), ())).bind fun r1 => cond (!r1.fst.fst) (some ((([], ([], [])), (false, ())), ())) ((Go.Proofs.Ytfbdkjdockbfdaa.Rx.S.q48 n ((a.fst, a.snd.fst, a.snd.snd), ())).bind fun r2 => (Go.Proofs.Ytfbdkjdockbfdaa.Rx.S.q47 n ((r2.fst.fst.fst, r2.fst.fst.snd.fst, r2.fst.fst.snd.snd), b, ())).bind fun r3 => some (((r3.fst.fst.fst, (r3.fst.fst.snd.fst, r3.fst.fst.snd.snd)), (true, ())), ())))
theorem e11_top (n : Nat) (a : List Bool × List Bool × List Int) (b : Int) : runF TT G11 an11 Try.f11 c11 ps11 rs11 n (a, b, ()) = st11_top n  a b := by kernel_rfl
noncomputable def p11 (n : Nat) (a : List Bool × List Bool × List Int) (b : Int) : Option R11 := st11_top n  a b
theorem F11_eq (n : Nat) (a : List Bool × List Bool × List Int) (b : Int) : runF TT G11 an11 Try.f11 c11 ps11 rs11 n (a, b, ()) = p11 n a b := by
  rw [e11_top]
  skip
  try rfl
noncomputable def q11 (n : Nat) (x : argsD ps11) : Option R11 := p11 n x.1 x.2.1
noncomputable def Sm11 : Sm := ⟨ps11, rs11, false, q11⟩
theorem holds11 (hg : GamOK Try.prog G11) : Holds Try.prog 11 Sm11 := by
  have := h0_11 hg
  have e : (runF TT G11 an11 Try.f11 c11 ps11 rs11) = q11 := by
    funext n x
    exact F11_eq n x.1 x.2.1
  rw [e] at this
  exact this
theorem gam11 : GamOK Try.prog G11 := by
  intro f s h
  unfold G11 at h
  split at h
  · injection h with h; subst h; exact ⟨⟨Try.f45, c45, Try.func45, by kernel_rfl, by decide +kernel⟩, hh45⟩
  · injection h with h; subst h; exact ⟨⟨Try.f46, c46, Try.func46, by kernel_rfl, by decide +kernel⟩, hh46⟩
  · injection h with h; subst h; exact ⟨⟨Try.f47, c47, Try.func47, by kernel_rfl, by decide +kernel⟩, hh47⟩
  · injection h with h; subst h; exact ⟨⟨Try.f48, c48, Try.func48, by kernel_rfl, by decide +kernel⟩, hh48⟩
  · cases h
theorem hh11 : Holds Try.prog 11 Sm11 := holds11 gam11
end Go.Proofs.Ytfbdkjdockbfdaa.Rx.S
namespace Go.Proofs.Ytfbdkjdockbfdaa.Rx.S
open Go Go.RowKit Go.Proofs
set_option maxRecDepth 100000
noncomputable def c49 : Code := (Try.f49.body.getD .skip)
def an49 : An := ⟨fun r => match r with | 4 => ⟨[0, 1, 5], []⟩ | _ => ⟨[], []⟩, fun _ _ => none⟩
abbrev ps49 : List PK := [.val (.row 4 .bool) false, .val (.row 4 .bool) false]
abbrev rs49 : List RK := [.val .bool false]
abbrev R49 := retsD rs49 × outsD ps49
noncomputable def G49 : Gam := fun _ => none
theorem h0_49 (hg : GamOK Try.prog G49) : Holds Try.prog 49 ⟨ps49, rs49, false, runF TT G49 an49 Try.f49 c49 ps49 rs49⟩ := holds_of tt_ok hg mixed Try.func49 (by kernel_rfl) (by rfl) (by decide +kernel)
noncomputable def at49 : Nat → Pt → List Nat → St → Option R49 := atF TT G49 an49 Try.f49 c49 _ _
def sh49_L4 (x0 : List Bool) (x1 : List Bool) (x2 : Int) : St := (Go.Proofs.Ytfbdkjdockbfdaa.Rx.St.mk ((Go.Proofs.Ytfbdkjdockbfdaa.Rx.AV.one (Go.Proofs.Ytfbdkjdockbfdaa.Rx.SV.con (⟨4, Go.Proofs.Ytfbdkjdockbfdaa.Rx.Ty.bool, x0⟩ : Rw))) :: ((Go.Proofs.Ytfbdkjdockbfdaa.Rx.AV.one (Go.Proofs.Ytfbdkjdockbfdaa.Rx.SV.con (⟨4, Go.Proofs.Ytfbdkjdockbfdaa.Rx.Ty.bool, x1⟩ : Rw))) :: (Go.Proofs.Ytfbdkjdockbfdaa.Rx.AV.undef :: (Go.Proofs.Ytfbdkjdockbfdaa.Rx.AV.undef :: (Go.Proofs.Ytfbdkjdockbfdaa.Rx.AV.undef :: ((Go.Proofs.Ytfbdkjdockbfdaa.Rx.AV.one (Go.Proofs.Ytfbdkjdockbfdaa.Rx.SV.int (Go.IntKind.i64) x2)) :: (Go.Proofs.Ytfbdkjdockbfdaa.Rx.AV.undef :: (Go.Proofs.Ytfbdkjdockbfdaa.Rx.AV.undef :: (Go.Proofs.Ytfbdkjdockbfdaa.Rx.AV.undef :: (Go.Proofs.Ytfbdkjdockbfdaa.Rx.AV.undef :: (Go.Proofs.Ytfbdkjdockbfdaa.Rx.AV.undef :: (Go.Proofs.Ytfbdkjdockbfdaa.Rx.AV.undef :: (Go.Proofs.Ytfbdkjdockbfdaa.Rx.AV.undef :: (Go.Proofs.Ytfbdkjdockbfdaa.Rx.AV.undef :: (Go.Proofs.Ytfbdkjdockbfdaa.Rx.AV.undef :: (Go.Proofs.Ytfbdkjdockbfdaa.Rx.AV.undef :: (Go.Proofs.Ytfbdkjdockbfdaa.Rx.AV.undef :: (Go.Proofs.Ytfbdkjdockbfdaa.Rx.AV.undef :: (Go.Proofs.Ytfbdkjdockbfdaa.Rx.AV.undef :: (Go.Proofs.Ytfbdkjdockbfdaa.Rx.AV.undef :: (Go.Proofs.Ytfbdkjdockbfdaa.Rx.AV.undef :: (Go.Proofs.Ytfbdkjdockbfdaa.Rx.AV.undef :: (Go.Proofs.Ytfbdkjdockbfdaa.Rx.AV.undef :: (Go.Proofs.Ytfbdkjdockbfdaa.Rx.AV.undef :: (Go.Proofs.Ytfbdkjdockbfdaa.Rx.AV.undef :: (Go.Proofs.Ytfbdkjdockbfdaa.Rx.AV.undef :: [])))))))))))))))))))))))))) [])
noncomputable def st49_top (n : Nat) (lL4 : (List Bool) → (List Bool) → Int → Option R49) (a : List Bool) (b : List Bool) : Option R49 :=
  cond (!decide ((↑a.length : Int) = (↑b.length : Int))) (some ((false, ()), ())) (lL4 (a) (b) ((0 : Int)))
noncomputable def st49_L4 (n : Nat) (lL4 : (List Bool) → (List Bool) → Int → Option R49) (x0 : List Bool) (x1 : List Bool) (x2 : Int) : Option R49 :=
  cond (decide (x2 < (↑x0.length : Int))) (cond (decide ((0 : Int) ≤ x2)) (cond (decide (x2 < (↑x0.length : Int))) (cond (decide ((0 : Int) ≤ x2)) (cond (decide (x2 < (↑x1.length : Int))) (cond (!x0.getD x2.toNat false == x1.getD x2.toNat false) (some ((false, ()), ())) (lL4 (x0) (x1) (Go.IntKind.i64.wrap (x2 + (1 : Int))))) (none)) (none)) (none)) (none)) (some ((true, ()), ()))
theorem e49_top (n : Nat) (a : List Bool) (b : List Bool) : runF TT G49 an49 Try.f49 c49 ps49 rs49 n (a, b, ()) = st49_top n (fun x0 x1 x2 => at49 n (.head 4) [n] (sh49_L4 x0 x1 x2)) a b := by kernel_rfl
theorem e49_L4_0 (n : Nat) (x0 : List Bool) (x1 : List Bool) (x2 : Int) : at49 n (.head 4) [0] (sh49_L4 x0 x1 x2) = none := by kernel_rfl
theorem e49_L4 (n : Nat) (m4 : Nat) (x0 : List Bool) (x1 : List Bool) (x2 : Int) : at49 n (.head 4) [m4 + 1] (sh49_L4 x0 x1 x2) = st49_L4 n (fun x0 x1 x2 => at49 n (.head 4) [m4] (sh49_L4 x0 x1 x2)) x0 x1 x2 := by kernel_rfl
noncomputable def p49_L4 (n : Nat) : Nat → (List Bool) → (List Bool) → Int → Option R49
  | 0, _, _, _ => none
  | m + 1, x0, x1, x2 => st49_L4 n (p49_L4 n m) x0 x1 x2
noncomputable def p49 (n : Nat) (a : List Bool) (b : List Bool) : Option R49 := st49_top n (p49_L4 n n) a b
theorem t49_L4 (n : Nat) : ∀ (m4 : Nat) (x0 : List Bool) (x1 : List Bool) (x2 : Int), at49 n (.head 4) [m4] (sh49_L4 x0 x1 x2) = p49_L4  n m4 x0 x1 x2 := by
  intro m
  induction m with
  | zero => intros; rw [e49_L4_0]; rfl
  | succ m ih =>
    intros
    rw [e49_L4]
    try simp only [ih]
    rfl
theorem F49_eq (n : Nat) (a : List Bool) (b : List Bool) : runF TT G49 an49 Try.f49 c49 ps49 rs49 n (a, b, ()) = p49 n a b := by
  rw [e49_top]
  simp only [t49_L4]
  try rfl
noncomputable def q49 (n : Nat) (x : argsD ps49) : Option R49 := p49 n x.1 x.2.1
noncomputable def Sm49 : Sm := ⟨ps49, rs49, false, q49⟩
theorem holds49 (hg : GamOK Try.prog G49) : Holds Try.prog 49 Sm49 := by
  have := h0_49 hg
  have e : (runF TT G49 an49 Try.f49 c49 ps49 rs49) = q49 := by
    funext n x
    exact F49_eq n x.1 x.2.1
  rw [e] at this
  exact this
theorem gam49 : GamOK Try.prog G49 := fun _ _ h => by cases h
theorem hh49 : Holds Try.prog 49 Sm49 := holds49 gam49
end Go.Proofs.Ytfbdkjdockbfdaa.Rx.S
namespace Go.Proofs.Ytfbdkjdockbfdaa.Rx.S
open Go Go.RowKit Go.Proofs
set_option maxRecDepth 100000
noncomputable def c50 : Code := (Try.f50.body.getD .skip)
def an50 : An := ⟨fun r => match r with | 4 => ⟨[0, 1, 5], []⟩ | _ => ⟨[], []⟩, fun _ _ => none⟩
abbrev ps50 : List PK := [.val (.row 3 i64) false, .val (.row 3 i64) false]
abbrev rs50 : List RK := [.val .bool false]
abbrev R50 := retsD rs50 × outsD ps50
noncomputable def G50 : Gam := fun _ => none
theorem h0_50 (hg : GamOK Try.prog G50) : Holds Try.prog 50 ⟨ps50, rs50, false, runF TT G50 an50 Try.f50 c50 ps50 rs50⟩ := holds_of tt_ok hg mixed Try.func50 (by kernel_rfl) (by rfl) (by decide +kernel)
noncomputable def at50 : Nat → Pt → List Nat → St → Option R50 := atF TT G50 an50 Try.f50 c50 _ _
def sh50_L4 (x0 : List Int) (x1 : List Int) (x2 : Int) : St := (Go.Proofs.Ytfbdkjdockbfdaa.Rx.St.mk ((Go.Proofs.Ytfbdkjdockbfdaa.Rx.AV.one (Go.Proofs.Ytfbdkjdockbfdaa.Rx.SV.con (⟨3, Go.Proofs.Ytfbdkjdockbfdaa.Rx.Ty.int Go.IntKind.i64, x0⟩ : Rw))) :: ((Go.Proofs.Ytfbdkjdockbfdaa.Rx.AV.one (Go.Proofs.Ytfbdkjdockbfdaa.Rx.SV.con (⟨3, Go.Proofs.Ytfbdkjdockbfdaa.Rx.Ty.int Go.IntKind.i64, x1⟩ : Rw))) :: (Go.Proofs.Ytfbdkjdockbfdaa.Rx.AV.undef :: (Go.Proofs.Ytfbdkjdockbfdaa.Rx.AV.undef :: (Go.Proofs.Ytfbdkjdockbfdaa.Rx.AV.undef :: ((Go.Proofs.Ytfbdkjdockbfdaa.Rx.AV.one (Go.Proofs.Ytfbdkjdockbfdaa.Rx.SV.int (Go.IntKind.i64) x2)) :: (Go.Proofs.Ytfbdkjdockbfdaa.Rx.AV.undef :: (Go.Proofs.Ytfbdkjdockbfdaa.Rx.AV.undef :: (Go.Proofs.Ytfbdkjdockbfdaa.Rx.AV.undef :: (Go.Proofs.Ytfbdkjdockbfdaa.Rx.AV.undef :: (Go.Proofs.Ytfbdkjdockbfdaa.Rx.AV.undef :: (Go.Proofs.Ytfbdkjdockbfdaa.Rx.AV.undef :: (Go.Proofs.Ytfbdkjdockbfdaa.Rx.AV.undef :: (Go.Proofs.Ytfbdkjdockbfdaa.Rx.AV.undef :: (Go.Proofs.Ytfbdkjdockbfdaa.Rx.AV.undef :: (Go.Proofs.Ytfbdkjdockbfdaa.Rx.AV.undef :: (Go.Proofs.Ytfbdkjdockbfdaa.Rx.AV.undef :: (Go.Proofs.Ytfbdkjdockbfdaa.Rx.AV.undef :: (Go.Proofs.Ytfbdkjdockbfdaa.Rx.AV.undef :: (Go.Proofs.Ytfbdkjdockbfdaa.Rx.AV.undef :: (Go.Proofs.Ytfbdkjdockbfdaa.Rx.AV.undef :: (Go.Proofs.Ytfbdkjdockbfdaa.Rx.AV.undef :: (Go.Proofs.Ytfbdkjdockbfdaa.Rx.AV.undef :: (Go.Proofs.Ytfbdkjdockbfdaa.Rx.AV.undef :: (Go.Proofs.Ytfbdkjdockbfdaa.Rx.AV.undef :: (Go.Proofs.Ytfbdkjdockbfdaa.Rx.AV.undef :: [])))))))))))))))))))))))))) [])
noncomputable def st50_top (n : Nat) (lL4 : (List Int) → (List Int) → Int → Option R50) (a : List Int) (b : List Int) : Option R50 :=
  cond (!decide ((↑a.length : Int) = (↑b.length : Int))) (some ((false, ()), ())) (lL4 (a) (b) ((0 : Int)))
noncomputable def st50_L4 (n : Nat) (lL4 : (List Int) → (List Int) → Int → Option R50) (x0 : List Int) (x1 : List Int) (x2 : Int) : Option R50 :=
  cond (decide (x2 < (↑x0.length : Int))) (cond (decide ((0 : Int) ≤ x2)) (cond (decide (x2 < (↑x0.length : Int))) (cond (decide ((0 : Int) ≤ x2)) (cond (decide (x2 < (↑x1.length : Int))) (cond (!decide (x0.getD x2.toNat (0 : Int) = x1.getD x2.toNat (0 : Int))) (some ((false, ()), ())) (lL4 (x0) (x1) (Go.IntKind.i64.wrap (x2 + (1 : Int))))) (none)) (none)) (none)) (none)) (some ((true, ()), ()))
theorem e50_top (n : Nat) (a : List Int) (b : List Int) : runF TT G50 an50 Try.f50 c50 ps50 rs50 n (a, b, ()) = st50_top n (fun x0 x1 x2 => at50 n (.head 4) [n] (sh50_L4 x0 x1 x2)) a b := by kernel_rfl
theorem e50_L4_0 (n : Nat) (x0 : List Int) (x1 : List Int) (x2 : Int) : at50 n (.head 4) [0] (sh50_L4 x0 x1 x2) = none := by kernel_rfl
theorem e50_L4 (n : Nat) (m4 : Nat) (x0 : List Int) (x1 : List Int) (x2 : Int) : at50 n (.head 4) [m4 + 1] (sh50_L4 x0 x1 x2) = st50_L4 n (fun x0 x1 x2 => at50 n (.head 4) [m4] (sh50_L4 x0 x1 x2)) x0 x1 x2 := by kernel_rfl
noncomputable def p50_L4 (n : Nat) : Nat → (List Int) → (List Int) → Int → Option R50
  | 0, _, _, _ => none
  | m + 1, x0, x1, x2 => st50_L4 n (p50_L4 n m) x0 x1 x2
noncomputable def p50 (n : Nat) (a : List Int) (b : List Int) : Option R50 := st50_top n (p50_L4 n n) a b
theorem t50_L4 (n : Nat) : ∀ (m4 : Nat) (x0 : List Int) (x1 : List Int) (x2 : Int), at50 n (.head 4) [m4] (sh50_L4 x0 x1 x2) = p50_L4  n m4 x0 x1 x2 := by
  intro m
  induction m with
  | zero => intros; rw [e50_L4_0]; rfl
  | succ m ih =>
    intros
    rw [e50_L4]
    try simp only [ih]
    rfl
theorem F50_eq (n : Nat) (a : List Int) (b : List Int) : runF TT G50 an50 Try.f50 c50 ps50 rs50 n (a, b, ()) = p50 n a b := by
  rw [e50_top]
  simp only [t50_L4]
  try rfl
noncomputable def q50 (n : Nat) (x : argsD ps50) : Option R50 := p50 n x.1 x.2.1
noncomputable def Sm50 : Sm := ⟨ps50, rs50, false, q50⟩
theorem holds50 (hg : GamOK Try.prog G50) : Holds Try.prog 50 Sm50 := by
  have := h0_50 hg
  have e : (runF TT G50 an50 Try.f50 c50 ps50 rs50) = q50 := by
    funext n x
    exact F50_eq n x.1 x.2.1
  rw [e] at this
  exact this
theorem gam50 : GamOK Try.prog G50 := fun _ _ h => by cases h
theorem hh50 : Holds Try.prog 50 Sm50 := holds50 gam50
end Go.Proofs.Ytfbdkjdockbfdaa.Rx.S
namespace Go.Proofs.Ytfbdkjdockbfdaa.Rx.S
open Go Go.RowKit Go.Proofs
set_option maxRecDepth 100000
noncomputable def c12 : Code := (Try.f12.body.getD .skip)
def an12 : An := ⟨fun _ => ⟨[], []⟩, fun _ _ => none⟩
abbrev ps12 : List PK := [.val tSg true, .val tSg true]
abbrev rs12 : List RK := [.val .bool false]
abbrev R12 := retsD rs12 × outsD ps12
noncomputable def G12 : Gam := fun f => match f with | 49 => some Sm49 | 50 => some Sm50 | _ => none
theorem h0_12 (hg : GamOK Try.prog G12) : Holds Try.prog 12 ⟨ps12, rs12, false, runF TT G12 an12 Try.f12 c12 ps12 rs12⟩ := holds_of tt_ok hg mixed Try.func12 (by kernel_rfl) (by rfl) (by decide +kernel)
noncomputable def at12 : Nat → Pt → List Nat → St → Option R12 := atF TT G12 an12 Try.f12 c12 _ _
noncomputable def st12_top (n : Nat)  (a : List Bool × List Bool × List Int) (b : List Bool × List Bool × List Int) : Option R12 :=
  (Go.Proofs.Ytfbdkjdockbfdaa.Rx.S.q49 n (a.fst, b.fst, ())).bind fun r0 => cond (r0.fst.fst) ((Go.Proofs.Ytfbdkjdockbfdaa.Rx.S.q49 n (a.snd.fst, b.snd.fst, ())).bind fun r1 => cond (r1.fst.fst) ((Go.Proofs.Ytfbdkjdockbfdaa.Rx.S.q50 n (a.snd.snd, b.snd.snd, ())).bind fun r2 => some ((r2.fst.fst, ()), ())) (some ((false, ()), ()))) (some ((false, ()), ()))
theorem e12_top (n : Nat) (a : List Bool × List Bool × List Int) (b : List Bool × List Bool × List Int) : runF TT G12 an12 Try.f12 c12 ps12 rs12 n (a, b, ()) = st12_top n  a b := by kernel_rfl
noncomputable def p12 (n : Nat) (a : List Bool × List Bool × List Int) (b : List Bool × List Bool × List Int) : Option R12 := st12_top n  a b
theorem F12_eq (n : Nat) (a : List Bool × List Bool × List Int) (b : List Bool × List Bool × List Int) : runF TT G12 an12 Try.f12 c12 ps12 rs12 n (a, b, ()) = p12 n a b := by
  rw [e12_top]
  skip
  try rfl
noncomputable def q12 (n : Nat) (x : argsD ps12) : Option R12 := p12 n x.1 x.2.1
noncomputable def Sm12 : Sm := ⟨ps12, rs12, false, q12⟩
theorem holds12 (hg : GamOK Try.prog G12) : Holds Try.prog 12 Sm12 := by
  have := h0_12 hg
  have e : (runF TT G12 an12 Try.f12 c12 ps12 rs12) = q12 := by
    funext n x
    exact F12_eq n x.1 x.2.1
  rw [e] at this
  exact this
theorem gam12 : GamOK Try.prog G12 := by
  intro f s h
  unfold G12 at h
  split at h
  · injection h with h; subst h; exact ⟨⟨Try.f49, c49, Try.func49, by kernel_rfl, by decide +kernel⟩, hh49⟩
  · injection h with h; subst h; exact ⟨⟨Try.f50, c50, Try.func50, by kernel_rfl, by decide +kernel⟩, hh50⟩
  · cases h
theorem hh12 : Holds Try.prog 12 Sm12 := holds12 gam12
end Go.Proofs.Ytfbdkjdockbfdaa.Rx.S
namespace Go.Proofs.Ytfbdkjdockbfdaa.Rx.S
open Go Go.RowKit Go.Proofs
set_option maxRecDepth 100000
noncomputable def c52 : Code := (Try.f52.body.getD .skip)
def an52 : An := ⟨fun _ => ⟨[], []⟩, fun _ _ => none⟩
abbrev ps52 : List PK := [.val i64 false]
abbrev rs52 : List RK := [.val .bool false]
abbrev R52 := retsD rs52 × outsD ps52
noncomputable def G52 : Gam := fun _ => none
theorem h0_52 (hg : GamOK Try.prog G52) : Holds Try.prog 52 ⟨ps52, rs52, false, runF TT G52 an52 Try.f52 c52 ps52 rs52⟩ := holds_of tt_ok hg mixed Try.func52 (by kernel_rfl) (by rfl) (by decide +kernel)
noncomputable def at52 : Nat → Pt → List Nat → St → Option R52 := atF TT G52 an52 Try.f52 c52 _ _
noncomputable def st52_top (n : Nat)  (a : Int) : Option R52 :=
  some ((true, ()), ())
theorem e52_top (n : Nat) (a : Int) : runF TT G52 an52 Try.f52 c52 ps52 rs52 n (a, ()) = st52_top n  a := by kernel_rfl
noncomputable def p52 (n : Nat) (a : Int) : Option R52 := st52_top n  a
theorem F52_eq (n : Nat) (a : Int) : runF TT G52 an52 Try.f52 c52 ps52 rs52 n (a, ()) = p52 n a := by
  rw [e52_top]
  skip
  try rfl
noncomputable def q52 (n : Nat) (x : argsD ps52) : Option R52 := p52 n x.1
noncomputable def Sm52 : Sm := ⟨ps52, rs52, false, q52⟩
theorem holds52 (hg : GamOK Try.prog G52) : Holds Try.prog 52 Sm52 := by
  have := h0_52 hg
  have e : (runF TT G52 an52 Try.f52 c52 ps52 rs52) = q52 := by
    funext n x
    exact F52_eq n x.1
  rw [e] at this
  exact this
theorem gam52 : GamOK Try.prog G52 := fun _ _ h => by cases h
theorem hh52 : Holds Try.prog 52 Sm52 := holds52 gam52
end Go.Proofs.Ytfbdkjdockbfdaa.Rx.S
namespace Go.Proofs.Ytfbdkjdockbfdaa.Rx.S
open Go Go.RowKit Go.Proofs
set_option maxRecDepth 100000
noncomputable def c51 : Code := (Try.f51.body.getD .skip)
def an51 : An := ⟨fun r => match r with | 2 => ⟨[1, 2, 5], []⟩ | _ => ⟨[], []⟩, fun _ _ => none⟩
abbrev ps51 : List PK := [.val tSg true, .fn 52 []]
abbrev rs51 : List RK := [.val i64 false]
abbrev R51 := retsD rs51 × outsD ps51
noncomputable def G51 : Gam := fun f => match f with | 52 => some Sm52 | _ => none
theorem h0_51 (hg : GamOK Try.prog G51) : Holds Try.prog 51 ⟨ps51, rs51, false, runF TT G51 an51 Try.f51 c51 ps51 rs51⟩ := holds_of tt_ok hg mixed Try.func51 (by kernel_rfl) (by rfl) (by decide +kernel)
noncomputable def at51 : Nat → Pt → List Nat → St → Option R51 := atF TT G51 an51 Try.f51 c51 _ _
def sh51_L2 (x0 : Int) (x1 : List Bool) (x2 : List Bool) (x3 : List Int) : St := (Go.Proofs.Ytfbdkjdockbfdaa.Rx.St.mk (Go.Proofs.Ytfbdkjdockbfdaa.Rx.AV.undef :: ((Go.Proofs.Ytfbdkjdockbfdaa.Rx.AV.fn 52 []) :: ((Go.Proofs.Ytfbdkjdockbfdaa.Rx.AV.one (Go.Proofs.Ytfbdkjdockbfdaa.Rx.SV.bptr 1000000 0)) :: (Go.Proofs.Ytfbdkjdockbfdaa.Rx.AV.undef :: (Go.Proofs.Ytfbdkjdockbfdaa.Rx.AV.undef :: ((Go.Proofs.Ytfbdkjdockbfdaa.Rx.AV.one (Go.Proofs.Ytfbdkjdockbfdaa.Rx.SV.int (Go.IntKind.i64) x0)) :: (Go.Proofs.Ytfbdkjdockbfdaa.Rx.AV.undef :: (Go.Proofs.Ytfbdkjdockbfdaa.Rx.AV.undef :: (Go.Proofs.Ytfbdkjdockbfdaa.Rx.AV.undef :: (Go.Proofs.Ytfbdkjdockbfdaa.Rx.AV.undef :: (Go.Proofs.Ytfbdkjdockbfdaa.Rx.AV.undef :: (Go.Proofs.Ytfbdkjdockbfdaa.Rx.AV.undef :: (Go.Proofs.Ytfbdkjdockbfdaa.Rx.AV.undef :: (Go.Proofs.Ytfbdkjdockbfdaa.Rx.AV.undef :: (Go.Proofs.Ytfbdkjdockbfdaa.Rx.AV.undef :: (Go.Proofs.Ytfbdkjdockbfdaa.Rx.AV.undef :: (Go.Proofs.Ytfbdkjdockbfdaa.Rx.AV.undef :: (Go.Proofs.Ytfbdkjdockbfdaa.Rx.AV.undef :: (Go.Proofs.Ytfbdkjdockbfdaa.Rx.AV.undef :: (Go.Proofs.Ytfbdkjdockbfdaa.Rx.AV.undef :: (Go.Proofs.Ytfbdkjdockbfdaa.Rx.AV.undef :: (Go.Proofs.Ytfbdkjdockbfdaa.Rx.AV.undef :: (Go.Proofs.Ytfbdkjdockbfdaa.Rx.AV.undef :: (Go.Proofs.Ytfbdkjdockbfdaa.Rx.AV.undef :: (Go.Proofs.Ytfbdkjdockbfdaa.Rx.AV.undef :: (Go.Proofs.Ytfbdkjdockbfdaa.Rx.AV.undef :: (Go.Proofs.Ytfbdkjdockbfdaa.Rx.AV.undef :: (Go.Proofs.Ytfbdkjdockbfdaa.Rx.AV.undef :: (Go.Proofs.Ytfbdkjdockbfdaa.Rx.AV.undef :: (Go.Proofs.Ytfbdkjdockbfdaa.Rx.AV.undef :: (Go.Proofs.Ytfbdkjdockbfdaa.Rx.AV.undef :: []))))))))))))))))))))))))))))))) ((1000000, (Go.Proofs.Ytfbdkjdockbfdaa.Rx.Ent.box ((Go.Proofs.Ytfbdkjdockbfdaa.Rx.SV.con (⟨4, Go.Proofs.Ytfbdkjdockbfdaa.Rx.Ty.bool, x1⟩ : Rw)) :: ((Go.Proofs.Ytfbdkjdockbfdaa.Rx.SV.con (⟨4, Go.Proofs.Ytfbdkjdockbfdaa.Rx.Ty.bool, x2⟩ : Rw)) :: ((Go.Proofs.Ytfbdkjdockbfdaa.Rx.SV.con (⟨3, Go.Proofs.Ytfbdkjdockbfdaa.Rx.Ty.int Go.IntKind.i64, x3⟩ : Rw)) :: []))))) :: []))
noncomputable def st51_top (n : Nat) (lL2 : Int → (List Bool) → (List Bool) → (List Int) → Option R51) (a : List Bool × List Bool × List Int) (b : Unit) : Option R51 :=
  lL2 ((1 : Int)) (a.fst) (a.snd.fst) (a.snd.snd)
noncomputable def st51_L2 (n : Nat) (lL2 : Int → (List Bool) → (List Bool) → (List Int) → Option R51) (x0 : Int) (x1 : List Bool) (x2 : List Bool) (x3 : List Int) : Option R51 :=
  cond (decide (x0 ≤ (8 : Int))) (cond (decide ((0 : Int) ≤ Go.IntKind.i64.wrap (x0 - (1 : Int)))) (cond (decide (Go.IntKind.i64.wrap (x0 - (1 : Int)) < (↑x1.length : Int))) (cond (x1.getD (Go.IntKind.i64.wrap (x0 - (1 : Int))).toNat false) (cond (decide ((0 : Int) ≤ Go.IntKind.i64.wrap (x0 - (1 : Int)))) (cond (decide (Go.IntKind.i64.wrap (x0 - (1 : Int)) < (↑x2.length : Int))) (cond (!x2.getD (Go.IntKind.i64.wrap (x0 - (1 : Int))).toNat false) ((Go.Proofs.Ytfbdkjdockbfdaa.Rx.S.q52 n (x0, ())).bind fun r1 => cond (r1.fst.fst) (some ((x0, ()), ())) (lL2 (Go.IntKind.i64.wrap (x0 + (1 : Int))) (x1) (x2) (x3))) (lL2 (Go.IntKind.i64.wrap (x0 + (1 : Int))) (x1) (x2) (x3))) (none)) (none)) (lL2 (Go.IntKind.i64.wrap (x0 + (1 : Int))) (x1) (x2) (x3))) (none)) (none)) (some (((0 : Int), ()), ()))
theorem e51_top (n : Nat) (a : List Bool × List Bool × List Int) (b : Unit) : runF TT G51 an51 Try.f51 c51 ps51 rs51 n (a, b, ()) = st51_top n (fun x0 x1 x2 x3 => at51 n (.head 2) [n] (sh51_L2 x0 x1 x2 x3)) a b := by kernel_rfl
theorem e51_L2_0 (n : Nat) (x0 : Int) (x1 : List Bool) (x2 : List Bool) (x3 : List Int) : at51 n (.head 2) [0] (sh51_L2 x0 x1 x2 x3) = none := by kernel_rfl
theorem e51_L2 (n : Nat) (m2 : Nat) (x0 : Int) (x1 : List Bool) (x2 : List Bool) (x3 : List Int) : at51 n (.head 2) [m2 + 1] (sh51_L2 x0 x1 x2 x3) = st51_L2 n (fun x0 x1 x2 x3 => at51 n (.head 2) [m2] (sh51_L2 x0 x1 x2 x3)) x0 x1 x2 x3 := by kernel_rfl
noncomputable def p51_L2 (n : Nat) : Nat → Int → (List Bool) → (List Bool) → (List Int) → Option R51
  | 0, _, _, _, _ => none
  | m + 1, x0, x1, x2, x3 => st51_L2 n (p51_L2 n m) x0 x1 x2 x3
noncomputable def p51 (n : Nat) (a : List Bool × List Bool × List Int) (b : Unit) : Option R51 := st51_top n (p51_L2 n n) a b
theorem t51_L2 (n : Nat) : ∀ (m2 : Nat) (x0 : Int) (x1 : List Bool) (x2 : List Bool) (x3 : List Int), at51 n (.head 2) [m2] (sh51_L2 x0 x1 x2 x3) = p51_L2  n m2 x0 x1 x2 x3 := by
  intro m
  induction m with
  | zero => intros; rw [e51_L2_0]; rfl
  | succ m ih =>
    intros
    rw [e51_L2]
    try simp only [ih]
    rfl
theorem F51_eq (n : Nat) (a : List Bool × List Bool × List Int) (b : Unit) : runF TT G51 an51 Try.f51 c51 ps51 rs51 n (a, b, ()) = p51 n a b := by
  rw [e51_top]
  simp only [t51_L2]
  try rfl
noncomputable def q51 (n : Nat) (x : argsD ps51) : Option R51 := p51 n x.1 x.2.1
noncomputable def Sm51 : Sm := ⟨ps51, rs51, false, q51⟩
theorem holds51 (hg : GamOK Try.prog G51) : Holds Try.prog 51 Sm51 := by
  have := h0_51 hg
  have e : (runF TT G51 an51 Try.f51 c51 ps51 rs51) = q51 := by
    funext n x
    exact F51_eq n x.1 x.2.1
  rw [e] at this
  exact this
theorem gam51 : GamOK Try.prog G51 := by
  intro f s h
  unfold G51 at h
  split at h
  · injection h with h; subst h; exact ⟨⟨Try.f52, c52, Try.func52, by kernel_rfl, by decide +kernel⟩, hh52⟩
  · cases h
theorem hh51 : Holds Try.prog 51 Sm51 := holds51 gam51
end Go.Proofs.Ytfbdkjdockbfdaa.Rx.S
namespace Go.Proofs.Ytfbdkjdockbfdaa.Rx.S
open Go Go.RowKit Go.Proofs
set_option maxRecDepth 100000
noncomputable def c13 : Code := (Try.f13.body.getD .skip)
def an13 : An := ⟨fun _ => ⟨[], []⟩, fun _ _ => none⟩
abbrev ps13 : List PK := [.val tSg true]
abbrev rs13 : List RK := [.own tSg true, .val i64 false, .val i64 false, .val .bool false]
abbrev R13 := retsD rs13 × outsD ps13
noncomputable def G13 : Gam := fun f => match f with | 41 => some Sm41 | 43 => some Sm43 | 44 => some Sm44 | 51 => some Sm51 | 52 => some Sm52 | _ => none
theorem h0_13 (hg : GamOK Try.prog G13) : Holds Try.prog 13 ⟨ps13, rs13, false, runF TT G13 an13 Try.f13 c13 ps13 rs13⟩ := holds_of tt_ok hg mixed Try.func13 (by kernel_rfl) (by rfl) (by decide +kernel)
noncomputable def at13 : Nat → Pt → List Nat → St → Option R13 := atF TT G13 an13 Try.f13 c13 _ _
noncomputable def st13_top (n : Nat)  (a : List Bool × List Bool × List Int) : Option R13 :=
  (Go.Proofs.Ytfbdkjdockbfdaa.Rx.S.q41 n ((a.fst, a.snd.fst, a.snd.snd), ())).bind fun r0 => cond (!r0.fst.fst) (some ((([], ([], [])), ((0 : Int), ((1 : Int), (false, ())))), ())) ((Go.Proofs.Ytfbdkjdockbfdaa.Rx.S.q43 n ((a.fst, a.snd.fst, a.snd.snd), ())).bind fun r1 => (Go.Proofs.Ytfbdkjdockbfdaa.Rx.S.q51 n ((a.fst, a.snd.fst, a.snd.snd), (), ())).bind fun r2 => cond (decide (r2.fst.fst = (0 : Int))) (some (((r1.fst.fst.fst, (r1.fst.fst.snd.fst, r1.fst.fst.snd.snd)), ((0 : Int), ((1 : Int), (false, ())))), ())) (cond (decide ((0 : Int) ≤ Go.IntKind.i64.wrap (r2.fst.fst - (1 : Int)))) (cond (decide (Go.IntKind.i64.wrap (r2.fst.fst - (1 : Int)) < (↑(List.length r1.fst.fst.fst) : Int))) ((Go.Proofs.Ytfbdkjdockbfdaa.Rx.S.q44 n ((a.fst, a.snd.fst, a.snd.snd), r2.fst.fst, ())).bind fun r3 => some (((List.set r1.fst.fst.fst (Go.IntKind.i64.wrap (r2.fst.fst - (1 : Int))).toNat false, (r1.fst.fst.snd.fst, r1.fst.fst.snd.snd)), (r2.fst.fst, (r3.fst.fst, (true, ())))), ())) (none)) (none)))
theorem e13_top (n : Nat) (a : List Bool × List Bool × List Int) : runF TT G13 an13 Try.f13 c13 ps13 rs13 n (a, ()) = st13_top n  a := by kernel_rfl
noncomputable def p13 (n : Nat) (a : List Bool × List Bool × List Int) : Option R13 := st13_top n  a
theorem F13_eq (n : Nat) (a : List Bool × List Bool × List Int) : runF TT G13 an13 Try.f13 c13 ps13 rs13 n (a, ()) = p13 n a := by
  rw [e13_top]
  skip
  try rfl
noncomputable def q13 (n : Nat) (x : argsD ps13) : Option R13 := p13 n x.1
noncomputable def Sm13 : Sm := ⟨ps13, rs13, false, q13⟩
theorem holds13 (hg : GamOK Try.prog G13) : Holds Try.prog 13 Sm13 := by
  have := h0_13 hg
  have e : (runF TT G13 an13 Try.f13 c13 ps13 rs13) = q13 := by
    funext n x
    exact F13_eq n x.1
  rw [e] at this
  exact this
theorem gam13 : GamOK Try.prog G13 := by
  intro f s h
  unfold G13 at h
  split at h
  · injection h with h; subst h; exact ⟨⟨Try.f41, c41, Try.func41, by kernel_rfl, by decide +kernel⟩, hh41⟩
  · injection h with h; subst h; exact ⟨⟨Try.f43, c43, Try.func43, by kernel_rfl, by decide +kernel⟩, hh43⟩
  · injection h with h; subst h; exact ⟨⟨Try.f44, c44, Try.func44, by kernel_rfl, by decide +kernel⟩, hh44⟩
  · injection h with h; subst h; exact ⟨⟨Try.f51, c51, Try.func51, by kernel_rfl, by decide +kernel⟩, hh51⟩
  · injection h with h; subst h; exact ⟨⟨Try.f52, c52, Try.func52, by kernel_rfl, by decide +kernel⟩, hh52⟩
  · cases h
theorem hh13 : Holds Try.prog 13 Sm13 := holds13 gam13
end Go.Proofs.Ytfbdkjdockbfdaa.Rx.S
namespace Go.Proofs.Ytfbdkjdockbfdaa.Rx.S
open Go Go.RowKit Go.Proofs
set_option maxRecDepth 100000
noncomputable def c14 : Code := (Try.f14.body.getD .skip)
def an14 : An := ⟨fun r => match r with | 5 => ⟨[4, 6, 20, 21, 22], []⟩ | _ => ⟨[], []⟩, fun _ _ => none⟩
abbrev ps14 : List PK := [.val tSg true, .val (.row 4 .bool) false]
abbrev rs14 : List RK := [.own tSg true, .val .bool false]
abbrev R14 := retsD rs14 × outsD ps14
noncomputable def G14 : Gam := fun f => match f with | 41 => some Sm41 | 43 => some Sm43 | _ => none
theorem h0_14 (hg : GamOK Try.prog G14) : Holds Try.prog 14 ⟨ps14, rs14, false, runF TT G14 an14 Try.f14 c14 ps14 rs14⟩ := holds_of tt_ok hg mixed Try.func14 (by kernel_rfl) (by rfl) (by decide +kernel)
noncomputable def at14 : Nat → Pt → List Nat → St → Option R14 := atF TT G14 an14 Try.f14 c14 _ _
def sh14_L5 (x0 : List Bool) (x1 : Int) (x2 : Int) (x3 : List Bool) (x4 : List Bool) (x5 : List Int) : St := (Go.Proofs.Ytfbdkjdockbfdaa.Rx.St.mk (Go.Proofs.Ytfbdkjdockbfdaa.Rx.AV.undef :: (Go.Proofs.Ytfbdkjdockbfdaa.Rx.AV.undef :: (Go.Proofs.Ytfbdkjdockbfdaa.Rx.AV.undef :: (Go.Proofs.Ytfbdkjdockbfdaa.Rx.AV.undef :: ((Go.Proofs.Ytfbdkjdockbfdaa.Rx.AV.one (Go.Proofs.Ytfbdkjdockbfdaa.Rx.SV.bptr 1000000 0)) :: (Go.Proofs.Ytfbdkjdockbfdaa.Rx.AV.undef :: ((Go.Proofs.Ytfbdkjdockbfdaa.Rx.AV.one (Go.Proofs.Ytfbdkjdockbfdaa.Rx.SV.bptr 1000001 0)) :: (Go.Proofs.Ytfbdkjdockbfdaa.Rx.AV.undef :: (Go.Proofs.Ytfbdkjdockbfdaa.Rx.AV.undef :: (Go.Proofs.Ytfbdkjdockbfdaa.Rx.AV.undef :: (Go.Proofs.Ytfbdkjdockbfdaa.Rx.AV.undef :: (Go.Proofs.Ytfbdkjdockbfdaa.Rx.AV.undef :: (Go.Proofs.Ytfbdkjdockbfdaa.Rx.AV.undef :: (Go.Proofs.Ytfbdkjdockbfdaa.Rx.AV.undef :: (Go.Proofs.Ytfbdkjdockbfdaa.Rx.AV.undef :: (Go.Proofs.Ytfbdkjdockbfdaa.Rx.AV.undef :: (Go.Proofs.Ytfbdkjdockbfdaa.Rx.AV.undef :: (Go.Proofs.Ytfbdkjdockbfdaa.Rx.AV.undef :: (Go.Proofs.Ytfbdkjdockbfdaa.Rx.AV.undef :: (Go.Proofs.Ytfbdkjdockbfdaa.Rx.AV.undef :: ((Go.Proofs.Ytfbdkjdockbfdaa.Rx.AV.one (Go.Proofs.Ytfbdkjdockbfdaa.Rx.SV.con (⟨4, Go.Proofs.Ytfbdkjdockbfdaa.Rx.Ty.bool, x0⟩ : Rw))) :: ((Go.Proofs.Ytfbdkjdockbfdaa.Rx.AV.one (Go.Proofs.Ytfbdkjdockbfdaa.Rx.SV.int (Go.IntKind.i64) x1)) :: ((Go.Proofs.Ytfbdkjdockbfdaa.Rx.AV.one (Go.Proofs.Ytfbdkjdockbfdaa.Rx.SV.int (Go.IntKind.i64) x2)) :: (Go.Proofs.Ytfbdkjdockbfdaa.Rx.AV.undef :: (Go.Proofs.Ytfbdkjdockbfdaa.Rx.AV.undef :: (Go.Proofs.Ytfbdkjdockbfdaa.Rx.AV.undef :: (Go.Proofs.Ytfbdkjdockbfdaa.Rx.AV.undef :: (Go.Proofs.Ytfbdkjdockbfdaa.Rx.AV.undef :: (Go.Proofs.Ytfbdkjdockbfdaa.Rx.AV.undef :: (Go.Proofs.Ytfbdkjdockbfdaa.Rx.AV.undef :: (Go.Proofs.Ytfbdkjdockbfdaa.Rx.AV.undef :: (Go.Proofs.Ytfbdkjdockbfdaa.Rx.AV.undef :: (Go.Proofs.Ytfbdkjdockbfdaa.Rx.AV.undef :: (Go.Proofs.Ytfbdkjdockbfdaa.Rx.AV.undef :: (Go.Proofs.Ytfbdkjdockbfdaa.Rx.AV.undef :: (Go.Proofs.Ytfbdkjdockbfdaa.Rx.AV.undef :: (Go.Proofs.Ytfbdkjdockbfdaa.Rx.AV.undef :: (Go.Proofs.Ytfbdkjdockbfdaa.Rx.AV.undef :: (Go.Proofs.Ytfbdkjdockbfdaa.Rx.AV.undef :: (Go.Proofs.Ytfbdkjdockbfdaa.Rx.AV.undef :: (Go.Proofs.Ytfbdkjdockbfdaa.Rx.AV.undef :: (Go.Proofs.Ytfbdkjdockbfdaa.Rx.AV.undef :: (Go.Proofs.Ytfbdkjdockbfdaa.Rx.AV.undef :: (Go.Proofs.Ytfbdkjdockbfdaa.Rx.AV.undef :: [])))))))))))))))))))))))))))))))))))))))))))) ((1000000, (Go.Proofs.Ytfbdkjdockbfdaa.Rx.Ent.box (Go.Proofs.Ytfbdkjdockbfdaa.Rx.SV.nil :: (Go.Proofs.Ytfbdkjdockbfdaa.Rx.SV.nil :: (Go.Proofs.Ytfbdkjdockbfdaa.Rx.SV.nil :: []))))) :: ((1000001, (Go.Proofs.Ytfbdkjdockbfdaa.Rx.Ent.box ((Go.Proofs.Ytfbdkjdockbfdaa.Rx.SV.ref 1000002 0 [] Option.none) :: ((Go.Proofs.Ytfbdkjdockbfdaa.Rx.SV.ref 1000003 0 [] Option.none) :: ((Go.Proofs.Ytfbdkjdockbfdaa.Rx.SV.ref 1000004 0 [] Option.none) :: []))))) :: ((1000002, (Go.Proofs.Ytfbdkjdockbfdaa.Rx.Ent.row (⟨4, Go.Proofs.Ytfbdkjdockbfdaa.Rx.Ty.bool, x3⟩ : Rw) 0 Option.none)) :: ((1000003, (Go.Proofs.Ytfbdkjdockbfdaa.Rx.Ent.row (⟨4, Go.Proofs.Ytfbdkjdockbfdaa.Rx.Ty.bool, x4⟩ : Rw) 0 Option.none)) :: ((1000004, (Go.Proofs.Ytfbdkjdockbfdaa.Rx.Ent.row (⟨3, Go.Proofs.Ytfbdkjdockbfdaa.Rx.Ty.int Go.IntKind.i64, x5⟩ : Rw) 0 Option.none)) :: []))))))
noncomputable def st14_top (n : Nat) (lL5 : (List Bool) → Int → Int → (List Bool) → (List Bool) → (List Int) → Option R14) (a : List Bool × List Bool × List Int) (b : List Bool) : Option R14 :=
  (Go.Proofs.Ytfbdkjdockbfdaa.Rx.S.q41 n ((a.fst, a.snd.fst, a.snd.snd), ())).bind fun r0 => cond (!r0.fst.fst) (some ((([], ([], [])), (false, ())), ())) (cond (!decide ((↑b.length : Int) = (8 : Int))) (some ((([], ([], [])), (false, ())), ())) ((Go.Proofs.Ytfbdkjdockbfdaa.Rx.S.q43 n ((a.fst, a.snd.fst, a.snd.snd), ())).bind fun r1 => lL5 (b) ((↑b.length : Int)) ((0 : Int)) (r1.fst.fst.fst) (r1.fst.fst.snd.fst) (r1.fst.fst.snd.snd)))
noncomputable def st14_L5 (n : Nat) (lL5 : (List Bool) → Int → Int → (List Bool) → (List Bool) → (List Int) → Option R14) (x0 : List Bool) (x1 : Int) (x2 : Int) (x3 : List Bool) (x4 : List Bool) (x5 : List Int) : Option R14 :=
  cond (decide (x2 < x1)) (cond (decide ((0 : Int) ≤ x2)) (cond (decide (x2 < (↑x0.length : Int))) (cond (x0.getD x2.toNat false) (cond (!decide (Go.IntKind.i64.wrap (x2 + (1 : Int)) = (1 : Int))) (cond (decide ((0 : Int) ≤ x2)) (cond (decide (x2 < (↑x4.length : Int))) (lL5 (x0) (x1) (Go.IntKind.i64.wrap (x2 + (1 : Int))) (x3) (x4.set x2.toNat !decide (Go.IntKind.i64.wrap (x2 + (1 : Int)) = (2 : Int))) (x5)) (none)) (none)) (cond (decide ((0 : Int) ≤ x2)) (cond (decide (x2 < (↑x4.length : Int))) (lL5 (x0) (x1) (Go.IntKind.i64.wrap (x2 + (1 : Int))) (x3) (x4.set x2.toNat false) (x5)) (none)) (none))) (cond (decide ((0 : Int) ≤ x2)) (cond (decide (x2 < (↑x4.length : Int))) (lL5 (x0) (x1) (Go.IntKind.i64.wrap (x2 + (1 : Int))) (x3) (x4.set x2.toNat false) (x5)) (none)) (none))) (none)) (none)) (some (((x3, (x4, x5)), (true, ())), ()))
theorem e14_top (n : Nat) (a : List Bool × List Bool × List Int) (b : List Bool) : runF TT G14 an14 Try.f14 c14 ps14 rs14 n (a, b, ()) = st14_top n (fun x0 x1 x2 x3 x4 x5 => at14 n (.head 5) [n] (sh14_L5 x0 x1 x2 x3 x4 x5)) a b := by kernel_rfl
theorem e14_L5_0 (n : Nat) (x0 : List Bool) (x1 : Int) (x2 : Int) (x3 : List Bool) (x4 : List Bool) (x5 : List Int) : at14 n (.head 5) [0] (sh14_L5 x0 x1 x2 x3 x4 x5) = none := by kernel_rfl
theorem e14_L5 (n : Nat) (m5 : Nat) (x0 : List Bool) (x1 : Int) (x2 : Int) (x3 : List Bool) (x4 : List Bool) (x5 : List Int) : at14 n (.head 5) [m5 + 1] (sh14_L5 x0 x1 x2 x3 x4 x5) = st14_L5 n (fun x0 x1 x2 x3 x4 x5 => at14 n (.head 5) [m5] (sh14_L5 x0 x1 x2 x3 x4 x5)) x0 x1 x2 x3 x4 x5 := by kernel_rfl
noncomputable def p14_L5 (n : Nat) : Nat → (List Bool) → Int → Int → (List Bool) → (List Bool) → (List Int) → Option R14
  | 0, _, _, _, _, _, _ => none
  | m + 1, x0, x1, x2, x3, x4, x5 => st14_L5 n (p14_L5 n m) x0 x1 x2 x3 x4 x5
noncomputable def p14 (n : Nat) (a : List Bool × List Bool × List Int) (b : List Bool) : Option R14 := st14_top n (p14_L5 n n) a b
theorem t14_L5 (n : Nat) : ∀ (m5 : Nat) (x0 : List Bool) (x1 : Int) (x2 : Int) (x3 : List Bool) (x4 : List Bool) (x5 : List Int), at14 n (.head 5) [m5] (sh14_L5 x0 x1 x2 x3 x4 x5) = p14_L5  n m5 x0 x1 x2 x3 x4 x5 := by
  intro m
  induction m with
  | zero => intros; rw [e14_L5_0]; rfl
  | succ m ih =>
    intros
    rw [e14_L5]
    try simp only [ih]
    rfl
theorem F14_eq (n : Nat) (a : List Bool × List Bool × List Int) (b : List Bool) : runF TT G14 an14 Try.f14 c14 ps14 rs14 n (a, b, ()) = p14 n a b := by
  rw [e14_top]
  simp only [t14_L5]
  try rfl
noncomputable def q14 (n : Nat) (x : argsD ps14) : Option R14 := p14 n x.1 x.2.1
noncomputable def Sm14 : Sm := ⟨ps14, rs14, false, q14⟩
theorem holds14 (hg : GamOK Try.prog G14) : Holds Try.prog 14 Sm14 := by
  have := h0_14 hg
  have e : (runF TT G14 an14 Try.f14 c14 ps14 rs14) = q14 := by
    funext n x
    exact F14_eq n x.1 x.2.1
  rw [e] at this
  exact this
theorem gam14 : GamOK Try.prog G14 := by
  intro f s h
  unfold G14 at h
  split at h
  · injection h with h; subst h; exact ⟨⟨Try.f41, c41, Try.func41, by kernel_rfl, by decide +kernel⟩, hh41⟩
  · injection h with h; subst h; exact ⟨⟨Try.f43, c43, Try.func43, by kernel_rfl, by decide +kernel⟩, hh43⟩
  · cases h
theorem hh14 : Holds Try.prog 14 Sm14 := holds14 gam14
end Go.Proofs.Ytfbdkjdockbfdaa.Rx.S
namespace Go.Proofs.Ytfbdkjdockbfdaa.Rx.S
open Go Go.RowKit Go.Proofs
set_option maxRecDepth 100000
noncomputable def c3 : Code := (Try.f3.body.getD .skip)
def an3 : An := ⟨fun r => match r with | 11 => ⟨[4, 10, 13, 14, 15], []⟩ | _ => ⟨[], []⟩, fun _ _ => none⟩
abbrev ps3 : List PK := [.val (.row 5 (.int .u8)) false]
abbrev rs3 : List RK := [.val .bool false]
abbrev R3 := retsD rs3 × outsD ps3
noncomputable def G3 : Gam := fun f => match f with | 9 => some Sm9 | 10 => some Sm10 | 11 => some Sm11 | 12 => some Sm12 | 13 => some Sm13 | 14 => some Sm14 | _ => none
theorem h0_3 (hg : GamOK Try.prog G3) : Holds Try.prog 3 ⟨ps3, rs3, false, runF TT G3 an3 Try.f3 c3 ps3 rs3⟩ := holds_of tt_ok hg mixed Try.func3 (by kernel_rfl) (by rfl) (by decide +kernel)
noncomputable def at3 : Nat → Pt → List Nat → St → Option R3 := atF TT G3 an3 Try.f3 c3 _ _
def sh3_L11 (x0 : Int) (x1 : Int) (x2 : Bool) (x3 : Int) (x4 : List Bool) (x5 : List Bool) (x6 : List Int) : St := (Go.Proofs.Ytfbdkjdockbfdaa.Rx.St.mk (Go.Proofs.Ytfbdkjdockbfdaa.Rx.AV.undef :: (Go.Proofs.Ytfbdkjdockbfdaa.Rx.AV.undef :: (Go.Proofs.Ytfbdkjdockbfdaa.Rx.AV.undef :: (Go.Proofs.Ytfbdkjdockbfdaa.Rx.AV.undef :: ((Go.Proofs.Ytfbdkjdockbfdaa.Rx.AV.one (Go.Proofs.Ytfbdkjdockbfdaa.Rx.SV.int (Go.IntKind.i64) x0)) :: (Go.Proofs.Ytfbdkjdockbfdaa.Rx.AV.undef :: (Go.Proofs.Ytfbdkjdockbfdaa.Rx.AV.undef :: (Go.Proofs.Ytfbdkjdockbfdaa.Rx.AV.undef :: (Go.Proofs.Ytfbdkjdockbfdaa.Rx.AV.undef :: (Go.Proofs.Ytfbdkjdockbfdaa.Rx.AV.undef :: ((Go.Proofs.Ytfbdkjdockbfdaa.Rx.AV.one (Go.Proofs.Ytfbdkjdockbfdaa.Rx.SV.int (Go.IntKind.i64) x1)) :: (Go.Proofs.Ytfbdkjdockbfdaa.Rx.AV.undef :: (Go.Proofs.Ytfbdkjdockbfdaa.Rx.AV.undef :: ((Go.Proofs.Ytfbdkjdockbfdaa.Rx.AV.one (Go.Proofs.Ytfbdkjdockbfdaa.Rx.SV.bptr 1000000 0)) :: ((Go.Proofs.Ytfbdkjdockbfdaa.Rx.AV.one (Go.Proofs.Ytfbdkjdockbfdaa.Rx.SV.bool x2)) :: ((Go.Proofs.Ytfbdkjdockbfdaa.Rx.AV.one (Go.Proofs.Ytfbdkjdockbfdaa.Rx.SV.int (Go.IntKind.i64) x3)) :: (Go.Proofs.Ytfbdkjdockbfdaa.Rx.AV.undef :: (Go.Proofs.Ytfbdkjdockbfdaa.Rx.AV.undef :: (Go.Proofs.Ytfbdkjdockbfdaa.Rx.AV.undef :: (Go.Proofs.Ytfbdkjdockbfdaa.Rx.AV.undef :: (Go.Proofs.Ytfbdkjdockbfdaa.Rx.AV.undef :: (Go.Proofs.Ytfbdkjdockbfdaa.Rx.AV.undef :: (Go.Proofs.Ytfbdkjdockbfdaa.Rx.AV.undef :: (Go.Proofs.Ytfbdkjdockbfdaa.Rx.AV.undef :: (Go.Proofs.Ytfbdkjdockbfdaa.Rx.AV.undef :: (Go.Proofs.Ytfbdkjdockbfdaa.Rx.AV.undef :: (Go.Proofs.Ytfbdkjdockbfdaa.Rx.AV.undef :: (Go.Proofs.Ytfbdkjdockbfdaa.Rx.AV.undef :: (Go.Proofs.Ytfbdkjdockbfdaa.Rx.AV.undef :: (Go.Proofs.Ytfbdkjdockbfdaa.Rx.AV.undef :: (Go.Proofs.Ytfbdkjdockbfdaa.Rx.AV.undef :: (Go.Proofs.Ytfbdkjdockbfdaa.Rx.AV.undef :: (Go.Proofs.Ytfbdkjdockbfdaa.Rx.AV.undef :: (Go.Proofs.Ytfbdkjdockbfdaa.Rx.AV.undef :: (Go.Proofs.Ytfbdkjdockbfdaa.Rx.AV.undef :: (Go.Proofs.Ytfbdkjdockbfdaa.Rx.AV.undef :: (Go.Proofs.Ytfbdkjdockbfdaa.Rx.AV.undef :: (Go.Proofs.Ytfbdkjdockbfdaa.Rx.AV.undef :: (Go.Proofs.Ytfbdkjdockbfdaa.Rx.AV.undef :: (Go.Proofs.Ytfbdkjdockbfdaa.Rx.AV.undef :: (Go.Proofs.Ytfbdkjdockbfdaa.Rx.AV.undef :: (Go.Proofs.Ytfbdkjdockbfdaa.Rx.AV.undef :: (Go.Proofs.Ytfbdkjdockbfdaa.Rx.AV.undef :: (Go.Proofs.Ytfbdkjdockbfdaa.Rx.AV.undef :: (Go.Proofs.Ytfbdkjdockbfdaa.Rx.AV.undef :: (Go.Proofs.Ytfbdkjdockbfdaa.Rx.AV.undef :: (Go.Proofs.Ytfbdkjdockbfdaa.Rx.AV.undef :: (Go.Proofs.Ytfbdkjdockbfdaa.Rx.AV.undef :: (Go.Proofs.Ytfbdkjdockbfdaa.Rx.AV.undef :: (Go.Proofs.Ytfbdkjdockbfdaa.Rx.AV.undef :: (Go.Proofs.Ytfbdkjdockbfdaa.Rx.AV.undef :: (Go.Proofs.Ytfbdkjdockbfdaa.Rx.AV.undef :: (Go.Proofs.Ytfbdkjdockbfdaa.Rx.AV.undef :: (Go.Proofs.Ytfbdkjdockbfdaa.Rx.AV.undef :: (Go.Proofs.Ytfbdkjdockbfdaa.Rx.AV.undef :: (Go.Proofs.Ytfbdkjdockbfdaa.Rx.AV.undef :: (Go.Proofs.Ytfbdkjdockbfdaa.Rx.AV.undef :: (Go.Proofs.Ytfbdkjdockbfdaa.Rx.AV.undef :: (Go.Proofs.Ytfbdkjdockbfdaa.Rx.AV.undef :: (Go.Proofs.Ytfbdkjdockbfdaa.Rx.AV.undef :: (Go.Proofs.Ytfbdkjdockbfdaa.Rx.AV.undef :: (Go.Proofs.Ytfbdkjdockbfdaa.Rx.AV.undef :: (Go.Proofs.Ytfbdkjdockbfdaa.Rx.AV.undef :: (Go.Proofs.Ytfbdkjdockbfdaa.Rx.AV.undef :: (Go.Proofs.Ytfbdkjdockbfdaa.Rx.AV.undef :: (Go.Proofs.Ytfbdkjdockbfdaa.Rx.AV.undef :: (Go.Proofs.Ytfbdkjdockbfdaa.Rx.AV.undef :: (Go.Proofs.Ytfbdkjdockbfdaa.Rx.AV.undef :: (Go.Proofs.Ytfbdkjdockbfdaa.Rx.AV.undef :: (Go.Proofs.Ytfbdkjdockbfdaa.Rx.AV.undef :: (Go.Proofs.Ytfbdkjdockbfdaa.Rx.AV.undef :: (Go.Proofs.Ytfbdkjdockbfdaa.Rx.AV.undef :: (Go.Proofs.Ytfbdkjdockbfdaa.Rx.AV.undef :: (Go.Proofs.Ytfbdkjdockbfdaa.Rx.AV.undef :: (Go.Proofs.Ytfbdkjdockbfdaa.Rx.AV.undef :: (Go.Proofs.Ytfbdkjdockbfdaa.Rx.AV.undef :: (Go.Proofs.Ytfbdkjdockbfdaa.Rx.AV.undef :: (Go.Proofs.Ytfbdkjdockbfdaa.Rx.AV.undef :: (Go.Proofs.Ytfbdkjdockbfdaa.Rx.AV.undef :: (Go.Proofs.Ytfbdkjdockbfdaa.Rx.AV.undef :: (Go.Proofs.Ytfbdkjdockbfdaa.Rx.AV.undef :: (Go.Proofs.Ytfbdkjdockbfdaa.Rx.AV.undef :: (Go.Proofs.Ytfbdkjdockbfdaa.Rx.AV.undef :: (Go.Proofs.Ytfbdkjdockbfdaa.Rx.AV.undef :: (Go.Proofs.Ytfbdkjdockbfdaa.Rx.AV.undef :: (Go.Proofs.Ytfbdkjdockbfdaa.Rx.AV.undef :: (Go.Proofs.Ytfbdkjdockbfdaa.Rx.AV.undef :: (Go.Proofs.Ytfbdkjdockbfdaa.Rx.AV.undef :: (Go.Proofs.Ytfbdkjdockbfdaa.Rx.AV.undef :: (Go.Proofs.Ytfbdkjdockbfdaa.Rx.AV.undef :: (Go.Proofs.Ytfbdkjdockbfdaa.Rx.AV.undef :: (Go.Proofs.Ytfbdkjdockbfdaa.Rx.AV.undef :: (Go.Proofs.Ytfbdkjdockbfdaa.Rx.AV.undef :: (Go.Proofs.Ytfbdkjdockbfdaa.Rx.AV.undef :: (Go.Proofs.Ytfbdkjdockbfdaa.Rx.AV.undef :: (Go.Proofs.Ytfbdkjdockbfdaa.Rx.AV.undef :: (Go.Proofs.Ytfbdkjdockbfdaa.Rx.AV.undef :: (Go.Proofs.Ytfbdkjdockbfdaa.Rx.AV.undef :: (Go.Proofs.Ytfbdkjdockbfdaa.Rx.AV.undef :: (Go.Proofs.Ytfbdkjdockbfdaa.Rx.AV.undef :: (Go.Proofs.Ytfbdkjdockbfdaa.Rx.AV.undef :: (Go.Proofs.Ytfbdkjdockbfdaa.Rx.AV.undef :: (Go.Proofs.Ytfbdkjdockbfdaa.Rx.AV.undef :: (Go.Proofs.Ytfbdkjdockbfdaa.Rx.AV.undef :: (Go.Proofs.Ytfbdkjdockbfdaa.Rx.AV.undef :: (Go.Proofs.Ytfbdkjdockbfdaa.Rx.AV.undef :: (Go.Proofs.Ytfbdkjdockbfdaa.Rx.AV.undef :: []))))))))))))))))))))))))))))))))))))))))))))))))))))))))))))))))))))))))))))))))))))))))))))))))))))))))))) ((1000000, (Go.Proofs.Ytfbdkjdockbfdaa.Rx.Ent.box ((Go.Proofs.Ytfbdkjdockbfdaa.Rx.SV.ref 1000001 0 [] Option.none) :: ((Go.Proofs.Ytfbdkjdockbfdaa.Rx.SV.ref 1000002 0 [] Option.none) :: ((Go.Proofs.Ytfbdkjdockbfdaa.Rx.SV.ref 1000003 0 [] Option.none) :: []))))) :: ((1000001, (Go.Proofs.Ytfbdkjdockbfdaa.Rx.Ent.row (⟨4, Go.Proofs.Ytfbdkjdockbfdaa.Rx.Ty.bool, x4⟩ : Rw) 0 Option.none)) :: ((1000002, (Go.Proofs.Ytfbdkjdockbfdaa.Rx.Ent.row (⟨4, Go.Proofs.Ytfbdkjdockbfdaa.Rx.Ty.bool, x5⟩ : Rw) 0 Option.none)) :: ((1000003, (Go.Proofs.Ytfbdkjdockbfdaa.Rx.Ent.row (⟨3, Go.Proofs.Ytfbdkjdockbfdaa.Rx.Ty.int Go.IntKind.i64, x6⟩ : Rw) 0 Option.none)) :: [])))))
noncomputable def st3_top (n : Nat) (lL11 : Int → Int → Bool → Int → (List Bool) → (List Bool) → (List Int) → Option R3) (a : List Int) : Option R3 :=
  cond (decide ((1048576 : Int) < (↑a.length : Int))) (some ((true, ()), ())) ((Go.Proofs.Ytfbdkjdockbfdaa.Rx.S.q9 n (a, ())).bind fun r0 => (Go.Proofs.Ytfbdkjdockbfdaa.Rx.S.q10 n ((r0.fst.fst.fst, r0.fst.fst.snd.fst, r0.fst.fst.snd.snd), r0.fst.snd.fst, ())).bind fun r1 => (Go.Proofs.Ytfbdkjdockbfdaa.Rx.S.q11 n ((r0.fst.fst.fst, r0.fst.fst.snd.fst, r0.fst.fst.snd.snd), r0.fst.snd.fst, ())).bind fun r2 => cond (!r1.fst.snd.fst == r2.fst.snd.fst) (cond (r1.fst.snd.fst == r2.fst.snd.fst) ((Go.Proofs.Ytfbdkjdockbfdaa.Rx.S.q12 n   ((r1.fst.fst.fst, r1.fst.fst.snd.fst, r1.fst.fst.snd.snd), (r2.fst.fst.fst, r2.fst.fst.snd.fst, r2.fst.fst.snd.snd),     ())).bind fun r3 => some ((r3.fst.fst, ()), ())) (some ((false, ()), ()))) ((Go.Proofs.Ytfbdkjdockbfdaa.Rx.S.q12 n   ((r1.fst.fst.fst, r1.fst.fst.snd.fst, r1.fst.fst.snd.snd), (r2.fst.fst.fst, r2.fst.fst.snd.fst, r2.fst.fst.snd.snd),     ())).bind fun r4 => cond (!r4.fst.fst) (cond (r1.fst.snd.fst == r2.fst.snd.fst) ((Go.Proofs.Ytfbdkjdockbfdaa.Rx.S.q12 n   ((r1.fst.fst.fst, r1.fst.fst.snd.fst, r1.fst.fst.snd.snd), (r2.fst.fst.fst, r2.fst.fst.snd.fst, r2.fst.fst.snd.snd),     ())).bind fun r5 => some ((r5.fst.fst, ()), ())) (some ((false, ()), ()))) (cond (!r1.fst.snd.fst) (cond (r1.fst.snd.fst == r2.fst.snd.fst) ((Go.Proofs.Ytfbdkjdockbfdaa.Rx.S.q12 n   ((r1.fst.fst.fst, r1.fst.fst.snd.fst, r1.fst.fst.snd.snd), (r2.fst.fst.fst, r2.fst.fst.snd.fst, r2.fst.fst.snd.snd),     ())).bind fun r6 => some ((r6.fst.fst, ()), ())) (some ((false, ()), ()))) (cond (decide ((0 : Int) ≤ Go.IntKind.i64.wrap (r0.fst.snd.fst - (1 : Int)))) (cond (decide (Go.IntKind.i64.wrap (r0.fst.snd.fst - (1 : Int)) < (↑(List.length r0.fst.fst.snd.fst) : Int))) (cond (!List.getD r0.fst.fst.snd.fst (Go.IntKind.i64.wrap (r0.fst.snd.fst - (1 : Int))).toNat false) (cond (r1.fst.snd.fst == r2.fst.snd.fst) ((Go.Proofs.Ytfbdkjdockbfdaa.Rx.S.q12 n   ((r1.fst.fst.fst, r1.fst.fst.snd.fst, r1.fst.fst.snd.snd), (r2.fst.fst.fst, r2.fst.fst.snd.fst, r2.fst.fst.snd.snd),     ())).bind fun r7 => some ((r7.fst.fst, ()), ())) (some ((false, ()), ()))) ((Go.Proofs.Ytfbdkjdockbfdaa.Rx.S.q13 n ((r1.fst.fst.fst, r1.fst.fst.snd.fst, r1.fst.fst.snd.snd), ())).bind fun r8 => (Go.Proofs.Ytfbdkjdockbfdaa.Rx.S.q14 n ((r1.fst.fst.fst, r1.fst.fst.snd.fst, r1.fst.fst.snd.snd), List.replicate (Int.toNat (8 : Int)) false, ())).bind fun r9 => lL11 (r0.fst.snd.fst) (r8.fst.snd.fst) (r9.fst.snd.fst) ((0 : Int)) (r9.fst.fst.fst) (r9.fst.fst.snd.fst) (r9.fst.fst.snd.snd))) (none)) (none)))))
noncomputable def st3_L11 (n : Nat) (lL11 : Int → Int → Bool → Int → (List Bool) → (List Bool) → (List Int) → Option R3) (x0 : Int) (x1 : Int) (x2 : Bool) (x3 : Int) (x4 : List Bool) (x5 : List Bool) (x6 : List Int) : Option R3 :=
  cond (decide (x3 < (8 : Int))) (cond (x2) ((Go.Proofs.Ytfbdkjdockbfdaa.Rx.S.q13 n ((x4, x5, x6), ())).bind fun r11 => cond (r11.fst.snd.snd.snd.fst) (cond (decide (r11.fst.snd.fst = x0)) (some ((!decide (x1 = x0), ()), ())) (lL11 (x0) (x1) (x2) (Go.IntKind.i64.wrap (x3 + (1 : Int))) (r11.fst.fst.fst) (r11.fst.fst.snd.fst) (r11.fst.fst.snd.snd))) (lL11 (x0) (x1) (x2) (Go.IntKind.i64.wrap (x3 + (1 : Int))) (r11.fst.fst.fst) (r11.fst.fst.snd.fst) (r11.fst.fst.snd.snd))) (some ((false, ()), ()))) (some ((false, ()), ()))
theorem e3_top (n : Nat) (a : List Int) : runF TT G3 an3 Try.f3 c3 ps3 rs3 n (a, ()) = st3_top n (fun x0 x1 x2 x3 x4 x5 x6 => at3 n (.head 11) [n] (sh3_L11 x0 x1 x2 x3 x4 x5 x6)) a := by kernel_rfl
theorem e3_L11_0 (n : Nat) (x0 : Int) (x1 : Int) (x2 : Bool) (x3 : Int) (x4 : List Bool) (x5 : List Bool) (x6 : List Int) : at3 n (.head 11) [0] (sh3_L11 x0 x1 x2 x3 x4 x5 x6) = none := by kernel_rfl
theorem e3_L11 (n : Nat) (m11 : Nat) (x0 : Int) (x1 : Int) (x2 : Bool) (x3 : Int) (x4 : List Bool) (x5 : List Bool) (x6 : List Int) : at3 n (.head 11) [m11 + 1] (sh3_L11 x0 x1 x2 x3 x4 x5 x6) = st3_L11 n (fun x0 x1 x2 x3 x4 x5 x6 => at3 n (.head 11) [m11] (sh3_L11 x0 x1 x2 x3 x4 x5 x6)) x0 x1 x2 x3 x4 x5 x6 := by kernel_rfl
noncomputable def p3_L11 (n : Nat) : Nat → Int → Int → Bool → Int → (List Bool) → (List Bool) → (List Int) → Option R3
  | 0, _, _, _, _, _, _, _ => none
  | m + 1, x0, x1, x2, x3, x4, x5, x6 => st3_L11 n (p3_L11 n m) x0 x1 x2 x3 x4 x5 x6
noncomputable def p3 (n : Nat) (a : List Int) : Option R3 := st3_top n (p3_L11 n n) a
theorem t3_L11 (n : Nat) : ∀ (m11 : Nat) (x0 : Int) (x1 : Int) (x2 : Bool) (x3 : Int) (x4 : List Bool) (x5 : List Bool) (x6 : List Int), at3 n (.head 11) [m11] (sh3_L11 x0 x1 x2 x3 x4 x5 x6) = p3_L11  n m11 x0 x1 x2 x3 x4 x5 x6 := by
  intro m
  induction m with
  | zero => intros; rw [e3_L11_0]; rfl
  | succ m ih =>
    intros
    rw [e3_L11]
    try simp only [ih]
    rfl
theorem F3_eq (n : Nat) (a : List Int) : runF TT G3 an3 Try.f3 c3 ps3 rs3 n (a, ()) = p3 n a := by
  rw [e3_top]
  simp only [t3_L11]
  try rfl
noncomputable def q3 (n : Nat) (x : argsD ps3) : Option R3 := p3 n x.1
noncomputable def Sm3 : Sm := ⟨ps3, rs3, false, q3⟩
theorem holds3 (hg : GamOK Try.prog G3) : Holds Try.prog 3 Sm3 := by
  have := h0_3 hg
  have e : (runF TT G3 an3 Try.f3 c3 ps3 rs3) = q3 := by
    funext n x
    exact F3_eq n x.1
  rw [e] at this
  exact this
theorem gam3 : GamOK Try.prog G3 := by
  intro f s h
  unfold G3 at h
  split at h
  · injection h with h; subst h; exact ⟨⟨Try.f9, c9, Try.func9, by kernel_rfl, by decide +kernel⟩, hh9⟩
  · injection h with h; subst h; exact ⟨⟨Try.f10, c10, Try.func10, by kernel_rfl, by decide +kernel⟩, hh10⟩
  · injection h with h; subst h; exact ⟨⟨Try.f11, c11, Try.func11, by kernel_rfl, by decide +kernel⟩, hh11⟩
  · injection h with h; subst h; exact ⟨⟨Try.f12, c12, Try.func12, by kernel_rfl, by decide +kernel⟩, hh12⟩
  · injection h with h; subst h; exact ⟨⟨Try.f13, c13, Try.func13, by kernel_rfl, by decide +kernel⟩, hh13⟩
  · injection h with h; subst h; exact ⟨⟨Try.f14, c14, Try.func14, by kernel_rfl, by decide +kernel⟩, hh14⟩
  · cases h
theorem hh3 : Holds Try.prog 3 Sm3 := holds3 gam3
end Go.Proofs.Ytfbdkjdockbfdaa.Rx.S
namespace Go.Proofs.Ytfbdkjdockbfdaa.Rx.S
open Go Go.RowKit Go.Proofs
set_option maxRecDepth 100000
noncomputable def c79 : Code := (Try.f79.body.getD .skip)
def an79 : An := ⟨fun r => match r with | 2 => ⟨[1, 2, 5], []⟩ | _ => ⟨[], []⟩, fun _ _ => none⟩
abbrev ps79 : List PK := [.val tQu true, .val i64 false]
abbrev rs79 : List RK := [.val i64 false]
abbrev R79 := retsD rs79 × outsD ps79
noncomputable def G79 : Gam := fun _ => none
theorem h0_79 (hg : GamOK Try.prog G79) : Holds Try.prog 79 ⟨ps79, rs79, false, runF TT G79 an79 Try.f79 c79 ps79 rs79⟩ := holds_of tt_ok hg mixed Try.func79 (by kernel_rfl) (by rfl) (by decide +kernel)
noncomputable def at79 : Nat → Pt → List Nat → St → Option R79 := atF TT G79 an79 Try.f79 c79 _ _
def sh79_L2 (x0 : Int) (x1 : Int) (x2 : List (Int × Int × Int × Bool)) (x3 : Int) : St := (Go.Proofs.Ytfbdkjdockbfdaa.Rx.St.mk (Go.Proofs.Ytfbdkjdockbfdaa.Rx.AV.undef :: ((Go.Proofs.Ytfbdkjdockbfdaa.Rx.AV.one (Go.Proofs.Ytfbdkjdockbfdaa.Rx.SV.int (Go.IntKind.i64) x0)) :: ((Go.Proofs.Ytfbdkjdockbfdaa.Rx.AV.one (Go.Proofs.Ytfbdkjdockbfdaa.Rx.SV.bptr 1000000 0)) :: (Go.Proofs.Ytfbdkjdockbfdaa.Rx.AV.undef :: (Go.Proofs.Ytfbdkjdockbfdaa.Rx.AV.undef :: ((Go.Proofs.Ytfbdkjdockbfdaa.Rx.AV.one (Go.Proofs.Ytfbdkjdockbfdaa.Rx.SV.int (Go.IntKind.i64) x1)) :: (Go.Proofs.Ytfbdkjdockbfdaa.Rx.AV.undef :: (Go.Proofs.Ytfbdkjdockbfdaa.Rx.AV.undef :: (Go.Proofs.Ytfbdkjdockbfdaa.Rx.AV.undef :: (Go.Proofs.Ytfbdkjdockbfdaa.Rx.AV.undef :: (Go.Proofs.Ytfbdkjdockbfdaa.Rx.AV.undef :: (Go.Proofs.Ytfbdkjdockbfdaa.Rx.AV.undef :: (Go.Proofs.Ytfbdkjdockbfdaa.Rx.AV.undef :: (Go.Proofs.Ytfbdkjdockbfdaa.Rx.AV.undef :: (Go.Proofs.Ytfbdkjdockbfdaa.Rx.AV.undef :: (Go.Proofs.Ytfbdkjdockbfdaa.Rx.AV.undef :: (Go.Proofs.Ytfbdkjdockbfdaa.Rx.AV.undef :: (Go.Proofs.Ytfbdkjdockbfdaa.Rx.AV.undef :: (Go.Proofs.Ytfbdkjdockbfdaa.Rx.AV.undef :: (Go.Proofs.Ytfbdkjdockbfdaa.Rx.AV.undef :: (Go.Proofs.Ytfbdkjdockbfdaa.Rx.AV.undef :: (Go.Proofs.Ytfbdkjdockbfdaa.Rx.AV.undef :: [])))))))))))))))))))))) ((1000000, (Go.Proofs.Ytfbdkjdockbfdaa.Rx.Ent.box ((Go.Proofs.Ytfbdkjdockbfdaa.Rx.SV.con (⟨63, (Go.Proofs.Ytfbdkjdockbfdaa.Rx.Ty.int Go.IntKind.i64).pair   ((Go.Proofs.Ytfbdkjdockbfdaa.Rx.Ty.int Go.IntKind.i64).pair ((Go.Proofs.Ytfbdkjdockbfdaa.Rx.Ty.int Go.IntKind.i64).pair Go.Proofs.Ytfbdkjdockbfdaa.Rx.Ty.bool)), x2⟩ : Rw)) :: ((Go.Proofs.Ytfbdkjdockbfdaa.Rx.SV.int (Go.IntKind.i64) x3) :: [])))) :: []))
noncomputable def st79_top (n : Nat) (lL2 : Int → Int → (List (Int × Int × Int × Bool)) → Int → Option R79) (a : List (Int × Int × Int × Bool) × Int) (b : Int) : Option R79 :=
  lL2 (b) ((0 : Int)) (a.fst) (a.snd)
noncomputable def st79_L2 (n : Nat) (lL2 : Int → Int → (List (Int × Int × Int × Bool)) → Int → Option R79) (x0 : Int) (x1 : Int) (x2 : List (Int × Int × Int × Bool)) (x3 : Int) : Option R79 :=
  cond (decide (x1 < (↑x2.length : Int))) (cond (decide ((0 : Int) ≤ x1)) (cond (decide (x1 < (↑x2.length : Int))) (cond (decide ((x2.getD x1.toNat ((0 : Int), (0 : Int), (0 : Int), false)).fst = x0)) (some ((x1, ()), ())) (lL2 (x0) (Go.IntKind.i64.wrap (x1 + (1 : Int))) (x2) (x3))) (none)) (none)) (some (((-1 : Int), ()), ()))
theorem e79_top (n : Nat) (a : List (Int × Int × Int × Bool) × Int) (b : Int) : runF TT G79 an79 Try.f79 c79 ps79 rs79 n (a, b, ()) = st79_top n (fun x0 x1 x2 x3 => at79 n (.head 2) [n] (sh79_L2 x0 x1 x2 x3)) a b := by kernel_rfl
theorem e79_L2_0 (n : Nat) (x0 : Int) (x1 : Int) (x2 : List (Int × Int × Int × Bool)) (x3 : Int) : at79 n (.head 2) [0] (sh79_L2 x0 x1 x2 x3) = none := by kernel_rfl
theorem e79_L2 (n : Nat) (m2 : Nat) (x0 : Int) (x1 : Int) (x2 : List (Int × Int × Int × Bool)) (x3 : Int) : at79 n (.head 2) [m2 + 1] (sh79_L2 x0 x1 x2 x3) = st79_L2 n (fun x0 x1 x2 x3 => at79 n (.head 2) [m2] (sh79_L2 x0 x1 x2 x3)) x0 x1 x2 x3 := by kernel_rfl
noncomputable def p79_L2 (n : Nat) : Nat → Int → Int → (List (Int × Int × Int × Bool)) → Int → Option R79
  | 0, _, _, _, _ => none
  | m + 1, x0, x1, x2, x3 => st79_L2 n (p79_L2 n m) x0 x1 x2 x3
noncomputable def p79 (n : Nat) (a : List (Int × Int × Int × Bool) × Int) (b : Int) : Option R79 := st79_top n (p79_L2 n n) a b
theorem t79_L2 (n : Nat) : ∀ (m2 : Nat) (x0 : Int) (x1 : Int) (x2 : List (Int × Int × Int × Bool)) (x3 : Int), at79 n (.head 2) [m2] (sh79_L2 x0 x1 x2 x3) = p79_L2  n m2 x0 x1 x2 x3 := by
  intro m
  induction m with
  | zero => intros; rw [e79_L2_0]; rfl
  | succ m ih =>
    intros
    rw [e79_L2]
    try simp only [ih]
    rfl
theorem F79_eq (n : Nat) (a : List (Int × Int × Int × Bool) × Int) (b : Int) : runF TT G79 an79 Try.f79 c79 ps79 rs79 n (a, b, ()) = p79 n a b := by
  rw [e79_top]
  simp only [t79_L2]
  try rfl
noncomputable def q79 (n : Nat) (x : argsD ps79) : Option R79 := p79 n x.1 x.2.1
noncomputable def Sm79 : Sm := ⟨ps79, rs79, false, q79⟩
theorem holds79 (hg : GamOK Try.prog G79) : Holds Try.prog 79 Sm79 := by
  have := h0_79 hg
  have e : (runF TT G79 an79 Try.f79 c79 ps79 rs79) = q79 := by
    funext n x
    exact F79_eq n x.1 x.2.1
  rw [e] at this
  exact this
theorem gam79 : GamOK Try.prog G79 := fun _ _ h => by cases h
theorem hh79 : Holds Try.prog 79 Sm79 := holds79 gam79
end Go.Proofs.Ytfbdkjdockbfdaa.Rx.S
namespace Go.Proofs.Ytfbdkjdockbfdaa.Rx.S
open Go Go.RowKit Go.Proofs
set_option maxRecDepth 100000
noncomputable def c95 : Code := (Try.f95.body.getD .skip)
def an95 : An := ⟨fun r => match r with | 4 => ⟨[2, 3, 4, 5, 6, 7], []⟩ | _ => ⟨[], []⟩, fun _ _ => none⟩
abbrev ps95 : List PK := [.val tQu true, .val tTh true]
abbrev rs95 : List RK := [.own tQu true]
abbrev R95 := retsD rs95 × outsD ps95
noncomputable def G95 : Gam := fun _ => none
theorem h0_95 (hg : GamOK Try.prog G95) : Holds Try.prog 95 ⟨ps95, rs95, false, runF TT G95 an95 Try.f95 c95 ps95 rs95⟩ := holds_of tt_ok hg mixed Try.func95 (by kernel_rfl) (by rfl) (by decide +kernel)
noncomputable def at95 : Nat → Pt → List Nat → St → Option R95 := atF TT G95 an95 Try.f95 c95 _ _
def sh95_L4 (x0 : Bool) (x1 : Int) (x2 : List (Int × Int × Int × Bool)) (x3 : Int) (x4 : Int) (x5 : Int) (x6 : Int) (x7 : Bool) (x8 : Int) (x9 : List (Int × Int × Int × Bool)) : St := (Go.Proofs.Ytfbdkjdockbfdaa.Rx.St.mk (Go.Proofs.Ytfbdkjdockbfdaa.Rx.AV.undef :: (Go.Proofs.Ytfbdkjdockbfdaa.Rx.AV.undef :: ((Go.Proofs.Ytfbdkjdockbfdaa.Rx.AV.one (Go.Proofs.Ytfbdkjdockbfdaa.Rx.SV.bptr 1000000 0)) :: ((Go.Proofs.Ytfbdkjdockbfdaa.Rx.AV.one (Go.Proofs.Ytfbdkjdockbfdaa.Rx.SV.bptr 1000001 0)) :: ((Go.Proofs.Ytfbdkjdockbfdaa.Rx.AV.one (Go.Proofs.Ytfbdkjdockbfdaa.Rx.SV.bptr 1000002 0)) :: ((Go.Proofs.Ytfbdkjdockbfdaa.Rx.AV.one (Go.Proofs.Ytfbdkjdockbfdaa.Rx.SV.ref 1000003 0 [] Option.none)) :: ((Go.Proofs.Ytfbdkjdockbfdaa.Rx.AV.one (Go.Proofs.Ytfbdkjdockbfdaa.Rx.SV.bool x0)) :: ((Go.Proofs.Ytfbdkjdockbfdaa.Rx.AV.one (Go.Proofs.Ytfbdkjdockbfdaa.Rx.SV.int (Go.IntKind.i64) x1)) :: (Go.Proofs.Ytfbdkjdockbfdaa.Rx.AV.undef :: (Go.Proofs.Ytfbdkjdockbfdaa.Rx.AV.undef :: (Go.Proofs.Ytfbdkjdockbfdaa.Rx.AV.undef :: (Go.Proofs.Ytfbdkjdockbfdaa.Rx.AV.undef :: (Go.Proofs.Ytfbdkjdockbfdaa.Rx.AV.undef :: (Go.Proofs.Ytfbdkjdockbfdaa.Rx.AV.undef :: (Go.Proofs.Ytfbdkjdockbfdaa.Rx.AV.undef :: (Go.Proofs.Ytfbdkjdockbfdaa.Rx.AV.undef :: (Go.Proofs.Ytfbdkjdockbfdaa.Rx.AV.undef :: (Go.Proofs.Ytfbdkjdockbfdaa.Rx.AV.undef :: (Go.Proofs.Ytfbdkjdockbfdaa.Rx.AV.undef :: (Go.Proofs.Ytfbdkjdockbfdaa.Rx.AV.undef :: (Go.Proofs.Ytfbdkjdockbfdaa.Rx.AV.undef :: (Go.Proofs.Ytfbdkjdockbfdaa.Rx.AV.undef :: (Go.Proofs.Ytfbdkjdockbfdaa.Rx.AV.undef :: (Go.Proofs.Ytfbdkjdockbfdaa.Rx.AV.undef :: (Go.Proofs.Ytfbdkjdockbfdaa.Rx.AV.undef :: (Go.Proofs.Ytfbdkjdockbfdaa.Rx.AV.undef :: (Go.Proofs.Ytfbdkjdockbfdaa.Rx.AV.undef :: (Go.Proofs.Ytfbdkjdockbfdaa.Rx.AV.undef :: (Go.Proofs.Ytfbdkjdockbfdaa.Rx.AV.undef :: (Go.Proofs.Ytfbdkjdockbfdaa.Rx.AV.undef :: (Go.Proofs.Ytfbdkjdockbfdaa.Rx.AV.undef :: (Go.Proofs.Ytfbdkjdockbfdaa.Rx.AV.undef :: (Go.Proofs.Ytfbdkjdockbfdaa.Rx.AV.undef :: (Go.Proofs.Ytfbdkjdockbfdaa.Rx.AV.undef :: (Go.Proofs.Ytfbdkjdockbfdaa.Rx.AV.undef :: (Go.Proofs.Ytfbdkjdockbfdaa.Rx.AV.undef :: (Go.Proofs.Ytfbdkjdockbfdaa.Rx.AV.undef :: (Go.Proofs.Ytfbdkjdockbfdaa.Rx.AV.undef :: (Go.Proofs.Ytfbdkjdockbfdaa.Rx.AV.undef :: (Go.Proofs.Ytfbdkjdockbfdaa.Rx.AV.undef :: (Go.Proofs.Ytfbdkjdockbfdaa.Rx.AV.undef :: (Go.Proofs.Ytfbdkjdockbfdaa.Rx.AV.undef :: (Go.Proofs.Ytfbdkjdockbfdaa.Rx.AV.undef :: (Go.Proofs.Ytfbdkjdockbfdaa.Rx.AV.undef :: (Go.Proofs.Ytfbdkjdockbfdaa.Rx.AV.undef :: (Go.Proofs.Ytfbdkjdockbfdaa.Rx.AV.undef :: (Go.Proofs.Ytfbdkjdockbfdaa.Rx.AV.undef :: (Go.Proofs.Ytfbdkjdockbfdaa.Rx.AV.undef :: (Go.Proofs.Ytfbdkjdockbfdaa.Rx.AV.undef :: (Go.Proofs.Ytfbdkjdockbfdaa.Rx.AV.undef :: [])))))))))))))))))))))))))))))))))))))))))))))))))) ((1000000, (Go.Proofs.Ytfbdkjdockbfdaa.Rx.Ent.box ((Go.Proofs.Ytfbdkjdockbfdaa.Rx.SV.con (⟨63, (Go.Proofs.Ytfbdkjdockbfdaa.Rx.Ty.int Go.IntKind.i64).pair   ((Go.Proofs.Ytfbdkjdockbfdaa.Rx.Ty.int Go.IntKind.i64).pair ((Go.Proofs.Ytfbdkjdockbfdaa.Rx.Ty.int Go.IntKind.i64).pair Go.Proofs.Ytfbdkjdockbfdaa.Rx.Ty.bool)), x2⟩ : Rw)) :: ((Go.Proofs.Ytfbdkjdockbfdaa.Rx.SV.int (Go.IntKind.i64) x3) :: [])))) :: ((1000001, (Go.Proofs.Ytfbdkjdockbfdaa.Rx.Ent.box ((Go.Proofs.Ytfbdkjdockbfdaa.Rx.SV.int (Go.IntKind.i64) x4) :: ((Go.Proofs.Ytfbdkjdockbfdaa.Rx.SV.int (Go.IntKind.i64) x5) :: ((Go.Proofs.Ytfbdkjdockbfdaa.Rx.SV.int (Go.IntKind.i64) x6) :: ((Go.Proofs.Ytfbdkjdockbfdaa.Rx.SV.bool x7) :: [])))))) :: ((1000002, (Go.Proofs.Ytfbdkjdockbfdaa.Rx.Ent.box (Go.Proofs.Ytfbdkjdockbfdaa.Rx.SV.nil :: ((Go.Proofs.Ytfbdkjdockbfdaa.Rx.SV.int (Go.IntKind.i64) x8) :: [])))) :: ((1000003, (Go.Proofs.Ytfbdkjdockbfdaa.Rx.Ent.row (⟨63, (Go.Proofs.Ytfbdkjdockbfdaa.Rx.Ty.int Go.IntKind.i64).pair   ((Go.Proofs.Ytfbdkjdockbfdaa.Rx.Ty.int Go.IntKind.i64).pair ((Go.Proofs.Ytfbdkjdockbfdaa.Rx.Ty.int Go.IntKind.i64).pair Go.Proofs.Ytfbdkjdockbfdaa.Rx.Ty.bool)), x9⟩ : Rw) 0 Option.none)) :: [])))))
noncomputable def st95_top (n : Nat) (lL4 : Bool → Int → (List (Int × Int × Int × Bool)) → Int → Int → Int → Int → Bool → Int → (List (Int × Int × Int × Bool)) → Option R95) (a : List (Int × Int × Int × Bool) × Int) (b : Int × Int × Int × Bool) : Option R95 :=
  lL4 (false) ((0 : Int)) (a.fst) (a.snd) (b.fst) (b.snd.fst) (b.snd.snd.fst) (b.snd.snd.snd) ((0 : Int)) ([])
noncomputable def st95_L4 (n : Nat) (lL4 : Bool → Int → (List (Int × Int × Int × Bool)) → Int → Int → Int → Int → Bool → Int → (List (Int × Int × Int × Bool)) → Option R95) (x0 : Bool) (x1 : Int) (x2 : List (Int × Int × Int × Bool)) (x3 : Int) (x4 : Int) (x5 : Int) (x6 : Int) (x7 : Bool) (x8 : Int) (x9 : List (Int × Int × Int × Bool)) : Option R95 :=
  cond (decide (x1 < (↑x2.length : Int))) (cond (!x0) (cond (decide ((0 : Int) ≤ x1)) (cond (decide (x1 < (↑x2.length : Int))) (cond (decide (x4 < (x2.getD x1.toNat ((0 : Int), (0 : Int), (0 : Int), false)).fst)) (cond (decide ((x9.length + [(x4, x5, x6, x7)].length) * (32 : Nat) ≤ (140737488355328 : Nat))) (cond (decide ((0 : Int) ≤ x1)) (cond (decide (x1 < (↑x2.length : Int))) (cond (decide   (((x9 ++ [(x4, x5, x6, x7)]).length +         [((x2.getD x1.toNat ((0 : Int), (0 : Int), (0 : Int), false)).fst,               (x2.getD x1.toNat ((0 : Int), (0 : Int), (0 : Int), false)).snd.fst,               (x2.getD x1.toNat ((0 : Int), (0 : Int), (0 : Int), false)).snd.snd.fst,               (x2.getD x1.toNat ((0 : Int), (0 : Int), (0 : Int), false)).snd.snd.snd)].length) *       (32 : Nat) ≤     (140737488355328 : Nat))) (lL4 (true) (Go.IntKind.i64.wrap (x1 + (1 : Int))) (x2) (x3) (x4) (x5) (x6) (x7) (x8) (x9 ++ [(x4, x5, x6, x7)] ++   [((x2.getD x1.toNat ((0 : Int), (0 : Int), (0 : Int), false)).fst,       (x2.getD x1.toNat ((0 : Int), (0 : Int), (0 : Int), false)).snd.fst,       (x2.getD x1.toNat ((0 : Int), (0 : Int), (0 : Int), false)).snd.snd.fst,       (x2.getD x1.toNat ((0 : Int), (0 : Int), (0 : Int), false)).snd.snd.snd)])) (none)) (none)) (none)) (none)) (cond (decide ((0 : Int) ≤ x1)) (cond (decide (x1 < (↑x2.length : Int))) (cond (decide   ((x9.length +         [((x2.getD x1.toNat ((0 : Int), (0 : Int), (0 : Int), false)).fst,               (x2.getD x1.toNat ((0 : Int), (0 : Int), (0 : Int), false)).snd.fst,               (x2.getD x1.toNat ((0 : Int), (0 : Int), (0 : Int), false)).snd.snd.fst,               (x2.getD x1.toNat ((0 : Int), (0 : Int), (0 : Int), false)).snd.snd.snd)].length) *       (32 : Nat) ≤     (140737488355328 : Nat))) (lL4 (x0) (Go.IntKind.i64.wrap (x1 + (1 : Int))) (x2) (x3) (x4) (x5) (x6) (x7) (x8) (x9 ++   [((x2.getD x1.toNat ((0 : Int), (0 : Int), (0 : Int), false)).fst,       (x2.getD x1.toNat ((0 : Int), (0 : Int), (0 : Int), false)).snd.fst,       (x2.getD x1.toNat ((0 : Int), (0 : Int), (0 : Int), false)).snd.snd.fst,       (x2.getD x1.toNat ((0 : Int), (0 : Int), (0 : Int), false)).snd.snd.snd)])) (none)) (none)) (none))) (none)) (none)) (cond (decide ((0 : Int) ≤ x1)) (cond (decide (x1 < (↑x2.length : Int))) (cond (decide   ((x9.length +         [((x2.getD x1.toNat ((0 : Int), (0 : Int), (0 : Int), false)).fst,               (x2.getD x1.toNat ((0 : Int), (0 : Int), (0 : Int), false)).snd.fst,               (x2.getD x1.toNat ((0 : Int), (0 : Int), (0 : Int), false)).snd.snd.fst,               (x2.getD x1.toNat ((0 : Int), (0 : Int), (0 : Int), false)).snd.snd.snd)].length) *       (32 : Nat) ≤     (140737488355328 : Nat))) (lL4 (x0) (Go.IntKind.i64.wrap (x1 + (1 : Int))) (x2) (x3) (x4) (x5) (x6) (x7) (x8) (x9 ++   [((x2.getD x1.toNat ((0 : Int), (0 : Int), (0 : Int), false)).fst,       (x2.getD x1.toNat ((0 : Int), (0 : Int), (0 : Int), false)).snd.fst,       (x2.getD x1.toNat ((0 : Int), (0 : Int), (0 : Int), false)).snd.snd.fst,       (x2.getD x1.toNat ((0 : Int), (0 : Int), (0 : Int), false)).snd.snd.snd)])) (none)) (none)) (none))) (cond (!x0) (cond (decide ((x9.length + [(x4, x5, x6, x7)].length) * (32 : Nat) ≤ (140737488355328 : Nat))) (some (((x9 ++ [(x4, x5, x6, x7)], x3), ()), ())) (none)) (some (((x9, x3), ()), ())))
theorem e95_top (n : Nat) (a : List (Int × Int × Int × Bool) × Int) (b : Int × Int × Int × Bool) : runF TT G95 an95 Try.f95 c95 ps95 rs95 n (a, b, ()) = st95_top n (fun x0 x1 x2 x3 x4 x5 x6 x7 x8 x9 => at95 n (.head 4) [n] (sh95_L4 x0 x1 x2 x3 x4 x5 x6 x7 x8 x9)) a b := by kernel_rfl
theorem e95_L4_0 (n : Nat) (x0 : Bool) (x1 : Int) (x2 : List (Int × Int × Int × Bool)) (x3 : Int) (x4 : Int) (x5 : Int) (x6 : Int) (x7 : Bool) (x8 : Int) (x9 : List (Int × Int × Int × Bool)) : at95 n (.head 4) [0] (sh95_L4 x0 x1 x2 x3 x4 x5 x6 x7 x8 x9) = none := by kernel_rfl
theorem e95_L4 (n : Nat) (m4 : Nat) (x0 : Bool) (x1 : Int) (x2 : List (Int × Int × Int × Bool)) (x3 : Int) (x4 : Int) (x5 : Int) (x6 : Int) (x7 : Bool) (x8 : Int) (x9 : List (Int × Int × Int × Bool)) : at95 n (.head 4) [m4 + 1] (sh95_L4 x0 x1 x2 x3 x4 x5 x6 x7 x8 x9) = st95_L4 n (fun x0 x1 x2 x3 x4 x5 x6 x7 x8 x9 => at95 n (.head 4) [m4] (sh95_L4 x0 x1 x2 x3 x4 x5 x6 x7 x8 x9)) x0 x1 x2 x3 x4 x5 x6 x7 x8 x9 := by kernel_rfl
noncomputable def p95_L4 (n : Nat) : Nat → Bool → Int → (List (Int × Int × Int × Bool)) → Int → Int → Int → Int → Bool → Int → (List (Int × Int × Int × Bool)) → Option R95
  | 0, _, _, _, _, _, _, _, _, _, _ => none
  | m + 1, x0, x1, x2, x3, x4, x5, x6, x7, x8, x9 => st95_L4 n (p95_L4 n m) x0 x1 x2 x3 x4 x5 x6 x7 x8 x9
noncomputable def p95 (n : Nat) (a : List (Int × Int × Int × Bool) × Int) (b : Int × Int × Int × Bool) : Option R95 := st95_top n (p95_L4 n n) a b
theorem t95_L4 (n : Nat) : ∀ (m4 : Nat) (x0 : Bool) (x1 : Int) (x2 : List (Int × Int × Int × Bool)) (x3 : Int) (x4 : Int) (x5 : Int) (x6 : Int) (x7 : Bool) (x8 : Int) (x9 : List (Int × Int × Int × Bool)), at95 n (.head 4) [m4] (sh95_L4 x0 x1 x2 x3 x4 x5 x6 x7 x8 x9) = p95_L4  n m4 x0 x1 x2 x3 x4 x5 x6 x7 x8 x9 := by
  intro m
  induction m with
  | zero => intros; rw [e95_L4_0]; rfl
  | succ m ih =>
    intros
    rw [e95_L4]
    try simp only [ih]
    rfl
theorem F95_eq (n : Nat) (a : List (Int × Int × Int × Bool) × Int) (b : Int × Int × Int × Bool) : runF TT G95 an95 Try.f95 c95 ps95 rs95 n (a, b, ()) = p95 n a b := by
  rw [e95_top]
  simp only [t95_L4]
  try rfl
noncomputable def q95 (n : Nat) (x : argsD ps95) : Option R95 := p95 n x.1 x.2.1
noncomputable def Sm95 : Sm := ⟨ps95, rs95, false, q95⟩
theorem holds95 (hg : GamOK Try.prog G95) : Holds Try.prog 95 Sm95 := by
  have := h0_95 hg
  have e : (runF TT G95 an95 Try.f95 c95 ps95 rs95) = q95 := by
    funext n x
    exact F95_eq n x.1 x.2.1
  rw [e] at this
  exact this
theorem gam95 : GamOK Try.prog G95 := fun _ _ h => by cases h
theorem hh95 : Holds Try.prog 95 Sm95 := holds95 gam95
end Go.Proofs.Ytfbdkjdockbfdaa.Rx.S
namespace Go.Proofs.Ytfbdkjdockbfdaa.Rx.S
open Go Go.RowKit Go.Proofs
set_option maxRecDepth 100000
noncomputable def c110 : Code := (Try.f110.body.getD .skip)
def an110 : An := ⟨fun r => match r with | 3 => ⟨[1, 3, 4], []⟩ | _ => ⟨[], []⟩, fun _ _ => none⟩
abbrev ps110 : List PK := [.val tQu true]
abbrev rs110 : List RK := [.val i64 false]
abbrev R110 := retsD rs110 × outsD ps110
noncomputable def G110 : Gam := fun _ => none
theorem h0_110 (hg : GamOK Try.prog G110) : Holds Try.prog 110 ⟨ps110, rs110, false, runF TT G110 an110 Try.f110 c110 ps110 rs110⟩ := holds_of tt_ok hg mixed Try.func110 (by kernel_rfl) (by rfl) (by decide +kernel)
noncomputable def at110 : Nat → Pt → List Nat → St → Option R110 := atF TT G110 an110 Try.f110 c110 _ _
def sh110_L3 (x0 : Int) (x1 : Int) (x2 : List (Int × Int × Int × Bool)) (x3 : Int) : St := (Go.Proofs.Ytfbdkjdockbfdaa.Rx.St.mk (Go.Proofs.Ytfbdkjdockbfdaa.Rx.AV.undef :: ((Go.Proofs.Ytfbdkjdockbfdaa.Rx.AV.one (Go.Proofs.Ytfbdkjdockbfdaa.Rx.SV.bptr 1000000 0)) :: (Go.Proofs.Ytfbdkjdockbfdaa.Rx.AV.undef :: ((Go.Proofs.Ytfbdkjdockbfdaa.Rx.AV.one (Go.Proofs.Ytfbdkjdockbfdaa.Rx.SV.int (Go.IntKind.i64) x0)) :: ((Go.Proofs.Ytfbdkjdockbfdaa.Rx.AV.one (Go.Proofs.Ytfbdkjdockbfdaa.Rx.SV.int (Go.IntKind.i64) x1)) :: (Go.Proofs.Ytfbdkjdockbfdaa.Rx.AV.undef :: (Go.Proofs.Ytfbdkjdockbfdaa.Rx.AV.undef :: (Go.Proofs.Ytfbdkjdockbfdaa.Rx.AV.undef :: (Go.Proofs.Ytfbdkjdockbfdaa.Rx.AV.undef :: (Go.Proofs.Ytfbdkjdockbfdaa.Rx.AV.undef :: (Go.Proofs.Ytfbdkjdockbfdaa.Rx.AV.undef :: (Go.Proofs.Ytfbdkjdockbfdaa.Rx.AV.undef :: (Go.Proofs.Ytfbdkjdockbfdaa.Rx.AV.undef :: (Go.Proofs.Ytfbdkjdockbfdaa.Rx.AV.undef :: (Go.Proofs.Ytfbdkjdockbfdaa.Rx.AV.undef :: (Go.Proofs.Ytfbdkjdockbfdaa.Rx.AV.undef :: (Go.Proofs.Ytfbdkjdockbfdaa.Rx.AV.undef :: (Go.Proofs.Ytfbdkjdockbfdaa.Rx.AV.undef :: (Go.Proofs.Ytfbdkjdockbfdaa.Rx.AV.undef :: (Go.Proofs.Ytfbdkjdockbfdaa.Rx.AV.undef :: (Go.Proofs.Ytfbdkjdockbfdaa.Rx.AV.undef :: (Go.Proofs.Ytfbdkjdockbfdaa.Rx.AV.undef :: (Go.Proofs.Ytfbdkjdockbfdaa.Rx.AV.undef :: (Go.Proofs.Ytfbdkjdockbfdaa.Rx.AV.undef :: (Go.Proofs.Ytfbdkjdockbfdaa.Rx.AV.undef :: (Go.Proofs.Ytfbdkjdockbfdaa.Rx.AV.undef :: (Go.Proofs.Ytfbdkjdockbfdaa.Rx.AV.undef :: (Go.Proofs.Ytfbdkjdockbfdaa.Rx.AV.undef :: (Go.Proofs.Ytfbdkjdockbfdaa.Rx.AV.undef :: (Go.Proofs.Ytfbdkjdockbfdaa.Rx.AV.undef :: (Go.Proofs.Ytfbdkjdockbfdaa.Rx.AV.undef :: (Go.Proofs.Ytfbdkjdockbfdaa.Rx.AV.undef :: (Go.Proofs.Ytfbdkjdockbfdaa.Rx.AV.undef :: (Go.Proofs.Ytfbdkjdockbfdaa.Rx.AV.undef :: (Go.Proofs.Ytfbdkjdockbfdaa.Rx.AV.undef :: (Go.Proofs.Ytfbdkjdockbfdaa.Rx.AV.undef :: (Go.Proofs.Ytfbdkjdockbfdaa.Rx.AV.undef :: (Go.Proofs.Ytfbdkjdockbfdaa.Rx.AV.undef :: (Go.Proofs.Ytfbdkjdockbfdaa.Rx.AV.undef :: []))))))))))))))))))))))))))))))))))))))) ((1000000, (Go.Proofs.Ytfbdkjdockbfdaa.Rx.Ent.box ((Go.Proofs.Ytfbdkjdockbfdaa.Rx.SV.con (⟨63, (Go.Proofs.Ytfbdkjdockbfdaa.Rx.Ty.int Go.IntKind.i64).pair   ((Go.Proofs.Ytfbdkjdockbfdaa.Rx.Ty.int Go.IntKind.i64).pair ((Go.Proofs.Ytfbdkjdockbfdaa.Rx.Ty.int Go.IntKind.i64).pair Go.Proofs.Ytfbdkjdockbfdaa.Rx.Ty.bool)), x2⟩ : Rw)) :: ((Go.Proofs.Ytfbdkjdockbfdaa.Rx.SV.int (Go.IntKind.i64) x3) :: [])))) :: []))
noncomputable def st110_top (n : Nat) (lL3 : Int → Int → (List (Int × Int × Int × Bool)) → Int → Option R110) (a : List (Int × Int × Int × Bool) × Int) : Option R110 :=
  lL3 ((-1 : Int)) ((0 : Int)) (a.fst) (a.snd)
noncomputable def st110_L3 (n : Nat) (lL3 : Int → Int → (List (Int × Int × Int × Bool)) → Int → Option R110) (x0 : Int) (x1 : Int) (x2 : List (Int × Int × Int × Bool)) (x3 : Int) : Option R110 :=
  cond (decide (x1 < (↑x2.length : Int))) (cond (decide ((0 : Int) ≤ x1)) (cond (decide (x1 < (↑x2.length : Int))) (cond ((x2.getD x1.toNat ((0 : Int), (0 : Int), (0 : Int), false)).snd.snd.snd) (cond (decide (x0 < (0 : Int))) (lL3 (x1) (Go.IntKind.i64.wrap (x1 + (1 : Int))) (x2) (x3)) (cond (decide ((0 : Int) ≤ x1)) (cond (decide (x1 < (↑x2.length : Int))) (cond (decide ((0 : Int) ≤ x0)) (cond (decide (x0 < (↑x2.length : Int))) (cond (decide   ((x2.getD x1.toNat ((0 : Int), (0 : Int), (0 : Int), false)).snd.snd.fst <     (x2.getD x0.toNat ((0 : Int), (0 : Int), (0 : Int), false)).snd.snd.fst)) (lL3 (x1) (Go.IntKind.i64.wrap (x1 + (1 : Int))) (x2) (x3)) (lL3 (x0) (Go.IntKind.i64.wrap (x1 + (1 : Int))) (x2) (x3))) (none)) (none)) (none)) (none))) (lL3 (x0) (Go.IntKind.i64.wrap (x1 + (1 : Int))) (x2) (x3))) (none)) (none)) (some ((x0, ()), ()))
theorem e110_top (n : Nat) (a : List (Int × Int × Int × Bool) × Int) : runF TT G110 an110 Try.f110 c110 ps110 rs110 n (a, ()) = st110_top n (fun x0 x1 x2 x3 => at110 n (.head 3) [n] (sh110_L3 x0 x1 x2 x3)) a := by kernel_rfl
theorem e110_L3_0 (n : Nat) (x0 : Int) (x1 : Int) (x2 : List (Int × Int × Int × Bool)) (x3 : Int) : at110 n (.head 3) [0] (sh110_L3 x0 x1 x2 x3) = none := by kernel_rfl
theorem e110_L3 (n : Nat) (m3 : Nat) (x0 : Int) (x1 : Int) (x2 : List (Int × Int × Int × Bool)) (x3 : Int) : at110 n (.head 3) [m3 + 1] (sh110_L3 x0 x1 x2 x3) = st110_L3 n (fun x0 x1 x2 x3 => at110 n (.head 3) [m3] (sh110_L3 x0 x1 x2 x3)) x0 x1 x2 x3 := by kernel_rfl
noncomputable def p110_L3 (n : Nat) : Nat → Int → Int → (List (Int × Int × Int × Bool)) → Int → Option R110
  | 0, _, _, _, _ => none
  | m + 1, x0, x1, x2, x3 => st110_L3 n (p110_L3 n m) x0 x1 x2 x3
noncomputable def p110 (n : Nat) (a : List (Int × Int × Int × Bool) × Int) : Option R110 := st110_top n (p110_L3 n n) a
theorem t110_L3 (n : Nat) : ∀ (m3 : Nat) (x0 : Int) (x1 : Int) (x2 : List (Int × Int × Int × Bool)) (x3 : Int), at110 n (.head 3) [m3] (sh110_L3 x0 x1 x2 x3) = p110_L3  n m3 x0 x1 x2 x3 := by
  intro m
  induction m with
  | zero => intros; rw [e110_L3_0]; rfl
  | succ m ih =>
    intros
    rw [e110_L3]
    try simp only [ih]
    rfl
theorem F110_eq (n : Nat) (a : List (Int × Int × Int × Bool) × Int) : runF TT G110 an110 Try.f110 c110 ps110 rs110 n (a, ()) = p110 n a := by
  rw [e110_top]
  simp only [t110_L3]
  try rfl
noncomputable def q110 (n : Nat) (x : argsD ps110) : Option R110 := p110 n x.1
noncomputable def Sm110 : Sm := ⟨ps110, rs110, false, q110⟩
theorem holds110 (hg : GamOK Try.prog G110) : Holds Try.prog 110 Sm110 := by
  have := h0_110 hg
  have e : (runF TT G110 an110 Try.f110 c110 ps110 rs110) = q110 := by
    funext n x
    exact F110_eq n x.1
  rw [e] at this
  exact this
theorem gam110 : GamOK Try.prog G110 := fun _ _ h => by cases h
theorem hh110 : Holds Try.prog 110 Sm110 := holds110 gam110
end Go.Proofs.Ytfbdkjdockbfdaa.Rx.S
namespace Go.Proofs.Ytfbdkjdockbfdaa.Rx.S
open Go Go.RowKit Go.Proofs
set_option maxRecDepth 100000
noncomputable def c96 : Code := (Try.f96.body.getD .skip)
def an96 : An := ⟨fun _ => ⟨[], []⟩, fun _ _ => none⟩
abbrev ps96 : List PK := [.own tQu true]
abbrev rs96 : List RK := [.own tQu true, .val i64 false]
abbrev R96 := retsD rs96 × outsD ps96
noncomputable def G96 : Gam := fun f => match f with | 110 => some Sm110 | _ => none
theorem h0_96 (hg : GamOK Try.prog G96) : Holds Try.prog 96 ⟨ps96, rs96, false, runF TT G96 an96 Try.f96 c96 ps96 rs96⟩ := holds_of tt_ok hg mixed Try.func96 (by kernel_rfl) (by rfl) (by decide +kernel)
noncomputable def at96 : Nat → Pt → List Nat → St → Option R96 := atF TT G96 an96 Try.f96 c96 _ _
noncomputable def st96_top (n : Nat)  (a : List (Int × Int × Int × Bool) × Int) : Option R96 :=
  (Go.Proofs.Ytfbdkjdockbfdaa.Rx.S.q110 n ((a.fst, a.snd), ())).bind fun r0 => cond (decide (r0.fst.fst < (0 : Int))) (some (((a.fst, a.snd), ((-1 : Int), ())), ())) (cond (decide ((0 : Int) ≤ r0.fst.fst)) (cond (decide (r0.fst.fst < (↑(List.length a.fst) : Int))) (cond (decide ((0 : Int) ≤ r0.fst.fst)) (cond (decide (r0.fst.fst < (↑(List.length a.fst) : Int))) (cond (!decide ((List.getD a.fst (Int.toNat r0.fst.fst) ((0 : Int), (0 : Int), (0 : Int), false)).snd.fst = (0 : Int))) (cond (decide   ((1000000 : Int) <     Go.IntKind.i64.wrap       ((List.getD a.fst (Int.toNat r0.fst.fst) ((0 : Int), (0 : Int), (0 : Int), false)).snd.snd.fst +         Go.IntKind.i64.wrap           (Int.tdiv (60 : Int)             (List.getD a.fst (Int.toNat r0.fst.fst) ((0 : Int), (0 : Int), (0 : Int), false)).snd.fst)))) (some (((a.fst, a.snd), ((-1 : Int), ())), ())) (cond (decide ((0 : Int) ≤ r0.fst.fst)) (cond (decide (r0.fst.fst < (↑(List.length a.fst) : Int))) ((Go.Proofs.Ytfbdkjdockbfdaa.Rx.S.q110 n   ((List.set a.fst (Int.toNat r0.fst.fst)         ((List.getD a.fst (Int.toNat r0.fst.fst) ((0 : Int), (0 : Int), (0 : Int), false)).fst,           (List.getD a.fst (Int.toNat r0.fst.fst) ((0 : Int), (0 : Int), (0 : Int), false)).snd.fst,           Go.IntKind.i64.wrap             ((List.getD a.fst (Int.toNat r0.fst.fst) ((0 : Int), (0 : Int), (0 : Int), false)).snd.snd.fst +               Go.IntKind.i64.wrap                 (Int.tdiv (60 : Int)                   (List.getD a.fst (Int.toNat r0.fst.fst) ((0 : Int), (0 : Int), (0 : Int), false)).snd.fst)),           (List.getD a.fst (Int.toNat r0.fst.fst) ((0 : Int), (0 : Int), (0 : Int), false)).snd.snd.snd),       a.snd),     ())).bind fun r1 => cond (decide ((0 : Int) ≤ r1.fst.fst)) (cond (decide   (r1.fst.fst <     (↑(List.set a.fst (Int.toNat r0.fst.fst)             ((List.getD a.fst (Int.toNat r0.fst.fst) ((0 : Int), (0 : Int), (0 : Int), false)).fst,               (List.getD a.fst (Int.toNat r0.fst.fst) ((0 : Int), (0 : Int), (0 : Int), false)).snd.fst,               Go.IntKind.i64.wrap                 ((List.getD a.fst (Int.toNat r0.fst.fst) ((0 : Int), (0 : Int), (0 : Int), false)).snd.snd.fst +                   Go.IntKind.i64.wrap                     (Int.tdiv (60 : Int)                       (List.getD a.fst (Int.toNat r0.fst.fst) ((0 : Int), (0 : Int), (0 : Int), false)).snd.fst)),               (List.getD a.fst (Int.toNat r0.fst.fst) ((0 : Int), (0 : Int), (0 : Int), false)).snd.snd.snd)).length :       Int))) (cond (decide ((0 : Int) ≤ r0.fst.fst)) (cond (decide   (r0.fst.fst <     (↑(List.set a.fst (Int.toNat r0.fst.fst)             ((List.getD a.fst (Int.toNat r0.fst.fst) ((0 : Int), (0 : Int), (0 : Int), false)).fst,               (List.getD a.fst (Int.toNat r0.fst.fst) ((0 : Int), (0 : Int), (0 : Int), false)).snd.fst,               Go.IntKind.i64.wrap                 ((List.getD a.fst (Int.toNat r0.fst.fst) ((0 : Int), (0 : Int), (0 : Int), false)).snd.snd.fst +                   Go.IntKind.i64.wrap                     (Int.tdiv (60 : Int)                       (List.getD a.fst (Int.toNat r0.fst.fst) ((0 : Int), (0 : Int), (0 : Int), false)).snd.fst)),               (List.getD a.fst (Int.toNat r0.fst.fst) ((0 : Int), (0 : Int), (0 : Int), false)).snd.snd.snd)).length :       Int))) (some (((List.set a.fst (Int.toNat r0.fst.fst)   ((List.getD a.fst (Int.toNat r0.fst.fst) ((0 : Int), (0 : Int), (0 : Int), false)).fst,     (List.getD a.fst (Int.toNat r0.fst.fst) ((0 : Int), (0 : Int), (0 : Int), false)).snd.fst,     Go.IntKind.i64.wrap       ((List.getD a.fst (Int.toNat r0.fst.fst) ((0 : Int), (0 : Int), (0 : Int), false)).snd.snd.fst +         Go.IntKind.i64.wrap           (Int.tdiv (60 : Int)             (List.getD a.fst (Int.toNat r0.fst.fst) ((0 : Int), (0 : Int), (0 : Int), false)).snd.fst)),     (List.getD a.fst (Int.toNat r0.fst.fst) ((0 : Int), (0 : Int), (0 : Int), false)).snd.snd.snd), if     ((List.set a.fst (Int.toNat r0.fst.fst)                   ((List.getD a.fst (Int.toNat r0.fst.fst) ((0 : Int), (0 : Int), (0 : Int), false)).fst,                     (List.getD a.fst (Int.toNat r0.fst.fst) ((0 : Int), (0 : Int), (0 : Int), false)).snd.fst,                     Go.IntKind.i64.wrap                       ((List.getD a.fst (Int.toNat r0.fst.fst) ((0 : Int), (0 : Int), (0 : Int), false)).snd.snd.fst +                         Go.IntKind.i64.wrap                           (Int.tdiv (60 : Int)                             (List.getD a.fst (Int.toNat r0.fst.fst) ((0 : Int), (0 : Int), (0 : Int), false)).snd.fst)),                     (List.getD a.fst (Int.toNat r0.fst.fst) ((0 : Int), (0 : Int), (0 : Int), false)).snd.snd.snd)).getD               (Int.toNat r1.fst.fst) ((0 : Int), (0 : Int), (0 : Int), false)).snd.snd.fst >       a.snd then   ((List.set a.fst (Int.toNat r0.fst.fst)               ((List.getD a.fst (Int.toNat r0.fst.fst) ((0 : Int), (0 : Int), (0 : Int), false)).fst,                 (List.getD a.fst (Int.toNat r0.fst.fst) ((0 : Int), (0 : Int), (0 : Int), false)).snd.fst,                 Go.IntKind.i64.wrap                   ((List.getD a.fst (Int.toNat r0.fst.fst) ((0 : Int), (0 : Int), (0 : Int), false)).snd.snd.fst +                     Go.IntKind.i64.wrap                       (Int.tdiv (60 : Int)                         (List.getD a.fst (Int.toNat r0.fst.fst) ((0 : Int), (0 : Int), (0 : Int), false)).snd.fst)),                 (List.getD a.fst (Int.toNat r0.fst.fst) ((0 : Int), (0 : Int), (0 : Int), false)).snd.snd.snd)).getD           (Int.toNat r1.fst.fst) ((0 : Int), (0 : Int), (0 : Int), false)).snd.snd.fst else a.snd), (((List.set a.fst (Int.toNat r0.fst.fst)         ((List.getD a.fst (Int.toNat r0.fst.fst) ((0 : Int), (0 : Int), (0 : Int), false)).fst,           (List.getD a.fst (Int.toNat r0.fst.fst) ((0 : Int), (0 : Int), (0 : Int), false)).snd.fst,           Go.IntKind.i64.wrap             ((List.getD a.fst (Int.toNat r0.fst.fst) ((0 : Int), (0 : Int), (0 : Int), false)).snd.snd.fst +               Go.IntKind.i64.wrap                 (Int.tdiv (60 : Int)                   (List.getD a.fst (Int.toNat r0.fst.fst) ((0 : Int), (0 : Int), (0 : Int), false)).snd.fst)),           (List.getD a.fst (Int.toNat r0.fst.fst) ((0 : Int), (0 : Int), (0 : Int), false)).snd.snd.snd)).getD     (Int.toNat r0.fst.fst) ((0 : Int), (0 : Int), (0 : Int), false)).fst, ())), ())) (none)) (none)) (none)) (none)) (none)) (none))) (none)) (none)) (none)) (none)) (none))
theorem e96_top (n : Nat) (a : List (Int × Int × Int × Bool) × Int) : runF TT G96 an96 Try.f96 c96 ps96 rs96 n (a, ()) = st96_top n  a := by kernel_rfl
noncomputable def p96 (n : Nat) (a : List (Int × Int × Int × Bool) × Int) : Option R96 := st96_top n  a
theorem F96_eq (n : Nat) (a : List (Int × Int × Int × Bool) × Int) : runF TT G96 an96 Try.f96 c96 ps96 rs96 n (a, ()) = p96 n a := by
  rw [e96_top]
  skip
  try rfl
noncomputable def q96 (n : Nat) (x : argsD ps96) : Option R96 := p96 n x.1
noncomputable def Sm96 : Sm := ⟨ps96, rs96, false, q96⟩
theorem holds96 (hg : GamOK Try.prog G96) : Holds Try.prog 96 Sm96 := by
  have := h0_96 hg
  have e : (runF TT G96 an96 Try.f96 c96 ps96 rs96) = q96 := by
    funext n x
    exact F96_eq n x.1
  rw [e] at this
  exact this
theorem gam96 : GamOK Try.prog G96 := by
  intro f s h
  unfold G96 at h
  split at h
  · injection h with h; subst h; exact ⟨⟨Try.f110, c110, Try.func110, by kernel_rfl, by decide +kernel⟩, hh110⟩
  · cases h
theorem hh96 : Holds Try.prog 96 Sm96 := holds96 gam96
end Go.Proofs.Ytfbdkjdockbfdaa.Rx.S
namespace Go.Proofs.Ytfbdkjdockbfdaa.Rx.S
open Go Go.RowKit Go.Proofs
set_option maxRecDepth 100000
noncomputable def c97 : Code := (Try.f97.body.getD .skip)
def an97 : An := ⟨fun _ => ⟨[], []⟩, fun _ _ => none⟩
abbrev ps97 : List PK := [.own tQu true, .val i64 false]
abbrev rs97 : List RK := [.own tQu true]
abbrev R97 := retsD rs97 × outsD ps97
noncomputable def G97 : Gam := fun _ => none
theorem h0_97 (hg : GamOK Try.prog G97) : Holds Try.prog 97 ⟨ps97, rs97, false, runF TT G97 an97 Try.f97 c97 ps97 rs97⟩ := holds_of tt_ok hg mixed Try.func97 (by kernel_rfl) (by rfl) (by decide +kernel)
noncomputable def at97 : Nat → Pt → List Nat → St → Option R97 := atF TT G97 an97 Try.f97 c97 _ _
noncomputable def st97_top (n : Nat)  (a : List (Int × Int × Int × Bool) × Int) (b : Int) : Option R97 :=
  cond (decide ((0 : Int) ≤ b)) (cond (decide (b < (↑(List.length a.fst) : Int))) (cond (!(List.getD a.fst b.toNat ((0 : Int), (0 : Int), (0 : Int), false)).snd.snd.snd) (cond (decide ((0 : Int) ≤ b)) (cond (decide (b < (↑(List.length a.fst) : Int))) (cond (decide ((0 : Int) ≤ b)) (cond (decide   (b <     (↑(List.set a.fst b.toNat             ((List.getD a.fst b.toNat ((0 : Int), (0 : Int), (0 : Int), false)).fst,               (List.getD a.fst b.toNat ((0 : Int), (0 : Int), (0 : Int), false)).snd.fst,               (List.getD a.fst b.toNat ((0 : Int), (0 : Int), (0 : Int), false)).snd.snd.fst, true)).length :       Int))) (cond (decide ((0 : Int) ≤ b)) (cond (decide   (b <     (↑(List.set a.fst b.toNat             ((List.getD a.fst b.toNat ((0 : Int), (0 : Int), (0 : Int), false)).fst,               (List.getD a.fst b.toNat ((0 : Int), (0 : Int), (0 : Int), false)).snd.fst,               (List.getD a.fst b.toNat ((0 : Int), (0 : Int), (0 : Int), false)).snd.snd.fst, true)).length :       Int))) (some ((((List.set a.fst b.toNat       ((List.getD a.fst b.toNat ((0 : Int), (0 : Int), (0 : Int), false)).fst,         (List.getD a.fst b.toNat ((0 : Int), (0 : Int), (0 : Int), false)).snd.fst,         (List.getD a.fst b.toNat ((0 : Int), (0 : Int), (0 : Int), false)).snd.snd.fst, true)).set   b.toNat   (((List.set a.fst b.toNat             ((List.getD a.fst b.toNat ((0 : Int), (0 : Int), (0 : Int), false)).fst,               (List.getD a.fst b.toNat ((0 : Int), (0 : Int), (0 : Int), false)).snd.fst,               (List.getD a.fst b.toNat ((0 : Int), (0 : Int), (0 : Int), false)).snd.snd.fst, true)).getD         b.toNat ((0 : Int), (0 : Int), (0 : Int), false)).fst,     ((List.set a.fst b.toNat               ((List.getD a.fst b.toNat ((0 : Int), (0 : Int), (0 : Int), false)).fst,                 (List.getD a.fst b.toNat ((0 : Int), (0 : Int), (0 : Int), false)).snd.fst,                 (List.getD a.fst b.toNat ((0 : Int), (0 : Int), (0 : Int), false)).snd.snd.fst, true)).getD           b.toNat ((0 : Int), (0 : Int), (0 : Int), false)).snd.fst,     if         a.snd >           ((List.set a.fst b.toNat                       ((List.getD a.fst b.toNat ((0 : Int), (0 : Int), (0 : Int), false)).fst,                         (List.getD a.fst b.toNat ((0 : Int), (0 : Int), (0 : Int), false)).snd.fst,                         (List.getD a.fst b.toNat ((0 : Int), (0 : Int), (0 : Int), false)).snd.snd.fst, true)).getD                   b.toNat ((0 : Int), (0 : Int), (0 : Int), false)).snd.snd.fst then       a.snd     else       ((List.set a.fst b.toNat                   ((List.getD a.fst b.toNat ((0 : Int), (0 : Int), (0 : Int), false)).fst,                     (List.getD a.fst b.toNat ((0 : Int), (0 : Int), (0 : Int), false)).snd.fst,                     (List.getD a.fst b.toNat ((0 : Int), (0 : Int), (0 : Int), false)).snd.snd.fst, true)).getD               b.toNat ((0 : Int), (0 : Int), (0 : Int), false)).snd.snd.fst,     ((List.set a.fst b.toNat                 ((List.getD a.fst b.toNat ((0 : Int), (0 : Int), (0 : Int), false)).fst,                   (List.getD a.fst b.toNat ((0 : Int), (0 : Int), (0 : Int), false)).snd.fst,                   (List.getD a.fst b.toNat ((0 : Int), (0 : Int), (0 : Int), false)).snd.snd.fst, true)).getD             b.toNat ((0 : Int), (0 : Int), (0 : Int), false)).snd.snd.snd), a.snd), ()), ())) (none)) (none)) (none)) (none)) (none)) (none)) (some (((a.fst, a.snd), ()), ()))) (none)) (none)
theorem e97_top (n : Nat) (a : List (Int × Int × Int × Bool) × Int) (b : Int) : runF TT G97 an97 Try.f97 c97 ps97 rs97 n (a, b, ()) = st97_top n  a b := by kernel_rfl
noncomputable def p97 (n : Nat) (a : List (Int × Int × Int × Bool) × Int) (b : Int) : Option R97 := st97_top n  a b
theorem F97_eq (n : Nat) (a : List (Int × Int × Int × Bool) × Int) (b : Int) : runF TT G97 an97 Try.f97 c97 ps97 rs97 n (a, b, ()) = p97 n a b := by
  rw [e97_top]
  skip
  try rfl
noncomputable def q97 (n : Nat) (x : argsD ps97) : Option R97 := p97 n x.1 x.2.1
noncomputable def Sm97 : Sm := ⟨ps97, rs97, false, q97⟩
theorem holds97 (hg : GamOK Try.prog G97) : Holds Try.prog 97 Sm97 := by
  have := h0_97 hg
  have e : (runF TT G97 an97 Try.f97 c97 ps97 rs97) = q97 := by
    funext n x
    exact F97_eq n x.1 x.2.1
  rw [e] at this
  exact this
theorem gam97 : GamOK Try.prog G97 := fun _ _ h => by cases h
theorem hh97 : Holds Try.prog 97 Sm97 := holds97 gam97
end Go.Proofs.Ytfbdkjdockbfdaa.Rx.S
namespace Go.Proofs.Ytfbdkjdockbfdaa.Rx.S
open Go Go.RowKit Go.Proofs
set_option maxRecDepth 100000
noncomputable def c76 : Code := (Try.f76.body.getD .skip)
def an76 : An := ⟨fun r => match r with | 3 => ⟨[0, 2, 3, 4], []⟩ | 9 => ⟨[0, 2, 3, 4, 6], []⟩ | _ => ⟨[], []⟩, fun _ _ => none⟩
abbrev ps76 : List PK := [.bx tRd]
abbrev rs76 : List RK := [.own tQu true]
abbrev R76 := retsD rs76 × outsD ps76
noncomputable def G76 : Gam := fun f => match f with | 40 => some Sm40 | 79 => some Sm79 | 95 => some Sm95 | 96 => some Sm96 | 97 => some Sm97 | _ => none
theorem h0_76 (hg : GamOK Try.prog G76) : Holds Try.prog 76 ⟨ps76, rs76, true, runF TT G76 an76 Try.f76 c76 ps76 rs76⟩ := holds_of tt_ok hg mixed Try.func76 (by kernel_rfl) (by rfl) (by decide +kernel)
noncomputable def at76 : Nat → Pt → List Nat → St → Option R76 := atF TT G76 an76 Try.f76 c76 _ _
def sh76_L9 (x0 : Int) (x1 : Int) (x2 : List Int) (x3 : Int) (x4 : Int) (x5 : Int) (x6 : List (Int × Int × Int × Bool)) : St := (Go.Proofs.Ytfbdkjdockbfdaa.Rx.St.mk ((Go.Proofs.Ytfbdkjdockbfdaa.Rx.AV.par 0 false ((Go.Proofs.Ytfbdkjdockbfdaa.Rx.SV.bptr 1000000 0) :: [])) :: (Go.Proofs.Ytfbdkjdockbfdaa.Rx.AV.undef :: ((Go.Proofs.Ytfbdkjdockbfdaa.Rx.AV.one (Go.Proofs.Ytfbdkjdockbfdaa.Rx.SV.bptr 1000001 0)) :: ((Go.Proofs.Ytfbdkjdockbfdaa.Rx.AV.one (Go.Proofs.Ytfbdkjdockbfdaa.Rx.SV.bptr 1000002 0)) :: ((Go.Proofs.Ytfbdkjdockbfdaa.Rx.AV.one (Go.Proofs.Ytfbdkjdockbfdaa.Rx.SV.int (Go.IntKind.i64) x0)) :: (Go.Proofs.Ytfbdkjdockbfdaa.Rx.AV.undef :: ((Go.Proofs.Ytfbdkjdockbfdaa.Rx.AV.one (Go.Proofs.Ytfbdkjdockbfdaa.Rx.SV.int (Go.IntKind.i64) x1)) :: (Go.Proofs.Ytfbdkjdockbfdaa.Rx.AV.undef :: (Go.Proofs.Ytfbdkjdockbfdaa.Rx.AV.undef :: (Go.Proofs.Ytfbdkjdockbfdaa.Rx.AV.undef :: (Go.Proofs.Ytfbdkjdockbfdaa.Rx.AV.undef :: (Go.Proofs.Ytfbdkjdockbfdaa.Rx.AV.undef :: (Go.Proofs.Ytfbdkjdockbfdaa.Rx.AV.undef :: (Go.Proofs.Ytfbdkjdockbfdaa.Rx.AV.undef :: (Go.Proofs.Ytfbdkjdockbfdaa.Rx.AV.undef :: (Go.Proofs.Ytfbdkjdockbfdaa.Rx.AV.undef :: (Go.Proofs.Ytfbdkjdockbfdaa.Rx.AV.undef :: (Go.Proofs.Ytfbdkjdockbfdaa.Rx.AV.undef :: (Go.Proofs.Ytfbdkjdockbfdaa.Rx.AV.undef :: (Go.Proofs.Ytfbdkjdockbfdaa.Rx.AV.undef :: (Go.Proofs.Ytfbdkjdockbfdaa.Rx.AV.undef :: (Go.Proofs.Ytfbdkjdockbfdaa.Rx.AV.undef :: (Go.Proofs.Ytfbdkjdockbfdaa.Rx.AV.undef :: (Go.Proofs.Ytfbdkjdockbfdaa.Rx.AV.undef :: (Go.Proofs.Ytfbdkjdockbfdaa.Rx.AV.undef :: (Go.Proofs.Ytfbdkjdockbfdaa.Rx.AV.undef :: (Go.Proofs.Ytfbdkjdockbfdaa.Rx.AV.undef :: (Go.Proofs.Ytfbdkjdockbfdaa.Rx.AV.undef :: (Go.Proofs.Ytfbdkjdockbfdaa.Rx.AV.undef :: (Go.Proofs.Ytfbdkjdockbfdaa.Rx.AV.undef :: (Go.Proofs.Ytfbdkjdockbfdaa.Rx.AV.undef :: (Go.Proofs.Ytfbdkjdockbfdaa.Rx.AV.undef :: (Go.Proofs.Ytfbdkjdockbfdaa.Rx.AV.undef :: (Go.Proofs.Ytfbdkjdockbfdaa.Rx.AV.undef :: (Go.Proofs.Ytfbdkjdockbfdaa.Rx.AV.undef :: (Go.Proofs.Ytfbdkjdockbfdaa.Rx.AV.undef :: (Go.Proofs.Ytfbdkjdockbfdaa.Rx.AV.undef :: (Go.Proofs.Ytfbdkjdockbfdaa.Rx.AV.undef :: (Go.Proofs.Ytfbdkjdockbfdaa.Rx.AV.undef :: (Go.Proofs.Ytfbdkjdockbfdaa.Rx.AV.undef :: (Go.Proofs.Ytfbdkjdockbfdaa.Rx.AV.undef :: (Go.Proofs.Ytfbdkjdockbfdaa.Rx.AV.undef :: (Go.Proofs.Ytfbdkjdockbfdaa.Rx.AV.undef :: (Go.Proofs.Ytfbdkjdockbfdaa.Rx.AV.undef :: (Go.Proofs.Ytfbdkjdockbfdaa.Rx.AV.undef :: (Go.Proofs.Ytfbdkjdockbfdaa.Rx.AV.undef :: (Go.Proofs.Ytfbdkjdockbfdaa.Rx.AV.undef :: (Go.Proofs.Ytfbdkjdockbfdaa.Rx.AV.undef :: (Go.Proofs.Ytfbdkjdockbfdaa.Rx.AV.undef :: (Go.Proofs.Ytfbdkjdockbfdaa.Rx.AV.undef :: (Go.Proofs.Ytfbdkjdockbfdaa.Rx.AV.undef :: (Go.Proofs.Ytfbdkjdockbfdaa.Rx.AV.undef :: (Go.Proofs.Ytfbdkjdockbfdaa.Rx.AV.undef :: (Go.Proofs.Ytfbdkjdockbfdaa.Rx.AV.undef :: (Go.Proofs.Ytfbdkjdockbfdaa.Rx.AV.undef :: (Go.Proofs.Ytfbdkjdockbfdaa.Rx.AV.undef :: (Go.Proofs.Ytfbdkjdockbfdaa.Rx.AV.undef :: (Go.Proofs.Ytfbdkjdockbfdaa.Rx.AV.undef :: (Go.Proofs.Ytfbdkjdockbfdaa.Rx.AV.undef :: (Go.Proofs.Ytfbdkjdockbfdaa.Rx.AV.undef :: (Go.Proofs.Ytfbdkjdockbfdaa.Rx.AV.undef :: (Go.Proofs.Ytfbdkjdockbfdaa.Rx.AV.undef :: (Go.Proofs.Ytfbdkjdockbfdaa.Rx.AV.undef :: (Go.Proofs.Ytfbdkjdockbfdaa.Rx.AV.undef :: (Go.Proofs.Ytfbdkjdockbfdaa.Rx.AV.undef :: (Go.Proofs.Ytfbdkjdockbfdaa.Rx.AV.undef :: (Go.Proofs.Ytfbdkjdockbfdaa.Rx.AV.undef :: (Go.Proofs.Ytfbdkjdockbfdaa.Rx.AV.undef :: (Go.Proofs.Ytfbdkjdockbfdaa.Rx.AV.undef :: (Go.Proofs.Ytfbdkjdockbfdaa.Rx.AV.undef :: (Go.Proofs.Ytfbdkjdockbfdaa.Rx.AV.undef :: (Go.Proofs.Ytfbdkjdockbfdaa.Rx.AV.undef :: (Go.Proofs.Ytfbdkjdockbfdaa.Rx.AV.undef :: (Go.Proofs.Ytfbdkjdockbfdaa.Rx.AV.undef :: (Go.Proofs.Ytfbdkjdockbfdaa.Rx.AV.undef :: (Go.Proofs.Ytfbdkjdockbfdaa.Rx.AV.undef :: (Go.Proofs.Ytfbdkjdockbfdaa.Rx.AV.undef :: (Go.Proofs.Ytfbdkjdockbfdaa.Rx.AV.undef :: (Go.Proofs.Ytfbdkjdockbfdaa.Rx.AV.undef :: (Go.Proofs.Ytfbdkjdockbfdaa.Rx.AV.undef :: (Go.Proofs.Ytfbdkjdockbfdaa.Rx.AV.undef :: (Go.Proofs.Ytfbdkjdockbfdaa.Rx.AV.undef :: (Go.Proofs.Ytfbdkjdockbfdaa.Rx.AV.undef :: (Go.Proofs.Ytfbdkjdockbfdaa.Rx.AV.undef :: (Go.Proofs.Ytfbdkjdockbfdaa.Rx.AV.undef :: (Go.Proofs.Ytfbdkjdockbfdaa.Rx.AV.undef :: (Go.Proofs.Ytfbdkjdockbfdaa.Rx.AV.undef :: (Go.Proofs.Ytfbdkjdockbfdaa.Rx.AV.undef :: (Go.Proofs.Ytfbdkjdockbfdaa.Rx.AV.undef :: (Go.Proofs.Ytfbdkjdockbfdaa.Rx.AV.undef :: (Go.Proofs.Ytfbdkjdockbfdaa.Rx.AV.undef :: (Go.Proofs.Ytfbdkjdockbfdaa.Rx.AV.undef :: (Go.Proofs.Ytfbdkjdockbfdaa.Rx.AV.undef :: (Go.Proofs.Ytfbdkjdockbfdaa.Rx.AV.undef :: (Go.Proofs.Ytfbdkjdockbfdaa.Rx.AV.undef :: (Go.Proofs.Ytfbdkjdockbfdaa.Rx.AV.undef :: (Go.Proofs.Ytfbdkjdockbfdaa.Rx.AV.undef :: (Go.Proofs.Ytfbdkjdockbfdaa.Rx.AV.undef :: [])))))))))))))))))))))))))))))))))))))))))))))))))))))))))))))))))))))))))))))))))))))))))))))))))) ((1000000, (Go.Proofs.Ytfbdkjdockbfdaa.Rx.Ent.box ((Go.Proofs.Ytfbdkjdockbfdaa.Rx.SV.con (⟨5, Go.Proofs.Ytfbdkjdockbfdaa.Rx.Ty.int Go.IntKind.u8, x2⟩ : Rw)) :: ((Go.Proofs.Ytfbdkjdockbfdaa.Rx.SV.int (Go.IntKind.i64) x3) :: [])))) :: ((1000001, (Go.Proofs.Ytfbdkjdockbfdaa.Rx.Ent.box (Go.Proofs.Ytfbdkjdockbfdaa.Rx.SV.nil :: ((Go.Proofs.Ytfbdkjdockbfdaa.Rx.SV.int (Go.IntKind.i64) x4) :: [])))) :: ((1000002, (Go.Proofs.Ytfbdkjdockbfdaa.Rx.Ent.box ((Go.Proofs.Ytfbdkjdockbfdaa.Rx.SV.ref 1000003 0 [] Option.none) :: ((Go.Proofs.Ytfbdkjdockbfdaa.Rx.SV.int (Go.IntKind.i64) x5) :: [])))) :: ((1000003, (Go.Proofs.Ytfbdkjdockbfdaa.Rx.Ent.row (⟨63, (Go.Proofs.Ytfbdkjdockbfdaa.Rx.Ty.int Go.IntKind.i64).pair   ((Go.Proofs.Ytfbdkjdockbfdaa.Rx.Ty.int Go.IntKind.i64).pair ((Go.Proofs.Ytfbdkjdockbfdaa.Rx.Ty.int Go.IntKind.i64).pair Go.Proofs.Ytfbdkjdockbfdaa.Rx.Ty.bool)), x6⟩ : Rw) 0 Option.none)) :: [])))))
def sh76_L3 (x0 : Int) (x1 : List Int) (x2 : Int) (x3 : Int) (x4 : Int) (x5 : List (Int × Int × Int × Bool)) : St := (Go.Proofs.Ytfbdkjdockbfdaa.Rx.St.mk ((Go.Proofs.Ytfbdkjdockbfdaa.Rx.AV.par 0 false ((Go.Proofs.Ytfbdkjdockbfdaa.Rx.SV.bptr 1000000 0) :: [])) :: (Go.Proofs.Ytfbdkjdockbfdaa.Rx.AV.undef :: ((Go.Proofs.Ytfbdkjdockbfdaa.Rx.AV.one (Go.Proofs.Ytfbdkjdockbfdaa.Rx.SV.bptr 1000001 0)) :: ((Go.Proofs.Ytfbdkjdockbfdaa.Rx.AV.one (Go.Proofs.Ytfbdkjdockbfdaa.Rx.SV.bptr 1000002 0)) :: ((Go.Proofs.Ytfbdkjdockbfdaa.Rx.AV.one (Go.Proofs.Ytfbdkjdockbfdaa.Rx.SV.int (Go.IntKind.i64) x0)) :: (Go.Proofs.Ytfbdkjdockbfdaa.Rx.AV.undef :: (Go.Proofs.Ytfbdkjdockbfdaa.Rx.AV.undef :: (Go.Proofs.Ytfbdkjdockbfdaa.Rx.AV.undef :: (Go.Proofs.Ytfbdkjdockbfdaa.Rx.AV.undef :: (Go.Proofs.Ytfbdkjdockbfdaa.Rx.AV.undef :: (Go.Proofs.Ytfbdkjdockbfdaa.Rx.AV.undef :: (Go.Proofs.Ytfbdkjdockbfdaa.Rx.AV.undef :: (Go.Proofs.Ytfbdkjdockbfdaa.Rx.AV.undef :: (Go.Proofs.Ytfbdkjdockbfdaa.Rx.AV.undef :: (Go.Proofs.Ytfbdkjdockbfdaa.Rx.AV.undef :: (Go.Proofs.Ytfbdkjdockbfdaa.Rx.AV.undef :: (Go.Proofs.Ytfbdkjdockbfdaa.Rx.AV.undef :: (Go.Proofs.Ytfbdkjdockbfdaa.Rx.AV.undef :: (Go.Proofs.Ytfbdkjdockbfdaa.Rx.AV.undef :: (Go.Proofs.Ytfbdkjdockbfdaa.Rx.AV.undef :: (Go.Proofs.Ytfbdkjdockbfdaa.Rx.AV.undef :: (Go.Proofs.Ytfbdkjdockbfdaa.Rx.AV.undef :: (Go.Proofs.Ytfbdkjdockbfdaa.Rx.AV.undef :: (Go.Proofs.Ytfbdkjdockbfdaa.Rx.AV.undef :: (Go.Proofs.Ytfbdkjdockbfdaa.Rx.AV.undef :: (Go.Proofs.Ytfbdkjdockbfdaa.Rx.AV.undef :: (Go.Proofs.Ytfbdkjdockbfdaa.Rx.AV.undef :: (Go.Proofs.Ytfbdkjdockbfdaa.Rx.AV.undef :: (Go.Proofs.Ytfbdkjdockbfdaa.Rx.AV.undef :: (Go.Proofs.Ytfbdkjdockbfdaa.Rx.AV.undef :: (Go.Proofs.Ytfbdkjdockbfdaa.Rx.AV.undef :: (Go.Proofs.Ytfbdkjdockbfdaa.Rx.AV.undef :: (Go.Proofs.Ytfbdkjdockbfdaa.Rx.AV.undef :: (Go.Proofs.Ytfbdkjdockbfdaa.Rx.AV.undef :: (Go.Proofs.Ytfbdkjdockbfdaa.Rx.AV.undef :: (Go.Proofs.Ytfbdkjdockbfdaa.Rx.AV.undef :: (Go.Proofs.Ytfbdkjdockbfdaa.Rx.AV.undef :: (Go.Proofs.Ytfbdkjdockbfdaa.Rx.AV.undef :: (Go.Proofs.Ytfbdkjdockbfdaa.Rx.AV.undef :: (Go.Proofs.Ytfbdkjdockbfdaa.Rx.AV.undef :: (Go.Proofs.Ytfbdkjdockbfdaa.Rx.AV.undef :: (Go.Proofs.Ytfbdkjdockbfdaa.Rx.AV.undef :: (Go.Proofs.Ytfbdkjdockbfdaa.Rx.AV.undef :: (Go.Proofs.Ytfbdkjdockbfdaa.Rx.AV.undef :: (Go.Proofs.Ytfbdkjdockbfdaa.Rx.AV.undef :: (Go.Proofs.Ytfbdkjdockbfdaa.Rx.AV.undef :: (Go.Proofs.Ytfbdkjdockbfdaa.Rx.AV.undef :: (Go.Proofs.Ytfbdkjdockbfdaa.Rx.AV.undef :: (Go.Proofs.Ytfbdkjdockbfdaa.Rx.AV.undef :: (Go.Proofs.Ytfbdkjdockbfdaa.Rx.AV.undef :: (Go.Proofs.Ytfbdkjdockbfdaa.Rx.AV.undef :: (Go.Proofs.Ytfbdkjdockbfdaa.Rx.AV.undef :: (Go.Proofs.Ytfbdkjdockbfdaa.Rx.AV.undef :: (Go.Proofs.Ytfbdkjdockbfdaa.Rx.AV.undef :: (Go.Proofs.Ytfbdkjdockbfdaa.Rx.AV.undef :: (Go.Proofs.Ytfbdkjdockbfdaa.Rx.AV.undef :: (Go.Proofs.Ytfbdkjdockbfdaa.Rx.AV.undef :: (Go.Proofs.Ytfbdkjdockbfdaa.Rx.AV.undef :: (Go.Proofs.Ytfbdkjdockbfdaa.Rx.AV.undef :: (Go.Proofs.Ytfbdkjdockbfdaa.Rx.AV.undef :: (Go.Proofs.Ytfbdkjdockbfdaa.Rx.AV.undef :: (Go.Proofs.Ytfbdkjdockbfdaa.Rx.AV.undef :: (Go.Proofs.Ytfbdkjdockbfdaa.Rx.AV.undef :: (Go.Proofs.Ytfbdkjdockbfdaa.Rx.AV.undef :: (Go.Proofs.Ytfbdkjdockbfdaa.Rx.AV.undef :: (Go.Proofs.Ytfbdkjdockbfdaa.Rx.AV.undef :: (Go.Proofs.Ytfbdkjdockbfdaa.Rx.AV.undef :: (Go.Proofs.Ytfbdkjdockbfdaa.Rx.AV.undef :: (Go.Proofs.Ytfbdkjdockbfdaa.Rx.AV.undef :: (Go.Proofs.Ytfbdkjdockbfdaa.Rx.AV.undef :: (Go.Proofs.Ytfbdkjdockbfdaa.Rx.AV.undef :: (Go.Proofs.Ytfbdkjdockbfdaa.Rx.AV.undef :: (Go.Proofs.Ytfbdkjdockbfdaa.Rx.AV.undef :: (Go.Proofs.Ytfbdkjdockbfdaa.Rx.AV.undef :: (Go.Proofs.Ytfbdkjdockbfdaa.Rx.AV.undef :: (Go.Proofs.Ytfbdkjdockbfdaa.Rx.AV.undef :: (Go.Proofs.Ytfbdkjdockbfdaa.Rx.AV.undef :: (Go.Proofs.Ytfbdkjdockbfdaa.Rx.AV.undef :: (Go.Proofs.Ytfbdkjdockbfdaa.Rx.AV.undef :: (Go.Proofs.Ytfbdkjdockbfdaa.Rx.AV.undef :: (Go.Proofs.Ytfbdkjdockbfdaa.Rx.AV.undef :: (Go.Proofs.Ytfbdkjdockbfdaa.Rx.AV.undef :: (Go.Proofs.Ytfbdkjdockbfdaa.Rx.AV.undef :: (Go.Proofs.Ytfbdkjdockbfdaa.Rx.AV.undef :: (Go.Proofs.Ytfbdkjdockbfdaa.Rx.AV.undef :: (Go.Proofs.Ytfbdkjdockbfdaa.Rx.AV.undef :: (Go.Proofs.Ytfbdkjdockbfdaa.Rx.AV.undef :: (Go.Proofs.Ytfbdkjdockbfdaa.Rx.AV.undef :: (Go.Proofs.Ytfbdkjdockbfdaa.Rx.AV.undef :: (Go.Proofs.Ytfbdkjdockbfdaa.Rx.AV.undef :: (Go.Proofs.Ytfbdkjdockbfdaa.Rx.AV.undef :: (Go.Proofs.Ytfbdkjdockbfdaa.Rx.AV.undef :: (Go.Proofs.Ytfbdkjdockbfdaa.Rx.AV.undef :: (Go.Proofs.Ytfbdkjdockbfdaa.Rx.AV.undef :: (Go.Proofs.Ytfbdkjdockbfdaa.Rx.AV.undef :: (Go.Proofs.Ytfbdkjdockbfdaa.Rx.AV.undef :: (Go.Proofs.Ytfbdkjdockbfdaa.Rx.AV.undef :: (Go.Proofs.Ytfbdkjdockbfdaa.Rx.AV.undef :: [])))))))))))))))))))))))))))))))))))))))))))))))))))))))))))))))))))))))))))))))))))))))))))))))))) ((1000000, (Go.Proofs.Ytfbdkjdockbfdaa.Rx.Ent.box ((Go.Proofs.Ytfbdkjdockbfdaa.Rx.SV.con (⟨5, Go.Proofs.Ytfbdkjdockbfdaa.Rx.Ty.int Go.IntKind.u8, x1⟩ : Rw)) :: ((Go.Proofs.Ytfbdkjdockbfdaa.Rx.SV.int (Go.IntKind.i64) x2) :: [])))) :: ((1000001, (Go.Proofs.Ytfbdkjdockbfdaa.Rx.Ent.box (Go.Proofs.Ytfbdkjdockbfdaa.Rx.SV.nil :: ((Go.Proofs.Ytfbdkjdockbfdaa.Rx.SV.int (Go.IntKind.i64) x3) :: [])))) :: ((1000002, (Go.Proofs.Ytfbdkjdockbfdaa.Rx.Ent.box ((Go.Proofs.Ytfbdkjdockbfdaa.Rx.SV.ref 1000003 0 [] Option.none) :: ((Go.Proofs.Ytfbdkjdockbfdaa.Rx.SV.int (Go.IntKind.i64) x4) :: [])))) :: ((1000003, (Go.Proofs.Ytfbdkjdockbfdaa.Rx.Ent.row (⟨63, (Go.Proofs.Ytfbdkjdockbfdaa.Rx.Ty.int Go.IntKind.i64).pair   ((Go.Proofs.Ytfbdkjdockbfdaa.Rx.Ty.int Go.IntKind.i64).pair ((Go.Proofs.Ytfbdkjdockbfdaa.Rx.Ty.int Go.IntKind.i64).pair Go.Proofs.Ytfbdkjdockbfdaa.Rx.Ty.bool)), x5⟩ : Rw) 0 Option.none)) :: [])))))
noncomputable def st76_top (n : Nat) (lL3 : Int → (List Int) → Int → Int → Int → (List (Int × Int × Int × Bool)) → Option R76) (a : List Int × Int) : Option R76 :=
  (Go.Proofs.Ytfbdkjdockbfdaa.Rx.S.q40 n ((a.fst, a.snd), (6 : Int), ())).bind fun r0 => lL3 (r0.fst.fst) (r0.snd.fst.fst) (r0.snd.fst.snd) ((0 : Int)) ((0 : Int)) ([])
noncomputable def st76_L9 (n : Nat) (lL9 : Int → Int → (List Int) → Int → Int → Int → (List (Int × Int × Int × Bool)) → Option R76) (lL3 : Int → (List Int) → Int → Int → Int → (List (Int × Int × Int × Bool)) → Option R76) (x0 : Int) (x1 : Int) (x2 : List Int) (x3 : Int) (x4 : Int) (x5 : Int) (x6 : List (Int × Int × Int × Bool)) : Option R76 :=
  cond (decide ((0 : Int) < x1)) ((Go.Proofs.Ytfbdkjdockbfdaa.Rx.S.q96 n ((x6, x5), ())).bind fun r8 => lL9 (x0) (Go.IntKind.i64.wrap (x1 - (1 : Int))) (x2) (x3) (x4) (r8.fst.fst.snd) (r8.fst.fst.fst)) (cond (decide ((0 : Int) < (↑x6.length : Int))) ((Go.Proofs.Ytfbdkjdockbfdaa.Rx.S.q40 n ((x2, x3), (3 : Int), ())).bind fun r9 => cond (decide (r9.fst.fst = (0 : Int))) ((Go.Proofs.Ytfbdkjdockbfdaa.Rx.S.q40 n ((r9.snd.fst.fst, r9.snd.fst.snd), (↑x6.length : Int), ())).bind fun r10 => cond (decide ((0 : Int) ≤ r10.fst.fst)) (cond (decide (r10.fst.fst < (↑x6.length : Int))) ((Go.Proofs.Ytfbdkjdockbfdaa.Rx.S.q40 n ((r10.snd.fst.fst, r10.snd.fst.snd), (2 : Int), ())).bind fun r11 => cond (decide (r11.fst.fst = (0 : Int))) ((Go.Proofs.Ytfbdkjdockbfdaa.Rx.S.q97 n   ((x6.set (Int.toNat r10.fst.fst)         ((x6.getD (Int.toNat r10.fst.fst) ((0 : Int), (0 : Int), (0 : Int), false)).fst,           (x6.getD (Int.toNat r10.fst.fst) ((0 : Int), (0 : Int), (0 : Int), false)).snd.fst,           (x6.getD (Int.toNat r10.fst.fst) ((0 : Int), (0 : Int), (0 : Int), false)).snd.snd.fst, false),       x5),     r10.fst.fst, ())).bind fun r12 => lL3 (Go.IntKind.i64.wrap (x0 - (1 : Int))) (r11.snd.fst.fst) (r11.snd.fst.snd) (x4) (r12.fst.fst.snd) (r12.fst.fst.fst)) (lL3 (Go.IntKind.i64.wrap (x0 - (1 : Int))) (r11.snd.fst.fst) (r11.snd.fst.snd) (x4) (x5) (x6.set (Int.toNat r10.fst.fst)   ((x6.getD (Int.toNat r10.fst.fst) ((0 : Int), (0 : Int), (0 : Int), false)).fst,     (x6.getD (Int.toNat r10.fst.fst) ((0 : Int), (0 : Int), (0 : Int), false)).snd.fst,     (x6.getD (Int.toNat r10.fst.fst) ((0 : Int), (0 : Int), (0 : Int), false)).snd.snd.fst, false)))) (none)) (none)) (lL3 (Go.IntKind.i64.wrap (x0 - (1 : Int))) (r9.snd.fst.fst) (r9.snd.fst.snd) (x4) (x5) (x6))) (lL3 (Go.IntKind.i64.wrap (x0 - (1 : Int))) (x2) (x3) (x4) (x5) (x6)))
noncomputable def st76_L3 (n : Nat) (lL9 : Int → Int → (List Int) → Int → Int → Int → (List (Int × Int × Int × Bool)) → Option R76) (x0 : Int) (x1 : List Int) (x2 : Int) (x3 : Int) (x4 : Int) (x5 : List (Int × Int × Int × Bool)) : Option R76 :=
  cond (decide ((0 : Int) < x0)) ((Go.Proofs.Ytfbdkjdockbfdaa.Rx.S.q40 n ((x1, x2), (8 : Int), ())).bind fun r2 => (Go.Proofs.Ytfbdkjdockbfdaa.Rx.S.q79 n ((x5, x4), r2.fst.fst, ())).bind fun r3 => cond (decide (r3.fst.fst < (0 : Int))) ((Go.Proofs.Ytfbdkjdockbfdaa.Rx.S.q40 n ((r2.snd.fst.fst, r2.snd.fst.snd), (6 : Int), ())).bind fun r4 => (Go.Proofs.Ytfbdkjdockbfdaa.Rx.S.q95 n ((x5, x4), (r2.fst.fst, Go.IntKind.i64.wrap ((1 : Int) + r4.fst.fst), x4, true), ())).bind fun r5 => (Go.Proofs.Ytfbdkjdockbfdaa.Rx.S.q40 n ((r4.snd.fst.fst, r4.snd.fst.snd), (9 : Int), ())).bind fun r6 => lL9 (x0) (r6.fst.fst) (r6.snd.fst.fst) (r6.snd.fst.snd) (x3) (r5.fst.fst.snd) (r5.fst.fst.fst)) ((Go.Proofs.Ytfbdkjdockbfdaa.Rx.S.q40 n ((r2.snd.fst.fst, r2.snd.fst.snd), (9 : Int), ())).bind fun r13 => lL9 (x0) (r13.fst.fst) (r13.snd.fst.fst) (r13.snd.fst.snd) (x3) (x4) (x5))) ((Go.Proofs.Ytfbdkjdockbfdaa.Rx.S.q40 n ((x1, x2), (24 : Int), ())).bind fun r14 => cond (decide (r14.fst.fst = (0 : Int))) ((Go.Proofs.Ytfbdkjdockbfdaa.Rx.S.q40 n ((r14.snd.fst.fst, r14.snd.fst.snd), (4 : Int), ())).bind fun r15 => cond (decide ((0 : Int) ≤ r15.fst.fst)) (cond (decide   (r15.fst.fst < (↑[(-1 : Int), Go.IntKind.i64.wrap (x4 + (30 : Int)), (1000000 : Int), (1000001 : Int)].length : Int))) (some (((x5, [(-1 : Int), Go.IntKind.i64.wrap (x4 + (30 : Int)), (1000000 : Int), (1000001 : Int)].getD (Int.toNat r15.fst.fst)   (0 : Int)), ()), ((r15.snd.fst.fst, r15.snd.fst.snd), ()))) (none)) (none)) (cond (decide (r14.fst.fst = (1 : Int))) ((Go.Proofs.Ytfbdkjdockbfdaa.Rx.S.q40 n ((r14.snd.fst.fst, r14.snd.fst.snd), (101 : Int), ())).bind fun r16 => (Go.Proofs.Ytfbdkjdockbfdaa.Rx.S.q40 n ((r16.snd.fst.fst, r16.snd.fst.snd), (8 : Int), ())).bind fun r17 => (Go.Proofs.Ytfbdkjdockbfdaa.Rx.S.q40 n ((r17.snd.fst.fst, r17.snd.fst.snd), (3 : Int), ())).bind fun r18 => cond (decide ((0 : Int) ≤ r18.fst.fst)) (cond (decide (r18.fst.fst < (↑[(0 : Int), (1000000 : Int), (999990 : Int)].length : Int))) (cond (decide   ((x5.length +         [(r16.fst.fst, r17.fst.fst, [(0 : Int), (1000000 : Int), (999990 : Int)].getD (Int.toNat r18.fst.fst) (0 : Int),               true)].length) *       (32 : Nat) ≤     (140737488355328 : Nat))) (some (((x5 ++   [(r16.fst.fst, r17.fst.fst, [(0 : Int), (1000000 : Int), (999990 : Int)].getD (Int.toNat r18.fst.fst) (0 : Int),       true)], x4), ()), ((r18.snd.fst.fst, r18.snd.fst.snd), ()))) (none)) (none)) (none)) (some (((x5, x4), ()), ((r14.snd.fst.fst, r14.snd.fst.snd), ())))))
theorem e76_top (n : Nat) (a : List Int × Int) : runF TT G76 an76 Try.f76 c76 ps76 rs76 n (a, ()) = st76_top n (fun x0 x1 x2 x3 x4 x5 => at76 n (.head 3) [n] (sh76_L3 x0 x1 x2 x3 x4 x5)) a := by kernel_rfl
theorem e76_L9_0 (n : Nat) (m3 : Nat) (x0 : Int) (x1 : Int) (x2 : List Int) (x3 : Int) (x4 : Int) (x5 : Int) (x6 : List (Int × Int × Int × Bool)) : at76 n (.head 9) [m3, 0] (sh76_L9 x0 x1 x2 x3 x4 x5 x6) = none := by kernel_rfl
theorem e76_L9 (n : Nat) (m3 : Nat) (m9 : Nat) (x0 : Int) (x1 : Int) (x2 : List Int) (x3 : Int) (x4 : Int) (x5 : Int) (x6 : List (Int × Int × Int × Bool)) : at76 n (.head 9) [m3, m9 + 1] (sh76_L9 x0 x1 x2 x3 x4 x5 x6) = st76_L9 n (fun x0 x1 x2 x3 x4 x5 x6 => at76 n (.head 9) [m3, m9] (sh76_L9 x0 x1 x2 x3 x4 x5 x6)) (fun x0 x1 x2 x3 x4 x5 => at76 n (.head 3) [m3] (sh76_L3 x0 x1 x2 x3 x4 x5)) x0 x1 x2 x3 x4 x5 x6 := by kernel_rfl
theorem e76_L3_0 (n : Nat) (x0 : Int) (x1 : List Int) (x2 : Int) (x3 : Int) (x4 : Int) (x5 : List (Int × Int × Int × Bool)) : at76 n (.head 3) [0] (sh76_L3 x0 x1 x2 x3 x4 x5) = none := by kernel_rfl
theorem e76_L3 (n : Nat) (m3 : Nat) (x0 : Int) (x1 : List Int) (x2 : Int) (x3 : Int) (x4 : Int) (x5 : List (Int × Int × Int × Bool)) : at76 n (.head 3) [m3 + 1] (sh76_L3 x0 x1 x2 x3 x4 x5) = st76_L3 n (fun x0 x1 x2 x3 x4 x5 x6 => at76 n (.head 9) [m3, n] (sh76_L9 x0 x1 x2 x3 x4 x5 x6)) x0 x1 x2 x3 x4 x5 := by kernel_rfl
noncomputable def p76_L9 (g3 : Int → (List Int) → Int → Int → Int → (List (Int × Int × Int × Bool)) → Option R76) (n : Nat) : Nat → Int → Int → (List Int) → Int → Int → Int → (List (Int × Int × Int × Bool)) → Option R76
  | 0, _, _, _, _, _, _, _ => none
  | m + 1, x0, x1, x2, x3, x4, x5, x6 => st76_L9 n (p76_L9 g3 n m) g3 x0 x1 x2 x3 x4 x5 x6
noncomputable def p76_L3 (n : Nat) : Nat → Int → (List Int) → Int → Int → Int → (List (Int × Int × Int × Bool)) → Option R76
  | 0, _, _, _, _, _, _ => none
  | m + 1, x0, x1, x2, x3, x4, x5 => st76_L3 n (p76_L9 (p76_L3 n m) n n) x0 x1 x2 x3 x4 x5
noncomputable def p76 (n : Nat) (a : List Int × Int) : Option R76 := st76_top n (p76_L3 n n) a
theorem t76_L9 (n : Nat) (m3 : Nat) : ∀ (m9 : Nat) (x0 : Int) (x1 : Int) (x2 : List Int) (x3 : Int) (x4 : Int) (x5 : Int) (x6 : List (Int × Int × Int × Bool)), at76 n (.head 9) [m3, m9] (sh76_L9 x0 x1 x2 x3 x4 x5 x6) = p76_L9 (fun x0 x1 x2 x3 x4 x5 => at76 n (.head 3) [m3] (sh76_L3 x0 x1 x2 x3 x4 x5)) n m9 x0 x1 x2 x3 x4 x5 x6 := by
  intro m
  induction m with
  | zero => intros; rw [e76_L9_0]; rfl
  | succ m ih =>
    intros
    rw [e76_L9]
    try simp only [ih]
    rfl
theorem t76_L3 (n : Nat) : ∀ (m3 : Nat) (x0 : Int) (x1 : List Int) (x2 : Int) (x3 : Int) (x4 : Int) (x5 : List (Int × Int × Int × Bool)), at76 n (.head 3) [m3] (sh76_L3 x0 x1 x2 x3 x4 x5) = p76_L3  n m3 x0 x1 x2 x3 x4 x5 := by
  intro m
  induction m with
  | zero => intros; rw [e76_L3_0]; rfl
  | succ m ih =>
    intros
    rw [e76_L3]
    try simp only [t76_L9, ih]
    rfl
theorem F76_eq (n : Nat) (a : List Int × Int) : runF TT G76 an76 Try.f76 c76 ps76 rs76 n (a, ()) = p76 n a := by
  rw [e76_top]
  simp only [t76_L3]
  try rfl
noncomputable def q76 (n : Nat) (x : argsD ps76) : Option R76 := p76 n x.1
noncomputable def Sm76 : Sm := ⟨ps76, rs76, true, q76⟩
theorem holds76 (hg : GamOK Try.prog G76) : Holds Try.prog 76 Sm76 := by
  have := h0_76 hg
  have e : (runF TT G76 an76 Try.f76 c76 ps76 rs76) = q76 := by
    funext n x
    exact F76_eq n x.1
  rw [e] at this
  exact this
theorem gam76 : GamOK Try.prog G76 := by
  intro f s h
  unfold G76 at h
  split at h
  · injection h with h; subst h; exact ⟨⟨Try.f40, c40, Try.func40, by kernel_rfl, by decide +kernel⟩, hh40⟩
  · injection h with h; subst h; exact ⟨⟨Try.f79, c79, Try.func79, by kernel_rfl, by decide +kernel⟩, hh79⟩
  · injection h with h; subst h; exact ⟨⟨Try.f95, c95, Try.func95, by kernel_rfl, by decide +kernel⟩, hh95⟩
  · injection h with h; subst h; exact ⟨⟨Try.f96, c96, Try.func96, by kernel_rfl, by decide +kernel⟩, hh96⟩
  · injection h with h; subst h; exact ⟨⟨Try.f97, c97, Try.func97, by kernel_rfl, by decide +kernel⟩, hh97⟩
  · cases h
theorem hh76 : Holds Try.prog 76 Sm76 := holds76 gam76
end Go.Proofs.Ytfbdkjdockbfdaa.Rx.S
namespace Go.Proofs.Ytfbdkjdockbfdaa.Rx.S
open Go Go.RowKit Go.Proofs
set_option maxRecDepth 100000
noncomputable def c26 : Code := (Try.f26.body.getD .skip)
def an26 : An := ⟨fun _ => ⟨[], []⟩, fun _ _ => none⟩
abbrev ps26 : List PK := [.val (.row 5 (.int .u8)) false]
abbrev rs26 : List RK := [.own tQu true, .val i64 false]
abbrev R26 := retsD rs26 × outsD ps26
noncomputable def G26 : Gam := fun f => match f with | 38 => some Sm38 | 40 => some Sm40 | 76 => some Sm76 | _ => none
theorem h0_26 (hg : GamOK Try.prog G26) : Holds Try.prog 26 ⟨ps26, rs26, true, runF TT G26 an26 Try.f26 c26 ps26 rs26⟩ := holds_of tt_ok hg mixed Try.func26 (by kernel_rfl) (by rfl) (by decide +kernel)
noncomputable def at26 : Nat → Pt → List Nat → St → Option R26 := atF TT G26 an26 Try.f26 c26 _ _
noncomputable def st26_top (n : Nat)  (a : List Int) : Option R26 :=
  (Go.Proofs.Ytfbdkjdockbfdaa.Rx.S.q38 n (a, ())).bind fun r0 => (Go.Proofs.Ytfbdkjdockbfdaa.Rx.S.q76 n ((r0.fst.fst.fst, r0.fst.fst.snd), ())).bind fun r1 => (Go.Proofs.Ytfbdkjdockbfdaa.Rx.S.q40 n ((r1.snd.fst.fst, r1.snd.fst.snd), (8 : Int), ())).bind fun r2 => some (((r1.fst.fst.fst, r1.fst.fst.snd), (r2.fst.fst, ())), ())
theorem e26_top (n : Nat) (a : List Int) : runF TT G26 an26 Try.f26 c26 ps26 rs26 n (a, ()) = st26_top n  a := by kernel_rfl
noncomputable def p26 (n : Nat) (a : List Int) : Option R26 := st26_top n  a
theorem F26_eq (n : Nat) (a : List Int) : runF TT G26 an26 Try.f26 c26 ps26 rs26 n (a, ()) = p26 n a := by
  rw [e26_top]
  skip
  try rfl
noncomputable def q26 (n : Nat) (x : argsD ps26) : Option R26 := p26 n x.1
noncomputable def Sm26 : Sm := ⟨ps26, rs26, true, q26⟩
theorem holds26 (hg : GamOK Try.prog G26) : Holds Try.prog 26 Sm26 := by
  have := h0_26 hg
  have e : (runF TT G26 an26 Try.f26 c26 ps26 rs26) = q26 := by
    funext n x
    exact F26_eq n x.1
  rw [e] at this
  exact this
theorem gam26 : GamOK Try.prog G26 := by
  intro f s h
  unfold G26 at h
  split at h
  · injection h with h; subst h; exact ⟨⟨Try.f38, c38, Try.func38, by kernel_rfl, by decide +kernel⟩, hh38⟩
  · injection h with h; subst h; exact ⟨⟨Try.f40, c40, Try.func40, by kernel_rfl, by decide +kernel⟩, hh40⟩
  · injection h with h; subst h; exact ⟨⟨Try.f76, c76, Try.func76, by kernel_rfl, by decide +kernel⟩, hh76⟩
  · cases h
theorem hh26 : Holds Try.prog 26 Sm26 := holds26 gam26
end Go.Proofs.Ytfbdkjdockbfdaa.Rx.S
