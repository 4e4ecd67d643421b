/- What the functions of this seat compute, each as a plain function on lists and numbers, with the proof that a call answers so. No condition. -/
import Derived.Test.YtpcohpkflkhfbaaProg
import Derived.KernelRfl
import Derived.Test.YtpcohpkflkhfbaaRxK3
namespace Go.Proofs.Ytpcohpkflkhfbaa.Rx.S
open Go Go.RowKit Go.Proofs
def tbl : List (TypeId × TI) := [
(2, ⟨.int .i64, 1, 8, [.int .i64], some (.int .i64), false⟩),
(3, ⟨.int .i64, 1, 8, [.int .i64], some (.int .i64), false⟩),
(4, ⟨.bool, 1, 1, [.bool], some .bool, false⟩),
(5, ⟨.int .u8, 1, 1, [.int .u8], some (.int .u8), false⟩),
(6, ⟨.int .u8, 1, 1, [.int .u8], some (.int .u8), false⟩),
(7, ⟨.struct [(0, 1), (1, 1), (2, 1), (3, 1)], 4, 24, [.int .i64, .int .i64, .bool, .int .u8], some (.pair (.int .i64) (.pair (.int .i64) (.pair .bool (.int .u8)))), true⟩),
(8, ⟨.struct [(0, 1), (1, 1), (2, 1), (3, 1)], 4, 24, [.int .i64, .int .i64, .bool, .int .u8], some (.pair (.int .i64) (.pair (.int .i64) (.pair .bool (.int .u8)))), true⟩),
(9, ⟨.str, 1, 16, [.str], some .str, false⟩),
(10, ⟨.str, 1, 16, [.str], some .str, false⟩),
(11, ⟨.str, 1, 16, [.str], some .str, false⟩),
(12, ⟨.int .u64, 1, 8, [.int .u64], some (.int .u64), false⟩),
(13, ⟨.struct [(0, 1), (1, 1)], 2, 24, [.str, .int .u64], some (.pair .str (.int .u64)), false⟩),
(14, ⟨.struct [(0, 1), (1, 1)], 2, 24, [.str, .int .u64], some (.pair .str (.int .u64)), false⟩),
(15, ⟨.ptr, 1, 8, [.ptr], none, false⟩),
(16, ⟨.ptr, 1, 8, [.ptr], none, false⟩),
(17, ⟨.ptr, 1, 8, [.ptr], none, false⟩),
(18, ⟨.struct [(0, 1)], 1, 8, [.ptr], none, false⟩),
(19, ⟨.struct [(0, 1)], 1, 8, [.ptr], none, false⟩),
(21, ⟨.int .i32, 1, 4, [.int .i32], some (.int .i32), false⟩),
(22, ⟨.slice 4, 1, 24, [.slice], some (.row 4 .bool), false⟩),
(23, ⟨.slice 3, 1, 24, [.slice], some (.row 3 (.int .i64)), false⟩),
(24, ⟨.struct [(0, 1), (1, 1), (2, 1)], 3, 72, [.slice, .slice, .slice], some (.pair (.row 4 .bool) (.pair (.row 4 .bool) (.row 3 (.int .i64)))), false⟩),
(25, ⟨.struct [(0, 1), (1, 1), (2, 1)], 3, 72, [.slice, .slice, .slice], some (.pair (.row 4 .bool) (.pair (.row 4 .bool) (.row 3 (.int .i64)))), false⟩),
(27, ⟨.struct [(0, 1), (1, 1), (2, 1)], 3, 72, [.slice, .slice, .slice], some (.pair (.row 4 .bool) (.pair (.row 4 .bool) (.row 3 (.int .i64)))), false⟩),
(37, ⟨.slice 5, 1, 24, [.slice], some (.row 5 (.int .u8)), false⟩),
(38, ⟨.slice 51, 1, 24, [.slice], some (.row 51 (.pair (.int .i64) (.pair (.int .i64) (.pair (.int .i64) .bool)))), false⟩),
(39, ⟨.struct [(0, 1), (1, 1), (2, 1)], 3, 56, [.int .i64, .slice, .slice], some (.pair (.int .i64) (.pair (.row 51 (.pair (.int .i64) (.pair (.int .i64) (.pair (.int .i64) .bool)))) (.row 3 (.int .i64)))), false⟩),
(40, ⟨.struct [(0, 1), (1, 1), (2, 1)], 3, 56, [.int .i64, .slice, .slice], some (.pair (.int .i64) (.pair (.row 51 (.pair (.int .i64) (.pair (.int .i64) (.pair (.int .i64) .bool)))) (.row 3 (.int .i64)))), false⟩),
(50, ⟨.struct [(0, 1), (1, 1), (2, 1), (3, 1)], 4, 32, [.int .i64, .int .i64, .int .i64, .bool], some (.pair (.int .i64) (.pair (.int .i64) (.pair (.int .i64) .bool))), true⟩),
(51, ⟨.struct [(0, 1), (1, 1), (2, 1), (3, 1)], 4, 32, [.int .i64, .int .i64, .int .i64, .bool], some (.pair (.int .i64) (.pair (.int .i64) (.pair (.int .i64) .bool))), true⟩),
(55, ⟨.slice 127, 1, 24, [.slice], some (.row 127 (.pair (.int .i64) (.pair (.int .i64) (.pair (.int .i64) .bool)))), false⟩),
(56, ⟨.struct [(0, 1), (1, 1), (2, 1)], 3, 56, [.int .i64, .slice, .slice], some (.pair (.int .i64) (.pair (.row 127 (.pair (.int .i64) (.pair (.int .i64) (.pair (.int .i64) .bool)))) (.row 3 (.int .i64)))), false⟩),
(57, ⟨.struct [(0, 1), (1, 1), (2, 1)], 3, 56, [.int .i64, .slice, .slice], some (.pair (.int .i64) (.pair (.row 127 (.pair (.int .i64) (.pair (.int .i64) (.pair (.int .i64) .bool)))) (.row 3 (.int .i64)))), false⟩),
(66, ⟨.slice 111, 1, 24, [.slice], some (.row 111 (.pair (.int .i64) (.pair (.int .i64) (.pair (.int .i64) .bool)))), false⟩),
(67, ⟨.struct [(0, 1), (1, 1)], 2, 32, [.slice, .int .i64], some (.pair (.row 111 (.pair (.int .i64) (.pair (.int .i64) (.pair (.int .i64) .bool)))) (.int .i64)), false⟩),
(68, ⟨.struct [(0, 1), (1, 1)], 2, 32, [.slice, .int .i64], some (.pair (.row 111 (.pair (.int .i64) (.pair (.int .i64) (.pair (.int .i64) .bool)))) (.int .i64)), false⟩),
(76, ⟨.slice 139, 1, 24, [.slice], some (.row 139 (.pair (.int .i64) (.pair (.int .i64) (.pair (.int .i64) .bool)))), false⟩),
(77, ⟨.struct [(0, 1), (1, 1)], 2, 32, [.slice, .int .i64], some (.pair (.row 139 (.pair (.int .i64) (.pair (.int .i64) (.pair (.int .i64) .bool)))) (.int .i64)), false⟩),
(78, ⟨.struct [(0, 1), (1, 1)], 2, 32, [.slice, .int .i64], some (.pair (.row 139 (.pair (.int .i64) (.pair (.int .i64) (.pair (.int .i64) .bool)))) (.int .i64)), false⟩),
(95, ⟨.ptr, 1, 8, [.ptr], none, false⟩),
(110, ⟨.struct [(0, 1), (1, 1), (2, 1), (3, 1)], 4, 32, [.int .i64, .int .i64, .int .i64, .bool], some (.pair (.int .i64) (.pair (.int .i64) (.pair (.int .i64) .bool))), true⟩),
(111, ⟨.struct [(0, 1), (1, 1), (2, 1), (3, 1)], 4, 32, [.int .i64, .int .i64, .int .i64, .bool], some (.pair (.int .i64) (.pair (.int .i64) (.pair (.int .i64) .bool))), true⟩),
(121, ⟨.struct [(0, 1), (1, 1)], 2, 32, [.slice, .int .i64], some (.pair (.row 5 (.int .u8)) (.int .i64)), false⟩),
(122, ⟨.struct [(0, 1), (1, 1)], 2, 32, [.slice, .int .i64], some (.pair (.row 5 (.int .u8)) (.int .i64)), false⟩),
(125, ⟨.ptr, 1, 8, [.ptr], none, false⟩),
(127, ⟨.struct [(0, 1), (1, 1), (2, 1), (3, 1)], 4, 32, [.int .i64, .int .i64, .int .i64, .bool], some (.pair (.int .i64) (.pair (.int .i64) (.pair (.int .i64) .bool))), true⟩),
(137, ⟨.int .u64, 1, 8, [.int .u64], some (.int .u64), false⟩),
(139, ⟨.struct [(0, 1), (1, 1), (2, 1), (3, 1)], 4, 32, [.int .i64, .int .i64, .int .i64, .bool], some (.pair (.int .i64) (.pair (.int .i64) (.pair (.int .i64) .bool))), true⟩),
(143, ⟨.int .i64, 1, 8, [.int .i64], some (.int .i64), false⟩),
(151, ⟨.int .u32, 1, 4, [.int .u32], some (.int .u32), false⟩),
(153, ⟨.int .u64, 1, 8, [.int .u64], some (.int .u64), false⟩),
(154, ⟨.int .u64, 1, 8, [.int .u64], some (.int .u64), false⟩),
(158, ⟨.ptr, 1, 8, [.ptr], none, false⟩),
(160, ⟨.ptr, 1, 8, [.ptr], none, false⟩),
(164, ⟨.struct [(0, 1), (1, 1), (2, 1), (3, 1)], 4, 40, [.ptr, .ptr, .ptr, .str], none, false⟩),
(165, ⟨.struct [(0, 1), (1, 1), (2, 1), (3, 1)], 4, 40, [.ptr, .ptr, .ptr, .str], none, false⟩),
(167, ⟨.struct [(0, 0)], 0, 0, [], none, false⟩),
(168, ⟨.struct [(0, 0)], 0, 0, [], none, false⟩),
(170, ⟨.int .u8, 1, 1, [.int .u8], some (.int .u8), false⟩),
(171, ⟨.int .u8, 1, 1, [.int .u8], some (.int .u8), false⟩),
(173, ⟨.ptr, 1, 8, [.ptr], none, false⟩),
(174, ⟨.int .i32, 1, 4, [.int .i32], some (.int .i32), false⟩),
(175, ⟨.int .i32, 1, 4, [.int .i32], some (.int .i32), false⟩),
(178, ⟨.other, 1, 8, [.ptr], none, false⟩)]

def TT : TB := tbOf tbl
theorem tt_ok : TBok Try.prog TT := tbOk (by decide +kernel)
abbrev i64 : Ty := .int .i64
abbrev tTh : Ty := .pair i64 (.pair i64 (.pair i64 .bool))
abbrev tLock : Ty := .pair i64 (.pair (.row 51 tTh) (.row 3 i64))
abbrev tRd : Ty := .pair (.row 5 (.int .u8)) i64
theorem mixed : Try.prog.follows .mixedOrders = true := by kernel_rfl
end Go.Proofs.Ytpcohpkflkhfbaa.Rx.S
namespace Go.Proofs.Ytpcohpkflkhfbaa.Rx.S
open Go Go.RowKit Go.Proofs
set_option maxRecDepth 100000
noncomputable def c57 : Code := (Try.f57.body.getD .skip)
def an57 : An := ⟨fun _ => ⟨[], []⟩, fun _ _ => none⟩
abbrev ps57 : List PK := [.val i64 false, .val i64 false, .val i64 false]
abbrev rs57 : List RK := [.val .bool false]
abbrev R57 := retsD rs57 × outsD ps57
noncomputable def G57 : Gam := fun _ => none
theorem h0_57 (hg : GamOK Try.prog G57) : Holds Try.prog 57 ⟨ps57, rs57, false, runF TT G57 an57 Try.f57 c57 ps57 rs57⟩ := holds_of tt_ok hg mixed Try.func57 (by kernel_rfl) (by rfl) (by decide +kernel)
noncomputable def at57 : Nat → Pt → List Nat → St → Option R57 := atF TT G57 an57 Try.f57 c57 _ _
noncomputable def st57_top (n : Nat)  (a : Int) (b : Int) (c : Int) : Option R57 :=
  cond (decide (b ≤ a)) (some ((decide (a ≤ c), ()), ())) (some ((false, ()), ()))
theorem e57_top (n : Nat) (a : Int) (b : Int) (c : Int) : runF TT G57 an57 Try.f57 c57 ps57 rs57 n (a, b, c, ()) = st57_top n  a b c := by kernel_rfl
noncomputable def p57 (n : Nat) (a : Int) (b : Int) (c : Int) : Option R57 := st57_top n  a b c
theorem F57_eq (n : Nat) (a : Int) (b : Int) (c : Int) : runF TT G57 an57 Try.f57 c57 ps57 rs57 n (a, b, c, ()) = p57 n a b c := by
  rw [e57_top]
  skip
  try rfl
noncomputable def q57 (n : Nat) (x : argsD ps57) : Option R57 := p57 n x.1 x.2.1 x.2.2.1
noncomputable def Sm57 : Sm := ⟨ps57, rs57, false, q57⟩
theorem holds57 (hg : GamOK Try.prog G57) : Holds Try.prog 57 Sm57 := by
  have := h0_57 hg
  have e : (runF TT G57 an57 Try.f57 c57 ps57 rs57) = q57 := by
    funext n x
    exact F57_eq n x.1 x.2.1 x.2.2.1
  rw [e] at this
  exact this
theorem gam57 : GamOK Try.prog G57 := fun _ _ h => by cases h
theorem hh57 : Holds Try.prog 57 Sm57 := holds57 gam57
end Go.Proofs.Ytpcohpkflkhfbaa.Rx.S
namespace Go.Proofs.Ytpcohpkflkhfbaa.Rx.S
open Go Go.RowKit Go.Proofs
set_option maxRecDepth 100000
noncomputable def c76 : Code := (Try.f76.body.getD .skip)
def an76 : An := ⟨fun r => match r with | 2 => ⟨[0, 1, 5], []⟩ | _ => ⟨[], []⟩, fun _ _ => none⟩
abbrev ps76 : List PK := [.val (.row 3 i64) false, .val i64 false]
abbrev rs76 : List RK := [.val .bool false]
abbrev R76 := retsD rs76 × outsD ps76
noncomputable def G76 : Gam := fun _ => none
theorem h0_76 (hg : GamOK Try.prog G76) : Holds Try.prog 76 ⟨ps76, rs76, false, runF TT G76 an76 Try.f76 c76 ps76 rs76⟩ := holds_of tt_ok hg mixed Try.func76 (by kernel_rfl) (by rfl) (by decide +kernel)
noncomputable def at76 : Nat → Pt → List Nat → St → Option R76 := atF TT G76 an76 Try.f76 c76 _ _
def sh76_L2 (x0 : List Int) (x1 : Int) (x2 : Int) : St := (Go.Proofs.Ytpcohpkflkhfbaa.Rx.St.mk ((Go.Proofs.Ytpcohpkflkhfbaa.Rx.AV.one (Go.Proofs.Ytpcohpkflkhfbaa.Rx.SV.con (⟨3, Go.Proofs.Ytpcohpkflkhfbaa.Rx.Ty.int Go.IntKind.i64, x0⟩ : Rw))) :: ((Go.Proofs.Ytpcohpkflkhfbaa.Rx.AV.one (Go.Proofs.Ytpcohpkflkhfbaa.Rx.SV.int (Go.IntKind.i64) x1)) :: (Go.Proofs.Ytpcohpkflkhfbaa.Rx.AV.undef :: (Go.Proofs.Ytpcohpkflkhfbaa.Rx.AV.undef :: (Go.Proofs.Ytpcohpkflkhfbaa.Rx.AV.undef :: ((Go.Proofs.Ytpcohpkflkhfbaa.Rx.AV.one (Go.Proofs.Ytpcohpkflkhfbaa.Rx.SV.int (Go.IntKind.i64) x2)) :: (Go.Proofs.Ytpcohpkflkhfbaa.Rx.AV.undef :: (Go.Proofs.Ytpcohpkflkhfbaa.Rx.AV.undef :: (Go.Proofs.Ytpcohpkflkhfbaa.Rx.AV.undef :: (Go.Proofs.Ytpcohpkflkhfbaa.Rx.AV.undef :: (Go.Proofs.Ytpcohpkflkhfbaa.Rx.AV.undef :: (Go.Proofs.Ytpcohpkflkhfbaa.Rx.AV.undef :: (Go.Proofs.Ytpcohpkflkhfbaa.Rx.AV.undef :: (Go.Proofs.Ytpcohpkflkhfbaa.Rx.AV.undef :: (Go.Proofs.Ytpcohpkflkhfbaa.Rx.AV.undef :: (Go.Proofs.Ytpcohpkflkhfbaa.Rx.AV.undef :: (Go.Proofs.Ytpcohpkflkhfbaa.Rx.AV.undef :: (Go.Proofs.Ytpcohpkflkhfbaa.Rx.AV.undef :: [])))))))))))))))))) [])
noncomputable def st76_top (n : Nat) (lL2 : (List Int) → Int → Int → Option R76) (a : List Int) (b : Int) : Option R76 :=
  lL2 (a) (b) ((0 : Int))
noncomputable def st76_L2 (n : Nat) (lL2 : (List Int) → Int → Int → Option R76) (x0 : List Int) (x1 : Int) (x2 : Int) : Option R76 :=
  cond (decide (x2 < (↑x0.length : Int))) (cond (decide ((0 : Int) ≤ x2)) (cond (decide (x2 < (↑x0.length : Int))) (cond (decide (x0.getD x2.toNat (0 : Int) = x1)) (some ((true, ()), ())) (lL2 (x0) (x1) (Go.IntKind.i64.wrap (x2 + (1 : Int))))) (none)) (none)) (some ((false, ()), ()))
theorem e76_top (n : Nat) (a : List Int) (b : Int) : runF TT G76 an76 Try.f76 c76 ps76 rs76 n (a, b, ()) = st76_top n (fun x0 x1 x2 => at76 n (.head 2) [n] (sh76_L2 x0 x1 x2)) a b := by kernel_rfl
theorem e76_L2_0 (n : Nat) (x0 : List Int) (x1 : Int) (x2 : Int) : at76 n (.head 2) [0] (sh76_L2 x0 x1 x2) = none := by kernel_rfl
theorem e76_L2 (n : Nat) (m2 : Nat) (x0 : List Int) (x1 : Int) (x2 : Int) : at76 n (.head 2) [m2 + 1] (sh76_L2 x0 x1 x2) = st76_L2 n (fun x0 x1 x2 => at76 n (.head 2) [m2] (sh76_L2 x0 x1 x2)) x0 x1 x2 := by kernel_rfl
noncomputable def p76_L2 (n : Nat) : Nat → (List Int) → Int → Int → Option R76
  | 0, _, _, _ => none
  | m + 1, x0, x1, x2 => st76_L2 n (p76_L2 n m) x0 x1 x2
noncomputable def p76 (n : Nat) (a : List Int) (b : Int) : Option R76 := st76_top n (p76_L2 n n) a b
theorem t76_L2 (n : Nat) : ∀ (m2 : Nat) (x0 : List Int) (x1 : Int) (x2 : Int), at76 n (.head 2) [m2] (sh76_L2 x0 x1 x2) = p76_L2  n m2 x0 x1 x2 := by
  intro m
  induction m with
  | zero => intros; rw [e76_L2_0]; rfl
  | succ m ih =>
    intros
    rw [e76_L2]
    simp only [ih]
    rfl
theorem F76_eq (n : Nat) (a : List Int) (b : Int) : runF TT G76 an76 Try.f76 c76 ps76 rs76 n (a, b, ()) = p76 n a b := by
  rw [e76_top]
  simp only [t76_L2]
  try rfl
noncomputable def q76 (n : Nat) (x : argsD ps76) : Option R76 := p76 n x.1 x.2.1
noncomputable def Sm76 : Sm := ⟨ps76, rs76, false, q76⟩
theorem holds76 (hg : GamOK Try.prog G76) : Holds Try.prog 76 Sm76 := by
  have := h0_76 hg
  have e : (runF TT G76 an76 Try.f76 c76 ps76 rs76) = q76 := by
    funext n x
    exact F76_eq n x.1 x.2.1
  rw [e] at this
  exact this
theorem gam76 : GamOK Try.prog G76 := fun _ _ h => by cases h
theorem hh76 : Holds Try.prog 76 Sm76 := holds76 gam76
end Go.Proofs.Ytpcohpkflkhfbaa.Rx.S
namespace Go.Proofs.Ytpcohpkflkhfbaa.Rx.S
open Go Go.RowKit Go.Proofs
set_option maxRecDepth 100000
noncomputable def c24 : Code := (Try.f24.body.getD .skip)
def an24 : An := ⟨fun r => match r with | 5 => ⟨[1, 3, 4], []⟩ | _ => ⟨[], []⟩, fun _ _ => none⟩
abbrev ps24 : List PK := [.val tLock true]
abbrev rs24 : List RK := [.val .bool false]
abbrev R24 := retsD rs24 × outsD ps24
noncomputable def G24 : Gam := fun f => match f with | 57 => some Sm57 | 76 => some Sm76 | _ => none
theorem h0_24 (hg : GamOK Try.prog G24) : Holds Try.prog 24 ⟨ps24, rs24, false, runF TT G24 an24 Try.f24 c24 ps24 rs24⟩ := holds_of tt_ok hg mixed Try.func24 (by kernel_rfl) (by rfl) (by decide +kernel)
noncomputable def at24 : Nat → Pt → List Nat → St → Option R24 := atF TT G24 an24 Try.f24 c24 _ _
def sh24_L5 (x0 : Int) (x1 : Int) (x2 : Int) (x3 : List (Int × Int × Int × Bool)) (x4 : List Int) : St := (Go.Proofs.Ytpcohpkflkhfbaa.Rx.St.mk (Go.Proofs.Ytpcohpkflkhfbaa.Rx.AV.undef :: ((Go.Proofs.Ytpcohpkflkhfbaa.Rx.AV.one (Go.Proofs.Ytpcohpkflkhfbaa.Rx.SV.bptr 1000000 0)) :: (Go.Proofs.Ytpcohpkflkhfbaa.Rx.AV.undef :: ((Go.Proofs.Ytpcohpkflkhfbaa.Rx.AV.one (Go.Proofs.Ytpcohpkflkhfbaa.Rx.SV.int (Go.IntKind.i64) x0)) :: ((Go.Proofs.Ytpcohpkflkhfbaa.Rx.AV.one (Go.Proofs.Ytpcohpkflkhfbaa.Rx.SV.int (Go.IntKind.i64) x1)) :: (Go.Proofs.Ytpcohpkflkhfbaa.Rx.AV.undef :: (Go.Proofs.Ytpcohpkflkhfbaa.Rx.AV.undef :: (Go.Proofs.Ytpcohpkflkhfbaa.Rx.AV.undef :: (Go.Proofs.Ytpcohpkflkhfbaa.Rx.AV.undef :: (Go.Proofs.Ytpcohpkflkhfbaa.Rx.AV.undef :: (Go.Proofs.Ytpcohpkflkhfbaa.Rx.AV.undef :: (Go.Proofs.Ytpcohpkflkhfbaa.Rx.AV.undef :: (Go.Proofs.Ytpcohpkflkhfbaa.Rx.AV.undef :: (Go.Proofs.Ytpcohpkflkhfbaa.Rx.AV.undef :: (Go.Proofs.Ytpcohpkflkhfbaa.Rx.AV.undef :: (Go.Proofs.Ytpcohpkflkhfbaa.Rx.AV.undef :: (Go.Proofs.Ytpcohpkflkhfbaa.Rx.AV.undef :: (Go.Proofs.Ytpcohpkflkhfbaa.Rx.AV.undef :: (Go.Proofs.Ytpcohpkflkhfbaa.Rx.AV.undef :: (Go.Proofs.Ytpcohpkflkhfbaa.Rx.AV.undef :: (Go.Proofs.Ytpcohpkflkhfbaa.Rx.AV.undef :: (Go.Proofs.Ytpcohpkflkhfbaa.Rx.AV.undef :: (Go.Proofs.Ytpcohpkflkhfbaa.Rx.AV.undef :: (Go.Proofs.Ytpcohpkflkhfbaa.Rx.AV.undef :: (Go.Proofs.Ytpcohpkflkhfbaa.Rx.AV.undef :: (Go.Proofs.Ytpcohpkflkhfbaa.Rx.AV.undef :: (Go.Proofs.Ytpcohpkflkhfbaa.Rx.AV.undef :: (Go.Proofs.Ytpcohpkflkhfbaa.Rx.AV.undef :: (Go.Proofs.Ytpcohpkflkhfbaa.Rx.AV.undef :: (Go.Proofs.Ytpcohpkflkhfbaa.Rx.AV.undef :: (Go.Proofs.Ytpcohpkflkhfbaa.Rx.AV.undef :: (Go.Proofs.Ytpcohpkflkhfbaa.Rx.AV.undef :: (Go.Proofs.Ytpcohpkflkhfbaa.Rx.AV.undef :: (Go.Proofs.Ytpcohpkflkhfbaa.Rx.AV.undef :: (Go.Proofs.Ytpcohpkflkhfbaa.Rx.AV.undef :: (Go.Proofs.Ytpcohpkflkhfbaa.Rx.AV.undef :: (Go.Proofs.Ytpcohpkflkhfbaa.Rx.AV.undef :: (Go.Proofs.Ytpcohpkflkhfbaa.Rx.AV.undef :: (Go.Proofs.Ytpcohpkflkhfbaa.Rx.AV.undef :: (Go.Proofs.Ytpcohpkflkhfbaa.Rx.AV.undef :: (Go.Proofs.Ytpcohpkflkhfbaa.Rx.AV.undef :: (Go.Proofs.Ytpcohpkflkhfbaa.Rx.AV.undef :: (Go.Proofs.Ytpcohpkflkhfbaa.Rx.AV.undef :: (Go.Proofs.Ytpcohpkflkhfbaa.Rx.AV.undef :: (Go.Proofs.Ytpcohpkflkhfbaa.Rx.AV.undef :: (Go.Proofs.Ytpcohpkflkhfbaa.Rx.AV.undef :: (Go.Proofs.Ytpcohpkflkhfbaa.Rx.AV.undef :: (Go.Proofs.Ytpcohpkflkhfbaa.Rx.AV.undef :: (Go.Proofs.Ytpcohpkflkhfbaa.Rx.AV.undef :: (Go.Proofs.Ytpcohpkflkhfbaa.Rx.AV.undef :: (Go.Proofs.Ytpcohpkflkhfbaa.Rx.AV.undef :: (Go.Proofs.Ytpcohpkflkhfbaa.Rx.AV.undef :: (Go.Proofs.Ytpcohpkflkhfbaa.Rx.AV.undef :: (Go.Proofs.Ytpcohpkflkhfbaa.Rx.AV.undef :: (Go.Proofs.Ytpcohpkflkhfbaa.Rx.AV.undef :: (Go.Proofs.Ytpcohpkflkhfbaa.Rx.AV.undef :: (Go.Proofs.Ytpcohpkflkhfbaa.Rx.AV.undef :: (Go.Proofs.Ytpcohpkflkhfbaa.Rx.AV.undef :: (Go.Proofs.Ytpcohpkflkhfbaa.Rx.AV.undef :: (Go.Proofs.Ytpcohpkflkhfbaa.Rx.AV.undef :: (Go.Proofs.Ytpcohpkflkhfbaa.Rx.AV.undef :: (Go.Proofs.Ytpcohpkflkhfbaa.Rx.AV.undef :: (Go.Proofs.Ytpcohpkflkhfbaa.Rx.AV.undef :: (Go.Proofs.Ytpcohpkflkhfbaa.Rx.AV.undef :: (Go.Proofs.Ytpcohpkflkhfbaa.Rx.AV.undef :: (Go.Proofs.Ytpcohpkflkhfbaa.Rx.AV.undef :: (Go.Proofs.Ytpcohpkflkhfbaa.Rx.AV.undef :: (Go.Proofs.Ytpcohpkflkhfbaa.Rx.AV.undef :: (Go.Proofs.Ytpcohpkflkhfbaa.Rx.AV.undef :: (Go.Proofs.Ytpcohpkflkhfbaa.Rx.AV.undef :: (Go.Proofs.Ytpcohpkflkhfbaa.Rx.AV.undef :: (Go.Proofs.Ytpcohpkflkhfbaa.Rx.AV.undef :: (Go.Proofs.Ytpcohpkflkhfbaa.Rx.AV.undef :: (Go.Proofs.Ytpcohpkflkhfbaa.Rx.AV.undef :: (Go.Proofs.Ytpcohpkflkhfbaa.Rx.AV.undef :: (Go.Proofs.Ytpcohpkflkhfbaa.Rx.AV.undef :: (Go.Proofs.Ytpcohpkflkhfbaa.Rx.AV.undef :: (Go.Proofs.Ytpcohpkflkhfbaa.Rx.AV.undef :: (Go.Proofs.Ytpcohpkflkhfbaa.Rx.AV.undef :: (Go.Proofs.Ytpcohpkflkhfbaa.Rx.AV.undef :: (Go.Proofs.Ytpcohpkflkhfbaa.Rx.AV.undef :: (Go.Proofs.Ytpcohpkflkhfbaa.Rx.AV.undef :: (Go.Proofs.Ytpcohpkflkhfbaa.Rx.AV.undef :: (Go.Proofs.Ytpcohpkflkhfbaa.Rx.AV.undef :: (Go.Proofs.Ytpcohpkflkhfbaa.Rx.AV.undef :: (Go.Proofs.Ytpcohpkflkhfbaa.Rx.AV.undef :: (Go.Proofs.Ytpcohpkflkhfbaa.Rx.AV.undef :: (Go.Proofs.Ytpcohpkflkhfbaa.Rx.AV.undef :: (Go.Proofs.Ytpcohpkflkhfbaa.Rx.AV.undef :: (Go.Proofs.Ytpcohpkflkhfbaa.Rx.AV.undef :: (Go.Proofs.Ytpcohpkflkhfbaa.Rx.AV.undef :: (Go.Proofs.Ytpcohpkflkhfbaa.Rx.AV.undef :: [])))))))))))))))))))))))))))))))))))))))))))))))))))))))))))))))))))))))))))))))))))))))))))) ((1000000, (Go.Proofs.Ytpcohpkflkhfbaa.Rx.Ent.box ((Go.Proofs.Ytpcohpkflkhfbaa.Rx.SV.int (Go.IntKind.i64) x2) :: ((Go.Proofs.Ytpcohpkflkhfbaa.Rx.SV.con (⟨51, (Go.Proofs.Ytpcohpkflkhfbaa.Rx.Ty.int Go.IntKind.i64).pair   ((Go.Proofs.Ytpcohpkflkhfbaa.Rx.Ty.int Go.IntKind.i64).pair ((Go.Proofs.Ytpcohpkflkhfbaa.Rx.Ty.int Go.IntKind.i64).pair Go.Proofs.Ytpcohpkflkhfbaa.Rx.Ty.bool)), x3⟩ : Rw)) :: ((Go.Proofs.Ytpcohpkflkhfbaa.Rx.SV.con (⟨3, Go.Proofs.Ytpcohpkflkhfbaa.Rx.Ty.int Go.IntKind.i64, x4⟩ : Rw)) :: []))))) :: []))
noncomputable def st24_top (n : Nat) (lL5 : Int → Int → Int → (List (Int × Int × Int × Bool)) → (List Int) → Option R24) (a : Int × List (Int × Int × Int × Bool) × List Int) : Option R24 :=
  (Go.Proofs.Ytpcohpkflkhfbaa.Rx.S.q57 n (a.fst, (0 : Int), (2 : Int), ())).bind fun r0 => cond (!r0.fst.fst) (some ((false, ()), ())) ((Go.Proofs.Ytpcohpkflkhfbaa.Rx.S.q57 n ((↑(List.length a.snd.fst) : Int), (1 : Int), (4 : Int), ())).bind fun r1 => cond (!r1.fst.fst) (some ((false, ()), ())) (lL5 ((0 : Int)) ((0 : Int)) (a.fst) (a.snd.fst) (a.snd.snd)))
noncomputable def st24_L5 (n : Nat) (lL5 : Int → Int → Int → (List (Int × Int × Int × Bool)) → (List Int) → Option R24) (x0 : Int) (x1 : Int) (x2 : Int) (x3 : List (Int × Int × Int × Bool)) (x4 : List Int) : Option R24 :=
  cond (decide (x1 < (↑x3.length : Int))) (cond (decide ((0 : Int) ≤ x1)) (cond (decide (x1 < (↑x3.length : Int))) ((Go.Proofs.Ytpcohpkflkhfbaa.Rx.S.q57 n ((x3.getD x1.toNat ((0 : Int), (0 : Int), (0 : Int), false)).fst, (0 : Int), (6 : Int), ())).bind fun r3 => cond (!r3.fst.fst) (some ((false, ()), ())) ((Go.Proofs.Ytpcohpkflkhfbaa.Rx.S.q57 n ((x3.getD x1.toNat ((0 : Int), (0 : Int), (0 : Int), false)).snd.fst, (0 : Int), (2 : Int), ())).bind fun r4 => cond (!r4.fst.fst) (some ((false, ()), ())) (cond (!decide ((x3.getD x1.toNat ((0 : Int), (0 : Int), (0 : Int), false)).fst = (1 : Int))) (cond (!decide ((x3.getD x1.toNat ((0 : Int), (0 : Int), (0 : Int), false)).snd.fst = (0 : Int))) (some ((false, ()), ())) ((Go.Proofs.Ytpcohpkflkhfbaa.Rx.S.q57 n ((x3.getD x1.toNat ((0 : Int), (0 : Int), (0 : Int), false)).snd.snd.fst, (0 : Int), (3 : Int), ())).bind fun r5 => cond (!r5.fst.fst) (some ((false, ()), ())) (cond (decide ((0 : Int) < (x3.getD x1.toNat ((0 : Int), (0 : Int), (0 : Int), false)).fst)) (cond (decide ((x3.getD x1.toNat ((0 : Int), (0 : Int), (0 : Int), false)).snd.snd.fst = (0 : Int))) (some ((false, ()), ())) (cond ((x3.getD x1.toNat ((0 : Int), (0 : Int), (0 : Int), false)).snd.snd.snd) (cond (!decide ((x3.getD x1.toNat ((0 : Int), (0 : Int), (0 : Int), false)).fst = (3 : Int))) (some ((false, ()), ())) ((Go.Proofs.Ytpcohpkflkhfbaa.Rx.S.q76 n (x4, x1, ())).bind fun r6 => cond (!(x3.getD x1.toNat ((0 : Int), (0 : Int), (0 : Int), false)).snd.snd.snd == r6.fst.fst) (some ((false, ()), ())) (cond ((x3.getD x1.toNat ((0 : Int), (0 : Int), (0 : Int), false)).snd.snd.snd) (lL5 (Go.IntKind.i64.wrap (x0 + (1 : Int))) (Go.IntKind.i64.wrap (x1 + (1 : Int))) (x2) (x3) (x4)) (lL5 (x0) (Go.IntKind.i64.wrap (x1 + (1 : Int))) (x2) (x3) (x4))))) ((Go.Proofs.Ytpcohpkflkhfbaa.Rx.S.q76 n (x4, x1, ())).bind fun r7 => cond (!(x3.getD x1.toNat ((0 : Int), (0 : Int), (0 : Int), false)).snd.snd.snd == r7.fst.fst) (some ((false, ()), ())) (cond ((x3.getD x1.toNat ((0 : Int), (0 : Int), (0 : Int), false)).snd.snd.snd) (lL5 (Go.IntKind.i64.wrap (x0 + (1 : Int))) (Go.IntKind.i64.wrap (x1 + (1 : Int))) (x2) (x3) (x4)) (lL5 (x0) (Go.IntKind.i64.wrap (x1 + (1 : Int))) (x2) (x3) (x4)))))) (cond ((x3.getD x1.toNat ((0 : Int), (0 : Int), (0 : Int), false)).snd.snd.snd) (cond (!decide ((x3.getD x1.toNat ((0 : Int), (0 : Int), (0 : Int), false)).fst = (3 : Int))) (some ((false, ()), ())) ((Go.Proofs.Ytpcohpkflkhfbaa.Rx.S.q76 n (x4, x1, ())).bind fun r8 => cond (!(x3.getD x1.toNat ((0 : Int), (0 : Int), (0 : Int), false)).snd.snd.snd == r8.fst.fst) (some ((false, ()), ())) (cond ((x3.getD x1.toNat ((0 : Int), (0 : Int), (0 : Int), false)).snd.snd.snd) (lL5 (Go.IntKind.i64.wrap (x0 + (1 : Int))) (Go.IntKind.i64.wrap (x1 + (1 : Int))) (x2) (x3) (x4)) (lL5 (x0) (Go.IntKind.i64.wrap (x1 + (1 : Int))) (x2) (x3) (x4))))) ((Go.Proofs.Ytpcohpkflkhfbaa.Rx.S.q76 n (x4, x1, ())).bind fun r9 => cond (!(x3.getD x1.toNat ((0 : Int), (0 : Int), (0 : Int), false)).snd.snd.snd == r9.fst.fst) (some ((false, ()), ())) (cond ((x3.getD x1.toNat ((0 : Int), (0 : Int), (0 : Int), false)).snd.snd.snd) (lL5 (Go.IntKind.i64.wrap (x0 + (1 : Int))) (Go.IntKind.i64.wrap (x1 + (1 : Int))) (x2) (x3) (x4)) (lL5 (x0) (Go.IntKind.i64.wrap (x1 + (1 : Int))) (x2) (x3) (x4)))))))) ((Go.Proofs.Ytpcohpkflkhfbaa.Rx.S.q57 n ((x3.getD x1.toNat ((0 : Int), (0 : Int), (0 : Int), false)).snd.snd.fst, (0 : Int), (3 : Int), ())).bind fun r10 => cond (!r10.fst.fst) (some ((false, ()), ())) (cond (decide ((0 : Int) < (x3.getD x1.toNat ((0 : Int), (0 : Int), (0 : Int), false)).fst)) (cond (decide ((x3.getD x1.toNat ((0 : Int), (0 : Int), (0 : Int), false)).snd.snd.fst = (0 : Int))) (some ((false, ()), ())) (cond ((x3.getD x1.toNat ((0 : Int), (0 : Int), (0 : Int), false)).snd.snd.snd) (cond (!decide ((x3.getD x1.toNat ((0 : Int), (0 : Int), (0 : Int), false)).fst = (3 : Int))) (some ((false, ()), ())) ((Go.Proofs.Ytpcohpkflkhfbaa.Rx.S.q76 n (x4, x1, ())).bind fun r11 => cond (!(x3.getD x1.toNat ((0 : Int), (0 : Int), (0 : Int), false)).snd.snd.snd == r11.fst.fst) (some ((false, ()), ())) (cond ((x3.getD x1.toNat ((0 : Int), (0 : Int), (0 : Int), false)).snd.snd.snd) (lL5 (Go.IntKind.i64.wrap (x0 + (1 : Int))) (Go.IntKind.i64.wrap (x1 + (1 : Int))) (x2) (x3) (x4)) (lL5 (x0) (Go.IntKind.i64.wrap (x1 + (1 : Int))) (x2) (x3) (x4))))) ((Go.Proofs.Ytpcohpkflkhfbaa.Rx.S.q76 n (x4, x1, ())).bind fun r12 => cond (!(x3.getD x1.toNat ((0 : Int), (0 : Int), (0 : Int), false)).snd.snd.snd == r12.fst.fst) (some ((false, ()), ())) (cond ((x3.getD x1.toNat ((0 : Int), (0 : Int), (0 : Int), false)).snd.snd.snd) (lL5 (Go.IntKind.i64.wrap (x0 + (1 : Int))) (Go.IntKind.i64.wrap (x1 + (1 : Int))) (x2) (x3) (x4)) (lL5 (x0) (Go.IntKind.i64.wrap (x1 + (1 : Int))) (x2) (x3) (x4)))))) (cond ((x3.getD x1.toNat ((0 : Int), (0 : Int), (0 : Int), false)).snd.snd.snd) (cond (!decide ((x3.getD x1.toNat ((0 : Int), (0 : Int), (0 : Int), false)).fst = (3 : Int))) (some ((false, ()), ())) ((Go.Proofs.Ytpcohpkflkhfbaa.Rx.S.q76 n (x4, x1, ())).bind fun r13 => cond (!(x3.getD x1.toNat ((0 : Int), (0 : Int), (0 : Int), false)).snd.snd.snd == r13.fst.fst) (some ((false, ()), ())) (cond ((x3.getD x1.toNat ((0 : Int), (0 : Int), (0 : Int), false)).snd.snd.snd) (lL5 (Go.IntKind.i64.wrap (x0 + (1 : Int))) (Go.IntKind.i64.wrap (x1 + (1 : Int))) (x2) (x3) (x4)) (lL5 (x0) (Go.IntKind.i64.wrap (x1 + (1 : Int))) (x2) (x3) (x4))))) ((Go.Proofs.Ytpcohpkflkhfbaa.Rx.S.q76 n (x4, x1, ())).bind fun r14 => cond (!(x3.getD x1.toNat ((0 : Int), (0 : Int), (0 : Int), false)).snd.snd.snd == r14.fst.fst) (some ((false, ()), ())) (cond ((x3.getD x1.toNat ((0 : Int), (0 : Int), (0 : Int), false)).snd.snd.snd) (lL5 (Go.IntKind.i64.wrap (x0 + (1 : Int))) (Go.IntKind.i64.wrap (x1 + (1 : Int))) (x2) (x3) (x4)) (lL5 (x0) (Go.IntKind.i64.wrap (x1 + (1 : Int))) (x2) (x3) (x4)))))))))) (none)) (none)) (some ((decide (x0 = (↑x4.length : Int)), ()), ()))
theorem e24_top (n : Nat) (a : Int × List (Int × Int × Int × Bool) × List Int) : runF TT G24 an24 Try.f24 c24 ps24 rs24 n (a, ()) = st24_top n (fun x0 x1 x2 x3 x4 => at24 n (.head 5) [n] (sh24_L5 x0 x1 x2 x3 x4)) a := by kernel_rfl
theorem e24_L5_0 (n : Nat) (x0 : Int) (x1 : Int) (x2 : Int) (x3 : List (Int × Int × Int × Bool)) (x4 : List Int) : at24 n (.head 5) [0] (sh24_L5 x0 x1 x2 x3 x4) = none := by kernel_rfl
theorem e24_L5 (n : Nat) (m5 : Nat) (x0 : Int) (x1 : Int) (x2 : Int) (x3 : List (Int × Int × Int × Bool)) (x4 : List Int) : at24 n (.head 5) [m5 + 1] (sh24_L5 x0 x1 x2 x3 x4) = st24_L5 n (fun x0 x1 x2 x3 x4 => at24 n (.head 5) [m5] (sh24_L5 x0 x1 x2 x3 x4)) x0 x1 x2 x3 x4 := by kernel_rfl
noncomputable def p24_L5 (n : Nat) : Nat → Int → Int → Int → (List (Int × Int × Int × Bool)) → (List Int) → Option R24
  | 0, _, _, _, _, _ => none
  | m + 1, x0, x1, x2, x3, x4 => st24_L5 n (p24_L5 n m) x0 x1 x2 x3 x4
noncomputable def p24 (n : Nat) (a : Int × List (Int × Int × Int × Bool) × List Int) : Option R24 := st24_top n (p24_L5 n n) a
theorem t24_L5 (n : Nat) : ∀ (m5 : Nat) (x0 : Int) (x1 : Int) (x2 : Int) (x3 : List (Int × Int × Int × Bool)) (x4 : List Int), at24 n (.head 5) [m5] (sh24_L5 x0 x1 x2 x3 x4) = p24_L5  n m5 x0 x1 x2 x3 x4 := by
  intro m
  induction m with
  | zero => intros; rw [e24_L5_0]; rfl
  | succ m ih =>
    intros
    rw [e24_L5]
    simp only [ih]
    rfl
theorem F24_eq (n : Nat) (a : Int × List (Int × Int × Int × Bool) × List Int) : runF TT G24 an24 Try.f24 c24 ps24 rs24 n (a, ()) = p24 n a := by
  rw [e24_top]
  simp only [t24_L5]
  try rfl
noncomputable def q24 (n : Nat) (x : argsD ps24) : Option R24 := p24 n x.1
noncomputable def Sm24 : Sm := ⟨ps24, rs24, false, q24⟩
theorem holds24 (hg : GamOK Try.prog G24) : Holds Try.prog 24 Sm24 := by
  have := h0_24 hg
  have e : (runF TT G24 an24 Try.f24 c24 ps24 rs24) = q24 := by
    funext n x
    exact F24_eq n x.1
  rw [e] at this
  exact this
theorem gam24 : GamOK Try.prog G24 := by
  intro f s h
  unfold G24 at h
  split at h
  · injection h with h; subst h; exact ⟨⟨Try.f57, c57, Try.func57, by kernel_rfl, by decide +kernel⟩, hh57⟩
  · injection h with h; subst h; exact ⟨⟨Try.f76, c76, Try.func76, by kernel_rfl, by decide +kernel⟩, hh76⟩
  · cases h
theorem hh24 : Holds Try.prog 24 Sm24 := holds24 gam24
end Go.Proofs.Ytpcohpkflkhfbaa.Rx.S
namespace Go.Proofs.Ytpcohpkflkhfbaa.Rx.S
open Go Go.RowKit Go.Proofs
set_option maxRecDepth 100000
noncomputable def c62 : Code := (Try.f62.body.getD .skip)
def an62 : An := ⟨fun _ => ⟨[], []⟩, fun _ _ => none⟩
abbrev ps62 : List PK := [.val i64 false, .val i64 false, .val i64 false]
abbrev rs62 : List RK := [.val .bool false]
abbrev R62 := retsD rs62 × outsD ps62
noncomputable def G62 : Gam := fun _ => none
theorem h0_62 (hg : GamOK Try.prog G62) : Holds Try.prog 62 ⟨ps62, rs62, false, runF TT G62 an62 Try.f62 c62 ps62 rs62⟩ := holds_of tt_ok hg mixed Try.func62 (by kernel_rfl) (by rfl) (by decide +kernel)
noncomputable def at62 : Nat → Pt → List Nat → St → Option R62 := atF TT G62 an62 Try.f62 c62 _ _
noncomputable def st62_top (n : Nat)  (a : Int) (b : Int) (c : Int) : Option R62 :=
  cond (decide (b ≤ a)) (some ((decide (a ≤ c), ()), ())) (some ((false, ()), ()))
theorem e62_top (n : Nat) (a : Int) (b : Int) (c : Int) : runF TT G62 an62 Try.f62 c62 ps62 rs62 n (a, b, c, ()) = st62_top n  a b c := by kernel_rfl
noncomputable def p62 (n : Nat) (a : Int) (b : Int) (c : Int) : Option R62 := st62_top n  a b c
theorem F62_eq (n : Nat) (a : Int) (b : Int) (c : Int) : runF TT G62 an62 Try.f62 c62 ps62 rs62 n (a, b, c, ()) = p62 n a b c := by
  rw [e62_top]
  skip
  try rfl
noncomputable def q62 (n : Nat) (x : argsD ps62) : Option R62 := p62 n x.1 x.2.1 x.2.2.1
noncomputable def Sm62 : Sm := ⟨ps62, rs62, false, q62⟩
theorem holds62 (hg : GamOK Try.prog G62) : Holds Try.prog 62 Sm62 := by
  have := h0_62 hg
  have e : (runF TT G62 an62 Try.f62 c62 ps62 rs62) = q62 := by
    funext n x
    exact F62_eq n x.1 x.2.1 x.2.2.1
  rw [e] at this
  exact this
theorem gam62 : GamOK Try.prog G62 := fun _ _ h => by cases h
theorem hh62 : Holds Try.prog 62 Sm62 := holds62 gam62
end Go.Proofs.Ytpcohpkflkhfbaa.Rx.S
namespace Go.Proofs.Ytpcohpkflkhfbaa.Rx.S
open Go Go.RowKit Go.Proofs
set_option maxRecDepth 100000
noncomputable def c111 : Code := (Try.f111.body.getD .skip)
def an111 : An := ⟨fun r => match r with | 2 => ⟨[0, 1, 7, 8], []⟩ | _ => ⟨[], []⟩, fun _ _ => none⟩
abbrev ps111 : List PK := [.val (.row 3 i64) false, .val i64 false]
abbrev rs111 : List RK := [.val i64 false]
abbrev R111 := retsD rs111 × outsD ps111
noncomputable def G111 : Gam := fun _ => none
theorem h0_111 (hg : GamOK Try.prog G111) : Holds Try.prog 111 ⟨ps111, rs111, false, runF TT G111 an111 Try.f111 c111 ps111 rs111⟩ := holds_of tt_ok hg mixed Try.func111 (by kernel_rfl) (by rfl) (by decide +kernel)
noncomputable def at111 : Nat → Pt → List Nat → St → Option R111 := atF TT G111 an111 Try.f111 c111 _ _
def sh111_L2 (x0 : List Int) (x1 : Int) (x2 : Int) (x3 : Int) : St := (Go.Proofs.Ytpcohpkflkhfbaa.Rx.St.mk ((Go.Proofs.Ytpcohpkflkhfbaa.Rx.AV.one (Go.Proofs.Ytpcohpkflkhfbaa.Rx.SV.con (⟨3, Go.Proofs.Ytpcohpkflkhfbaa.Rx.Ty.int Go.IntKind.i64, x0⟩ : Rw))) :: ((Go.Proofs.Ytpcohpkflkhfbaa.Rx.AV.one (Go.Proofs.Ytpcohpkflkhfbaa.Rx.SV.int (Go.IntKind.i64) x1)) :: (Go.Proofs.Ytpcohpkflkhfbaa.Rx.AV.undef :: (Go.Proofs.Ytpcohpkflkhfbaa.Rx.AV.undef :: (Go.Proofs.Ytpcohpkflkhfbaa.Rx.AV.undef :: (Go.Proofs.Ytpcohpkflkhfbaa.Rx.AV.undef :: (Go.Proofs.Ytpcohpkflkhfbaa.Rx.AV.undef :: ((Go.Proofs.Ytpcohpkflkhfbaa.Rx.AV.one (Go.Proofs.Ytpcohpkflkhfbaa.Rx.SV.int (Go.IntKind.i64) x2)) :: ((Go.Proofs.Ytpcohpkflkhfbaa.Rx.AV.one (Go.Proofs.Ytpcohpkflkhfbaa.Rx.SV.int (Go.IntKind.i64) x3)) :: (Go.Proofs.Ytpcohpkflkhfbaa.Rx.AV.undef :: (Go.Proofs.Ytpcohpkflkhfbaa.Rx.AV.undef :: (Go.Proofs.Ytpcohpkflkhfbaa.Rx.AV.undef :: (Go.Proofs.Ytpcohpkflkhfbaa.Rx.AV.undef :: (Go.Proofs.Ytpcohpkflkhfbaa.Rx.AV.undef :: (Go.Proofs.Ytpcohpkflkhfbaa.Rx.AV.undef :: (Go.Proofs.Ytpcohpkflkhfbaa.Rx.AV.undef :: (Go.Proofs.Ytpcohpkflkhfbaa.Rx.AV.undef :: (Go.Proofs.Ytpcohpkflkhfbaa.Rx.AV.undef :: (Go.Proofs.Ytpcohpkflkhfbaa.Rx.AV.undef :: []))))))))))))))))))) [])
noncomputable def st111_top (n : Nat) (lL2 : (List Int) → Int → Int → Int → Option R111) (a : List Int) (b : Int) : Option R111 :=
  lL2 (a) (b) ((↑a.length : Int)) ((0 : Int))
noncomputable def st111_L2 (n : Nat) (lL2 : (List Int) → Int → Int → Int → Option R111) (x0 : List Int) (x1 : Int) (x2 : Int) (x3 : Int) : Option R111 :=
  cond (decide (x3 < x2)) (cond (decide ((0 : Int) ≤ x3)) (cond (decide (x3 < (↑x0.length : Int))) (cond (decide (x1 = x0.getD x3.toNat (0 : Int))) (some ((x3, ()), ())) (lL2 (x0) (x1) (x2) (Go.IntKind.i64.wrap (x3 + (1 : Int))))) (none)) (none)) (some (((-1 : Int), ()), ()))
theorem e111_top (n : Nat) (a : List Int) (b : Int) : runF TT G111 an111 Try.f111 c111 ps111 rs111 n (a, b, ()) = st111_top n (fun x0 x1 x2 x3 => at111 n (.head 2) [n] (sh111_L2 x0 x1 x2 x3)) a b := by kernel_rfl
theorem e111_L2_0 (n : Nat) (x0 : List Int) (x1 : Int) (x2 : Int) (x3 : Int) : at111 n (.head 2) [0] (sh111_L2 x0 x1 x2 x3) = none := by kernel_rfl
theorem e111_L2 (n : Nat) (m2 : Nat) (x0 : List Int) (x1 : Int) (x2 : Int) (x3 : Int) : at111 n (.head 2) [m2 + 1] (sh111_L2 x0 x1 x2 x3) = st111_L2 n (fun x0 x1 x2 x3 => at111 n (.head 2) [m2] (sh111_L2 x0 x1 x2 x3)) x0 x1 x2 x3 := by kernel_rfl
noncomputable def p111_L2 (n : Nat) : Nat → (List Int) → Int → Int → Int → Option R111
  | 0, _, _, _, _ => none
  | m + 1, x0, x1, x2, x3 => st111_L2 n (p111_L2 n m) x0 x1 x2 x3
noncomputable def p111 (n : Nat) (a : List Int) (b : Int) : Option R111 := st111_top n (p111_L2 n n) a b
theorem t111_L2 (n : Nat) : ∀ (m2 : Nat) (x0 : List Int) (x1 : Int) (x2 : Int) (x3 : Int), at111 n (.head 2) [m2] (sh111_L2 x0 x1 x2 x3) = p111_L2  n m2 x0 x1 x2 x3 := by
  intro m
  induction m with
  | zero => intros; rw [e111_L2_0]; rfl
  | succ m ih =>
    intros
    rw [e111_L2]
    simp only [ih]
    rfl
theorem F111_eq (n : Nat) (a : List Int) (b : Int) : runF TT G111 an111 Try.f111 c111 ps111 rs111 n (a, b, ()) = p111 n a b := by
  rw [e111_top]
  simp only [t111_L2]
  try rfl
noncomputable def q111 (n : Nat) (x : argsD ps111) : Option R111 := p111 n x.1 x.2.1
noncomputable def Sm111 : Sm := ⟨ps111, rs111, false, q111⟩
theorem holds111 (hg : GamOK Try.prog G111) : Holds Try.prog 111 Sm111 := by
  have := h0_111 hg
  have e : (runF TT G111 an111 Try.f111 c111 ps111 rs111) = q111 := by
    funext n x
    exact F111_eq n x.1 x.2.1
  rw [e] at this
  exact this
theorem gam111 : GamOK Try.prog G111 := fun _ _ h => by cases h
theorem hh111 : Holds Try.prog 111 Sm111 := holds111 gam111
end Go.Proofs.Ytpcohpkflkhfbaa.Rx.S
namespace Go.Proofs.Ytpcohpkflkhfbaa.Rx.S
open Go Go.RowKit Go.Proofs
set_option maxRecDepth 100000
noncomputable def c75 : Code := (Try.f75.body.getD .skip)
def an75 : An := ⟨fun _ => ⟨[], []⟩, fun _ _ => none⟩
abbrev ps75 : List PK := [.val (.row 3 i64) false, .val i64 false]
abbrev rs75 : List RK := [.val .bool false]
abbrev R75 := retsD rs75 × outsD ps75
noncomputable def G75 : Gam := fun f => match f with | 111 => some Sm111 | _ => none
theorem h0_75 (hg : GamOK Try.prog G75) : Holds Try.prog 75 ⟨ps75, rs75, false, runF TT G75 an75 Try.f75 c75 ps75 rs75⟩ := holds_of tt_ok hg mixed Try.func75 (by kernel_rfl) (by rfl) (by decide +kernel)
noncomputable def at75 : Nat → Pt → List Nat → St → Option R75 := atF TT G75 an75 Try.f75 c75 _ _
noncomputable def st75_top (n : Nat)  (a : List Int) (b : Int) : Option R75 :=
  (Go.Proofs.Ytpcohpkflkhfbaa.Rx.S.q111 n (a, b, ())).bind fun r0 => some ((decide ((0 : Int) ≤ r0.fst.fst), ()), ())
theorem e75_top (n : Nat) (a : List Int) (b : Int) : runF TT G75 an75 Try.f75 c75 ps75 rs75 n (a, b, ()) = st75_top n  a b := by kernel_rfl
noncomputable def p75 (n : Nat) (a : List Int) (b : Int) : Option R75 := st75_top n  a b
theorem F75_eq (n : Nat) (a : List Int) (b : Int) : runF TT G75 an75 Try.f75 c75 ps75 rs75 n (a, b, ()) = p75 n a b := by
  rw [e75_top]
  skip
  try rfl
noncomputable def q75 (n : Nat) (x : argsD ps75) : Option R75 := p75 n x.1 x.2.1
noncomputable def Sm75 : Sm := ⟨ps75, rs75, false, q75⟩
theorem holds75 (hg : GamOK Try.prog G75) : Holds Try.prog 75 Sm75 := by
  have := h0_75 hg
  have e : (runF TT G75 an75 Try.f75 c75 ps75 rs75) = q75 := by
    funext n x
    exact F75_eq n x.1 x.2.1
  rw [e] at this
  exact this
theorem gam75 : GamOK Try.prog G75 := by
  intro f s h
  unfold G75 at h
  split at h
  · injection h with h; subst h; exact ⟨⟨Try.f111, c111, Try.func111, by kernel_rfl, by decide +kernel⟩, hh111⟩
  · cases h
theorem hh75 : Holds Try.prog 75 Sm75 := holds75 gam75
end Go.Proofs.Ytpcohpkflkhfbaa.Rx.S
namespace Go.Proofs.Ytpcohpkflkhfbaa.Rx.S
open Go Go.RowKit Go.Proofs
set_option maxRecDepth 100000
noncomputable def c23 : Code := (Try.f23.body.getD .skip)
def an23 : An := ⟨fun r => match r with | 5 => ⟨[1, 3, 18, 19, 20], []⟩ | _ => ⟨[], []⟩, fun _ _ => none⟩
abbrev ps23 : List PK := [.val tLock true]
abbrev rs23 : List RK := [.val .bool false]
abbrev R23 := retsD rs23 × outsD ps23
noncomputable def G23 : Gam := fun f => match f with | 62 => some Sm62 | 75 => some Sm75 | _ => none
theorem h0_23 (hg : GamOK Try.prog G23) : Holds Try.prog 23 ⟨ps23, rs23, false, runF TT G23 an23 Try.f23 c23 ps23 rs23⟩ := holds_of tt_ok hg mixed Try.func23 (by kernel_rfl) (by rfl) (by decide +kernel)
noncomputable def at23 : Nat → Pt → List Nat → St → Option R23 := atF TT G23 an23 Try.f23 c23 _ _
def sh23_L5 (x0 : Int) (x1 : List (Int × Int × Int × Bool)) (x2 : Int) (x3 : Int) (x4 : Int) (x5 : List (Int × Int × Int × Bool)) (x6 : List Int) : St := (Go.Proofs.Ytpcohpkflkhfbaa.Rx.St.mk (Go.Proofs.Ytpcohpkflkhfbaa.Rx.AV.undef :: ((Go.Proofs.Ytpcohpkflkhfbaa.Rx.AV.one (Go.Proofs.Ytpcohpkflkhfbaa.Rx.SV.bptr 1000000 0)) :: (Go.Proofs.Ytpcohpkflkhfbaa.Rx.AV.undef :: ((Go.Proofs.Ytpcohpkflkhfbaa.Rx.AV.one (Go.Proofs.Ytpcohpkflkhfbaa.Rx.SV.int (Go.IntKind.i64) x0)) :: (Go.Proofs.Ytpcohpkflkhfbaa.Rx.AV.undef :: (Go.Proofs.Ytpcohpkflkhfbaa.Rx.AV.undef :: (Go.Proofs.Ytpcohpkflkhfbaa.Rx.AV.undef :: (Go.Proofs.Ytpcohpkflkhfbaa.Rx.AV.undef :: (Go.Proofs.Ytpcohpkflkhfbaa.Rx.AV.undef :: (Go.Proofs.Ytpcohpkflkhfbaa.Rx.AV.undef :: (Go.Proofs.Ytpcohpkflkhfbaa.Rx.AV.undef :: (Go.Proofs.Ytpcohpkflkhfbaa.Rx.AV.undef :: (Go.Proofs.Ytpcohpkflkhfbaa.Rx.AV.undef :: (Go.Proofs.Ytpcohpkflkhfbaa.Rx.AV.undef :: (Go.Proofs.Ytpcohpkflkhfbaa.Rx.AV.undef :: (Go.Proofs.Ytpcohpkflkhfbaa.Rx.AV.undef :: (Go.Proofs.Ytpcohpkflkhfbaa.Rx.AV.undef :: (Go.Proofs.Ytpcohpkflkhfbaa.Rx.AV.undef :: ((Go.Proofs.Ytpcohpkflkhfbaa.Rx.AV.one (Go.Proofs.Ytpcohpkflkhfbaa.Rx.SV.con (⟨51, (Go.Proofs.Ytpcohpkflkhfbaa.Rx.Ty.int Go.IntKind.i64).pair   ((Go.Proofs.Ytpcohpkflkhfbaa.Rx.Ty.int Go.IntKind.i64).pair ((Go.Proofs.Ytpcohpkflkhfbaa.Rx.Ty.int Go.IntKind.i64).pair Go.Proofs.Ytpcohpkflkhfbaa.Rx.Ty.bool)), x1⟩ : Rw))) :: ((Go.Proofs.Ytpcohpkflkhfbaa.Rx.AV.one (Go.Proofs.Ytpcohpkflkhfbaa.Rx.SV.int (Go.IntKind.i64) x2)) :: ((Go.Proofs.Ytpcohpkflkhfbaa.Rx.AV.one (Go.Proofs.Ytpcohpkflkhfbaa.Rx.SV.int (Go.IntKind.i64) x3)) :: (Go.Proofs.Ytpcohpkflkhfbaa.Rx.AV.undef :: (Go.Proofs.Ytpcohpkflkhfbaa.Rx.AV.undef :: (Go.Proofs.Ytpcohpkflkhfbaa.Rx.AV.undef :: (Go.Proofs.Ytpcohpkflkhfbaa.Rx.AV.undef :: (Go.Proofs.Ytpcohpkflkhfbaa.Rx.AV.undef :: (Go.Proofs.Ytpcohpkflkhfbaa.Rx.AV.undef :: (Go.Proofs.Ytpcohpkflkhfbaa.Rx.AV.undef :: (Go.Proofs.Ytpcohpkflkhfbaa.Rx.AV.undef :: (Go.Proofs.Ytpcohpkflkhfbaa.Rx.AV.undef :: (Go.Proofs.Ytpcohpkflkhfbaa.Rx.AV.undef :: (Go.Proofs.Ytpcohpkflkhfbaa.Rx.AV.undef :: (Go.Proofs.Ytpcohpkflkhfbaa.Rx.AV.undef :: (Go.Proofs.Ytpcohpkflkhfbaa.Rx.AV.undef :: (Go.Proofs.Ytpcohpkflkhfbaa.Rx.AV.undef :: (Go.Proofs.Ytpcohpkflkhfbaa.Rx.AV.undef :: (Go.Proofs.Ytpcohpkflkhfbaa.Rx.AV.undef :: (Go.Proofs.Ytpcohpkflkhfbaa.Rx.AV.undef :: (Go.Proofs.Ytpcohpkflkhfbaa.Rx.AV.undef :: (Go.Proofs.Ytpcohpkflkhfbaa.Rx.AV.undef :: (Go.Proofs.Ytpcohpkflkhfbaa.Rx.AV.undef :: (Go.Proofs.Ytpcohpkflkhfbaa.Rx.AV.undef :: (Go.Proofs.Ytpcohpkflkhfbaa.Rx.AV.undef :: (Go.Proofs.Ytpcohpkflkhfbaa.Rx.AV.undef :: (Go.Proofs.Ytpcohpkflkhfbaa.Rx.AV.undef :: (Go.Proofs.Ytpcohpkflkhfbaa.Rx.AV.undef :: (Go.Proofs.Ytpcohpkflkhfbaa.Rx.AV.undef :: (Go.Proofs.Ytpcohpkflkhfbaa.Rx.AV.undef :: (Go.Proofs.Ytpcohpkflkhfbaa.Rx.AV.undef :: (Go.Proofs.Ytpcohpkflkhfbaa.Rx.AV.undef :: (Go.Proofs.Ytpcohpkflkhfbaa.Rx.AV.undef :: (Go.Proofs.Ytpcohpkflkhfbaa.Rx.AV.undef :: (Go.Proofs.Ytpcohpkflkhfbaa.Rx.AV.undef :: (Go.Proofs.Ytpcohpkflkhfbaa.Rx.AV.undef :: (Go.Proofs.Ytpcohpkflkhfbaa.Rx.AV.undef :: (Go.Proofs.Ytpcohpkflkhfbaa.Rx.AV.undef :: (Go.Proofs.Ytpcohpkflkhfbaa.Rx.AV.undef :: (Go.Proofs.Ytpcohpkflkhfbaa.Rx.AV.undef :: (Go.Proofs.Ytpcohpkflkhfbaa.Rx.AV.undef :: (Go.Proofs.Ytpcohpkflkhfbaa.Rx.AV.undef :: (Go.Proofs.Ytpcohpkflkhfbaa.Rx.AV.undef :: (Go.Proofs.Ytpcohpkflkhfbaa.Rx.AV.undef :: (Go.Proofs.Ytpcohpkflkhfbaa.Rx.AV.undef :: (Go.Proofs.Ytpcohpkflkhfbaa.Rx.AV.undef :: (Go.Proofs.Ytpcohpkflkhfbaa.Rx.AV.undef :: (Go.Proofs.Ytpcohpkflkhfbaa.Rx.AV.undef :: (Go.Proofs.Ytpcohpkflkhfbaa.Rx.AV.undef :: (Go.Proofs.Ytpcohpkflkhfbaa.Rx.AV.undef :: (Go.Proofs.Ytpcohpkflkhfbaa.Rx.AV.undef :: (Go.Proofs.Ytpcohpkflkhfbaa.Rx.AV.undef :: (Go.Proofs.Ytpcohpkflkhfbaa.Rx.AV.undef :: (Go.Proofs.Ytpcohpkflkhfbaa.Rx.AV.undef :: (Go.Proofs.Ytpcohpkflkhfbaa.Rx.AV.undef :: (Go.Proofs.Ytpcohpkflkhfbaa.Rx.AV.undef :: (Go.Proofs.Ytpcohpkflkhfbaa.Rx.AV.undef :: (Go.Proofs.Ytpcohpkflkhfbaa.Rx.AV.undef :: (Go.Proofs.Ytpcohpkflkhfbaa.Rx.AV.undef :: (Go.Proofs.Ytpcohpkflkhfbaa.Rx.AV.undef :: (Go.Proofs.Ytpcohpkflkhfbaa.Rx.AV.undef :: (Go.Proofs.Ytpcohpkflkhfbaa.Rx.AV.undef :: (Go.Proofs.Ytpcohpkflkhfbaa.Rx.AV.undef :: (Go.Proofs.Ytpcohpkflkhfbaa.Rx.AV.undef :: (Go.Proofs.Ytpcohpkflkhfbaa.Rx.AV.undef :: (Go.Proofs.Ytpcohpkflkhfbaa.Rx.AV.undef :: (Go.Proofs.Ytpcohpkflkhfbaa.Rx.AV.undef :: (Go.Proofs.Ytpcohpkflkhfbaa.Rx.AV.undef :: (Go.Proofs.Ytpcohpkflkhfbaa.Rx.AV.undef :: []))))))))))))))))))))))))))))))))))))))))))))))))))))))))))))))))))))))))))))))))))))))) ((1000000, (Go.Proofs.Ytpcohpkflkhfbaa.Rx.Ent.box ((Go.Proofs.Ytpcohpkflkhfbaa.Rx.SV.int (Go.IntKind.i64) x4) :: ((Go.Proofs.Ytpcohpkflkhfbaa.Rx.SV.con (⟨51, (Go.Proofs.Ytpcohpkflkhfbaa.Rx.Ty.int Go.IntKind.i64).pair   ((Go.Proofs.Ytpcohpkflkhfbaa.Rx.Ty.int Go.IntKind.i64).pair ((Go.Proofs.Ytpcohpkflkhfbaa.Rx.Ty.int Go.IntKind.i64).pair Go.Proofs.Ytpcohpkflkhfbaa.Rx.Ty.bool)), x5⟩ : Rw)) :: ((Go.Proofs.Ytpcohpkflkhfbaa.Rx.SV.con (⟨3, Go.Proofs.Ytpcohpkflkhfbaa.Rx.Ty.int Go.IntKind.i64, x6⟩ : Rw)) :: []))))) :: []))
noncomputable def st23_top (n : Nat) (lL5 : Int → (List (Int × Int × Int × Bool)) → Int → Int → Int → (List (Int × Int × Int × Bool)) → (List Int) → Option R23) (a : Int × List (Int × Int × Int × Bool) × List Int) : Option R23 :=
  (Go.Proofs.Ytpcohpkflkhfbaa.Rx.S.q62 n (a.fst, (0 : Int), (2 : Int), ())).bind fun r0 => cond (!r0.fst.fst) (some ((false, ()), ())) ((Go.Proofs.Ytpcohpkflkhfbaa.Rx.S.q62 n ((↑(List.length a.snd.fst) : Int), (1 : Int), (4 : Int), ())).bind fun r1 => cond (!r1.fst.fst) (some ((false, ()), ())) (lL5 ((0 : Int)) (a.snd.fst) ((↑(List.length a.snd.fst) : Int)) ((0 : Int)) (a.fst) (a.snd.fst) (a.snd.snd)))
noncomputable def st23_L5 (n : Nat) (lL5 : Int → (List (Int × Int × Int × Bool)) → Int → Int → Int → (List (Int × Int × Int × Bool)) → (List Int) → Option R23) (x0 : Int) (x1 : List (Int × Int × Int × Bool)) (x2 : Int) (x3 : Int) (x4 : Int) (x5 : List (Int × Int × Int × Bool)) (x6 : List Int) : Option R23 :=
  cond (decide (x3 < x2)) (cond (decide ((0 : Int) ≤ x3)) (cond (decide (x3 < (↑x1.length : Int))) ((Go.Proofs.Ytpcohpkflkhfbaa.Rx.S.q62 n ((x1.getD x3.toNat ((0 : Int), (0 : Int), (0 : Int), false)).fst, (0 : Int), (6 : Int), ())).bind fun r3 => cond (!r3.fst.fst) (some ((false, ()), ())) ((Go.Proofs.Ytpcohpkflkhfbaa.Rx.S.q62 n ((x1.getD x3.toNat ((0 : Int), (0 : Int), (0 : Int), false)).snd.fst, (0 : Int), (2 : Int), ())).bind fun r4 => cond (!r4.fst.fst) (some ((false, ()), ())) (cond (decide ((0 : Int) < (x1.getD x3.toNat ((0 : Int), (0 : Int), (0 : Int), false)).snd.fst)) (cond (!decide ((x1.getD x3.toNat ((0 : Int), (0 : Int), (0 : Int), false)).fst = (1 : Int))) (some ((false, ()), ())) ((Go.Proofs.Ytpcohpkflkhfbaa.Rx.S.q62 n ((x1.getD x3.toNat ((0 : Int), (0 : Int), (0 : Int), false)).snd.snd.fst, (0 : Int), (3 : Int), ())).bind fun r5 => cond (!r5.fst.fst) (some ((false, ()), ())) (cond (decide ((0 : Int) < (x1.getD x3.toNat ((0 : Int), (0 : Int), (0 : Int), false)).fst)) (cond (decide ((x1.getD x3.toNat ((0 : Int), (0 : Int), (0 : Int), false)).snd.snd.fst = (0 : Int))) (some ((false, ()), ())) (cond ((x1.getD x3.toNat ((0 : Int), (0 : Int), (0 : Int), false)).snd.snd.snd) (cond (!decide ((x1.getD x3.toNat ((0 : Int), (0 : Int), (0 : Int), false)).fst = (3 : Int))) (some ((false, ()), ())) (cond ((x1.getD x3.toNat ((0 : Int), (0 : Int), (0 : Int), false)).snd.snd.snd) ((Go.Proofs.Ytpcohpkflkhfbaa.Rx.S.q75 n (x6, x3, ())).bind fun r6 => cond (!(x1.getD x3.toNat ((0 : Int), (0 : Int), (0 : Int), false)).snd.snd.snd == r6.fst.fst) (some ((false, ()), ())) (lL5 (Go.IntKind.i64.wrap (x0 + (1 : Int))) (x1) (x2) (Go.IntKind.i64.wrap (x3 + (1 : Int))) (x4) (x5) (x6))) ((Go.Proofs.Ytpcohpkflkhfbaa.Rx.S.q75 n (x6, x3, ())).bind fun r7 => cond (!(x1.getD x3.toNat ((0 : Int), (0 : Int), (0 : Int), false)).snd.snd.snd == r7.fst.fst) (some ((false, ()), ())) (lL5 (x0) (x1) (x2) (Go.IntKind.i64.wrap (x3 + (1 : Int))) (x4) (x5) (x6))))) (cond ((x1.getD x3.toNat ((0 : Int), (0 : Int), (0 : Int), false)).snd.snd.snd) ((Go.Proofs.Ytpcohpkflkhfbaa.Rx.S.q75 n (x6, x3, ())).bind fun r8 => cond (!(x1.getD x3.toNat ((0 : Int), (0 : Int), (0 : Int), false)).snd.snd.snd == r8.fst.fst) (some ((false, ()), ())) (lL5 (Go.IntKind.i64.wrap (x0 + (1 : Int))) (x1) (x2) (Go.IntKind.i64.wrap (x3 + (1 : Int))) (x4) (x5) (x6))) ((Go.Proofs.Ytpcohpkflkhfbaa.Rx.S.q75 n (x6, x3, ())).bind fun r9 => cond (!(x1.getD x3.toNat ((0 : Int), (0 : Int), (0 : Int), false)).snd.snd.snd == r9.fst.fst) (some ((false, ()), ())) (lL5 (x0) (x1) (x2) (Go.IntKind.i64.wrap (x3 + (1 : Int))) (x4) (x5) (x6)))))) (cond ((x1.getD x3.toNat ((0 : Int), (0 : Int), (0 : Int), false)).snd.snd.snd) (cond (!decide ((x1.getD x3.toNat ((0 : Int), (0 : Int), (0 : Int), false)).fst = (3 : Int))) (some ((false, ()), ())) (cond ((x1.getD x3.toNat ((0 : Int), (0 : Int), (0 : Int), false)).snd.snd.snd) ((Go.Proofs.Ytpcohpkflkhfbaa.Rx.S.q75 n (x6, x3, ())).bind fun r10 => cond (!(x1.getD x3.toNat ((0 : Int), (0 : Int), (0 : Int), false)).snd.snd.snd == r10.fst.fst) (some ((false, ()), ())) (lL5 (Go.IntKind.i64.wrap (x0 + (1 : Int))) (x1) (x2) (Go.IntKind.i64.wrap (x3 + (1 : Int))) (x4) (x5) (x6))) ((Go.Proofs.Ytpcohpkflkhfbaa.Rx.S.q75 n (x6, x3, ())).bind fun r11 => cond (!(x1.getD x3.toNat ((0 : Int), (0 : Int), (0 : Int), false)).snd.snd.snd == r11.fst.fst) (some ((false, ()), ())) (lL5 (x0) (x1) (x2) (Go.IntKind.i64.wrap (x3 + (1 : Int))) (x4) (x5) (x6))))) (cond ((x1.getD x3.toNat ((0 : Int), (0 : Int), (0 : Int), false)).snd.snd.snd) ((Go.Proofs.Ytpcohpkflkhfbaa.Rx.S.q75 n (x6, x3, ())).bind fun r12 => cond (!(x1.getD x3.toNat ((0 : Int), (0 : Int), (0 : Int), false)).snd.snd.snd == r12.fst.fst) (some ((false, ()), ())) (lL5 (Go.IntKind.i64.wrap (x0 + (1 : Int))) (x1) (x2) (Go.IntKind.i64.wrap (x3 + (1 : Int))) (x4) (x5) (x6))) ((Go.Proofs.Ytpcohpkflkhfbaa.Rx.S.q75 n (x6, x3, ())).bind fun r13 => cond (!(x1.getD x3.toNat ((0 : Int), (0 : Int), (0 : Int), false)).snd.snd.snd == r13.fst.fst) (some ((false, ()), ())) (lL5 (x0) (x1) (x2) (Go.IntKind.i64.wrap (x3 + (1 : Int))) (x4) (x5) (x6)))))))) ((Go.Proofs.Ytpcohpkflkhfbaa.Rx.S.q62 n ((x1.getD x3.toNat ((0 : Int), (0 : Int), (0 : Int), false)).snd.snd.fst, (0 : Int), (3 : Int), ())).bind fun r14 => cond (!r14.fst.fst) (some ((false, ()), ())) (cond (decide ((0 : Int) < (x1.getD x3.toNat ((0 : Int), (0 : Int), (0 : Int), false)).fst)) (cond (decide ((x1.getD x3.toNat ((0 : Int), (0 : Int), (0 : Int), false)).snd.snd.fst = (0 : Int))) (some ((false, ()), ())) (cond ((x1.getD x3.toNat ((0 : Int), (0 : Int), (0 : Int), false)).snd.snd.snd) (cond (!decide ((x1.getD x3.toNat ((0 : Int), (0 : Int), (0 : Int), false)).fst = (3 : Int))) (some ((false, ()), ())) (cond ((x1.getD x3.toNat ((0 : Int), (0 : Int), (0 : Int), false)).snd.snd.snd) ((Go.Proofs.Ytpcohpkflkhfbaa.Rx.S.q75 n (x6, x3, ())).bind fun r15 => cond (!(x1.getD x3.toNat ((0 : Int), (0 : Int), (0 : Int), false)).snd.snd.snd == r15.fst.fst) (some ((false, ()), ())) (lL5 (Go.IntKind.i64.wrap (x0 + (1 : Int))) (x1) (x2) (Go.IntKind.i64.wrap (x3 + (1 : Int))) (x4) (x5) (x6))) ((Go.Proofs.Ytpcohpkflkhfbaa.Rx.S.q75 n (x6, x3, ())).bind fun r16 => cond (!(x1.getD x3.toNat ((0 : Int), (0 : Int), (0 : Int), false)).snd.snd.snd == r16.fst.fst) (some ((false, ()), ())) (lL5 (x0) (x1) (x2) (Go.IntKind.i64.wrap (x3 + (1 : Int))) (x4) (x5) (x6))))) (cond ((x1.getD x3.toNat ((0 : Int), (0 : Int), (0 : Int), false)).snd.snd.snd) ((Go.Proofs.Ytpcohpkflkhfbaa.Rx.S.q75 n (x6, x3, ())).bind fun r17 => cond (!(x1.getD x3.toNat ((0 : Int), (0 : Int), (0 : Int), false)).snd.snd.snd == r17.fst.fst) (some ((false, ()), ())) (lL5 (Go.IntKind.i64.wrap (x0 + (1 : Int))) (x1) (x2) (Go.IntKind.i64.wrap (x3 + (1 : Int))) (x4) (x5) (x6))) ((Go.Proofs.Ytpcohpkflkhfbaa.Rx.S.q75 n (x6, x3, ())).bind fun r18 => cond (!(x1.getD x3.toNat ((0 : Int), (0 : Int), (0 : Int), false)).snd.snd.snd == r18.fst.fst) (some ((false, ()), ())) (lL5 (x0) (x1) (x2) (Go.IntKind.i64.wrap (x3 + (1 : Int))) (x4) (x5) (x6)))))) (cond ((x1.getD x3.toNat ((0 : Int), (0 : Int), (0 : Int), false)).snd.snd.snd) (cond (!decide ((x1.getD x3.toNat ((0 : Int), (0 : Int), (0 : Int), false)).fst = (3 : Int))) (some ((false, ()), ())) (cond ((x1.getD x3.toNat ((0 : Int), (0 : Int), (0 : Int), false)).snd.snd.snd) ((Go.Proofs.Ytpcohpkflkhfbaa.Rx.S.q75 n (x6, x3, ())).bind fun r19 => cond (!(x1.getD x3.toNat ((0 : Int), (0 : Int), (0 : Int), false)).snd.snd.snd == r19.fst.fst) (some ((false, ()), ())) (lL5 (Go.IntKind.i64.wrap (x0 + (1 : Int))) (x1) (x2) (Go.IntKind.i64.wrap (x3 + (1 : Int))) (x4) (x5) (x6))) ((Go.Proofs.Ytpcohpkflkhfbaa.Rx.S.q75 n (x6, x3, ())).bind fun r20 => cond (!(x1.getD x3.toNat ((0 : Int), (0 : Int), (0 : Int), false)).snd.snd.snd == r20.fst.fst) (some ((false, ()), ())) (lL5 (x0) (x1) (x2) (Go.IntKind.i64.wrap (x3 + (1 : Int))) (x4) (x5) (x6))))) (cond ((x1.getD x3.toNat ((0 : Int), (0 : Int), (0 : Int), false)).snd.snd.snd) ((Go.Proofs.Ytpcohpkflkhfbaa.Rx.S.q75 n (x6, x3, ())).bind fun r21 => cond (!(x1.getD x3.toNat ((0 : Int), (0 : Int), (0 : Int), false)).snd.snd.snd == r21.fst.fst) (some ((false, ()), ())) (lL5 (Go.IntKind.i64.wrap (x0 + (1 : Int))) (x1) (x2) (Go.IntKind.i64.wrap (x3 + (1 : Int))) (x4) (x5) (x6))) ((Go.Proofs.Ytpcohpkflkhfbaa.Rx.S.q75 n (x6, x3, ())).bind fun r22 => cond (!(x1.getD x3.toNat ((0 : Int), (0 : Int), (0 : Int), false)).snd.snd.snd == r22.fst.fst) (some ((false, ()), ())) (lL5 (x0) (x1) (x2) (Go.IntKind.i64.wrap (x3 + (1 : Int))) (x4) (x5) (x6)))))))))) (none)) (none)) (some ((decide (x0 = (↑x6.length : Int)), ()), ()))
theorem e23_top (n : Nat) (a : Int × List (Int × Int × Int × Bool) × List Int) : runF TT G23 an23 Try.f23 c23 ps23 rs23 n (a, ()) = st23_top n (fun x0 x1 x2 x3 x4 x5 x6 => at23 n (.head 5) [n] (sh23_L5 x0 x1 x2 x3 x4 x5 x6)) a := by kernel_rfl
theorem e23_L5_0 (n : Nat) (x0 : Int) (x1 : List (Int × Int × Int × Bool)) (x2 : Int) (x3 : Int) (x4 : Int) (x5 : List (Int × Int × Int × Bool)) (x6 : List Int) : at23 n (.head 5) [0] (sh23_L5 x0 x1 x2 x3 x4 x5 x6) = none := by kernel_rfl
theorem e23_L5 (n : Nat) (m5 : Nat) (x0 : Int) (x1 : List (Int × Int × Int × Bool)) (x2 : Int) (x3 : Int) (x4 : Int) (x5 : List (Int × Int × Int × Bool)) (x6 : List Int) : at23 n (.head 5) [m5 + 1] (sh23_L5 x0 x1 x2 x3 x4 x5 x6) = st23_L5 n (fun x0 x1 x2 x3 x4 x5 x6 => at23 n (.head 5) [m5] (sh23_L5 x0 x1 x2 x3 x4 x5 x6)) x0 x1 x2 x3 x4 x5 x6 := by kernel_rfl
noncomputable def p23_L5 (n : Nat) : Nat → Int → (List (Int × Int × Int × Bool)) → Int → Int → Int → (List (Int × Int × Int × Bool)) → (List Int) → Option R23
  | 0, _, _, _, _, _, _, _ => none
  | m + 1, x0, x1, x2, x3, x4, x5, x6 => st23_L5 n (p23_L5 n m) x0 x1 x2 x3 x4 x5 x6
noncomputable def p23 (n : Nat) (a : Int × List (Int × Int × Int × Bool) × List Int) : Option R23 := st23_top n (p23_L5 n n) a
theorem t23_L5 (n : Nat) : ∀ (m5 : Nat) (x0 : Int) (x1 : List (Int × Int × Int × Bool)) (x2 : Int) (x3 : Int) (x4 : Int) (x5 : List (Int × Int × Int × Bool)) (x6 : List Int), at23 n (.head 5) [m5] (sh23_L5 x0 x1 x2 x3 x4 x5 x6) = p23_L5  n m5 x0 x1 x2 x3 x4 x5 x6 := by
  intro m
  induction m with
  | zero => intros; rw [e23_L5_0]; rfl
  | succ m ih =>
    intros
    rw [e23_L5]
    simp only [ih]
    rfl
theorem F23_eq (n : Nat) (a : Int × List (Int × Int × Int × Bool) × List Int) : runF TT G23 an23 Try.f23 c23 ps23 rs23 n (a, ()) = p23 n a := by
  rw [e23_top]
  simp only [t23_L5]
  try rfl
noncomputable def q23 (n : Nat) (x : argsD ps23) : Option R23 := p23 n x.1
noncomputable def Sm23 : Sm := ⟨ps23, rs23, false, q23⟩
theorem holds23 (hg : GamOK Try.prog G23) : Holds Try.prog 23 Sm23 := by
  have := h0_23 hg
  have e : (runF TT G23 an23 Try.f23 c23 ps23 rs23) = q23 := by
    funext n x
    exact F23_eq n x.1
  rw [e] at this
  exact this
theorem gam23 : GamOK Try.prog G23 := by
  intro f s h
  unfold G23 at h
  split at h
  · injection h with h; subst h; exact ⟨⟨Try.f62, c62, Try.func62, by kernel_rfl, by decide +kernel⟩, hh62⟩
  · injection h with h; subst h; exact ⟨⟨Try.f75, c75, Try.func75, by kernel_rfl, by decide +kernel⟩, hh75⟩
  · cases h
theorem hh23 : Holds Try.prog 23 Sm23 := holds23 gam23
end Go.Proofs.Ytpcohpkflkhfbaa.Rx.S
namespace Go.Proofs.Ytpcohpkflkhfbaa.Rx.S
open Go Go.RowKit Go.Proofs
set_option maxRecDepth 100000
noncomputable def c84 : Code := (Try.f84.body.getD .skip)
def an84 : An := ⟨fun _ => ⟨[], []⟩, fun _ _ => none⟩
abbrev ps84 : List PK := [.own tLock true, .val i64 false]
abbrev rs84 : List RK := [.own tLock true]
abbrev R84 := retsD rs84 × outsD ps84
noncomputable def G84 : Gam := fun _ => none
theorem h0_84 (hg : GamOK Try.prog G84) : Holds Try.prog 84 ⟨ps84, rs84, false, runF TT G84 an84 Try.f84 c84 ps84 rs84⟩ := holds_of tt_ok hg mixed Try.func84 (by kernel_rfl) (by rfl) (by decide +kernel)
noncomputable def at84 : Nat → Pt → List Nat → St → Option R84 := atF TT G84 an84 Try.f84 c84 _ _
noncomputable def st84_top (n : Nat)  (a : Int × List (Int × Int × Int × Bool) × List Int) (b : Int) : Option R84 :=
  cond (decide ((0 : Int) ≤ b)) (cond (decide (b < (↑(List.length a.snd.fst) : Int))) (cond (decide ((List.getD a.snd.fst b.toNat ((0 : Int), (0 : Int), (0 : Int), false)).fst = (0 : Int))) (cond (decide (a.fst = (0 : Int))) (cond (decide ((0 : Int) ≤ b)) (cond (decide (b < (↑(List.length a.snd.fst) : Int))) (some (((Go.IntKind.i64.wrap   ((1 : Int) +     Go.IntKind.i64.wrap (Int.tdiv (List.getD a.snd.fst b.toNat ((0 : Int), (0 : Int), (0 : Int), false)).fst (3 : Int))), (List.set a.snd.fst b.toNat   ((4 : Int), (List.getD a.snd.fst b.toNat ((0 : Int), (0 : Int), (0 : Int), false)).snd.fst,     (List.getD a.snd.fst b.toNat ((0 : Int), (0 : Int), (0 : Int), false)).snd.snd.fst,     (List.getD a.snd.fst b.toNat ((0 : Int), (0 : Int), (0 : Int), false)).snd.snd.snd), a.snd.snd)), ()), ())) (none)) (none)) (cond (decide ((0 : Int) ≤ b)) (cond (decide (b < (↑(List.length a.snd.fst) : Int))) (some (((a.fst, (List.set a.snd.fst b.toNat   ((1 : Int), a.fst, (List.getD a.snd.fst b.toNat ((0 : Int), (0 : Int), (0 : Int), false)).snd.snd.fst,     (List.getD a.snd.fst b.toNat ((0 : Int), (0 : Int), (0 : Int), false)).snd.snd.snd), a.snd.snd)), ()), ())) (none)) (none))) (cond (decide ((List.getD a.snd.fst b.toNat ((0 : Int), (0 : Int), (0 : Int), false)).fst = (3 : Int))) (cond (decide (a.fst = (0 : Int))) (cond (decide ((0 : Int) ≤ b)) (cond (decide (b < (↑(List.length a.snd.fst) : Int))) (some (((Go.IntKind.i64.wrap   ((1 : Int) +     Go.IntKind.i64.wrap (Int.tdiv (List.getD a.snd.fst b.toNat ((0 : Int), (0 : Int), (0 : Int), false)).fst (3 : Int))), (List.set a.snd.fst b.toNat   ((4 : Int), (List.getD a.snd.fst b.toNat ((0 : Int), (0 : Int), (0 : Int), false)).snd.fst,     (List.getD a.snd.fst b.toNat ((0 : Int), (0 : Int), (0 : Int), false)).snd.snd.fst,     (List.getD a.snd.fst b.toNat ((0 : Int), (0 : Int), (0 : Int), false)).snd.snd.snd), a.snd.snd)), ()), ())) (none)) (none)) (cond (decide ((0 : Int) ≤ b)) (cond (decide (b < (↑(List.length a.snd.fst) : Int))) (some (((a.fst, (List.set a.snd.fst b.toNat   ((1 : Int), a.fst, (List.getD a.snd.fst b.toNat ((0 : Int), (0 : Int), (0 : Int), false)).snd.snd.fst,     (List.getD a.snd.fst b.toNat ((0 : Int), (0 : Int), (0 : Int), false)).snd.snd.snd), a.snd.snd)), ()), ())) (none)) (none))) (cond (decide ((List.getD a.snd.fst b.toNat ((0 : Int), (0 : Int), (0 : Int), false)).fst = (1 : Int))) (cond (decide ((List.getD a.snd.fst b.toNat ((0 : Int), (0 : Int), (0 : Int), false)).snd.fst = (2 : Int))) (cond (decide ((0 : Int) ≤ b)) (cond (decide (b < (↑(List.length a.snd.fst) : Int))) (some (((a.fst, (List.set a.snd.fst b.toNat   ((2 : Int), (0 : Int), (List.getD a.snd.fst b.toNat ((0 : Int), (0 : Int), (0 : Int), false)).snd.snd.fst,     (List.getD a.snd.fst b.toNat ((0 : Int), (0 : Int), (0 : Int), false)).snd.snd.snd), a.snd.snd)), ()), ())) (none)) (none)) (cond (decide (a.fst = (0 : Int))) (cond (decide ((0 : Int) ≤ b)) (cond (decide (b < (↑(List.length a.snd.fst) : Int))) (some (((a.fst, (List.set a.snd.fst b.toNat   ((3 : Int), (0 : Int), (List.getD a.snd.fst b.toNat ((0 : Int), (0 : Int), (0 : Int), false)).snd.snd.fst,     (List.getD a.snd.fst b.toNat ((0 : Int), (0 : Int), (0 : Int), false)).snd.snd.snd), a.snd.snd)), ()), ())) (none)) (none)) (cond (decide ((0 : Int) ≤ b)) (cond (decide (b < (↑(List.length a.snd.fst) : Int))) (some ((((2 : Int), (List.set a.snd.fst b.toNat   ((2 : Int), (0 : Int), (List.getD a.snd.fst b.toNat ((0 : Int), (0 : Int), (0 : Int), false)).snd.snd.fst,     (List.getD a.snd.fst b.toNat ((0 : Int), (0 : Int), (0 : Int), false)).snd.snd.snd), a.snd.snd)), ()), ())) (none)) (none)))) (cond (decide ((List.getD a.snd.fst b.toNat ((0 : Int), (0 : Int), (0 : Int), false)).fst = (2 : Int))) (cond (decide (a.fst = (2 : Int))) (cond (decide ((List.length a.snd.snd + [b].length) * (8 : Nat) ≤ (140737488355328 : Nat))) (cond (decide ((0 : Int) ≤ b)) (cond (decide (b < (↑(List.length a.snd.fst) : Int))) (some (((a.fst, (List.set a.snd.fst b.toNat   ((3 : Int), (List.getD a.snd.fst b.toNat ((0 : Int), (0 : Int), (0 : Int), false)).snd.fst,     (List.getD a.snd.fst b.toNat ((0 : Int), (0 : Int), (0 : Int), false)).snd.snd.fst, true), a.snd.snd ++ [b])), ()), ())) (none)) (none)) (none)) (cond (decide ((0 : Int) ≤ b)) (cond (decide (b < (↑(List.length a.snd.fst) : Int))) (some (((a.fst, (List.set a.snd.fst b.toNat   ((3 : Int), (List.getD a.snd.fst b.toNat ((0 : Int), (0 : Int), (0 : Int), false)).snd.fst,     (List.getD a.snd.fst b.toNat ((0 : Int), (0 : Int), (0 : Int), false)).snd.snd.fst,     (List.getD a.snd.fst b.toNat ((0 : Int), (0 : Int), (0 : Int), false)).snd.snd.snd), a.snd.snd)), ()), ())) (none)) (none))) (cond (decide ((List.getD a.snd.fst b.toNat ((0 : Int), (0 : Int), (0 : Int), false)).fst = (4 : Int))) (cond (decide (Go.IntKind.i64.wrap (a.fst - (1 : Int)) ≤ (0 : Int))) (cond (decide ((0 : Int) ≤ b)) (cond (decide (b < (↑(List.length a.snd.fst) : Int))) (some ((((0 : Int), (List.set a.snd.fst b.toNat   ((0 : Int), (List.getD a.snd.fst b.toNat ((0 : Int), (0 : Int), (0 : Int), false)).snd.fst,     Go.IntKind.i64.wrap       ((List.getD a.snd.fst b.toNat ((0 : Int), (0 : Int), (0 : Int), false)).snd.snd.fst - (1 : Int)),     (List.getD a.snd.fst b.toNat ((0 : Int), (0 : Int), (0 : Int), false)).snd.snd.snd), a.snd.snd)), ()), ())) (none)) (none)) (cond (decide ((0 : Int) ≤ b)) (cond (decide (b < (↑(List.length a.snd.fst) : Int))) (some (((Go.IntKind.i64.wrap (a.fst - (1 : Int)), (List.set a.snd.fst b.toNat   ((5 : Int), (List.getD a.snd.fst b.toNat ((0 : Int), (0 : Int), (0 : Int), false)).snd.fst,     (List.getD a.snd.fst b.toNat ((0 : Int), (0 : Int), (0 : Int), false)).snd.snd.fst,     (List.getD a.snd.fst b.toNat ((0 : Int), (0 : Int), (0 : Int), false)).snd.snd.snd), a.snd.snd)), ()), ())) (none)) (none))) (cond (decide ((List.getD a.snd.fst b.toNat ((0 : Int), (0 : Int), (0 : Int), false)).fst = (5 : Int))) (cond (decide ((0 : Int) ≤ b)) (cond (decide (b < (↑(List.length a.snd.fst) : Int))) (some ((((0 : Int), (List.set a.snd.fst b.toNat   ((6 : Int), (List.getD a.snd.fst b.toNat ((0 : Int), (0 : Int), (0 : Int), false)).snd.fst,     (List.getD a.snd.fst b.toNat ((0 : Int), (0 : Int), (0 : Int), false)).snd.snd.fst,     (List.getD a.snd.fst b.toNat ((0 : Int), (0 : Int), (0 : Int), false)).snd.snd.snd), a.snd.snd)), ()), ())) (none)) (none)) (cond (decide ((List.getD a.snd.fst b.toNat ((0 : Int), (0 : Int), (0 : Int), false)).fst = (6 : Int))) (cond (decide ((0 : Int) < (↑(List.length a.snd.snd) : Int))) (cond (decide ((0 : Int) < (↑(List.length a.snd.snd) : Int))) (cond (decide ((0 : Int) ≤ List.getD a.snd.snd (Int.toNat (0 : Int)) (0 : Int))) (cond (decide (List.getD a.snd.snd (Int.toNat (0 : Int)) (0 : Int) < (↑(List.length a.snd.fst) : Int))) (cond (decide ((1 : Int) ≤ (↑(List.length a.snd.snd) : Int))) (cond (decide   (((0 : Nat) +         (List.take ((↑(List.length a.snd.snd) : Int) - (1 : Int)).toNat             (List.drop ((0 : Nat) + Int.toNat (1 : Int)) a.snd.snd)).length) *       (8 : Nat) ≤     (140737488355328 : Nat))) (cond (decide ((0 : Int) ≤ b)) (cond (decide   (b <     (↑(List.set a.snd.fst (Int.toNat (List.getD a.snd.snd (Int.toNat (0 : Int)) (0 : Int)))             ((List.getD a.snd.fst (Int.toNat (List.getD a.snd.snd (Int.toNat (0 : Int)) (0 : Int)))                   ((0 : Int), (0 : Int), (0 : Int), false)).fst,               (List.getD a.snd.fst (Int.toNat (List.getD a.snd.snd (Int.toNat (0 : Int)) (0 : Int)))                     ((0 : Int), (0 : Int), (0 : Int), false)).snd.fst,               (List.getD a.snd.fst (Int.toNat (List.getD a.snd.snd (Int.toNat (0 : Int)) (0 : Int)))                       ((0 : Int), (0 : Int), (0 : Int), false)).snd.snd.fst,               false)).length :       Int))) (some (((a.fst, ((List.set a.snd.fst (Int.toNat (List.getD a.snd.snd (Int.toNat (0 : Int)) (0 : Int)))       ((List.getD a.snd.fst (Int.toNat (List.getD a.snd.snd (Int.toNat (0 : Int)) (0 : Int)))             ((0 : Int), (0 : Int), (0 : Int), false)).fst,         (List.getD a.snd.fst (Int.toNat (List.getD a.snd.snd (Int.toNat (0 : Int)) (0 : Int)))               ((0 : Int), (0 : Int), (0 : Int), false)).snd.fst,         (List.getD a.snd.fst (Int.toNat (List.getD a.snd.snd (Int.toNat (0 : Int)) (0 : Int)))                 ((0 : Int), (0 : Int), (0 : Int), false)).snd.snd.fst,         false)).set   b.toNat   ((0 : Int), (List.getD a.snd.fst b.toNat ((0 : Int), (0 : Int), (0 : Int), false)).snd.fst,     Go.IntKind.i64.wrap       ((List.getD a.snd.fst b.toNat ((0 : Int), (0 : Int), (0 : Int), false)).snd.snd.fst - (1 : Int)),     (List.getD a.snd.fst b.toNat ((0 : Int), (0 : Int), (0 : Int), false)).snd.snd.snd), List.take ((↑(List.length a.snd.snd) : Int) - (1 : Int)).toNat (List.drop ((0 : Nat) + Int.toNat (1 : Int)) a.snd.snd))), ()), ())) (none)) (none)) (none)) (none)) (none)) (none)) (none)) (cond (decide ((0 : Int) ≤ b)) (cond (decide (b < (↑(List.length a.snd.fst) : Int))) (some (((a.fst, (List.set a.snd.fst b.toNat   ((0 : Int), (List.getD a.snd.fst b.toNat ((0 : Int), (0 : Int), (0 : Int), false)).snd.fst,     Go.IntKind.i64.wrap       ((List.getD a.snd.fst b.toNat ((0 : Int), (0 : Int), (0 : Int), false)).snd.snd.fst - (1 : Int)),     (List.getD a.snd.fst b.toNat ((0 : Int), (0 : Int), (0 : Int), false)).snd.snd.snd), a.snd.snd)), ()), ())) (none)) (none))) (cond (decide ((0 : Int) ≤ b)) (cond (decide (b < (↑(List.length a.snd.fst) : Int))) (some (((a.fst, (List.set a.snd.fst b.toNat   ((List.getD a.snd.fst b.toNat ((0 : Int), (0 : Int), (0 : Int), false)).fst,     (List.getD a.snd.fst b.toNat ((0 : Int), (0 : Int), (0 : Int), false)).snd.fst,     (List.getD a.snd.fst b.toNat ((0 : Int), (0 : Int), (0 : Int), false)).snd.snd.fst,     (List.getD a.snd.fst b.toNat ((0 : Int), (0 : Int), (0 : Int), false)).snd.snd.snd), a.snd.snd)), ()), ())) (none)) (none))))))))) (none)) (none)
theorem e84_top (n : Nat) (a : Int × List (Int × Int × Int × Bool) × List Int) (b : Int) : runF TT G84 an84 Try.f84 c84 ps84 rs84 n (a, b, ()) = st84_top n  a b := by kernel_rfl
noncomputable def p84 (n : Nat) (a : Int × List (Int × Int × Int × Bool) × List Int) (b : Int) : Option R84 := st84_top n  a b
theorem F84_eq (n : Nat) (a : Int × List (Int × Int × Int × Bool) × List Int) (b : Int) : runF TT G84 an84 Try.f84 c84 ps84 rs84 n (a, b, ()) = p84 n a b := by
  rw [e84_top]
  skip
  try rfl
noncomputable def q84 (n : Nat) (x : argsD ps84) : Option R84 := p84 n x.1 x.2.1
noncomputable def Sm84 : Sm := ⟨ps84, rs84, false, q84⟩
theorem holds84 (hg : GamOK Try.prog G84) : Holds Try.prog 84 Sm84 := by
  have := h0_84 hg
  have e : (runF TT G84 an84 Try.f84 c84 ps84 rs84) = q84 := by
    funext n x
    exact F84_eq n x.1 x.2.1
  rw [e] at this
  exact this
theorem gam84 : GamOK Try.prog G84 := fun _ _ h => by cases h
theorem hh84 : Holds Try.prog 84 Sm84 := holds84 gam84
end Go.Proofs.Ytpcohpkflkhfbaa.Rx.S
namespace Go.Proofs.Ytpcohpkflkhfbaa.Rx.S
open Go Go.RowKit Go.Proofs
set_option maxRecDepth 100000
noncomputable def c112 : Code := (Try.f112.body.getD .skip)
abbrev ps112 : List PK := [.val (.row 51 tTh) false]
abbrev rs112 : List RK := [.own (.row 51 tTh) false]
abbrev R112 := retsD rs112 × outsD ps112
noncomputable def p112 (n : Nat) (a : List (Int × Int × Int × Bool)) : Option R112 := cond (decide ((0 + a.length) * (32 : Nat) ≤ (140737488355328 : Nat))) (some ((a, ()), ())) none
noncomputable def q112 (n : Nat) (x : argsD ps112) : Option R112 := p112 n x.1
noncomputable def Sm112 : Sm := ⟨ps112, rs112, false, q112⟩
noncomputable def S0_112 (n : Nat) (xs : List (Int × Int × Int × Bool)) : St := (initS Try.f112.ntmps ps112 (xs, ())).put (some 2) (.one .nil)
noncomputable def S1_112 (n : Nat) (xs : List (Int × Int × Int × Bool)) : St := (S0_112 n xs).put (some 3) (.one (.con ⟨51, tTh, xs⟩))
theorem gam0_112 : GamOK Try.prog (fun _ => none) := fun f s h => by cases h
theorem hh112 : Holds Try.prog 112 Sm112 := by
  refine holds_nilq tt_ok gam0_112 mixed (an := ⟨fun _ => ⟨[], []⟩, fun _ _ => none⟩) Try.func112 (by rfl) rfl (by first | exact Try.underlying38 | kernel_rfl) (by decide +kernel) S0_112 (fun n xs => by kernel_rfl) S1_112 (fun n xs => by kernel_rfl) (fun n xs => rfl) (fun n xs b => by kernel_rfl) (fun n y h => ?_) (fun n xs y h => ?_)
  · have h' : some (([], ()), ()) = some y := h
    refine Eq.trans ?_ h'
    kernel_rfl
  · have h' : cond (decide ((0 + xs.length) * (32 : Nat) ≤ (140737488355328 : Nat))) (some ((xs, ()), ())) none = some y := h
    refine Eq.trans ?_ h'
    kernel_rfl
end Go.Proofs.Ytpcohpkflkhfbaa.Rx.S
namespace Go.Proofs.Ytpcohpkflkhfbaa.Rx.S
open Go Go.RowKit Go.Proofs
set_option maxRecDepth 100000
noncomputable def c108 : Code := (Try.f108.body.getD .skip)
abbrev ps108 : List PK := [.val (.row 3 (.int .i64)) false]
abbrev rs108 : List RK := [.own (.row 3 (.int .i64)) false]
abbrev R108 := retsD rs108 × outsD ps108
noncomputable def p108 (n : Nat) (a : List (Int)) : Option R108 := cond (decide ((0 + a.length) * (8 : Nat) ≤ (140737488355328 : Nat))) (some ((a, ()), ())) none
noncomputable def q108 (n : Nat) (x : argsD ps108) : Option R108 := p108 n x.1
noncomputable def Sm108 : Sm := ⟨ps108, rs108, false, q108⟩
noncomputable def S0_108 (n : Nat) (xs : List (Int)) : St := (initS Try.f108.ntmps ps108 (xs, ())).put (some 2) (.one .nil)
noncomputable def S1_108 (n : Nat) (xs : List (Int)) : St := (S0_108 n xs).put (some 3) (.one (.con ⟨3, (.int .i64), xs⟩))
theorem gam0_108 : GamOK Try.prog (fun _ => none) := fun f s h => by cases h
theorem hh108 : Holds Try.prog 108 Sm108 := by
  refine holds_nilq tt_ok gam0_108 mixed (an := ⟨fun _ => ⟨[], []⟩, fun _ _ => none⟩) Try.func108 (by rfl) rfl (by first | exact Try.underlying23 | kernel_rfl) (by decide +kernel) S0_108 (fun n xs => by kernel_rfl) S1_108 (fun n xs => by kernel_rfl) (fun n xs => rfl) (fun n xs b => by kernel_rfl) (fun n y h => ?_) (fun n xs y h => ?_)
  · have h' : some (([], ()), ()) = some y := h
    refine Eq.trans ?_ h'
    kernel_rfl
  · have h' : cond (decide ((0 + xs.length) * (8 : Nat) ≤ (140737488355328 : Nat))) (some ((xs, ()), ())) none = some y := h
    refine Eq.trans ?_ h'
    kernel_rfl
end Go.Proofs.Ytpcohpkflkhfbaa.Rx.S
namespace Go.Proofs.Ytpcohpkflkhfbaa.Rx.S
open Go Go.RowKit Go.Proofs
set_option maxRecDepth 100000
noncomputable def c77 : Code := (Try.f77.body.getD .skip)
def an77 : An := ⟨fun _ => ⟨[], []⟩, fun _ _ => none⟩
abbrev ps77 : List PK := [.val tLock true]
abbrev rs77 : List RK := [.own tLock true]
abbrev R77 := retsD rs77 × outsD ps77
noncomputable def G77 : Gam := fun f => match f with | 112 => some Sm112 | 108 => some Sm108 | _ => none
theorem h0_77 (hg : GamOK Try.prog G77) : Holds Try.prog 77 ⟨ps77, rs77, false, runF TT G77 an77 Try.f77 c77 ps77 rs77⟩ := holds_of tt_ok hg mixed Try.func77 (by kernel_rfl) (by rfl) (by decide +kernel)
noncomputable def at77 : Nat → Pt → List Nat → St → Option R77 := atF TT G77 an77 Try.f77 c77 _ _
noncomputable def st77_top (n : Nat)  (a : Int × List (Int × Int × Int × Bool) × List Int) : Option R77 :=
  (Go.Proofs.Ytpcohpkflkhfbaa.Rx.S.q112 n (a.snd.fst, ())).bind fun r0 => (Go.Proofs.Ytpcohpkflkhfbaa.Rx.S.q108 n (a.snd.snd, ())).bind fun r1 => some (((a.fst, (r0.fst.fst, r1.fst.fst)), ()), ())
theorem e77_top (n : Nat) (a : Int × List (Int × Int × Int × Bool) × List Int) : runF TT G77 an77 Try.f77 c77 ps77 rs77 n (a, ()) = st77_top n  a := by kernel_rfl
noncomputable def p77 (n : Nat) (a : Int × List (Int × Int × Int × Bool) × List Int) : Option R77 := st77_top n  a
theorem F77_eq (n : Nat) (a : Int × List (Int × Int × Int × Bool) × List Int) : runF TT G77 an77 Try.f77 c77 ps77 rs77 n (a, ()) = p77 n a := by
  rw [e77_top]
  skip
  try rfl
noncomputable def q77 (n : Nat) (x : argsD ps77) : Option R77 := p77 n x.1
noncomputable def Sm77 : Sm := ⟨ps77, rs77, false, q77⟩
theorem holds77 (hg : GamOK Try.prog G77) : Holds Try.prog 77 Sm77 := by
  have := h0_77 hg
  have e : (runF TT G77 an77 Try.f77 c77 ps77 rs77) = q77 := by
    funext n x
    exact F77_eq n x.1
  rw [e] at this
  exact this
theorem gam77 : GamOK Try.prog G77 := by
  intro f s h
  unfold G77 at h
  split at h
  · injection h with h; subst h; exact ⟨⟨Try.f112, c112, Try.func112, by kernel_rfl, by decide +kernel⟩, hh112⟩
  · injection h with h; subst h; exact ⟨⟨Try.f108, c108, Try.func108, by kernel_rfl, by decide +kernel⟩, hh108⟩
  · cases h
theorem hh77 : Holds Try.prog 77 Sm77 := holds77 gam77
end Go.Proofs.Ytpcohpkflkhfbaa.Rx.S
namespace Go.Proofs.Ytpcohpkflkhfbaa.Rx.S
open Go Go.RowKit Go.Proofs
set_option maxRecDepth 100000
noncomputable def c79 : Code := (Try.f79.body.getD .skip)
def an79 : An := ⟨fun _ => ⟨[], []⟩, fun _ _ => none⟩
abbrev ps79 : List PK := [.val tLock true, .val i64 false]
abbrev rs79 : List RK := [.own tLock true]
abbrev R79 := retsD rs79 × outsD ps79
noncomputable def G79 : Gam := fun f => match f with | 77 => some Sm77 | _ => none
theorem h0_79 (hg : GamOK Try.prog G79) : Holds Try.prog 79 ⟨ps79, rs79, false, runF TT G79 an79 Try.f79 c79 ps79 rs79⟩ := holds_of tt_ok hg mixed Try.func79 (by kernel_rfl) (by rfl) (by decide +kernel)
noncomputable def at79 : Nat → Pt → List Nat → St → Option R79 := atF TT G79 an79 Try.f79 c79 _ _
noncomputable def st79_top (n : Nat)  (a : Int × List (Int × Int × Int × Bool) × List Int) (b : Int) : Option R79 :=
  (Go.Proofs.Ytpcohpkflkhfbaa.Rx.S.q77 n ((a.fst, a.snd.fst, a.snd.snd), ())).bind fun r0 => cond (decide ((0 : Int) ≤ b)) (cond (decide (b < (↑(List.length r0.fst.fst.snd.fst) : Int))) (cond (decide ((List.getD r0.fst.fst.snd.fst b.toNat ((0 : Int), (0 : Int), (0 : Int), false)).fst = (0 : Int))) (cond (decide (r0.fst.fst.fst = (0 : Int))) (some ((((1 : Int), (List.set r0.fst.fst.snd.fst b.toNat   ((4 : Int), (List.getD r0.fst.fst.snd.fst b.toNat ((0 : Int), (0 : Int), (0 : Int), false)).snd), r0.fst.fst.snd.snd)), ()), ())) (some (((r0.fst.fst.fst, ((List.set r0.fst.fst.snd.fst b.toNat       ((List.getD r0.fst.fst.snd.fst b.toNat ((0 : Int), (0 : Int), (0 : Int), false)).fst, r0.fst.fst.fst,         (List.getD r0.fst.fst.snd.fst b.toNat ((0 : Int), (0 : Int), (0 : Int), false)).snd.snd)).set   b.toNat   ((1 : Int),     ((List.set r0.fst.fst.snd.fst b.toNat             ((List.getD r0.fst.fst.snd.fst b.toNat ((0 : Int), (0 : Int), (0 : Int), false)).fst, r0.fst.fst.fst,               (List.getD r0.fst.fst.snd.fst b.toNat ((0 : Int), (0 : Int), (0 : Int), false)).snd.snd)).getD         b.toNat ((0 : Int), (0 : Int), (0 : Int), false)).snd), r0.fst.fst.snd.snd)), ()), ()))) (cond (decide ((List.getD r0.fst.fst.snd.fst b.toNat ((0 : Int), (0 : Int), (0 : Int), false)).fst = (1 : Int))) (cond (decide ((List.getD r0.fst.fst.snd.fst b.toNat ((0 : Int), (0 : Int), (0 : Int), false)).snd.fst = (2 : Int))) (some (((r0.fst.fst.fst, ((List.set r0.fst.fst.snd.fst b.toNat       ((2 : Int), (List.getD r0.fst.fst.snd.fst b.toNat ((0 : Int), (0 : Int), (0 : Int), false)).snd)).set   b.toNat   (((List.set r0.fst.fst.snd.fst b.toNat             ((2 : Int), (List.getD r0.fst.fst.snd.fst b.toNat ((0 : Int), (0 : Int), (0 : Int), false)).snd)).getD         b.toNat ((0 : Int), (0 : Int), (0 : Int), false)).fst,     (0 : Int),     ((List.set r0.fst.fst.snd.fst b.toNat               ((2 : Int), (List.getD r0.fst.fst.snd.fst b.toNat ((0 : Int), (0 : Int), (0 : Int), false)).snd)).getD           b.toNat ((0 : Int), (0 : Int), (0 : Int), false)).snd.snd), r0.fst.fst.snd.snd)), ()), ())) (cond (decide (r0.fst.fst.fst = (0 : Int))) (some (((r0.fst.fst.fst, ((List.set r0.fst.fst.snd.fst b.toNat       ((3 : Int), (List.getD r0.fst.fst.snd.fst b.toNat ((0 : Int), (0 : Int), (0 : Int), false)).snd)).set   b.toNat   (((List.set r0.fst.fst.snd.fst b.toNat             ((3 : Int), (List.getD r0.fst.fst.snd.fst b.toNat ((0 : Int), (0 : Int), (0 : Int), false)).snd)).getD         b.toNat ((0 : Int), (0 : Int), (0 : Int), false)).fst,     (0 : Int),     ((List.set r0.fst.fst.snd.fst b.toNat               ((3 : Int), (List.getD r0.fst.fst.snd.fst b.toNat ((0 : Int), (0 : Int), (0 : Int), false)).snd)).getD           b.toNat ((0 : Int), (0 : Int), (0 : Int), false)).snd.snd), r0.fst.fst.snd.snd)), ()), ())) (some ((((2 : Int), ((List.set r0.fst.fst.snd.fst b.toNat       ((2 : Int), (List.getD r0.fst.fst.snd.fst b.toNat ((0 : Int), (0 : Int), (0 : Int), false)).snd)).set   b.toNat   (((List.set r0.fst.fst.snd.fst b.toNat             ((2 : Int), (List.getD r0.fst.fst.snd.fst b.toNat ((0 : Int), (0 : Int), (0 : Int), false)).snd)).getD         b.toNat ((0 : Int), (0 : Int), (0 : Int), false)).fst,     (0 : Int),     ((List.set r0.fst.fst.snd.fst b.toNat               ((2 : Int), (List.getD r0.fst.fst.snd.fst b.toNat ((0 : Int), (0 : Int), (0 : Int), false)).snd)).getD           b.toNat ((0 : Int), (0 : Int), (0 : Int), false)).snd.snd), r0.fst.fst.snd.snd)), ()), ())))) (cond (decide ((List.getD r0.fst.fst.snd.fst b.toNat ((0 : Int), (0 : Int), (0 : Int), false)).fst = (2 : Int))) (cond (decide (r0.fst.fst.fst = (2 : Int))) (cond (decide ((List.length r0.fst.fst.snd.snd + [b].length) * (8 : Nat) ≤ (140737488355328 : Nat))) (some (((r0.fst.fst.fst, ((List.set r0.fst.fst.snd.fst b.toNat       ((List.getD r0.fst.fst.snd.fst b.toNat ((0 : Int), (0 : Int), (0 : Int), false)).fst,         (List.getD r0.fst.fst.snd.fst b.toNat ((0 : Int), (0 : Int), (0 : Int), false)).snd.fst,         (List.getD r0.fst.fst.snd.fst b.toNat ((0 : Int), (0 : Int), (0 : Int), false)).snd.snd.fst, true)).set   b.toNat   ((3 : Int),     ((List.set r0.fst.fst.snd.fst b.toNat             ((List.getD r0.fst.fst.snd.fst b.toNat ((0 : Int), (0 : Int), (0 : Int), false)).fst,               (List.getD r0.fst.fst.snd.fst b.toNat ((0 : Int), (0 : Int), (0 : Int), false)).snd.fst,               (List.getD r0.fst.fst.snd.fst b.toNat ((0 : Int), (0 : Int), (0 : Int), false)).snd.snd.fst, true)).getD         b.toNat ((0 : Int), (0 : Int), (0 : Int), false)).snd), r0.fst.fst.snd.snd ++ [b])), ()), ())) (none)) (some (((r0.fst.fst.fst, (List.set r0.fst.fst.snd.fst b.toNat   ((3 : Int), (List.getD r0.fst.fst.snd.fst b.toNat ((0 : Int), (0 : Int), (0 : Int), false)).snd), r0.fst.fst.snd.snd)), ()), ()))) (cond (decide ((List.getD r0.fst.fst.snd.fst b.toNat ((0 : Int), (0 : Int), (0 : Int), false)).fst = (3 : Int))) (cond (decide (r0.fst.fst.fst = (0 : Int))) (some ((((2 : Int), (List.set r0.fst.fst.snd.fst b.toNat   ((4 : Int), (List.getD r0.fst.fst.snd.fst b.toNat ((0 : Int), (0 : Int), (0 : Int), false)).snd), r0.fst.fst.snd.snd)), ()), ())) (some (((r0.fst.fst.fst, ((List.set r0.fst.fst.snd.fst b.toNat       ((List.getD r0.fst.fst.snd.fst b.toNat ((0 : Int), (0 : Int), (0 : Int), false)).fst, r0.fst.fst.fst,         (List.getD r0.fst.fst.snd.fst b.toNat ((0 : Int), (0 : Int), (0 : Int), false)).snd.snd)).set   b.toNat   ((1 : Int),     ((List.set r0.fst.fst.snd.fst b.toNat             ((List.getD r0.fst.fst.snd.fst b.toNat ((0 : Int), (0 : Int), (0 : Int), false)).fst, r0.fst.fst.fst,               (List.getD r0.fst.fst.snd.fst b.toNat ((0 : Int), (0 : Int), (0 : Int), false)).snd.snd)).getD         b.toNat ((0 : Int), (0 : Int), (0 : Int), false)).snd), r0.fst.fst.snd.snd)), ()), ()))) (cond (decide ((List.getD r0.fst.fst.snd.fst b.toNat ((0 : Int), (0 : Int), (0 : Int), false)).fst = (4 : Int))) (cond (decide (r0.fst.fst.fst < (2 : Int))) (some ((((0 : Int), ((List.set r0.fst.fst.snd.fst b.toNat       ((0 : Int), (List.getD r0.fst.fst.snd.fst b.toNat ((0 : Int), (0 : Int), (0 : Int), false)).snd)).set   b.toNat   (((List.set r0.fst.fst.snd.fst b.toNat             ((0 : Int), (List.getD r0.fst.fst.snd.fst b.toNat ((0 : Int), (0 : Int), (0 : Int), false)).snd)).getD         b.toNat ((0 : Int), (0 : Int), (0 : Int), false)).fst,     ((List.set r0.fst.fst.snd.fst b.toNat               ((0 : Int), (List.getD r0.fst.fst.snd.fst b.toNat ((0 : Int), (0 : Int), (0 : Int), false)).snd)).getD           b.toNat ((0 : Int), (0 : Int), (0 : Int), false)).snd.fst,     Go.IntKind.i64.wrap       (((List.set r0.fst.fst.snd.fst b.toNat                     ((0 : Int),                       (List.getD r0.fst.fst.snd.fst b.toNat ((0 : Int), (0 : Int), (0 : Int), false)).snd)).getD                 b.toNat ((0 : Int), (0 : Int), (0 : Int), false)).snd.snd.fst -         (1 : Int)),     ((List.set r0.fst.fst.snd.fst b.toNat                 ((0 : Int), (List.getD r0.fst.fst.snd.fst b.toNat ((0 : Int), (0 : Int), (0 : Int), false)).snd)).getD             b.toNat ((0 : Int), (0 : Int), (0 : Int), false)).snd.snd.snd), r0.fst.fst.snd.snd)), ()), ())) (some ((((1 : Int), (List.set r0.fst.fst.snd.fst b.toNat   ((5 : Int), (List.getD r0.fst.fst.snd.fst b.toNat ((0 : Int), (0 : Int), (0 : Int), false)).snd), r0.fst.fst.snd.snd)), ()), ()))) (cond (decide ((List.getD r0.fst.fst.snd.fst b.toNat ((0 : Int), (0 : Int), (0 : Int), false)).fst = (5 : Int))) (some ((((0 : Int), (List.set r0.fst.fst.snd.fst b.toNat   ((6 : Int), (List.getD r0.fst.fst.snd.fst b.toNat ((0 : Int), (0 : Int), (0 : Int), false)).snd), r0.fst.fst.snd.snd)), ()), ())) (cond (decide ((List.getD r0.fst.fst.snd.fst b.toNat ((0 : Int), (0 : Int), (0 : Int), false)).fst = (6 : Int))) (cond (decide ((0 : Int) < (↑(List.length r0.fst.fst.snd.snd) : Int))) (cond (decide ((0 : Int) < (↑(List.length r0.fst.fst.snd.snd) : Int))) (cond (decide ((0 : Int) ≤ List.getD r0.fst.fst.snd.snd (Int.toNat (0 : Int)) (0 : Int))) (cond (decide (List.getD r0.fst.fst.snd.snd (Int.toNat (0 : Int)) (0 : Int) < (↑(List.length r0.fst.fst.snd.fst) : Int))) (cond (decide ((1 : Int) ≤ (↑(List.length r0.fst.fst.snd.snd) : Int))) (some (((r0.fst.fst.fst, (((List.set r0.fst.fst.snd.fst (Int.toNat (List.getD r0.fst.fst.snd.snd (Int.toNat (0 : Int)) (0 : Int)))           ((List.getD r0.fst.fst.snd.fst (Int.toNat (List.getD r0.fst.fst.snd.snd (Int.toNat (0 : Int)) (0 : Int)))                 ((0 : Int), (0 : Int), (0 : Int), false)).fst,             (List.getD r0.fst.fst.snd.fst (Int.toNat (List.getD r0.fst.fst.snd.snd (Int.toNat (0 : Int)) (0 : Int)))                   ((0 : Int), (0 : Int), (0 : Int), false)).snd.fst,             (List.getD r0.fst.fst.snd.fst (Int.toNat (List.getD r0.fst.fst.snd.snd (Int.toNat (0 : Int)) (0 : Int)))                     ((0 : Int), (0 : Int), (0 : Int), false)).snd.snd.fst,             false)).set       b.toNat       ((0 : Int),         ((List.set r0.fst.fst.snd.fst (Int.toNat (List.getD r0.fst.fst.snd.snd (Int.toNat (0 : Int)) (0 : Int)))                 ((List.getD r0.fst.fst.snd.fst                       (Int.toNat (List.getD r0.fst.fst.snd.snd (Int.toNat (0 : Int)) (0 : Int)))                       ((0 : Int), (0 : Int), (0 : Int), false)).fst,                   (List.getD r0.fst.fst.snd.fst                         (Int.toNat (List.getD r0.fst.fst.snd.snd (Int.toNat (0 : Int)) (0 : Int)))                         ((0 : Int), (0 : Int), (0 : Int), false)).snd.fst,                   (List.getD r0.fst.fst.snd.fst                           (Int.toNat (List.getD r0.fst.fst.snd.snd (Int.toNat (0 : Int)) (0 : Int)))                           ((0 : Int), (0 : Int), (0 : Int), false)).snd.snd.fst,                   false)).getD             b.toNat ((0 : Int), (0 : Int), (0 : Int), false)).snd)).set   b.toNat   ((((List.set r0.fst.fst.snd.fst (Int.toNat (List.getD r0.fst.fst.snd.snd (Int.toNat (0 : Int)) (0 : Int)))                 ((List.getD r0.fst.fst.snd.fst                       (Int.toNat (List.getD r0.fst.fst.snd.snd (Int.toNat (0 : Int)) (0 : Int)))                       ((0 : Int), (0 : Int), (0 : Int), false)).fst,                   (List.getD r0.fst.fst.snd.fst                         (Int.toNat (List.getD r0.fst.fst.snd.snd (Int.toNat (0 : Int)) (0 : Int)))                         ((0 : Int), (0 : Int), (0 : Int), false)).snd.fst,                   (List.getD r0.fst.fst.snd.fst                           (Int.toNat (List.getD r0.fst.fst.snd.snd (Int.toNat (0 : Int)) (0 : Int)))                           ((0 : Int), (0 : Int), (0 : Int), false)).snd.snd.fst,                   false)).set             b.toNat             ((0 : Int),               ((List.set r0.fst.fst.snd.fst (Int.toNat (List.getD r0.fst.fst.snd.snd (Int.toNat (0 : Int)) (0 : Int)))                       ((List.getD r0.fst.fst.snd.fst                             (Int.toNat (List.getD r0.fst.fst.snd.snd (Int.toNat (0 : Int)) (0 : Int)))                             ((0 : Int), (0 : Int), (0 : Int), false)).fst,                         (List.getD r0.fst.fst.snd.fst                               (Int.toNat (List.getD r0.fst.fst.snd.snd (Int.toNat (0 : Int)) (0 : Int)))                               ((0 : Int), (0 : Int), (0 : Int), false)).snd.fst,                         (List.getD r0.fst.fst.snd.fst                                 (Int.toNat (List.getD r0.fst.fst.snd.snd (Int.toNat (0 : Int)) (0 : Int)))                                 ((0 : Int), (0 : Int), (0 : Int), false)).snd.snd.fst,                         false)).getD                   b.toNat ((0 : Int), (0 : Int), (0 : Int), false)).snd)).getD         b.toNat ((0 : Int), (0 : Int), (0 : Int), false)).fst,     (((List.set r0.fst.fst.snd.fst (Int.toNat (List.getD r0.fst.fst.snd.snd (Int.toNat (0 : Int)) (0 : Int)))                   ((List.getD r0.fst.fst.snd.fst                         (Int.toNat (List.getD r0.fst.fst.snd.snd (Int.toNat (0 : Int)) (0 : Int)))                         ((0 : Int), (0 : Int), (0 : Int), false)).fst,                     (List.getD r0.fst.fst.snd.fst                           (Int.toNat (List.getD r0.fst.fst.snd.snd (Int.toNat (0 : Int)) (0 : Int)))                           ((0 : Int), (0 : Int), (0 : Int), false)).snd.fst,                     (List.getD r0.fst.fst.snd.fst                             (Int.toNat (List.getD r0.fst.fst.snd.snd (Int.toNat (0 : Int)) (0 : Int)))                             ((0 : Int), (0 : Int), (0 : Int), false)).snd.snd.fst,                     false)).set               b.toNat               ((0 : Int),                 ((List.set r0.fst.fst.snd.fst (Int.toNat (List.getD r0.fst.fst.snd.snd (Int.toNat (0 : Int)) (0 : Int)))                         ((List.getD r0.fst.fst.snd.fst                               (Int.toNat (List.getD r0.fst.fst.snd.snd (Int.toNat (0 : Int)) (0 : Int)))                               ((0 : Int), (0 : Int), (0 : Int), false)).fst,                           (List.getD r0.fst.fst.snd.fst                                 (Int.toNat (List.getD r0.fst.fst.snd.snd (Int.toNat (0 : Int)) (0 : Int)))                                 ((0 : Int), (0 : Int), (0 : Int), false)).snd.fst,                           (List.getD r0.fst.fst.snd.fst                                   (Int.toNat (List.getD r0.fst.fst.snd.snd (Int.toNat (0 : Int)) (0 : Int)))                                   ((0 : Int), (0 : Int), (0 : Int), false)).snd.snd.fst,                           false)).getD                     b.toNat ((0 : Int), (0 : Int), (0 : Int), false)).snd)).getD           b.toNat ((0 : Int), (0 : Int), (0 : Int), false)).snd.fst,     Go.IntKind.i64.wrap       ((((List.set r0.fst.fst.snd.fst (Int.toNat (List.getD r0.fst.fst.snd.snd (Int.toNat (0 : Int)) (0 : Int)))                         ((List.getD r0.fst.fst.snd.fst                               (Int.toNat (List.getD r0.fst.fst.snd.snd (Int.toNat (0 : Int)) (0 : Int)))                               ((0 : Int), (0 : Int), (0 : Int), false)).fst,                           (List.getD r0.fst.fst.snd.fst                                 (Int.toNat (List.getD r0.fst.fst.snd.snd (Int.toNat (0 : Int)) (0 : Int)))                                 ((0 : Int), (0 : Int), (0 : Int), false)).snd.fst,                           (List.getD r0.fst.fst.snd.fst                                   (Int.toNat (List.getD r0.fst.fst.snd.snd (Int.toNat (0 : Int)) (0 : Int)))                                   ((0 : Int), (0 : Int), (0 : Int), false)).snd.snd.fst,                           false)).set                     b.toNat                     ((0 : Int),                       ((List.set r0.fst.fst.snd.fst                               (Int.toNat (List.getD r0.fst.fst.snd.snd (Int.toNat (0 : Int)) (0 : Int)))                               ((List.getD r0.fst.fst.snd.fst                                     (Int.toNat (List.getD r0.fst.fst.snd.snd (Int.toNat (0 : Int)) (0 : Int)))                                     ((0 : Int), (0 : Int), (0 : Int), false)).fst,                                 (List.getD r0.fst.fst.snd.fst                                       (Int.toNat (List.getD r0.fst.fst.snd.snd (Int.toNat (0 : Int)) (0 : Int)))                                       ((0 : Int), (0 : Int), (0 : Int), false)).snd.fst,                                 (List.getD r0.fst.fst.snd.fst                                         (Int.toNat (List.getD r0.fst.fst.snd.snd (Int.toNat (0 : Int)) (0 : Int)))                                         ((0 : Int), (0 : Int), (0 : Int), false)).snd.snd.fst,                                 false)).getD                           b.toNat ((0 : Int), (0 : Int), (0 : Int), false)).snd)).getD                 b.toNat ((0 : Int), (0 : Int), (0 : Int), false)).snd.snd.fst -         (1 : Int)),     (((List.set r0.fst.fst.snd.fst (Int.toNat (List.getD r0.fst.fst.snd.snd (Int.toNat (0 : Int)) (0 : Int)))                     ((List.getD r0.fst.fst.snd.fst                           (Int.toNat (List.getD r0.fst.fst.snd.snd (Int.toNat (0 : Int)) (0 : Int)))                           ((0 : Int), (0 : Int), (0 : Int), false)).fst,                       (List.getD r0.fst.fst.snd.fst                             (Int.toNat (List.getD r0.fst.fst.snd.snd (Int.toNat (0 : Int)) (0 : Int)))                             ((0 : Int), (0 : Int), (0 : Int), false)).snd.fst,                       (List.getD r0.fst.fst.snd.fst                               (Int.toNat (List.getD r0.fst.fst.snd.snd (Int.toNat (0 : Int)) (0 : Int)))                               ((0 : Int), (0 : Int), (0 : Int), false)).snd.snd.fst,                       false)).set                 b.toNat                 ((0 : Int),                   ((List.set r0.fst.fst.snd.fst                           (Int.toNat (List.getD r0.fst.fst.snd.snd (Int.toNat (0 : Int)) (0 : Int)))                           ((List.getD r0.fst.fst.snd.fst                                 (Int.toNat (List.getD r0.fst.fst.snd.snd (Int.toNat (0 : Int)) (0 : Int)))                                 ((0 : Int), (0 : Int), (0 : Int), false)).fst,                             (List.getD r0.fst.fst.snd.fst                                   (Int.toNat (List.getD r0.fst.fst.snd.snd (Int.toNat (0 : Int)) (0 : Int)))                                   ((0 : Int), (0 : Int), (0 : Int), false)).snd.fst,                             (List.getD r0.fst.fst.snd.fst                                     (Int.toNat (List.getD r0.fst.fst.snd.snd (Int.toNat (0 : Int)) (0 : Int)))                                     ((0 : Int), (0 : Int), (0 : Int), false)).snd.snd.fst,                             false)).getD                       b.toNat ((0 : Int), (0 : Int), (0 : Int), false)).snd)).getD             b.toNat ((0 : Int), (0 : Int), (0 : Int), false)).snd.snd.snd), List.take ((↑(List.length r0.fst.fst.snd.snd) : Int) - (1 : Int)).toNat   (List.drop ((0 : Nat) + Int.toNat (1 : Int)) r0.fst.fst.snd.snd))), ()), ())) (none)) (none)) (none)) (none)) (some (((r0.fst.fst.fst, ((List.set r0.fst.fst.snd.fst b.toNat       ((0 : Int), (List.getD r0.fst.fst.snd.fst b.toNat ((0 : Int), (0 : Int), (0 : Int), false)).snd)).set   b.toNat   (((List.set r0.fst.fst.snd.fst b.toNat             ((0 : Int), (List.getD r0.fst.fst.snd.fst b.toNat ((0 : Int), (0 : Int), (0 : Int), false)).snd)).getD         b.toNat ((0 : Int), (0 : Int), (0 : Int), false)).fst,     ((List.set r0.fst.fst.snd.fst b.toNat               ((0 : Int), (List.getD r0.fst.fst.snd.fst b.toNat ((0 : Int), (0 : Int), (0 : Int), false)).snd)).getD           b.toNat ((0 : Int), (0 : Int), (0 : Int), false)).snd.fst,     Go.IntKind.i64.wrap       (((List.set r0.fst.fst.snd.fst b.toNat                     ((0 : Int),                       (List.getD r0.fst.fst.snd.fst b.toNat ((0 : Int), (0 : Int), (0 : Int), false)).snd)).getD                 b.toNat ((0 : Int), (0 : Int), (0 : Int), false)).snd.snd.fst -         (1 : Int)),     ((List.set r0.fst.fst.snd.fst b.toNat                 ((0 : Int), (List.getD r0.fst.fst.snd.fst b.toNat ((0 : Int), (0 : Int), (0 : Int), false)).snd)).getD             b.toNat ((0 : Int), (0 : Int), (0 : Int), false)).snd.snd.snd), r0.fst.fst.snd.snd)), ()), ()))) (some (((r0.fst.fst.fst, (r0.fst.fst.snd.fst, r0.fst.fst.snd.snd)), ()), ()))))))))) (none)) (none)
theorem e79_top (n : Nat) (a : Int × List (Int × Int × Int × Bool) × List Int) (b : Int) : runF TT G79 an79 Try.f79 c79 ps79 rs79 n (a, b, ()) = st79_top n  a b := by kernel_rfl
noncomputable def p79 (n : Nat) (a : Int × List (Int × Int × Int × Bool) × List Int) (b : Int) : Option R79 := st79_top n  a b
theorem F79_eq (n : Nat) (a : Int × List (Int × Int × Int × Bool) × List Int) (b : Int) : runF TT G79 an79 Try.f79 c79 ps79 rs79 n (a, b, ()) = p79 n a b := by
  rw [e79_top]
  skip
  try rfl
noncomputable def q79 (n : Nat) (x : argsD ps79) : Option R79 := p79 n x.1 x.2.1
noncomputable def Sm79 : Sm := ⟨ps79, rs79, false, q79⟩
theorem holds79 (hg : GamOK Try.prog G79) : Holds Try.prog 79 Sm79 := by
  have := h0_79 hg
  have e : (runF TT G79 an79 Try.f79 c79 ps79 rs79) = q79 := by
    funext n x
    exact F79_eq n x.1 x.2.1
  rw [e] at this
  exact this
theorem gam79 : GamOK Try.prog G79 := by
  intro f s h
  unfold G79 at h
  split at h
  · injection h with h; subst h; exact ⟨⟨Try.f77, c77, Try.func77, by kernel_rfl, by decide +kernel⟩, hh77⟩
  · cases h
theorem hh79 : Holds Try.prog 79 Sm79 := holds79 gam79
end Go.Proofs.Ytpcohpkflkhfbaa.Rx.S
namespace Go.Proofs.Ytpcohpkflkhfbaa.Rx.S
open Go Go.RowKit Go.Proofs
set_option maxRecDepth 100000
noncomputable def c78 : Code := (Try.f78.body.getD .skip)
def an78 : An := ⟨fun _ => ⟨[], []⟩, fun _ _ => none⟩
abbrev ps78 : List PK := [.val tLock true, .val i64 false]
abbrev rs78 : List RK := [.val .bool false]
abbrev R78 := retsD rs78 × outsD ps78
noncomputable def G78 : Gam := fun _ => none
theorem h0_78 (hg : GamOK Try.prog G78) : Holds Try.prog 78 ⟨ps78, rs78, false, runF TT G78 an78 Try.f78 c78 ps78 rs78⟩ := holds_of tt_ok hg mixed Try.func78 (by kernel_rfl) (by rfl) (by decide +kernel)
noncomputable def at78 : Nat → Pt → List Nat → St → Option R78 := atF TT G78 an78 Try.f78 c78 _ _
noncomputable def st78_top (n : Nat)  (a : Int × List (Int × Int × Int × Bool) × List Int) (b : Int) : Option R78 :=
  cond (decide ((0 : Int) ≤ b)) (cond (decide (b < (↑(List.length a.snd.fst) : Int))) (cond (!(List.getD a.snd.fst b.toNat ((0 : Int), (0 : Int), (0 : Int), false)).snd.snd.snd) (cond (decide ((0 : Int) < (List.getD a.snd.fst b.toNat ((0 : Int), (0 : Int), (0 : Int), false)).fst)) (some ((true, ()), ())) (some ((decide ((0 : Int) < (List.getD a.snd.fst b.toNat ((0 : Int), (0 : Int), (0 : Int), false)).snd.snd.fst), ()), ()))) (some ((false, ()), ()))) (none)) (none)
theorem e78_top (n : Nat) (a : Int × List (Int × Int × Int × Bool) × List Int) (b : Int) : runF TT G78 an78 Try.f78 c78 ps78 rs78 n (a, b, ()) = st78_top n  a b := by kernel_rfl
noncomputable def p78 (n : Nat) (a : Int × List (Int × Int × Int × Bool) × List Int) (b : Int) : Option R78 := st78_top n  a b
theorem F78_eq (n : Nat) (a : Int × List (Int × Int × Int × Bool) × List Int) (b : Int) : runF TT G78 an78 Try.f78 c78 ps78 rs78 n (a, b, ()) = p78 n a b := by
  rw [e78_top]
  skip
  try rfl
noncomputable def q78 (n : Nat) (x : argsD ps78) : Option R78 := p78 n x.1 x.2.1
noncomputable def Sm78 : Sm := ⟨ps78, rs78, false, q78⟩
theorem holds78 (hg : GamOK Try.prog G78) : Holds Try.prog 78 Sm78 := by
  have := h0_78 hg
  have e : (runF TT G78 an78 Try.f78 c78 ps78 rs78) = q78 := by
    funext n x
    exact F78_eq n x.1 x.2.1
  rw [e] at this
  exact this
theorem gam78 : GamOK Try.prog G78 := fun _ _ h => by cases h
theorem hh78 : Holds Try.prog 78 Sm78 := holds78 gam78
end Go.Proofs.Ytpcohpkflkhfbaa.Rx.S
namespace Go.Proofs.Ytpcohpkflkhfbaa.Rx.S
open Go Go.RowKit Go.Proofs
set_option maxRecDepth 100000
noncomputable def c82 : Code := (Try.f82.body.getD .skip)
def an82 : An := ⟨fun _ => ⟨[], []⟩, fun _ _ => none⟩
abbrev ps82 : List PK := [.val tLock true, .val i64 false]
abbrev rs82 : List RK := [.val .bool false]
abbrev R82 := retsD rs82 × outsD ps82
noncomputable def G82 : Gam := fun _ => none
theorem h0_82 (hg : GamOK Try.prog G82) : Holds Try.prog 82 ⟨ps82, rs82, false, runF TT G82 an82 Try.f82 c82 ps82 rs82⟩ := holds_of tt_ok hg mixed Try.func82 (by kernel_rfl) (by rfl) (by decide +kernel)
noncomputable def at82 : Nat → Pt → List Nat → St → Option R82 := atF TT G82 an82 Try.f82 c82 _ _
noncomputable def st82_top (n : Nat)  (a : Int × List (Int × Int × Int × Bool) × List Int) (b : Int) : Option R82 :=
  cond (decide ((0 : Int) ≤ b)) (cond (decide (b < (↑(List.length a.snd.fst) : Int))) (cond (!(List.getD a.snd.fst b.toNat ((0 : Int), (0 : Int), (0 : Int), false)).snd.snd.snd) (cond (decide ((0 : Int) < (List.getD a.snd.fst b.toNat ((0 : Int), (0 : Int), (0 : Int), false)).fst)) (some ((true, ()), ())) (some ((decide ((0 : Int) < (List.getD a.snd.fst b.toNat ((0 : Int), (0 : Int), (0 : Int), false)).snd.snd.fst), ()), ()))) (some ((false, ()), ()))) (none)) (none)
theorem e82_top (n : Nat) (a : Int × List (Int × Int × Int × Bool) × List Int) (b : Int) : runF TT G82 an82 Try.f82 c82 ps82 rs82 n (a, b, ()) = st82_top n  a b := by kernel_rfl
noncomputable def p82 (n : Nat) (a : Int × List (Int × Int × Int × Bool) × List Int) (b : Int) : Option R82 := st82_top n  a b
theorem F82_eq (n : Nat) (a : Int × List (Int × Int × Int × Bool) × List Int) (b : Int) : runF TT G82 an82 Try.f82 c82 ps82 rs82 n (a, b, ()) = p82 n a b := by
  rw [e82_top]
  skip
  try rfl
noncomputable def q82 (n : Nat) (x : argsD ps82) : Option R82 := p82 n x.1 x.2.1
noncomputable def Sm82 : Sm := ⟨ps82, rs82, false, q82⟩
theorem holds82 (hg : GamOK Try.prog G82) : Holds Try.prog 82 Sm82 := by
  have := h0_82 hg
  have e : (runF TT G82 an82 Try.f82 c82 ps82 rs82) = q82 := by
    funext n x
    exact F82_eq n x.1 x.2.1
  rw [e] at this
  exact this
theorem gam82 : GamOK Try.prog G82 := fun _ _ h => by cases h
theorem hh82 : Holds Try.prog 82 Sm82 := holds82 gam82
end Go.Proofs.Ytpcohpkflkhfbaa.Rx.S
namespace Go.Proofs.Ytpcohpkflkhfbaa.Rx.S
open Go Go.RowKit Go.Proofs
set_option maxRecDepth 100000
noncomputable def c83 : Code := (Try.f83.body.getD .skip)
def an83 : An := ⟨fun _ => ⟨[], []⟩, fun _ _ => none⟩
abbrev ps83 : List PK := [.val tLock true]
abbrev rs83 : List RK := [.own tLock true]
abbrev R83 := retsD rs83 × outsD ps83
noncomputable def G83 : Gam := fun _ => none
theorem h0_83 (hg : GamOK Try.prog G83) : Holds Try.prog 83 ⟨ps83, rs83, false, runF TT G83 an83 Try.f83 c83 ps83 rs83⟩ := holds_of tt_ok hg mixed Try.func83 (by kernel_rfl) (by rfl) (by decide +kernel)
noncomputable def at83 : Nat → Pt → List Nat → St → Option R83 := atF TT G83 an83 Try.f83 c83 _ _
noncomputable def st83_top (n : Nat)  (a : Int × List (Int × Int × Int × Bool) × List Int) : Option R83 :=
  cond (decide (((0 : Nat) + List.length a.snd.fst) * (32 : Nat) ≤ (140737488355328 : Nat))) (cond (decide (((0 : Nat) + List.length a.snd.snd) * (8 : Nat) ≤ (140737488355328 : Nat))) (some (((a.fst, (a.snd.fst, a.snd.snd)), ()), ())) (none)) (none)
theorem e83_top (n : Nat) (a : Int × List (Int × Int × Int × Bool) × List Int) : runF TT G83 an83 Try.f83 c83 ps83 rs83 n (a, ()) = st83_top n  a := by kernel_rfl
noncomputable def p83 (n : Nat) (a : Int × List (Int × Int × Int × Bool) × List Int) : Option R83 := st83_top n  a
theorem F83_eq (n : Nat) (a : Int × List (Int × Int × Int × Bool) × List Int) : runF TT G83 an83 Try.f83 c83 ps83 rs83 n (a, ()) = p83 n a := by
  rw [e83_top]
  skip
  try rfl
noncomputable def q83 (n : Nat) (x : argsD ps83) : Option R83 := p83 n x.1
noncomputable def Sm83 : Sm := ⟨ps83, rs83, false, q83⟩
theorem holds83 (hg : GamOK Try.prog G83) : Holds Try.prog 83 Sm83 := by
  have := h0_83 hg
  have e : (runF TT G83 an83 Try.f83 c83 ps83 rs83) = q83 := by
    funext n x
    exact F83_eq n x.1
  rw [e] at this
  exact this
theorem gam83 : GamOK Try.prog G83 := fun _ _ h => by cases h
theorem hh83 : Holds Try.prog 83 Sm83 := holds83 gam83
end Go.Proofs.Ytpcohpkflkhfbaa.Rx.S
namespace Go.Proofs.Ytpcohpkflkhfbaa.Rx.S
open Go Go.RowKit Go.Proofs
set_option maxRecDepth 100000
noncomputable def c81 : Code := (Try.f81.body.getD .skip)
def an81 : An := ⟨fun _ => ⟨[], []⟩, fun _ _ => none⟩
abbrev ps81 : List PK := [.bx tRd, .val i64 false]
abbrev rs81 : List RK := [.val i64 false]
abbrev R81 := retsD rs81 × outsD ps81
noncomputable def G81 : Gam := fun _ => none
theorem h0_81 (hg : GamOK Try.prog G81) : Holds Try.prog 81 ⟨ps81, rs81, true, runF TT G81 an81 Try.f81 c81 ps81 rs81⟩ := holds_of tt_ok hg mixed Try.func81 (by kernel_rfl) (by rfl) (by decide +kernel)
noncomputable def at81 : Nat → Pt → List Nat → St → Option R81 := atF TT G81 an81 Try.f81 c81 _ _
noncomputable def st81_top (n : Nat)  (a : List Int × Int) (b : Int) : Option R81 :=
  cond (decide (b < (1 : Int))) (some (((0 : Int), ()), ((a.fst, Go.IntKind.i64.wrap (a.snd + (1 : Int))), ()))) (cond (decide ((↑(List.length a.fst) : Int) = (0 : Int))) (some (((0 : Int), ()), ((a.fst, Go.IntKind.i64.wrap (a.snd + (1 : Int))), ()))) (cond (decide (Go.IntKind.i64.wrap (Go.IntKind.i64.wrap (a.snd + (1 : Int)) - (1 : Int)) < (↑(List.length a.fst) : Int))) (cond (decide ((0 : Int) ≤ Go.IntKind.i64.wrap (Go.IntKind.i64.wrap (a.snd + (1 : Int)) - (1 : Int)))) (cond (decide (Go.IntKind.i64.wrap (Go.IntKind.i64.wrap (a.snd + (1 : Int)) - (1 : Int)) < (↑(List.length a.fst) : Int))) (cond (!decide (b = (0 : Int))) (some (((Go.IntKind.i64.wrap       (List.getD a.fst (Go.IntKind.i64.wrap (Go.IntKind.i64.wrap (a.snd + (1 : Int)) - (1 : Int))).toNat         (0 : Int))).tmod   b, ()), ((a.fst, Go.IntKind.i64.wrap (a.snd + (1 : Int))), ()))) (none)) (none)) (none)) (cond (!decide ((↑(List.length a.fst) : Int) = (0 : Int))) (cond (decide   ((0 : Int) ≤     (Go.IntKind.i64.wrap (Go.IntKind.i64.wrap (a.snd + (1 : Int)) - (1 : Int))).tmod (↑(List.length a.fst) : Int))) (cond (decide   ((Go.IntKind.i64.wrap (Go.IntKind.i64.wrap (a.snd + (1 : Int)) - (1 : Int))).tmod (↑(List.length a.fst) : Int) <     (↑(List.length a.fst) : Int))) (cond (!decide ((↑(List.length a.fst) : Int) = (0 : Int))) (cond (decide   ((0 : Int) ≤     (Go.IntKind.i64.wrap           (Go.IntKind.i64.wrap (Go.IntKind.i64.wrap (Go.IntKind.i64.wrap (a.snd + (1 : Int)) - (1 : Int)) * (7 : Int)) +             (3 : Int))).tmod       (↑(List.length a.fst) : Int))) (cond (decide   ((Go.IntKind.i64.wrap           (Go.IntKind.i64.wrap (Go.IntKind.i64.wrap (Go.IntKind.i64.wrap (a.snd + (1 : Int)) - (1 : Int)) * (7 : Int)) +             (3 : Int))).tmod       (↑(List.length a.fst) : Int) <     (↑(List.length a.fst) : Int))) (cond (!decide ((↑(List.length a.fst) : Int) = (0 : Int))) (cond (!decide (b = (0 : Int))) (some (((Go.IntKind.i64.wrap       (↑(BitVec.ofInt Go.IntKind.i64.bits                 (Go.IntKind.i64.wrap                   (Go.IntKind.i64.wrap                       (Go.IntKind.i64.wrap                           (Go.IntKind.i64.wrap                               (Go.IntKind.i64.wrap                                   (List.getD a.fst                                     ((Go.IntKind.i64.wrap (Go.IntKind.i64.wrap (a.snd + (1 : Int)) - (1 : Int))).tmod                                         (↑(List.length a.fst) : Int)).toNat                                     (0 : Int)) *                                 (131 : Int)) +                             Go.IntKind.i64.wrap                               (Go.IntKind.i64.wrap                                   (List.getD a.fst                                     ((Go.IntKind.i64.wrap                                             (Go.IntKind.i64.wrap                                                 (Go.IntKind.i64.wrap                                                     (Go.IntKind.i64.wrap (a.snd + (1 : Int)) - (1 : Int)) *                                                   (7 : Int)) +                                               (3 : Int))).tmod                                         (↑(List.length a.fst) : Int)).toNat                                     (0 : Int)) *                                 (1117 : Int))) +                         Go.IntKind.i64.wrap                           (Go.IntKind.i64.wrap (Go.IntKind.i64.wrap (a.snd + (1 : Int)) - (1 : Int)) * (29 : Int))) +                     Go.IntKind.i64.wrap                       (Go.IntKind.i64.wrap                           ((Go.IntKind.i64.wrap (Go.IntKind.i64.wrap (a.snd + (1 : Int)) - (1 : Int))).tdiv                             (↑(List.length a.fst) : Int)) *                         (53 : Int)))) ^^^               BitVec.ofInt Go.IntKind.i64.bits                 (Go.IntKind.i64.wrap                   ((Go.IntKind.i64.wrap                         (Go.IntKind.i64.wrap                             (Go.IntKind.i64.wrap                                 (Go.IntKind.i64.wrap                                     (Go.IntKind.i64.wrap                                         (List.getD a.fst                                           ((Go.IntKind.i64.wrap                                                   (Go.IntKind.i64.wrap (a.snd + (1 : Int)) - (1 : Int))).tmod                                               (↑(List.length a.fst) : Int)).toNat                                           (0 : Int)) *                                       (131 : Int)) +                                   Go.IntKind.i64.wrap                                     (Go.IntKind.i64.wrap                                         (List.getD a.fst                                           ((Go.IntKind.i64.wrap                                                   (Go.IntKind.i64.wrap                                                       (Go.IntKind.i64.wrap                                                           (Go.IntKind.i64.wrap (a.snd + (1 : Int)) - (1 : Int)) *                                                         (7 : Int)) +                                                     (3 : Int))).tmod                                               (↑(List.length a.fst) : Int)).toNat                                           (0 : Int)) *                                       (1117 : Int))) +                               Go.IntKind.i64.wrap                                 (Go.IntKind.i64.wrap (Go.IntKind.i64.wrap (a.snd + (1 : Int)) - (1 : Int)) *                                   (29 : Int))) +                           Go.IntKind.i64.wrap                             (Go.IntKind.i64.wrap                                 ((Go.IntKind.i64.wrap (Go.IntKind.i64.wrap (a.snd + (1 : Int)) - (1 : Int))).tdiv                                   (↑(List.length a.fst) : Int)) *                               (53 : Int)))).tdiv                     (64 : Int)))).toNat :         Int)).tmod   b, ()), ((a.fst, Go.IntKind.i64.wrap (a.snd + (1 : Int))), ()))) (none)) (none)) (none)) (none)) (none)) (none)) (none)) (none))))
theorem e81_top (n : Nat) (a : List Int × Int) (b : Int) : runF TT G81 an81 Try.f81 c81 ps81 rs81 n (a, b, ()) = st81_top n  a b := by kernel_rfl
noncomputable def p81 (n : Nat) (a : List Int × Int) (b : Int) : Option R81 := st81_top n  a b
theorem F81_eq (n : Nat) (a : List Int × Int) (b : Int) : runF TT G81 an81 Try.f81 c81 ps81 rs81 n (a, b, ()) = p81 n a b := by
  rw [e81_top]
  skip
  try rfl
noncomputable def q81 (n : Nat) (x : argsD ps81) : Option R81 := p81 n x.1 x.2.1
noncomputable def Sm81 : Sm := ⟨ps81, rs81, true, q81⟩
theorem holds81 (hg : GamOK Try.prog G81) : Holds Try.prog 81 Sm81 := by
  have := h0_81 hg
  have e : (runF TT G81 an81 Try.f81 c81 ps81 rs81) = q81 := by
    funext n x
    exact F81_eq n x.1 x.2.1
  rw [e] at this
  exact this
theorem gam81 : GamOK Try.prog G81 := fun _ _ h => by cases h
theorem hh81 : Holds Try.prog 81 Sm81 := holds81 gam81
end Go.Proofs.Ytpcohpkflkhfbaa.Rx.S
namespace Go.Proofs.Ytpcohpkflkhfbaa.Rx.S
open Go Go.RowKit Go.Proofs
set_option maxRecDepth 100000
noncomputable def c73 : Code := (Try.f73.body.getD .skip)
def an73 : An := ⟨fun _ => ⟨[], []⟩, fun _ _ => none⟩
abbrev ps73 : List PK := [.val (.row 5 (.int .u8)) false]
abbrev rs73 : List RK := [.bx tRd]
abbrev R73 := retsD rs73 × outsD ps73
noncomputable def G73 : Gam := fun _ => none
theorem h0_73 (hg : GamOK Try.prog G73) : Holds Try.prog 73 ⟨ps73, rs73, true, runF TT G73 an73 Try.f73 c73 ps73 rs73⟩ := holds_of tt_ok hg mixed Try.func73 (by kernel_rfl) (by rfl) (by decide +kernel)
noncomputable def at73 : Nat → Pt → List Nat → St → Option R73 := atF TT G73 an73 Try.f73 c73 _ _
noncomputable def st73_top (n : Nat)  (a : List Int) : Option R73 :=
  cond (decide ((2000 : Int) < (↑a.length : Int))) (cond (decide ((2000 : Int) ≤ (↑a.length : Int))) (some (((List.take (Int.toNat (2000 : Int)) a, (0 : Int)), ()), ())) (none)) (some (((a, (0 : Int)), ()), ()))
theorem e73_top (n : Nat) (a : List Int) : runF TT G73 an73 Try.f73 c73 ps73 rs73 n (a, ()) = st73_top n  a := by kernel_rfl
noncomputable def p73 (n : Nat) (a : List Int) : Option R73 := st73_top n  a
theorem F73_eq (n : Nat) (a : List Int) : runF TT G73 an73 Try.f73 c73 ps73 rs73 n (a, ()) = p73 n a := by
  rw [e73_top]
  skip
  try rfl
noncomputable def q73 (n : Nat) (x : argsD ps73) : Option R73 := p73 n x.1
noncomputable def Sm73 : Sm := ⟨ps73, rs73, true, q73⟩
theorem holds73 (hg : GamOK Try.prog G73) : Holds Try.prog 73 Sm73 := by
  have := h0_73 hg
  have e : (runF TT G73 an73 Try.f73 c73 ps73 rs73) = q73 := by
    funext n x
    exact F73_eq n x.1
  rw [e] at this
  exact this
theorem gam73 : GamOK Try.prog G73 := fun _ _ h => by cases h
theorem hh73 : Holds Try.prog 73 Sm73 := holds73 gam73
end Go.Proofs.Ytpcohpkflkhfbaa.Rx.S
namespace Go.Proofs.Ytpcohpkflkhfbaa.Rx.S
open Go Go.RowKit Go.Proofs
set_option maxRecDepth 100000
noncomputable def c80 : Code := (Try.f80.body.getD .skip)
def an80 : An := ⟨fun r => match r with | 4 => ⟨[0, 1, 5], []⟩ | _ => ⟨[], []⟩, fun _ _ => none⟩
abbrev ps80 : List PK := [.val (.row 3 i64) false, .val (.row 3 i64) false]
abbrev rs80 : List RK := [.val .bool false]
abbrev R80 := retsD rs80 × outsD ps80
noncomputable def G80 : Gam := fun _ => none
theorem h0_80 (hg : GamOK Try.prog G80) : Holds Try.prog 80 ⟨ps80, rs80, false, runF TT G80 an80 Try.f80 c80 ps80 rs80⟩ := holds_of tt_ok hg mixed Try.func80 (by kernel_rfl) (by rfl) (by decide +kernel)
noncomputable def at80 : Nat → Pt → List Nat → St → Option R80 := atF TT G80 an80 Try.f80 c80 _ _
def sh80_L4 (x0 : List Int) (x1 : List Int) (x2 : Int) : St := (Go.Proofs.Ytpcohpkflkhfbaa.Rx.St.mk ((Go.Proofs.Ytpcohpkflkhfbaa.Rx.AV.one (Go.Proofs.Ytpcohpkflkhfbaa.Rx.SV.con (⟨3, Go.Proofs.Ytpcohpkflkhfbaa.Rx.Ty.int Go.IntKind.i64, x0⟩ : Rw))) :: ((Go.Proofs.Ytpcohpkflkhfbaa.Rx.AV.one (Go.Proofs.Ytpcohpkflkhfbaa.Rx.SV.con (⟨3, Go.Proofs.Ytpcohpkflkhfbaa.Rx.Ty.int Go.IntKind.i64, x1⟩ : Rw))) :: (Go.Proofs.Ytpcohpkflkhfbaa.Rx.AV.undef :: (Go.Proofs.Ytpcohpkflkhfbaa.Rx.AV.undef :: (Go.Proofs.Ytpcohpkflkhfbaa.Rx.AV.undef :: ((Go.Proofs.Ytpcohpkflkhfbaa.Rx.AV.one (Go.Proofs.Ytpcohpkflkhfbaa.Rx.SV.int (Go.IntKind.i64) x2)) :: (Go.Proofs.Ytpcohpkflkhfbaa.Rx.AV.undef :: (Go.Proofs.Ytpcohpkflkhfbaa.Rx.AV.undef :: (Go.Proofs.Ytpcohpkflkhfbaa.Rx.AV.undef :: (Go.Proofs.Ytpcohpkflkhfbaa.Rx.AV.undef :: (Go.Proofs.Ytpcohpkflkhfbaa.Rx.AV.undef :: (Go.Proofs.Ytpcohpkflkhfbaa.Rx.AV.undef :: (Go.Proofs.Ytpcohpkflkhfbaa.Rx.AV.undef :: (Go.Proofs.Ytpcohpkflkhfbaa.Rx.AV.undef :: (Go.Proofs.Ytpcohpkflkhfbaa.Rx.AV.undef :: (Go.Proofs.Ytpcohpkflkhfbaa.Rx.AV.undef :: (Go.Proofs.Ytpcohpkflkhfbaa.Rx.AV.undef :: (Go.Proofs.Ytpcohpkflkhfbaa.Rx.AV.undef :: (Go.Proofs.Ytpcohpkflkhfbaa.Rx.AV.undef :: (Go.Proofs.Ytpcohpkflkhfbaa.Rx.AV.undef :: (Go.Proofs.Ytpcohpkflkhfbaa.Rx.AV.undef :: (Go.Proofs.Ytpcohpkflkhfbaa.Rx.AV.undef :: (Go.Proofs.Ytpcohpkflkhfbaa.Rx.AV.undef :: (Go.Proofs.Ytpcohpkflkhfbaa.Rx.AV.undef :: (Go.Proofs.Ytpcohpkflkhfbaa.Rx.AV.undef :: (Go.Proofs.Ytpcohpkflkhfbaa.Rx.AV.undef :: [])))))))))))))))))))))))))) [])
noncomputable def st80_top (n : Nat) (lL4 : (List Int) → (List Int) → Int → Option R80) (a : List Int) (b : List Int) : Option R80 :=
  cond (!decide ((↑a.length : Int) = (↑b.length : Int))) (some ((false, ()), ())) (lL4 (a) (b) ((0 : Int)))
noncomputable def st80_L4 (n : Nat) (lL4 : (List Int) → (List Int) → Int → Option R80) (x0 : List Int) (x1 : List Int) (x2 : Int) : Option R80 :=
  cond (decide (x2 < (↑x0.length : Int))) (cond (decide ((0 : Int) ≤ x2)) (cond (decide (x2 < (↑x0.length : Int))) (cond (decide ((0 : Int) ≤ x2)) (cond (decide (x2 < (↑x1.length : Int))) (cond (!decide (x0.getD x2.toNat (0 : Int) = x1.getD x2.toNat (0 : Int))) (some ((false, ()), ())) (lL4 (x0) (x1) (Go.IntKind.i64.wrap (x2 + (1 : Int))))) (none)) (none)) (none)) (none)) (some ((true, ()), ()))
theorem e80_top (n : Nat) (a : List Int) (b : List Int) : runF TT G80 an80 Try.f80 c80 ps80 rs80 n (a, b, ()) = st80_top n (fun x0 x1 x2 => at80 n (.head 4) [n] (sh80_L4 x0 x1 x2)) a b := by kernel_rfl
theorem e80_L4_0 (n : Nat) (x0 : List Int) (x1 : List Int) (x2 : Int) : at80 n (.head 4) [0] (sh80_L4 x0 x1 x2) = none := by kernel_rfl
theorem e80_L4 (n : Nat) (m4 : Nat) (x0 : List Int) (x1 : List Int) (x2 : Int) : at80 n (.head 4) [m4 + 1] (sh80_L4 x0 x1 x2) = st80_L4 n (fun x0 x1 x2 => at80 n (.head 4) [m4] (sh80_L4 x0 x1 x2)) x0 x1 x2 := by kernel_rfl
noncomputable def p80_L4 (n : Nat) : Nat → (List Int) → (List Int) → Int → Option R80
  | 0, _, _, _ => none
  | m + 1, x0, x1, x2 => st80_L4 n (p80_L4 n m) x0 x1 x2
noncomputable def p80 (n : Nat) (a : List Int) (b : List Int) : Option R80 := st80_top n (p80_L4 n n) a b
theorem t80_L4 (n : Nat) : ∀ (m4 : Nat) (x0 : List Int) (x1 : List Int) (x2 : Int), at80 n (.head 4) [m4] (sh80_L4 x0 x1 x2) = p80_L4  n m4 x0 x1 x2 := by
  intro m
  induction m with
  | zero => intros; rw [e80_L4_0]; rfl
  | succ m ih =>
    intros
    rw [e80_L4]
    simp only [ih]
    rfl
theorem F80_eq (n : Nat) (a : List Int) (b : List Int) : runF TT G80 an80 Try.f80 c80 ps80 rs80 n (a, b, ()) = p80 n a b := by
  rw [e80_top]
  simp only [t80_L4]
  try rfl
noncomputable def q80 (n : Nat) (x : argsD ps80) : Option R80 := p80 n x.1 x.2.1
noncomputable def Sm80 : Sm := ⟨ps80, rs80, false, q80⟩
theorem holds80 (hg : GamOK Try.prog G80) : Holds Try.prog 80 Sm80 := by
  have := h0_80 hg
  have e : (runF TT G80 an80 Try.f80 c80 ps80 rs80) = q80 := by
    funext n x
    exact F80_eq n x.1 x.2.1
  rw [e] at this
  exact this
theorem gam80 : GamOK Try.prog G80 := fun _ _ h => by cases h
theorem hh80 : Holds Try.prog 80 Sm80 := holds80 gam80
end Go.Proofs.Ytpcohpkflkhfbaa.Rx.S
namespace Go.Proofs.Ytpcohpkflkhfbaa.Rx.S
open Go Go.RowKit Go.Proofs
set_option maxRecDepth 100000
noncomputable def c26 : Code := (Try.f26.body.getD .skip)
def an26 : An := ⟨fun r => match r with | 4 => ⟨[2, 3, 5], []⟩ | _ => ⟨[], []⟩, fun _ _ => none⟩
abbrev ps26 : List PK := [.val tLock true, .val tLock true]
abbrev rs26 : List RK := [.val .bool false]
abbrev R26 := retsD rs26 × outsD ps26
noncomputable def G26 : Gam := fun f => match f with | 80 => some Sm80 | _ => none
theorem h0_26 (hg : GamOK Try.prog G26) : Holds Try.prog 26 ⟨ps26, rs26, false, runF TT G26 an26 Try.f26 c26 ps26 rs26⟩ := holds_of tt_ok hg mixed Try.func26 (by kernel_rfl) (by rfl) (by decide +kernel)
noncomputable def at26 : Nat → Pt → List Nat → St → Option R26 := atF TT G26 an26 Try.f26 c26 _ _
def sh26_L4 (x0 : Int) (x1 : Int) (x2 : List (Int × Int × Int × Bool)) (x3 : List Int) (x4 : Int) (x5 : List (Int × Int × Int × Bool)) (x6 : List Int) : St := (Go.Proofs.Ytpcohpkflkhfbaa.Rx.St.mk (Go.Proofs.Ytpcohpkflkhfbaa.Rx.AV.undef :: (Go.Proofs.Ytpcohpkflkhfbaa.Rx.AV.undef :: ((Go.Proofs.Ytpcohpkflkhfbaa.Rx.AV.one (Go.Proofs.Ytpcohpkflkhfbaa.Rx.SV.bptr 1000000 0)) :: ((Go.Proofs.Ytpcohpkflkhfbaa.Rx.AV.one (Go.Proofs.Ytpcohpkflkhfbaa.Rx.SV.bptr 1000001 0)) :: (Go.Proofs.Ytpcohpkflkhfbaa.Rx.AV.undef :: ((Go.Proofs.Ytpcohpkflkhfbaa.Rx.AV.one (Go.Proofs.Ytpcohpkflkhfbaa.Rx.SV.int (Go.IntKind.i64) x0)) :: (Go.Proofs.Ytpcohpkflkhfbaa.Rx.AV.undef :: (Go.Proofs.Ytpcohpkflkhfbaa.Rx.AV.undef :: (Go.Proofs.Ytpcohpkflkhfbaa.Rx.AV.undef :: (Go.Proofs.Ytpcohpkflkhfbaa.Rx.AV.undef :: (Go.Proofs.Ytpcohpkflkhfbaa.Rx.AV.undef :: (Go.Proofs.Ytpcohpkflkhfbaa.Rx.AV.undef :: (Go.Proofs.Ytpcohpkflkhfbaa.Rx.AV.undef :: (Go.Proofs.Ytpcohpkflkhfbaa.Rx.AV.undef :: (Go.Proofs.Ytpcohpkflkhfbaa.Rx.AV.undef :: (Go.Proofs.Ytpcohpkflkhfbaa.Rx.AV.undef :: (Go.Proofs.Ytpcohpkflkhfbaa.Rx.AV.undef :: (Go.Proofs.Ytpcohpkflkhfbaa.Rx.AV.undef :: (Go.Proofs.Ytpcohpkflkhfbaa.Rx.AV.undef :: (Go.Proofs.Ytpcohpkflkhfbaa.Rx.AV.undef :: (Go.Proofs.Ytpcohpkflkhfbaa.Rx.AV.undef :: (Go.Proofs.Ytpcohpkflkhfbaa.Rx.AV.undef :: (Go.Proofs.Ytpcohpkflkhfbaa.Rx.AV.undef :: (Go.Proofs.Ytpcohpkflkhfbaa.Rx.AV.undef :: (Go.Proofs.Ytpcohpkflkhfbaa.Rx.AV.undef :: (Go.Proofs.Ytpcohpkflkhfbaa.Rx.AV.undef :: (Go.Proofs.Ytpcohpkflkhfbaa.Rx.AV.undef :: (Go.Proofs.Ytpcohpkflkhfbaa.Rx.AV.undef :: (Go.Proofs.Ytpcohpkflkhfbaa.Rx.AV.undef :: (Go.Proofs.Ytpcohpkflkhfbaa.Rx.AV.undef :: (Go.Proofs.Ytpcohpkflkhfbaa.Rx.AV.undef :: (Go.Proofs.Ytpcohpkflkhfbaa.Rx.AV.undef :: (Go.Proofs.Ytpcohpkflkhfbaa.Rx.AV.undef :: (Go.Proofs.Ytpcohpkflkhfbaa.Rx.AV.undef :: (Go.Proofs.Ytpcohpkflkhfbaa.Rx.AV.undef :: (Go.Proofs.Ytpcohpkflkhfbaa.Rx.AV.undef :: (Go.Proofs.Ytpcohpkflkhfbaa.Rx.AV.undef :: (Go.Proofs.Ytpcohpkflkhfbaa.Rx.AV.undef :: (Go.Proofs.Ytpcohpkflkhfbaa.Rx.AV.undef :: (Go.Proofs.Ytpcohpkflkhfbaa.Rx.AV.undef :: (Go.Proofs.Ytpcohpkflkhfbaa.Rx.AV.undef :: (Go.Proofs.Ytpcohpkflkhfbaa.Rx.AV.undef :: (Go.Proofs.Ytpcohpkflkhfbaa.Rx.AV.undef :: (Go.Proofs.Ytpcohpkflkhfbaa.Rx.AV.undef :: (Go.Proofs.Ytpcohpkflkhfbaa.Rx.AV.undef :: (Go.Proofs.Ytpcohpkflkhfbaa.Rx.AV.undef :: [])))))))))))))))))))))))))))))))))))))))))))))) ((1000000, (Go.Proofs.Ytpcohpkflkhfbaa.Rx.Ent.box ((Go.Proofs.Ytpcohpkflkhfbaa.Rx.SV.int (Go.IntKind.i64) x1) :: ((Go.Proofs.Ytpcohpkflkhfbaa.Rx.SV.con (⟨51, (Go.Proofs.Ytpcohpkflkhfbaa.Rx.Ty.int Go.IntKind.i64).pair   ((Go.Proofs.Ytpcohpkflkhfbaa.Rx.Ty.int Go.IntKind.i64).pair ((Go.Proofs.Ytpcohpkflkhfbaa.Rx.Ty.int Go.IntKind.i64).pair Go.Proofs.Ytpcohpkflkhfbaa.Rx.Ty.bool)), x2⟩ : Rw)) :: ((Go.Proofs.Ytpcohpkflkhfbaa.Rx.SV.con (⟨3, Go.Proofs.Ytpcohpkflkhfbaa.Rx.Ty.int Go.IntKind.i64, x3⟩ : Rw)) :: []))))) :: ((1000001, (Go.Proofs.Ytpcohpkflkhfbaa.Rx.Ent.box ((Go.Proofs.Ytpcohpkflkhfbaa.Rx.SV.int (Go.IntKind.i64) x4) :: ((Go.Proofs.Ytpcohpkflkhfbaa.Rx.SV.con (⟨51, (Go.Proofs.Ytpcohpkflkhfbaa.Rx.Ty.int Go.IntKind.i64).pair   ((Go.Proofs.Ytpcohpkflkhfbaa.Rx.Ty.int Go.IntKind.i64).pair ((Go.Proofs.Ytpcohpkflkhfbaa.Rx.Ty.int Go.IntKind.i64).pair Go.Proofs.Ytpcohpkflkhfbaa.Rx.Ty.bool)), x5⟩ : Rw)) :: ((Go.Proofs.Ytpcohpkflkhfbaa.Rx.SV.con (⟨3, Go.Proofs.Ytpcohpkflkhfbaa.Rx.Ty.int Go.IntKind.i64, x6⟩ : Rw)) :: []))))) :: [])))
noncomputable def st26_top (n : Nat) (lL4 : Int → Int → (List (Int × Int × Int × Bool)) → (List Int) → Int → (List (Int × Int × Int × Bool)) → (List Int) → Option R26) (a : Int × List (Int × Int × Int × Bool) × List Int) (b : Int × List (Int × Int × Int × Bool) × List Int) : Option R26 :=
  cond (!decide (a.fst = b.fst)) (some ((false, ()), ())) ((Go.Proofs.Ytpcohpkflkhfbaa.Rx.S.q80 n (a.snd.snd, b.snd.snd, ())).bind fun r0 => cond (!r0.fst.fst) (some ((false, ()), ())) (cond (!decide ((↑(List.length a.snd.fst) : Int) = (↑(List.length b.snd.fst) : Int))) (some ((false, ()), ())) (lL4 ((0 : Int)) (a.fst) (a.snd.fst) (a.snd.snd) (b.fst) (b.snd.fst) (b.snd.snd))))
noncomputable def st26_L4 (n : Nat) (lL4 : Int → Int → (List (Int × Int × Int × Bool)) → (List Int) → Int → (List (Int × Int × Int × Bool)) → (List Int) → Option R26) (x0 : Int) (x1 : Int) (x2 : List (Int × Int × Int × Bool)) (x3 : List Int) (x4 : Int) (x5 : List (Int × Int × Int × Bool)) (x6 : List Int) : Option R26 :=
  cond (decide (x0 < (↑x2.length : Int))) (cond (decide ((0 : Int) ≤ x0)) (cond (decide (x0 < (↑x2.length : Int))) (cond (decide ((0 : Int) ≤ x0)) (cond (decide (x0 < (↑x5.length : Int))) (cond (!(decide       ((x2.getD x0.toNat ((0 : Int), (0 : Int), (0 : Int), false)).fst =         (x5.getD x0.toNat ((0 : Int), (0 : Int), (0 : Int), false)).fst) &&     (decide         ((x2.getD x0.toNat ((0 : Int), (0 : Int), (0 : Int), false)).snd.fst =           (x5.getD x0.toNat ((0 : Int), (0 : Int), (0 : Int), false)).snd.fst) &&       (decide           ((x2.getD x0.toNat ((0 : Int), (0 : Int), (0 : Int), false)).snd.snd.fst =             (x5.getD x0.toNat ((0 : Int), (0 : Int), (0 : Int), false)).snd.snd.fst) &&         ((x2.getD x0.toNat ((0 : Int), (0 : Int), (0 : Int), false)).snd.snd.snd ==             (x5.getD x0.toNat ((0 : Int), (0 : Int), (0 : Int), false)).snd.snd.snd &&           true))))) (some ((false, ()), ())) (lL4 (Go.IntKind.i64.wrap (x0 + (1 : Int))) (x1) (x2) (x3) (x4) (x5) (x6))) (none)) (none)) (none)) (none)) (some ((true, ()), ()))
theorem e26_top (n : Nat) (a : Int × List (Int × Int × Int × Bool) × List Int) (b : Int × List (Int × Int × Int × Bool) × List Int) : runF TT G26 an26 Try.f26 c26 ps26 rs26 n (a, b, ()) = st26_top n (fun x0 x1 x2 x3 x4 x5 x6 => at26 n (.head 4) [n] (sh26_L4 x0 x1 x2 x3 x4 x5 x6)) a b := by kernel_rfl
theorem e26_L4_0 (n : Nat) (x0 : Int) (x1 : Int) (x2 : List (Int × Int × Int × Bool)) (x3 : List Int) (x4 : Int) (x5 : List (Int × Int × Int × Bool)) (x6 : List Int) : at26 n (.head 4) [0] (sh26_L4 x0 x1 x2 x3 x4 x5 x6) = none := by kernel_rfl
theorem e26_L4 (n : Nat) (m4 : Nat) (x0 : Int) (x1 : Int) (x2 : List (Int × Int × Int × Bool)) (x3 : List Int) (x4 : Int) (x5 : List (Int × Int × Int × Bool)) (x6 : List Int) : at26 n (.head 4) [m4 + 1] (sh26_L4 x0 x1 x2 x3 x4 x5 x6) = st26_L4 n (fun x0 x1 x2 x3 x4 x5 x6 => at26 n (.head 4) [m4] (sh26_L4 x0 x1 x2 x3 x4 x5 x6)) x0 x1 x2 x3 x4 x5 x6 := by kernel_rfl
noncomputable def p26_L4 (n : Nat) : Nat → Int → Int → (List (Int × Int × Int × Bool)) → (List Int) → Int → (List (Int × Int × Int × Bool)) → (List Int) → Option R26
  | 0, _, _, _, _, _, _, _ => none
  | m + 1, x0, x1, x2, x3, x4, x5, x6 => st26_L4 n (p26_L4 n m) x0 x1 x2 x3 x4 x5 x6
noncomputable def p26 (n : Nat) (a : Int × List (Int × Int × Int × Bool) × List Int) (b : Int × List (Int × Int × Int × Bool) × List Int) : Option R26 := st26_top n (p26_L4 n n) a b
theorem t26_L4 (n : Nat) : ∀ (m4 : Nat) (x0 : Int) (x1 : Int) (x2 : List (Int × Int × Int × Bool)) (x3 : List Int) (x4 : Int) (x5 : List (Int × Int × Int × Bool)) (x6 : List Int), at26 n (.head 4) [m4] (sh26_L4 x0 x1 x2 x3 x4 x5 x6) = p26_L4  n m4 x0 x1 x2 x3 x4 x5 x6 := by
  intro m
  induction m with
  | zero => intros; rw [e26_L4_0]; rfl
  | succ m ih =>
    intros
    rw [e26_L4]
    simp only [ih]
    rfl
theorem F26_eq (n : Nat) (a : Int × List (Int × Int × Int × Bool) × List Int) (b : Int × List (Int × Int × Int × Bool) × List Int) : runF TT G26 an26 Try.f26 c26 ps26 rs26 n (a, b, ()) = p26 n a b := by
  rw [e26_top]
  simp only [t26_L4]
  try rfl
noncomputable def q26 (n : Nat) (x : argsD ps26) : Option R26 := p26 n x.1 x.2.1
noncomputable def Sm26 : Sm := ⟨ps26, rs26, false, q26⟩
theorem holds26 (hg : GamOK Try.prog G26) : Holds Try.prog 26 Sm26 := by
  have := h0_26 hg
  have e : (runF TT G26 an26 Try.f26 c26 ps26 rs26) = q26 := by
    funext n x
    exact F26_eq n x.1 x.2.1
  rw [e] at this
  exact this
theorem gam26 : GamOK Try.prog G26 := by
  intro f s h
  unfold G26 at h
  split at h
  · injection h with h; subst h; exact ⟨⟨Try.f80, c80, Try.func80, by kernel_rfl, by decide +kernel⟩, hh80⟩
  · cases h
theorem hh26 : Holds Try.prog 26 Sm26 := holds26 gam26
end Go.Proofs.Ytpcohpkflkhfbaa.Rx.S
namespace Go.Proofs.Ytpcohpkflkhfbaa.Rx.S
open Go Go.RowKit Go.Proofs
set_option maxRecDepth 100000
noncomputable def c110 : Code := (Try.f110.body.getD .skip)
def an110 : An := ⟨fun r => match r with | 5 => ⟨[0, 1, 4, 6, 7], []⟩ | _ => ⟨[], []⟩, fun _ _ => none⟩
abbrev ps110 : List PK := [.val i64 false, .val i64 false]
abbrev rs110 : List RK := [.own tLock true, .val .bool false]
abbrev R110 := retsD rs110 × outsD ps110
noncomputable def G110 : Gam := fun f => match f with | 57 => some Sm57 | _ => none
theorem h0_110 (hg : GamOK Try.prog G110) : Holds Try.prog 110 ⟨ps110, rs110, false, runF TT G110 an110 Try.f110 c110 ps110 rs110⟩ := holds_of tt_ok hg mixed Try.func110 (by kernel_rfl) (by rfl) (by decide +kernel)
noncomputable def at110 : Nat → Pt → List Nat → St → Option R110 := atF TT G110 an110 Try.f110 c110 _ _
def sh110_L5 (x0 : Int) (x1 : Int) (x2 : Int) (x3 : Int) (x4 : Int) (x5 : List (Int × Int × Int × Bool)) (x6 : List Int) : St := (Go.Proofs.Ytpcohpkflkhfbaa.Rx.St.mk ((Go.Proofs.Ytpcohpkflkhfbaa.Rx.AV.one (Go.Proofs.Ytpcohpkflkhfbaa.Rx.SV.int (Go.IntKind.i64) x0)) :: ((Go.Proofs.Ytpcohpkflkhfbaa.Rx.AV.one (Go.Proofs.Ytpcohpkflkhfbaa.Rx.SV.int (Go.IntKind.i64) x1)) :: (Go.Proofs.Ytpcohpkflkhfbaa.Rx.AV.undef :: (Go.Proofs.Ytpcohpkflkhfbaa.Rx.AV.undef :: ((Go.Proofs.Ytpcohpkflkhfbaa.Rx.AV.one (Go.Proofs.Ytpcohpkflkhfbaa.Rx.SV.bptr 1000000 0)) :: (Go.Proofs.Ytpcohpkflkhfbaa.Rx.AV.undef :: ((Go.Proofs.Ytpcohpkflkhfbaa.Rx.AV.one (Go.Proofs.Ytpcohpkflkhfbaa.Rx.SV.bptr 1000001 0)) :: ((Go.Proofs.Ytpcohpkflkhfbaa.Rx.AV.one (Go.Proofs.Ytpcohpkflkhfbaa.Rx.SV.int (Go.IntKind.i64) x2)) :: (Go.Proofs.Ytpcohpkflkhfbaa.Rx.AV.undef :: (Go.Proofs.Ytpcohpkflkhfbaa.Rx.AV.undef :: (Go.Proofs.Ytpcohpkflkhfbaa.Rx.AV.undef :: (Go.Proofs.Ytpcohpkflkhfbaa.Rx.AV.undef :: (Go.Proofs.Ytpcohpkflkhfbaa.Rx.AV.undef :: (Go.Proofs.Ytpcohpkflkhfbaa.Rx.AV.undef :: (Go.Proofs.Ytpcohpkflkhfbaa.Rx.AV.undef :: (Go.Proofs.Ytpcohpkflkhfbaa.Rx.AV.undef :: (Go.Proofs.Ytpcohpkflkhfbaa.Rx.AV.undef :: (Go.Proofs.Ytpcohpkflkhfbaa.Rx.AV.undef :: (Go.Proofs.Ytpcohpkflkhfbaa.Rx.AV.undef :: (Go.Proofs.Ytpcohpkflkhfbaa.Rx.AV.undef :: (Go.Proofs.Ytpcohpkflkhfbaa.Rx.AV.undef :: (Go.Proofs.Ytpcohpkflkhfbaa.Rx.AV.undef :: (Go.Proofs.Ytpcohpkflkhfbaa.Rx.AV.undef :: (Go.Proofs.Ytpcohpkflkhfbaa.Rx.AV.undef :: (Go.Proofs.Ytpcohpkflkhfbaa.Rx.AV.undef :: (Go.Proofs.Ytpcohpkflkhfbaa.Rx.AV.undef :: (Go.Proofs.Ytpcohpkflkhfbaa.Rx.AV.undef :: (Go.Proofs.Ytpcohpkflkhfbaa.Rx.AV.undef :: (Go.Proofs.Ytpcohpkflkhfbaa.Rx.AV.undef :: (Go.Proofs.Ytpcohpkflkhfbaa.Rx.AV.undef :: (Go.Proofs.Ytpcohpkflkhfbaa.Rx.AV.undef :: (Go.Proofs.Ytpcohpkflkhfbaa.Rx.AV.undef :: (Go.Proofs.Ytpcohpkflkhfbaa.Rx.AV.undef :: []))))))))))))))))))))))))))))))))) ((1000000, (Go.Proofs.Ytpcohpkflkhfbaa.Rx.Ent.box ((Go.Proofs.Ytpcohpkflkhfbaa.Rx.SV.int (Go.IntKind.i64) x3) :: (Go.Proofs.Ytpcohpkflkhfbaa.Rx.SV.nil :: (Go.Proofs.Ytpcohpkflkhfbaa.Rx.SV.nil :: []))))) :: ((1000001, (Go.Proofs.Ytpcohpkflkhfbaa.Rx.Ent.box ((Go.Proofs.Ytpcohpkflkhfbaa.Rx.SV.int (Go.IntKind.i64) x4) :: ((Go.Proofs.Ytpcohpkflkhfbaa.Rx.SV.ref 1000002 0 [] Option.none) :: ((Go.Proofs.Ytpcohpkflkhfbaa.Rx.SV.ref 1000003 0 [] Option.none) :: []))))) :: ((1000002, (Go.Proofs.Ytpcohpkflkhfbaa.Rx.Ent.row (⟨51, (Go.Proofs.Ytpcohpkflkhfbaa.Rx.Ty.int Go.IntKind.i64).pair   ((Go.Proofs.Ytpcohpkflkhfbaa.Rx.Ty.int Go.IntKind.i64).pair ((Go.Proofs.Ytpcohpkflkhfbaa.Rx.Ty.int Go.IntKind.i64).pair Go.Proofs.Ytpcohpkflkhfbaa.Rx.Ty.bool)), x5⟩ : Rw) 0 Option.none)) :: ((1000003, (Go.Proofs.Ytpcohpkflkhfbaa.Rx.Ent.row (⟨3, Go.Proofs.Ytpcohpkflkhfbaa.Rx.Ty.int Go.IntKind.i64, x6⟩ : Rw) 0 Option.none)) :: [])))))
noncomputable def st110_top (n : Nat) (lL5 : Int → Int → Int → Int → Int → (List (Int × Int × Int × Bool)) → (List Int) → Option R110) (a : Int) (b : Int) : Option R110 :=
  (Go.Proofs.Ytpcohpkflkhfbaa.Rx.S.q57 n (a, (1 : Int), (4 : Int), ())).bind fun r0 => cond (!r0.fst.fst) (some ((((0 : Int), ([], [])), (false, ())), ())) ((Go.Proofs.Ytpcohpkflkhfbaa.Rx.S.q57 n (b, (0 : Int), (3 : Int), ())).bind fun r1 => cond (!r1.fst.fst) (some ((((0 : Int), ([], [])), (false, ())), ())) (lL5 (a) (b) ((0 : Int)) ((0 : Int)) ((0 : Int)) ([]) ([])))
noncomputable def st110_L5 (n : Nat) (lL5 : Int → Int → Int → Int → Int → (List (Int × Int × Int × Bool)) → (List Int) → Option R110) (x0 : Int) (x1 : Int) (x2 : Int) (x3 : Int) (x4 : Int) (x5 : List (Int × Int × Int × Bool)) (x6 : List Int) : Option R110 :=
  cond (decide (x2 < x0)) (cond (decide ((x5.length + [((0 : Int), (0 : Int), x1, false)].length) * (32 : Nat) ≤ (140737488355328 : Nat))) (lL5 (x0) (x1) (Go.IntKind.i64.wrap (x2 + (1 : Int))) (x3) (x4) (x5 ++ [((0 : Int), (0 : Int), x1, false)]) (x6)) (none)) (some (((x4, (x5, x6)), (true, ())), ()))
theorem e110_top (n : Nat) (a : Int) (b : Int) : runF TT G110 an110 Try.f110 c110 ps110 rs110 n (a, b, ()) = st110_top n (fun x0 x1 x2 x3 x4 x5 x6 => at110 n (.head 5) [n] (sh110_L5 x0 x1 x2 x3 x4 x5 x6)) a b := by kernel_rfl
theorem e110_L5_0 (n : Nat) (x0 : Int) (x1 : Int) (x2 : Int) (x3 : Int) (x4 : Int) (x5 : List (Int × Int × Int × Bool)) (x6 : List Int) : at110 n (.head 5) [0] (sh110_L5 x0 x1 x2 x3 x4 x5 x6) = none := by kernel_rfl
theorem e110_L5 (n : Nat) (m5 : Nat) (x0 : Int) (x1 : Int) (x2 : Int) (x3 : Int) (x4 : Int) (x5 : List (Int × Int × Int × Bool)) (x6 : List Int) : at110 n (.head 5) [m5 + 1] (sh110_L5 x0 x1 x2 x3 x4 x5 x6) = st110_L5 n (fun x0 x1 x2 x3 x4 x5 x6 => at110 n (.head 5) [m5] (sh110_L5 x0 x1 x2 x3 x4 x5 x6)) x0 x1 x2 x3 x4 x5 x6 := by kernel_rfl
noncomputable def p110_L5 (n : Nat) : Nat → Int → Int → Int → Int → Int → (List (Int × Int × Int × Bool)) → (List Int) → Option R110
  | 0, _, _, _, _, _, _, _ => none
  | m + 1, x0, x1, x2, x3, x4, x5, x6 => st110_L5 n (p110_L5 n m) x0 x1 x2 x3 x4 x5 x6
noncomputable def p110 (n : Nat) (a : Int) (b : Int) : Option R110 := st110_top n (p110_L5 n n) a b
theorem t110_L5 (n : Nat) : ∀ (m5 : Nat) (x0 : Int) (x1 : Int) (x2 : Int) (x3 : Int) (x4 : Int) (x5 : List (Int × Int × Int × Bool)) (x6 : List Int), at110 n (.head 5) [m5] (sh110_L5 x0 x1 x2 x3 x4 x5 x6) = p110_L5  n m5 x0 x1 x2 x3 x4 x5 x6 := by
  intro m
  induction m with
  | zero => intros; rw [e110_L5_0]; rfl
  | succ m ih =>
    intros
    rw [e110_L5]
    simp only [ih]
    rfl
theorem F110_eq (n : Nat) (a : Int) (b : Int) : runF TT G110 an110 Try.f110 c110 ps110 rs110 n (a, b, ()) = p110 n a b := by
  rw [e110_top]
  simp only [t110_L5]
  try rfl
noncomputable def q110 (n : Nat) (x : argsD ps110) : Option R110 := p110 n x.1 x.2.1
noncomputable def Sm110 : Sm := ⟨ps110, rs110, false, q110⟩
theorem holds110 (hg : GamOK Try.prog G110) : Holds Try.prog 110 Sm110 := by
  have := h0_110 hg
  have e : (runF TT G110 an110 Try.f110 c110 ps110 rs110) = q110 := by
    funext n x
    exact F110_eq n x.1 x.2.1
  rw [e] at this
  exact this
theorem gam110 : GamOK Try.prog G110 := by
  intro f s h
  unfold G110 at h
  split at h
  · injection h with h; subst h; exact ⟨⟨Try.f57, c57, Try.func57, by kernel_rfl, by decide +kernel⟩, hh57⟩
  · cases h
theorem hh110 : Holds Try.prog 110 Sm110 := holds110 gam110
end Go.Proofs.Ytpcohpkflkhfbaa.Rx.S
namespace Go.Proofs.Ytpcohpkflkhfbaa.Rx.S
open Go Go.RowKit Go.Proofs
set_option maxRecDepth 100000
noncomputable def c74 : Code := (Try.f74.body.getD .skip)
def an74 : An := ⟨fun r => match r with | 3 => ⟨[0, 2, 3, 5], []⟩ | _ => ⟨[], []⟩, fun _ _ => none⟩
abbrev ps74 : List PK := [.bx tRd]
abbrev rs74 : List RK := [.own tLock true]
abbrev R74 := retsD rs74 × outsD ps74
noncomputable def G74 : Gam := fun f => match f with | 81 => some Sm81 | 110 => some Sm110 | 82 => some Sm82 | 83 => some Sm83 | 84 => some Sm84 | _ => none
theorem h0_74 (hg : GamOK Try.prog G74) : Holds Try.prog 74 ⟨ps74, rs74, true, runF TT G74 an74 Try.f74 c74 ps74 rs74⟩ := holds_of tt_ok hg mixed Try.func74 (by kernel_rfl) (by rfl) (by decide +kernel)
noncomputable def at74 : Nat → Pt → List Nat → St → Option R74 := atF TT G74 an74 Try.f74 c74 _ _
def sh74_L3 (x0 : Int) (x1 : List Int) (x2 : Int) (x3 : Int) (x4 : Int) (x5 : List (Int × Int × Int × Bool)) (x6 : List Int) : St := (Go.Proofs.Ytpcohpkflkhfbaa.Rx.St.mk ((Go.Proofs.Ytpcohpkflkhfbaa.Rx.AV.par 0 false ((Go.Proofs.Ytpcohpkflkhfbaa.Rx.SV.bptr 1000000 0) :: [])) :: (Go.Proofs.Ytpcohpkflkhfbaa.Rx.AV.undef :: ((Go.Proofs.Ytpcohpkflkhfbaa.Rx.AV.one (Go.Proofs.Ytpcohpkflkhfbaa.Rx.SV.bptr 1000001 0)) :: ((Go.Proofs.Ytpcohpkflkhfbaa.Rx.AV.one (Go.Proofs.Ytpcohpkflkhfbaa.Rx.SV.bptr 1000002 0)) :: (Go.Proofs.Ytpcohpkflkhfbaa.Rx.AV.undef :: ((Go.Proofs.Ytpcohpkflkhfbaa.Rx.AV.one (Go.Proofs.Ytpcohpkflkhfbaa.Rx.SV.int (Go.IntKind.i64) x0)) :: (Go.Proofs.Ytpcohpkflkhfbaa.Rx.AV.undef :: (Go.Proofs.Ytpcohpkflkhfbaa.Rx.AV.undef :: (Go.Proofs.Ytpcohpkflkhfbaa.Rx.AV.undef :: (Go.Proofs.Ytpcohpkflkhfbaa.Rx.AV.undef :: (Go.Proofs.Ytpcohpkflkhfbaa.Rx.AV.undef :: (Go.Proofs.Ytpcohpkflkhfbaa.Rx.AV.undef :: (Go.Proofs.Ytpcohpkflkhfbaa.Rx.AV.undef :: (Go.Proofs.Ytpcohpkflkhfbaa.Rx.AV.undef :: (Go.Proofs.Ytpcohpkflkhfbaa.Rx.AV.undef :: (Go.Proofs.Ytpcohpkflkhfbaa.Rx.AV.undef :: (Go.Proofs.Ytpcohpkflkhfbaa.Rx.AV.undef :: (Go.Proofs.Ytpcohpkflkhfbaa.Rx.AV.undef :: (Go.Proofs.Ytpcohpkflkhfbaa.Rx.AV.undef :: (Go.Proofs.Ytpcohpkflkhfbaa.Rx.AV.undef :: (Go.Proofs.Ytpcohpkflkhfbaa.Rx.AV.undef :: (Go.Proofs.Ytpcohpkflkhfbaa.Rx.AV.undef :: (Go.Proofs.Ytpcohpkflkhfbaa.Rx.AV.undef :: (Go.Proofs.Ytpcohpkflkhfbaa.Rx.AV.undef :: (Go.Proofs.Ytpcohpkflkhfbaa.Rx.AV.undef :: (Go.Proofs.Ytpcohpkflkhfbaa.Rx.AV.undef :: (Go.Proofs.Ytpcohpkflkhfbaa.Rx.AV.undef :: (Go.Proofs.Ytpcohpkflkhfbaa.Rx.AV.undef :: (Go.Proofs.Ytpcohpkflkhfbaa.Rx.AV.undef :: (Go.Proofs.Ytpcohpkflkhfbaa.Rx.AV.undef :: (Go.Proofs.Ytpcohpkflkhfbaa.Rx.AV.undef :: (Go.Proofs.Ytpcohpkflkhfbaa.Rx.AV.undef :: (Go.Proofs.Ytpcohpkflkhfbaa.Rx.AV.undef :: (Go.Proofs.Ytpcohpkflkhfbaa.Rx.AV.undef :: (Go.Proofs.Ytpcohpkflkhfbaa.Rx.AV.undef :: (Go.Proofs.Ytpcohpkflkhfbaa.Rx.AV.undef :: (Go.Proofs.Ytpcohpkflkhfbaa.Rx.AV.undef :: (Go.Proofs.Ytpcohpkflkhfbaa.Rx.AV.undef :: (Go.Proofs.Ytpcohpkflkhfbaa.Rx.AV.undef :: (Go.Proofs.Ytpcohpkflkhfbaa.Rx.AV.undef :: (Go.Proofs.Ytpcohpkflkhfbaa.Rx.AV.undef :: (Go.Proofs.Ytpcohpkflkhfbaa.Rx.AV.undef :: (Go.Proofs.Ytpcohpkflkhfbaa.Rx.AV.undef :: (Go.Proofs.Ytpcohpkflkhfbaa.Rx.AV.undef :: (Go.Proofs.Ytpcohpkflkhfbaa.Rx.AV.undef :: (Go.Proofs.Ytpcohpkflkhfbaa.Rx.AV.undef :: (Go.Proofs.Ytpcohpkflkhfbaa.Rx.AV.undef :: (Go.Proofs.Ytpcohpkflkhfbaa.Rx.AV.undef :: (Go.Proofs.Ytpcohpkflkhfbaa.Rx.AV.undef :: (Go.Proofs.Ytpcohpkflkhfbaa.Rx.AV.undef :: (Go.Proofs.Ytpcohpkflkhfbaa.Rx.AV.undef :: (Go.Proofs.Ytpcohpkflkhfbaa.Rx.AV.undef :: (Go.Proofs.Ytpcohpkflkhfbaa.Rx.AV.undef :: (Go.Proofs.Ytpcohpkflkhfbaa.Rx.AV.undef :: (Go.Proofs.Ytpcohpkflkhfbaa.Rx.AV.undef :: (Go.Proofs.Ytpcohpkflkhfbaa.Rx.AV.undef :: (Go.Proofs.Ytpcohpkflkhfbaa.Rx.AV.undef :: (Go.Proofs.Ytpcohpkflkhfbaa.Rx.AV.undef :: (Go.Proofs.Ytpcohpkflkhfbaa.Rx.AV.undef :: (Go.Proofs.Ytpcohpkflkhfbaa.Rx.AV.undef :: (Go.Proofs.Ytpcohpkflkhfbaa.Rx.AV.undef :: (Go.Proofs.Ytpcohpkflkhfbaa.Rx.AV.undef :: (Go.Proofs.Ytpcohpkflkhfbaa.Rx.AV.undef :: (Go.Proofs.Ytpcohpkflkhfbaa.Rx.AV.undef :: (Go.Proofs.Ytpcohpkflkhfbaa.Rx.AV.undef :: (Go.Proofs.Ytpcohpkflkhfbaa.Rx.AV.undef :: (Go.Proofs.Ytpcohpkflkhfbaa.Rx.AV.undef :: (Go.Proofs.Ytpcohpkflkhfbaa.Rx.AV.undef :: (Go.Proofs.Ytpcohpkflkhfbaa.Rx.AV.undef :: []))))))))))))))))))))))))))))))))))))))))))))))))))))))))))))))))))))) ((1000000, (Go.Proofs.Ytpcohpkflkhfbaa.Rx.Ent.box ((Go.Proofs.Ytpcohpkflkhfbaa.Rx.SV.con (⟨5, Go.Proofs.Ytpcohpkflkhfbaa.Rx.Ty.int Go.IntKind.u8, x1⟩ : Rw)) :: ((Go.Proofs.Ytpcohpkflkhfbaa.Rx.SV.int (Go.IntKind.i64) x2) :: [])))) :: ((1000001, (Go.Proofs.Ytpcohpkflkhfbaa.Rx.Ent.box ((Go.Proofs.Ytpcohpkflkhfbaa.Rx.SV.int (Go.IntKind.i64) x3) :: (Go.Proofs.Ytpcohpkflkhfbaa.Rx.SV.nil :: (Go.Proofs.Ytpcohpkflkhfbaa.Rx.SV.nil :: []))))) :: ((1000002, (Go.Proofs.Ytpcohpkflkhfbaa.Rx.Ent.box ((Go.Proofs.Ytpcohpkflkhfbaa.Rx.SV.int (Go.IntKind.i64) x4) :: ((Go.Proofs.Ytpcohpkflkhfbaa.Rx.SV.ref 1000003 0 [] Option.none) :: ((Go.Proofs.Ytpcohpkflkhfbaa.Rx.SV.ref 1000004 0 [] Option.none) :: []))))) :: ((1000003, (Go.Proofs.Ytpcohpkflkhfbaa.Rx.Ent.row (⟨51, (Go.Proofs.Ytpcohpkflkhfbaa.Rx.Ty.int Go.IntKind.i64).pair   ((Go.Proofs.Ytpcohpkflkhfbaa.Rx.Ty.int Go.IntKind.i64).pair ((Go.Proofs.Ytpcohpkflkhfbaa.Rx.Ty.int Go.IntKind.i64).pair Go.Proofs.Ytpcohpkflkhfbaa.Rx.Ty.bool)), x5⟩ : Rw) 0 Option.none)) :: ((1000004, (Go.Proofs.Ytpcohpkflkhfbaa.Rx.Ent.row (⟨3, Go.Proofs.Ytpcohpkflkhfbaa.Rx.Ty.int Go.IntKind.i64, x6⟩ : Rw) 0 Option.none)) :: []))))))
noncomputable def st74_top (n : Nat) (lL3 : Int → (List Int) → Int → Int → Int → (List (Int × Int × Int × Bool)) → (List Int) → Option R74) (a : List Int × Int) : Option R74 :=
  (Go.Proofs.Ytpcohpkflkhfbaa.Rx.S.q81 n ((a.fst, a.snd), (4 : Int), ())).bind fun r0 => (Go.Proofs.Ytpcohpkflkhfbaa.Rx.S.q81 n ((r0.snd.fst.fst, r0.snd.fst.snd), (4 : Int), ())).bind fun r1 => (Go.Proofs.Ytpcohpkflkhfbaa.Rx.S.q110 n (Go.IntKind.i64.wrap ((1 : Int) + r0.fst.fst), r1.fst.fst, ())).bind fun r2 => (Go.Proofs.Ytpcohpkflkhfbaa.Rx.S.q81 n ((r1.snd.fst.fst, r1.snd.fst.snd), (40 : Int), ())).bind fun r3 => lL3 (r3.fst.fst) (r3.snd.fst.fst) (r3.snd.fst.snd) ((0 : Int)) (r2.fst.fst.fst) (r2.fst.fst.snd.fst) (r2.fst.fst.snd.snd)
noncomputable def st74_L3 (n : Nat) (lL3 : Int → (List Int) → Int → Int → Int → (List (Int × Int × Int × Bool)) → (List Int) → Option R74) (x0 : Int) (x1 : List Int) (x2 : Int) (x3 : Int) (x4 : Int) (x5 : List (Int × Int × Int × Bool)) (x6 : List Int) : Option R74 :=
  cond (decide ((0 : Int) < x0)) ((Go.Proofs.Ytpcohpkflkhfbaa.Rx.S.q81 n ((x1, x2), (↑x5.length : Int), ())).bind fun r5 => (Go.Proofs.Ytpcohpkflkhfbaa.Rx.S.q82 n ((x4, x5, x6), r5.fst.fst, ())).bind fun r6 => cond (r6.fst.fst) ((Go.Proofs.Ytpcohpkflkhfbaa.Rx.S.q83 n ((x4, x5, x6), ())).bind fun r7 => (Go.Proofs.Ytpcohpkflkhfbaa.Rx.S.q84 n ((r7.fst.fst.fst, r7.fst.fst.snd.fst, r7.fst.fst.snd.snd), r5.fst.fst, ())).bind fun r8 => lL3 (Go.IntKind.i64.wrap (x0 - (1 : Int))) (r5.snd.fst.fst) (r5.snd.fst.snd) (x3) (r8.fst.fst.fst) (r8.fst.fst.snd.fst) (r8.fst.fst.snd.snd)) (lL3 (Go.IntKind.i64.wrap (x0 - (1 : Int))) (r5.snd.fst.fst) (r5.snd.fst.snd) (x3) (x4) (x5) (x6))) ((Go.Proofs.Ytpcohpkflkhfbaa.Rx.S.q81 n ((x1, x2), (24 : Int), ())).bind fun r9 => cond (decide (r9.fst.fst = (0 : Int))) ((Go.Proofs.Ytpcohpkflkhfbaa.Rx.S.q81 n ((r9.snd.fst.fst, r9.snd.fst.snd), (4 : Int), ())).bind fun r10 => some (((r10.fst.fst, (x5, x6)), ()), ((r10.snd.fst.fst, r10.snd.fst.snd), ()))) (cond (decide (r9.fst.fst = (1 : Int))) ((Go.Proofs.Ytpcohpkflkhfbaa.Rx.S.q81 n ((r9.snd.fst.fst, r9.snd.fst.snd), (8 : Int), ())).bind fun r11 => cond (decide ((0 : Int) < (↑x5.length : Int))) (some (((x4, (x5.set (Int.toNat (0 : Int)) (r11.fst.fst, (x5.getD (Int.toNat (0 : Int)) ((0 : Int), (0 : Int), (0 : Int), false)).snd), x6)), ()), ((r11.snd.fst.fst, r11.snd.fst.snd), ()))) (none)) (cond (decide (r9.fst.fst = (2 : Int))) (cond (decide ((x6.length + [(0 : Int)].length) * (8 : Nat) ≤ (140737488355328 : Nat))) (some (((x4, (x5, x6 ++ [(0 : Int)])), ()), ((r9.snd.fst.fst, r9.snd.fst.snd), ()))) (none)) (cond (decide (r9.fst.fst = (3 : Int))) (cond (decide ((0 : Int) < (↑x5.length : Int))) (cond (decide ((0 : Int) < (↑x5.length : Int))) (some (((x4, (x5.set (Int.toNat (0 : Int))   ((x5.getD (Int.toNat (0 : Int)) ((0 : Int), (0 : Int), (0 : Int), false)).fst,     (x5.getD (Int.toNat (0 : Int)) ((0 : Int), (0 : Int), (0 : Int), false)).snd.fst,     (x5.getD (Int.toNat (0 : Int)) ((0 : Int), (0 : Int), (0 : Int), false)).snd.snd.fst,     !(x5.getD (Int.toNat (0 : Int)) ((0 : Int), (0 : Int), (0 : Int), false)).snd.snd.snd), x6)), ()), ((r9.snd.fst.fst, r9.snd.fst.snd), ()))) (none)) (none)) (some (((x4, (x5, x6)), ()), ((r9.snd.fst.fst, r9.snd.fst.snd), ())))))))
theorem e74_top (n : Nat) (a : List Int × Int) : runF TT G74 an74 Try.f74 c74 ps74 rs74 n (a, ()) = st74_top n (fun x0 x1 x2 x3 x4 x5 x6 => at74 n (.head 3) [n] (sh74_L3 x0 x1 x2 x3 x4 x5 x6)) a := by kernel_rfl
theorem e74_L3_0 (n : Nat) (x0 : Int) (x1 : List Int) (x2 : Int) (x3 : Int) (x4 : Int) (x5 : List (Int × Int × Int × Bool)) (x6 : List Int) : at74 n (.head 3) [0] (sh74_L3 x0 x1 x2 x3 x4 x5 x6) = none := by kernel_rfl
theorem e74_L3 (n : Nat) (m3 : Nat) (x0 : Int) (x1 : List Int) (x2 : Int) (x3 : Int) (x4 : Int) (x5 : List (Int × Int × Int × Bool)) (x6 : List Int) : at74 n (.head 3) [m3 + 1] (sh74_L3 x0 x1 x2 x3 x4 x5 x6) = st74_L3 n (fun x0 x1 x2 x3 x4 x5 x6 => at74 n (.head 3) [m3] (sh74_L3 x0 x1 x2 x3 x4 x5 x6)) x0 x1 x2 x3 x4 x5 x6 := by kernel_rfl
noncomputable def p74_L3 (n : Nat) : Nat → Int → (List Int) → Int → Int → Int → (List (Int × Int × Int × Bool)) → (List Int) → Option R74
  | 0, _, _, _, _, _, _, _ => none
  | m + 1, x0, x1, x2, x3, x4, x5, x6 => st74_L3 n (p74_L3 n m) x0 x1 x2 x3 x4 x5 x6
noncomputable def p74 (n : Nat) (a : List Int × Int) : Option R74 := st74_top n (p74_L3 n n) a
theorem t74_L3 (n : Nat) : ∀ (m3 : Nat) (x0 : Int) (x1 : List Int) (x2 : Int) (x3 : Int) (x4 : Int) (x5 : List (Int × Int × Int × Bool)) (x6 : List Int), at74 n (.head 3) [m3] (sh74_L3 x0 x1 x2 x3 x4 x5 x6) = p74_L3  n m3 x0 x1 x2 x3 x4 x5 x6 := by
  intro m
  induction m with
  | zero => intros; rw [e74_L3_0]; rfl
  | succ m ih =>
    intros
    rw [e74_L3]
    simp only [ih]
    rfl
theorem F74_eq (n : Nat) (a : List Int × Int) : runF TT G74 an74 Try.f74 c74 ps74 rs74 n (a, ()) = p74 n a := by
  rw [e74_top]
  simp only [t74_L3]
  try rfl
noncomputable def q74 (n : Nat) (x : argsD ps74) : Option R74 := p74 n x.1
noncomputable def Sm74 : Sm := ⟨ps74, rs74, true, q74⟩
theorem holds74 (hg : GamOK Try.prog G74) : Holds Try.prog 74 Sm74 := by
  have := h0_74 hg
  have e : (runF TT G74 an74 Try.f74 c74 ps74 rs74) = q74 := by
    funext n x
    exact F74_eq n x.1
  rw [e] at this
  exact this
theorem gam74 : GamOK Try.prog G74 := by
  intro f s h
  unfold G74 at h
  split at h
  · injection h with h; subst h; exact ⟨⟨Try.f81, c81, Try.func81, by kernel_rfl, by decide +kernel⟩, hh81⟩
  · injection h with h; subst h; exact ⟨⟨Try.f110, c110, Try.func110, by kernel_rfl, by decide +kernel⟩, hh110⟩
  · injection h with h; subst h; exact ⟨⟨Try.f82, c82, Try.func82, by kernel_rfl, by decide +kernel⟩, hh82⟩
  · injection h with h; subst h; exact ⟨⟨Try.f83, c83, Try.func83, by kernel_rfl, by decide +kernel⟩, hh83⟩
  · injection h with h; subst h; exact ⟨⟨Try.f84, c84, Try.func84, by kernel_rfl, by decide +kernel⟩, hh84⟩
  · cases h
theorem hh74 : Holds Try.prog 74 Sm74 := holds74 gam74
end Go.Proofs.Ytpcohpkflkhfbaa.Rx.S
namespace Go.Proofs.Ytpcohpkflkhfbaa.Rx.S
open Go Go.RowKit Go.Proofs
set_option maxRecDepth 100000
noncomputable def c22 : Code := (Try.f22.body.getD .skip)
def an22 : An := ⟨fun _ => ⟨[], []⟩, fun _ _ => none⟩
abbrev ps22 : List PK := [.val (.row 5 (.int .u8)) false]
abbrev rs22 : List RK := [.own tLock true]
abbrev R22 := retsD rs22 × outsD ps22
noncomputable def G22 : Gam := fun f => match f with | 73 => some Sm73 | 74 => some Sm74 | _ => none
theorem h0_22 (hg : GamOK Try.prog G22) : Holds Try.prog 22 ⟨ps22, rs22, true, runF TT G22 an22 Try.f22 c22 ps22 rs22⟩ := holds_of tt_ok hg mixed Try.func22 (by kernel_rfl) (by rfl) (by decide +kernel)
noncomputable def at22 : Nat → Pt → List Nat → St → Option R22 := atF TT G22 an22 Try.f22 c22 _ _
noncomputable def st22_top (n : Nat)  (a : List Int) : Option R22 :=
  (Go.Proofs.Ytpcohpkflkhfbaa.Rx.S.q73 n (a, ())).bind fun r0 => (Go.Proofs.Ytpcohpkflkhfbaa.Rx.S.q74 n ((r0.fst.fst.fst, r0.fst.fst.snd), ())).bind fun r1 => some (((r1.fst.fst.fst, (r1.fst.fst.snd.fst, r1.fst.fst.snd.snd)), ()), ())
theorem e22_top (n : Nat) (a : List Int) : runF TT G22 an22 Try.f22 c22 ps22 rs22 n (a, ()) = st22_top n  a := by kernel_rfl
noncomputable def p22 (n : Nat) (a : List Int) : Option R22 := st22_top n  a
theorem F22_eq (n : Nat) (a : List Int) : runF TT G22 an22 Try.f22 c22 ps22 rs22 n (a, ()) = p22 n a := by
  rw [e22_top]
  skip
  try rfl
noncomputable def q22 (n : Nat) (x : argsD ps22) : Option R22 := p22 n x.1
noncomputable def Sm22 : Sm := ⟨ps22, rs22, true, q22⟩
theorem holds22 (hg : GamOK Try.prog G22) : Holds Try.prog 22 Sm22 := by
  have := h0_22 hg
  have e : (runF TT G22 an22 Try.f22 c22 ps22 rs22) = q22 := by
    funext n x
    exact F22_eq n x.1
  rw [e] at this
  exact this
theorem gam22 : GamOK Try.prog G22 := by
  intro f s h
  unfold G22 at h
  split at h
  · injection h with h; subst h; exact ⟨⟨Try.f73, c73, Try.func73, by kernel_rfl, by decide +kernel⟩, hh73⟩
  · injection h with h; subst h; exact ⟨⟨Try.f74, c74, Try.func74, by kernel_rfl, by decide +kernel⟩, hh74⟩
  · cases h
theorem hh22 : Holds Try.prog 22 Sm22 := holds22 gam22
end Go.Proofs.Ytpcohpkflkhfbaa.Rx.S
namespace Go.Proofs.Ytpcohpkflkhfbaa.Rx.S
open Go Go.RowKit Go.Proofs
set_option maxRecDepth 100000
noncomputable def c27 : Code := (Try.f27.body.getD .skip)
def an27 : An := ⟨fun _ => ⟨[], []⟩, fun _ _ => none⟩
abbrev ps27 : List PK := [.val (.row 5 (.int .u8)) false]
abbrev rs27 : List RK := [.own tLock true, .val i64 false]
abbrev R27 := retsD rs27 × outsD ps27
noncomputable def G27 : Gam := fun f => match f with | 73 => some Sm73 | 74 => some Sm74 | 81 => some Sm81 | _ => none
theorem h0_27 (hg : GamOK Try.prog G27) : Holds Try.prog 27 ⟨ps27, rs27, true, runF TT G27 an27 Try.f27 c27 ps27 rs27⟩ := holds_of tt_ok hg mixed Try.func27 (by kernel_rfl) (by rfl) (by decide +kernel)
noncomputable def at27 : Nat → Pt → List Nat → St → Option R27 := atF TT G27 an27 Try.f27 c27 _ _
noncomputable def st27_top (n : Nat)  (a : List Int) : Option R27 :=
  (Go.Proofs.Ytpcohpkflkhfbaa.Rx.S.q73 n (a, ())).bind fun r0 => (Go.Proofs.Ytpcohpkflkhfbaa.Rx.S.q74 n ((r0.fst.fst.fst, r0.fst.fst.snd), ())).bind fun r1 => (Go.Proofs.Ytpcohpkflkhfbaa.Rx.S.q81 n ((r1.snd.fst.fst, r1.snd.fst.snd), (6 : Int), ())).bind fun r2 => some (((r1.fst.fst.fst, (r1.fst.fst.snd.fst, r1.fst.fst.snd.snd)), (Go.IntKind.i64.wrap (r2.fst.fst - (1 : Int)), ())), ())
theorem e27_top (n : Nat) (a : List Int) : runF TT G27 an27 Try.f27 c27 ps27 rs27 n (a, ()) = st27_top n  a := by kernel_rfl
noncomputable def p27 (n : Nat) (a : List Int) : Option R27 := st27_top n  a
theorem F27_eq (n : Nat) (a : List Int) : runF TT G27 an27 Try.f27 c27 ps27 rs27 n (a, ()) = p27 n a := by
  rw [e27_top]
  skip
  try rfl
noncomputable def q27 (n : Nat) (x : argsD ps27) : Option R27 := p27 n x.1
noncomputable def Sm27 : Sm := ⟨ps27, rs27, true, q27⟩
theorem holds27 (hg : GamOK Try.prog G27) : Holds Try.prog 27 Sm27 := by
  have := h0_27 hg
  have e : (runF TT G27 an27 Try.f27 c27 ps27 rs27) = q27 := by
    funext n x
    exact F27_eq n x.1
  rw [e] at this
  exact this
theorem gam27 : GamOK Try.prog G27 := by
  intro f s h
  unfold G27 at h
  split at h
  · injection h with h; subst h; exact ⟨⟨Try.f73, c73, Try.func73, by kernel_rfl, by decide +kernel⟩, hh73⟩
  · injection h with h; subst h; exact ⟨⟨Try.f74, c74, Try.func74, by kernel_rfl, by decide +kernel⟩, hh74⟩
  · injection h with h; subst h; exact ⟨⟨Try.f81, c81, Try.func81, by kernel_rfl, by decide +kernel⟩, hh81⟩
  · cases h
theorem hh27 : Holds Try.prog 27 Sm27 := holds27 gam27
end Go.Proofs.Ytpcohpkflkhfbaa.Rx.S
namespace Go.Proofs.Ytpcohpkflkhfbaa.Rx.S
open Go Go.RowKit Go.Proofs
set_option maxRecDepth 100000
noncomputable def c33 : Code := (Try.f33.body.getD .skip)
def an33 : An := ⟨fun r => match r with | 4 => ⟨[2, 4, 5, 6], []⟩ | _ => ⟨[], []⟩, fun _ _ => none⟩
abbrev ps33 : List PK := [.val (.row 5 (.int .u8)) false]
abbrev rs33 : List RK := [.own tLock true, .own (.row 3 i64) false]
abbrev R33 := retsD rs33 × outsD ps33
noncomputable def G33 : Gam := fun f => match f with | 73 => some Sm73 | 74 => some Sm74 | 81 => some Sm81 | _ => none
theorem h0_33 (hg : GamOK Try.prog G33) : Holds Try.prog 33 ⟨ps33, rs33, true, runF TT G33 an33 Try.f33 c33 ps33 rs33⟩ := holds_of tt_ok hg mixed Try.func33 (by kernel_rfl) (by rfl) (by decide +kernel)
noncomputable def at33 : Nat → Pt → List Nat → St → Option R33 := atF TT G33 an33 Try.f33 c33 _ _
def sh33_L4 (x0 : Int) (x1 : Int) (x2 : List Int) (x3 : Int) (x4 : List Int) : St := (Go.Proofs.Ytpcohpkflkhfbaa.Rx.St.mk (Go.Proofs.Ytpcohpkflkhfbaa.Rx.AV.undef :: (Go.Proofs.Ytpcohpkflkhfbaa.Rx.AV.undef :: ((Go.Proofs.Ytpcohpkflkhfbaa.Rx.AV.one (Go.Proofs.Ytpcohpkflkhfbaa.Rx.SV.bptr 1000000 0)) :: (Go.Proofs.Ytpcohpkflkhfbaa.Rx.AV.undef :: ((Go.Proofs.Ytpcohpkflkhfbaa.Rx.AV.one (Go.Proofs.Ytpcohpkflkhfbaa.Rx.SV.bptr 1000001 0)) :: ((Go.Proofs.Ytpcohpkflkhfbaa.Rx.AV.one (Go.Proofs.Ytpcohpkflkhfbaa.Rx.SV.ref 1000002 0 [] Option.none)) :: ((Go.Proofs.Ytpcohpkflkhfbaa.Rx.AV.one (Go.Proofs.Ytpcohpkflkhfbaa.Rx.SV.int (Go.IntKind.i64) x0)) :: (Go.Proofs.Ytpcohpkflkhfbaa.Rx.AV.undef :: (Go.Proofs.Ytpcohpkflkhfbaa.Rx.AV.undef :: (Go.Proofs.Ytpcohpkflkhfbaa.Rx.AV.undef :: (Go.Proofs.Ytpcohpkflkhfbaa.Rx.AV.undef :: (Go.Proofs.Ytpcohpkflkhfbaa.Rx.AV.undef :: (Go.Proofs.Ytpcohpkflkhfbaa.Rx.AV.undef :: (Go.Proofs.Ytpcohpkflkhfbaa.Rx.AV.undef :: (Go.Proofs.Ytpcohpkflkhfbaa.Rx.AV.undef :: (Go.Proofs.Ytpcohpkflkhfbaa.Rx.AV.undef :: (Go.Proofs.Ytpcohpkflkhfbaa.Rx.AV.undef :: (Go.Proofs.Ytpcohpkflkhfbaa.Rx.AV.undef :: (Go.Proofs.Ytpcohpkflkhfbaa.Rx.AV.undef :: (Go.Proofs.Ytpcohpkflkhfbaa.Rx.AV.undef :: (Go.Proofs.Ytpcohpkflkhfbaa.Rx.AV.undef :: (Go.Proofs.Ytpcohpkflkhfbaa.Rx.AV.undef :: (Go.Proofs.Ytpcohpkflkhfbaa.Rx.AV.undef :: (Go.Proofs.Ytpcohpkflkhfbaa.Rx.AV.undef :: (Go.Proofs.Ytpcohpkflkhfbaa.Rx.AV.undef :: (Go.Proofs.Ytpcohpkflkhfbaa.Rx.AV.undef :: (Go.Proofs.Ytpcohpkflkhfbaa.Rx.AV.undef :: (Go.Proofs.Ytpcohpkflkhfbaa.Rx.AV.undef :: [])))))))))))))))))))))))))))) ((1000000, (Go.Proofs.Ytpcohpkflkhfbaa.Rx.Ent.box ((Go.Proofs.Ytpcohpkflkhfbaa.Rx.SV.int (Go.IntKind.i64) x1) :: (Go.Proofs.Ytpcohpkflkhfbaa.Rx.SV.nil :: (Go.Proofs.Ytpcohpkflkhfbaa.Rx.SV.nil :: []))))) :: ((1000001, (Go.Proofs.Ytpcohpkflkhfbaa.Rx.Ent.box ((Go.Proofs.Ytpcohpkflkhfbaa.Rx.SV.con (⟨5, Go.Proofs.Ytpcohpkflkhfbaa.Rx.Ty.int Go.IntKind.u8, x2⟩ : Rw)) :: ((Go.Proofs.Ytpcohpkflkhfbaa.Rx.SV.int (Go.IntKind.i64) x3) :: [])))) :: ((1000002, (Go.Proofs.Ytpcohpkflkhfbaa.Rx.Ent.row (⟨3, Go.Proofs.Ytpcohpkflkhfbaa.Rx.Ty.int Go.IntKind.i64, x4⟩ : Rw) 0 Option.none)) :: []))))
noncomputable def st33_top (n : Nat) (lL4 : Int → Int → (List Int) → Int → (List Int) → Option R33) (a : List Int) : Option R33 :=
  (Go.Proofs.Ytpcohpkflkhfbaa.Rx.S.q73 n (a, ())).bind fun r0 => (Go.Proofs.Ytpcohpkflkhfbaa.Rx.S.q81 n ((r0.fst.fst.fst, r0.fst.fst.snd), (40 : Int), ())).bind fun r1 => lL4 (r1.fst.fst) ((0 : Int)) (r1.snd.fst.fst) (r1.snd.fst.snd) ([])
noncomputable def st33_L4 (n : Nat) (lL4 : Int → Int → (List Int) → Int → (List Int) → Option R33) (x0 : Int) (x1 : Int) (x2 : List Int) (x3 : Int) (x4 : List Int) : Option R33 :=
  cond (decide ((0 : Int) < x0)) ((Go.Proofs.Ytpcohpkflkhfbaa.Rx.S.q81 n ((x2, x3), (5 : Int), ())).bind fun r3 => (Go.Proofs.Ytpcohpkflkhfbaa.Rx.S.q81 n ((r3.snd.fst.fst, r3.snd.fst.snd), (9 : Int), ())).bind fun r4 => cond (decide   ((x4.length + [Go.IntKind.i64.wrap (r3.fst.fst - Go.IntKind.i64.wrap (Int.tdiv r4.fst.fst (8 : Int)))].length) *       (8 : Nat) ≤     (140737488355328 : Nat))) (lL4 (Go.IntKind.i64.wrap (x0 - (1 : Int))) (x1) (r4.snd.fst.fst) (r4.snd.fst.snd) (x4 ++ [Go.IntKind.i64.wrap (r3.fst.fst - Go.IntKind.i64.wrap (Int.tdiv r4.fst.fst (8 : Int)))])) (none)) ((Go.Proofs.Ytpcohpkflkhfbaa.Rx.S.q74 n ((x2, x3), ())).bind fun r5 => some (((r5.fst.fst.fst, (r5.fst.fst.snd.fst, r5.fst.fst.snd.snd)), (x4, ())), ()))
theorem e33_top (n : Nat) (a : List Int) : runF TT G33 an33 Try.f33 c33 ps33 rs33 n (a, ()) = st33_top n (fun x0 x1 x2 x3 x4 => at33 n (.head 4) [n] (sh33_L4 x0 x1 x2 x3 x4)) a := by kernel_rfl
theorem e33_L4_0 (n : Nat) (x0 : Int) (x1 : Int) (x2 : List Int) (x3 : Int) (x4 : List Int) : at33 n (.head 4) [0] (sh33_L4 x0 x1 x2 x3 x4) = none := by kernel_rfl
theorem e33_L4 (n : Nat) (m4 : Nat) (x0 : Int) (x1 : Int) (x2 : List Int) (x3 : Int) (x4 : List Int) : at33 n (.head 4) [m4 + 1] (sh33_L4 x0 x1 x2 x3 x4) = st33_L4 n (fun x0 x1 x2 x3 x4 => at33 n (.head 4) [m4] (sh33_L4 x0 x1 x2 x3 x4)) x0 x1 x2 x3 x4 := by kernel_rfl
noncomputable def p33_L4 (n : Nat) : Nat → Int → Int → (List Int) → Int → (List Int) → Option R33
  | 0, _, _, _, _, _ => none
  | m + 1, x0, x1, x2, x3, x4 => st33_L4 n (p33_L4 n m) x0 x1 x2 x3 x4
noncomputable def p33 (n : Nat) (a : List Int) : Option R33 := st33_top n (p33_L4 n n) a
theorem t33_L4 (n : Nat) : ∀ (m4 : Nat) (x0 : Int) (x1 : Int) (x2 : List Int) (x3 : Int) (x4 : List Int), at33 n (.head 4) [m4] (sh33_L4 x0 x1 x2 x3 x4) = p33_L4  n m4 x0 x1 x2 x3 x4 := by
  intro m
  induction m with
  | zero => intros; rw [e33_L4_0]; rfl
  | succ m ih =>
    intros
    rw [e33_L4]
    simp only [ih]
    rfl
theorem F33_eq (n : Nat) (a : List Int) : runF TT G33 an33 Try.f33 c33 ps33 rs33 n (a, ()) = p33 n a := by
  rw [e33_top]
  simp only [t33_L4]
  try rfl
noncomputable def q33 (n : Nat) (x : argsD ps33) : Option R33 := p33 n x.1
noncomputable def Sm33 : Sm := ⟨ps33, rs33, true, q33⟩
theorem holds33 (hg : GamOK Try.prog G33) : Holds Try.prog 33 Sm33 := by
  have := h0_33 hg
  have e : (runF TT G33 an33 Try.f33 c33 ps33 rs33) = q33 := by
    funext n x
    exact F33_eq n x.1
  rw [e] at this
  exact this
theorem gam33 : GamOK Try.prog G33 := by
  intro f s h
  unfold G33 at h
  split at h
  · injection h with h; subst h; exact ⟨⟨Try.f73, c73, Try.func73, by kernel_rfl, by decide +kernel⟩, hh73⟩
  · injection h with h; subst h; exact ⟨⟨Try.f74, c74, Try.func74, by kernel_rfl, by decide +kernel⟩, hh74⟩
  · injection h with h; subst h; exact ⟨⟨Try.f81, c81, Try.func81, by kernel_rfl, by decide +kernel⟩, hh81⟩
  · cases h
theorem hh33 : Holds Try.prog 33 Sm33 := holds33 gam33
end Go.Proofs.Ytpcohpkflkhfbaa.Rx.S
namespace Go.Proofs.Ytpcohpkflkhfbaa.Rx.S
open Go Go.RowKit Go.Proofs
set_option maxRecDepth 100000
noncomputable def c30 : Code := (Try.f30.body.getD .skip)
def an30 : An := ⟨fun r => match r with | 6 => ⟨[2, 3, 4, 5], [(3004, 3, i64)]⟩ | _ => ⟨[], []⟩, fun _ _ => none⟩
abbrev ps30 : List PK := [.val (.row 5 (.int .u8)) false]
abbrev rs30 : List RK := [.own tLock true]
abbrev R30 := retsD rs30 × outsD ps30
noncomputable def G30 : Gam := fun f => match f with | 73 => some Sm73 | 74 => some Sm74 | 81 => some Sm81 | _ => none
theorem h0_30 (hg : GamOK Try.prog G30) : Holds Try.prog 30 ⟨ps30, rs30, true, runF TT G30 an30 Try.f30 c30 ps30 rs30⟩ := holds_of tt_ok hg mixed Try.func30 (by kernel_rfl) (by rfl) (by decide +kernel)
noncomputable def at30 : Nat → Pt → List Nat → St → Option R30 := atF TT G30 an30 Try.f30 c30 _ _
def sh30_L6 (x0 : Int) (x1 : Int) (x2 : List Int) (x3 : Int) (x4 : Int) (x5 : List (Int × Int × Int × Bool)) (x6 : List Int) : St := (Go.Proofs.Ytpcohpkflkhfbaa.Rx.St.mk (Go.Proofs.Ytpcohpkflkhfbaa.Rx.AV.undef :: (Go.Proofs.Ytpcohpkflkhfbaa.Rx.AV.undef :: ((Go.Proofs.Ytpcohpkflkhfbaa.Rx.AV.one (Go.Proofs.Ytpcohpkflkhfbaa.Rx.SV.bptr 1000000 0)) :: ((Go.Proofs.Ytpcohpkflkhfbaa.Rx.AV.one (Go.Proofs.Ytpcohpkflkhfbaa.Rx.SV.bptr 1000001 0)) :: ((Go.Proofs.Ytpcohpkflkhfbaa.Rx.AV.one (Go.Proofs.Ytpcohpkflkhfbaa.Rx.SV.bptr 1000002 0)) :: ((Go.Proofs.Ytpcohpkflkhfbaa.Rx.AV.one (Go.Proofs.Ytpcohpkflkhfbaa.Rx.SV.int (Go.IntKind.i64) x0)) :: (Go.Proofs.Ytpcohpkflkhfbaa.Rx.AV.undef :: (Go.Proofs.Ytpcohpkflkhfbaa.Rx.AV.undef :: (Go.Proofs.Ytpcohpkflkhfbaa.Rx.AV.undef :: (Go.Proofs.Ytpcohpkflkhfbaa.Rx.AV.undef :: (Go.Proofs.Ytpcohpkflkhfbaa.Rx.AV.undef :: (Go.Proofs.Ytpcohpkflkhfbaa.Rx.AV.undef :: (Go.Proofs.Ytpcohpkflkhfbaa.Rx.AV.undef :: (Go.Proofs.Ytpcohpkflkhfbaa.Rx.AV.undef :: (Go.Proofs.Ytpcohpkflkhfbaa.Rx.AV.undef :: (Go.Proofs.Ytpcohpkflkhfbaa.Rx.AV.undef :: (Go.Proofs.Ytpcohpkflkhfbaa.Rx.AV.undef :: (Go.Proofs.Ytpcohpkflkhfbaa.Rx.AV.undef :: (Go.Proofs.Ytpcohpkflkhfbaa.Rx.AV.undef :: (Go.Proofs.Ytpcohpkflkhfbaa.Rx.AV.undef :: (Go.Proofs.Ytpcohpkflkhfbaa.Rx.AV.undef :: (Go.Proofs.Ytpcohpkflkhfbaa.Rx.AV.undef :: (Go.Proofs.Ytpcohpkflkhfbaa.Rx.AV.undef :: (Go.Proofs.Ytpcohpkflkhfbaa.Rx.AV.undef :: (Go.Proofs.Ytpcohpkflkhfbaa.Rx.AV.undef :: (Go.Proofs.Ytpcohpkflkhfbaa.Rx.AV.undef :: (Go.Proofs.Ytpcohpkflkhfbaa.Rx.AV.undef :: (Go.Proofs.Ytpcohpkflkhfbaa.Rx.AV.undef :: (Go.Proofs.Ytpcohpkflkhfbaa.Rx.AV.undef :: (Go.Proofs.Ytpcohpkflkhfbaa.Rx.AV.undef :: (Go.Proofs.Ytpcohpkflkhfbaa.Rx.AV.undef :: (Go.Proofs.Ytpcohpkflkhfbaa.Rx.AV.undef :: (Go.Proofs.Ytpcohpkflkhfbaa.Rx.AV.undef :: (Go.Proofs.Ytpcohpkflkhfbaa.Rx.AV.undef :: (Go.Proofs.Ytpcohpkflkhfbaa.Rx.AV.undef :: (Go.Proofs.Ytpcohpkflkhfbaa.Rx.AV.undef :: (Go.Proofs.Ytpcohpkflkhfbaa.Rx.AV.undef :: (Go.Proofs.Ytpcohpkflkhfbaa.Rx.AV.undef :: (Go.Proofs.Ytpcohpkflkhfbaa.Rx.AV.undef :: (Go.Proofs.Ytpcohpkflkhfbaa.Rx.AV.undef :: (Go.Proofs.Ytpcohpkflkhfbaa.Rx.AV.undef :: (Go.Proofs.Ytpcohpkflkhfbaa.Rx.AV.undef :: (Go.Proofs.Ytpcohpkflkhfbaa.Rx.AV.undef :: (Go.Proofs.Ytpcohpkflkhfbaa.Rx.AV.undef :: [])))))))))))))))))))))))))))))))))))))))))))) ((1000000, (Go.Proofs.Ytpcohpkflkhfbaa.Rx.Ent.box ((Go.Proofs.Ytpcohpkflkhfbaa.Rx.SV.int (Go.IntKind.i64) x1) :: (Go.Proofs.Ytpcohpkflkhfbaa.Rx.SV.nil :: (Go.Proofs.Ytpcohpkflkhfbaa.Rx.SV.nil :: []))))) :: ((1000001, (Go.Proofs.Ytpcohpkflkhfbaa.Rx.Ent.box ((Go.Proofs.Ytpcohpkflkhfbaa.Rx.SV.con (⟨5, Go.Proofs.Ytpcohpkflkhfbaa.Rx.Ty.int Go.IntKind.u8, x2⟩ : Rw)) :: ((Go.Proofs.Ytpcohpkflkhfbaa.Rx.SV.int (Go.IntKind.i64) x3) :: [])))) :: ((1000002, (Go.Proofs.Ytpcohpkflkhfbaa.Rx.Ent.box ((Go.Proofs.Ytpcohpkflkhfbaa.Rx.SV.int (Go.IntKind.i64) x4) :: ((Go.Proofs.Ytpcohpkflkhfbaa.Rx.SV.ref 1000003 0 [] Option.none) :: ((Go.Proofs.Ytpcohpkflkhfbaa.Rx.SV.ref 1000004 0 [] Option.none) :: []))))) :: ((1000003, (Go.Proofs.Ytpcohpkflkhfbaa.Rx.Ent.row (⟨51, (Go.Proofs.Ytpcohpkflkhfbaa.Rx.Ty.int Go.IntKind.i64).pair   ((Go.Proofs.Ytpcohpkflkhfbaa.Rx.Ty.int Go.IntKind.i64).pair ((Go.Proofs.Ytpcohpkflkhfbaa.Rx.Ty.int Go.IntKind.i64).pair Go.Proofs.Ytpcohpkflkhfbaa.Rx.Ty.bool)), x5⟩ : Rw) 0 Option.none)) :: ((1000004, (Go.Proofs.Ytpcohpkflkhfbaa.Rx.Ent.row (⟨3, Go.Proofs.Ytpcohpkflkhfbaa.Rx.Ty.int Go.IntKind.i64, x6⟩ : Rw) 0 Option.none)) :: []))))))
noncomputable def st30_top (n : Nat) (lL6 : Int → Int → (List Int) → Int → Int → (List (Int × Int × Int × Bool)) → (List Int) → Option R30) (a : List Int) : Option R30 :=
  (Go.Proofs.Ytpcohpkflkhfbaa.Rx.S.q73 n (a, ())).bind fun r0 => (Go.Proofs.Ytpcohpkflkhfbaa.Rx.S.q74 n ((r0.fst.fst.fst, r0.fst.fst.snd), ())).bind fun r1 => (Go.Proofs.Ytpcohpkflkhfbaa.Rx.S.q81 n ((r1.snd.fst.fst, r1.snd.fst.snd), (3 : Int), ())).bind fun r2 => cond (decide (r2.fst.fst = (0 : Int))) (lL6 ((0 : Int)) ((0 : Int)) (r2.snd.fst.fst) (r2.snd.fst.snd) (r1.fst.fst.fst) (r1.fst.fst.snd.fst) ([])) (some (((r1.fst.fst.fst, (r1.fst.fst.snd.fst, r1.fst.fst.snd.snd)), ()), ()))
noncomputable def st30_L6 (n : Nat) (lL6 : Int → Int → (List Int) → Int → Int → (List (Int × Int × Int × Bool)) → (List Int) → Option R30) (x0 : Int) (x1 : Int) (x2 : List Int) (x3 : Int) (x4 : Int) (x5 : List (Int × Int × Int × Bool)) (x6 : List Int) : Option R30 :=
  cond (decide (x0 < (↑x5.length : Int))) (cond (decide ((0 : Int) ≤ x0)) (cond (decide (x0 < (↑x5.length : Int))) ((Go.Proofs.Ytpcohpkflkhfbaa.Rx.S.q81 n ((x2, x3), (3 : Int), ())).bind fun r4 => cond (decide ((0 : Int) < r4.fst.fst)) ((Go.Proofs.Ytpcohpkflkhfbaa.Rx.S.q81 n ((r4.snd.fst.fst, r4.snd.fst.snd), (3 : Int), ())).bind fun r5 => cond (decide ((0 : Int) ≤ x0)) (cond (decide (x0 < (↑(x5.set x0.toNat ((0 : Int), (0 : Int), (0 : Int), false)).length : Int))) (cond (decide ((x6.length + [x0].length) * (8 : Nat) ≤ (140737488355328 : Nat))) (lL6 (Go.IntKind.i64.wrap (x0 + (1 : Int))) (x1) (r5.snd.fst.fst) (r5.snd.fst.snd) (x4) ((x5.set x0.toNat ((0 : Int), (0 : Int), (0 : Int), false)).set x0.toNat   ((3 : Int), (0 : Int), Go.IntKind.i64.wrap ((1 : Int) + r5.fst.fst), true)) (x6 ++ [x0])) (none)) (none)) (none)) (lL6 (Go.IntKind.i64.wrap (x0 + (1 : Int))) (x1) (r4.snd.fst.fst) (r4.snd.fst.snd) (x4) (x5.set x0.toNat ((0 : Int), (0 : Int), (0 : Int), false)) (x6))) (none)) (none)) (some (((x4, (x5, x6)), ()), ()))
theorem e30_top (n : Nat) (a : List Int) : runF TT G30 an30 Try.f30 c30 ps30 rs30 n (a, ()) = st30_top n (fun x0 x1 x2 x3 x4 x5 x6 => at30 n (.head 6) [n] (sh30_L6 x0 x1 x2 x3 x4 x5 x6)) a := by kernel_rfl
theorem e30_L6_0 (n : Nat) (x0 : Int) (x1 : Int) (x2 : List Int) (x3 : Int) (x4 : Int) (x5 : List (Int × Int × Int × Bool)) (x6 : List Int) : at30 n (.head 6) [0] (sh30_L6 x0 x1 x2 x3 x4 x5 x6) = none := by kernel_rfl
theorem e30_L6 (n : Nat) (m6 : Nat) (x0 : Int) (x1 : Int) (x2 : List Int) (x3 : Int) (x4 : Int) (x5 : List (Int × Int × Int × Bool)) (x6 : List Int) : at30 n (.head 6) [m6 + 1] (sh30_L6 x0 x1 x2 x3 x4 x5 x6) = st30_L6 n (fun x0 x1 x2 x3 x4 x5 x6 => at30 n (.head 6) [m6] (sh30_L6 x0 x1 x2 x3 x4 x5 x6)) x0 x1 x2 x3 x4 x5 x6 := by kernel_rfl
noncomputable def p30_L6 (n : Nat) : Nat → Int → Int → (List Int) → Int → Int → (List (Int × Int × Int × Bool)) → (List Int) → Option R30
  | 0, _, _, _, _, _, _, _ => none
  | m + 1, x0, x1, x2, x3, x4, x5, x6 => st30_L6 n (p30_L6 n m) x0 x1 x2 x3 x4 x5 x6
noncomputable def p30 (n : Nat) (a : List Int) : Option R30 := st30_top n (p30_L6 n n) a
theorem t30_L6 (n : Nat) : ∀ (m6 : Nat) (x0 : Int) (x1 : Int) (x2 : List Int) (x3 : Int) (x4 : Int) (x5 : List (Int × Int × Int × Bool)) (x6 : List Int), at30 n (.head 6) [m6] (sh30_L6 x0 x1 x2 x3 x4 x5 x6) = p30_L6  n m6 x0 x1 x2 x3 x4 x5 x6 := by
  intro m
  induction m with
  | zero => intros; rw [e30_L6_0]; rfl
  | succ m ih =>
    intros
    rw [e30_L6]
    simp only [ih]
    rfl
theorem F30_eq (n : Nat) (a : List Int) : runF TT G30 an30 Try.f30 c30 ps30 rs30 n (a, ()) = p30 n a := by
  rw [e30_top]
  simp only [t30_L6]
  try rfl
noncomputable def q30 (n : Nat) (x : argsD ps30) : Option R30 := p30 n x.1
noncomputable def Sm30 : Sm := ⟨ps30, rs30, true, q30⟩
theorem holds30 (hg : GamOK Try.prog G30) : Holds Try.prog 30 Sm30 := by
  have := h0_30 hg
  have e : (runF TT G30 an30 Try.f30 c30 ps30 rs30) = q30 := by
    funext n x
    exact F30_eq n x.1
  rw [e] at this
  exact this
theorem gam30 : GamOK Try.prog G30 := by
  intro f s h
  unfold G30 at h
  split at h
  · injection h with h; subst h; exact ⟨⟨Try.f73, c73, Try.func73, by kernel_rfl, by decide +kernel⟩, hh73⟩
  · injection h with h; subst h; exact ⟨⟨Try.f74, c74, Try.func74, by kernel_rfl, by decide +kernel⟩, hh74⟩
  · injection h with h; subst h; exact ⟨⟨Try.f81, c81, Try.func81, by kernel_rfl, by decide +kernel⟩, hh81⟩
  · cases h
theorem hh30 : Holds Try.prog 30 Sm30 := holds30 gam30
end Go.Proofs.Ytpcohpkflkhfbaa.Rx.S
namespace Go.Proofs.Ytpcohpkflkhfbaa.Rx.S
open Go Go.RowKit Go.Proofs
set_option maxRecDepth 100000
noncomputable def c25 : Code := (Try.f25.body.getD .skip)
def an25 : An := ⟨fun r => match r with | 5 => ⟨[4, 6, 7, 16, 17, 18], []⟩ | _ => ⟨[], []⟩, fun _ _ => none⟩
abbrev ps25 : List PK := [.val tLock true, .val (.row 3 i64) false]
abbrev rs25 : List RK := [.own tLock true, .val i64 false]
abbrev R25 := retsD rs25 × outsD ps25
noncomputable def G25 : Gam := fun f => match f with | 23 => some Sm23 | 62 => some Sm62 | 78 => some Sm78 | 77 => some Sm77 | 79 => some Sm79 | _ => none
theorem h0_25 (hg : GamOK Try.prog G25) : Holds Try.prog 25 ⟨ps25, rs25, false, runF TT G25 an25 Try.f25 c25 ps25 rs25⟩ := holds_of tt_ok hg mixed Try.func25 (by kernel_rfl) (by rfl) (by decide +kernel)
noncomputable def at25 : Nat → Pt → List Nat → St → Option R25 := atF TT G25 an25 Try.f25 c25 _ _
def sh25_L5 (x0 : Int) (x1 : List Int) (x2 : Int) (x3 : Int) (x4 : Int) (x5 : Int) (x6 : List (Int × Int × Int × Bool)) (x7 : List Int) : St := (Go.Proofs.Ytpcohpkflkhfbaa.Rx.St.mk (Go.Proofs.Ytpcohpkflkhfbaa.Rx.AV.undef :: (Go.Proofs.Ytpcohpkflkhfbaa.Rx.AV.undef :: (Go.Proofs.Ytpcohpkflkhfbaa.Rx.AV.undef :: (Go.Proofs.Ytpcohpkflkhfbaa.Rx.AV.undef :: ((Go.Proofs.Ytpcohpkflkhfbaa.Rx.AV.one (Go.Proofs.Ytpcohpkflkhfbaa.Rx.SV.bptr 1000000 0)) :: (Go.Proofs.Ytpcohpkflkhfbaa.Rx.AV.undef :: ((Go.Proofs.Ytpcohpkflkhfbaa.Rx.AV.one (Go.Proofs.Ytpcohpkflkhfbaa.Rx.SV.bptr 1000001 0)) :: ((Go.Proofs.Ytpcohpkflkhfbaa.Rx.AV.one (Go.Proofs.Ytpcohpkflkhfbaa.Rx.SV.int (Go.IntKind.i64) x0)) :: (Go.Proofs.Ytpcohpkflkhfbaa.Rx.AV.undef :: (Go.Proofs.Ytpcohpkflkhfbaa.Rx.AV.undef :: (Go.Proofs.Ytpcohpkflkhfbaa.Rx.AV.undef :: (Go.Proofs.Ytpcohpkflkhfbaa.Rx.AV.undef :: (Go.Proofs.Ytpcohpkflkhfbaa.Rx.AV.undef :: (Go.Proofs.Ytpcohpkflkhfbaa.Rx.AV.undef :: (Go.Proofs.Ytpcohpkflkhfbaa.Rx.AV.undef :: (Go.Proofs.Ytpcohpkflkhfbaa.Rx.AV.undef :: ((Go.Proofs.Ytpcohpkflkhfbaa.Rx.AV.one (Go.Proofs.Ytpcohpkflkhfbaa.Rx.SV.con (⟨3, Go.Proofs.Ytpcohpkflkhfbaa.Rx.Ty.int Go.IntKind.i64, x1⟩ : Rw))) :: ((Go.Proofs.Ytpcohpkflkhfbaa.Rx.AV.one (Go.Proofs.Ytpcohpkflkhfbaa.Rx.SV.int (Go.IntKind.i64) x2)) :: ((Go.Proofs.Ytpcohpkflkhfbaa.Rx.AV.one (Go.Proofs.Ytpcohpkflkhfbaa.Rx.SV.int (Go.IntKind.i64) x3)) :: (Go.Proofs.Ytpcohpkflkhfbaa.Rx.AV.undef :: (Go.Proofs.Ytpcohpkflkhfbaa.Rx.AV.undef :: (Go.Proofs.Ytpcohpkflkhfbaa.Rx.AV.undef :: (Go.Proofs.Ytpcohpkflkhfbaa.Rx.AV.undef :: (Go.Proofs.Ytpcohpkflkhfbaa.Rx.AV.undef :: (Go.Proofs.Ytpcohpkflkhfbaa.Rx.AV.undef :: (Go.Proofs.Ytpcohpkflkhfbaa.Rx.AV.undef :: (Go.Proofs.Ytpcohpkflkhfbaa.Rx.AV.undef :: (Go.Proofs.Ytpcohpkflkhfbaa.Rx.AV.undef :: (Go.Proofs.Ytpcohpkflkhfbaa.Rx.AV.undef :: (Go.Proofs.Ytpcohpkflkhfbaa.Rx.AV.undef :: (Go.Proofs.Ytpcohpkflkhfbaa.Rx.AV.undef :: (Go.Proofs.Ytpcohpkflkhfbaa.Rx.AV.undef :: (Go.Proofs.Ytpcohpkflkhfbaa.Rx.AV.undef :: (Go.Proofs.Ytpcohpkflkhfbaa.Rx.AV.undef :: (Go.Proofs.Ytpcohpkflkhfbaa.Rx.AV.undef :: (Go.Proofs.Ytpcohpkflkhfbaa.Rx.AV.undef :: (Go.Proofs.Ytpcohpkflkhfbaa.Rx.AV.undef :: (Go.Proofs.Ytpcohpkflkhfbaa.Rx.AV.undef :: (Go.Proofs.Ytpcohpkflkhfbaa.Rx.AV.undef :: (Go.Proofs.Ytpcohpkflkhfbaa.Rx.AV.undef :: (Go.Proofs.Ytpcohpkflkhfbaa.Rx.AV.undef :: []))))))))))))))))))))))))))))))))))))))))) ((1000000, (Go.Proofs.Ytpcohpkflkhfbaa.Rx.Ent.box ((Go.Proofs.Ytpcohpkflkhfbaa.Rx.SV.int (Go.IntKind.i64) x4) :: (Go.Proofs.Ytpcohpkflkhfbaa.Rx.SV.nil :: (Go.Proofs.Ytpcohpkflkhfbaa.Rx.SV.nil :: []))))) :: ((1000001, (Go.Proofs.Ytpcohpkflkhfbaa.Rx.Ent.box ((Go.Proofs.Ytpcohpkflkhfbaa.Rx.SV.int (Go.IntKind.i64) x5) :: ((Go.Proofs.Ytpcohpkflkhfbaa.Rx.SV.ref 1000002 0 [] Option.none) :: ((Go.Proofs.Ytpcohpkflkhfbaa.Rx.SV.ref 1000003 0 [] Option.none) :: []))))) :: ((1000002, (Go.Proofs.Ytpcohpkflkhfbaa.Rx.Ent.row (⟨51, (Go.Proofs.Ytpcohpkflkhfbaa.Rx.Ty.int Go.IntKind.i64).pair   ((Go.Proofs.Ytpcohpkflkhfbaa.Rx.Ty.int Go.IntKind.i64).pair ((Go.Proofs.Ytpcohpkflkhfbaa.Rx.Ty.int Go.IntKind.i64).pair Go.Proofs.Ytpcohpkflkhfbaa.Rx.Ty.bool)), x6⟩ : Rw) 0 Option.none)) :: ((1000003, (Go.Proofs.Ytpcohpkflkhfbaa.Rx.Ent.row (⟨3, Go.Proofs.Ytpcohpkflkhfbaa.Rx.Ty.int Go.IntKind.i64, x7⟩ : Rw) 0 Option.none)) :: [])))))
noncomputable def st25_top (n : Nat) (lL5 : Int → (List Int) → Int → Int → Int → Int → (List (Int × Int × Int × Bool)) → (List Int) → Option R25) (a : Int × List (Int × Int × Int × Bool) × List Int) (b : List Int) : Option R25 :=
  (Go.Proofs.Ytpcohpkflkhfbaa.Rx.S.q23 n ((a.fst, a.snd.fst, a.snd.snd), ())).bind fun r0 => cond (!r0.fst.fst) (some ((((0 : Int), ([], [])), ((-1 : Int), ())), ())) ((Go.Proofs.Ytpcohpkflkhfbaa.Rx.S.q77 n ((a.fst, a.snd.fst, a.snd.snd), ())).bind fun r1 => lL5 ((0 : Int)) (b) ((↑b.length : Int)) ((0 : Int)) ((0 : Int)) (r1.fst.fst.fst) (r1.fst.fst.snd.fst) (r1.fst.fst.snd.snd))
noncomputable def st25_L5 (n : Nat) (lL5 : Int → (List Int) → Int → Int → Int → Int → (List (Int × Int × Int × Bool)) → (List Int) → Option R25) (x0 : Int) (x1 : List Int) (x2 : Int) (x3 : Int) (x4 : Int) (x5 : Int) (x6 : List (Int × Int × Int × Bool)) (x7 : List Int) : Option R25 :=
  cond (decide (x3 < x2)) (cond (decide ((0 : Int) ≤ x3)) (cond (decide (x3 < (↑x1.length : Int))) ((Go.Proofs.Ytpcohpkflkhfbaa.Rx.S.q62 n (x1.getD x3.toNat (0 : Int), (0 : Int), Go.IntKind.i64.wrap ((↑x6.length : Int) - (1 : Int)), ())).bind fun r3 => cond (r3.fst.fst) ((Go.Proofs.Ytpcohpkflkhfbaa.Rx.S.q78 n ((x5, x6, x7), x1.getD x3.toNat (0 : Int), ())).bind fun r4 => cond (r4.fst.fst) ((Go.Proofs.Ytpcohpkflkhfbaa.Rx.S.q79 n ((x5, x6, x7), x1.getD x3.toNat (0 : Int), ())).bind fun r5 => lL5 (Go.IntKind.i64.wrap (x0 + (1 : Int))) (x1) (x2) (Go.IntKind.i64.wrap (x3 + (1 : Int))) (x4) (r5.fst.fst.fst) (r5.fst.fst.snd.fst) (r5.fst.fst.snd.snd)) (lL5 (x0) (x1) (x2) (Go.IntKind.i64.wrap (x3 + (1 : Int))) (x4) (x5) (x6) (x7))) (lL5 (x0) (x1) (x2) (Go.IntKind.i64.wrap (x3 + (1 : Int))) (x4) (x5) (x6) (x7))) (none)) (none)) (some (((x5, (x6, x7)), (x0, ())), ()))
theorem e25_top (n : Nat) (a : Int × List (Int × Int × Int × Bool) × List Int) (b : List Int) : runF TT G25 an25 Try.f25 c25 ps25 rs25 n (a, b, ()) = st25_top n (fun x0 x1 x2 x3 x4 x5 x6 x7 => at25 n (.head 5) [n] (sh25_L5 x0 x1 x2 x3 x4 x5 x6 x7)) a b := by kernel_rfl
theorem e25_L5_0 (n : Nat) (x0 : Int) (x1 : List Int) (x2 : Int) (x3 : Int) (x4 : Int) (x5 : Int) (x6 : List (Int × Int × Int × Bool)) (x7 : List Int) : at25 n (.head 5) [0] (sh25_L5 x0 x1 x2 x3 x4 x5 x6 x7) = none := by kernel_rfl
theorem e25_L5 (n : Nat) (m5 : Nat) (x0 : Int) (x1 : List Int) (x2 : Int) (x3 : Int) (x4 : Int) (x5 : Int) (x6 : List (Int × Int × Int × Bool)) (x7 : List Int) : at25 n (.head 5) [m5 + 1] (sh25_L5 x0 x1 x2 x3 x4 x5 x6 x7) = st25_L5 n (fun x0 x1 x2 x3 x4 x5 x6 x7 => at25 n (.head 5) [m5] (sh25_L5 x0 x1 x2 x3 x4 x5 x6 x7)) x0 x1 x2 x3 x4 x5 x6 x7 := by kernel_rfl
noncomputable def p25_L5 (n : Nat) : Nat → Int → (List Int) → Int → Int → Int → Int → (List (Int × Int × Int × Bool)) → (List Int) → Option R25
  | 0, _, _, _, _, _, _, _, _ => none
  | m + 1, x0, x1, x2, x3, x4, x5, x6, x7 => st25_L5 n (p25_L5 n m) x0 x1 x2 x3 x4 x5 x6 x7
noncomputable def p25 (n : Nat) (a : Int × List (Int × Int × Int × Bool) × List Int) (b : List Int) : Option R25 := st25_top n (p25_L5 n n) a b
theorem t25_L5 (n : Nat) : ∀ (m5 : Nat) (x0 : Int) (x1 : List Int) (x2 : Int) (x3 : Int) (x4 : Int) (x5 : Int) (x6 : List (Int × Int × Int × Bool)) (x7 : List Int), at25 n (.head 5) [m5] (sh25_L5 x0 x1 x2 x3 x4 x5 x6 x7) = p25_L5  n m5 x0 x1 x2 x3 x4 x5 x6 x7 := by
  intro m
  induction m with
  | zero => intros; rw [e25_L5_0]; rfl
  | succ m ih =>
    intros
    rw [e25_L5]
    simp only [ih]
    rfl
theorem F25_eq (n : Nat) (a : Int × List (Int × Int × Int × Bool) × List Int) (b : List Int) : runF TT G25 an25 Try.f25 c25 ps25 rs25 n (a, b, ()) = p25 n a b := by
  rw [e25_top]
  simp only [t25_L5]
  try rfl
noncomputable def q25 (n : Nat) (x : argsD ps25) : Option R25 := p25 n x.1 x.2.1
noncomputable def Sm25 : Sm := ⟨ps25, rs25, false, q25⟩
theorem holds25 (hg : GamOK Try.prog G25) : Holds Try.prog 25 Sm25 := by
  have := h0_25 hg
  have e : (runF TT G25 an25 Try.f25 c25 ps25 rs25) = q25 := by
    funext n x
    exact F25_eq n x.1 x.2.1
  rw [e] at this
  exact this
theorem gam25 : GamOK Try.prog G25 := by
  intro f s h
  unfold G25 at h
  split at h
  · injection h with h; subst h; exact ⟨⟨Try.f23, c23, Try.func23, by kernel_rfl, by decide +kernel⟩, hh23⟩
  · injection h with h; subst h; exact ⟨⟨Try.f62, c62, Try.func62, by kernel_rfl, by decide +kernel⟩, hh62⟩
  · injection h with h; subst h; exact ⟨⟨Try.f78, c78, Try.func78, by kernel_rfl, by decide +kernel⟩, hh78⟩
  · injection h with h; subst h; exact ⟨⟨Try.f77, c77, Try.func77, by kernel_rfl, by decide +kernel⟩, hh77⟩
  · injection h with h; subst h; exact ⟨⟨Try.f79, c79, Try.func79, by kernel_rfl, by decide +kernel⟩, hh79⟩
  · cases h
theorem hh25 : Holds Try.prog 25 Sm25 := holds25 gam25
end Go.Proofs.Ytpcohpkflkhfbaa.Rx.S
namespace Go.Proofs.Ytpcohpkflkhfbaa.Rx.S
open Go Go.RowKit Go.Proofs
set_option maxRecDepth 100000
noncomputable def c5 : Code := (Try.f5.body.getD .skip)
def an5 : An := ⟨fun _ => ⟨[], []⟩, fun _ _ => none⟩
abbrev ps5 : List PK := [.val (.row 5 (.int .u8)) false]
abbrev rs5 : List RK := [.val .bool false]
abbrev R5 := retsD rs5 × outsD ps5
noncomputable def G5 : Gam := fun f => match f with | 22 => some Sm22 | 23 => some Sm23 | 24 => some Sm24 | 25 => some Sm25 | 26 => some Sm26 | _ => none
theorem h0_5 (hg : GamOK Try.prog G5) : Holds Try.prog 5 ⟨ps5, rs5, false, runF TT G5 an5 Try.f5 c5 ps5 rs5⟩ := holds_of tt_ok hg mixed Try.func5 (by kernel_rfl) (by rfl) (by decide +kernel)
noncomputable def at5 : Nat → Pt → List Nat → St → Option R5 := atF TT G5 an5 Try.f5 c5 _ _
noncomputable def st5_top (n : Nat)  (a : List Int) : Option R5 :=
  cond (decide ((1048576 : Int) < (↑a.length : Int))) (some ((true, ()), ())) ((Go.Proofs.Ytpcohpkflkhfbaa.Rx.S.q22 n (a, ())).bind fun r0 => (Go.Proofs.Ytpcohpkflkhfbaa.Rx.S.q23 n ((r0.fst.fst.fst, r0.fst.fst.snd.fst, r0.fst.fst.snd.snd), ())).bind fun r1 => (Go.Proofs.Ytpcohpkflkhfbaa.Rx.S.q24 n ((r0.fst.fst.fst, r0.fst.fst.snd.fst, r0.fst.fst.snd.snd), ())).bind fun r2 => cond (!r1.fst.fst == r2.fst.fst) (some ((false, ()), ())) ((Go.Proofs.Ytpcohpkflkhfbaa.Rx.S.q25 n ((r0.fst.fst.fst, r0.fst.fst.snd.fst, r0.fst.fst.snd.snd), [], ())).bind fun r3 => cond (r1.fst.fst == decide (r3.fst.snd.fst = (0 : Int))) (cond (!r1.fst.fst) (some ((true, ()), ())) ((Go.Proofs.Ytpcohpkflkhfbaa.Rx.S.q26 n   ((r3.fst.fst.fst, r3.fst.fst.snd.fst, r3.fst.fst.snd.snd), (r0.fst.fst.fst, r0.fst.fst.snd.fst, r0.fst.fst.snd.snd),     ())).bind fun r4 => some ((r4.fst.fst, ()), ()))) (some ((false, ()), ()))))
theorem e5_top (n : Nat) (a : List Int) : runF TT G5 an5 Try.f5 c5 ps5 rs5 n (a, ()) = st5_top n  a := by kernel_rfl
noncomputable def p5 (n : Nat) (a : List Int) : Option R5 := st5_top n  a
theorem F5_eq (n : Nat) (a : List Int) : runF TT G5 an5 Try.f5 c5 ps5 rs5 n (a, ()) = p5 n a := by
  rw [e5_top]
  skip
  try rfl
noncomputable def q5 (n : Nat) (x : argsD ps5) : Option R5 := p5 n x.1
noncomputable def Sm5 : Sm := ⟨ps5, rs5, false, q5⟩
theorem holds5 (hg : GamOK Try.prog G5) : Holds Try.prog 5 Sm5 := by
  have := h0_5 hg
  have e : (runF TT G5 an5 Try.f5 c5 ps5 rs5) = q5 := by
    funext n x
    exact F5_eq n x.1
  rw [e] at this
  exact this
theorem gam5 : GamOK Try.prog G5 := by
  intro f s h
  unfold G5 at h
  split at h
  · injection h with h; subst h; exact ⟨⟨Try.f22, c22, Try.func22, by kernel_rfl, by decide +kernel⟩, hh22⟩
  · injection h with h; subst h; exact ⟨⟨Try.f23, c23, Try.func23, by kernel_rfl, by decide +kernel⟩, hh23⟩
  · injection h with h; subst h; exact ⟨⟨Try.f24, c24, Try.func24, by kernel_rfl, by decide +kernel⟩, hh24⟩
  · injection h with h; subst h; exact ⟨⟨Try.f25, c25, Try.func25, by kernel_rfl, by decide +kernel⟩, hh25⟩
  · injection h with h; subst h; exact ⟨⟨Try.f26, c26, Try.func26, by kernel_rfl, by decide +kernel⟩, hh26⟩
  · cases h
theorem hh5 : Holds Try.prog 5 Sm5 := holds5 gam5
end Go.Proofs.Ytpcohpkflkhfbaa.Rx.S
namespace Go.Proofs.Ytpcohpkflkhfbaa.Rx.S
open Go Go.RowKit Go.Proofs
set_option maxRecDepth 100000
noncomputable def c28 : Code := (Try.f28.body.getD .skip)
def an28 : An := ⟨fun _ => ⟨[], []⟩, fun _ _ => none⟩
abbrev ps28 : List PK := [.val tLock true, .val i64 false]
abbrev rs28 : List RK := [.own tLock true, .val .bool false]
abbrev R28 := retsD rs28 × outsD ps28
noncomputable def G28 : Gam := fun f => match f with | 23 => some Sm23 | 62 => some Sm62 | 78 => some Sm78 | 77 => some Sm77 | 79 => some Sm79 | _ => none
theorem h0_28 (hg : GamOK Try.prog G28) : Holds Try.prog 28 ⟨ps28, rs28, false, runF TT G28 an28 Try.f28 c28 ps28 rs28⟩ := holds_of tt_ok hg mixed Try.func28 (by kernel_rfl) (by rfl) (by decide +kernel)
noncomputable def at28 : Nat → Pt → List Nat → St → Option R28 := atF TT G28 an28 Try.f28 c28 _ _
noncomputable def st28_top (n : Nat)  (a : Int × List (Int × Int × Int × Bool) × List Int) (b : Int) : Option R28 :=
  (Go.Proofs.Ytpcohpkflkhfbaa.Rx.S.q23 n ((a.fst, a.snd.fst, a.snd.snd), ())).bind fun r0 => cond (!r0.fst.fst) (some ((((0 : Int), ([], [])), (false, ())), ())) ((Go.Proofs.Ytpcohpkflkhfbaa.Rx.S.q62 n (b, (0 : Int), Go.IntKind.i64.wrap ((↑(List.length a.snd.fst) : Int) - (1 : Int)), ())).bind fun r1 => cond (!r1.fst.fst) (some ((((0 : Int), ([], [])), (false, ())), ())) ((Go.Proofs.Ytpcohpkflkhfbaa.Rx.S.q78 n ((a.fst, a.snd.fst, a.snd.snd), b, ())).bind fun r2 => cond (!r2.fst.fst) ((Go.Proofs.Ytpcohpkflkhfbaa.Rx.S.q77 n ((a.fst, a.snd.fst, a.snd.snd), ())).bind fun r3 => some (((r3.fst.fst.fst, (r3.fst.fst.snd.fst, r3.fst.fst.snd.snd)), (false, ())), ())) ((Go.Proofs.Ytpcohpkflkhfbaa.Rx.S.q79 n ((a.fst, a.snd.fst, a.snd.snd), b, ())).bind fun r4 => some (((r4.fst.fst.fst, (r4.fst.fst.snd.fst, r4.fst.fst.snd.snd)), (true, ())), ()))))
theorem e28_top (n : Nat) (a : Int × List (Int × Int × Int × Bool) × List Int) (b : Int) : runF TT G28 an28 Try.f28 c28 ps28 rs28 n (a, b, ()) = st28_top n  a b := by kernel_rfl
noncomputable def p28 (n : Nat) (a : Int × List (Int × Int × Int × Bool) × List Int) (b : Int) : Option R28 := st28_top n  a b
theorem F28_eq (n : Nat) (a : Int × List (Int × Int × Int × Bool) × List Int) (b : Int) : runF TT G28 an28 Try.f28 c28 ps28 rs28 n (a, b, ()) = p28 n a b := by
  rw [e28_top]
  skip
  try rfl
noncomputable def q28 (n : Nat) (x : argsD ps28) : Option R28 := p28 n x.1 x.2.1
noncomputable def Sm28 : Sm := ⟨ps28, rs28, false, q28⟩
theorem holds28 (hg : GamOK Try.prog G28) : Holds Try.prog 28 Sm28 := by
  have := h0_28 hg
  have e : (runF TT G28 an28 Try.f28 c28 ps28 rs28) = q28 := by
    funext n x
    exact F28_eq n x.1 x.2.1
  rw [e] at this
  exact this
theorem gam28 : GamOK Try.prog G28 := by
  intro f s h
  unfold G28 at h
  split at h
  · injection h with h; subst h; exact ⟨⟨Try.f23, c23, Try.func23, by kernel_rfl, by decide +kernel⟩, hh23⟩
  · injection h with h; subst h; exact ⟨⟨Try.f62, c62, Try.func62, by kernel_rfl, by decide +kernel⟩, hh62⟩
  · injection h with h; subst h; exact ⟨⟨Try.f78, c78, Try.func78, by kernel_rfl, by decide +kernel⟩, hh78⟩
  · injection h with h; subst h; exact ⟨⟨Try.f77, c77, Try.func77, by kernel_rfl, by decide +kernel⟩, hh77⟩
  · injection h with h; subst h; exact ⟨⟨Try.f79, c79, Try.func79, by kernel_rfl, by decide +kernel⟩, hh79⟩
  · cases h
theorem hh28 : Holds Try.prog 28 Sm28 := holds28 gam28
end Go.Proofs.Ytpcohpkflkhfbaa.Rx.S
namespace Go.Proofs.Ytpcohpkflkhfbaa.Rx.S
open Go Go.RowKit Go.Proofs
set_option maxRecDepth 100000
noncomputable def c29 : Code := (Try.f29.body.getD .skip)
def an29 : An := ⟨fun _ => ⟨[], []⟩, fun _ _ => none⟩
abbrev ps29 : List PK := [.val tLock true, .val i64 false]
abbrev rs29 : List RK := [.own tLock true, .val .bool false]
abbrev R29 := retsD rs29 × outsD ps29
noncomputable def G29 : Gam := fun f => match f with | 24 => some Sm24 | 57 => some Sm57 | 82 => some Sm82 | 83 => some Sm83 | 84 => some Sm84 | _ => none
theorem h0_29 (hg : GamOK Try.prog G29) : Holds Try.prog 29 ⟨ps29, rs29, false, runF TT G29 an29 Try.f29 c29 ps29 rs29⟩ := holds_of tt_ok hg mixed Try.func29 (by kernel_rfl) (by rfl) (by decide +kernel)
noncomputable def at29 : Nat → Pt → List Nat → St → Option R29 := atF TT G29 an29 Try.f29 c29 _ _
noncomputable def st29_top (n : Nat)  (a : Int × List (Int × Int × Int × Bool) × List Int) (b : Int) : Option R29 :=
  (Go.Proofs.Ytpcohpkflkhfbaa.Rx.S.q24 n ((a.fst, a.snd.fst, a.snd.snd), ())).bind fun r0 => cond (!r0.fst.fst) (some ((((0 : Int), ([], [])), (false, ())), ())) ((Go.Proofs.Ytpcohpkflkhfbaa.Rx.S.q57 n (b, (0 : Int), Go.IntKind.i64.wrap ((↑(List.length a.snd.fst) : Int) - (1 : Int)), ())).bind fun r1 => cond (!r1.fst.fst) (some ((((0 : Int), ([], [])), (false, ())), ())) ((Go.Proofs.Ytpcohpkflkhfbaa.Rx.S.q82 n ((a.fst, a.snd.fst, a.snd.snd), b, ())).bind fun r2 => cond (!r2.fst.fst) ((Go.Proofs.Ytpcohpkflkhfbaa.Rx.S.q83 n ((a.fst, a.snd.fst, a.snd.snd), ())).bind fun r3 => some (((r3.fst.fst.fst, (r3.fst.fst.snd.fst, r3.fst.fst.snd.snd)), (false, ())), ())) ((Go.Proofs.Ytpcohpkflkhfbaa.Rx.S.q83 n ((a.fst, a.snd.fst, a.snd.snd), ())).bind fun r4 => (Go.Proofs.Ytpcohpkflkhfbaa.Rx.S.q84 n ((r4.fst.fst.fst, r4.fst.fst.snd.fst, r4.fst.fst.snd.snd), b, ())).bind fun r5 => some (((r5.fst.fst.fst, (r5.fst.fst.snd.fst, r5.fst.fst.snd.snd)), (true, ())), ()))))
theorem e29_top (n : Nat) (a : Int × List (Int × Int × Int × Bool) × List Int) (b : Int) : runF TT G29 an29 Try.f29 c29 ps29 rs29 n (a, b, ()) = st29_top n  a b := by kernel_rfl
noncomputable def p29 (n : Nat) (a : Int × List (Int × Int × Int × Bool) × List Int) (b : Int) : Option R29 := st29_top n  a b
theorem F29_eq (n : Nat) (a : Int × List (Int × Int × Int × Bool) × List Int) (b : Int) : runF TT G29 an29 Try.f29 c29 ps29 rs29 n (a, b, ()) = p29 n a b := by
  rw [e29_top]
  skip
  try rfl
noncomputable def q29 (n : Nat) (x : argsD ps29) : Option R29 := p29 n x.1 x.2.1
noncomputable def Sm29 : Sm := ⟨ps29, rs29, false, q29⟩
theorem holds29 (hg : GamOK Try.prog G29) : Holds Try.prog 29 Sm29 := by
  have := h0_29 hg
  have e : (runF TT G29 an29 Try.f29 c29 ps29 rs29) = q29 := by
    funext n x
    exact F29_eq n x.1 x.2.1
  rw [e] at this
  exact this
theorem gam29 : GamOK Try.prog G29 := by
  intro f s h
  unfold G29 at h
  split at h
  · injection h with h; subst h; exact ⟨⟨Try.f24, c24, Try.func24, by kernel_rfl, by decide +kernel⟩, hh24⟩
  · injection h with h; subst h; exact ⟨⟨Try.f57, c57, Try.func57, by kernel_rfl, by decide +kernel⟩, hh57⟩
  · injection h with h; subst h; exact ⟨⟨Try.f82, c82, Try.func82, by kernel_rfl, by decide +kernel⟩, hh82⟩
  · injection h with h; subst h; exact ⟨⟨Try.f83, c83, Try.func83, by kernel_rfl, by decide +kernel⟩, hh83⟩
  · injection h with h; subst h; exact ⟨⟨Try.f84, c84, Try.func84, by kernel_rfl, by decide +kernel⟩, hh84⟩
  · cases h
theorem hh29 : Holds Try.prog 29 Sm29 := holds29 gam29
end Go.Proofs.Ytpcohpkflkhfbaa.Rx.S
namespace Go.Proofs.Ytpcohpkflkhfbaa.Rx.S
open Go Go.RowKit Go.Proofs
set_option maxRecDepth 100000
noncomputable def c6 : Code := (Try.f6.body.getD .skip)
def an6 : An := ⟨fun r => match r with | 11 => ⟨[3, 4, 5, 10, 11], []⟩ | _ => ⟨[], []⟩, fun _ _ => none⟩
abbrev ps6 : List PK := [.val (.row 5 (.int .u8)) false]
abbrev rs6 : List RK := [.val .bool false]
abbrev R6 := retsD rs6 × outsD ps6
noncomputable def G6 : Gam := fun f => match f with | 27 => some Sm27 | 28 => some Sm28 | 29 => some Sm29 | 26 => some Sm26 | 23 => some Sm23 | _ => none
theorem h0_6 (hg : GamOK Try.prog G6) : Holds Try.prog 6 ⟨ps6, rs6, false, runF TT G6 an6 Try.f6 c6 ps6 rs6⟩ := holds_of tt_ok hg mixed Try.func6 (by kernel_rfl) (by rfl) (by decide +kernel)
noncomputable def at6 : Nat → Pt → List Nat → St → Option R6 := atF TT G6 an6 Try.f6 c6 _ _
def sh6_L11 (x0 : Int) (x1 : Int) (x2 : Int) (x3 : Int) (x4 : Int) (x5 : List (Int × Int × Int × Bool)) (x6 : List Int) (x7 : List (Int × Int × Int × Bool)) (x8 : List Int) : St := (Go.Proofs.Ytpcohpkflkhfbaa.Rx.St.mk (Go.Proofs.Ytpcohpkflkhfbaa.Rx.AV.undef :: (Go.Proofs.Ytpcohpkflkhfbaa.Rx.AV.undef :: (Go.Proofs.Ytpcohpkflkhfbaa.Rx.AV.undef :: ((Go.Proofs.Ytpcohpkflkhfbaa.Rx.AV.one (Go.Proofs.Ytpcohpkflkhfbaa.Rx.SV.bptr 1000000 0)) :: ((Go.Proofs.Ytpcohpkflkhfbaa.Rx.AV.one (Go.Proofs.Ytpcohpkflkhfbaa.Rx.SV.int (Go.IntKind.i64) x0)) :: ((Go.Proofs.Ytpcohpkflkhfbaa.Rx.AV.one (Go.Proofs.Ytpcohpkflkhfbaa.Rx.SV.bptr 1000001 0)) :: (Go.Proofs.Ytpcohpkflkhfbaa.Rx.AV.undef :: (Go.Proofs.Ytpcohpkflkhfbaa.Rx.AV.undef :: (Go.Proofs.Ytpcohpkflkhfbaa.Rx.AV.undef :: (Go.Proofs.Ytpcohpkflkhfbaa.Rx.AV.undef :: ((Go.Proofs.Ytpcohpkflkhfbaa.Rx.AV.one (Go.Proofs.Ytpcohpkflkhfbaa.Rx.SV.int (Go.IntKind.i64) x1)) :: ((Go.Proofs.Ytpcohpkflkhfbaa.Rx.AV.one (Go.Proofs.Ytpcohpkflkhfbaa.Rx.SV.int (Go.IntKind.i64) x2)) :: (Go.Proofs.Ytpcohpkflkhfbaa.Rx.AV.undef :: (Go.Proofs.Ytpcohpkflkhfbaa.Rx.AV.undef :: (Go.Proofs.Ytpcohpkflkhfbaa.Rx.AV.undef :: (Go.Proofs.Ytpcohpkflkhfbaa.Rx.AV.undef :: (Go.Proofs.Ytpcohpkflkhfbaa.Rx.AV.undef :: (Go.Proofs.Ytpcohpkflkhfbaa.Rx.AV.undef :: (Go.Proofs.Ytpcohpkflkhfbaa.Rx.AV.undef :: (Go.Proofs.Ytpcohpkflkhfbaa.Rx.AV.undef :: (Go.Proofs.Ytpcohpkflkhfbaa.Rx.AV.undef :: (Go.Proofs.Ytpcohpkflkhfbaa.Rx.AV.undef :: (Go.Proofs.Ytpcohpkflkhfbaa.Rx.AV.undef :: (Go.Proofs.Ytpcohpkflkhfbaa.Rx.AV.undef :: (Go.Proofs.Ytpcohpkflkhfbaa.Rx.AV.undef :: (Go.Proofs.Ytpcohpkflkhfbaa.Rx.AV.undef :: (Go.Proofs.Ytpcohpkflkhfbaa.Rx.AV.undef :: (Go.Proofs.Ytpcohpkflkhfbaa.Rx.AV.undef :: (Go.Proofs.Ytpcohpkflkhfbaa.Rx.AV.undef :: (Go.Proofs.Ytpcohpkflkhfbaa.Rx.AV.undef :: (Go.Proofs.Ytpcohpkflkhfbaa.Rx.AV.undef :: (Go.Proofs.Ytpcohpkflkhfbaa.Rx.AV.undef :: (Go.Proofs.Ytpcohpkflkhfbaa.Rx.AV.undef :: (Go.Proofs.Ytpcohpkflkhfbaa.Rx.AV.undef :: (Go.Proofs.Ytpcohpkflkhfbaa.Rx.AV.undef :: (Go.Proofs.Ytpcohpkflkhfbaa.Rx.AV.undef :: (Go.Proofs.Ytpcohpkflkhfbaa.Rx.AV.undef :: (Go.Proofs.Ytpcohpkflkhfbaa.Rx.AV.undef :: (Go.Proofs.Ytpcohpkflkhfbaa.Rx.AV.undef :: (Go.Proofs.Ytpcohpkflkhfbaa.Rx.AV.undef :: (Go.Proofs.Ytpcohpkflkhfbaa.Rx.AV.undef :: (Go.Proofs.Ytpcohpkflkhfbaa.Rx.AV.undef :: (Go.Proofs.Ytpcohpkflkhfbaa.Rx.AV.undef :: (Go.Proofs.Ytpcohpkflkhfbaa.Rx.AV.undef :: (Go.Proofs.Ytpcohpkflkhfbaa.Rx.AV.undef :: (Go.Proofs.Ytpcohpkflkhfbaa.Rx.AV.undef :: (Go.Proofs.Ytpcohpkflkhfbaa.Rx.AV.undef :: (Go.Proofs.Ytpcohpkflkhfbaa.Rx.AV.undef :: (Go.Proofs.Ytpcohpkflkhfbaa.Rx.AV.undef :: (Go.Proofs.Ytpcohpkflkhfbaa.Rx.AV.undef :: (Go.Proofs.Ytpcohpkflkhfbaa.Rx.AV.undef :: (Go.Proofs.Ytpcohpkflkhfbaa.Rx.AV.undef :: (Go.Proofs.Ytpcohpkflkhfbaa.Rx.AV.undef :: (Go.Proofs.Ytpcohpkflkhfbaa.Rx.AV.undef :: (Go.Proofs.Ytpcohpkflkhfbaa.Rx.AV.undef :: (Go.Proofs.Ytpcohpkflkhfbaa.Rx.AV.undef :: (Go.Proofs.Ytpcohpkflkhfbaa.Rx.AV.undef :: (Go.Proofs.Ytpcohpkflkhfbaa.Rx.AV.undef :: (Go.Proofs.Ytpcohpkflkhfbaa.Rx.AV.undef :: (Go.Proofs.Ytpcohpkflkhfbaa.Rx.AV.undef :: (Go.Proofs.Ytpcohpkflkhfbaa.Rx.AV.undef :: (Go.Proofs.Ytpcohpkflkhfbaa.Rx.AV.undef :: (Go.Proofs.Ytpcohpkflkhfbaa.Rx.AV.undef :: (Go.Proofs.Ytpcohpkflkhfbaa.Rx.AV.undef :: (Go.Proofs.Ytpcohpkflkhfbaa.Rx.AV.undef :: (Go.Proofs.Ytpcohpkflkhfbaa.Rx.AV.undef :: (Go.Proofs.Ytpcohpkflkhfbaa.Rx.AV.undef :: (Go.Proofs.Ytpcohpkflkhfbaa.Rx.AV.undef :: (Go.Proofs.Ytpcohpkflkhfbaa.Rx.AV.undef :: (Go.Proofs.Ytpcohpkflkhfbaa.Rx.AV.undef :: (Go.Proofs.Ytpcohpkflkhfbaa.Rx.AV.undef :: (Go.Proofs.Ytpcohpkflkhfbaa.Rx.AV.undef :: (Go.Proofs.Ytpcohpkflkhfbaa.Rx.AV.undef :: (Go.Proofs.Ytpcohpkflkhfbaa.Rx.AV.undef :: (Go.Proofs.Ytpcohpkflkhfbaa.Rx.AV.undef :: (Go.Proofs.Ytpcohpkflkhfbaa.Rx.AV.undef :: (Go.Proofs.Ytpcohpkflkhfbaa.Rx.AV.undef :: (Go.Proofs.Ytpcohpkflkhfbaa.Rx.AV.undef :: (Go.Proofs.Ytpcohpkflkhfbaa.Rx.AV.undef :: (Go.Proofs.Ytpcohpkflkhfbaa.Rx.AV.undef :: (Go.Proofs.Ytpcohpkflkhfbaa.Rx.AV.undef :: (Go.Proofs.Ytpcohpkflkhfbaa.Rx.AV.undef :: (Go.Proofs.Ytpcohpkflkhfbaa.Rx.AV.undef :: (Go.Proofs.Ytpcohpkflkhfbaa.Rx.AV.undef :: (Go.Proofs.Ytpcohpkflkhfbaa.Rx.AV.undef :: (Go.Proofs.Ytpcohpkflkhfbaa.Rx.AV.undef :: [])))))))))))))))))))))))))))))))))))))))))))))))))))))))))))))))))))))))))))))))))))))) ((1000000, (Go.Proofs.Ytpcohpkflkhfbaa.Rx.Ent.box ((Go.Proofs.Ytpcohpkflkhfbaa.Rx.SV.int (Go.IntKind.i64) x3) :: ((Go.Proofs.Ytpcohpkflkhfbaa.Rx.SV.ref 1000002 0 [] Option.none) :: ((Go.Proofs.Ytpcohpkflkhfbaa.Rx.SV.ref 1000003 0 [] Option.none) :: []))))) :: ((1000001, (Go.Proofs.Ytpcohpkflkhfbaa.Rx.Ent.box ((Go.Proofs.Ytpcohpkflkhfbaa.Rx.SV.int (Go.IntKind.i64) x4) :: ((Go.Proofs.Ytpcohpkflkhfbaa.Rx.SV.ref 1000004 0 [] Option.none) :: ((Go.Proofs.Ytpcohpkflkhfbaa.Rx.SV.ref 1000005 0 [] Option.none) :: []))))) :: ((1000002, (Go.Proofs.Ytpcohpkflkhfbaa.Rx.Ent.row (⟨51, (Go.Proofs.Ytpcohpkflkhfbaa.Rx.Ty.int Go.IntKind.i64).pair   ((Go.Proofs.Ytpcohpkflkhfbaa.Rx.Ty.int Go.IntKind.i64).pair ((Go.Proofs.Ytpcohpkflkhfbaa.Rx.Ty.int Go.IntKind.i64).pair Go.Proofs.Ytpcohpkflkhfbaa.Rx.Ty.bool)), x5⟩ : Rw) 0 Option.none)) :: ((1000003, (Go.Proofs.Ytpcohpkflkhfbaa.Rx.Ent.row (⟨3, Go.Proofs.Ytpcohpkflkhfbaa.Rx.Ty.int Go.IntKind.i64, x6⟩ : Rw) 0 Option.none)) :: ((1000004, (Go.Proofs.Ytpcohpkflkhfbaa.Rx.Ent.row (⟨51, (Go.Proofs.Ytpcohpkflkhfbaa.Rx.Ty.int Go.IntKind.i64).pair   ((Go.Proofs.Ytpcohpkflkhfbaa.Rx.Ty.int Go.IntKind.i64).pair ((Go.Proofs.Ytpcohpkflkhfbaa.Rx.Ty.int Go.IntKind.i64).pair Go.Proofs.Ytpcohpkflkhfbaa.Rx.Ty.bool)), x7⟩ : Rw) 0 Option.none)) :: ((1000005, (Go.Proofs.Ytpcohpkflkhfbaa.Rx.Ent.row (⟨3, Go.Proofs.Ytpcohpkflkhfbaa.Rx.Ty.int Go.IntKind.i64, x8⟩ : Rw) 0 Option.none)) :: [])))))))
noncomputable def st6_top (n : Nat) (lL11 : Int → Int → Int → Int → Int → (List (Int × Int × Int × Bool)) → (List Int) → (List (Int × Int × Int × Bool)) → (List Int) → Option R6) (a : List Int) : Option R6 :=
  cond (decide ((1048576 : Int) < (↑a.length : Int))) (some ((true, ()), ())) ((Go.Proofs.Ytpcohpkflkhfbaa.Rx.S.q27 n (a, ())).bind fun r0 => (Go.Proofs.Ytpcohpkflkhfbaa.Rx.S.q28 n ((r0.fst.fst.fst, r0.fst.fst.snd.fst, r0.fst.fst.snd.snd), r0.fst.snd.fst, ())).bind fun r1 => (Go.Proofs.Ytpcohpkflkhfbaa.Rx.S.q29 n ((r0.fst.fst.fst, r0.fst.fst.snd.fst, r0.fst.fst.snd.snd), r0.fst.snd.fst, ())).bind fun r2 => (Go.Proofs.Ytpcohpkflkhfbaa.Rx.S.q26 n   ((r1.fst.fst.fst, r1.fst.fst.snd.fst, r1.fst.fst.snd.snd), (r2.fst.fst.fst, r2.fst.fst.snd.fst, r2.fst.fst.snd.snd),     ())).bind fun r3 => cond (r3.fst.fst) (cond (!r1.fst.snd.fst == r2.fst.snd.fst) (some ((r1.fst.snd.fst == r2.fst.snd.fst, ()), ())) (cond (!r1.fst.snd.fst) (some ((r1.fst.snd.fst == r2.fst.snd.fst, ()), ())) (lL11 (r0.fst.snd.fst) ((0 : Int)) ((0 : Int)) (r0.fst.fst.fst) (r1.fst.fst.fst) (r0.fst.fst.snd.fst) (r0.fst.fst.snd.snd) (r1.fst.fst.snd.fst) (r1.fst.fst.snd.snd)))) (some ((false, ()), ())))
noncomputable def st6_L11 (n : Nat) (lL11 : Int → Int → Int → Int → Int → (List (Int × Int × Int × Bool)) → (List Int) → (List (Int × Int × Int × Bool)) → (List Int) → Option R6) (x0 : Int) (x1 : Int) (x2 : Int) (x3 : Int) (x4 : Int) (x5 : List (Int × Int × Int × Bool)) (x6 : List Int) (x7 : List (Int × Int × Int × Bool)) (x8 : List Int) : Option R6 :=
  cond (decide (x2 < (↑x5.length : Int))) (cond (decide ((0 : Int) ≤ x2)) (cond (decide (x2 < (↑x5.length : Int))) (cond (decide ((0 : Int) ≤ x2)) (cond (decide (x2 < (↑x7.length : Int))) (cond (!decide (x2 = x0)) (cond (!(decide       ((x5.getD x2.toNat ((0 : Int), (0 : Int), (0 : Int), false)).fst =         (x7.getD x2.toNat ((0 : Int), (0 : Int), (0 : Int), false)).fst) &&     (decide         ((x5.getD x2.toNat ((0 : Int), (0 : Int), (0 : Int), false)).snd.fst =           (x7.getD x2.toNat ((0 : Int), (0 : Int), (0 : Int), false)).snd.fst) &&       (decide           ((x5.getD x2.toNat ((0 : Int), (0 : Int), (0 : Int), false)).snd.snd.fst =             (x7.getD x2.toNat ((0 : Int), (0 : Int), (0 : Int), false)).snd.snd.fst) &&         ((x5.getD x2.toNat ((0 : Int), (0 : Int), (0 : Int), false)).snd.snd.snd ==             (x7.getD x2.toNat ((0 : Int), (0 : Int), (0 : Int), false)).snd.snd.snd &&           true))))) (cond (!(decide       ((x5.getD x2.toNat ((0 : Int), (0 : Int), (0 : Int), false)).fst =         (x7.getD x2.toNat ((0 : Int), (0 : Int), (0 : Int), false)).fst) &&     (decide         ((x5.getD x2.toNat ((0 : Int), (0 : Int), (0 : Int), false)).snd.fst =           (x7.getD x2.toNat ((0 : Int), (0 : Int), (0 : Int), false)).snd.fst) &&       (decide           ((x5.getD x2.toNat ((0 : Int), (0 : Int), (0 : Int), false)).snd.snd.fst =             (x7.getD x2.toNat ((0 : Int), (0 : Int), (0 : Int), false)).snd.snd.fst) &&         (false == (x7.getD x2.toNat ((0 : Int), (0 : Int), (0 : Int), false)).snd.snd.snd && true))))) (some ((false, ()), ())) (lL11 (x0) (Go.IntKind.i64.wrap (x1 + (1 : Int))) (Go.IntKind.i64.wrap (x2 + (1 : Int))) (x3) (x4) (x5) (x6) (x7) (x8))) (lL11 (x0) (x1) (Go.IntKind.i64.wrap (x2 + (1 : Int))) (x3) (x4) (x5) (x6) (x7) (x8))) (lL11 (x0) (x1) (Go.IntKind.i64.wrap (x2 + (1 : Int))) (x3) (x4) (x5) (x6) (x7) (x8))) (none)) (none)) (none)) (none)) (cond (decide (x1 ≤ (1 : Int))) ((Go.Proofs.Ytpcohpkflkhfbaa.Rx.S.q23 n ((x4, x7, x8), ())).bind fun r5 => some ((r5.fst.fst, ()), ())) (some ((false, ()), ())))
theorem e6_top (n : Nat) (a : List Int) : runF TT G6 an6 Try.f6 c6 ps6 rs6 n (a, ()) = st6_top n (fun x0 x1 x2 x3 x4 x5 x6 x7 x8 => at6 n (.head 11) [n] (sh6_L11 x0 x1 x2 x3 x4 x5 x6 x7 x8)) a := by kernel_rfl
theorem e6_L11_0 (n : Nat) (x0 : Int) (x1 : Int) (x2 : Int) (x3 : Int) (x4 : Int) (x5 : List (Int × Int × Int × Bool)) (x6 : List Int) (x7 : List (Int × Int × Int × Bool)) (x8 : List Int) : at6 n (.head 11) [0] (sh6_L11 x0 x1 x2 x3 x4 x5 x6 x7 x8) = none := by kernel_rfl
theorem e6_L11 (n : Nat) (m11 : Nat) (x0 : Int) (x1 : Int) (x2 : Int) (x3 : Int) (x4 : Int) (x5 : List (Int × Int × Int × Bool)) (x6 : List Int) (x7 : List (Int × Int × Int × Bool)) (x8 : List Int) : at6 n (.head 11) [m11 + 1] (sh6_L11 x0 x1 x2 x3 x4 x5 x6 x7 x8) = st6_L11 n (fun x0 x1 x2 x3 x4 x5 x6 x7 x8 => at6 n (.head 11) [m11] (sh6_L11 x0 x1 x2 x3 x4 x5 x6 x7 x8)) x0 x1 x2 x3 x4 x5 x6 x7 x8 := by kernel_rfl
noncomputable def p6_L11 (n : Nat) : Nat → Int → Int → Int → Int → Int → (List (Int × Int × Int × Bool)) → (List Int) → (List (Int × Int × Int × Bool)) → (List Int) → Option R6
  | 0, _, _, _, _, _, _, _, _, _ => none
  | m + 1, x0, x1, x2, x3, x4, x5, x6, x7, x8 => st6_L11 n (p6_L11 n m) x0 x1 x2 x3 x4 x5 x6 x7 x8
noncomputable def p6 (n : Nat) (a : List Int) : Option R6 := st6_top n (p6_L11 n n) a
theorem t6_L11 (n : Nat) : ∀ (m11 : Nat) (x0 : Int) (x1 : Int) (x2 : Int) (x3 : Int) (x4 : Int) (x5 : List (Int × Int × Int × Bool)) (x6 : List Int) (x7 : List (Int × Int × Int × Bool)) (x8 : List Int), at6 n (.head 11) [m11] (sh6_L11 x0 x1 x2 x3 x4 x5 x6 x7 x8) = p6_L11  n m11 x0 x1 x2 x3 x4 x5 x6 x7 x8 := by
  intro m
  induction m with
  | zero => intros; rw [e6_L11_0]; rfl
  | succ m ih =>
    intros
    rw [e6_L11]
    simp only [ih]
    rfl
theorem F6_eq (n : Nat) (a : List Int) : runF TT G6 an6 Try.f6 c6 ps6 rs6 n (a, ()) = p6 n a := by
  rw [e6_top]
  simp only [t6_L11]
  try rfl
noncomputable def q6 (n : Nat) (x : argsD ps6) : Option R6 := p6 n x.1
noncomputable def Sm6 : Sm := ⟨ps6, rs6, false, q6⟩
theorem holds6 (hg : GamOK Try.prog G6) : Holds Try.prog 6 Sm6 := by
  have := h0_6 hg
  have e : (runF TT G6 an6 Try.f6 c6 ps6 rs6) = q6 := by
    funext n x
    exact F6_eq n x.1
  rw [e] at this
  exact this
theorem gam6 : GamOK Try.prog G6 := by
  intro f s h
  unfold G6 at h
  split at h
  · injection h with h; subst h; exact ⟨⟨Try.f27, c27, Try.func27, by kernel_rfl, by decide +kernel⟩, hh27⟩
  · injection h with h; subst h; exact ⟨⟨Try.f28, c28, Try.func28, by kernel_rfl, by decide +kernel⟩, hh28⟩
  · injection h with h; subst h; exact ⟨⟨Try.f29, c29, Try.func29, by kernel_rfl, by decide +kernel⟩, hh29⟩
  · injection h with h; subst h; exact ⟨⟨Try.f26, c26, Try.func26, by kernel_rfl, by decide +kernel⟩, hh26⟩
  · injection h with h; subst h; exact ⟨⟨Try.f23, c23, Try.func23, by kernel_rfl, by decide +kernel⟩, hh23⟩
  · cases h
theorem hh6 : Holds Try.prog 6 Sm6 := holds6 gam6
end Go.Proofs.Ytpcohpkflkhfbaa.Rx.S
