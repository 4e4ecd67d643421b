/- What the functions of this seat compute, each as a plain function on lists and numbers, with the proof that a call answers so. No condition. -/
import Derived.Test.YtbjgiioppmkpiaaProg
import Derived.KernelRfl
import Derived.WalkKit
import Derived.Lib.Walk
import Derived.Lib.Bytealg
import Derived.Laws.Externs
import Derived.Test.YtbjgiioppmkpiaaRxK3
set_option linter.unusedVariables false
set_option linter.unusedSimpArgs false
namespace Go.Proofs.Ytbjgiioppmkpiaa.Rx
abbrev NT:Type:=Int × Int × Int × Int × Int × Int × Bool × ByteArray × List (ByteArray × Int)
abbrev ZN:NT:=((0:Int),(0:Int),(0:Int),(0:Int),(0:Int),(0:Int),false,ByteArray.empty,[])
end Go.Proofs.Ytbjgiioppmkpiaa.Rx
namespace Go.Proofs.Ytbjgiioppmkpiaa.Rx.S
open Go Go.RowKit Go.Proofs
def tbl:List (TypeId × TI):=[
(2,⟨.int .i64,1,8,[.int .i64],some (.int .i64),false⟩),
(3,⟨.int .i64,1,8,[.int .i64],some (.int .i64),false⟩),
(4,⟨.bool,1,1,[.bool],some .bool,false⟩),
(5,⟨.int .u8,1,1,[.int .u8],some (.int .u8),false⟩),
(6,⟨.int .u8,1,1,[.int .u8],some (.int .u8),false⟩),
(7,⟨.struct [(0,1),(1,1),(2,1),(3,1)],4,24,[.int .i64,.int .i64,.bool,.int .u8],some (.pair (.int .i64) (.pair (.int .i64) (.pair .bool (.int .u8)))),true⟩),
(8,⟨.struct [(0,1),(1,1),(2,1),(3,1)],4,24,[.int .i64,.int .i64,.bool,.int .u8],some (.pair (.int .i64) (.pair (.int .i64) (.pair .bool (.int .u8)))),true⟩),
(9,⟨.str,1,16,[.str],some .str,false⟩),
(10,⟨.str,1,16,[.str],some .str,false⟩),
(11,⟨.str,1,16,[.str],some .str,false⟩),
(12,⟨.int .u64,1,8,[.int .u64],some (.int .u64),false⟩),
(13,⟨.struct [(0,1),(1,1)],2,24,[.str,.int .u64],some (.pair .str (.int .u64)),false⟩),
(14,⟨.struct [(0,1),(1,1)],2,24,[.str,.int .u64],some (.pair .str (.int .u64)),false⟩),
(15,⟨.ptr,1,8,[.ptr],none,false⟩),
(16,⟨.ptr,1,8,[.ptr],none,false⟩),
(17,⟨.ptr,1,8,[.ptr],none,false⟩),
(18,⟨.struct [(0,1)],1,8,[.ptr],none,false⟩),
(19,⟨.struct [(0,1)],1,8,[.ptr],none,false⟩),
(21,⟨.int .i32,1,4,[.int .i32],some (.int .i32),false⟩),
(22,⟨.slice 5,1,24,[.slice],some (.row 5 (.int .u8)),false⟩),
(23,⟨.slice 37,1,24,[.slice],some (.row 37 (.pair (.int .i64) (.pair (.int .i64) (.pair (.int .i64) (.pair (.int .i64) (.pair (.int .i64) (.pair (.int .i64) (.pair .bool (.pair .str (.row 100 (.pair .str (.int .i64)))))))))))),false⟩),
(24,⟨.struct [(0,1)],1,24,[.slice],some (.row 37 (.pair (.int .i64) (.pair (.int .i64) (.pair (.int .i64) (.pair (.int .i64) (.pair (.int .i64) (.pair (.int .i64) (.pair .bool (.pair .str (.row 100 (.pair .str (.int .i64)))))))))))),false⟩),
(25,⟨.struct [(0,1)],1,24,[.slice],some (.row 37 (.pair (.int .i64) (.pair (.int .i64) (.pair (.int .i64) (.pair (.int .i64) (.pair (.int .i64) (.pair (.int .i64) (.pair .bool (.pair .str (.row 100 (.pair .str (.int .i64)))))))))))),false⟩),
(26,⟨.slice 3,1,24,[.slice],some (.row 3 (.int .i64)),false⟩),
(27,⟨.struct [(0,1),(1,1),(2,1)],3,40,[.int .i64,.int .i64,.slice],some (.pair (.int .i64) (.pair (.int .i64) (.row 3 (.int .i64)))),false⟩),
(28,⟨.struct [(0,1),(1,1),(2,1)],3,40,[.int .i64,.int .i64,.slice],some (.pair (.int .i64) (.pair (.int .i64) (.row 3 (.int .i64)))),false⟩),
(35,⟨.slice 100,1,24,[.slice],some (.row 100 (.pair .str (.int .i64))),false⟩),
(36,⟨.struct [(0,1),(1,1),(2,1),(3,1),(4,1),(5,1),(6,1),(7,1),(8,1)],9,96,[.int .i64,.int .i64,.int .i64,.int .i64,.int .i64,.int .i64,.bool,.str,.slice],some (.pair (.int .i64) (.pair (.int .i64) (.pair (.int .i64) (.pair (.int .i64) (.pair (.int .i64) (.pair (.int .i64) (.pair .bool (.pair .str (.row 100 (.pair .str (.int .i64))))))))))),false⟩),
(37,⟨.struct [(0,1),(1,1),(2,1),(3,1),(4,1),(5,1),(6,1),(7,1),(8,1)],9,96,[.int .i64,.int .i64,.int .i64,.int .i64,.int .i64,.int .i64,.bool,.str,.slice],some (.pair (.int .i64) (.pair (.int .i64) (.pair (.int .i64) (.pair (.int .i64) (.pair (.int .i64) (.pair (.int .i64) (.pair .bool (.pair .str (.row 100 (.pair .str (.int .i64))))))))))),false⟩),
(44,⟨.slice 25,1,24,[.slice],some (.row 25 (.row 37 (.pair (.int .i64) (.pair (.int .i64) (.pair (.int .i64) (.pair (.int .i64) (.pair (.int .i64) (.pair (.int .i64) (.pair .bool (.pair .str (.row 100 (.pair .str (.int .i64))))))))))))),false⟩),
(45,⟨.struct [(0,1),(1,1)],2,32,[.slice,.int .i64],some (.pair (.row 25 (.row 37 (.pair (.int .i64) (.pair (.int .i64) (.pair (.int .i64) (.pair (.int .i64) (.pair (.int .i64) (.pair (.int .i64) (.pair .bool (.pair .str (.row 100 (.pair .str (.int .i64))))))))))))) (.int .i64)),false⟩),
(46,⟨.struct [(0,1),(1,1)],2,32,[.slice,.int .i64],some (.pair (.row 25 (.row 37 (.pair (.int .i64) (.pair (.int .i64) (.pair (.int .i64) (.pair (.int .i64) (.pair (.int .i64) (.pair (.int .i64) (.pair .bool (.pair .str (.row 100 (.pair .str (.int .i64))))))))))))) (.int .i64)),false⟩),
(54,⟨.slice 68,1,24,[.slice],some (.row 68 (.row 161 (.pair (.int .i64) (.pair (.int .i64) (.pair (.int .i64) (.pair (.int .i64) (.pair (.int .i64) (.pair (.int .i64) (.pair .bool (.pair .str (.row 178 (.pair .str (.int .i64))))))))))))),false⟩),
(55,⟨.struct [(0,1),(1,1)],2,32,[.slice,.int .i64],some (.pair (.row 68 (.row 161 (.pair (.int .i64) (.pair (.int .i64) (.pair (.int .i64) (.pair (.int .i64) (.pair (.int .i64) (.pair (.int .i64) (.pair .bool (.pair .str (.row 178 (.pair .str (.int .i64))))))))))))) (.int .i64)),false⟩),
(56,⟨.struct [(0,1),(1,1)],2,32,[.slice,.int .i64],some (.pair (.row 68 (.row 161 (.pair (.int .i64) (.pair (.int .i64) (.pair (.int .i64) (.pair (.int .i64) (.pair (.int .i64) (.pair (.int .i64) (.pair .bool (.pair .str (.row 178 (.pair .str (.int .i64))))))))))))) (.int .i64)),false⟩),
(57,⟨.struct [(0,1),(1,1),(2,1)],3,40,[.int .i64,.int .i64,.slice],some (.pair (.int .i64) (.pair (.int .i64) (.row 3 (.int .i64)))),false⟩),
(66,⟨.slice 161,1,24,[.slice],some (.row 161 (.pair (.int .i64) (.pair (.int .i64) (.pair (.int .i64) (.pair (.int .i64) (.pair (.int .i64) (.pair (.int .i64) (.pair .bool (.pair .str (.row 178 (.pair .str (.int .i64)))))))))))),false⟩),
(67,⟨.struct [(0,1)],1,24,[.slice],some (.row 161 (.pair (.int .i64) (.pair (.int .i64) (.pair (.int .i64) (.pair (.int .i64) (.pair (.int .i64) (.pair (.int .i64) (.pair .bool (.pair .str (.row 178 (.pair .str (.int .i64)))))))))))),false⟩),
(68,⟨.struct [(0,1)],1,24,[.slice],some (.row 161 (.pair (.int .i64) (.pair (.int .i64) (.pair (.int .i64) (.pair (.int .i64) (.pair (.int .i64) (.pair (.int .i64) (.pair .bool (.pair .str (.row 178 (.pair .str (.int .i64)))))))))))),false⟩),
(86,⟨.ptr,1,8,[.ptr],none,false⟩),
(99,⟨.struct [(0,1),(1,1)],2,24,[.str,.int .i64],some (.pair .str (.int .i64)),true⟩),
(100,⟨.struct [(0,1),(1,1)],2,24,[.str,.int .i64],some (.pair .str (.int .i64)),true⟩),
(128,⟨.int .i64,1,8,[.int .i64],some (.int .i64),false⟩),
(132,⟨.struct [(0,1),(1,1)],2,32,[.slice,.int .i64],some (.pair (.row 5 (.int .u8)) (.int .i64)),false⟩),
(133,⟨.struct [(0,1),(1,1)],2,32,[.slice,.int .i64],some (.pair (.row 5 (.int .u8)) (.int .i64)),false⟩),
(139,⟨.slice 4,1,24,[.slice],some (.row 4 .bool),false⟩),
(144,⟨.slice 9,1,24,[.slice],some (.row 9 .str),false⟩),
(148,⟨.ptr,1,8,[.ptr],none,false⟩),
(149,⟨.ptr,1,8,[.ptr],none,false⟩),
(159,⟨.slice 178,1,24,[.slice],some (.row 178 (.pair .str (.int .i64))),false⟩),
(160,⟨.struct [(0,1),(1,1),(2,1),(3,1),(4,1),(5,1),(6,1),(7,1),(8,1)],9,96,[.int .i64,.int .i64,.int .i64,.int .i64,.int .i64,.int .i64,.bool,.str,.slice],some (.pair (.int .i64) (.pair (.int .i64) (.pair (.int .i64) (.pair (.int .i64) (.pair (.int .i64) (.pair (.int .i64) (.pair .bool (.pair .str (.row 178 (.pair .str (.int .i64))))))))))),false⟩),
(161,⟨.struct [(0,1),(1,1),(2,1),(3,1),(4,1),(5,1),(6,1),(7,1),(8,1)],9,96,[.int .i64,.int .i64,.int .i64,.int .i64,.int .i64,.int .i64,.bool,.str,.slice],some (.pair (.int .i64) (.pair (.int .i64) (.pair (.int .i64) (.pair (.int .i64) (.pair (.int .i64) (.pair (.int .i64) (.pair .bool (.pair .str (.row 178 (.pair .str (.int .i64))))))))))),false⟩),
(172,⟨.int .u64,1,8,[.int .u64],some (.int .u64),false⟩),
(178,⟨.struct [(0,1),(1,1)],2,24,[.str,.int .i64],some (.pair .str (.int .i64)),true⟩),
(183,⟨.struct [(0,1),(1,1),(2,1),(3,1)],4,40,[.ptr,.ptr,.ptr,.str],none,false⟩),
(184,⟨.struct [(0,1),(1,1),(2,1),(3,1)],4,40,[.ptr,.ptr,.ptr,.str],none,false⟩),
(186,⟨.struct [(0,0)],0,0,[],none,false⟩),
(187,⟨.struct [(0,0)],0,0,[],none,false⟩),
(189,⟨.int .u32,1,4,[.int .u32],some (.int .u32),false⟩),
(190,⟨.int .u8,1,1,[.int .u8],some (.int .u8),false⟩),
(191,⟨.int .u8,1,1,[.int .u8],some (.int .u8),false⟩),
(193,⟨.ptr,1,8,[.ptr],none,false⟩),
(194,⟨.int .i32,1,4,[.int .i32],some (.int .i32),false⟩),
(195,⟨.int .i32,1,4,[.int .i32],some (.int .i32),false⟩),
(199,⟨.other,1,8,[.ptr],none,false⟩)]
def TT:TB:=tbOf tbl
theorem tt_ok:TBok Try.prog TT:=tbOk (by decide +kernel)
abbrev i64:Ty:=.int .i64
abbrev tEn:Ty:=.pair .str i64
abbrev tRd:Ty:=.pair (.row 5 (.int .u8)) i64
abbrev tIn (a:TypeId):Ty:=.pair i64 (.pair i64 (.pair i64 (.pair i64 (.pair i64 (.pair i64 (.pair .bool (.pair .str (.row a tEn))))))))
abbrev tFs:Ty:=.row 37 (tIn 100)
abbrev tLf:Ty:=.row 161 (tIn 178)
abbrev tCr:Ty:=.pair i64 (.pair i64 (.row 3 i64))
theorem mixed:Try.prog.follows .mixedOrders=true:=by kernel_rfl
end Go.Proofs.Ytbjgiioppmkpiaa.Rx.S

namespace Go.Proofs.Ytbjgiioppmkpiaa.Rx.S
open Go Go.RowKit Go.Proofs
set_option maxRecDepth 100000
noncomputable def c102:Code:=(Try.f102.body.getD .skip)
def an102:An:=⟨fun _=>⟨[],[]⟩,fun _ _=>none⟩
abbrev ps102:List PK:=[.bx tRd,.val i64 false]
abbrev rs102:List RK:=[.val i64 false]
abbrev R102:=retsD rs102 × outsD ps102
noncomputable def G102:Gam:=fun _=>none
theorem h0_102 (hg:GamOK Try.prog G102):Holds Try.prog 102 ⟨ps102,rs102,true,runF TT G102 an102 Try.f102 c102 ps102 rs102⟩:=holds_of tt_ok hg mixed Try.func102 (by kernel_rfl) (by rfl) (by decide +kernel)
noncomputable def st102_top (n:Nat) (a:List Int × Int) (b:Int):Option R102 :=
 cond (decide (b < (1:Int))) (some (((0:Int),()),((a.1,Go.IntKind.i64.wrap (a.2 + (1:Int))),()))) (cond (decide ((↑(List.length a.1):Int)=(0:Int))) (some (((0:Int),()),((a.1,Go.IntKind.i64.wrap (a.2 + (1:Int))),()))) (cond (decide (Go.IntKind.i64.wrap (Go.IntKind.i64.wrap (a.2 + (1:Int)) - (1:Int)) < (↑(List.length a.1):Int))) (cond (decide ((0:Int)≤Go.IntKind.i64.wrap (Go.IntKind.i64.wrap (a.2 + (1:Int)) - (1:Int)))) (cond (decide (Go.IntKind.i64.wrap (Go.IntKind.i64.wrap (a.2 + (1:Int)) - (1:Int)) < (↑(List.length a.1):Int))) (cond (!decide (b=(0:Int))) (some (((Go.IntKind.i64.wrap (List.getD a.1 (Go.IntKind.i64.wrap (Go.IntKind.i64.wrap (a.2 + (1:Int)) - (1:Int))).toNat (0:Int))).tmod b,()),((a.1,Go.IntKind.i64.wrap (a.2 + (1:Int))),()))) (none)) (none)) (none)) (cond (!decide ((↑(List.length a.1):Int)=(0:Int))) (cond (decide ((0:Int)≤(Go.IntKind.i64.wrap (Go.IntKind.i64.wrap (a.2 + (1:Int)) - (1:Int))).tmod (↑(List.length a.1):Int))) (cond (decide ((Go.IntKind.i64.wrap (Go.IntKind.i64.wrap (a.2 + (1:Int)) - (1:Int))).tmod (↑(List.length a.1):Int) < (↑(List.length a.1):Int))) (cond (!decide ((↑(List.length a.1):Int)=(0:Int))) (cond (decide ((0:Int)≤(Go.IntKind.i64.wrap (Go.IntKind.i64.wrap (Go.IntKind.i64.wrap (Go.IntKind.i64.wrap (a.2 + (1:Int)) - (1:Int)) * (7:Int)) + (3:Int))).tmod (↑(List.length a.1):Int))) (cond (decide ((Go.IntKind.i64.wrap (Go.IntKind.i64.wrap (Go.IntKind.i64.wrap (Go.IntKind.i64.wrap (a.2 + (1:Int)) - (1:Int)) * (7:Int)) + (3:Int))).tmod (↑(List.length a.1):Int) < (↑(List.length a.1):Int))) (cond (!decide ((↑(List.length a.1):Int)=(0:Int))) (cond (!decide (b=(0:Int))) (some (((Go.IntKind.i64.wrap (↑(BitVec.ofInt Go.IntKind.i64.bits (Go.IntKind.i64.wrap (Go.IntKind.i64.wrap (Go.IntKind.i64.wrap (Go.IntKind.i64.wrap (Go.IntKind.i64.wrap (List.getD a.1 ((Go.IntKind.i64.wrap (Go.IntKind.i64.wrap (a.2 + (1:Int)) - (1:Int))).tmod (↑(List.length a.1):Int)).toNat (0:Int)) * (131:Int)) + Go.IntKind.i64.wrap (Go.IntKind.i64.wrap (List.getD a.1 ((Go.IntKind.i64.wrap (Go.IntKind.i64.wrap (Go.IntKind.i64.wrap (Go.IntKind.i64.wrap (a.2 + (1:Int)) - (1:Int)) * (7:Int)) + (3:Int))).tmod (↑(List.length a.1):Int)).toNat (0:Int)) * (1117:Int))) + Go.IntKind.i64.wrap (Go.IntKind.i64.wrap (Go.IntKind.i64.wrap (a.2 + (1:Int)) - (1:Int)) * (29:Int))) + Go.IntKind.i64.wrap (Go.IntKind.i64.wrap ((Go.IntKind.i64.wrap (Go.IntKind.i64.wrap (a.2 + (1:Int)) - (1:Int))).tdiv (↑(List.length a.1):Int)) * (53:Int)))) ^^^ BitVec.ofInt Go.IntKind.i64.bits (Go.IntKind.i64.wrap ((Go.IntKind.i64.wrap (Go.IntKind.i64.wrap (Go.IntKind.i64.wrap (Go.IntKind.i64.wrap (Go.IntKind.i64.wrap (List.getD a.1 ((Go.IntKind.i64.wrap (Go.IntKind.i64.wrap (a.2 + (1:Int)) - (1:Int))).tmod (↑(List.length a.1):Int)).toNat (0:Int)) * (131:Int)) + Go.IntKind.i64.wrap (Go.IntKind.i64.wrap (List.getD a.1 ((Go.IntKind.i64.wrap (Go.IntKind.i64.wrap (Go.IntKind.i64.wrap (Go.IntKind.i64.wrap (a.2 + (1:Int)) - (1:Int)) * (7:Int)) + (3:Int))).tmod (↑(List.length a.1):Int)).toNat (0:Int)) * (1117:Int))) + Go.IntKind.i64.wrap (Go.IntKind.i64.wrap (Go.IntKind.i64.wrap (a.2 + (1:Int)) - (1:Int)) * (29:Int))) + Go.IntKind.i64.wrap (Go.IntKind.i64.wrap ((Go.IntKind.i64.wrap (Go.IntKind.i64.wrap (a.2 + (1:Int)) - (1:Int))).tdiv (↑(List.length a.1):Int)) * (53:Int)))).tdiv (64:Int)))).toNat:Int)).tmod b,()),((a.1,Go.IntKind.i64.wrap (a.2 + (1:Int))),()))) (none)) (none)) (none)) (none)) (none)) (none)) (none)) (none))))
theorem e102_top (n:Nat) (a:List Int × Int) (b:Int):runF TT G102 an102 Try.f102 c102 ps102 rs102 n (a,b,())=st102_top n a b:=by kernel_rfl
noncomputable def p102 (n:Nat) (a:List Int × Int) (b:Int):Option R102:=st102_top n a b
theorem F102_eq (n:Nat) (a:List Int × Int) (b:Int):runF TT G102 an102 Try.f102 c102 ps102 rs102 n (a,b,())=p102 n a b:=by
 rw [e102_top]
 skip
 try rfl
noncomputable def q102 (n:Nat) (x:argsD ps102):Option R102:=p102 n x.1 x.2.1
noncomputable def Sm102:Sm:=⟨ps102,rs102,true,q102⟩
theorem holds102 (hg:GamOK Try.prog G102):Holds Try.prog 102 Sm102:=by
 have:=h0_102 hg
 have e:(runF TT G102 an102 Try.f102 c102 ps102 rs102)=q102:=by
  funext n x
  exact F102_eq n x.1 x.2.1
 rw [e] at this
 exact this
theorem gam102:GamOK Try.prog G102:=fun _ _ h=>by cases h
theorem hh102:Holds Try.prog 102 Sm102:=holds102 gam102
end Go.Proofs.Ytbjgiioppmkpiaa.Rx.S

namespace Go.Proofs.Ytbjgiioppmkpiaa.Rx.S
open Go Go.RowKit Go.Proofs
set_option maxRecDepth 100000
noncomputable def c55:Code:=(Try.f55.body.getD .skip)
def an55:An:=⟨fun _=>⟨[],[]⟩,fun _ _=>none⟩
abbrev ps55:List PK:=[.val (.row 5 (.int .u8)) false]
abbrev rs55:List RK:=[.bx tRd]
abbrev R55:=retsD rs55 × outsD ps55
noncomputable def G55:Gam:=fun _=>none
theorem h0_55 (hg:GamOK Try.prog G55):Holds Try.prog 55 ⟨ps55,rs55,true,runF TT G55 an55 Try.f55 c55 ps55 rs55⟩:=holds_of tt_ok hg mixed Try.func55 (by kernel_rfl) (by rfl) (by decide +kernel)
noncomputable def st55_top (n:Nat) (a:List Int):Option R55 :=
 cond (decide ((2000:Int) < (↑a.length:Int))) (cond (decide ((2000:Int)≤(↑a.length:Int))) (some (((List.take (Int.toNat (2000:Int)) a,(0:Int)),()),())) (none)) (some (((a,(0:Int)),()),()))
theorem e55_top (n:Nat) (a:List Int):runF TT G55 an55 Try.f55 c55 ps55 rs55 n (a,())=st55_top n a:=by kernel_rfl
noncomputable def p55 (n:Nat) (a:List Int):Option R55:=st55_top n a
theorem F55_eq (n:Nat) (a:List Int):runF TT G55 an55 Try.f55 c55 ps55 rs55 n (a,())=p55 n a:=by
 rw [e55_top]
 skip
 try rfl
noncomputable def q55 (n:Nat) (x:argsD ps55):Option R55:=p55 n x.1
noncomputable def Sm55:Sm:=⟨ps55,rs55,true,q55⟩
theorem holds55 (hg:GamOK Try.prog G55):Holds Try.prog 55 Sm55:=by
 have:=h0_55 hg
 have e:(runF TT G55 an55 Try.f55 c55 ps55 rs55)=q55:=by
  funext n x
  exact F55_eq n x.1
 rw [e] at this
 exact this
theorem gam55:GamOK Try.prog G55:=fun _ _ h=>by cases h
theorem hh55:Holds Try.prog 55 Sm55:=holds55 gam55
end Go.Proofs.Ytbjgiioppmkpiaa.Rx.S

namespace Go.Proofs.Ytbjgiioppmkpiaa.Rx.S
open Go Go.RowKit Go.Proofs
set_option maxRecDepth 100000
noncomputable def c71:Code:=(Try.f71.body.getD .skip)
def an71:An:=⟨fun _=>⟨[],[]⟩,fun _ _=>none⟩
abbrev ps71:List PK:=[.bx tRd]
abbrev rs71:List RK:=[.val .str false]
abbrev R71:=retsD rs71 × outsD ps71
noncomputable def G71:Gam:=fun f=>match f with | 102=>some Sm102 | _=>none
theorem h0_71 (hg:GamOK Try.prog G71):Holds Try.prog 71 ⟨ps71,rs71,true,runF TT G71 an71 Try.f71 c71 ps71 rs71⟩:=holds_of tt_ok hg mixed Try.func71 (by kernel_rfl) (by rfl) (by decide +kernel)
noncomputable def st71_top (n:Nat) (a:List Int × Int):Option R71 :=
 (q102 n ((a.1,a.2),(24:Int),())).bind fun r0=>cond (decide (r0.1.1=(0:Int))) ((q102 n ((r0.2.1.1,r0.2.1.2),(5:Int),())).bind fun r1=>cond (decide ((0:Int)≤r1.1.1)) (cond (decide (r1.1.1 < (↑[ByteArray.mk #[],ByteArray.mk #[(65:UInt8)],ByteArray.mk #[(97:UInt8),(98:UInt8),(99:UInt8),(100:UInt8)],ByteArray.mk #[(46:UInt8),(46:UInt8)],ByteArray.mk #[(97:UInt8),(47:UInt8)]].length:Int))) (some (([ByteArray.mk #[],ByteArray.mk #[(65:UInt8)],ByteArray.mk #[(97:UInt8),(98:UInt8),(99:UInt8),(100:UInt8)],ByteArray.mk #[(46:UInt8),(46:UInt8)],ByteArray.mk #[(97:UInt8),(47:UInt8)]].getD (Int.toNat r1.1.1) ByteArray.empty,()),((r1.2.1.1,r1.2.1.2),()))) (none)) (none)) ((q102 n ((r0.2.1.1,r0.2.1.2),(4:Int),())).bind fun r2=>cond (decide ((0:Int)≤r2.1.1)) (cond (decide (r2.1.1 < (↑[ByteArray.mk #[(97:UInt8)],ByteArray.mk #[(98:UInt8)],ByteArray.mk #[(99:UInt8)],ByteArray.mk #[(97:UInt8),(98:UInt8)]].length:Int))) (some (([ByteArray.mk #[(97:UInt8)],ByteArray.mk #[(98:UInt8)],ByteArray.mk #[(99:UInt8)],ByteArray.mk #[(97:UInt8),(98:UInt8)]].getD (Int.toNat r2.1.1) ByteArray.empty,()),((r2.2.1.1,r2.2.1.2),()))) (none)) (none))
theorem e71_top (n:Nat) (a:List Int × Int):runF TT G71 an71 Try.f71 c71 ps71 rs71 n (a,())=st71_top n a:=by kernel_rfl
noncomputable def p71 (n:Nat) (a:List Int × Int):Option R71:=st71_top n a
theorem F71_eq (n:Nat) (a:List Int × Int):runF TT G71 an71 Try.f71 c71 ps71 rs71 n (a,())=p71 n a:=by
 rw [e71_top]
 skip
 try rfl
noncomputable def q71 (n:Nat) (x:argsD ps71):Option R71:=p71 n x.1
noncomputable def Sm71:Sm:=⟨ps71,rs71,true,q71⟩
theorem holds71 (hg:GamOK Try.prog G71):Holds Try.prog 71 Sm71:=by
 have:=h0_71 hg
 have e:(runF TT G71 an71 Try.f71 c71 ps71 rs71)=q71:=by
  funext n x
  exact F71_eq n x.1
 rw [e] at this
 exact this
theorem gam71:GamOK Try.prog G71:=by
 intro f s h
 unfold G71 at h
 split at h
 ·injection h with h; subst h; exact ⟨⟨Try.f102,c102,Try.func102,by kernel_rfl,by decide +kernel⟩,hh102⟩
 ·cases h
theorem hh71:Holds Try.prog 71 Sm71:=holds71 gam71
end Go.Proofs.Ytbjgiioppmkpiaa.Rx.S

namespace Go.Proofs.Ytbjgiioppmkpiaa.Rx.S
open Go Go.RowKit Go.Proofs
set_option maxRecDepth 100000
noncomputable def c66:Code:=(Try.f66.body.getD .skip)
def an66:An:=⟨fun _=>⟨[],[]⟩,fun _ _=>none⟩
abbrev ps66:List PK:=[.val i64 false,.val i64 false,.val i64 false]
abbrev rs66:List RK:=[.val .bool false]
abbrev R66:=retsD rs66 × outsD ps66
noncomputable def G66:Gam:=fun _=>none
theorem h0_66 (hg:GamOK Try.prog G66):Holds Try.prog 66 ⟨ps66,rs66,false,runF TT G66 an66 Try.f66 c66 ps66 rs66⟩:=holds_of tt_ok hg mixed Try.func66 (by kernel_rfl) (by rfl) (by decide +kernel)
noncomputable def st66_top (n:Nat) (a:Int) (b:Int) (c:Int):Option R66 :=
 cond (decide (b≤a)) (some ((decide (a≤c),()),())) (some ((false,()),()))
theorem e66_top (n:Nat) (a:Int) (b:Int) (c:Int):runF TT G66 an66 Try.f66 c66 ps66 rs66 n (a,b,c,())=st66_top n a b c:=by kernel_rfl
noncomputable def p66 (n:Nat) (a:Int) (b:Int) (c:Int):Option R66:=st66_top n a b c
theorem F66_eq (n:Nat) (a:Int) (b:Int) (c:Int):runF TT G66 an66 Try.f66 c66 ps66 rs66 n (a,b,c,())=p66 n a b c:=by
 rw [e66_top]
 skip
 try rfl
noncomputable def q66 (n:Nat) (x:argsD ps66):Option R66:=p66 n x.1 x.2.1 x.2.2.1
noncomputable def Sm66:Sm:=⟨ps66,rs66,false,q66⟩
theorem holds66 (hg:GamOK Try.prog G66):Holds Try.prog 66 Sm66:=by
 have:=h0_66 hg
 have e:(runF TT G66 an66 Try.f66 c66 ps66 rs66)=q66:=by
  funext n x
  exact F66_eq n x.1 x.2.1 x.2.2.1
 rw [e] at this
 exact this
theorem gam66:GamOK Try.prog G66:=fun _ _ h=>by cases h
theorem hh66:Holds Try.prog 66 Sm66:=holds66 gam66
end Go.Proofs.Ytbjgiioppmkpiaa.Rx.S

namespace Go.Proofs.Ytbjgiioppmkpiaa.Rx.S
open Go Go.RowKit Go.Proofs
set_option maxRecDepth 100000
noncomputable def c118:Code:=(Try.f118.body.getD .skip)
def an118:An:=⟨fun _=>⟨[],[]⟩,fun _ _=>none⟩
abbrev ps118:List PK:=[.val i64 false]
abbrev rs118:List RK:=[.val .bool false]
abbrev R118:=retsD rs118 × outsD ps118
noncomputable def G118:Gam:=fun f=>match f with | 66=>some Sm66 | _=>none
theorem h0_118 (hg:GamOK Try.prog G118):Holds Try.prog 118 ⟨ps118,rs118,false,runF TT G118 an118 Try.f118 c118 ps118 rs118⟩:=holds_of tt_ok hg mixed Try.func118 (by kernel_rfl) (by rfl) (by decide +kernel)
noncomputable def st118_top (n:Nat) (a:Int):Option R118 :=
 (q66 n (a,(0:Int),(9:Int),())).bind fun r0=>some ((r0.1.1,()),())
theorem e118_top (n:Nat) (a:Int):runF TT G118 an118 Try.f118 c118 ps118 rs118 n (a,())=st118_top n a:=by kernel_rfl
noncomputable def p118 (n:Nat) (a:Int):Option R118:=st118_top n a
theorem F118_eq (n:Nat) (a:Int):runF TT G118 an118 Try.f118 c118 ps118 rs118 n (a,())=p118 n a:=by
 rw [e118_top]
 skip
 try rfl
noncomputable def q118 (n:Nat) (x:argsD ps118):Option R118:=p118 n x.1
noncomputable def Sm118:Sm:=⟨ps118,rs118,false,q118⟩
theorem holds118 (hg:GamOK Try.prog G118):Holds Try.prog 118 Sm118:=by
 have:=h0_118 hg
 have e:(runF TT G118 an118 Try.f118 c118 ps118 rs118)=q118:=by
  funext n x
  exact F118_eq n x.1
 rw [e] at this
 exact this
theorem gam118:GamOK Try.prog G118:=by
 intro f s h
 unfold G118 at h
 split at h
 ·injection h with h; subst h; exact ⟨⟨Try.f66,c66,Try.func66,by kernel_rfl,by decide +kernel⟩,hh66⟩
 ·cases h
theorem hh118:Holds Try.prog 118 Sm118:=holds118 gam118
end Go.Proofs.Ytbjgiioppmkpiaa.Rx.S

namespace Go.Proofs.Ytbjgiioppmkpiaa.Rx.S
open Go Go.RowKit Go.Proofs
set_option maxRecDepth 100000
noncomputable def c112:Code:=(Try.f112.body.getD .skip)
def an112:An:=⟨fun _=>⟨[],[]⟩,fun _ _=>none⟩
abbrev ps112:List PK:=[.val i64 false,.val i64 false]
abbrev rs112:List RK:=[.own tFs true,.val .bool false]
abbrev R112:=retsD rs112 × outsD ps112
noncomputable def G112:Gam:=fun f=>match f with | 66=>some Sm66 | 118=>some Sm118 | _=>none
theorem h0_112 (hg:GamOK Try.prog G112):Holds Try.prog 112 ⟨ps112,rs112,false,runF TT G112 an112 Try.f112 c112 ps112 rs112⟩:=holds_of tt_ok hg mixed Try.func112 (by kernel_rfl) (by rfl) (by decide +kernel)
noncomputable def st112_top (n:Nat) (a:Int) (b:Int):Option R112 :=
 (q118 n (a,())).bind fun r0=>cond (!r0.1.1) (some (([],(false,())),())) ((q66 n (b,(0:Int),(511:Int),())).bind fun r1=>cond (!r1.1.1) (some (([],(false,())),())) (some (((List.replicate (Int.toNat (10:Int)) ZN).set (Int.toNat (0:Int)) ((2:Int),b,a,a,(0:Int),(0:Int),false,ByteArray.empty,[]),(true,())),())))
theorem e112_top (n:Nat) (a:Int) (b:Int):runF TT G112 an112 Try.f112 c112 ps112 rs112 n (a,b,())=st112_top n a b:=by kernel_rfl
noncomputable def p112 (n:Nat) (a:Int) (b:Int):Option R112:=st112_top n a b
theorem F112_eq (n:Nat) (a:Int) (b:Int):runF TT G112 an112 Try.f112 c112 ps112 rs112 n (a,b,())=p112 n a b:=by
 rw [e112_top]
 skip
 try rfl
noncomputable def q112 (n:Nat) (x:argsD ps112):Option R112:=p112 n x.1 x.2.1
noncomputable def Sm112:Sm:=⟨ps112,rs112,false,q112⟩
theorem holds112 (hg:GamOK Try.prog G112):Holds Try.prog 112 Sm112:=by
 have:=h0_112 hg
 have e:(runF TT G112 an112 Try.f112 c112 ps112 rs112)=q112:=by
  funext n x
  exact F112_eq n x.1 x.2.1
 rw [e] at this
 exact this
theorem gam112:GamOK Try.prog G112:=by
 intro f s h
 unfold G112 at h
 split at h
 ·injection h with h; subst h; exact ⟨⟨Try.f66,c66,Try.func66,by kernel_rfl,by decide +kernel⟩,hh66⟩
 ·injection h with h; subst h; exact ⟨⟨Try.f118,c118,Try.func118,by kernel_rfl,by decide +kernel⟩,hh118⟩
 ·cases h
theorem hh112:Holds Try.prog 112 Sm112:=holds112 gam112
end Go.Proofs.Ytbjgiioppmkpiaa.Rx.S

namespace Go.Proofs.Ytbjgiioppmkpiaa.Rx.S
open Go Go.RowKit Go.Proofs
set_option maxRecDepth 100000
noncomputable def c57:Code:=(Try.f57.body.getD .skip)
def an57:An:=⟨fun r=>match r with | 3=>⟨[0,2,3,4],[]⟩ | _=>⟨[],[]⟩,fun _ _=>none⟩
abbrev ps57:List PK:=[.bx tRd]
abbrev rs57:List RK:=[.own tCr true]
abbrev R57:=retsD rs57 × outsD ps57
noncomputable def G57:Gam:=fun f=>match f with | 102=>some Sm102 | _=>none
theorem h0_57 (hg:GamOK Try.prog G57):Holds Try.prog 57 ⟨ps57,rs57,true,runF TT G57 an57 Try.f57 c57 ps57 rs57⟩:=holds_of tt_ok hg mixed Try.func57 (by kernel_rfl) (by rfl) (by decide +kernel)
noncomputable def at57:Nat→Pt→List Nat→St→Option R57:=atF TT G57 an57 Try.f57 c57 _ _
def sh57_L3 (x0:Int) (x1:List Int) (x2:Int) (x3:Int) (x4:Int) (x5:Int) (x6:Int) (x7:List Int):St:=(St.mk ((AV.par 0 false ((SV.bptr 1000000 0) :: [])) :: (AV.undef :: ((AV.one (SV.bptr 1000001 0)) :: ((AV.one (SV.bptr 1000002 0)) :: ((AV.one (SV.int (Go.IntKind.i64) x0)) :: (AV.undef :: (AV.undef :: (AV.undef :: (AV.undef :: (AV.undef :: (AV.undef :: (AV.undef :: (AV.undef :: (AV.undef :: (AV.undef :: (AV.undef :: (AV.undef :: (AV.undef :: (AV.undef :: (AV.undef :: (AV.undef :: (AV.undef :: (AV.undef :: (AV.undef :: (AV.undef :: (AV.undef :: (AV.undef :: (AV.undef :: (AV.undef :: (AV.undef :: (AV.undef :: (AV.undef :: (AV.undef :: (AV.undef :: (AV.undef :: (AV.undef :: (AV.undef :: (AV.undef :: (AV.undef :: (AV.undef :: (AV.undef :: (AV.undef :: (AV.undef :: (AV.undef :: (AV.undef :: (AV.undef :: (AV.undef :: (AV.undef :: (AV.undef :: (AV.undef :: (AV.undef :: (AV.undef :: (AV.undef :: []))))))))))))))))))))))))))))))))))))))))))))))))))))) ((1000000,(Ent.box ((SV.con (⟨5,Ty.int Go.IntKind.u8,x1⟩:Rw)) :: ((SV.int (Go.IntKind.i64) x2) :: [])))) :: ((1000001,(Ent.box ((SV.int (Go.IntKind.i64) x3) :: ((SV.int (Go.IntKind.i64) x4) :: (SV.nil :: []))))) :: ((1000002,(Ent.box ((SV.int (Go.IntKind.i64) x5) :: ((SV.int (Go.IntKind.i64) x6) :: ((SV.ref 1000003 0 [] Option.none) :: []))))) :: ((1000003,(Ent.row (⟨3,Ty.int Go.IntKind.i64,x7⟩:Rw) 0 Option.none)) :: [])))))
noncomputable def st57_top (n:Nat) (lL3:Int→(List Int)→Int→Int→Int→Int→Int→(List Int)→Option R57) (a:List Int × Int):Option R57 :=
 (q102 n ((a.1,a.2),(4:Int),())).bind fun r0=>(q102 n ((r0.2.1.1,r0.2.1.2),(4:Int),())).bind fun r1=>lL3 ((0:Int)) (r1.2.1.1) (r1.2.1.2) ((0:Int)) ((0:Int)) (r0.1.1) (r1.1.1) ([])
noncomputable def st57_L3 (n:Nat) (lL3:Int→(List Int)→Int→Int→Int→Int→Int→(List Int)→Option R57) (x0:Int) (x1:List Int) (x2:Int) (x3:Int) (x4:Int) (x5:Int) (x6:Int) (x7:List Int):Option R57 :=
 cond (decide (x0 < (5:Int))) (cond (decide ((↑x7.length:Int) < (3:Int))) ((q102 n ((x1,x2),(4:Int),())).bind fun r3=>cond (decide (r3.1.1=(0:Int))) (cond (decide ((x7.length + [x0].length) * (8:Nat)≤(140737488355328:Nat))) (lL3 (Go.IntKind.i64.wrap (x0 + (1:Int))) (r3.2.1.1) (r3.2.1.2) (x3) (x4) (x5) (x6) (x7 ++ [x0])) (none)) (lL3 (Go.IntKind.i64.wrap (x0 + (1:Int))) (r3.2.1.1) (r3.2.1.2) (x3) (x4) (x5) (x6) (x7))) ((q102 n ((x1,x2),(30:Int),())).bind fun r4=>cond (decide (r4.1.1=(0:Int))) ((q102 n ((r4.2.1.1,r4.2.1.2),(3:Int),())).bind fun r5=>cond (decide ((0:Int)≤r5.1.1)) (cond (decide (r5.1.1 < (↑[(-1:Int),(10:Int),(9:Int)].length:Int))) (some ((([(-1:Int),(10:Int),(9:Int)].getD (Int.toNat r5.1.1) (0:Int),(x6,x7)),()),((r5.2.1.1,r5.2.1.2),()))) (none)) (none)) (cond (decide (r4.1.1=(1:Int))) ((q102 n ((r4.2.1.1,r4.2.1.2),(3:Int),())).bind fun r6=>cond (decide ((0:Int)≤r6.1.1)) (cond (decide (r6.1.1 < (↑[(0:Int),(9:Int),(10:Int)].length:Int))) (cond (decide ((x7.length + [[(0:Int),(9:Int),(10:Int)].getD (Int.toNat r6.1.1) (0:Int)].length) * (8:Nat)≤(140737488355328:Nat))) (some (((x5,(x6,x7 ++ [[(0:Int),(9:Int),(10:Int)].getD (Int.toNat r6.1.1) (0:Int)])),()),((r6.2.1.1,r6.2.1.2),()))) (none)) (none)) (none)) (some (((x5,(x6,x7)),()),((r4.2.1.1,r4.2.1.2),())))))) ((q102 n ((x1,x2),(30:Int),())).bind fun r7=>cond (decide (r7.1.1=(0:Int))) ((q102 n ((r7.2.1.1,r7.2.1.2),(3:Int),())).bind fun r8=>cond (decide ((0:Int)≤r8.1.1)) (cond (decide (r8.1.1 < (↑[(-1:Int),(10:Int),(9:Int)].length:Int))) (some ((([(-1:Int),(10:Int),(9:Int)].getD (Int.toNat r8.1.1) (0:Int),(x6,x7)),()),((r8.2.1.1,r8.2.1.2),()))) (none)) (none)) (cond (decide (r7.1.1=(1:Int))) ((q102 n ((r7.2.1.1,r7.2.1.2),(3:Int),())).bind fun r9=>cond (decide ((0:Int)≤r9.1.1)) (cond (decide (r9.1.1 < (↑[(0:Int),(9:Int),(10:Int)].length:Int))) (cond (decide ((x7.length + [[(0:Int),(9:Int),(10:Int)].getD (Int.toNat r9.1.1) (0:Int)].length) * (8:Nat)≤(140737488355328:Nat))) (some (((x5,(x6,x7 ++ [[(0:Int),(9:Int),(10:Int)].getD (Int.toNat r9.1.1) (0:Int)])),()),((r9.2.1.1,r9.2.1.2),()))) (none)) (none)) (none)) (some (((x5,(x6,x7)),()),((r7.2.1.1,r7.2.1.2),())))))
theorem e57_top (n:Nat) (a:List Int × Int):runF TT G57 an57 Try.f57 c57 ps57 rs57 n (a,())=st57_top n (fun x0 x1 x2 x3 x4 x5 x6 x7=>at57 n (.head 3) [n] (sh57_L3 x0 x1 x2 x3 x4 x5 x6 x7)) a:=by kernel_rfl
theorem e57_L3_0 (n:Nat) (x0:Int) (x1:List Int) (x2:Int) (x3:Int) (x4:Int) (x5:Int) (x6:Int) (x7:List Int):at57 n (.head 3) [0] (sh57_L3 x0 x1 x2 x3 x4 x5 x6 x7)=none:=by kernel_rfl
theorem e57_L3 (n:Nat) (m3:Nat) (x0:Int) (x1:List Int) (x2:Int) (x3:Int) (x4:Int) (x5:Int) (x6:Int) (x7:List Int):at57 n (.head 3) [m3 + 1] (sh57_L3 x0 x1 x2 x3 x4 x5 x6 x7)=st57_L3 n (fun x0 x1 x2 x3 x4 x5 x6 x7=>at57 n (.head 3) [m3] (sh57_L3 x0 x1 x2 x3 x4 x5 x6 x7)) x0 x1 x2 x3 x4 x5 x6 x7:=by kernel_rfl
noncomputable def p57_L3 (n:Nat):Nat→Int→(List Int)→Int→Int→Int→Int→Int→(List Int)→Option R57
 | 0,_,_,_,_,_,_,_,_=>none
 | m + 1,x0,x1,x2,x3,x4,x5,x6,x7=>st57_L3 n (p57_L3 n m) x0 x1 x2 x3 x4 x5 x6 x7
noncomputable def p57 (n:Nat) (a:List Int × Int):Option R57:=st57_top n (p57_L3 n n) a
theorem t57_L3 (n:Nat):∀ (m3:Nat) (x0:Int) (x1:List Int) (x2:Int) (x3:Int) (x4:Int) (x5:Int) (x6:Int) (x7:List Int),at57 n (.head 3) [m3] (sh57_L3 x0 x1 x2 x3 x4 x5 x6 x7)=p57_L3 n m3 x0 x1 x2 x3 x4 x5 x6 x7:=by
 intro m
 induction m with
 | zero=>intros; rw [e57_L3_0]; rfl
 | succ m ih =>
  intros
  rw [e57_L3]
  try simp only [ih]
  rfl
theorem F57_eq (n:Nat) (a:List Int × Int):runF TT G57 an57 Try.f57 c57 ps57 rs57 n (a,())=p57 n a:=by
 rw [e57_top]
 simp only [t57_L3]
 try rfl
noncomputable def q57 (n:Nat) (x:argsD ps57):Option R57:=p57 n x.1
noncomputable def Sm57:Sm:=⟨ps57,rs57,true,q57⟩
theorem holds57 (hg:GamOK Try.prog G57):Holds Try.prog 57 Sm57:=by
 have:=h0_57 hg
 have e:(runF TT G57 an57 Try.f57 c57 ps57 rs57)=q57:=by
  funext n x
  exact F57_eq n x.1
 rw [e] at this
 exact this
theorem gam57:GamOK Try.prog G57:=by
 intro f s h
 unfold G57 at h
 split at h
 ·injection h with h; subst h; exact ⟨⟨Try.f102,c102,Try.func102,by kernel_rfl,by decide +kernel⟩,hh102⟩
 ·cases h
theorem hh57:Holds Try.prog 57 Sm57:=holds57 gam57
end Go.Proofs.Ytbjgiioppmkpiaa.Rx.S

namespace Go.Proofs.Ytbjgiioppmkpiaa.Rx.S
open Go Go.RowKit Go.Proofs
set_option maxRecDepth 100000
noncomputable def c65:Code:=(Try.f65.body.getD .skip)
def an65:An:=⟨fun _=>⟨[],[]⟩,fun _ _=>none⟩
abbrev ps65:List PK:=[.val tFs true,.val i64 false]
abbrev rs65:List RK:=[.val .bool false]
abbrev R65:=retsD rs65 × outsD ps65
noncomputable def G65:Gam:=fun f=>match f with | 66=>some Sm66 | _=>none
theorem h0_65 (hg:GamOK Try.prog G65):Holds Try.prog 65 ⟨ps65,rs65,false,runF TT G65 an65 Try.f65 c65 ps65 rs65⟩:=holds_of tt_ok hg mixed Try.func65 (by kernel_rfl) (by rfl) (by decide +kernel)
noncomputable def st65_top (n:Nat) (a:List NT) (b:Int):Option R65 :=
 (q66 n (b,(0:Int),Go.IntKind.i64.wrap ((↑a.length:Int) - (1:Int)),())).bind fun r0=>cond (r0.1.1) (cond (decide ((0:Int)≤b)) (cond (decide (b < (↑a.length:Int))) (some ((!decide ((a.getD b.toNat ZN).1=(0:Int)),()),())) (none)) (none)) (some ((false,()),()))
theorem e65_top (n:Nat) (a:List NT) (b:Int):runF TT G65 an65 Try.f65 c65 ps65 rs65 n (a,b,())=st65_top n a b:=by kernel_rfl
noncomputable def p65 (n:Nat) (a:List NT) (b:Int):Option R65:=st65_top n a b
theorem F65_eq (n:Nat) (a:List NT) (b:Int):runF TT G65 an65 Try.f65 c65 ps65 rs65 n (a,b,())=p65 n a b:=by
 rw [e65_top]
 skip
 try rfl
noncomputable def q65 (n:Nat) (x:argsD ps65):Option R65:=p65 n x.1 x.2.1
noncomputable def Sm65:Sm:=⟨ps65,rs65,false,q65⟩
theorem holds65 (hg:GamOK Try.prog G65):Holds Try.prog 65 Sm65:=by
 have:=h0_65 hg
 have e:(runF TT G65 an65 Try.f65 c65 ps65 rs65)=q65:=by
  funext n x
  exact F65_eq n x.1 x.2.1
 rw [e] at this
 exact this
theorem gam65:GamOK Try.prog G65:=by
 intro f s h
 unfold G65 at h
 split at h
 ·injection h with h; subst h; exact ⟨⟨Try.f66,c66,Try.func66,by kernel_rfl,by decide +kernel⟩,hh66⟩
 ·cases h
theorem hh65:Holds Try.prog 65 Sm65:=holds65 gam65
end Go.Proofs.Ytbjgiioppmkpiaa.Rx.S

namespace Go.Proofs.Ytbjgiioppmkpiaa.Rx.S
open Go Go.RowKit Go.Proofs
set_option maxRecDepth 100000
noncomputable def c160:Code:=(Try.f160.body.getD .skip)
def an160:An:=⟨fun r=>match r with | 2=>⟨[0,1,5],[]⟩ | _=>⟨[],[]⟩,fun _ _=>none⟩
abbrev ps160:List PK:=[.val (.row 3 i64) false,.val i64 false]
abbrev rs160:List RK:=[.val .bool false]
abbrev R160:=retsD rs160 × outsD ps160
noncomputable def G160:Gam:=fun _=>none
theorem h0_160 (hg:GamOK Try.prog G160):Holds Try.prog 160 ⟨ps160,rs160,false,runF TT G160 an160 Try.f160 c160 ps160 rs160⟩:=holds_of tt_ok hg mixed Try.func160 (by kernel_rfl) (by rfl) (by decide +kernel)
noncomputable def at160:Nat→Pt→List Nat→St→Option R160:=atF TT G160 an160 Try.f160 c160 _ _
def sh160_L2 (x0:List Int) (x1:Int) (x2:Int):St:=(St.mk ((AV.one (SV.con (⟨3,Ty.int Go.IntKind.i64,x0⟩:Rw))) :: ((AV.one (SV.int (Go.IntKind.i64) x1)) :: (AV.undef :: (AV.undef :: (AV.undef :: ((AV.one (SV.int (Go.IntKind.i64) x2)) :: (AV.undef :: (AV.undef :: (AV.undef :: (AV.undef :: (AV.undef :: (AV.undef :: (AV.undef :: (AV.undef :: (AV.undef :: (AV.undef :: (AV.undef :: (AV.undef :: [])))))))))))))))))) [])
noncomputable def st160_top (n:Nat) (lL2:(List Int)→Int→Int→Option R160) (a:List Int) (b:Int):Option R160 :=
 lL2 (a) (b) ((0:Int))
noncomputable def st160_L2 (n:Nat) (lL2:(List Int)→Int→Int→Option R160) (x0:List Int) (x1:Int) (x2:Int):Option R160 :=
 cond (decide (x2 < (↑x0.length:Int))) (cond (decide ((0:Int)≤x2)) (cond (decide (x2 < (↑x0.length:Int))) (cond (decide (x0.getD x2.toNat (0:Int)=x1)) (some ((true,()),())) (lL2 (x0) (x1) (Go.IntKind.i64.wrap (x2 + (1:Int))))) (none)) (none)) (some ((false,()),()))
theorem e160_top (n:Nat) (a:List Int) (b:Int):runF TT G160 an160 Try.f160 c160 ps160 rs160 n (a,b,())=st160_top n (fun x0 x1 x2=>at160 n (.head 2) [n] (sh160_L2 x0 x1 x2)) a b:=by kernel_rfl
theorem e160_L2_0 (n:Nat) (x0:List Int) (x1:Int) (x2:Int):at160 n (.head 2) [0] (sh160_L2 x0 x1 x2)=none:=by kernel_rfl
theorem e160_L2 (n:Nat) (m2:Nat) (x0:List Int) (x1:Int) (x2:Int):at160 n (.head 2) [m2 + 1] (sh160_L2 x0 x1 x2)=st160_L2 n (fun x0 x1 x2=>at160 n (.head 2) [m2] (sh160_L2 x0 x1 x2)) x0 x1 x2:=by kernel_rfl
noncomputable def p160_L2 (n:Nat):Nat→(List Int)→Int→Int→Option R160
 | 0,_,_,_=>none
 | m + 1,x0,x1,x2=>st160_L2 n (p160_L2 n m) x0 x1 x2
noncomputable def p160 (n:Nat) (a:List Int) (b:Int):Option R160:=st160_top n (p160_L2 n n) a b
theorem t160_L2 (n:Nat):∀ (m2:Nat) (x0:List Int) (x1:Int) (x2:Int),at160 n (.head 2) [m2] (sh160_L2 x0 x1 x2)=p160_L2 n m2 x0 x1 x2:=by
 intro m
 induction m with
 | zero=>intros; rw [e160_L2_0]; rfl
 | succ m ih =>
  intros
  rw [e160_L2]
  try simp only [ih]
  rfl
theorem F160_eq (n:Nat) (a:List Int) (b:Int):runF TT G160 an160 Try.f160 c160 ps160 rs160 n (a,b,())=p160 n a b:=by
 rw [e160_top]
 simp only [t160_L2]
 try rfl
noncomputable def q160 (n:Nat) (x:argsD ps160):Option R160:=p160 n x.1 x.2.1
noncomputable def Sm160:Sm:=⟨ps160,rs160,false,q160⟩
theorem holds160 (hg:GamOK Try.prog G160):Holds Try.prog 160 Sm160:=by
 have:=h0_160 hg
 have e:(runF TT G160 an160 Try.f160 c160 ps160 rs160)=q160:=by
  funext n x
  exact F160_eq n x.1 x.2.1
 rw [e] at this
 exact this
theorem gam160:GamOK Try.prog G160:=fun _ _ h=>by cases h
theorem hh160:Holds Try.prog 160 Sm160:=holds160 gam160
end Go.Proofs.Ytbjgiioppmkpiaa.Rx.S

namespace Go.Proofs.Ytbjgiioppmkpiaa.Rx.S
open Go Go.RowKit Go.Proofs
set_option maxRecDepth 100000
noncomputable def c154:Code:=(Try.f154.body.getD .skip)
def an154:An:=⟨fun _=>⟨[],[]⟩,fun _ _=>none⟩
abbrev ps154:List PK:=[.val tCr true,.val i64 false,.val i64 false,.val i64 false,.val i64 false]
abbrev rs154:List RK:=[.val .bool false]
abbrev R154:=retsD rs154 × outsD ps154
noncomputable def G154:Gam:=fun f=>match f with | 160=>some Sm160 | _=>none
theorem h0_154 (hg:GamOK Try.prog G154):Holds Try.prog 154 ⟨ps154,rs154,false,runF TT G154 an154 Try.f154 c154 ps154 rs154⟩:=holds_of tt_ok hg mixed Try.func154 (by kernel_rfl) (by rfl) (by decide +kernel)
noncomputable def st154_top (n:Nat) (a:Int × Int × List Int) (b:Int) (c:Int) (d:Int) (e:Int):Option R154 :=
 cond (decide (a.1=(0:Int))) (cond (decide ((0:Int) < Go.IntKind.i64.wrap (Go.IntKind.i64.wrap (d.tmod (2:Int) + (Go.IntKind.i64.wrap (d.tdiv (8:Int))).tmod (2:Int)) + (Go.IntKind.i64.wrap (d.tdiv (64:Int))).tmod (2:Int)))) (some ((decide (Go.IntKind.i64.wrap (↑(BitVec.ofInt Go.IntKind.i64.bits (7:Int) &&& BitVec.ofInt Go.IntKind.i64.bits e).toNat:Int)=e),()),())) (some ((decide (Go.IntKind.i64.wrap (↑(BitVec.ofInt Go.IntKind.i64.bits (6:Int) &&& BitVec.ofInt Go.IntKind.i64.bits e).toNat:Int)=e),()),()))) (cond (decide (a.1=b)) (some ((decide (Go.IntKind.i64.wrap (↑(BitVec.ofInt Go.IntKind.i64.bits (Go.IntKind.i64.wrap (d.tdiv (64:Int))) &&& BitVec.ofInt Go.IntKind.i64.bits e).toNat:Int)=e),()),())) ((q160 n (a.2.2,c,())).bind fun r0=>cond (r0.1.1) (some ((decide (Go.IntKind.i64.wrap (↑(BitVec.ofInt Go.IntKind.i64.bits ((Go.IntKind.i64.wrap (d.tdiv (8:Int))).tmod (8:Int)) &&& BitVec.ofInt Go.IntKind.i64.bits e).toNat:Int)=e),()),())) (some ((decide (Go.IntKind.i64.wrap (↑(BitVec.ofInt Go.IntKind.i64.bits (d.tmod (8:Int)) &&& BitVec.ofInt Go.IntKind.i64.bits e).toNat:Int)=e),()),()))))
theorem e154_top (n:Nat) (a:Int × Int × List Int) (b:Int) (c:Int) (d:Int) (e:Int):runF TT G154 an154 Try.f154 c154 ps154 rs154 n (a,b,c,d,e,())=st154_top n a b c d e:=by kernel_rfl
noncomputable def p154 (n:Nat) (a:Int × Int × List Int) (b:Int) (c:Int) (d:Int) (e:Int):Option R154:=st154_top n a b c d e
theorem F154_eq (n:Nat) (a:Int × Int × List Int) (b:Int) (c:Int) (d:Int) (e:Int):runF TT G154 an154 Try.f154 c154 ps154 rs154 n (a,b,c,d,e,())=p154 n a b c d e:=by
 rw [e154_top]
 skip
 try rfl
noncomputable def q154 (n:Nat) (x:argsD ps154):Option R154:=p154 n x.1 x.2.1 x.2.2.1 x.2.2.2.1 x.2.2.2.2.1
noncomputable def Sm154:Sm:=⟨ps154,rs154,false,q154⟩
theorem holds154 (hg:GamOK Try.prog G154):Holds Try.prog 154 Sm154:=by
 have:=h0_154 hg
 have e:(runF TT G154 an154 Try.f154 c154 ps154 rs154)=q154:=by
  funext n x
  exact F154_eq n x.1 x.2.1 x.2.2.1 x.2.2.2.1 x.2.2.2.2.1
 rw [e] at this
 exact this
theorem gam154:GamOK Try.prog G154:=by
 intro f s h
 unfold G154 at h
 split at h
 ·injection h with h; subst h; exact ⟨⟨Try.f160,c160,Try.func160,by kernel_rfl,by decide +kernel⟩,hh160⟩
 ·cases h
theorem hh154:Holds Try.prog 154 Sm154:=holds154 gam154
end Go.Proofs.Ytbjgiioppmkpiaa.Rx.S

namespace Go.Proofs.Ytbjgiioppmkpiaa.Rx.S
open Go Go.RowKit Go.Proofs
set_option maxRecDepth 100000
noncomputable def c142:Code:=(Try.f142.body.getD .skip)
def an142:An:=⟨fun _=>⟨[],[]⟩,fun _ _=>none⟩
abbrev ps142:List PK:=[.val tFs true,.val tCr true,.val i64 false,.val i64 false]
abbrev rs142:List RK:=[.val .bool false]
abbrev R142:=retsD rs142 × outsD ps142
noncomputable def G142:Gam:=fun f=>match f with | 154=>some Sm154 | _=>none
theorem h0_142 (hg:GamOK Try.prog G142):Holds Try.prog 142 ⟨ps142,rs142,false,runF TT G142 an142 Try.f142 c142 ps142 rs142⟩:=holds_of tt_ok hg mixed Try.func142 (by kernel_rfl) (by rfl) (by decide +kernel)
noncomputable def st142_top (n:Nat) (a:List NT) (b:Int × Int × List Int) (c:Int) (d:Int):Option R142 :=
 cond (decide ((0:Int)≤c)) (cond (decide (c < (↑a.length:Int))) ((q154 n ((b.1,b.2.1,b.2.2),(a.getD c.toNat ZN).2.2.1,(a.getD c.toNat ZN).2.2.2.1,(a.getD c.toNat ZN).2.1,d,())).bind fun r0=>some ((r0.1.1,()),())) (none)) (none)
theorem e142_top (n:Nat) (a:List NT) (b:Int × Int × List Int) (c:Int) (d:Int):runF TT G142 an142 Try.f142 c142 ps142 rs142 n (a,b,c,d,())=st142_top n a b c d:=by kernel_rfl
noncomputable def p142 (n:Nat) (a:List NT) (b:Int × Int × List Int) (c:Int) (d:Int):Option R142:=st142_top n a b c d
theorem F142_eq (n:Nat) (a:List NT) (b:Int × Int × List Int) (c:Int) (d:Int):runF TT G142 an142 Try.f142 c142 ps142 rs142 n (a,b,c,d,())=p142 n a b c d:=by
 rw [e142_top]
 skip
 try rfl
noncomputable def q142 (n:Nat) (x:argsD ps142):Option R142:=p142 n x.1 x.2.1 x.2.2.1 x.2.2.2.1
noncomputable def Sm142:Sm:=⟨ps142,rs142,false,q142⟩
theorem holds142 (hg:GamOK Try.prog G142):Holds Try.prog 142 Sm142:=by
 have:=h0_142 hg
 have e:(runF TT G142 an142 Try.f142 c142 ps142 rs142)=q142:=by
  funext n x
  exact F142_eq n x.1 x.2.1 x.2.2.1 x.2.2.2.1
 rw [e] at this
 exact this
theorem gam142:GamOK Try.prog G142:=by
 intro f s h
 unfold G142 at h
 split at h
 ·injection h with h; subst h; exact ⟨⟨Try.f154,c154,Try.func154,by kernel_rfl,by decide +kernel⟩,hh154⟩
 ·cases h
theorem hh142:Holds Try.prog 142 Sm142:=holds142 gam142
end Go.Proofs.Ytbjgiioppmkpiaa.Rx.S

namespace Go.Proofs.Ytbjgiioppmkpiaa.Rx.S
open Go Go.RowKit Go.Proofs
set_option maxRecDepth 100000
noncomputable def c125:Code:=(Try.f125.body.getD .skip)
def an125:An:=⟨fun _=>⟨[],[]⟩,fun _ _=>none⟩
abbrev ps125:List PK:=[.val tFs true,.val tCr true,.val i64 false,.val i64 false]
abbrev rs125:List RK:=[.val i64 false]
abbrev R125:=retsD rs125 × outsD ps125
noncomputable def G125:Gam:=fun f=>match f with | 142=>some Sm142 | _=>none
theorem h0_125 (hg:GamOK Try.prog G125):Holds Try.prog 125 ⟨ps125,rs125,false,runF TT G125 an125 Try.f125 c125 ps125 rs125⟩:=holds_of tt_ok hg mixed Try.func125 (by kernel_rfl) (by rfl) (by decide +kernel)
noncomputable def st125_top (n:Nat) (a:List NT) (b:Int × Int × List Int) (c:Int) (d:Int):Option R125 :=
 cond (decide ((0:Int)≤c)) (cond (decide (c < (↑a.length:Int))) (cond (!decide ((a.getD c.toNat ZN).1=(2:Int))) (some (((4:Int),()),())) ((q142 n (a,(b.1,b.2.1,b.2.2),c,d,())).bind fun r0=>cond (!r0.1.1) (some (((5:Int),()),())) (some (((0:Int),()),())))) (none)) (none)
theorem e125_top (n:Nat) (a:List NT) (b:Int × Int × List Int) (c:Int) (d:Int):runF TT G125 an125 Try.f125 c125 ps125 rs125 n (a,b,c,d,())=st125_top n a b c d:=by kernel_rfl
noncomputable def p125 (n:Nat) (a:List NT) (b:Int × Int × List Int) (c:Int) (d:Int):Option R125:=st125_top n a b c d
theorem F125_eq (n:Nat) (a:List NT) (b:Int × Int × List Int) (c:Int) (d:Int):runF TT G125 an125 Try.f125 c125 ps125 rs125 n (a,b,c,d,())=p125 n a b c d:=by
 rw [e125_top]
 skip
 try rfl
noncomputable def q125 (n:Nat) (x:argsD ps125):Option R125:=p125 n x.1 x.2.1 x.2.2.1 x.2.2.2.1
noncomputable def Sm125:Sm:=⟨ps125,rs125,false,q125⟩
theorem holds125 (hg:GamOK Try.prog G125):Holds Try.prog 125 Sm125:=by
 have:=h0_125 hg
 have e:(runF TT G125 an125 Try.f125 c125 ps125 rs125)=q125:=by
  funext n x
  exact F125_eq n x.1 x.2.1 x.2.2.1 x.2.2.2.1
 rw [e] at this
 exact this
theorem gam125:GamOK Try.prog G125:=by
 intro f s h
 unfold G125 at h
 split at h
 ·injection h with h; subst h; exact ⟨⟨Try.f142,c142,Try.func142,by kernel_rfl,by decide +kernel⟩,hh142⟩
 ·cases h
theorem hh125:Holds Try.prog 125 Sm125:=holds125 gam125
end Go.Proofs.Ytbjgiioppmkpiaa.Rx.S

namespace Go.Proofs.Ytbjgiioppmkpiaa.Rx.S
open Go Go.RowKit Go.Proofs
set_option maxRecDepth 100000
noncomputable def c126:Code:=(Try.f126.body.getD .skip)
def an126:An:=⟨fun r=>match r with | 2=>⟨[1,2,5],[]⟩ | _=>⟨[],[]⟩,fun _ _=>none⟩
abbrev ps126:List PK:=[.val (tIn 100) true,.val .str false]
abbrev rs126:List RK:=[.val i64 false]
abbrev R126:=retsD rs126 × outsD ps126
noncomputable def G126:Gam:=fun _=>none
theorem h0_126 (hg:GamOK Try.prog G126):Holds Try.prog 126 ⟨ps126,rs126,false,runF TT G126 an126 Try.f126 c126 ps126 rs126⟩:=holds_of tt_ok hg mixed Try.func126 (by kernel_rfl) (by rfl) (by decide +kernel)
noncomputable def at126:Nat→Pt→List Nat→St→Option R126:=atF TT G126 an126 Try.f126 c126 _ _
def sh126_L2 (x0:ByteArray) (x1:Int) (x2:Int) (x3:Int) (x4:Int) (x5:Int) (x6:Int) (x7:Int) (x8:Bool) (x9:ByteArray) (x10:List (ByteArray × Int)):St:=(St.mk (AV.undef :: ((AV.one (SV.str x0)) :: ((AV.one (SV.bptr 1000000 0)) :: (AV.undef :: (AV.undef :: ((AV.one (SV.int (Go.IntKind.i64) x1)) :: (AV.undef :: (AV.undef :: (AV.undef :: (AV.undef :: (AV.undef :: (AV.undef :: (AV.undef :: (AV.undef :: (AV.undef :: (AV.undef :: (AV.undef :: (AV.undef :: (AV.undef :: (AV.undef :: (AV.undef :: (AV.undef :: [])))))))))))))))))))))) ((1000000,(Ent.box ((SV.int (Go.IntKind.i64) x2) :: ((SV.int (Go.IntKind.i64) x3) :: ((SV.int (Go.IntKind.i64) x4) :: ((SV.int (Go.IntKind.i64) x5) :: ((SV.int (Go.IntKind.i64) x6) :: ((SV.int (Go.IntKind.i64) x7) :: ((SV.bool x8) :: ((SV.str x9) :: ((SV.con (⟨100,Ty.str.pair (Ty.int Go.IntKind.i64),x10⟩:Rw)) :: []))))))))))) :: []))
noncomputable def st126_top (n:Nat) (lL2:ByteArray→Int→Int→Int→Int→Int→Int→Int→Bool→ByteArray→(List (ByteArray × Int))→Option R126) (a:NT) (b:ByteArray):Option R126 :=
 lL2 (b) ((0:Int)) (a.1) (a.2.1) (a.2.2.1) (a.2.2.2.1) (a.2.2.2.2.1) (a.2.2.2.2.2.1) (a.2.2.2.2.2.2.1) (a.2.2.2.2.2.2.2.1) (a.2.2.2.2.2.2.2.2)
noncomputable def st126_L2 (n:Nat) (lL2:ByteArray→Int→Int→Int→Int→Int→Int→Int→Bool→ByteArray→(List (ByteArray × Int))→Option R126) (x0:ByteArray) (x1:Int) (x2:Int) (x3:Int) (x4:Int) (x5:Int) (x6:Int) (x7:Int) (x8:Bool) (x9:ByteArray) (x10:List (ByteArray × Int)):Option R126 :=
 cond (decide (x1 < (↑x10.length:Int))) (cond (decide ((0:Int)≤x1)) (cond (decide (x1 < (↑x10.length:Int))) (cond (ByteArray.toList (x10.getD x1.toNat (ByteArray.empty,(0:Int))).1 == x0.toList) (some ((x1,()),())) (lL2 (x0) (Go.IntKind.i64.wrap (x1 + (1:Int))) (x2) (x3) (x4) (x5) (x6) (x7) (x8) (x9) (x10))) (none)) (none)) (some (((-1:Int),()),()))
theorem e126_top (n:Nat) (a:NT) (b:ByteArray):runF TT G126 an126 Try.f126 c126 ps126 rs126 n (a,b,())=st126_top n (fun x0 x1 x2 x3 x4 x5 x6 x7 x8 x9 x10=>at126 n (.head 2) [n] (sh126_L2 x0 x1 x2 x3 x4 x5 x6 x7 x8 x9 x10)) a b:=by kernel_rfl
theorem e126_L2_0 (n:Nat) (x0:ByteArray) (x1:Int) (x2:Int) (x3:Int) (x4:Int) (x5:Int) (x6:Int) (x7:Int) (x8:Bool) (x9:ByteArray) (x10:List (ByteArray × Int)):at126 n (.head 2) [0] (sh126_L2 x0 x1 x2 x3 x4 x5 x6 x7 x8 x9 x10)=none:=by kernel_rfl
theorem e126_L2 (n:Nat) (m2:Nat) (x0:ByteArray) (x1:Int) (x2:Int) (x3:Int) (x4:Int) (x5:Int) (x6:Int) (x7:Int) (x8:Bool) (x9:ByteArray) (x10:List (ByteArray × Int)):at126 n (.head 2) [m2 + 1] (sh126_L2 x0 x1 x2 x3 x4 x5 x6 x7 x8 x9 x10)=st126_L2 n (fun x0 x1 x2 x3 x4 x5 x6 x7 x8 x9 x10=>at126 n (.head 2) [m2] (sh126_L2 x0 x1 x2 x3 x4 x5 x6 x7 x8 x9 x10)) x0 x1 x2 x3 x4 x5 x6 x7 x8 x9 x10:=by kernel_rfl
noncomputable def p126_L2 (n:Nat):Nat→ByteArray→Int→Int→Int→Int→Int→Int→Int→Bool→ByteArray→(List (ByteArray × Int))→Option R126
 | 0,_,_,_,_,_,_,_,_,_,_,_=>none
 | m + 1,x0,x1,x2,x3,x4,x5,x6,x7,x8,x9,x10=>st126_L2 n (p126_L2 n m) x0 x1 x2 x3 x4 x5 x6 x7 x8 x9 x10
noncomputable def p126 (n:Nat) (a:NT) (b:ByteArray):Option R126:=st126_top n (p126_L2 n n) a b
theorem t126_L2 (n:Nat):∀ (m2:Nat) (x0:ByteArray) (x1:Int) (x2:Int) (x3:Int) (x4:Int) (x5:Int) (x6:Int) (x7:Int) (x8:Bool) (x9:ByteArray) (x10:List (ByteArray × Int)),at126 n (.head 2) [m2] (sh126_L2 x0 x1 x2 x3 x4 x5 x6 x7 x8 x9 x10)=p126_L2 n m2 x0 x1 x2 x3 x4 x5 x6 x7 x8 x9 x10:=by
 intro m
 induction m with
 | zero=>intros; rw [e126_L2_0]; rfl
 | succ m ih =>
  intros
  rw [e126_L2]
  try simp only [ih]
  rfl
theorem F126_eq (n:Nat) (a:NT) (b:ByteArray):runF TT G126 an126 Try.f126 c126 ps126 rs126 n (a,b,())=p126 n a b:=by
 rw [e126_top]
 simp only [t126_L2]
 try rfl
noncomputable def q126 (n:Nat) (x:argsD ps126):Option R126:=p126 n x.1 x.2.1
noncomputable def Sm126:Sm:=⟨ps126,rs126,false,q126⟩
theorem holds126 (hg:GamOK Try.prog G126):Holds Try.prog 126 Sm126:=by
 have:=h0_126 hg
 have e:(runF TT G126 an126 Try.f126 c126 ps126 rs126)=q126:=by
  funext n x
  exact F126_eq n x.1 x.2.1
 rw [e] at this
 exact this
theorem gam126:GamOK Try.prog G126:=fun _ _ h=>by cases h
theorem hh126:Holds Try.prog 126 Sm126:=holds126 gam126
end Go.Proofs.Ytbjgiioppmkpiaa.Rx.S

namespace Go.Proofs.Ytbjgiioppmkpiaa.Rx.S
open Go Go.RowKit Go.Proofs
set_option maxRecDepth 100000
noncomputable def c140:Code:=(Try.f140.body.getD .skip)
def an140:An:=⟨fun r=>match r with | 4=>⟨[1,3,5,6,7,8,9],[]⟩ | _=>⟨[],[]⟩,fun _ _=>none⟩
abbrev ps140:List PK:=[.own tFs true,.val i64 false,.val tEn true]
abbrev rs140:List RK:=[.own tFs true]
abbrev R140:=retsD rs140 × outsD ps140
noncomputable def G140:Gam:=fun _=>none
theorem h0_140 (hg:GamOK Try.prog G140):Holds Try.prog 140 ⟨ps140,rs140,false,runF TT G140 an140 Try.f140 c140 ps140 rs140⟩:=holds_of tt_ok hg mixed Try.func140 (by kernel_rfl) (by rfl) (by decide +kernel)
noncomputable def at140:Nat→Pt→List Nat→St→Option R140:=atF TT G140 an140 Try.f140 c140 _ _
def sh140_L4 (x0:Int) (x1:Bool) (x2:Int) (x3:ByteArray) (x4:Int) (x5:List (ByteArray × Int)) (x6:List NT):St:=(St.mk (AV.undef :: ((AV.one (SV.int (Go.IntKind.i64) x0)) :: (AV.undef :: ((AV.one (SV.bptr 1000000 0)) :: (AV.undef :: ((AV.one (SV.bptr 1000001 0)) :: ((AV.one (SV.bptr 1000002 0)) :: ((AV.one (SV.ref 1000003 0 [] Option.none)) :: ((AV.one (SV.bool x1)) :: ((AV.one (SV.int (Go.IntKind.i64) x2)) :: (AV.undef :: (AV.undef :: (AV.undef :: (AV.undef :: (AV.undef :: (AV.undef :: (AV.undef :: (AV.undef :: (AV.undef :: (AV.undef :: (AV.undef :: (AV.undef :: (AV.undef :: (AV.undef :: (AV.undef :: (AV.undef :: (AV.undef :: (AV.undef :: (AV.undef :: (AV.undef :: (AV.undef :: (AV.undef :: (AV.undef :: (AV.undef :: (AV.undef :: (AV.undef :: (AV.undef :: (AV.undef :: (AV.undef :: (AV.undef :: (AV.undef :: (AV.undef :: (AV.undef :: (AV.undef :: (AV.undef :: (AV.undef :: (AV.undef :: (AV.undef :: (AV.undef :: (AV.undef :: (AV.undef :: (AV.undef :: (AV.undef :: (AV.undef :: (AV.undef :: (AV.undef :: (AV.undef :: (AV.undef :: (AV.undef :: (AV.undef :: (AV.undef :: (AV.undef :: [])))))))))))))))))))))))))))))))))))))))))))))))))))))))))))))) ((1000000,(Ent.box ((SV.ref 1000004 0 [] Option.none) :: []))) :: ((1000001,(Ent.box ((SV.str x3) :: ((SV.int (Go.IntKind.i64) x4) :: [])))) :: ((1000002,(Ent.box (SV.nil :: []))) :: ((1000003,(Ent.row (⟨100,Ty.str.pair (Ty.int Go.IntKind.i64),x5⟩:Rw) 0 Option.none)) :: ((1000004,(Ent.row (⟨37,(Ty.int Go.IntKind.i64).pair ((Ty.int Go.IntKind.i64).pair ((Ty.int Go.IntKind.i64).pair ((Ty.int Go.IntKind.i64).pair ((Ty.int Go.IntKind.i64).pair ((Ty.int Go.IntKind.i64).pair (Ty.bool.pair (Ty.str.pair (Ty.row (nat_lit 100) (Ty.str.pair (Ty.int Go.IntKind.i64)))))))))),x6⟩:Rw) 0 Option.none)) :: []))))))
noncomputable def st140_top (n:Nat) (lL4:Int→Bool→Int→ByteArray→Int→(List (ByteArray × Int))→(List NT)→Option R140) (a:List NT) (b:Int) (c:ByteArray × Int):Option R140 :=
 lL4 (b) (false) ((0:Int)) (c.1) (c.2) ([]) (a)
noncomputable def st140_L4 (n:Nat) (lL4:Int→Bool→Int→ByteArray→Int→(List (ByteArray × Int))→(List NT)→Option R140) (x0:Int) (x1:Bool) (x2:Int) (x3:ByteArray) (x4:Int) (x5:List (ByteArray × Int)) (x6:List NT):Option R140 :=
 cond (decide ((0:Int)≤x0)) (cond (decide (x0 < (↑x6.length:Int))) (cond (decide (x2 < (↑(List.length (x6.getD x0.toNat ZN).2.2.2.2.2.2.2.2):Int))) (cond (decide ((0:Int)≤x0)) (cond (decide (x0 < (↑x6.length:Int))) (cond (decide ((0:Int)≤x2)) (cond (decide (x2 < (↑(List.length (x6.getD x0.toNat ZN).2.2.2.2.2.2.2.2):Int))) (cond (!x1) (cond (!(Go.Op.bytesLess (ByteArray.toList (List.getD (x6.getD x0.toNat ZN).2.2.2.2.2.2.2.2 x2.toNat (ByteArray.empty,(0:Int))).1) x3.toList || ByteArray.toList (List.getD (x6.getD x0.toNat ZN).2.2.2.2.2.2.2.2 x2.toNat (ByteArray.empty,(0:Int))).1 == x3.toList)) (cond (decide ((x5.length + [(x3,x4)].length) * (24:Nat)≤(140737488355328:Nat))) (cond (decide (((x5 ++ [(x3,x4)]).length + [((List.getD (x6.getD x0.toNat ZN).2.2.2.2.2.2.2.2 x2.toNat (ByteArray.empty,(0:Int))).1,(List.getD (x6.getD x0.toNat ZN).2.2.2.2.2.2.2.2 x2.toNat (ByteArray.empty,(0:Int))).2)].length) * (24:Nat)≤(140737488355328:Nat))) (lL4 (x0) (true) (Go.IntKind.i64.wrap (x2 + (1:Int))) (x3) (x4) (x5 ++ [(x3,x4)] ++ [((List.getD (x6.getD x0.toNat ZN).2.2.2.2.2.2.2.2 x2.toNat (ByteArray.empty,(0:Int))).1,(List.getD (x6.getD x0.toNat ZN).2.2.2.2.2.2.2.2 x2.toNat (ByteArray.empty,(0:Int))).2)]) (x6)) (none)) (none)) (cond (decide ((x5.length + [((List.getD (x6.getD x0.toNat ZN).2.2.2.2.2.2.2.2 x2.toNat (ByteArray.empty,(0:Int))).1,(List.getD (x6.getD x0.toNat ZN).2.2.2.2.2.2.2.2 x2.toNat (ByteArray.empty,(0:Int))).2)].length) * (24:Nat)≤(140737488355328:Nat))) (lL4 (x0) (x1) (Go.IntKind.i64.wrap (x2 + (1:Int))) (x3) (x4) (x5 ++ [((List.getD (x6.getD x0.toNat ZN).2.2.2.2.2.2.2.2 x2.toNat (ByteArray.empty,(0:Int))).1,(List.getD (x6.getD x0.toNat ZN).2.2.2.2.2.2.2.2 x2.toNat (ByteArray.empty,(0:Int))).2)]) (x6)) (none))) (cond (decide ((x5.length + [((List.getD (x6.getD x0.toNat ZN).2.2.2.2.2.2.2.2 x2.toNat (ByteArray.empty,(0:Int))).1,(List.getD (x6.getD x0.toNat ZN).2.2.2.2.2.2.2.2 x2.toNat (ByteArray.empty,(0:Int))).2)].length) * (24:Nat)≤(140737488355328:Nat))) (lL4 (x0) (x1) (Go.IntKind.i64.wrap (x2 + (1:Int))) (x3) (x4) (x5 ++ [((List.getD (x6.getD x0.toNat ZN).2.2.2.2.2.2.2.2 x2.toNat (ByteArray.empty,(0:Int))).1,(List.getD (x6.getD x0.toNat ZN).2.2.2.2.2.2.2.2 x2.toNat (ByteArray.empty,(0:Int))).2)]) (x6)) (none))) (none)) (none)) (none)) (none)) (cond (!x1) (cond (decide ((x5.length + [(x3,x4)].length) * (24:Nat)≤(140737488355328:Nat))) (cond (decide ((0:Int)≤x0)) (cond (decide (x0 < (↑x6.length:Int))) (some ((x6.set x0.toNat ((x6.getD x0.toNat ZN).1,(x6.getD x0.toNat ZN).2.1,(x6.getD x0.toNat ZN).2.2.1,(x6.getD x0.toNat ZN).2.2.2.1,(x6.getD x0.toNat ZN).2.2.2.2.1,(x6.getD x0.toNat ZN).2.2.2.2.2.1,(x6.getD x0.toNat ZN).2.2.2.2.2.2.1,(x6.getD x0.toNat ZN).2.2.2.2.2.2.2.1,x5 ++ [(x3,x4)]),()),())) (none)) (none)) (none)) (cond (decide ((0:Int)≤x0)) (cond (decide (x0 < (↑x6.length:Int))) (some ((x6.set x0.toNat ((x6.getD x0.toNat ZN).1,(x6.getD x0.toNat ZN).2.1,(x6.getD x0.toNat ZN).2.2.1,(x6.getD x0.toNat ZN).2.2.2.1,(x6.getD x0.toNat ZN).2.2.2.2.1,(x6.getD x0.toNat ZN).2.2.2.2.2.1,(x6.getD x0.toNat ZN).2.2.2.2.2.2.1,(x6.getD x0.toNat ZN).2.2.2.2.2.2.2.1,x5),()),())) (none)) (none)))) (none)) (none)
theorem e140_top (n:Nat) (a:List NT) (b:Int) (c:ByteArray × Int):runF TT G140 an140 Try.f140 c140 ps140 rs140 n (a,b,c,())=st140_top n (fun x0 x1 x2 x3 x4 x5 x6=>at140 n (.head 4) [n] (sh140_L4 x0 x1 x2 x3 x4 x5 x6)) a b c:=by kernel_rfl
theorem e140_L4_0 (n:Nat) (x0:Int) (x1:Bool) (x2:Int) (x3:ByteArray) (x4:Int) (x5:List (ByteArray × Int)) (x6:List NT):at140 n (.head 4) [0] (sh140_L4 x0 x1 x2 x3 x4 x5 x6)=none:=by kernel_rfl
theorem e140_L4 (n:Nat) (m4:Nat) (x0:Int) (x1:Bool) (x2:Int) (x3:ByteArray) (x4:Int) (x5:List (ByteArray × Int)) (x6:List NT):at140 n (.head 4) [m4 + 1] (sh140_L4 x0 x1 x2 x3 x4 x5 x6)=st140_L4 n (fun x0 x1 x2 x3 x4 x5 x6=>at140 n (.head 4) [m4] (sh140_L4 x0 x1 x2 x3 x4 x5 x6)) x0 x1 x2 x3 x4 x5 x6:=by kernel_rfl
noncomputable def p140_L4 (n:Nat):Nat→Int→Bool→Int→ByteArray→Int→(List (ByteArray × Int))→(List NT)→Option R140
 | 0,_,_,_,_,_,_,_=>none
 | m + 1,x0,x1,x2,x3,x4,x5,x6=>st140_L4 n (p140_L4 n m) x0 x1 x2 x3 x4 x5 x6
noncomputable def p140 (n:Nat) (a:List NT) (b:Int) (c:ByteArray × Int):Option R140:=st140_top n (p140_L4 n n) a b c
theorem t140_L4 (n:Nat):∀ (m4:Nat) (x0:Int) (x1:Bool) (x2:Int) (x3:ByteArray) (x4:Int) (x5:List (ByteArray × Int)) (x6:List NT),at140 n (.head 4) [m4] (sh140_L4 x0 x1 x2 x3 x4 x5 x6)=p140_L4 n m4 x0 x1 x2 x3 x4 x5 x6:=by
 intro m
 induction m with
 | zero=>intros; rw [e140_L4_0]; rfl
 | succ m ih =>
  intros
  rw [e140_L4]
  try simp only [ih]
  rfl
theorem F140_eq (n:Nat) (a:List NT) (b:Int) (c:ByteArray × Int):runF TT G140 an140 Try.f140 c140 ps140 rs140 n (a,b,c,())=p140 n a b c:=by
 rw [e140_top]
 simp only [t140_L4]
 try rfl
noncomputable def q140 (n:Nat) (x:argsD ps140):Option R140:=p140 n x.1 x.2.1 x.2.2.1
noncomputable def Sm140:Sm:=⟨ps140,rs140,false,q140⟩
theorem holds140 (hg:GamOK Try.prog G140):Holds Try.prog 140 Sm140:=by
 have:=h0_140 hg
 have e:(runF TT G140 an140 Try.f140 c140 ps140 rs140)=q140:=by
  funext n x
  exact F140_eq n x.1 x.2.1 x.2.2.1
 rw [e] at this
 exact this
theorem gam140:GamOK Try.prog G140:=fun _ _ h=>by cases h
theorem hh140:Holds Try.prog 140 Sm140:=holds140 gam140
end Go.Proofs.Ytbjgiioppmkpiaa.Rx.S

namespace Go.Proofs.Ytbjgiioppmkpiaa.Rx.S
open Go Go.RowKit Go.Proofs
set_option maxRecDepth 100000
noncomputable def c106:Code:=(Try.f106.body.getD .skip)
def an106:An:=⟨fun r=>match r with | 8=>⟨[2,3,4,5,6,7,12,16,17],[]⟩ | _=>⟨[],[]⟩,fun _ _=>none⟩
abbrev ps106:List PK:=[.own tFs true,.val tCr true,.val i64 false,.val .str false,.val i64 false,.val i64 false]
abbrev rs106:List RK:=[.own tFs true,.val i64 false,.val i64 false]
abbrev R106:=retsD rs106 × outsD ps106
noncomputable def G106:Gam:=fun f=>match f with | 125=>some Sm125 | 126=>some Sm126 | 140=>some Sm140 | _=>none
theorem h0_106 (hg:GamOK Try.prog G106):Holds Try.prog 106 ⟨ps106,rs106,false,runF TT G106 an106 Try.f106 c106 ps106 rs106⟩:=holds_of tt_ok hg mixed Try.func106 (by kernel_rfl) (by rfl) (by decide +kernel)
noncomputable def at106:Nat→Pt→List Nat→St→Option R106:=atF TT G106 an106 Try.f106 c106 _ _
def sh106_L8 (x0:Int) (x1:ByteArray) (x2:Int) (x3:Int) (x4:Int) (x5:Int) (x6:Int) (x7:Int) (x8:List Int) (x9:List NT):St:=(St.mk (AV.undef :: (AV.undef :: ((AV.one (SV.int (Go.IntKind.i64) x0)) :: ((AV.one (SV.str x1)) :: ((AV.one (SV.int (Go.IntKind.i64) x2)) :: ((AV.one (SV.int (Go.IntKind.i64) x3)) :: ((AV.one (SV.bptr 1000000 0)) :: ((AV.one (SV.bptr 1000001 0)) :: (AV.undef :: (AV.undef :: (AV.undef :: (AV.undef :: ((AV.one (SV.bptr 1000002 0)) :: (AV.undef :: (AV.undef :: (AV.undef :: ((AV.one (SV.int (Go.IntKind.i64) x4)) :: ((AV.one (SV.int (Go.IntKind.i64) x5)) :: (AV.undef :: (AV.undef :: (AV.undef :: (AV.undef :: (AV.undef :: (AV.undef :: (AV.undef :: (AV.undef :: (AV.undef :: (AV.undef :: (AV.undef :: (AV.undef :: (AV.undef :: (AV.undef :: (AV.undef :: (AV.undef :: (AV.undef :: (AV.undef :: (AV.undef :: (AV.undef :: (AV.undef :: (AV.undef :: (AV.undef :: (AV.undef :: (AV.undef :: (AV.undef :: (AV.undef :: (AV.undef :: (AV.undef :: (AV.undef :: (AV.undef :: (AV.undef :: (AV.undef :: (AV.undef :: (AV.undef :: (AV.undef :: (AV.undef :: (AV.undef :: (AV.undef :: (AV.undef :: (AV.undef :: (AV.undef :: (AV.undef :: (AV.undef :: (AV.undef :: (AV.undef :: (AV.undef :: (AV.undef :: (AV.undef :: (AV.undef :: (AV.undef :: (AV.undef :: (AV.undef :: (AV.undef :: (AV.undef :: (AV.undef :: (AV.undef :: (AV.undef :: (AV.undef :: (AV.undef :: (AV.undef :: (AV.undef :: (AV.undef :: (AV.undef :: (AV.undef :: (AV.undef :: (AV.undef :: (AV.undef :: (AV.undef :: (AV.undef :: (AV.undef :: (AV.undef :: (AV.undef :: (AV.undef :: (AV.undef :: []))))))))))))))))))))))))))))))))))))))))))))))))))))))))))))))))))))))))))))))))))))))))))))) ((1000000,(Ent.box ((SV.ref 1000003 0 [] Option.none) :: []))) :: ((1000001,(Ent.box ((SV.int (Go.IntKind.i64) x6) :: ((SV.int (Go.IntKind.i64) x7) :: ((SV.con (⟨3,Ty.int Go.IntKind.i64,x8⟩:Rw)) :: []))))) :: ((1000002,(Ent.box (SV.nil :: []))) :: ((1000003,(Ent.row (⟨37,(Ty.int Go.IntKind.i64).pair ((Ty.int Go.IntKind.i64).pair ((Ty.int Go.IntKind.i64).pair ((Ty.int Go.IntKind.i64).pair ((Ty.int Go.IntKind.i64).pair ((Ty.int Go.IntKind.i64).pair (Ty.bool.pair (Ty.str.pair (Ty.row (nat_lit 100) (Ty.str.pair (Ty.int Go.IntKind.i64)))))))))),x9⟩:Rw) 0 Option.none)) :: [])))))
noncomputable def st106_top (n:Nat) (lL8:Int→ByteArray→Int→Int→Int→Int→Int→Int→(List Int)→(List NT)→Option R106) (a:List NT) (b:Int × Int × List Int) (c:Int) (d:ByteArray) (e:Int) (f:Int):Option R106 :=
 (q125 n (a,(b.1,b.2.1,b.2.2),c,(3:Int),())).bind fun r0=>cond (!decide (r0.1.1=(0:Int))) (some ((a,((-1:Int),(r0.1.1,()))),())) (cond (decide ((0:Int)≤c)) (cond (decide (c < (↑a.length:Int))) ((q126 n (((a.getD c.toNat ZN).1,(a.getD c.toNat ZN).2.1,(a.getD c.toNat ZN).2.2.1,(a.getD c.toNat ZN).2.2.2.1,(a.getD c.toNat ZN).2.2.2.2.1,(a.getD c.toNat ZN).2.2.2.2.2.1,(a.getD c.toNat ZN).2.2.2.2.2.2.1,(a.getD c.toNat ZN).2.2.2.2.2.2.2.1,(a.getD c.toNat ZN).2.2.2.2.2.2.2.2),d,())).bind fun r1=>cond (decide ((0:Int)≤r1.1.1)) (some ((a,((-1:Int),((3:Int),()))),())) (lL8 (c) (d) (e) (f) ((-1:Int)) (Go.IntKind.i64.wrap ((↑a.length:Int) - (1:Int))) (b.1) (b.2.1) (b.2.2) (a))) (none)) (none))
noncomputable def st106_L8 (n:Nat) (lL8:Int→ByteArray→Int→Int→Int→Int→Int→Int→(List Int)→(List NT)→Option R106) (x0:Int) (x1:ByteArray) (x2:Int) (x3:Int) (x4:Int) (x5:Int) (x6:Int) (x7:Int) (x8:List Int) (x9:List NT):Option R106 :=
 cond (decide ((0:Int)≤x5)) (cond (decide ((0:Int)≤x5)) (cond (decide (x5 < (↑x9.length:Int))) (cond (decide ((x9.getD x5.toNat ZN).1=(0:Int))) (lL8 (x0) (x1) (x2) (x3) (x5) (Go.IntKind.i64.wrap (x5 - (1:Int))) (x6) (x7) (x8) (x9)) (lL8 (x0) (x1) (x2) (x3) (x4) (Go.IntKind.i64.wrap (x5 - (1:Int))) (x6) (x7) (x8) (x9))) (none)) (none)) (cond (decide (x4 < (0:Int))) (some ((x9,((-1:Int),((7:Int),()))),())) (cond (decide ((0:Int)≤x0)) (cond (decide (x0 < (↑x9.length:Int))) (cond (decide ((6:Int)≤(↑(List.length (x9.getD x0.toNat ZN).2.2.2.2.2.2.2.2):Int))) (some ((x9,((-1:Int),((7:Int),()))),())) (cond (decide ((0:Int) < (↑x8.length:Int))) (cond (decide ((0:Int) < (↑x8.length:Int))) (cond (decide ((0:Int)≤x4)) (cond (decide (x4 < (↑x9.length:Int))) ((q140 n (x9.set x4.toNat (x2,x3,x6,x8.getD (Int.toNat (0:Int)) (0:Int),(1:Int),(0:Int),false,ByteArray.empty,[]),x0,(x1,x4),())).bind fun r3=>some ((r3.1.1,(x4,((0:Int),()))),())) (none)) (none)) (none)) (cond (decide ((0:Int)≤x4)) (cond (decide (x4 < (↑x9.length:Int))) ((q140 n (x9.set x4.toNat (x2,x3,x6,x6,(1:Int),(0:Int),false,ByteArray.empty,[]),x0,(x1,x4),())).bind fun r4=>some ((r4.1.1,(x4,((0:Int),()))),())) (none)) (none)))) (none)) (none)))
theorem e106_top (n:Nat) (a:List NT) (b:Int × Int × List Int) (c:Int) (d:ByteArray) (e:Int) (f:Int):runF TT G106 an106 Try.f106 c106 ps106 rs106 n (a,b,c,d,e,f,())=st106_top n (fun x0 x1 x2 x3 x4 x5 x6 x7 x8 x9=>at106 n (.head 8) [n] (sh106_L8 x0 x1 x2 x3 x4 x5 x6 x7 x8 x9)) a b c d e f:=by kernel_rfl
theorem e106_L8_0 (n:Nat) (x0:Int) (x1:ByteArray) (x2:Int) (x3:Int) (x4:Int) (x5:Int) (x6:Int) (x7:Int) (x8:List Int) (x9:List NT):at106 n (.head 8) [0] (sh106_L8 x0 x1 x2 x3 x4 x5 x6 x7 x8 x9)=none:=by kernel_rfl
theorem e106_L8 (n:Nat) (m8:Nat) (x0:Int) (x1:ByteArray) (x2:Int) (x3:Int) (x4:Int) (x5:Int) (x6:Int) (x7:Int) (x8:List Int) (x9:List NT):at106 n (.head 8) [m8 + 1] (sh106_L8 x0 x1 x2 x3 x4 x5 x6 x7 x8 x9)=st106_L8 n (fun x0 x1 x2 x3 x4 x5 x6 x7 x8 x9=>at106 n (.head 8) [m8] (sh106_L8 x0 x1 x2 x3 x4 x5 x6 x7 x8 x9)) x0 x1 x2 x3 x4 x5 x6 x7 x8 x9:=by kernel_rfl
noncomputable def p106_L8 (n:Nat):Nat→Int→ByteArray→Int→Int→Int→Int→Int→Int→(List Int)→(List NT)→Option R106
 | 0,_,_,_,_,_,_,_,_,_,_=>none
 | m + 1,x0,x1,x2,x3,x4,x5,x6,x7,x8,x9=>st106_L8 n (p106_L8 n m) x0 x1 x2 x3 x4 x5 x6 x7 x8 x9
noncomputable def p106 (n:Nat) (a:List NT) (b:Int × Int × List Int) (c:Int) (d:ByteArray) (e:Int) (f:Int):Option R106:=st106_top n (p106_L8 n n) a b c d e f
theorem t106_L8 (n:Nat):∀ (m8:Nat) (x0:Int) (x1:ByteArray) (x2:Int) (x3:Int) (x4:Int) (x5:Int) (x6:Int) (x7:Int) (x8:List Int) (x9:List NT),at106 n (.head 8) [m8] (sh106_L8 x0 x1 x2 x3 x4 x5 x6 x7 x8 x9)=p106_L8 n m8 x0 x1 x2 x3 x4 x5 x6 x7 x8 x9:=by
 intro m
 induction m with
 | zero=>intros; rw [e106_L8_0]; rfl
 | succ m ih =>
  intros
  rw [e106_L8]
  try simp only [ih]
  rfl
theorem F106_eq (n:Nat) (a:List NT) (b:Int × Int × List Int) (c:Int) (d:ByteArray) (e:Int) (f:Int):runF TT G106 an106 Try.f106 c106 ps106 rs106 n (a,b,c,d,e,f,())=p106 n a b c d e f:=by
 rw [e106_top]
 simp only [t106_L8]
 try rfl
noncomputable def q106 (n:Nat) (x:argsD ps106):Option R106:=p106 n x.1 x.2.1 x.2.2.1 x.2.2.2.1 x.2.2.2.2.1 x.2.2.2.2.2.1
noncomputable def Sm106:Sm:=⟨ps106,rs106,false,q106⟩
theorem holds106 (hg:GamOK Try.prog G106):Holds Try.prog 106 Sm106:=by
 have:=h0_106 hg
 have e:(runF TT G106 an106 Try.f106 c106 ps106 rs106)=q106:=by
  funext n x
  exact F106_eq n x.1 x.2.1 x.2.2.1 x.2.2.2.1 x.2.2.2.2.1 x.2.2.2.2.2.1
 rw [e] at this
 exact this
theorem gam106:GamOK Try.prog G106:=by
 intro f s h
 unfold G106 at h
 split at h
 ·injection h with h; subst h; exact ⟨⟨Try.f125,c125,Try.func125,by kernel_rfl,by decide +kernel⟩,hh125⟩
 ·injection h with h; subst h; exact ⟨⟨Try.f126,c126,Try.func126,by kernel_rfl,by decide +kernel⟩,hh126⟩
 ·injection h with h; subst h; exact ⟨⟨Try.f140,c140,Try.func140,by kernel_rfl,by decide +kernel⟩,hh140⟩
 ·cases h
theorem hh106:Holds Try.prog 106 Sm106:=holds106 gam106
end Go.Proofs.Ytbjgiioppmkpiaa.Rx.S

namespace Go.Proofs.Ytbjgiioppmkpiaa.Rx.S
open Go Go.RowKit Go.Proofs
set_option maxRecDepth 100000
noncomputable def c67:Code:=(Try.f67.body.getD .skip)
def an67:An:=⟨fun r=>match r with | 3=>⟨[1,2,3,4],[]⟩ | _=>⟨[],[]⟩,fun _ _=>none⟩
abbrev ps67:List PK:=[.val tFs true]
abbrev rs67:List RK:=[.own tFs true]
abbrev R67:=retsD rs67 × outsD ps67
noncomputable def G67:Gam:=fun _=>none
theorem h0_67 (hg:GamOK Try.prog G67):Holds Try.prog 67 ⟨ps67,rs67,false,runF TT G67 an67 Try.f67 c67 ps67 rs67⟩:=holds_of tt_ok hg mixed Try.func67 (by kernel_rfl) (by rfl) (by decide +kernel)
noncomputable def at67:Nat→Pt→List Nat→St→Option R67:=atF TT G67 an67 Try.f67 c67 _ _
def sh67_L3 (x0:Int) (x1:List NT) (x2:List NT):St:=(St.mk (AV.undef :: ((AV.one (SV.bptr 1000000 0)) :: ((AV.one (SV.bptr 1000001 0)) :: ((AV.one (SV.bptr 1000002 0)) :: ((AV.one (SV.int (Go.IntKind.i64) x0)) :: (AV.undef :: (AV.undef :: (AV.undef :: (AV.undef :: (AV.undef :: (AV.undef :: (AV.undef :: (AV.undef :: (AV.undef :: (AV.undef :: (AV.undef :: (AV.undef :: (AV.undef :: (AV.undef :: (AV.undef :: (AV.undef :: (AV.undef :: (AV.undef :: (AV.undef :: (AV.undef :: (AV.undef :: (AV.undef :: (AV.undef :: (AV.undef :: (AV.undef :: (AV.undef :: (AV.undef :: [])))))))))))))))))))))))))))))))) ((1000000,(Ent.box ((SV.con (⟨37,(Ty.int Go.IntKind.i64).pair ((Ty.int Go.IntKind.i64).pair ((Ty.int Go.IntKind.i64).pair ((Ty.int Go.IntKind.i64).pair ((Ty.int Go.IntKind.i64).pair ((Ty.int Go.IntKind.i64).pair (Ty.bool.pair (Ty.str.pair (Ty.row (nat_lit 100) (Ty.str.pair (Ty.int Go.IntKind.i64)))))))))),x1⟩:Rw)) :: []))) :: ((1000001,(Ent.box (SV.nil :: []))) :: ((1000002,(Ent.box ((SV.ref 1000003 0 [] Option.none) :: []))) :: ((1000003,(Ent.row (⟨37,(Ty.int Go.IntKind.i64).pair ((Ty.int Go.IntKind.i64).pair ((Ty.int Go.IntKind.i64).pair ((Ty.int Go.IntKind.i64).pair ((Ty.int Go.IntKind.i64).pair ((Ty.int Go.IntKind.i64).pair (Ty.bool.pair (Ty.str.pair (Ty.row (nat_lit 100) (Ty.str.pair (Ty.int Go.IntKind.i64)))))))))),x2⟩:Rw) 0 Option.none)) :: [])))))
noncomputable def st67_top (n:Nat) (lL3:Int→(List NT)→(List NT)→Option R67) (a:List NT):Option R67 :=
 lL3 ((0:Int)) (a) ([])
noncomputable def st67_L3 (n:Nat) (lL3:Int→(List NT)→(List NT)→Option R67) (x0:Int) (x1:List NT) (x2:List NT):Option R67 :=
 cond (decide (x0 < (↑x1.length:Int))) (cond (decide ((0:Int)≤x0)) (cond (decide (x0 < (↑x1.length:Int))) (cond (decide (((0:Nat) + List.length (x1.getD x0.toNat ZN).2.2.2.2.2.2.2.2) * (24:Nat)≤(140737488355328:Nat))) (cond (decide ((x2.length + [((x1.getD x0.toNat ZN).1,(x1.getD x0.toNat ZN).2.1,(x1.getD x0.toNat ZN).2.2.1,(x1.getD x0.toNat ZN).2.2.2.1,(x1.getD x0.toNat ZN).2.2.2.2.1,(x1.getD x0.toNat ZN).2.2.2.2.2.1,(x1.getD x0.toNat ZN).2.2.2.2.2.2.1,(x1.getD x0.toNat ZN).2.2.2.2.2.2.2.1,(x1.getD x0.toNat ZN).2.2.2.2.2.2.2.2)].length) * (96:Nat)≤(140737488355328:Nat))) (lL3 (Go.IntKind.i64.wrap (x0 + (1:Int))) (x1) (x2 ++ [((x1.getD x0.toNat ZN).1,(x1.getD x0.toNat ZN).2.1,(x1.getD x0.toNat ZN).2.2.1,(x1.getD x0.toNat ZN).2.2.2.1,(x1.getD x0.toNat ZN).2.2.2.2.1,(x1.getD x0.toNat ZN).2.2.2.2.2.1,(x1.getD x0.toNat ZN).2.2.2.2.2.2.1,(x1.getD x0.toNat ZN).2.2.2.2.2.2.2.1,(x1.getD x0.toNat ZN).2.2.2.2.2.2.2.2)])) (none)) (none)) (none)) (none)) (some ((x2,()),()))
theorem e67_top (n:Nat) (a:List NT):runF TT G67 an67 Try.f67 c67 ps67 rs67 n (a,())=st67_top n (fun x0 x1 x2=>at67 n (.head 3) [n] (sh67_L3 x0 x1 x2)) a:=by kernel_rfl
theorem e67_L3_0 (n:Nat) (x0:Int) (x1:List NT) (x2:List NT):at67 n (.head 3) [0] (sh67_L3 x0 x1 x2)=none:=by kernel_rfl
theorem e67_L3 (n:Nat) (m3:Nat) (x0:Int) (x1:List NT) (x2:List NT):at67 n (.head 3) [m3 + 1] (sh67_L3 x0 x1 x2)=st67_L3 n (fun x0 x1 x2=>at67 n (.head 3) [m3] (sh67_L3 x0 x1 x2)) x0 x1 x2:=by kernel_rfl
noncomputable def p67_L3 (n:Nat):Nat→Int→(List NT)→(List NT)→Option R67
 | 0,_,_,_=>none
 | m + 1,x0,x1,x2=>st67_L3 n (p67_L3 n m) x0 x1 x2
noncomputable def p67 (n:Nat) (a:List NT):Option R67:=st67_top n (p67_L3 n n) a
theorem t67_L3 (n:Nat):∀ (m3:Nat) (x0:Int) (x1:List NT) (x2:List NT),at67 n (.head 3) [m3] (sh67_L3 x0 x1 x2)=p67_L3 n m3 x0 x1 x2:=by
 intro m
 induction m with
 | zero=>intros; rw [e67_L3_0]; rfl
 | succ m ih =>
  intros
  rw [e67_L3]
  try simp only [ih]
  rfl
theorem F67_eq (n:Nat) (a:List NT):runF TT G67 an67 Try.f67 c67 ps67 rs67 n (a,())=p67 n a:=by
 rw [e67_top]
 simp only [t67_L3]
 try rfl
noncomputable def q67 (n:Nat) (x:argsD ps67):Option R67:=p67 n x.1
noncomputable def Sm67:Sm:=⟨ps67,rs67,false,q67⟩
theorem holds67 (hg:GamOK Try.prog G67):Holds Try.prog 67 Sm67:=by
 have:=h0_67 hg
 have e:(runF TT G67 an67 Try.f67 c67 ps67 rs67)=q67:=by
  funext n x
  exact F67_eq n x.1
 rw [e] at this
 exact this
theorem gam67:GamOK Try.prog G67:=fun _ _ h=>by cases h
theorem hh67:Holds Try.prog 67 Sm67:=holds67 gam67
end Go.Proofs.Ytbjgiioppmkpiaa.Rx.S

namespace Go.Proofs.Ytbjgiioppmkpiaa.Rx.S
open Go Go.RowKit Go.Proofs
set_option maxRecDepth 100000
noncomputable def c144:Code:=(Try.f144.body.getD .skip)
def an144:An:=⟨fun r=>match r with | 8=>⟨[1,2,3,4,8,10],[]⟩ | _=>⟨[],[]⟩,fun _ _=>none⟩
abbrev ps144:List PK:=[.own tFs true,.val i64 false,.val i64 false,.val .str false]
abbrev rs144:List RK:=[.own tFs true,.val i64 false]
abbrev R144:=retsD rs144 × outsD ps144
noncomputable def G144:Gam:=fun _=>none
theorem h0_144 (hg:GamOK Try.prog G144):Holds Try.prog 144 ⟨ps144,rs144,false,runF TT G144 an144 Try.f144 c144 ps144 rs144⟩:=holds_of tt_ok hg mixed Try.func144 (by kernel_rfl) (by rfl) (by decide +kernel)
noncomputable def at144:Nat→Pt→List Nat→St→Option R144:=atF TT G144 an144 Try.f144 c144 _ _
def sh144_L8 (x0:Int) (x1:Int) (x2:ByteArray) (x3:ByteArray) (x4:List NT):St:=(St.mk (AV.undef :: ((AV.one (SV.int (Go.IntKind.i64) x0)) :: ((AV.one (SV.int (Go.IntKind.i64) x1)) :: ((AV.one (SV.str x2)) :: ((AV.one (SV.bptr 1000000 0)) :: (AV.undef :: (AV.undef :: (AV.undef :: ((AV.one (SV.bptr 1000001 0)) :: (AV.undef :: ((AV.one (SV.str x3)) :: (AV.undef :: (AV.undef :: (AV.undef :: (AV.undef :: (AV.undef :: (AV.undef :: (AV.undef :: (AV.undef :: (AV.undef :: (AV.undef :: (AV.undef :: (AV.undef :: (AV.undef :: (AV.undef :: (AV.undef :: (AV.undef :: (AV.undef :: (AV.undef :: (AV.undef :: (AV.undef :: (AV.undef :: (AV.undef :: (AV.undef :: (AV.undef :: (AV.undef :: (AV.undef :: (AV.undef :: (AV.undef :: (AV.undef :: (AV.undef :: (AV.undef :: (AV.undef :: (AV.undef :: (AV.undef :: (AV.undef :: (AV.undef :: (AV.undef :: (AV.undef :: (AV.undef :: (AV.undef :: (AV.undef :: (AV.undef :: (AV.undef :: (AV.undef :: (AV.undef :: (AV.undef :: (AV.undef :: (AV.undef :: (AV.undef :: (AV.undef :: (AV.undef :: (AV.undef :: (AV.undef :: (AV.undef :: (AV.undef :: (AV.undef :: (AV.undef :: (AV.undef :: (AV.undef :: [])))))))))))))))))))))))))))))))))))))))))))))))))))))))))))))))))))))) ((1000000,(Ent.box ((SV.ref 1000002 0 [] Option.none) :: []))) :: ((1000001,(Ent.box (SV.nil :: []))) :: ((1000002,(Ent.row (⟨37,(Ty.int Go.IntKind.i64).pair ((Ty.int Go.IntKind.i64).pair ((Ty.int Go.IntKind.i64).pair ((Ty.int Go.IntKind.i64).pair ((Ty.int Go.IntKind.i64).pair ((Ty.int Go.IntKind.i64).pair (Ty.bool.pair (Ty.str.pair (Ty.row (nat_lit 100) (Ty.str.pair (Ty.int Go.IntKind.i64)))))))))),x4⟩:Rw) 0 Option.none)) :: []))))
noncomputable def st144_top (n:Nat) (lL8:Int→Int→ByteArray→ByteArray→(List NT)→Option R144) (a:List NT) (b:Int) (c:Int) (d:ByteArray):Option R144 :=
 cond (decide ((0:Int)≤b)) (cond (decide (b < (↑a.length:Int))) (cond (decide ((0:Int)≤b)) (cond (decide (b < (↑a.length:Int))) (cond (!decide ((a.getD b.toNat ZN).1=(1:Int))) (some ((a,((4:Int),())),())) (cond (decide ((40:Int) < c)) (some ((a,((7:Int),())),())) (cond (decide ((40:Int) < Go.IntKind.i64.wrap (c + (↑d.size:Int)))) (some ((a,((7:Int),())),())) (cond (d.toList == (ByteArray.mk #[]).toList) (some ((a,((0:Int),())),())) (lL8 (b) (c) (d) ((a.getD b.toNat ZN).2.2.2.2.2.2.2.1) (a)))))) (none)) (none)) (none)) (none)
noncomputable def st144_L8 (n:Nat) (lL8:Int→Int→ByteArray→ByteArray→(List NT)→Option R144) (x0:Int) (x1:Int) (x2:ByteArray) (x3:ByteArray) (x4:List NT):Option R144 :=
 cond (decide ((↑x3.size:Int) < x1)) (cond (decide (x3.size + (List.foldl (fun r n=>r.push (UInt8.ofNat n.toNat)) ByteArray.empty [(0:Int)]).size≤(9223372036854775807:Nat))) (lL8 (x0) (x1) (x2) (x3 ++ List.foldl (fun r n=>r.push (UInt8.ofNat n.toNat)) ByteArray.empty [(0:Int)]) (x4)) (none)) (cond (decide ((0:Int)≤x1)) (cond (decide (x1≤(↑x3.size:Int))) (cond (decide ((x3.extract (Int.toNat (0:Int)) x1.toNat).size + x2.size≤(9223372036854775807:Nat))) (cond (decide ((0:Int)≤if Go.IntKind.i64.wrap (x1 + (↑x2.size:Int)) < (↑x3.size:Int) then Go.IntKind.i64.wrap (x1 + (↑x2.size:Int)) else (↑x3.size:Int))) (cond (decide ((if Go.IntKind.i64.wrap (x1 + (↑x2.size:Int)) < (↑x3.size:Int) then Go.IntKind.i64.wrap (x1 + (↑x2.size:Int)) else (↑x3.size:Int))≤(↑x3.size:Int))) (cond (decide ((x3.extract (Int.toNat (0:Int)) x1.toNat ++ x2).size + (x3.extract (if Go.IntKind.i64.wrap (x1 + (↑x2.size:Int)) < (↑x3.size:Int) then Go.IntKind.i64.wrap (x1 + (↑x2.size:Int)) else (↑x3.size:Int)).toNat (↑x3.size:Int).toNat).size≤(9223372036854775807:Nat))) (cond (decide ((0:Int)≤x0)) (cond (decide (x0 < (↑x4.length:Int))) (some ((x4.set x0.toNat ((x4.getD x0.toNat ZN).1,(x4.getD x0.toNat ZN).2.1,(x4.getD x0.toNat ZN).2.2.1,(x4.getD x0.toNat ZN).2.2.2.1,(x4.getD x0.toNat ZN).2.2.2.2.1,(x4.getD x0.toNat ZN).2.2.2.2.2.1,(x4.getD x0.toNat ZN).2.2.2.2.2.2.1,x3.extract (Int.toNat (0:Int)) x1.toNat ++ x2 ++ x3.extract (if Go.IntKind.i64.wrap (x1 + (↑x2.size:Int)) < (↑x3.size:Int) then Go.IntKind.i64.wrap (x1 + (↑x2.size:Int)) else (↑x3.size:Int)).toNat (↑x3.size:Int).toNat,(x4.getD x0.toNat ZN).2.2.2.2.2.2.2.2),((0:Int),())),())) (none)) (none)) (none)) (none)) (none)) (none)) (none)) (none))
theorem e144_top (n:Nat) (a:List NT) (b:Int) (c:Int) (d:ByteArray):runF TT G144 an144 Try.f144 c144 ps144 rs144 n (a,b,c,d,())=st144_top n (fun x0 x1 x2 x3 x4=>at144 n (.head 8) [n] (sh144_L8 x0 x1 x2 x3 x4)) a b c d:=by kernel_rfl
theorem e144_L8_0 (n:Nat) (x0:Int) (x1:Int) (x2:ByteArray) (x3:ByteArray) (x4:List NT):at144 n (.head 8) [0] (sh144_L8 x0 x1 x2 x3 x4)=none:=by kernel_rfl
theorem e144_L8 (n:Nat) (m8:Nat) (x0:Int) (x1:Int) (x2:ByteArray) (x3:ByteArray) (x4:List NT):at144 n (.head 8) [m8 + 1] (sh144_L8 x0 x1 x2 x3 x4)=st144_L8 n (fun x0 x1 x2 x3 x4=>at144 n (.head 8) [m8] (sh144_L8 x0 x1 x2 x3 x4)) x0 x1 x2 x3 x4:=by kernel_rfl
noncomputable def p144_L8 (n:Nat):Nat→Int→Int→ByteArray→ByteArray→(List NT)→Option R144
 | 0,_,_,_,_,_=>none
 | m + 1,x0,x1,x2,x3,x4=>st144_L8 n (p144_L8 n m) x0 x1 x2 x3 x4
noncomputable def p144 (n:Nat) (a:List NT) (b:Int) (c:Int) (d:ByteArray):Option R144:=st144_top n (p144_L8 n n) a b c d
theorem t144_L8 (n:Nat):∀ (m8:Nat) (x0:Int) (x1:Int) (x2:ByteArray) (x3:ByteArray) (x4:List NT),at144 n (.head 8) [m8] (sh144_L8 x0 x1 x2 x3 x4)=p144_L8 n m8 x0 x1 x2 x3 x4:=by
 intro m
 induction m with
 | zero=>intros; rw [e144_L8_0]; rfl
 | succ m ih =>
  intros
  rw [e144_L8]
  try simp only [ih]
  rfl
theorem F144_eq (n:Nat) (a:List NT) (b:Int) (c:Int) (d:ByteArray):runF TT G144 an144 Try.f144 c144 ps144 rs144 n (a,b,c,d,())=p144 n a b c d:=by
 rw [e144_top]
 simp only [t144_L8]
 try rfl
noncomputable def q144 (n:Nat) (x:argsD ps144):Option R144:=p144 n x.1 x.2.1 x.2.2.1 x.2.2.2.1
noncomputable def Sm144:Sm:=⟨ps144,rs144,false,q144⟩
theorem holds144 (hg:GamOK Try.prog G144):Holds Try.prog 144 Sm144:=by
 have:=h0_144 hg
 have e:(runF TT G144 an144 Try.f144 c144 ps144 rs144)=q144:=by
  funext n x
  exact F144_eq n x.1 x.2.1 x.2.2.1 x.2.2.2.1
 rw [e] at this
 exact this
theorem gam144:GamOK Try.prog G144:=fun _ _ h=>by cases h
theorem hh144:Holds Try.prog 144 Sm144:=holds144 gam144
end Go.Proofs.Ytbjgiioppmkpiaa.Rx.S

namespace Go.Proofs.Ytbjgiioppmkpiaa.Rx.S
open Go Go.RowKit Go.Proofs
set_option maxRecDepth 100000
noncomputable def c127:Code:=(Try.f127.body.getD .skip)
def an127:An:=⟨fun _=>⟨[],[]⟩,fun _ _=>none⟩
abbrev ps127:List PK:=[.own tFs true,.val i64 false]
abbrev rs127:List RK:=[.own tFs true]
abbrev R127:=retsD rs127 × outsD ps127
noncomputable def G127:Gam:=fun _=>none
theorem h0_127 (hg:GamOK Try.prog G127):Holds Try.prog 127 ⟨ps127,rs127,false,runF TT G127 an127 Try.f127 c127 ps127 rs127⟩:=holds_of tt_ok hg mixed Try.func127 (by kernel_rfl) (by rfl) (by decide +kernel)
noncomputable def st127_top (n:Nat) (a:List NT) (b:Int):Option R127 :=
 cond (decide ((0:Int) < b)) (cond (decide ((0:Int)≤b)) (cond (decide (b < (↑a.length:Int))) (cond (decide ((a.getD b.toNat ZN).2.2.2.2.1=(0:Int))) (cond (decide ((0:Int)≤b)) (cond (decide (b < (↑a.length:Int))) (cond (decide ((a.getD b.toNat ZN).2.2.2.2.2.1=(0:Int))) (cond (decide ((0:Int)≤b)) (cond (decide (b < (↑a.length:Int))) (some ((a.set b.toNat ZN,()),())) (none)) (none)) (some ((a,()),()))) (none)) (none)) (some ((a,()),()))) (none)) (none)) (some ((a,()),()))
theorem e127_top (n:Nat) (a:List NT) (b:Int):runF TT G127 an127 Try.f127 c127 ps127 rs127 n (a,b,())=st127_top n a b:=by kernel_rfl
noncomputable def p127 (n:Nat) (a:List NT) (b:Int):Option R127:=st127_top n a b
theorem F127_eq (n:Nat) (a:List NT) (b:Int):runF TT G127 an127 Try.f127 c127 ps127 rs127 n (a,b,())=p127 n a b:=by
 rw [e127_top]
 skip
 try rfl
noncomputable def q127 (n:Nat) (x:argsD ps127):Option R127:=p127 n x.1 x.2.1
noncomputable def Sm127:Sm:=⟨ps127,rs127,false,q127⟩
theorem holds127 (hg:GamOK Try.prog G127):Holds Try.prog 127 Sm127:=by
 have:=h0_127 hg
 have e:(runF TT G127 an127 Try.f127 c127 ps127 rs127)=q127:=by
  funext n x
  exact F127_eq n x.1 x.2.1
 rw [e] at this
 exact this
theorem gam127:GamOK Try.prog G127:=fun _ _ h=>by cases h
theorem hh127:Holds Try.prog 127 Sm127:=holds127 gam127
end Go.Proofs.Ytbjgiioppmkpiaa.Rx.S

namespace Go.Proofs.Ytbjgiioppmkpiaa.Rx.S
open Go Go.RowKit Go.Proofs
set_option maxRecDepth 100000
noncomputable def c132:Code:=(Try.f132.body.getD .skip)
def an132:An:=⟨fun _=>⟨[],[]⟩,fun _ _=>none⟩
abbrev ps132:List PK:=[.own tFs true,.val i64 false,.val .bool false]
abbrev rs132:List RK:=[.own tFs true,.val i64 false]
abbrev R132:=retsD rs132 × outsD ps132
noncomputable def G132:Gam:=fun f=>match f with | 127=>some Sm127 | _=>none
theorem h0_132 (hg:GamOK Try.prog G132):Holds Try.prog 132 ⟨ps132,rs132,false,runF TT G132 an132 Try.f132 c132 ps132 rs132⟩:=holds_of tt_ok hg mixed Try.func132 (by kernel_rfl) (by rfl) (by decide +kernel)
noncomputable def st132_top (n:Nat) (a:List NT) (b:Int) (c:Bool):Option R132 :=
 cond (decide ((0:Int)≤b)) (cond (decide (b < (↑a.length:Int))) (cond (c) (cond (decide ((99:Int)≤(a.getD b.toNat ZN).2.2.2.2.2.1)) (some ((a,((6:Int),())),())) (cond (!c) (cond (decide ((a.getD b.toNat ZN).2.2.2.2.2.1=(0:Int))) (some ((a,((6:Int),())),())) (cond (c) (cond (decide ((0:Int)≤b)) (cond (decide (b < (↑a.length:Int))) (some ((a.set b.toNat ((a.getD b.toNat ZN).1,(a.getD b.toNat ZN).2.1,(a.getD b.toNat ZN).2.2.1,(a.getD b.toNat ZN).2.2.2.1,(a.getD b.toNat ZN).2.2.2.2.1,Go.IntKind.i64.wrap ((a.getD b.toNat ZN).2.2.2.2.2.1 + (1:Int)),(a.getD b.toNat ZN).2.2.2.2.2.2),((0:Int),())),())) (none)) (none)) (cond (decide ((0:Int)≤b)) (cond (decide (b < (↑a.length:Int))) ((q127 n (a.set b.toNat ((a.getD b.toNat ZN).1,(a.getD b.toNat ZN).2.1,(a.getD b.toNat ZN).2.2.1,(a.getD b.toNat ZN).2.2.2.1,(a.getD b.toNat ZN).2.2.2.2.1,Go.IntKind.i64.wrap ((a.getD b.toNat ZN).2.2.2.2.2.1 - (1:Int)),(a.getD b.toNat ZN).2.2.2.2.2.2),b,())).bind fun r0=>some ((r0.1.1,((0:Int),())),())) (none)) (none)))) (cond (c) (cond (decide ((0:Int)≤b)) (cond (decide (b < (↑a.length:Int))) (some ((a.set b.toNat ((a.getD b.toNat ZN).1,(a.getD b.toNat ZN).2.1,(a.getD b.toNat ZN).2.2.1,(a.getD b.toNat ZN).2.2.2.1,(a.getD b.toNat ZN).2.2.2.2.1,Go.IntKind.i64.wrap ((a.getD b.toNat ZN).2.2.2.2.2.1 + (1:Int)),(a.getD b.toNat ZN).2.2.2.2.2.2),((0:Int),())),())) (none)) (none)) (cond (decide ((0:Int)≤b)) (cond (decide (b < (↑a.length:Int))) ((q127 n (a.set b.toNat ((a.getD b.toNat ZN).1,(a.getD b.toNat ZN).2.1,(a.getD b.toNat ZN).2.2.1,(a.getD b.toNat ZN).2.2.2.1,(a.getD b.toNat ZN).2.2.2.2.1,Go.IntKind.i64.wrap ((a.getD b.toNat ZN).2.2.2.2.2.1 - (1:Int)),(a.getD b.toNat ZN).2.2.2.2.2.2),b,())).bind fun r1=>some ((r1.1.1,((0:Int),())),())) (none)) (none))))) (cond (!c) (cond (decide ((a.getD b.toNat ZN).2.2.2.2.2.1=(0:Int))) (some ((a,((6:Int),())),())) (cond (c) (cond (decide ((0:Int)≤b)) (cond (decide (b < (↑a.length:Int))) (some ((a.set b.toNat ((a.getD b.toNat ZN).1,(a.getD b.toNat ZN).2.1,(a.getD b.toNat ZN).2.2.1,(a.getD b.toNat ZN).2.2.2.1,(a.getD b.toNat ZN).2.2.2.2.1,Go.IntKind.i64.wrap ((a.getD b.toNat ZN).2.2.2.2.2.1 + (1:Int)),(a.getD b.toNat ZN).2.2.2.2.2.2),((0:Int),())),())) (none)) (none)) (cond (decide ((0:Int)≤b)) (cond (decide (b < (↑a.length:Int))) ((q127 n (a.set b.toNat ((a.getD b.toNat ZN).1,(a.getD b.toNat ZN).2.1,(a.getD b.toNat ZN).2.2.1,(a.getD b.toNat ZN).2.2.2.1,(a.getD b.toNat ZN).2.2.2.2.1,Go.IntKind.i64.wrap ((a.getD b.toNat ZN).2.2.2.2.2.1 - (1:Int)),(a.getD b.toNat ZN).2.2.2.2.2.2),b,())).bind fun r2=>some ((r2.1.1,((0:Int),())),())) (none)) (none)))) (cond (c) (cond (decide ((0:Int)≤b)) (cond (decide (b < (↑a.length:Int))) (some ((a.set b.toNat ((a.getD b.toNat ZN).1,(a.getD b.toNat ZN).2.1,(a.getD b.toNat ZN).2.2.1,(a.getD b.toNat ZN).2.2.2.1,(a.getD b.toNat ZN).2.2.2.2.1,Go.IntKind.i64.wrap ((a.getD b.toNat ZN).2.2.2.2.2.1 + (1:Int)),(a.getD b.toNat ZN).2.2.2.2.2.2),((0:Int),())),())) (none)) (none)) (cond (decide ((0:Int)≤b)) (cond (decide (b < (↑a.length:Int))) ((q127 n (a.set b.toNat ((a.getD b.toNat ZN).1,(a.getD b.toNat ZN).2.1,(a.getD b.toNat ZN).2.2.1,(a.getD b.toNat ZN).2.2.2.1,(a.getD b.toNat ZN).2.2.2.2.1,Go.IntKind.i64.wrap ((a.getD b.toNat ZN).2.2.2.2.2.1 - (1:Int)),(a.getD b.toNat ZN).2.2.2.2.2.2),b,())).bind fun r3=>some ((r3.1.1,((0:Int),())),())) (none)) (none))))) (none)) (none)
theorem e132_top (n:Nat) (a:List NT) (b:Int) (c:Bool):runF TT G132 an132 Try.f132 c132 ps132 rs132 n (a,b,c,())=st132_top n a b c:=by kernel_rfl
noncomputable def p132 (n:Nat) (a:List NT) (b:Int) (c:Bool):Option R132:=st132_top n a b c
theorem F132_eq (n:Nat) (a:List NT) (b:Int) (c:Bool):runF TT G132 an132 Try.f132 c132 ps132 rs132 n (a,b,c,())=p132 n a b c:=by
 rw [e132_top]
 skip
 try rfl
noncomputable def q132 (n:Nat) (x:argsD ps132):Option R132:=p132 n x.1 x.2.1 x.2.2.1
noncomputable def Sm132:Sm:=⟨ps132,rs132,false,q132⟩
theorem holds132 (hg:GamOK Try.prog G132):Holds Try.prog 132 Sm132:=by
 have:=h0_132 hg
 have e:(runF TT G132 an132 Try.f132 c132 ps132 rs132)=q132:=by
  funext n x
  exact F132_eq n x.1 x.2.1 x.2.2.1
 rw [e] at this
 exact this
theorem gam132:GamOK Try.prog G132:=by
 intro f s h
 unfold G132 at h
 split at h
 ·injection h with h; subst h; exact ⟨⟨Try.f127,c127,Try.func127,by kernel_rfl,by decide +kernel⟩,hh127⟩
 ·cases h
theorem hh132:Holds Try.prog 132 Sm132:=holds132 gam132
end Go.Proofs.Ytbjgiioppmkpiaa.Rx.S

namespace Go.Proofs.Ytbjgiioppmkpiaa.Rx.S
open Go Go.RowKit Go.Proofs
set_option maxRecDepth 100000
noncomputable def c145:Code:=(Try.f145.body.getD .skip)
def an145:An:=⟨fun r=>match r with | 3=>⟨[0,5,6],[]⟩ | _=>⟨[],[]⟩,fun _ _=>none⟩
abbrev ps145:List PK:=[.bx tRd,.val i64 false]
abbrev rs145:List RK:=[.val .str false]
abbrev R145:=retsD rs145 × outsD ps145
noncomputable def G145:Gam:=fun f=>match f with | 102=>some Sm102 | _=>none
theorem h0_145 (hg:GamOK Try.prog G145):Holds Try.prog 145 ⟨ps145,rs145,true,runF TT G145 an145 Try.f145 c145 ps145 rs145⟩:=holds_of tt_ok hg mixed Try.func145 (by kernel_rfl) (by rfl) (by decide +kernel)
noncomputable def at145:Nat→Pt→List Nat→St→Option R145:=atF TT G145 an145 Try.f145 c145 _ _
def sh145_L3 (x0:Int) (x1:List Int) (x2:Int) (x3:List Int):St:=(St.mk ((AV.par 0 false ((SV.bptr 1000000 0) :: [])) :: (AV.undef :: (AV.undef :: (AV.undef :: (AV.undef :: ((AV.one (SV.ref 1000001 0 [] Option.none)) :: ((AV.one (SV.int (Go.IntKind.i64) x0)) :: (AV.undef :: (AV.undef :: (AV.undef :: (AV.undef :: (AV.undef :: (AV.undef :: (AV.undef :: (AV.undef :: (AV.undef :: (AV.undef :: (AV.undef :: (AV.undef :: (AV.undef :: (AV.undef :: (AV.undef :: (AV.undef :: (AV.undef :: [])))))))))))))))))))))))) ((1000000,(Ent.box ((SV.con (⟨5,Ty.int Go.IntKind.u8,x1⟩:Rw)) :: ((SV.int (Go.IntKind.i64) x2) :: [])))) :: ((1000001,(Ent.row (⟨5,Ty.int Go.IntKind.u8,x3⟩:Rw) 0 Option.none)) :: [])))
noncomputable def st145_top (n:Nat) (lL3:Int→(List Int)→Int→(List Int)→Option R145) (a:List Int × Int) (b:Int):Option R145 :=
 (q102 n ((a.1,a.2),Go.IntKind.i64.wrap (b + (1:Int)),())).bind fun r0=>lL3 (r0.1.1) (r0.2.1.1) (r0.2.1.2) ([])
noncomputable def st145_L3 (n:Nat) (lL3:Int→(List Int)→Int→(List Int)→Option R145) (x0:Int) (x1:List Int) (x2:Int) (x3:List Int):Option R145 :=
 cond (decide ((0:Int) < x0)) ((q102 n ((x1,x2),(12:Int),())).bind fun r2=>cond (decide ((0:Int)≤r2.1.1)) (cond (decide (r2.1.1 < (↑(ByteArray.mk #[(97:UInt8),(98:UInt8),(99:UInt8),(100:UInt8),(101:UInt8),(102:UInt8),(103:UInt8),(104:UInt8),(48:UInt8),(49:UInt8),(32:UInt8),(46:UInt8)]).size:Int))) (cond (decide ((x3.length + [(↑((ByteArray.mk #[(97:UInt8),(98:UInt8),(99:UInt8),(100:UInt8),(101:UInt8),(102:UInt8),(103:UInt8),(104:UInt8),(48:UInt8),(49:UInt8),(32:UInt8),(46:UInt8)]).data.toList.getD (Int.toNat r2.1.1) (0:UInt8)).toNat:Int)].length) * (1:Nat)≤(140737488355328:Nat))) (lL3 (Go.IntKind.i64.wrap (x0 - (1:Int))) (r2.2.1.1) (r2.2.1.2) (x3 ++ [(↑((ByteArray.mk #[(97:UInt8),(98:UInt8),(99:UInt8),(100:UInt8),(101:UInt8),(102:UInt8),(103:UInt8),(104:UInt8),(48:UInt8),(49:UInt8),(32:UInt8),(46:UInt8)]).data.toList.getD (Int.toNat r2.1.1) (0:UInt8)).toNat:Int)])) (none)) (none)) (none)) (some ((List.foldl (fun r n=>r.push (UInt8.ofNat n.toNat)) ByteArray.empty x3,()),((x1,x2),())))
theorem e145_top (n:Nat) (a:List Int × Int) (b:Int):runF TT G145 an145 Try.f145 c145 ps145 rs145 n (a,b,())=st145_top n (fun x0 x1 x2 x3=>at145 n (.head 3) [n] (sh145_L3 x0 x1 x2 x3)) a b:=by kernel_rfl
theorem e145_L3_0 (n:Nat) (x0:Int) (x1:List Int) (x2:Int) (x3:List Int):at145 n (.head 3) [0] (sh145_L3 x0 x1 x2 x3)=none:=by kernel_rfl
theorem e145_L3 (n:Nat) (m3:Nat) (x0:Int) (x1:List Int) (x2:Int) (x3:List Int):at145 n (.head 3) [m3 + 1] (sh145_L3 x0 x1 x2 x3)=st145_L3 n (fun x0 x1 x2 x3=>at145 n (.head 3) [m3] (sh145_L3 x0 x1 x2 x3)) x0 x1 x2 x3:=by kernel_rfl
noncomputable def p145_L3 (n:Nat):Nat→Int→(List Int)→Int→(List Int)→Option R145
 | 0,_,_,_,_=>none
 | m + 1,x0,x1,x2,x3=>st145_L3 n (p145_L3 n m) x0 x1 x2 x3
noncomputable def p145 (n:Nat) (a:List Int × Int) (b:Int):Option R145:=st145_top n (p145_L3 n n) a b
theorem t145_L3 (n:Nat):∀ (m3:Nat) (x0:Int) (x1:List Int) (x2:Int) (x3:List Int),at145 n (.head 3) [m3] (sh145_L3 x0 x1 x2 x3)=p145_L3 n m3 x0 x1 x2 x3:=by
 intro m
 induction m with
 | zero=>intros; rw [e145_L3_0]; rfl
 | succ m ih =>
  intros
  rw [e145_L3]
  try simp only [ih]
  rfl
theorem F145_eq (n:Nat) (a:List Int × Int) (b:Int):runF TT G145 an145 Try.f145 c145 ps145 rs145 n (a,b,())=p145 n a b:=by
 rw [e145_top]
 simp only [t145_L3]
 try rfl
noncomputable def q145 (n:Nat) (x:argsD ps145):Option R145:=p145 n x.1 x.2.1
noncomputable def Sm145:Sm:=⟨ps145,rs145,true,q145⟩
theorem holds145 (hg:GamOK Try.prog G145):Holds Try.prog 145 Sm145:=by
 have:=h0_145 hg
 have e:(runF TT G145 an145 Try.f145 c145 ps145 rs145)=q145:=by
  funext n x
  exact F145_eq n x.1 x.2.1
 rw [e] at this
 exact this
theorem gam145:GamOK Try.prog G145:=by
 intro f s h
 unfold G145 at h
 split at h
 ·injection h with h; subst h; exact ⟨⟨Try.f102,c102,Try.func102,by kernel_rfl,by decide +kernel⟩,hh102⟩
 ·cases h
theorem hh145:Holds Try.prog 145 Sm145:=holds145 gam145
end Go.Proofs.Ytbjgiioppmkpiaa.Rx.S

namespace Go.Proofs.Ytbjgiioppmkpiaa.Rx.S
open Go Go.RowKit Go.Proofs
set_option maxRecDepth 100000
noncomputable def c111:Code:=(Try.f111.body.getD .skip)
def an111:An:=⟨fun _=>⟨[],[]⟩,fun _ _=>none⟩
abbrev ps111:List PK:=[.own tFs true,.val tCr true,.val i64 false,.val i64 false,.val .str false]
abbrev rs111:List RK:=[.own tFs true,.val i64 false]
abbrev R111:=retsD rs111 × outsD ps111
noncomputable def G111:Gam:=fun f=>match f with | 125=>some Sm125 | 126=>some Sm126 | 140=>some Sm140 | _=>none
theorem h0_111 (hg:GamOK Try.prog G111):Holds Try.prog 111 ⟨ps111,rs111,false,runF TT G111 an111 Try.f111 c111 ps111 rs111⟩:=holds_of tt_ok hg mixed Try.func111 (by kernel_rfl) (by rfl) (by decide +kernel)
noncomputable def st111_top (n:Nat) (a:List NT) (b:Int × Int × List Int) (c:Int) (d:Int) (e:ByteArray):Option R111 :=
 cond (decide ((0:Int)≤c)) (cond (decide (c < (↑a.length:Int))) (cond (!decide ((a.getD c.toNat ZN).1=(1:Int))) (some ((a,((4:Int),())),())) ((q125 n (a,(b.1,b.2.1,b.2.2),d,(3:Int),())).bind fun r0=>cond (!decide (r0.1.1=(0:Int))) (some ((a,(r0.1.1,())),())) (cond (decide ((0:Int)≤d)) (cond (decide (d < (↑a.length:Int))) ((q126 n (((a.getD d.toNat ZN).1,(a.getD d.toNat ZN).2.1,(a.getD d.toNat ZN).2.2.1,(a.getD d.toNat ZN).2.2.2.1,(a.getD d.toNat ZN).2.2.2.2.1,(a.getD d.toNat ZN).2.2.2.2.2.1,(a.getD d.toNat ZN).2.2.2.2.2.2.1,(a.getD d.toNat ZN).2.2.2.2.2.2.2.1,(a.getD d.toNat ZN).2.2.2.2.2.2.2.2),e,())).bind fun r1=>cond (decide ((0:Int)≤r1.1.1)) (some ((a,((3:Int),())),())) (cond (decide ((0:Int)≤d)) (cond (decide (d < (↑a.length:Int))) (cond (decide ((6:Int)≤(↑(List.length (a.getD d.toNat ZN).2.2.2.2.2.2.2.2):Int))) (some ((a,((7:Int),())),())) (cond (decide ((0:Int)≤c)) (cond (decide (c < (↑a.length:Int))) (cond (decide ((99:Int)≤(a.getD c.toNat ZN).2.2.2.2.1)) (some ((a,((7:Int),())),())) (cond (decide ((0:Int)≤c)) (cond (decide (c < (↑a.length:Int))) (cond (decide ((0:Int)≤c)) (cond (decide (c < (↑a.length:Int))) ((q140 n (a.set c.toNat ((a.getD c.toNat ZN).1,(a.getD c.toNat ZN).2.1,(a.getD c.toNat ZN).2.2.1,(a.getD c.toNat ZN).2.2.2.1,Go.IntKind.i64.wrap ((a.getD c.toNat ZN).2.2.2.2.1 + (1:Int)),(a.getD c.toNat ZN).2.2.2.2.2),d,(e,c),())).bind fun r2=>some ((r2.1.1,((0:Int),())),())) (none)) (none)) (none)) (none))) (none)) (none))) (none)) (none))) (none)) (none)))) (none)) (none)
theorem e111_top (n:Nat) (a:List NT) (b:Int × Int × List Int) (c:Int) (d:Int) (e:ByteArray):runF TT G111 an111 Try.f111 c111 ps111 rs111 n (a,b,c,d,e,())=st111_top n a b c d e:=by kernel_rfl
noncomputable def p111 (n:Nat) (a:List NT) (b:Int × Int × List Int) (c:Int) (d:Int) (e:ByteArray):Option R111:=st111_top n a b c d e
theorem F111_eq (n:Nat) (a:List NT) (b:Int × Int × List Int) (c:Int) (d:Int) (e:ByteArray):runF TT G111 an111 Try.f111 c111 ps111 rs111 n (a,b,c,d,e,())=p111 n a b c d e:=by
 rw [e111_top]
 skip
 try rfl
noncomputable def q111 (n:Nat) (x:argsD ps111):Option R111:=p111 n x.1 x.2.1 x.2.2.1 x.2.2.2.1 x.2.2.2.2.1
noncomputable def Sm111:Sm:=⟨ps111,rs111,false,q111⟩
theorem holds111 (hg:GamOK Try.prog G111):Holds Try.prog 111 Sm111:=by
 have:=h0_111 hg
 have e:(runF TT G111 an111 Try.f111 c111 ps111 rs111)=q111:=by
  funext n x
  exact F111_eq n x.1 x.2.1 x.2.2.1 x.2.2.2.1 x.2.2.2.2.1
 rw [e] at this
 exact this
theorem gam111:GamOK Try.prog G111:=by
 intro f s h
 unfold G111 at h
 split at h
 ·injection h with h; subst h; exact ⟨⟨Try.f125,c125,Try.func125,by kernel_rfl,by decide +kernel⟩,hh125⟩
 ·injection h with h; subst h; exact ⟨⟨Try.f126,c126,Try.func126,by kernel_rfl,by decide +kernel⟩,hh126⟩
 ·injection h with h; subst h; exact ⟨⟨Try.f140,c140,Try.func140,by kernel_rfl,by decide +kernel⟩,hh140⟩
 ·cases h
theorem hh111:Holds Try.prog 111 Sm111:=holds111 gam111
end Go.Proofs.Ytbjgiioppmkpiaa.Rx.S

namespace Go.Proofs.Ytbjgiioppmkpiaa.Rx.S
open Go Go.RowKit Go.Proofs
set_option maxRecDepth 100000
noncomputable def c128:Code:=(Try.f128.body.getD .skip)
def an128:An:=⟨fun _=>⟨[],[]⟩,fun _ _=>none⟩
abbrev ps128:List PK:=[.own tFs true,.val i64 false,.val i64 false]
abbrev rs128:List RK:=[.own tFs true]
abbrev R128:=retsD rs128 × outsD ps128
noncomputable def G128:Gam:=fun _=>none
theorem h0_128 (hg:GamOK Try.prog G128):Holds Try.prog 128 ⟨ps128,rs128,false,runF TT G128 an128 Try.f128 c128 ps128 rs128⟩:=holds_of tt_ok hg mixed Try.func128 (by kernel_rfl) (by rfl) (by decide +kernel)
noncomputable def st128_top (n:Nat) (a:List NT) (b:Int) (c:Int):Option R128 :=
 cond (decide ((0:Int)≤b)) (cond (decide (b < (↑a.length:Int))) (cond (decide ((0:Int)≤c)) (cond (decide (c≤(↑(List.length (a.getD b.toNat ZN).2.2.2.2.2.2.2.2):Int))) (cond (decide (((0:Nat) + (List.take (c - (0:Int)).toNat (List.drop ((0:Nat) + Int.toNat (0:Int)) (a.getD b.toNat ZN).2.2.2.2.2.2.2.2)).length) * (24:Nat)≤(140737488355328:Nat))) (cond (decide ((0:Int)≤Go.IntKind.i64.wrap (c + (1:Int)))) (cond (decide (Go.IntKind.i64.wrap (c + (1:Int))≤(↑(List.length (a.getD b.toNat ZN).2.2.2.2.2.2.2.2):Int))) (cond (decide (((List.take (c - (0:Int)).toNat (List.drop ((0:Nat) + Int.toNat (0:Int)) (a.getD b.toNat ZN).2.2.2.2.2.2.2.2)).length + (List.take ((↑(List.length (a.getD b.toNat ZN).2.2.2.2.2.2.2.2):Int) - Go.IntKind.i64.wrap (c + (1:Int))).toNat (List.drop ((0:Nat) + (Go.IntKind.i64.wrap (c + (1:Int))).toNat) (a.getD b.toNat ZN).2.2.2.2.2.2.2.2)).length) * (24:Nat)≤(140737488355328:Nat))) (cond (decide ((0:Int)≤b)) (cond (decide (b < (↑a.length:Int))) (some ((a.set b.toNat ((a.getD b.toNat ZN).1,(a.getD b.toNat ZN).2.1,(a.getD b.toNat ZN).2.2.1,(a.getD b.toNat ZN).2.2.2.1,(a.getD b.toNat ZN).2.2.2.2.1,(a.getD b.toNat ZN).2.2.2.2.2.1,(a.getD b.toNat ZN).2.2.2.2.2.2.1,(a.getD b.toNat ZN).2.2.2.2.2.2.2.1,List.take (c - (0:Int)).toNat (List.drop ((0:Nat) + Int.toNat (0:Int)) (a.getD b.toNat ZN).2.2.2.2.2.2.2.2) ++ List.take ((↑(List.length (a.getD b.toNat ZN).2.2.2.2.2.2.2.2):Int) - Go.IntKind.i64.wrap (c + (1:Int))).toNat (List.drop ((0:Nat) + (Go.IntKind.i64.wrap (c + (1:Int))).toNat) (a.getD b.toNat ZN).2.2.2.2.2.2.2.2)),()),())) (none)) (none)) (none)) (none)) (none)) (none)) (none)) (none)) (none)) (none)
theorem e128_top (n:Nat) (a:List NT) (b:Int) (c:Int):runF TT G128 an128 Try.f128 c128 ps128 rs128 n (a,b,c,())=st128_top n a b c:=by kernel_rfl
noncomputable def p128 (n:Nat) (a:List NT) (b:Int) (c:Int):Option R128:=st128_top n a b c
theorem F128_eq (n:Nat) (a:List NT) (b:Int) (c:Int):runF TT G128 an128 Try.f128 c128 ps128 rs128 n (a,b,c,())=p128 n a b c:=by
 rw [e128_top]
 skip
 try rfl
noncomputable def q128 (n:Nat) (x:argsD ps128):Option R128:=p128 n x.1 x.2.1 x.2.2.1
noncomputable def Sm128:Sm:=⟨ps128,rs128,false,q128⟩
theorem holds128 (hg:GamOK Try.prog G128):Holds Try.prog 128 Sm128:=by
 have:=h0_128 hg
 have e:(runF TT G128 an128 Try.f128 c128 ps128 rs128)=q128:=by
  funext n x
  exact F128_eq n x.1 x.2.1 x.2.2.1
 rw [e] at this
 exact this
theorem gam128:GamOK Try.prog G128:=fun _ _ h=>by cases h
theorem hh128:Holds Try.prog 128 Sm128:=holds128 gam128
end Go.Proofs.Ytbjgiioppmkpiaa.Rx.S

namespace Go.Proofs.Ytbjgiioppmkpiaa.Rx.S
open Go Go.RowKit Go.Proofs
set_option maxRecDepth 100000
noncomputable def c77:Code:=(Try.f77.body.getD .skip)
def an77:An:=⟨fun _=>⟨[],[]⟩,fun _ _=>none⟩
abbrev ps77:List PK:=[.own tFs true,.val tCr true,.val i64 false,.val .str false]
abbrev rs77:List RK:=[.own tFs true,.val i64 false]
abbrev R77:=retsD rs77 × outsD ps77
noncomputable def G77:Gam:=fun f=>match f with | 125=>some Sm125 | 126=>some Sm126 | 127=>some Sm127 | 128=>some Sm128 | _=>none
theorem h0_77 (hg:GamOK Try.prog G77):Holds Try.prog 77 ⟨ps77,rs77,false,runF TT G77 an77 Try.f77 c77 ps77 rs77⟩:=holds_of tt_ok hg mixed Try.func77 (by kernel_rfl) (by rfl) (by decide +kernel)
noncomputable def st77_top (n:Nat) (a:List NT) (b:Int × Int × List Int) (c:Int) (d:ByteArray):Option R77 :=
 (q125 n (a,(b.1,b.2.1,b.2.2),c,(3:Int),())).bind fun r0=>cond (!decide (r0.1.1=(0:Int))) (some ((a,(r0.1.1,())),())) (cond (decide ((0:Int)≤c)) (cond (decide (c < (↑a.length:Int))) ((q126 n (((a.getD c.toNat ZN).1,(a.getD c.toNat ZN).2.1,(a.getD c.toNat ZN).2.2.1,(a.getD c.toNat ZN).2.2.2.1,(a.getD c.toNat ZN).2.2.2.2.1,(a.getD c.toNat ZN).2.2.2.2.2.1,(a.getD c.toNat ZN).2.2.2.2.2.2.1,(a.getD c.toNat ZN).2.2.2.2.2.2.2.1,(a.getD c.toNat ZN).2.2.2.2.2.2.2.2),d,())).bind fun r1=>cond (decide (r1.1.1 < (0:Int))) (some ((a,((2:Int),())),())) (cond (decide ((0:Int)≤c)) (cond (decide (c < (↑a.length:Int))) (cond (decide ((0:Int)≤r1.1.1)) (cond (decide (r1.1.1 < (↑(List.length (a.getD c.toNat ZN).2.2.2.2.2.2.2.2):Int))) (cond (decide ((0:Int)≤(List.getD (a.getD c.toNat ZN).2.2.2.2.2.2.2.2 (Int.toNat r1.1.1) (ByteArray.empty,(0:Int))).2)) (cond (decide ((List.getD (a.getD c.toNat ZN).2.2.2.2.2.2.2.2 (Int.toNat r1.1.1) (ByteArray.empty,(0:Int))).2 < (↑a.length:Int))) (cond (decide ((a.getD (Int.toNat (List.getD (a.getD c.toNat ZN).2.2.2.2.2.2.2.2 (Int.toNat r1.1.1) (ByteArray.empty,(0:Int))).2) ZN).1=(2:Int))) (cond (decide ((0:Int) < (↑(List.length (a.getD (Int.toNat (List.getD (a.getD c.toNat ZN).2.2.2.2.2.2.2.2 (Int.toNat r1.1.1) (ByteArray.empty,(0:Int))).2) ZN).2.2.2.2.2.2.2.2):Int))) (some ((a,((6:Int),())),())) (cond (decide ((0:Int) < (a.getD (Int.toNat (List.getD (a.getD c.toNat ZN).2.2.2.2.2.2.2.2 (Int.toNat r1.1.1) (ByteArray.empty,(0:Int))).2) ZN).2.2.2.2.2.1)) (some ((a,((6:Int),())),())) (cond (decide ((0:Int)≤(List.getD (a.getD c.toNat ZN).2.2.2.2.2.2.2.2 (Int.toNat r1.1.1) (ByteArray.empty,(0:Int))).2)) (cond (decide ((List.getD (a.getD c.toNat ZN).2.2.2.2.2.2.2.2 (Int.toNat r1.1.1) (ByteArray.empty,(0:Int))).2 < (↑a.length:Int))) ((q128 n (a.set (Int.toNat (List.getD (a.getD c.toNat ZN).2.2.2.2.2.2.2.2 (Int.toNat r1.1.1) (ByteArray.empty,(0:Int))).2) ((a.getD (Int.toNat (List.getD (a.getD c.toNat ZN).2.2.2.2.2.2.2.2 (Int.toNat r1.1.1) (ByteArray.empty,(0:Int))).2) ZN).1,(a.getD (Int.toNat (List.getD (a.getD c.toNat ZN).2.2.2.2.2.2.2.2 (Int.toNat r1.1.1) (ByteArray.empty,(0:Int))).2) ZN).2.1,(a.getD (Int.toNat (List.getD (a.getD c.toNat ZN).2.2.2.2.2.2.2.2 (Int.toNat r1.1.1) (ByteArray.empty,(0:Int))).2) ZN).2.2.1,(a.getD (Int.toNat (List.getD (a.getD c.toNat ZN).2.2.2.2.2.2.2.2 (Int.toNat r1.1.1) (ByteArray.empty,(0:Int))).2) ZN).2.2.2.1,Go.IntKind.i64.wrap ((a.getD (Int.toNat (List.getD (a.getD c.toNat ZN).2.2.2.2.2.2.2.2 (Int.toNat r1.1.1) (ByteArray.empty,(0:Int))).2) ZN).2.2.2.2.1 - (1:Int)),(a.getD (Int.toNat (List.getD (a.getD c.toNat ZN).2.2.2.2.2.2.2.2 (Int.toNat r1.1.1) (ByteArray.empty,(0:Int))).2) ZN).2.2.2.2.2),c,r1.1.1,())).bind fun r2=>(q127 n (r2.1.1,(List.getD (a.getD c.toNat ZN).2.2.2.2.2.2.2.2 (Int.toNat r1.1.1) (ByteArray.empty,(0:Int))).2,())).bind fun r3=>some ((r3.1.1,((0:Int),())),())) (none)) (none)))) (cond (decide ((0:Int)≤(List.getD (a.getD c.toNat ZN).2.2.2.2.2.2.2.2 (Int.toNat r1.1.1) (ByteArray.empty,(0:Int))).2)) (cond (decide ((List.getD (a.getD c.toNat ZN).2.2.2.2.2.2.2.2 (Int.toNat r1.1.1) (ByteArray.empty,(0:Int))).2 < (↑a.length:Int))) ((q128 n (a.set (Int.toNat (List.getD (a.getD c.toNat ZN).2.2.2.2.2.2.2.2 (Int.toNat r1.1.1) (ByteArray.empty,(0:Int))).2) ((a.getD (Int.toNat (List.getD (a.getD c.toNat ZN).2.2.2.2.2.2.2.2 (Int.toNat r1.1.1) (ByteArray.empty,(0:Int))).2) ZN).1,(a.getD (Int.toNat (List.getD (a.getD c.toNat ZN).2.2.2.2.2.2.2.2 (Int.toNat r1.1.1) (ByteArray.empty,(0:Int))).2) ZN).2.1,(a.getD (Int.toNat (List.getD (a.getD c.toNat ZN).2.2.2.2.2.2.2.2 (Int.toNat r1.1.1) (ByteArray.empty,(0:Int))).2) ZN).2.2.1,(a.getD (Int.toNat (List.getD (a.getD c.toNat ZN).2.2.2.2.2.2.2.2 (Int.toNat r1.1.1) (ByteArray.empty,(0:Int))).2) ZN).2.2.2.1,Go.IntKind.i64.wrap ((a.getD (Int.toNat (List.getD (a.getD c.toNat ZN).2.2.2.2.2.2.2.2 (Int.toNat r1.1.1) (ByteArray.empty,(0:Int))).2) ZN).2.2.2.2.1 - (1:Int)),(a.getD (Int.toNat (List.getD (a.getD c.toNat ZN).2.2.2.2.2.2.2.2 (Int.toNat r1.1.1) (ByteArray.empty,(0:Int))).2) ZN).2.2.2.2.2),c,r1.1.1,())).bind fun r4=>(q127 n (r4.1.1,(List.getD (a.getD c.toNat ZN).2.2.2.2.2.2.2.2 (Int.toNat r1.1.1) (ByteArray.empty,(0:Int))).2,())).bind fun r5=>some ((r5.1.1,((0:Int),())),())) (none)) (none))) (none)) (none)) (none)) (none)) (none)) (none))) (none)) (none))
theorem e77_top (n:Nat) (a:List NT) (b:Int × Int × List Int) (c:Int) (d:ByteArray):runF TT G77 an77 Try.f77 c77 ps77 rs77 n (a,b,c,d,())=st77_top n a b c d:=by kernel_rfl
noncomputable def p77 (n:Nat) (a:List NT) (b:Int × Int × List Int) (c:Int) (d:ByteArray):Option R77:=st77_top n a b c d
theorem F77_eq (n:Nat) (a:List NT) (b:Int × Int × List Int) (c:Int) (d:ByteArray):runF TT G77 an77 Try.f77 c77 ps77 rs77 n (a,b,c,d,())=p77 n a b c d:=by
 rw [e77_top]
 skip
 try rfl
noncomputable def q77 (n:Nat) (x:argsD ps77):Option R77:=p77 n x.1 x.2.1 x.2.2.1 x.2.2.2.1
noncomputable def Sm77:Sm:=⟨ps77,rs77,false,q77⟩
theorem holds77 (hg:GamOK Try.prog G77):Holds Try.prog 77 Sm77:=by
 have:=h0_77 hg
 have e:(runF TT G77 an77 Try.f77 c77 ps77 rs77)=q77:=by
  funext n x
  exact F77_eq n x.1 x.2.1 x.2.2.1 x.2.2.2.1
 rw [e] at this
 exact this
theorem gam77:GamOK Try.prog G77:=by
 intro f s h
 unfold G77 at h
 split at h
 ·injection h with h; subst h; exact ⟨⟨Try.f125,c125,Try.func125,by kernel_rfl,by decide +kernel⟩,hh125⟩
 ·injection h with h; subst h; exact ⟨⟨Try.f126,c126,Try.func126,by kernel_rfl,by decide +kernel⟩,hh126⟩
 ·injection h with h; subst h; exact ⟨⟨Try.f127,c127,Try.func127,by kernel_rfl,by decide +kernel⟩,hh127⟩
 ·injection h with h; subst h; exact ⟨⟨Try.f128,c128,Try.func128,by kernel_rfl,by decide +kernel⟩,hh128⟩
 ·cases h
theorem hh77:Holds Try.prog 77 Sm77:=holds77 gam77
end Go.Proofs.Ytbjgiioppmkpiaa.Rx.S

namespace Go.Proofs.Ytbjgiioppmkpiaa.Rx.S
open Go Go.RowKit Go.Proofs
set_option maxRecDepth 100000
noncomputable def c143:Code:=(Try.f143.body.getD .skip)
def an143:An:=⟨fun r=>match r with | 4=>⟨[1,2,3,7],[]⟩ | _=>⟨[],[]⟩,fun _ _=>none⟩
abbrev ps143:List PK:=[.val tFs true,.val i64 false,.val i64 false]
abbrev rs143:List RK:=[.val .bool false]
abbrev R143:=retsD rs143 × outsD ps143
abbrev Fn143:=Nat→argsD ps143→Option R143
noncomputable def Smr143 (q:Fn143):Sm:=⟨ps143,rs143,false,q⟩
noncomputable def G143 (qr143:Fn143):Gam:=fun f=>match f with | 143=>some (Smr143 qr143) | _=>none
theorem h0_143 (qr143:Fn143) (hg:GamOK Try.prog (G143 qr143)):Holds Try.prog 143 ⟨ps143,rs143,false,runF TT (G143 qr143) an143 Try.f143 c143 ps143 rs143⟩:=holds_of tt_ok hg mixed Try.func143 (by kernel_rfl) (by rfl) (by decide +kernel)
noncomputable def at143 (qr143:Fn143):Nat→Pt→List Nat→St→Option R143:=atF TT (G143 qr143) an143 Try.f143 c143 _ _
def sh143_L4 (x0:Int) (x1:Int) (x2:Int) (x3:List NT):St:=(St.mk (AV.undef :: ((AV.one (SV.int (Go.IntKind.i64) x0)) :: ((AV.one (SV.int (Go.IntKind.i64) x1)) :: ((AV.one (SV.bptr 1000000 0)) :: (AV.undef :: (AV.undef :: (AV.undef :: ((AV.one (SV.int (Go.IntKind.i64) x2)) :: (AV.undef :: (AV.undef :: (AV.undef :: (AV.undef :: (AV.undef :: (AV.undef :: (AV.undef :: (AV.undef :: (AV.undef :: (AV.undef :: (AV.undef :: (AV.undef :: (AV.undef :: (AV.undef :: (AV.undef :: (AV.undef :: (AV.undef :: (AV.undef :: (AV.undef :: (AV.undef :: (AV.undef :: (AV.undef :: (AV.undef :: (AV.undef :: (AV.undef :: (AV.undef :: (AV.undef :: (AV.undef :: (AV.undef :: (AV.undef :: (AV.undef :: (AV.undef :: (AV.undef :: (AV.undef :: (AV.undef :: (AV.undef :: (AV.undef :: (AV.undef :: [])))))))))))))))))))))))))))))))))))))))))))))) ((1000000,(Ent.box ((SV.con (⟨37,(Ty.int Go.IntKind.i64).pair ((Ty.int Go.IntKind.i64).pair ((Ty.int Go.IntKind.i64).pair ((Ty.int Go.IntKind.i64).pair ((Ty.int Go.IntKind.i64).pair ((Ty.int Go.IntKind.i64).pair (Ty.bool.pair (Ty.str.pair (Ty.row (nat_lit 100) (Ty.str.pair (Ty.int Go.IntKind.i64)))))))))),x3⟩:Rw)) :: []))) :: []))
noncomputable def st143_top (qr143:Fn143) (n:Nat) (lL4:Int→Int→Int→(List NT)→Option R143) (a:List NT) (b:Int) (c:Int):Option R143 :=
 cond (decide (b=c)) (some ((true,()),())) (lL4 (b) (c) ((0:Int)) (a))
noncomputable def st143_L4 (qr143:Fn143) (n:Nat) (lL4:Int→Int→Int→(List NT)→Option R143) (x0:Int) (x1:Int) (x2:Int) (x3:List NT):Option R143 :=
 cond (decide ((0:Int)≤x0)) (cond (decide (x0 < (↑x3.length:Int))) (cond (decide (x2 < (↑(List.length (x3.getD x0.toNat ZN).2.2.2.2.2.2.2.2):Int))) (cond (decide ((0:Int)≤x0)) (cond (decide (x0 < (↑x3.length:Int))) (cond (decide ((0:Int)≤x2)) (cond (decide (x2 < (↑(List.length (x3.getD x0.toNat ZN).2.2.2.2.2.2.2.2):Int))) (cond (decide ((0:Int)≤(List.getD (x3.getD x0.toNat ZN).2.2.2.2.2.2.2.2 x2.toNat (ByteArray.empty,(0:Int))).2)) (cond (decide ((List.getD (x3.getD x0.toNat ZN).2.2.2.2.2.2.2.2 x2.toNat (ByteArray.empty,(0:Int))).2 < (↑x3.length:Int))) (cond (decide ((x3.getD (Int.toNat (List.getD (x3.getD x0.toNat ZN).2.2.2.2.2.2.2.2 x2.toNat (ByteArray.empty,(0:Int))).2) ZN).1=(2:Int))) ((qr143 n (x3,(List.getD (x3.getD x0.toNat ZN).2.2.2.2.2.2.2.2 x2.toNat (ByteArray.empty,(0:Int))).2,x1,())).bind fun r1=>cond (r1.1.1) (some ((true,()),())) (lL4 (x0) (x1) (Go.IntKind.i64.wrap (x2 + (1:Int))) (x3))) (lL4 (x0) (x1) (Go.IntKind.i64.wrap (x2 + (1:Int))) (x3))) (none)) (none)) (none)) (none)) (none)) (none)) (some ((false,()),()))) (none)) (none)
theorem e143_top (qr143:Fn143) (n:Nat) (a:List NT) (b:Int) (c:Int):runF TT (G143 qr143) an143 Try.f143 c143 ps143 rs143 n (a,b,c,())=(st143_top qr143) n (fun x0 x1 x2 x3=>(at143 qr143) n (.head 4) [n] (sh143_L4 x0 x1 x2 x3)) a b c:=by kernel_rfl
theorem e143_L4_0 (qr143:Fn143) (n:Nat) (x0:Int) (x1:Int) (x2:Int) (x3:List NT):(at143 qr143) n (.head 4) [0] (sh143_L4 x0 x1 x2 x3)=none:=by kernel_rfl
theorem e143_L4 (qr143:Fn143) (n:Nat) (m4:Nat) (x0:Int) (x1:Int) (x2:Int) (x3:List NT):(at143 qr143) n (.head 4) [m4 + 1] (sh143_L4 x0 x1 x2 x3)=(st143_L4 qr143) n (fun x0 x1 x2 x3=>(at143 qr143) n (.head 4) [m4] (sh143_L4 x0 x1 x2 x3)) x0 x1 x2 x3:=by kernel_rfl
noncomputable def p143_L4 (qr143:Fn143) (n:Nat):Nat→Int→Int→Int→(List NT)→Option R143
 | 0,_,_,_,_=>none
 | m + 1,x0,x1,x2,x3=>(st143_L4 qr143) n ((p143_L4 qr143) n m) x0 x1 x2 x3
noncomputable def p143 (qr143:Fn143) (n:Nat) (a:List NT) (b:Int) (c:Int):Option R143:=(st143_top qr143) n ((p143_L4 qr143) n n) a b c
theorem t143_L4 (qr143:Fn143) (n:Nat):∀ (m4:Nat) (x0:Int) (x1:Int) (x2:Int) (x3:List NT),(at143 qr143) n (.head 4) [m4] (sh143_L4 x0 x1 x2 x3)=(p143_L4 qr143) n m4 x0 x1 x2 x3:=by
 intro m
 induction m with
 | zero=>intros; rw [(e143_L4_0 qr143)]; rfl
 | succ m ih =>
  intros
  rw [(e143_L4 qr143)]
  try simp only [ih]
  rfl
theorem F143_eq (qr143:Fn143) (n:Nat) (a:List NT) (b:Int) (c:Int):runF TT (G143 qr143) an143 Try.f143 c143 ps143 rs143 n (a,b,c,())=(p143 qr143) n a b c:=by
 rw [(e143_top qr143)]
 simp only [(t143_L4 qr143)]
 try rfl
noncomputable def q143r (qr143:Fn143) (n:Nat) (x:argsD ps143):Option R143:=(p143 qr143) n x.1 x.2.1 x.2.2.1
theorem holds143 (qr143:Fn143) (hg:GamOK Try.prog (G143 qr143)):Holds Try.prog 143 ⟨ps143,rs143,false,(q143r qr143)⟩:=by
 have:=(h0_143 qr143) hg
 have e:(runF TT (G143 qr143) an143 Try.f143 c143 ps143 rs143)=(q143r qr143):=by
  funext n x
  exact (F143_eq qr143) n x.1 x.2.1 x.2.2.1
 rw [e] at this
 exact this
theorem gam143 (qr143:Fn143) (hq:Holds Try.prog 143 (Smr143 qr143)):GamOK Try.prog (G143 qr143):=by
 intro f s h
 unfold G143 at h
 split at h
 ·injection h with h; subst h; exact ⟨⟨Try.f143,c143,Try.func143,by kernel_rfl,by decide +kernel⟩,hq⟩
 ·cases h
noncomputable def lv143:Nat→Fn143
 | 0=>fun _ _=>none
 | k + 1=>q143r (lv143 k)
theorem hlv143:∀ k,Holds Try.prog 143 (Smr143 (lv143 k))
 | 0=>by intro n w Z vs x Fs y _ _ _ _ he; cases he
 | k + 1=>holds143 (lv143 k) (gam143 (lv143 k) (hlv143 k))
noncomputable def q143:Fn143:=fun n x=>lv143 n n x
noncomputable def Sm143:Sm:=⟨ps143,rs143,false,q143⟩
theorem hh143:Holds Try.prog 143 Sm143:=fun n=>hlv143 n n
end Go.Proofs.Ytbjgiioppmkpiaa.Rx.S

namespace Go.Proofs.Ytbjgiioppmkpiaa.Rx.S
open Go Go.RowKit Go.Proofs
set_option maxRecDepth 100000
noncomputable def c110:Code:=(Try.f110.body.getD .skip)
def an110:An:=⟨fun _=>⟨[],[]⟩,fun _ _=>none⟩
abbrev ps110:List PK:=[.own tFs true,.val tCr true,.val i64 false,.val .str false,.val i64 false,.val .str false]
abbrev rs110:List RK:=[.own tFs true,.val i64 false]
abbrev R110:=retsD rs110 × outsD ps110
noncomputable def G110:Gam:=fun f=>match f with | 126=>some Sm126 | 140=>some Sm140 | 142=>some Sm142 | 128=>some Sm128 | 143=>some Sm143 | _=>none
theorem h0_110 (hg:GamOK Try.prog G110):Holds Try.prog 110 ⟨ps110,rs110,false,runF TT G110 an110 Try.f110 c110 ps110 rs110⟩:=holds_of tt_ok hg mixed Try.func110 (by kernel_rfl) (by rfl) (by decide +kernel)
noncomputable def st110_top (n:Nat) (a:List NT) (b:Int × Int × List Int) (c:Int) (d:ByteArray) (e:Int) (f:ByteArray):Option R110 :=
 cond (decide ((0:Int)≤c)) (cond (decide (c < (↑a.length:Int))) (cond (!decide ((a.getD c.toNat ZN).1=(2:Int))) (some ((a,((4:Int),())),())) (cond (decide ((0:Int)≤e)) (cond (decide (e < (↑a.length:Int))) (cond (!decide ((a.getD e.toNat ZN).1=(2:Int))) (some ((a,((4:Int),())),())) ((q142 n (a,(b.1,b.2.1,b.2.2),c,(3:Int),())).bind fun r0=>cond (!r0.1.1) (some ((a,((5:Int),())),())) ((q142 n (a,(b.1,b.2.1,b.2.2),e,(3:Int),())).bind fun r1=>cond (!r1.1.1) (some ((a,((5:Int),())),())) (cond (decide ((0:Int)≤c)) (cond (decide (c < (↑a.length:Int))) ((q126 n (((a.getD c.toNat ZN).1,(a.getD c.toNat ZN).2.1,(a.getD c.toNat ZN).2.2.1,(a.getD c.toNat ZN).2.2.2.1,(a.getD c.toNat ZN).2.2.2.2.1,(a.getD c.toNat ZN).2.2.2.2.2.1,(a.getD c.toNat ZN).2.2.2.2.2.2.1,(a.getD c.toNat ZN).2.2.2.2.2.2.2.1,(a.getD c.toNat ZN).2.2.2.2.2.2.2.2),d,())).bind fun r2=>cond (decide (r2.1.1 < (0:Int))) (some ((a,((2:Int),())),())) (cond (decide ((0:Int)≤c)) (cond (decide (c < (↑a.length:Int))) (cond (decide ((0:Int)≤r2.1.1)) (cond (decide (r2.1.1 < (↑(List.length (a.getD c.toNat ZN).2.2.2.2.2.2.2.2):Int))) (cond (decide ((0:Int)≤e)) (cond (decide (e < (↑a.length:Int))) ((q126 n (((a.getD e.toNat ZN).1,(a.getD e.toNat ZN).2.1,(a.getD e.toNat ZN).2.2.1,(a.getD e.toNat ZN).2.2.2.1,(a.getD e.toNat ZN).2.2.2.2.1,(a.getD e.toNat ZN).2.2.2.2.2.1,(a.getD e.toNat ZN).2.2.2.2.2.2.1,(a.getD e.toNat ZN).2.2.2.2.2.2.2.1,(a.getD e.toNat ZN).2.2.2.2.2.2.2.2),f,())).bind fun r3=>cond (decide ((0:Int)≤r3.1.1)) (some ((a,((3:Int),())),())) (cond (decide ((0:Int)≤(List.getD (a.getD c.toNat ZN).2.2.2.2.2.2.2.2 (Int.toNat r2.1.1) (ByteArray.empty,(0:Int))).2)) (cond (decide ((List.getD (a.getD c.toNat ZN).2.2.2.2.2.2.2.2 (Int.toNat r2.1.1) (ByteArray.empty,(0:Int))).2 < (↑a.length:Int))) (cond (decide ((a.getD (Int.toNat (List.getD (a.getD c.toNat ZN).2.2.2.2.2.2.2.2 (Int.toNat r2.1.1) (ByteArray.empty,(0:Int))).2) ZN).1=(2:Int))) ((q143 n (a,(List.getD (a.getD c.toNat ZN).2.2.2.2.2.2.2.2 (Int.toNat r2.1.1) (ByteArray.empty,(0:Int))).2,e,())).bind fun r4=>cond (r4.1.1) (some ((a,((6:Int),())),())) (cond (!decide (c=e)) (cond (decide ((0:Int)≤e)) (cond (decide (e < (↑a.length:Int))) (cond (decide ((6:Int)≤(↑(List.length (a.getD e.toNat ZN).2.2.2.2.2.2.2.2):Int))) (some ((a,((7:Int),())),())) ((q128 n (a,c,r2.1.1,())).bind fun r5=>(q140 n (r5.1.1,e,(f,(List.getD (a.getD c.toNat ZN).2.2.2.2.2.2.2.2 (Int.toNat r2.1.1) (ByteArray.empty,(0:Int))).2),())).bind fun r6=>some ((r6.1.1,((0:Int),())),()))) (none)) (none)) ((q128 n (a,c,r2.1.1,())).bind fun r7=>(q140 n (r7.1.1,e,(f,(List.getD (a.getD c.toNat ZN).2.2.2.2.2.2.2.2 (Int.toNat r2.1.1) (ByteArray.empty,(0:Int))).2),())).bind fun r8=>some ((r8.1.1,((0:Int),())),())))) (cond (!decide (c=e)) (cond (decide ((0:Int)≤e)) (cond (decide (e < (↑a.length:Int))) (cond (decide ((6:Int)≤(↑(List.length (a.getD e.toNat ZN).2.2.2.2.2.2.2.2):Int))) (some ((a,((7:Int),())),())) ((q128 n (a,c,r2.1.1,())).bind fun r9=>(q140 n (r9.1.1,e,(f,(List.getD (a.getD c.toNat ZN).2.2.2.2.2.2.2.2 (Int.toNat r2.1.1) (ByteArray.empty,(0:Int))).2),())).bind fun r10=>some ((r10.1.1,((0:Int),())),()))) (none)) (none)) ((q128 n (a,c,r2.1.1,())).bind fun r11=>(q140 n (r11.1.1,e,(f,(List.getD (a.getD c.toNat ZN).2.2.2.2.2.2.2.2 (Int.toNat r2.1.1) (ByteArray.empty,(0:Int))).2),())).bind fun r12=>some ((r12.1.1,((0:Int),())),())))) (none)) (none))) (none)) (none)) (none)) (none)) (none)) (none))) (none)) (none))))) (none)) (none))) (none)) (none)
theorem e110_top (n:Nat) (a:List NT) (b:Int × Int × List Int) (c:Int) (d:ByteArray) (e:Int) (f:ByteArray):runF TT G110 an110 Try.f110 c110 ps110 rs110 n (a,b,c,d,e,f,())=st110_top n a b c d e f:=by kernel_rfl
noncomputable def p110 (n:Nat) (a:List NT) (b:Int × Int × List Int) (c:Int) (d:ByteArray) (e:Int) (f:ByteArray):Option R110:=st110_top n a b c d e f
theorem F110_eq (n:Nat) (a:List NT) (b:Int × Int × List Int) (c:Int) (d:ByteArray) (e:Int) (f:ByteArray):runF TT G110 an110 Try.f110 c110 ps110 rs110 n (a,b,c,d,e,f,())=p110 n a b c d e f:=by
 rw [e110_top]
 skip
 try rfl
noncomputable def q110 (n:Nat) (x:argsD ps110):Option R110:=p110 n x.1 x.2.1 x.2.2.1 x.2.2.2.1 x.2.2.2.2.1 x.2.2.2.2.2.1
noncomputable def Sm110:Sm:=⟨ps110,rs110,false,q110⟩
theorem holds110 (hg:GamOK Try.prog G110):Holds Try.prog 110 Sm110:=by
 have:=h0_110 hg
 have e:(runF TT G110 an110 Try.f110 c110 ps110 rs110)=q110:=by
  funext n x
  exact F110_eq n x.1 x.2.1 x.2.2.1 x.2.2.2.1 x.2.2.2.2.1 x.2.2.2.2.2.1
 rw [e] at this
 exact this
theorem gam110:GamOK Try.prog G110:=by
 intro f s h
 unfold G110 at h
 split at h
 ·injection h with h; subst h; exact ⟨⟨Try.f126,c126,Try.func126,by kernel_rfl,by decide +kernel⟩,hh126⟩
 ·injection h with h; subst h; exact ⟨⟨Try.f140,c140,Try.func140,by kernel_rfl,by decide +kernel⟩,hh140⟩
 ·injection h with h; subst h; exact ⟨⟨Try.f142,c142,Try.func142,by kernel_rfl,by decide +kernel⟩,hh142⟩
 ·injection h with h; subst h; exact ⟨⟨Try.f128,c128,Try.func128,by kernel_rfl,by decide +kernel⟩,hh128⟩
 ·injection h with h; subst h; exact ⟨⟨Try.f143,c143,Try.func143,by kernel_rfl,by decide +kernel⟩,hh143⟩
 ·cases h
theorem hh110:Holds Try.prog 110 Sm110:=holds110 gam110
end Go.Proofs.Ytbjgiioppmkpiaa.Rx.S

namespace Go.Proofs.Ytbjgiioppmkpiaa.Rx.S
open Go Go.RowKit Go.Proofs
set_option maxRecDepth 100000
noncomputable def c113:Code:=(Try.f113.body.getD .skip)
def an113:An:=⟨fun _=>⟨[],[]⟩,fun r i=>match r,i with | 10,0=>some ⟨[0,3,4,5,6,7],[]⟩ | _,_=>none⟩
abbrev ps113:List PK:=[.bx tRd,.own tFs true]
abbrev rs113:List RK:=[.own tFs true]
abbrev R113:=retsD rs113 × outsD ps113
noncomputable def G113:Gam:=fun f=>match f with | 57=>some Sm57 | 102=>some Sm102 | 65=>some Sm65 | 106=>some Sm106 | 67=>some Sm67 | 144=>some Sm144 | 132=>some Sm132 | 145=>some Sm145 | 111=>some Sm111 | 77=>some Sm77 | 110=>some Sm110 | _=>none
theorem ateq113 {β:Type} (t:Nat) (f:St→Option β) (S:St):at_ t f S=f S:=rfl
theorem h0_113 (hg:GamOK Try.prog G113):Holds Try.prog 113 ⟨ps113,rs113,true,runF TT G113 an113 Try.f113 c113 ps113 rs113⟩:=holds_of tt_ok hg mixed Try.func113 (by kernel_rfl) (by rfl) (by decide +kernel)
noncomputable def at113:Nat→Pt→List Nat→St→Option R113:=atF TT G113 an113 Try.f113 c113 _ _
def sh113_C10_0 (x0:Int) (x1:Int) (x2:List Int) (x3:Int) (x4:Int) (x5:Int) (x6:List NT) (x7:List Int):St:=(St.mk ((AV.par 0 false ((SV.bptr 1000000 0) :: [])) :: (AV.undef :: (AV.undef :: ((AV.one (SV.bptr 1000001 0)) :: ((AV.one (SV.bptr 1000002 0)) :: ((AV.one (SV.bptr 1000003 0)) :: ((AV.one (SV.int (Go.IntKind.i64) x0)) :: ((AV.one (SV.int (Go.IntKind.i64) x1)) :: (AV.undef :: (AV.undef :: (AV.undef :: (AV.undef :: (AV.undef :: (AV.undef :: (AV.undef :: (AV.undef :: (AV.undef :: (AV.undef :: (AV.undef :: (AV.undef :: (AV.undef :: (AV.undef :: (AV.undef :: (AV.undef :: (AV.undef :: (AV.undef :: (AV.undef :: (AV.undef :: (AV.undef :: (AV.undef :: (AV.undef :: (AV.undef :: (AV.undef :: (AV.undef :: (AV.undef :: (AV.undef :: (AV.undef :: (AV.undef :: (AV.undef :: (AV.undef :: (AV.undef :: (AV.undef :: (AV.undef :: (AV.undef :: (AV.undef :: (AV.undef :: (AV.undef :: (AV.undef :: (AV.undef :: (AV.undef :: (AV.undef :: (AV.undef :: (AV.undef :: (AV.undef :: (AV.undef :: (AV.undef :: (AV.undef :: (AV.undef :: (AV.undef :: (AV.undef :: (AV.undef :: (AV.undef :: (AV.undef :: (AV.undef :: (AV.undef :: (AV.undef :: (AV.undef :: (AV.undef :: (AV.undef :: (AV.undef :: (AV.undef :: (AV.undef :: (AV.undef :: (AV.undef :: (AV.undef :: (AV.undef :: (AV.undef :: (AV.undef :: (AV.undef :: (AV.undef :: (AV.undef :: (AV.undef :: (AV.undef :: (AV.undef :: (AV.undef :: (AV.undef :: (AV.undef :: (AV.undef :: (AV.undef :: (AV.undef :: (AV.undef :: (AV.undef :: (AV.undef :: (AV.undef :: (AV.undef :: (AV.undef :: (AV.undef :: (AV.undef :: (AV.undef :: (AV.undef :: (AV.undef :: (AV.undef :: (AV.undef :: (AV.undef :: (AV.undef :: (AV.undef :: (AV.undef :: (AV.undef :: (AV.undef :: (AV.undef :: (AV.undef :: (AV.undef :: (AV.undef :: (AV.undef :: (AV.undef :: (AV.undef :: (AV.undef :: (AV.undef :: (AV.undef :: (AV.undef :: (AV.undef :: (AV.undef :: (AV.undef :: (AV.undef :: (AV.undef :: (AV.undef :: (AV.undef :: (AV.undef :: (AV.undef :: (AV.undef :: (AV.undef :: (AV.undef :: (AV.undef :: (AV.undef :: (AV.undef :: (AV.undef :: [])))))))))))))))))))))))))))))))))))))))))))))))))))))))))))))))))))))))))))))))))))))))))))))))))))))))))))))))))))))))))))))))))))))))) ((1000000,(Ent.box ((SV.con (⟨5,Ty.int Go.IntKind.u8,x2⟩:Rw)) :: ((SV.int (Go.IntKind.i64) x3) :: [])))) :: ((1000001,(Ent.box ((SV.ref 1000004 0 [] Option.none) :: []))) :: ((1000002,(Ent.box (SV.nil :: []))) :: ((1000003,(Ent.box ((SV.int (Go.IntKind.i64) x4) :: ((SV.int (Go.IntKind.i64) x5) :: ((SV.ref 1000005 0 [] Option.none) :: []))))) :: ((1000004,(Ent.row (⟨37,(Ty.int Go.IntKind.i64).pair ((Ty.int Go.IntKind.i64).pair ((Ty.int Go.IntKind.i64).pair ((Ty.int Go.IntKind.i64).pair ((Ty.int Go.IntKind.i64).pair ((Ty.int Go.IntKind.i64).pair (Ty.bool.pair (Ty.str.pair (Ty.row (nat_lit 100) (Ty.str.pair (Ty.int Go.IntKind.i64)))))))))),x6⟩:Rw) 0 Option.none)) :: ((1000005,(Ent.row (⟨3,Ty.int Go.IntKind.i64,x7⟩:Rw) 0 Option.none)) :: [])))))))
noncomputable def st113_top (n:Nat) (lC10_0:Int→Int→(List Int)→Int→Int→Int→(List NT)→(List Int)→Option R113) (a:List Int × Int) (b:List NT):Option R113 :=
 (q57 n ((a.1,a.2),())).bind fun r0=>(q102 n ((r0.2.1.1,r0.2.1.2),(2:Int),())).bind fun r1=>cond (decide (r1.1.1=(0:Int))) ((q102 n ((r1.2.1.1,r1.2.1.2),(6:Int),())).bind fun r2=>(q102 n ((r2.2.1.1,r2.2.1.2),(6:Int),())).bind fun r3=>(q65 n (b,r2.1.1,())).bind fun r4=>cond (!r4.1.1) ((q65 n (b,r3.1.1,())).bind fun r5=>cond (!r5.1.1) (lC10_0 ((0:Int)) ((0:Int)) (r3.2.1.1) (r3.2.1.2) ((0:Int)) (r0.1.1.2.1) (b) (r0.1.1.2.2)) (lC10_0 ((0:Int)) (r3.1.1) (r3.2.1.1) (r3.2.1.2) ((0:Int)) (r0.1.1.2.1) (b) (r0.1.1.2.2))) ((q65 n (b,r3.1.1,())).bind fun r29=>cond (!r29.1.1) (lC10_0 (r2.1.1) ((0:Int)) (r3.2.1.1) (r3.2.1.2) ((0:Int)) (r0.1.1.2.1) (b) (r0.1.1.2.2)) (lC10_0 (r2.1.1) (r3.1.1) (r3.2.1.1) (r3.2.1.2) ((0:Int)) (r0.1.1.2.1) (b) (r0.1.1.2.2)))) ((q102 n ((r1.2.1.1,r1.2.1.2),(6:Int),())).bind fun r30=>(q102 n ((r30.2.1.1,r30.2.1.2),(6:Int),())).bind fun r31=>(q65 n (b,r30.1.1,())).bind fun r32=>cond (!r32.1.1) ((q65 n (b,r31.1.1,())).bind fun r33=>cond (!r33.1.1) (lC10_0 ((0:Int)) ((0:Int)) (r31.2.1.1) (r31.2.1.2) (r0.1.1.1) (r0.1.1.2.1) (b) (r0.1.1.2.2)) (lC10_0 ((0:Int)) (r31.1.1) (r31.2.1.1) (r31.2.1.2) (r0.1.1.1) (r0.1.1.2.1) (b) (r0.1.1.2.2))) ((q65 n (b,r31.1.1,())).bind fun r34=>cond (!r34.1.1) (lC10_0 (r30.1.1) ((0:Int)) (r31.2.1.1) (r31.2.1.2) (r0.1.1.1) (r0.1.1.2.1) (b) (r0.1.1.2.2)) (lC10_0 (r30.1.1) (r31.1.1) (r31.2.1.1) (r31.2.1.2) (r0.1.1.1) (r0.1.1.2.1) (b) (r0.1.1.2.2))))
noncomputable def st113_C10_0 (n:Nat) (x0:Int) (x1:Int) (x2:List Int) (x3:Int) (x4:Int) (x5:Int) (x6:List NT) (x7:List Int):Option R113 :=
 (q102 n ((x2,x3),(4:Int),())).bind fun r7=>cond (decide ((0:Int)≤r7.1.1)) (cond (decide (r7.1.1 < (↑[ByteArray.mk #[(97:UInt8)],ByteArray.mk #[(98:UInt8)],ByteArray.mk #[(99:UInt8)],ByteArray.mk #[(97:UInt8),(98:UInt8)]].length:Int))) ((q102 n ((r7.2.1.1,r7.2.1.2),(4:Int),())).bind fun r8=>cond (decide ((0:Int)≤r8.1.1)) (cond (decide (r8.1.1 < (↑[ByteArray.mk #[(97:UInt8)],ByteArray.mk #[(98:UInt8)],ByteArray.mk #[(99:UInt8)],ByteArray.mk #[(97:UInt8),(98:UInt8)]].length:Int))) ((q67 n (x6,())).bind fun r9=>(q102 n ((r8.2.1.1,r8.2.1.2),(10:Int),())).bind fun r10=>cond (decide (r10.1.1=(0:Int))) ((q102 n ((r10.2.1.1,r10.2.1.2),(2:Int),())).bind fun r11=>(q102 n ((r11.2.1.1,r11.2.1.2),(3:Int),())).bind fun r12=>cond (decide ((0:Int)≤r12.1.1)) (cond (decide (r12.1.1 < (↑[(493:Int),(511:Int),(448:Int)].length:Int))) ((q106 n (r9.1.1,(x4,x5,x7),x0,[ByteArray.mk #[(97:UInt8)],ByteArray.mk #[(98:UInt8)],ByteArray.mk #[(99:UInt8)],ByteArray.mk #[(97:UInt8),(98:UInt8)]].getD (Int.toNat r7.1.1) ByteArray.empty,Go.IntKind.i64.wrap ((1:Int) + r11.1.1),[(493:Int),(511:Int),(448:Int)].getD (Int.toNat r12.1.1) (0:Int),())).bind fun r13=>some ((r13.1.1,()),((r12.2.1.1,r12.2.1.2),()))) (none)) (none)) (cond (decide (r10.1.1=(1:Int))) ((q102 n ((r10.2.1.1,r10.2.1.2),(2:Int),())).bind fun r14=>(q102 n ((r14.2.1.1,r14.2.1.2),(3:Int),())).bind fun r15=>cond (decide ((0:Int)≤r15.1.1)) (cond (decide (r15.1.1 < (↑[(493:Int),(511:Int),(448:Int)].length:Int))) ((q106 n (r9.1.1,(x4,x5,x7),x0,[ByteArray.mk #[(97:UInt8)],ByteArray.mk #[(98:UInt8)],ByteArray.mk #[(99:UInt8)],ByteArray.mk #[(97:UInt8),(98:UInt8)]].getD (Int.toNat r7.1.1) ByteArray.empty,Go.IntKind.i64.wrap ((1:Int) + r14.1.1),[(493:Int),(511:Int),(448:Int)].getD (Int.toNat r15.1.1) (0:Int),())).bind fun r16=>some ((r16.1.1,()),((r15.2.1.1,r15.2.1.2),()))) (none)) (none)) (cond (decide (r10.1.1=(2:Int))) ((q102 n ((r10.2.1.1,r10.2.1.2),(2:Int),())).bind fun r17=>(q102 n ((r17.2.1.1,r17.2.1.2),(3:Int),())).bind fun r18=>cond (decide ((0:Int)≤r18.1.1)) (cond (decide (r18.1.1 < (↑[(493:Int),(511:Int),(448:Int)].length:Int))) ((q106 n (r9.1.1,(x4,x5,x7),x0,[ByteArray.mk #[(97:UInt8)],ByteArray.mk #[(98:UInt8)],ByteArray.mk #[(99:UInt8)],ByteArray.mk #[(97:UInt8),(98:UInt8)]].getD (Int.toNat r7.1.1) ByteArray.empty,Go.IntKind.i64.wrap ((1:Int) + r17.1.1),[(493:Int),(511:Int),(448:Int)].getD (Int.toNat r18.1.1) (0:Int),())).bind fun r19=>some ((r19.1.1,()),((r18.2.1.1,r18.2.1.2),()))) (none)) (none)) (cond (decide (r10.1.1=(3:Int))) ((q111 n (r9.1.1,(x4,x5,x7),x1,x0,[ByteArray.mk #[(97:UInt8)],ByteArray.mk #[(98:UInt8)],ByteArray.mk #[(99:UInt8)],ByteArray.mk #[(97:UInt8),(98:UInt8)]].getD (Int.toNat r7.1.1) ByteArray.empty,())).bind fun r20=>some ((r20.1.1,()),((r10.2.1.1,r10.2.1.2),()))) (cond (decide (r10.1.1=(4:Int))) ((q77 n (r9.1.1,(x4,x5,x7),x0,[ByteArray.mk #[(97:UInt8)],ByteArray.mk #[(98:UInt8)],ByteArray.mk #[(99:UInt8)],ByteArray.mk #[(97:UInt8),(98:UInt8)]].getD (Int.toNat r7.1.1) ByteArray.empty,())).bind fun r21=>some ((r21.1.1,()),((r10.2.1.1,r10.2.1.2),()))) (cond (decide (r10.1.1=(5:Int))) ((q110 n (r9.1.1,(x4,x5,x7),x0,[ByteArray.mk #[(97:UInt8)],ByteArray.mk #[(98:UInt8)],ByteArray.mk #[(99:UInt8)],ByteArray.mk #[(97:UInt8),(98:UInt8)]].getD (Int.toNat r7.1.1) ByteArray.empty,x1,[ByteArray.mk #[(97:UInt8)],ByteArray.mk #[(98:UInt8)],ByteArray.mk #[(99:UInt8)],ByteArray.mk #[(97:UInt8),(98:UInt8)]].getD (Int.toNat r8.1.1) ByteArray.empty,())).bind fun r22=>some ((r22.1.1,()),((r10.2.1.1,r10.2.1.2),()))) (cond (decide (r10.1.1=(6:Int))) ((q102 n ((r10.2.1.1,r10.2.1.2),(3:Int),())).bind fun r23=>(q132 n (r9.1.1,x0,decide ((0:Int) < r23.1.1),())).bind fun r24=>some ((r24.1.1,()),((r23.2.1.1,r23.2.1.2),()))) (cond (decide (r10.1.1=(7:Int))) (cond (decide ((0:Int)≤x0)) (cond (decide (x0 < (↑(List.length r9.1.1):Int))) (cond (decide ((List.getD r9.1.1 x0.toNat ZN).1=(1:Int))) ((q102 n ((r10.2.1.1,r10.2.1.2),(2:Int),())).bind fun r25=>cond (decide ((0:Int)≤x0)) (cond (decide (x0 < (↑(List.length r9.1.1):Int))) (some ((List.set r9.1.1 x0.toNat ((List.getD r9.1.1 x0.toNat ZN).1,(List.getD r9.1.1 x0.toNat ZN).2.1,(List.getD r9.1.1 x0.toNat ZN).2.2.1,(List.getD r9.1.1 x0.toNat ZN).2.2.2.1,(List.getD r9.1.1 x0.toNat ZN).2.2.2.2.1,(List.getD r9.1.1 x0.toNat ZN).2.2.2.2.2.1,decide (r25.1.1=(0:Int)),(List.getD r9.1.1 x0.toNat ZN).2.2.2.2.2.2.2),()),((r25.2.1.1,r25.2.1.2),()))) (none)) (none)) (some ((r9.1.1,()),((r10.2.1.1,r10.2.1.2),())))) (none)) (none)) ((q102 n ((r10.2.1.1,r10.2.1.2),(20:Int),())).bind fun r26=>(q145 n ((r26.2.1.1,r26.2.1.2),(9:Int),())).bind fun r27=>(q144 n (r9.1.1,x0,r26.1.1,r27.1.1,())).bind fun r28=>some ((r28.1.1,()),((r27.2.1.1,r27.2.1.2),()))))))))))) (none)) (none)) (none)) (none)
theorem e113_top (n:Nat) (a:List Int × Int) (b:List NT):runF TT G113 an113 Try.f113 c113 ps113 rs113 n (a,b,())=st113_top n (fun x0 x1 x2 x3 x4 x5 x6 x7=>at_ 10000 (at113 n (.op 10 0) []) (sh113_C10_0 x0 x1 x2 x3 x4 x5 x6 x7)) a b:=by kernel_rfl
theorem e113_C10_0 (n:Nat) (x0:Int) (x1:Int) (x2:List Int) (x3:Int) (x4:Int) (x5:Int) (x6:List NT) (x7:List Int):at113 n (.op 10 0) [] (sh113_C10_0 x0 x1 x2 x3 x4 x5 x6 x7)=st113_C10_0 n x0 x1 x2 x3 x4 x5 x6 x7:=by kernel_rfl
noncomputable def p113_C10_0 (n:Nat) (x0:Int) (x1:Int) (x2:List Int) (x3:Int) (x4:Int) (x5:Int) (x6:List NT) (x7:List Int):Option R113:=st113_C10_0 n x0 x1 x2 x3 x4 x5 x6 x7
noncomputable def p113 (n:Nat) (a:List Int × Int) (b:List NT):Option R113:=st113_top n (p113_C10_0 n) a b
theorem t113_C10_0 (n:Nat) (x0:Int) (x1:Int) (x2:List Int) (x3:Int) (x4:Int) (x5:Int) (x6:List NT) (x7:List Int):at113 n (.op 10 0) [] (sh113_C10_0 x0 x1 x2 x3 x4 x5 x6 x7)=p113_C10_0 n x0 x1 x2 x3 x4 x5 x6 x7:=by
 rw [e113_C10_0]
 skip
 try rfl
theorem F113_eq (n:Nat) (a:List Int × Int) (b:List NT):runF TT G113 an113 Try.f113 c113 ps113 rs113 n (a,b,())=p113 n a b:=by
 rw [e113_top]
 simp only [ateq113,t113_C10_0]
 try rfl
noncomputable def q113 (n:Nat) (x:argsD ps113):Option R113:=p113 n x.1 x.2.1
noncomputable def Sm113:Sm:=⟨ps113,rs113,true,q113⟩
theorem holds113 (hg:GamOK Try.prog G113):Holds Try.prog 113 Sm113:=by
 have:=h0_113 hg
 have e:(runF TT G113 an113 Try.f113 c113 ps113 rs113)=q113:=by
  funext n x
  exact F113_eq n x.1 x.2.1
 rw [e] at this
 exact this
theorem gam113:GamOK Try.prog G113:=by
 intro f s h
 unfold G113 at h
 split at h
 ·injection h with h; subst h; exact ⟨⟨Try.f57,c57,Try.func57,by kernel_rfl,by decide +kernel⟩,hh57⟩
 ·injection h with h; subst h; exact ⟨⟨Try.f102,c102,Try.func102,by kernel_rfl,by decide +kernel⟩,hh102⟩
 ·injection h with h; subst h; exact ⟨⟨Try.f65,c65,Try.func65,by kernel_rfl,by decide +kernel⟩,hh65⟩
 ·injection h with h; subst h; exact ⟨⟨Try.f106,c106,Try.func106,by kernel_rfl,by decide +kernel⟩,hh106⟩
 ·injection h with h; subst h; exact ⟨⟨Try.f67,c67,Try.func67,by kernel_rfl,by decide +kernel⟩,hh67⟩
 ·injection h with h; subst h; exact ⟨⟨Try.f144,c144,Try.func144,by kernel_rfl,by decide +kernel⟩,hh144⟩
 ·injection h with h; subst h; exact ⟨⟨Try.f132,c132,Try.func132,by kernel_rfl,by decide +kernel⟩,hh132⟩
 ·injection h with h; subst h; exact ⟨⟨Try.f145,c145,Try.func145,by kernel_rfl,by decide +kernel⟩,hh145⟩
 ·injection h with h; subst h; exact ⟨⟨Try.f111,c111,Try.func111,by kernel_rfl,by decide +kernel⟩,hh111⟩
 ·injection h with h; subst h; exact ⟨⟨Try.f77,c77,Try.func77,by kernel_rfl,by decide +kernel⟩,hh77⟩
 ·injection h with h; subst h; exact ⟨⟨Try.f110,c110,Try.func110,by kernel_rfl,by decide +kernel⟩,hh110⟩
 ·cases h
theorem hh113:Holds Try.prog 113 Sm113:=holds113 gam113
end Go.Proofs.Ytbjgiioppmkpiaa.Rx.S

namespace Go.Proofs.Ytbjgiioppmkpiaa.Rx.S
open Go Go.RowKit Go.Proofs
set_option maxRecDepth 100000
noncomputable def c56:Code:=(Try.f56.body.getD .skip)
def an56:An:=⟨fun r=>match r with | 3=>⟨[0,2,3,5],[]⟩ | _=>⟨[],[]⟩,fun _ _=>none⟩
abbrev ps56:List PK:=[.bx tRd]
abbrev rs56:List RK:=[.ro 37 (tIn 100) true]
abbrev R56:=retsD rs56 × outsD ps56
noncomputable def G56:Gam:=fun f=>match f with | 71=>some Sm71 | 102=>some Sm102 | 112=>some Sm112 | 113=>some Sm113 | _=>none
theorem h0_56 (hg:GamOK Try.prog G56):Holds Try.prog 56 ⟨ps56,rs56,true,runF TT G56 an56 Try.f56 c56 ps56 rs56⟩:=holds_of tt_ok hg mixed Try.func56 (by kernel_rfl) (by rfl) (by decide +kernel)
noncomputable def at56:Nat→Pt→List Nat→St→Option R56:=atF TT G56 an56 Try.f56 c56 _ _
def sh56_L3 (x0:Int) (x1:List Int) (x2:Int) (x3:List NT):St:=(St.mk ((AV.par 0 false ((SV.bptr 1000000 0) :: [])) :: (AV.undef :: ((AV.one (SV.bptr 1000001 0)) :: ((AV.one (SV.bptr 1000002 0)) :: (AV.undef :: ((AV.one (SV.int (Go.IntKind.i64) x0)) :: (AV.undef :: (AV.undef :: (AV.undef :: (AV.undef :: (AV.undef :: (AV.undef :: (AV.undef :: (AV.undef :: (AV.undef :: (AV.undef :: (AV.undef :: (AV.undef :: (AV.undef :: (AV.undef :: (AV.undef :: (AV.undef :: (AV.undef :: (AV.undef :: (AV.undef :: (AV.undef :: (AV.undef :: (AV.undef :: (AV.undef :: (AV.undef :: (AV.undef :: (AV.undef :: (AV.undef :: (AV.undef :: (AV.undef :: (AV.undef :: (AV.undef :: (AV.undef :: (AV.undef :: (AV.undef :: (AV.undef :: (AV.undef :: (AV.undef :: (AV.undef :: (AV.undef :: (AV.undef :: (AV.undef :: (AV.undef :: (AV.undef :: (AV.undef :: (AV.undef :: (AV.undef :: (AV.undef :: (AV.undef :: (AV.undef :: (AV.undef :: (AV.undef :: (AV.undef :: (AV.undef :: (AV.undef :: (AV.undef :: (AV.undef :: (AV.undef :: (AV.undef :: (AV.undef :: (AV.undef :: (AV.undef :: (AV.undef :: (AV.undef :: (AV.undef :: (AV.undef :: (AV.undef :: (AV.undef :: (AV.undef :: (AV.undef :: (AV.undef :: (AV.undef :: (AV.undef :: (AV.undef :: (AV.undef :: (AV.undef :: (AV.undef :: (AV.undef :: (AV.undef :: (AV.undef :: (AV.undef :: (AV.undef :: (AV.undef :: (AV.undef :: (AV.undef :: [])))))))))))))))))))))))))))))))))))))))))))))))))))))))))))))))))))))))))))))))))))))))))) ((1000000,(Ent.box ((SV.con (⟨5,Ty.int Go.IntKind.u8,x1⟩:Rw)) :: ((SV.int (Go.IntKind.i64) x2) :: [])))) :: ((1000001,(Ent.box (SV.nil :: []))) :: ((1000002,(Ent.box ((SV.ref 1000003 0 [] Option.none) :: []))) :: ((1000003,(Ent.row (⟨37,(Ty.int Go.IntKind.i64).pair ((Ty.int Go.IntKind.i64).pair ((Ty.int Go.IntKind.i64).pair ((Ty.int Go.IntKind.i64).pair ((Ty.int Go.IntKind.i64).pair ((Ty.int Go.IntKind.i64).pair (Ty.bool.pair (Ty.str.pair (Ty.row (nat_lit 100) (Ty.str.pair (Ty.int Go.IntKind.i64)))))))))),x3⟩:Rw) 0 Option.none)) :: [])))))
noncomputable def st56_top (n:Nat) (lL3:Int→(List Int)→Int→(List NT)→Option R56) (a:List Int × Int):Option R56 :=
 (q102 n ((a.1,a.2),(3:Int),())).bind fun r0=>(q102 n ((r0.2.1.1,r0.2.1.2),(3:Int),())).bind fun r1=>cond (decide ((0:Int)≤r1.1.1)) (cond (decide (r1.1.1 < (↑[(493:Int),(511:Int),(448:Int)].length:Int))) ((q112 n (r0.1.1,[(493:Int),(511:Int),(448:Int)].getD (Int.toNat r1.1.1) (0:Int),())).bind fun r2=>(q102 n ((r1.2.1.1,r1.2.1.2),(16:Int),())).bind fun r3=>lL3 (r3.1.1) (r3.2.1.1) (r3.2.1.2) (r2.1.1)) (none)) (none)
noncomputable def st56_L3 (n:Nat) (lL3:Int→(List Int)→Int→(List NT)→Option R56) (x0:Int) (x1:List Int) (x2:Int) (x3:List NT):Option R56 :=
 cond (decide ((0:Int) < x0)) ((q113 n ((x1,x2),x3,())).bind fun r5=>lL3 (Go.IntKind.i64.wrap (x0 - (1:Int))) (r5.2.1.1) (r5.2.1.2) (r5.1.1)) ((q102 n ((x1,x2),(24:Int),())).bind fun r6=>cond (decide (r6.1.1=(0:Int))) ((q102 n ((r6.2.1.1,r6.2.1.2),(5:Int),())).bind fun r7=>(q102 n ((r7.2.1.1,r7.2.1.2),(3:Int),())).bind fun r8=>cond (decide ((0:Int)≤r7.1.1)) (cond (decide (r7.1.1 < (↑x3.length:Int))) (some ((x3.set (Int.toNat r7.1.1) ((x3.getD (Int.toNat r7.1.1) ZN).1,(x3.getD (Int.toNat r7.1.1) ZN).2.1,(x3.getD (Int.toNat r7.1.1) ZN).2.2.1,(x3.getD (Int.toNat r7.1.1) ZN).2.2.2.1,r8.1.1,(x3.getD (Int.toNat r7.1.1) ZN).2.2.2.2.2),()),((r8.2.1.1,r8.2.1.2),()))) (none)) (none)) (cond (decide (r6.1.1=(1:Int))) ((q102 n ((r6.2.1.1,r6.2.1.2),(5:Int),())).bind fun r9=>(q102 n ((r9.2.1.1,r9.2.1.2),(5:Int),())).bind fun r10=>cond (decide ((0:Int)≤r10.1.1)) (cond (decide (r10.1.1 < (↑x3.length:Int))) ((q71 n ((r10.2.1.1,r10.2.1.2),())).bind fun r11=>(q102 n ((r11.2.1.1,r11.2.1.2),(11:Int),())).bind fun r12=>cond (decide ((List.length (x3.getD (Int.toNat r10.1.1) ZN).2.2.2.2.2.2.2.2 + [(r11.1.1,r12.1.1)].length) * (24:Nat)≤(140737488355328:Nat))) (cond (decide ((0:Int)≤r9.1.1)) (cond (decide (r9.1.1 < (↑x3.length:Int))) (some ((x3.set (Int.toNat r9.1.1) ((x3.getD (Int.toNat r9.1.1) ZN).1,(x3.getD (Int.toNat r9.1.1) ZN).2.1,(x3.getD (Int.toNat r9.1.1) ZN).2.2.1,(x3.getD (Int.toNat r9.1.1) ZN).2.2.2.1,(x3.getD (Int.toNat r9.1.1) ZN).2.2.2.2.1,(x3.getD (Int.toNat r9.1.1) ZN).2.2.2.2.2.1,(x3.getD (Int.toNat r9.1.1) ZN).2.2.2.2.2.2.1,(x3.getD (Int.toNat r9.1.1) ZN).2.2.2.2.2.2.2.1,(x3.getD (Int.toNat r10.1.1) ZN).2.2.2.2.2.2.2.2 ++ [(r11.1.1,r12.1.1)]),()),((r12.2.1.1,r12.2.1.2),()))) (none)) (none)) (none)) (none)) (none)) (cond (decide (r6.1.1=(2:Int))) ((q102 n ((r6.2.1.1,r6.2.1.2),(5:Int),())).bind fun r13=>(q102 n ((r13.2.1.1,r13.2.1.2),(4:Int),())).bind fun r14=>cond (decide ((0:Int)≤r13.1.1)) (cond (decide (r13.1.1 < (↑x3.length:Int))) (some ((x3.set (Int.toNat r13.1.1) (r14.1.1,(x3.getD (Int.toNat r13.1.1) ZN).2),()),((r14.2.1.1,r14.2.1.2),()))) (none)) (none)) (cond (decide (r6.1.1=(3:Int))) (cond (decide ((1:Int)≤(↑x3.length:Int))) (some ((List.take ((↑x3.length:Int) - (1:Int)).toNat (List.drop ((0:Nat) + Int.toNat (1:Int)) x3),()),((r6.2.1.1,r6.2.1.2),()))) (none)) (cond (decide (r6.1.1=(4:Int))) ((q102 n ((r6.2.1.1,r6.2.1.2),(5:Int),())).bind fun r15=>(q102 n ((r15.2.1.1,r15.2.1.2),(4:Int),())).bind fun r16=>cond (decide ((0:Int)≤r16.1.1)) (cond (decide (r16.1.1 < (↑[(99:Int),(100:Int),(-1:Int),(0:Int)].length:Int))) (cond (decide ((0:Int)≤r15.1.1)) (cond (decide (r15.1.1 < (↑x3.length:Int))) (some ((x3.set (Int.toNat r15.1.1) ((x3.getD (Int.toNat r15.1.1) ZN).1,(x3.getD (Int.toNat r15.1.1) ZN).2.1,(x3.getD (Int.toNat r15.1.1) ZN).2.2.1,(x3.getD (Int.toNat r15.1.1) ZN).2.2.2.1,(x3.getD (Int.toNat r15.1.1) ZN).2.2.2.2.1,[(99:Int),(100:Int),(-1:Int),(0:Int)].getD (Int.toNat r16.1.1) (0:Int),(x3.getD (Int.toNat r15.1.1) ZN).2.2.2.2.2.2),()),((r16.2.1.1,r16.2.1.2),()))) (none)) (none)) (none)) (none)) (some ((x3,()),((r6.2.1.1,r6.2.1.2),()))))))))
theorem e56_top (n:Nat) (a:List Int × Int):runF TT G56 an56 Try.f56 c56 ps56 rs56 n (a,())=st56_top n (fun x0 x1 x2 x3=>at56 n (.head 3) [n] (sh56_L3 x0 x1 x2 x3)) a:=by kernel_rfl
theorem e56_L3_0 (n:Nat) (x0:Int) (x1:List Int) (x2:Int) (x3:List NT):at56 n (.head 3) [0] (sh56_L3 x0 x1 x2 x3)=none:=by kernel_rfl
theorem e56_L3 (n:Nat) (m3:Nat) (x0:Int) (x1:List Int) (x2:Int) (x3:List NT):at56 n (.head 3) [m3 + 1] (sh56_L3 x0 x1 x2 x3)=st56_L3 n (fun x0 x1 x2 x3=>at56 n (.head 3) [m3] (sh56_L3 x0 x1 x2 x3)) x0 x1 x2 x3:=by kernel_rfl
noncomputable def p56_L3 (n:Nat):Nat→Int→(List Int)→Int→(List NT)→Option R56
 | 0,_,_,_,_=>none
 | m + 1,x0,x1,x2,x3=>st56_L3 n (p56_L3 n m) x0 x1 x2 x3
noncomputable def p56 (n:Nat) (a:List Int × Int):Option R56:=st56_top n (p56_L3 n n) a
theorem t56_L3 (n:Nat):∀ (m3:Nat) (x0:Int) (x1:List Int) (x2:Int) (x3:List NT),at56 n (.head 3) [m3] (sh56_L3 x0 x1 x2 x3)=p56_L3 n m3 x0 x1 x2 x3:=by
 intro m
 induction m with
 | zero=>intros; rw [e56_L3_0]; rfl
 | succ m ih =>
  intros
  rw [e56_L3]
  try simp only [ih]
  rfl
theorem F56_eq (n:Nat) (a:List Int × Int):runF TT G56 an56 Try.f56 c56 ps56 rs56 n (a,())=p56 n a:=by
 rw [e56_top]
 simp only [t56_L3]
 try rfl
noncomputable def q56 (n:Nat) (x:argsD ps56):Option R56:=p56 n x.1
noncomputable def Sm56:Sm:=⟨ps56,rs56,true,q56⟩
theorem holds56 (hg:GamOK Try.prog G56):Holds Try.prog 56 Sm56:=by
 have:=h0_56 hg
 have e:(runF TT G56 an56 Try.f56 c56 ps56 rs56)=q56:=by
  funext n x
  exact F56_eq n x.1
 rw [e] at this
 exact this
theorem gam56:GamOK Try.prog G56:=by
 intro f s h
 unfold G56 at h
 split at h
 ·injection h with h; subst h; exact ⟨⟨Try.f71,c71,Try.func71,by kernel_rfl,by decide +kernel⟩,hh71⟩
 ·injection h with h; subst h; exact ⟨⟨Try.f102,c102,Try.func102,by kernel_rfl,by decide +kernel⟩,hh102⟩
 ·injection h with h; subst h; exact ⟨⟨Try.f112,c112,Try.func112,by kernel_rfl,by decide +kernel⟩,hh112⟩
 ·injection h with h; subst h; exact ⟨⟨Try.f113,c113,Try.func113,by kernel_rfl,by decide +kernel⟩,hh113⟩
 ·cases h
theorem hh56:Holds Try.prog 56 Sm56:=holds56 gam56
end Go.Proofs.Ytbjgiioppmkpiaa.Rx.S

namespace Go.Proofs.Ytbjgiioppmkpiaa.Rx.S
open Go Go.RowKit Go.Proofs
set_option maxRecDepth 100000
noncomputable def c58:Code:=(Try.f58.body.getD .skip)
def an58:An:=⟨fun _=>⟨[],[]⟩,fun _ _=>none⟩
abbrev ps58:List PK:=[.bx tRd]
abbrev rs58:List RK:=[.val i64 false]
abbrev R58:=retsD rs58 × outsD ps58
noncomputable def G58:Gam:=fun f=>match f with | 102=>some Sm102 | _=>none
theorem h0_58 (hg:GamOK Try.prog G58):Holds Try.prog 58 ⟨ps58,rs58,true,runF TT G58 an58 Try.f58 c58 ps58 rs58⟩:=holds_of tt_ok hg mixed Try.func58 (by kernel_rfl) (by rfl) (by decide +kernel)
noncomputable def st58_top (n:Nat) (a:List Int × Int):Option R58 :=
 (q102 n ((a.1,a.2),(16:Int),())).bind fun r0=>cond (decide (r0.1.1=(0:Int))) ((q102 n ((r0.2.1.1,r0.2.1.2),(3:Int),())).bind fun r1=>cond (decide ((0:Int)≤r1.1.1)) (cond (decide (r1.1.1 < (↑[(-1:Int),(10:Int),(9:Int)].length:Int))) (some (([(-1:Int),(10:Int),(9:Int)].getD (Int.toNat r1.1.1) (0:Int),()),((r1.2.1.1,r1.2.1.2),()))) (none)) (none)) ((q102 n ((r0.2.1.1,r0.2.1.2),(5:Int),())).bind fun r2=>some ((r2.1.1,()),((r2.2.1.1,r2.2.1.2),())))
theorem e58_top (n:Nat) (a:List Int × Int):runF TT G58 an58 Try.f58 c58 ps58 rs58 n (a,())=st58_top n a:=by kernel_rfl
noncomputable def p58 (n:Nat) (a:List Int × Int):Option R58:=st58_top n a
theorem F58_eq (n:Nat) (a:List Int × Int):runF TT G58 an58 Try.f58 c58 ps58 rs58 n (a,())=p58 n a:=by
 rw [e58_top]
 skip
 try rfl
noncomputable def q58 (n:Nat) (x:argsD ps58):Option R58:=p58 n x.1
noncomputable def Sm58:Sm:=⟨ps58,rs58,true,q58⟩
theorem holds58 (hg:GamOK Try.prog G58):Holds Try.prog 58 Sm58:=by
 have:=h0_58 hg
 have e:(runF TT G58 an58 Try.f58 c58 ps58 rs58)=q58:=by
  funext n x
  exact F58_eq n x.1
 rw [e] at this
 exact this
theorem gam58:GamOK Try.prog G58:=by
 intro f s h
 unfold G58 at h
 split at h
 ·injection h with h; subst h; exact ⟨⟨Try.f102,c102,Try.func102,by kernel_rfl,by decide +kernel⟩,hh102⟩
 ·cases h
theorem hh58:Holds Try.prog 58 Sm58:=holds58 gam58
end Go.Proofs.Ytbjgiioppmkpiaa.Rx.S

namespace Go.Proofs.Ytbjgiioppmkpiaa.Rx.S
open Go Go.RowKit Go.Proofs
set_option maxRecDepth 100000
noncomputable def c59:Code:=(Try.f59.body.getD .skip)
def an59:An:=⟨fun _=>⟨[],[]⟩,fun _ _=>none⟩
abbrev ps59:List PK:=[.bx tRd]
abbrev rs59:List RK:=[.val i64 false]
abbrev R59:=retsD rs59 × outsD ps59
noncomputable def G59:Gam:=fun f=>match f with | 102=>some Sm102 | _=>none
theorem h0_59 (hg:GamOK Try.prog G59):Holds Try.prog 59 ⟨ps59,rs59,true,runF TT G59 an59 Try.f59 c59 ps59 rs59⟩:=holds_of tt_ok hg mixed Try.func59 (by kernel_rfl) (by rfl) (by decide +kernel)
noncomputable def st59_top (n:Nat) (a:List Int × Int):Option R59 :=
 (q102 n ((a.1,a.2),(20:Int),())).bind fun r0=>cond (decide (r0.1.1=(0:Int))) ((q102 n ((r0.2.1.1,r0.2.1.2),(3:Int),())).bind fun r1=>cond (decide ((0:Int)≤r1.1.1)) (cond (decide (r1.1.1 < (↑[(-1:Int),(512:Int),(511:Int)].length:Int))) (some (([(-1:Int),(512:Int),(511:Int)].getD (Int.toNat r1.1.1) (0:Int),()),((r1.2.1.1,r1.2.1.2),()))) (none)) (none)) ((q102 n ((r0.2.1.1,r0.2.1.2),(8:Int),())).bind fun r2=>(q102 n ((r2.2.1.1,r2.2.1.2),(64:Int),())).bind fun r3=>(q102 n ((r3.2.1.1,r3.2.1.2),(8:Int),())).bind fun r4=>(q102 n ((r4.2.1.1,r4.2.1.2),(7:Int),())).bind fun r5=>cond (decide ((0:Int)≤r5.1.1)) (cond (decide (r5.1.1 < (↑[(493:Int),(420:Int),(448:Int),(511:Int),(0:Int),Go.IntKind.i64.wrap (Go.IntKind.i64.wrap (r2.1.1 * (64:Int)) + r3.1.1),Go.IntKind.i64.wrap (r4.1.1 * (73:Int))].length:Int))) (some (([(493:Int),(420:Int),(448:Int),(511:Int),(0:Int),Go.IntKind.i64.wrap (Go.IntKind.i64.wrap (r2.1.1 * (64:Int)) + r3.1.1),Go.IntKind.i64.wrap (r4.1.1 * (73:Int))].getD (Int.toNat r5.1.1) (0:Int),()),((r5.2.1.1,r5.2.1.2),()))) (none)) (none))
theorem e59_top (n:Nat) (a:List Int × Int):runF TT G59 an59 Try.f59 c59 ps59 rs59 n (a,())=st59_top n a:=by kernel_rfl
noncomputable def p59 (n:Nat) (a:List Int × Int):Option R59:=st59_top n a
theorem F59_eq (n:Nat) (a:List Int × Int):runF TT G59 an59 Try.f59 c59 ps59 rs59 n (a,())=p59 n a:=by
 rw [e59_top]
 skip
 try rfl
noncomputable def q59 (n:Nat) (x:argsD ps59):Option R59:=p59 n x.1
noncomputable def Sm59:Sm:=⟨ps59,rs59,true,q59⟩
theorem holds59 (hg:GamOK Try.prog G59):Holds Try.prog 59 Sm59:=by
 have:=h0_59 hg
 have e:(runF TT G59 an59 Try.f59 c59 ps59 rs59)=q59:=by
  funext n x
  exact F59_eq n x.1
 rw [e] at this
 exact this
theorem gam59:GamOK Try.prog G59:=by
 intro f s h
 unfold G59 at h
 split at h
 ·injection h with h; subst h; exact ⟨⟨Try.f102,c102,Try.func102,by kernel_rfl,by decide +kernel⟩,hh102⟩
 ·cases h
theorem hh59:Holds Try.prog 59 Sm59:=holds59 gam59
end Go.Proofs.Ytbjgiioppmkpiaa.Rx.S

namespace Go.Proofs.Ytbjgiioppmkpiaa.Rx.S
open Go Go.Proofs.Ytbjgiioppmkpiaa.Rx Go.RowKit Go.Proofs
set_option linter.unusedVariables false
abbrev ps148:List PK:=[.val .str false,.val .str false]
abbrev rs148:List RK:=[.val i64 false]
abbrev R148:=retsD rs148 × outsD ps148
def cmpB (a b:ByteArray):Int:=Lib.compareBytes a.data.toList b.data.toList
def p148 (n:Nat) (a b:ByteArray):Option R148:=some ((cmpB a b,()),())
def q148 (n:Nat) (x:argsD ps148):Option R148:=p148 n x.1 x.2.1
end Go.Proofs.Ytbjgiioppmkpiaa.Rx.S

namespace Go.Proofs.Ytbjgiioppmkpiaa.Rx.S
open Go Go.RowKit Go.Proofs
set_option maxRecDepth 100000
abbrev ps123:List PK:=[.val .str false,.val .str false]
abbrev rs123:List RK:=[.val i64 false]
abbrev R123:=retsD rs123 × outsD ps123
noncomputable def st123_top (n:Nat) (a:ByteArray) (b:ByteArray):Option R123 :=
 (q148 n (a,b,())).bind fun r0=>some ((r0.1.1,()),())
noncomputable def p123 (n:Nat) (a:ByteArray) (b:ByteArray):Option R123:=st123_top n a b
noncomputable def q123 (n:Nat) (x:argsD ps123):Option R123:=p123 n x.1 x.2.1
end Go.Proofs.Ytbjgiioppmkpiaa.Rx.S

namespace Go.Proofs.Ytbjgiioppmkpiaa.Rx.S
open Go Go.RowKit Go.Proofs
set_option maxRecDepth 100000
abbrev ps122:List PK:=[.val tEn true,.val .str false]
abbrev rs122:List RK:=[.val i64 false]
abbrev R122:=retsD rs122 × outsD ps122
noncomputable def st122_top (n:Nat) (a:ByteArray × Int) (b:ByteArray):Option R122 :=
 (q123 n (a.1,b,())).bind fun r0=>some ((r0.1.1,()),())
noncomputable def p122 (n:Nat) (a:ByteArray × Int) (b:ByteArray):Option R122:=st122_top n a b
noncomputable def q122 (n:Nat) (x:argsD ps122):Option R122:=p122 n x.1 x.2.1
end Go.Proofs.Ytbjgiioppmkpiaa.Rx.S

namespace Go.Proofs.Ytbjgiioppmkpiaa.Rx.S
open Go Go.RowKit Go.Proofs
set_option maxRecDepth 100000
abbrev ps121:List PK:=[.val (.row 100 tEn) false,.val .str false,.fn 122 []]
abbrev rs121:List RK:=[.val i64 false,.val .bool false]
abbrev R121:=retsD rs121 × outsD ps121
noncomputable def st121_top (n:Nat) (lL3:(List (ByteArray × Int))→ByteArray→Int→Int→Int→Option R121) (a:List (ByteArray × Int)) (b:ByteArray) (c:Unit):Option R121 :=
 lL3 (a) (b) ((↑a.length:Int)) ((0:Int)) ((↑a.length:Int))
noncomputable def st121_L3 (n:Nat) (lL3:(List (ByteArray × Int))→ByteArray→Int→Int→Int→Option R121) (x0:List (ByteArray × Int)) (x1:ByteArray) (x2:Int) (x3:Int) (x4:Int):Option R121 :=
 cond (decide (x3 < x4)) (cond (decide ((0:Int)≤Go.IntKind.i64.wrap ((Go.IntKind.u64.wrap (Go.IntKind.i64.wrap (x3 + x4))).fdiv ((2:Int) ^ min (Int.toNat (1:Int)) Go.IntKind.u64.bits)))) (cond (decide (Go.IntKind.i64.wrap ((Go.IntKind.u64.wrap (Go.IntKind.i64.wrap (x3 + x4))).fdiv ((2:Int) ^ min (Int.toNat (1:Int)) Go.IntKind.u64.bits)) < (↑x0.length:Int))) ((q122 n (((x0.getD (Go.IntKind.i64.wrap ((Go.IntKind.u64.wrap (Go.IntKind.i64.wrap (x3 + x4))).fdiv ((2:Int) ^ min (Int.toNat (1:Int)) Go.IntKind.u64.bits))).toNat (ByteArray.empty,(0:Int))).1,(x0.getD (Go.IntKind.i64.wrap ((Go.IntKind.u64.wrap (Go.IntKind.i64.wrap (x3 + x4))).fdiv ((2:Int) ^ min (Int.toNat (1:Int)) Go.IntKind.u64.bits))).toNat (ByteArray.empty,(0:Int))).2),x1,())).bind fun r1=>cond (decide (r1.1.1 < (0:Int))) (lL3 (x0) (x1) (x2) (Go.IntKind.i64.wrap (Go.IntKind.i64.wrap ((Go.IntKind.u64.wrap (Go.IntKind.i64.wrap (x3 + x4))).fdiv ((2:Int) ^ min (Int.toNat (1:Int)) Go.IntKind.u64.bits)) + (1:Int))) (x4)) (lL3 (x0) (x1) (x2) (x3) (Go.IntKind.i64.wrap ((Go.IntKind.u64.wrap (Go.IntKind.i64.wrap (x3 + x4))).fdiv ((2:Int) ^ min (Int.toNat (1:Int)) Go.IntKind.u64.bits))))) (none)) (none)) (cond (decide (x3 < x2)) (cond (decide ((0:Int)≤x3)) (cond (decide (x3 < (↑x0.length:Int))) ((q122 n (((x0.getD x3.toNat (ByteArray.empty,(0:Int))).1,(x0.getD x3.toNat (ByteArray.empty,(0:Int))).2),x1,())).bind fun r2=>some ((x3,(decide (r2.1.1=(0:Int)),())),())) (none)) (none)) (some ((x3,(false,())),())))
noncomputable def p121_L3 (n:Nat):Nat→(List (ByteArray × Int))→ByteArray→Int→Int→Int→Option R121
 | 0,_,_,_,_,_=>none
 | m + 1,x0,x1,x2,x3,x4=>st121_L3 n (p121_L3 n m) x0 x1 x2 x3 x4
noncomputable def p121 (n:Nat) (a:List (ByteArray × Int)) (b:ByteArray) (c:Unit):Option R121:=st121_top n (p121_L3 n n) a b c
noncomputable def q121 (n:Nat) (x:argsD ps121):Option R121:=p121 n x.1 x.2.1 x.2.2.1
end Go.Proofs.Ytbjgiioppmkpiaa.Rx.S

namespace Go.Proofs.Ytbjgiioppmkpiaa.Rx.S
open Go Go.RowKit Go.Proofs
set_option maxRecDepth 100000
abbrev ps73:List PK:=[.val (tIn 100) true,.val .str false]
abbrev rs73:List RK:=[.val i64 false,.val .bool false]
abbrev R73:=retsD rs73 × outsD ps73
noncomputable def st73_top (n:Nat) (a:NT) (b:ByteArray):Option R73 :=
 (q121 n (a.2.2.2.2.2.2.2.2,b,(),())).bind fun r0=>some ((r0.1.1,(r0.1.2.1,())),())
noncomputable def p73 (n:Nat) (a:NT) (b:ByteArray):Option R73:=st73_top n a b
noncomputable def q73 (n:Nat) (x:argsD ps73):Option R73:=p73 n x.1 x.2.1
end Go.Proofs.Ytbjgiioppmkpiaa.Rx.S

namespace Go.Proofs.Ytbjgiioppmkpiaa.Rx.S
open Go Go.RowKit Go.Proofs
set_option maxRecDepth 100000
noncomputable def c61:Code:=(Try.f61.body.getD .skip)
def an61:An:=⟨fun _=>⟨[],[]⟩,fun _ _=>none⟩
abbrev ps61:List PK:=[.val i64 false,.val i64 false,.val i64 false]
abbrev rs61:List RK:=[.val .bool false]
abbrev R61:=retsD rs61 × outsD ps61
noncomputable def G61:Gam:=fun _=>none
theorem h0_61 (hg:GamOK Try.prog G61):Holds Try.prog 61 ⟨ps61,rs61,false,runF TT G61 an61 Try.f61 c61 ps61 rs61⟩:=holds_of tt_ok hg mixed Try.func61 (by kernel_rfl) (by rfl) (by decide +kernel)
noncomputable def st61_top (n:Nat) (a:Int) (b:Int) (c:Int):Option R61 :=
 cond (decide (b≤a)) (some ((decide (a≤c),()),())) (some ((false,()),()))
theorem e61_top (n:Nat) (a:Int) (b:Int) (c:Int):runF TT G61 an61 Try.f61 c61 ps61 rs61 n (a,b,c,())=st61_top n a b c:=by kernel_rfl
noncomputable def p61 (n:Nat) (a:Int) (b:Int) (c:Int):Option R61:=st61_top n a b c
theorem F61_eq (n:Nat) (a:Int) (b:Int) (c:Int):runF TT G61 an61 Try.f61 c61 ps61 rs61 n (a,b,c,())=p61 n a b c:=by
 rw [e61_top]
 skip
 try rfl
noncomputable def q61 (n:Nat) (x:argsD ps61):Option R61:=p61 n x.1 x.2.1 x.2.2.1
noncomputable def Sm61:Sm:=⟨ps61,rs61,false,q61⟩
theorem holds61 (hg:GamOK Try.prog G61):Holds Try.prog 61 Sm61:=by
 have:=h0_61 hg
 have e:(runF TT G61 an61 Try.f61 c61 ps61 rs61)=q61:=by
  funext n x
  exact F61_eq n x.1 x.2.1 x.2.2.1
 rw [e] at this
 exact this
theorem gam61:GamOK Try.prog G61:=fun _ _ h=>by cases h
theorem hh61:Holds Try.prog 61 Sm61:=holds61 gam61
end Go.Proofs.Ytbjgiioppmkpiaa.Rx.S

namespace Go.Proofs.Ytbjgiioppmkpiaa.Rx.S
open Go Go.RowKit Go.Proofs
set_option maxRecDepth 100000
noncomputable def c120:Code:=(Try.f120.body.getD .skip)
def an120:An:=⟨fun _=>⟨[],[]⟩,fun _ _=>none⟩
abbrev ps120:List PK:=[.val (.int .i32) false]
abbrev rs120:List RK:=[.val .bool false]
abbrev R120:=retsD rs120 × outsD ps120
noncomputable def G120:Gam:=fun _=>none
theorem h0_120 (hg:GamOK Try.prog G120):Holds Try.prog 120 ⟨ps120,rs120,false,runF TT G120 an120 Try.f120 c120 ps120 rs120⟩:=holds_of tt_ok hg mixed Try.func120 (by kernel_rfl) (by rfl) (by decide +kernel)
noncomputable def st120_top (n:Nat) (a:Int):Option R120 :=
 cond (decide (a < (97:Int))) (some ((true,()),())) (some ((decide ((122:Int) < a),()),()))
theorem e120_top (n:Nat) (a:Int):runF TT G120 an120 Try.f120 c120 ps120 rs120 n (a,())=st120_top n a:=by kernel_rfl
noncomputable def p120 (n:Nat) (a:Int):Option R120:=st120_top n a
theorem F120_eq (n:Nat) (a:Int):runF TT G120 an120 Try.f120 c120 ps120 rs120 n (a,())=p120 n a:=by
 rw [e120_top]
 skip
 try rfl
noncomputable def q120 (n:Nat) (x:argsD ps120):Option R120:=p120 n x.1
noncomputable def Sm120:Sm:=⟨ps120,rs120,false,q120⟩
theorem holds120 (hg:GamOK Try.prog G120):Holds Try.prog 120 Sm120:=by
 have:=h0_120 hg
 have e:(runF TT G120 an120 Try.f120 c120 ps120 rs120)=q120:=by
  funext n x
  exact F120_eq n x.1
 rw [e] at this
 exact this
theorem gam120:GamOK Try.prog G120:=fun _ _ h=>by cases h
theorem hh120:Holds Try.prog 120 Sm120:=holds120 gam120
end Go.Proofs.Ytbjgiioppmkpiaa.Rx.S

namespace Go.Proofs.Ytbjgiioppmkpiaa.Rx.S
open Go Go.RowKit Go.Proofs
set_option maxRecDepth 100000
noncomputable def c147:Code:=(Try.f147.body.getD .skip)
def an147:An:=⟨fun r=>match r with | 2=>⟨[1,2,10],[]⟩ | _=>⟨[],[]⟩,fun _ _=>none⟩
abbrev ps147:List PK:=[.val .str false,.fn 120 [],.val .bool false]
abbrev rs147:List RK:=[.val i64 false]
abbrev R147:=retsD rs147 × outsD ps147
noncomputable def G147:Gam:=fun f=>match f with | 120=>some Sm120 | _=>none
theorem h0_147 (hg:GamOK Try.prog G147):Holds Try.prog 147 ⟨ps147,rs147,false,runF TT G147 an147 Try.f147 c147 ps147 rs147⟩:=holds_of tt_ok hg mixed Try.func147 (by kernel_rfl) (by rfl) (by decide +kernel)
noncomputable def at147:Nat→Pt→List Nat→St→Option R147:=atF TT G147 an147 Try.f147 c147 _ _
def sh147_L2 (x0:Bool) (x1:ByteArray) (x2:Int):St:=(St.mk (AV.undef :: ((AV.fn 120 []) :: ((AV.one (SV.bool x0)) :: (AV.undef :: (AV.undef :: (AV.undef :: (AV.undef :: (AV.undef :: (AV.undef :: (AV.undef :: ((AV.one (SV.bptr 1000000 0)) :: (AV.undef :: (AV.undef :: (AV.undef :: (AV.undef :: (AV.undef :: (AV.undef :: (AV.undef :: (AV.undef :: (AV.undef :: (AV.undef :: []))))))))))))))))))))) ((1000000,(Ent.iter x1 x2)) :: []))
noncomputable def st147_top (n:Nat) (lL2:Bool→ByteArray→Int→Option R147) (a:ByteArray) (b:Unit) (c:Bool):Option R147 :=
 lL2 (c) (a) ((0:Int))
noncomputable def st147_L2 (n:Nat) (lL2:Bool→ByteArray→Int→Option R147) (x0:Bool) (x1:ByteArray) (x2:Int):Option R147 :=
 cond (decide (x2.toNat < x1.size)) ((q120 n ((↑(Go.Utf8.decode x1 x2.toNat).1:Int),())).bind fun r1=>cond (r1.1.1 == x0) (some (((↑x2.toNat:Int),()),())) (lL2 (x0) (x1) ((↑(x2.toNat + (Go.Utf8.decode x1 x2.toNat).2):Int)))) (some (((-1:Int),()),()))
theorem e147_top (n:Nat) (a:ByteArray) (b:Unit) (c:Bool):runF TT G147 an147 Try.f147 c147 ps147 rs147 n (a,b,c,())=st147_top n (fun x0 x1 x2=>at147 n (.head 2) [n] (sh147_L2 x0 x1 x2)) a b c:=by kernel_rfl
theorem e147_L2_0 (n:Nat) (x0:Bool) (x1:ByteArray) (x2:Int):at147 n (.head 2) [0] (sh147_L2 x0 x1 x2)=none:=by kernel_rfl
theorem e147_L2 (n:Nat) (m2:Nat) (x0:Bool) (x1:ByteArray) (x2:Int):at147 n (.head 2) [m2 + 1] (sh147_L2 x0 x1 x2)=st147_L2 n (fun x0 x1 x2=>at147 n (.head 2) [m2] (sh147_L2 x0 x1 x2)) x0 x1 x2:=by kernel_rfl
noncomputable def p147_L2 (n:Nat):Nat→Bool→ByteArray→Int→Option R147
 | 0,_,_,_=>none
 | m + 1,x0,x1,x2=>st147_L2 n (p147_L2 n m) x0 x1 x2
noncomputable def p147 (n:Nat) (a:ByteArray) (b:Unit) (c:Bool):Option R147:=st147_top n (p147_L2 n n) a b c
theorem t147_L2 (n:Nat):∀ (m2:Nat) (x0:Bool) (x1:ByteArray) (x2:Int),at147 n (.head 2) [m2] (sh147_L2 x0 x1 x2)=p147_L2 n m2 x0 x1 x2:=by
 intro m
 induction m with
 | zero=>intros; rw [e147_L2_0]; rfl
 | succ m ih =>
  intros
  rw [e147_L2]
  try simp only [ih]
  rfl
theorem F147_eq (n:Nat) (a:ByteArray) (b:Unit) (c:Bool):runF TT G147 an147 Try.f147 c147 ps147 rs147 n (a,b,c,())=p147 n a b c:=by
 rw [e147_top]
 simp only [t147_L2]
 try rfl
noncomputable def q147 (n:Nat) (x:argsD ps147):Option R147:=p147 n x.1 x.2.1 x.2.2.1
noncomputable def Sm147:Sm:=⟨ps147,rs147,false,q147⟩
theorem holds147 (hg:GamOK Try.prog G147):Holds Try.prog 147 Sm147:=by
 have:=h0_147 hg
 have e:(runF TT G147 an147 Try.f147 c147 ps147 rs147)=q147:=by
  funext n x
  exact F147_eq n x.1 x.2.1 x.2.2.1
 rw [e] at this
 exact this
theorem gam147:GamOK Try.prog G147:=by
 intro f s h
 unfold G147 at h
 split at h
 ·injection h with h; subst h; exact ⟨⟨Try.f120,c120,Try.func120,by kernel_rfl,by decide +kernel⟩,hh120⟩
 ·cases h
theorem hh147:Holds Try.prog 147 Sm147:=holds147 gam147
end Go.Proofs.Ytbjgiioppmkpiaa.Rx.S

namespace Go.Proofs.Ytbjgiioppmkpiaa.Rx.S
open Go Go.RowKit Go.Proofs
set_option maxRecDepth 100000
noncomputable def c119:Code:=(Try.f119.body.getD .skip)
def an119:An:=⟨fun _=>⟨[],[]⟩,fun _ _=>none⟩
abbrev ps119:List PK:=[.val .str false,.fn 120 []]
abbrev rs119:List RK:=[.val i64 false]
abbrev R119:=retsD rs119 × outsD ps119
noncomputable def G119:Gam:=fun f=>match f with | 147=>some Sm147 | _=>none
theorem h0_119 (hg:GamOK Try.prog G119):Holds Try.prog 119 ⟨ps119,rs119,false,runF TT G119 an119 Try.f119 c119 ps119 rs119⟩:=holds_of tt_ok hg mixed Try.func119 (by kernel_rfl) (by rfl) (by decide +kernel)
noncomputable def st119_top (n:Nat) (a:ByteArray) (b:Unit):Option R119 :=
 (q147 n (a,(),true,())).bind fun r0=>some ((r0.1.1,()),())
theorem e119_top (n:Nat) (a:ByteArray) (b:Unit):runF TT G119 an119 Try.f119 c119 ps119 rs119 n (a,b,())=st119_top n a b:=by kernel_rfl
noncomputable def p119 (n:Nat) (a:ByteArray) (b:Unit):Option R119:=st119_top n a b
theorem F119_eq (n:Nat) (a:ByteArray) (b:Unit):runF TT G119 an119 Try.f119 c119 ps119 rs119 n (a,b,())=p119 n a b:=by
 rw [e119_top]
 skip
 try rfl
noncomputable def q119 (n:Nat) (x:argsD ps119):Option R119:=p119 n x.1 x.2.1
noncomputable def Sm119:Sm:=⟨ps119,rs119,false,q119⟩
theorem holds119 (hg:GamOK Try.prog G119):Holds Try.prog 119 Sm119:=by
 have:=h0_119 hg
 have e:(runF TT G119 an119 Try.f119 c119 ps119 rs119)=q119:=by
  funext n x
  exact F119_eq n x.1 x.2.1
 rw [e] at this
 exact this
theorem gam119:GamOK Try.prog G119:=by
 intro f s h
 unfold G119 at h
 split at h
 ·injection h with h; subst h; exact ⟨⟨Try.f147,c147,Try.func147,by kernel_rfl,by decide +kernel⟩,hh147⟩
 ·cases h
theorem hh119:Holds Try.prog 119 Sm119:=holds119 gam119
end Go.Proofs.Ytbjgiioppmkpiaa.Rx.S

namespace Go.Proofs.Ytbjgiioppmkpiaa.Rx.S
open Go Go.RowKit Go.Proofs
set_option maxRecDepth 100000
noncomputable def c70:Code:=(Try.f70.body.getD .skip)
def an70:An:=⟨fun _=>⟨[],[]⟩,fun _ _=>none⟩
abbrev ps70:List PK:=[.val .str false]
abbrev rs70:List RK:=[.val .bool false]
abbrev R70:=retsD rs70 × outsD ps70
noncomputable def G70:Gam:=fun f=>match f with | 61=>some Sm61 | 119=>some Sm119 | _=>none
theorem h0_70 (hg:GamOK Try.prog G70):Holds Try.prog 70 ⟨ps70,rs70,false,runF TT G70 an70 Try.f70 c70 ps70 rs70⟩:=holds_of tt_ok hg mixed Try.func70 (by kernel_rfl) (by rfl) (by decide +kernel)
noncomputable def st70_top (n:Nat) (a:ByteArray):Option R70 :=
 (q61 n ((↑a.size:Int),(1:Int),(3:Int),())).bind fun r0=>cond (r0.1.1) ((q119 n (a,(),())).bind fun r1=>some ((decide (r1.1.1 < (0:Int)),()),())) (some ((false,()),()))
theorem e70_top (n:Nat) (a:ByteArray):runF TT G70 an70 Try.f70 c70 ps70 rs70 n (a,())=st70_top n a:=by kernel_rfl
noncomputable def p70 (n:Nat) (a:ByteArray):Option R70:=st70_top n a
theorem F70_eq (n:Nat) (a:ByteArray):runF TT G70 an70 Try.f70 c70 ps70 rs70 n (a,())=p70 n a:=by
 rw [e70_top]
 skip
 try rfl
noncomputable def q70 (n:Nat) (x:argsD ps70):Option R70:=p70 n x.1
noncomputable def Sm70:Sm:=⟨ps70,rs70,false,q70⟩
theorem holds70 (hg:GamOK Try.prog G70):Holds Try.prog 70 Sm70:=by
 have:=h0_70 hg
 have e:(runF TT G70 an70 Try.f70 c70 ps70 rs70)=q70:=by
  funext n x
  exact F70_eq n x.1
 rw [e] at this
 exact this
theorem gam70:GamOK Try.prog G70:=by
 intro f s h
 unfold G70 at h
 split at h
 ·injection h with h; subst h; exact ⟨⟨Try.f61,c61,Try.func61,by kernel_rfl,by decide +kernel⟩,hh61⟩
 ·injection h with h; subst h; exact ⟨⟨Try.f119,c119,Try.func119,by kernel_rfl,by decide +kernel⟩,hh119⟩
 ·cases h
theorem hh70:Holds Try.prog 70 Sm70:=holds70 gam70
end Go.Proofs.Ytbjgiioppmkpiaa.Rx.S

namespace Go.Proofs.Ytbjgiioppmkpiaa.Rx.S
open Go Go.RowKit Go.Proofs
set_option maxRecDepth 100000
noncomputable def c69:Code:=(Try.f69.body.getD .skip)
def an69:An:=⟨fun _=>⟨[],[]⟩,fun _ _=>none⟩
abbrev ps69:List PK:=[.val (tIn 100) true]
abbrev rs69:List RK:=[.val .bool false]
abbrev R69:=retsD rs69 × outsD ps69
noncomputable def G69:Gam:=fun _=>none
theorem h0_69 (hg:GamOK Try.prog G69):Holds Try.prog 69 ⟨ps69,rs69,false,runF TT G69 an69 Try.f69 c69 ps69 rs69⟩:=holds_of tt_ok hg mixed Try.func69 (by kernel_rfl) (by rfl) (by decide +kernel)
noncomputable def st69_top (n:Nat) (a:NT):Option R69 :=
 cond (decide (a.1=(0:Int))) (cond (decide (a.2.1=(0:Int))) (cond (decide (a.2.2.1=(0:Int))) (cond (decide (a.2.2.2.1=(0:Int))) (cond (decide (a.2.2.2.2.1=(0:Int))) (cond (decide (a.2.2.2.2.2.1=(0:Int))) (cond (!a.2.2.2.2.2.2.1) (cond (ByteArray.toList a.2.2.2.2.2.2.2.1 == (ByteArray.mk #[]).toList) (some ((decide ((↑(List.length a.2.2.2.2.2.2.2.2):Int)=(0:Int)),()),())) (some ((false,()),()))) (some ((false,()),()))) (some ((false,()),()))) (some ((false,()),()))) (some ((false,()),()))) (some ((false,()),()))) (some ((false,()),()))) (some ((false,()),()))
theorem e69_top (n:Nat) (a:NT):runF TT G69 an69 Try.f69 c69 ps69 rs69 n (a,())=st69_top n a:=by kernel_rfl
noncomputable def p69 (n:Nat) (a:NT):Option R69:=st69_top n a
theorem F69_eq (n:Nat) (a:NT):runF TT G69 an69 Try.f69 c69 ps69 rs69 n (a,())=p69 n a:=by
 rw [e69_top]
 skip
 try rfl
noncomputable def q69 (n:Nat) (x:argsD ps69):Option R69:=p69 n x.1
noncomputable def Sm69:Sm:=⟨ps69,rs69,false,q69⟩
theorem holds69 (hg:GamOK Try.prog G69):Holds Try.prog 69 Sm69:=by
 have:=h0_69 hg
 have e:(runF TT G69 an69 Try.f69 c69 ps69 rs69)=q69:=by
  funext n x
  exact F69_eq n x.1
 rw [e] at this
 exact this
theorem gam69:GamOK Try.prog G69:=fun _ _ h=>by cases h
theorem hh69:Holds Try.prog 69 Sm69:=holds69 gam69
end Go.Proofs.Ytbjgiioppmkpiaa.Rx.S

namespace Go.Proofs.Ytbjgiioppmkpiaa.Rx.S
open Go Go.RowKit Go.Proofs
set_option maxRecDepth 100000
noncomputable def c19:Code:=(Try.f19.body.getD .skip)
def an19:An:=⟨fun r=>match r with | 6=>⟨[1,3,4,28,29,30],[]⟩ | 16=>⟨[1,3,4,5,6,28,29,30,105,106,107],[]⟩ | 25=>⟨[3,4,163,164,165],[]⟩ | 36=>⟨[3,4,11,12,163,164,165],[]⟩ | _=>⟨[],[]⟩,fun _ _=>none⟩
abbrev ps19:List PK:=[.val tFs true]
abbrev rs19:List RK:=[.val .bool false]
abbrev R19:=retsD rs19 × outsD ps19
noncomputable def G19:Gam:=fun f=>match f with | 70=>some Sm70 | 61=>some Sm61 | 69=>some Sm69 | _=>none
theorem h0_19 (hg:GamOK Try.prog G19):Holds Try.prog 19 ⟨ps19,rs19,false,runF TT G19 an19 Try.f19 c19 ps19 rs19⟩:=holds_of tt_ok hg mixed Try.func19 (by kernel_rfl) (by rfl) (by decide +kernel)
noncomputable def at19:Nat→Pt→List Nat→St→Option R19:=atF TT G19 an19 Try.f19 c19 _ _
def sh19_L16 (x0:Int) (x1:List NT) (x2:Int) (x3:Int) (x4:List (ByteArray × Int)) (x5:Int) (x6:Int) (x7:List NT) (x8:List Int) (x9:List Int) (x10:Int) (x11:Int) (x12:Int) (x13:Int) (x14:Int) (x15:Int) (x16:Bool) (x17:ByteArray) (x18:List (ByteArray × Int)):St:=(St.mk (AV.undef :: ((AV.one (SV.bptr 1000000 0)) :: (AV.undef :: ((AV.one (SV.ref 1000001 0 [] Option.none)) :: ((AV.one (SV.ref 1000002 0 [] Option.none)) :: ((AV.one (SV.int (Go.IntKind.i64) x0)) :: ((AV.one (SV.bptr 1000003 0)) :: (AV.undef :: (AV.undef :: (AV.undef :: (AV.undef :: (AV.undef :: (AV.undef :: (AV.undef :: (AV.undef :: (AV.undef :: (AV.undef :: (AV.undef :: (AV.undef :: (AV.undef :: (AV.undef :: (AV.undef :: (AV.undef :: (AV.undef :: (AV.undef :: (AV.undef :: (AV.undef :: (AV.undef :: ((AV.one (SV.con (⟨37,(Ty.int Go.IntKind.i64).pair ((Ty.int Go.IntKind.i64).pair ((Ty.int Go.IntKind.i64).pair ((Ty.int Go.IntKind.i64).pair ((Ty.int Go.IntKind.i64).pair ((Ty.int Go.IntKind.i64).pair (Ty.bool.pair (Ty.str.pair (Ty.row (nat_lit 100) (Ty.str.pair (Ty.int Go.IntKind.i64)))))))))),x1⟩:Rw))) :: ((AV.one (SV.int (Go.IntKind.i64) x2)) :: ((AV.one (SV.int (Go.IntKind.i64) x3)) :: (AV.undef :: (AV.undef :: (AV.undef :: (AV.undef :: (AV.undef :: (AV.undef :: (AV.undef :: (AV.undef :: (AV.undef :: (AV.undef :: (AV.undef :: (AV.undef :: (AV.undef :: (AV.undef :: (AV.undef :: (AV.undef :: (AV.undef :: (AV.undef :: (AV.undef :: (AV.undef :: (AV.undef :: (AV.undef :: (AV.undef :: (AV.undef :: (AV.undef :: (AV.undef :: (AV.undef :: (AV.undef :: (AV.undef :: (AV.undef :: (AV.undef :: (AV.undef :: (AV.undef :: (AV.undef :: (AV.undef :: (AV.undef :: (AV.undef :: (AV.undef :: (AV.undef :: (AV.undef :: (AV.undef :: (AV.undef :: (AV.undef :: (AV.undef :: (AV.undef :: (AV.undef :: (AV.undef :: (AV.undef :: (AV.undef :: (AV.undef :: (AV.undef :: (AV.undef :: (AV.undef :: (AV.undef :: (AV.undef :: (AV.undef :: (AV.undef :: (AV.undef :: (AV.undef :: (AV.undef :: (AV.undef :: (AV.undef :: (AV.undef :: (AV.undef :: (AV.undef :: (AV.undef :: (AV.undef :: (AV.undef :: (AV.undef :: (AV.undef :: (AV.undef :: (AV.undef :: (AV.undef :: (AV.undef :: ((AV.one (SV.con (⟨100,Ty.str.pair (Ty.int Go.IntKind.i64),x4⟩:Rw))) :: ((AV.one (SV.int (Go.IntKind.i64) x5)) :: ((AV.one (SV.int (Go.IntKind.i64) x6)) :: (AV.undef :: (AV.undef :: (AV.undef :: (AV.undef :: (AV.undef :: (AV.undef :: (AV.undef :: (AV.undef :: (AV.undef :: (AV.undef :: (AV.undef :: (AV.undef :: (AV.undef :: (AV.undef :: (AV.undef :: (AV.undef :: (AV.undef :: (AV.undef :: (AV.undef :: (AV.undef :: (AV.undef :: (AV.undef :: (AV.undef :: (AV.undef :: (AV.undef :: (AV.undef :: (AV.undef :: (AV.undef :: (AV.undef :: (AV.undef :: (AV.undef :: (AV.undef :: (AV.undef :: (AV.undef :: (AV.undef :: (AV.undef :: (AV.undef :: (AV.undef :: (AV.undef :: (AV.undef :: (AV.undef :: (AV.undef :: (AV.undef :: (AV.undef :: (AV.undef :: (AV.undef :: (AV.undef :: (AV.undef :: (AV.undef :: (AV.undef :: (AV.undef :: (AV.undef :: (AV.undef :: (AV.undef :: (AV.undef :: (AV.undef :: (AV.undef :: (AV.undef :: (AV.undef :: (AV.undef :: (AV.undef :: (AV.undef :: (AV.undef :: (AV.undef :: (AV.undef :: (AV.undef :: (AV.undef :: (AV.undef :: (AV.undef :: (AV.undef :: (AV.undef :: (AV.undef :: (AV.undef :: (AV.undef :: (AV.undef :: (AV.undef :: (AV.undef :: (AV.undef :: (AV.undef :: (AV.undef :: (AV.undef :: (AV.undef :: (AV.undef :: (AV.undef :: (AV.undef :: (AV.undef :: (AV.undef :: (AV.undef :: (AV.undef :: (AV.undef :: (AV.undef :: (AV.undef :: (AV.undef :: (AV.undef :: (AV.undef :: (AV.undef :: (AV.undef :: (AV.undef :: (AV.undef :: (AV.undef :: (AV.undef :: (AV.undef :: (AV.undef :: (AV.undef :: (AV.undef :: (AV.undef :: (AV.undef :: (AV.undef :: (AV.undef :: (AV.undef :: (AV.undef :: (AV.undef :: (AV.undef :: (AV.undef :: (AV.undef :: (AV.undef :: (AV.undef :: (AV.undef :: (AV.undef :: (AV.undef :: (AV.undef :: (AV.undef :: [])))))))))))))))))))))))))))))))))))))))))))))))))))))))))))))))))))))))))))))))))))))))))))))))))))))))))))))))))))))))))))))))))))))))))))))))))))))))))))))))))))))))))))))))))))))))))))))))))))))))))))))))))))))))))))))))))))))) ((1000000,(Ent.box ((SV.con (⟨37,(Ty.int Go.IntKind.i64).pair ((Ty.int Go.IntKind.i64).pair ((Ty.int Go.IntKind.i64).pair ((Ty.int Go.IntKind.i64).pair ((Ty.int Go.IntKind.i64).pair ((Ty.int Go.IntKind.i64).pair (Ty.bool.pair (Ty.str.pair (Ty.row (nat_lit 100) (Ty.str.pair (Ty.int Go.IntKind.i64)))))))))),x7⟩:Rw)) :: []))) :: ((1000001,(Ent.row (⟨3,Ty.int Go.IntKind.i64,x8⟩:Rw) 0 Option.none)) :: ((1000002,(Ent.row (⟨3,Ty.int Go.IntKind.i64,x9⟩:Rw) 0 Option.none)) :: ((1000003,(Ent.box ((SV.int (Go.IntKind.i64) x10) :: ((SV.int (Go.IntKind.i64) x11) :: ((SV.int (Go.IntKind.i64) x12) :: ((SV.int (Go.IntKind.i64) x13) :: ((SV.int (Go.IntKind.i64) x14) :: ((SV.int (Go.IntKind.i64) x15) :: ((SV.bool x16) :: ((SV.str x17) :: ((SV.con (⟨100,Ty.str.pair (Ty.int Go.IntKind.i64),x18⟩:Rw)) :: []))))))))))) :: [])))))
def sh19_L36 (x0:Int) (x1:Int) (x2:List NT) (x3:Int) (x4:Int) (x5:List Int) (x6:List Int):St:=(St.mk (AV.undef :: (AV.undef :: (AV.undef :: ((AV.one (SV.ref 1000000 0 [] Option.none)) :: ((AV.one (SV.ref 1000001 0 [] Option.none)) :: (AV.undef :: (AV.undef :: (AV.undef :: (AV.undef :: (AV.undef :: (AV.undef :: ((AV.one (SV.int (Go.IntKind.i64) x0)) :: ((AV.one (SV.int (Go.IntKind.i64) x1)) :: (AV.undef :: (AV.undef :: (AV.undef :: (AV.undef :: (AV.undef :: (AV.undef :: (AV.undef :: (AV.undef :: (AV.undef :: (AV.undef :: (AV.undef :: (AV.undef :: (AV.undef :: (AV.undef :: (AV.undef :: (AV.undef :: (AV.undef :: (AV.undef :: (AV.undef :: (AV.undef :: (AV.undef :: (AV.undef :: (AV.undef :: (AV.undef :: (AV.undef :: (AV.undef :: (AV.undef :: (AV.undef :: (AV.undef :: (AV.undef :: (AV.undef :: (AV.undef :: (AV.undef :: (AV.undef :: (AV.undef :: (AV.undef :: (AV.undef :: (AV.undef :: (AV.undef :: (AV.undef :: (AV.undef :: (AV.undef :: (AV.undef :: (AV.undef :: (AV.undef :: (AV.undef :: (AV.undef :: (AV.undef :: (AV.undef :: (AV.undef :: (AV.undef :: (AV.undef :: (AV.undef :: (AV.undef :: (AV.undef :: (AV.undef :: (AV.undef :: (AV.undef :: (AV.undef :: (AV.undef :: (AV.undef :: (AV.undef :: (AV.undef :: (AV.undef :: (AV.undef :: (AV.undef :: (AV.undef :: (AV.undef :: (AV.undef :: (AV.undef :: (AV.undef :: (AV.undef :: (AV.undef :: (AV.undef :: (AV.undef :: (AV.undef :: (AV.undef :: (AV.undef :: (AV.undef :: (AV.undef :: (AV.undef :: (AV.undef :: (AV.undef :: (AV.undef :: (AV.undef :: (AV.undef :: (AV.undef :: (AV.undef :: (AV.undef :: (AV.undef :: (AV.undef :: (AV.undef :: (AV.undef :: (AV.undef :: (AV.undef :: (AV.undef :: (AV.undef :: (AV.undef :: (AV.undef :: (AV.undef :: (AV.undef :: (AV.undef :: (AV.undef :: (AV.undef :: (AV.undef :: (AV.undef :: (AV.undef :: (AV.undef :: (AV.undef :: (AV.undef :: (AV.undef :: (AV.undef :: (AV.undef :: (AV.undef :: (AV.undef :: (AV.undef :: (AV.undef :: (AV.undef :: (AV.undef :: (AV.undef :: (AV.undef :: (AV.undef :: (AV.undef :: (AV.undef :: (AV.undef :: (AV.undef :: (AV.undef :: (AV.undef :: (AV.undef :: (AV.undef :: (AV.undef :: (AV.undef :: (AV.undef :: (AV.undef :: (AV.undef :: (AV.undef :: (AV.undef :: (AV.undef :: (AV.undef :: (AV.undef :: (AV.undef :: (AV.undef :: (AV.undef :: (AV.undef :: (AV.undef :: (AV.undef :: (AV.undef :: (AV.undef :: (AV.undef :: (AV.undef :: ((AV.one (SV.con (⟨37,(Ty.int Go.IntKind.i64).pair ((Ty.int Go.IntKind.i64).pair ((Ty.int Go.IntKind.i64).pair ((Ty.int Go.IntKind.i64).pair ((Ty.int Go.IntKind.i64).pair ((Ty.int Go.IntKind.i64).pair (Ty.bool.pair (Ty.str.pair (Ty.row (nat_lit 100) (Ty.str.pair (Ty.int Go.IntKind.i64)))))))))),x2⟩:Rw))) :: ((AV.one (SV.int (Go.IntKind.i64) x3)) :: ((AV.one (SV.int (Go.IntKind.i64) x4)) :: (AV.undef :: (AV.undef :: (AV.undef :: (AV.undef :: (AV.undef :: (AV.undef :: (AV.undef :: (AV.undef :: (AV.undef :: (AV.undef :: (AV.undef :: (AV.undef :: (AV.undef :: (AV.undef :: (AV.undef :: (AV.undef :: (AV.undef :: (AV.undef :: (AV.undef :: (AV.undef :: (AV.undef :: (AV.undef :: (AV.undef :: (AV.undef :: (AV.undef :: (AV.undef :: (AV.undef :: (AV.undef :: (AV.undef :: (AV.undef :: (AV.undef :: (AV.undef :: (AV.undef :: (AV.undef :: (AV.undef :: (AV.undef :: (AV.undef :: (AV.undef :: (AV.undef :: (AV.undef :: (AV.undef :: (AV.undef :: (AV.undef :: (AV.undef :: (AV.undef :: (AV.undef :: (AV.undef :: (AV.undef :: (AV.undef :: (AV.undef :: (AV.undef :: (AV.undef :: (AV.undef :: (AV.undef :: (AV.undef :: (AV.undef :: (AV.undef :: (AV.undef :: (AV.undef :: (AV.undef :: (AV.undef :: (AV.undef :: (AV.undef :: (AV.undef :: [])))))))))))))))))))))))))))))))))))))))))))))))))))))))))))))))))))))))))))))))))))))))))))))))))))))))))))))))))))))))))))))))))))))))))))))))))))))))))))))))))))))))))))))))))))))))))))))))))))))))))))))))))))))))))))))))))))))) ((1000000,(Ent.row (⟨3,Ty.int Go.IntKind.i64,x5⟩:Rw) 0 Option.none)) :: ((1000001,(Ent.row (⟨3,Ty.int Go.IntKind.i64,x6⟩:Rw) 0 Option.none)) :: [])))
def sh19_L25 (x0:List NT) (x1:Int) (x2:Int) (x3:List Int) (x4:List Int):St:=(St.mk (AV.undef :: (AV.undef :: (AV.undef :: ((AV.one (SV.ref 1000000 0 [] Option.none)) :: ((AV.one (SV.ref 1000001 0 [] Option.none)) :: (AV.undef :: (AV.undef :: (AV.undef :: (AV.undef :: (AV.undef :: (AV.undef :: (AV.undef :: (AV.undef :: (AV.undef :: (AV.undef :: (AV.undef :: (AV.undef :: (AV.undef :: (AV.undef :: (AV.undef :: (AV.undef :: (AV.undef :: (AV.undef :: (AV.undef :: (AV.undef :: (AV.undef :: (AV.undef :: (AV.undef :: (AV.undef :: (AV.undef :: (AV.undef :: (AV.undef :: (AV.undef :: (AV.undef :: (AV.undef :: (AV.undef :: (AV.undef :: (AV.undef :: (AV.undef :: (AV.undef :: (AV.undef :: (AV.undef :: (AV.undef :: (AV.undef :: (AV.undef :: (AV.undef :: (AV.undef :: (AV.undef :: (AV.undef :: (AV.undef :: (AV.undef :: (AV.undef :: (AV.undef :: (AV.undef :: (AV.undef :: (AV.undef :: (AV.undef :: (AV.undef :: (AV.undef :: (AV.undef :: (AV.undef :: (AV.undef :: (AV.undef :: (AV.undef :: (AV.undef :: (AV.undef :: (AV.undef :: (AV.undef :: (AV.undef :: (AV.undef :: (AV.undef :: (AV.undef :: (AV.undef :: (AV.undef :: (AV.undef :: (AV.undef :: (AV.undef :: (AV.undef :: (AV.undef :: (AV.undef :: (AV.undef :: (AV.undef :: (AV.undef :: (AV.undef :: (AV.undef :: (AV.undef :: (AV.undef :: (AV.undef :: (AV.undef :: (AV.undef :: (AV.undef :: (AV.undef :: (AV.undef :: (AV.undef :: (AV.undef :: (AV.undef :: (AV.undef :: (AV.undef :: (AV.undef :: (AV.undef :: (AV.undef :: (AV.undef :: (AV.undef :: (AV.undef :: (AV.undef :: (AV.undef :: (AV.undef :: (AV.undef :: (AV.undef :: (AV.undef :: (AV.undef :: (AV.undef :: (AV.undef :: (AV.undef :: (AV.undef :: (AV.undef :: (AV.undef :: (AV.undef :: (AV.undef :: (AV.undef :: (AV.undef :: (AV.undef :: (AV.undef :: (AV.undef :: (AV.undef :: (AV.undef :: (AV.undef :: (AV.undef :: (AV.undef :: (AV.undef :: (AV.undef :: (AV.undef :: (AV.undef :: (AV.undef :: (AV.undef :: (AV.undef :: (AV.undef :: (AV.undef :: (AV.undef :: (AV.undef :: (AV.undef :: (AV.undef :: (AV.undef :: (AV.undef :: (AV.undef :: (AV.undef :: (AV.undef :: (AV.undef :: (AV.undef :: (AV.undef :: (AV.undef :: (AV.undef :: (AV.undef :: (AV.undef :: (AV.undef :: (AV.undef :: (AV.undef :: (AV.undef :: (AV.undef :: (AV.undef :: (AV.undef :: (AV.undef :: (AV.undef :: ((AV.one (SV.con (⟨37,(Ty.int Go.IntKind.i64).pair ((Ty.int Go.IntKind.i64).pair ((Ty.int Go.IntKind.i64).pair ((Ty.int Go.IntKind.i64).pair ((Ty.int Go.IntKind.i64).pair ((Ty.int Go.IntKind.i64).pair (Ty.bool.pair (Ty.str.pair (Ty.row (nat_lit 100) (Ty.str.pair (Ty.int Go.IntKind.i64)))))))))),x0⟩:Rw))) :: ((AV.one (SV.int (Go.IntKind.i64) x1)) :: ((AV.one (SV.int (Go.IntKind.i64) x2)) :: (AV.undef :: (AV.undef :: (AV.undef :: (AV.undef :: (AV.undef :: (AV.undef :: (AV.undef :: (AV.undef :: (AV.undef :: (AV.undef :: (AV.undef :: (AV.undef :: (AV.undef :: (AV.undef :: (AV.undef :: (AV.undef :: (AV.undef :: (AV.undef :: (AV.undef :: (AV.undef :: (AV.undef :: (AV.undef :: (AV.undef :: (AV.undef :: (AV.undef :: (AV.undef :: (AV.undef :: (AV.undef :: (AV.undef :: (AV.undef :: (AV.undef :: (AV.undef :: (AV.undef :: (AV.undef :: (AV.undef :: (AV.undef :: (AV.undef :: (AV.undef :: (AV.undef :: (AV.undef :: (AV.undef :: (AV.undef :: (AV.undef :: (AV.undef :: (AV.undef :: (AV.undef :: (AV.undef :: (AV.undef :: (AV.undef :: (AV.undef :: (AV.undef :: (AV.undef :: (AV.undef :: (AV.undef :: (AV.undef :: (AV.undef :: (AV.undef :: (AV.undef :: (AV.undef :: (AV.undef :: (AV.undef :: (AV.undef :: (AV.undef :: (AV.undef :: [])))))))))))))))))))))))))))))))))))))))))))))))))))))))))))))))))))))))))))))))))))))))))))))))))))))))))))))))))))))))))))))))))))))))))))))))))))))))))))))))))))))))))))))))))))))))))))))))))))))))))))))))))))))))))))))))))))))) ((1000000,(Ent.row (⟨3,Ty.int Go.IntKind.i64,x3⟩:Rw) 0 Option.none)) :: ((1000001,(Ent.row (⟨3,Ty.int Go.IntKind.i64,x4⟩:Rw) 0 Option.none)) :: [])))
def sh19_L6 (x0:List NT) (x1:Int) (x2:Int) (x3:List NT) (x4:List Int) (x5:List Int):St:=(St.mk (AV.undef :: ((AV.one (SV.bptr 1000000 0)) :: (AV.undef :: ((AV.one (SV.ref 1000001 0 [] Option.none)) :: ((AV.one (SV.ref 1000002 0 [] Option.none)) :: (AV.undef :: (AV.undef :: (AV.undef :: (AV.undef :: (AV.undef :: (AV.undef :: (AV.undef :: (AV.undef :: (AV.undef :: (AV.undef :: (AV.undef :: (AV.undef :: (AV.undef :: (AV.undef :: (AV.undef :: (AV.undef :: (AV.undef :: (AV.undef :: (AV.undef :: (AV.undef :: (AV.undef :: (AV.undef :: (AV.undef :: ((AV.one (SV.con (⟨37,(Ty.int Go.IntKind.i64).pair ((Ty.int Go.IntKind.i64).pair ((Ty.int Go.IntKind.i64).pair ((Ty.int Go.IntKind.i64).pair ((Ty.int Go.IntKind.i64).pair ((Ty.int Go.IntKind.i64).pair (Ty.bool.pair (Ty.str.pair (Ty.row (nat_lit 100) (Ty.str.pair (Ty.int Go.IntKind.i64)))))))))),x0⟩:Rw))) :: ((AV.one (SV.int (Go.IntKind.i64) x1)) :: ((AV.one (SV.int (Go.IntKind.i64) x2)) :: (AV.undef :: (AV.undef :: (AV.undef :: (AV.undef :: (AV.undef :: (AV.undef :: (AV.undef :: (AV.undef :: (AV.undef :: (AV.undef :: (AV.undef :: (AV.undef :: (AV.undef :: (AV.undef :: (AV.undef :: (AV.undef :: (AV.undef :: (AV.undef :: (AV.undef :: (AV.undef :: (AV.undef :: (AV.undef :: (AV.undef :: (AV.undef :: (AV.undef :: (AV.undef :: (AV.undef :: (AV.undef :: (AV.undef :: (AV.undef :: (AV.undef :: (AV.undef :: (AV.undef :: (AV.undef :: (AV.undef :: (AV.undef :: (AV.undef :: (AV.undef :: (AV.undef :: (AV.undef :: (AV.undef :: (AV.undef :: (AV.undef :: (AV.undef :: (AV.undef :: (AV.undef :: (AV.undef :: (AV.undef :: (AV.undef :: (AV.undef :: (AV.undef :: (AV.undef :: (AV.undef :: (AV.undef :: (AV.undef :: (AV.undef :: (AV.undef :: (AV.undef :: (AV.undef :: (AV.undef :: (AV.undef :: (AV.undef :: (AV.undef :: (AV.undef :: (AV.undef :: (AV.undef :: (AV.undef :: (AV.undef :: (AV.undef :: (AV.undef :: (AV.undef :: (AV.undef :: (AV.undef :: (AV.undef :: (AV.undef :: (AV.undef :: (AV.undef :: (AV.undef :: (AV.undef :: (AV.undef :: (AV.undef :: (AV.undef :: (AV.undef :: (AV.undef :: (AV.undef :: (AV.undef :: (AV.undef :: (AV.undef :: (AV.undef :: (AV.undef :: (AV.undef :: (AV.undef :: (AV.undef :: (AV.undef :: (AV.undef :: (AV.undef :: (AV.undef :: (AV.undef :: (AV.undef :: (AV.undef :: (AV.undef :: (AV.undef :: (AV.undef :: (AV.undef :: (AV.undef :: (AV.undef :: (AV.undef :: (AV.undef :: (AV.undef :: (AV.undef :: (AV.undef :: (AV.undef :: (AV.undef :: (AV.undef :: (AV.undef :: (AV.undef :: (AV.undef :: (AV.undef :: (AV.undef :: (AV.undef :: (AV.undef :: (AV.undef :: (AV.undef :: (AV.undef :: (AV.undef :: (AV.undef :: (AV.undef :: (AV.undef :: (AV.undef :: (AV.undef :: (AV.undef :: (AV.undef :: (AV.undef :: (AV.undef :: (AV.undef :: (AV.undef :: (AV.undef :: (AV.undef :: (AV.undef :: (AV.undef :: (AV.undef :: (AV.undef :: (AV.undef :: (AV.undef :: (AV.undef :: (AV.undef :: (AV.undef :: (AV.undef :: (AV.undef :: (AV.undef :: (AV.undef :: (AV.undef :: (AV.undef :: (AV.undef :: (AV.undef :: (AV.undef :: (AV.undef :: (AV.undef :: (AV.undef :: (AV.undef :: (AV.undef :: (AV.undef :: (AV.undef :: (AV.undef :: (AV.undef :: (AV.undef :: (AV.undef :: (AV.undef :: (AV.undef :: (AV.undef :: (AV.undef :: (AV.undef :: (AV.undef :: (AV.undef :: (AV.undef :: (AV.undef :: (AV.undef :: (AV.undef :: (AV.undef :: (AV.undef :: (AV.undef :: (AV.undef :: (AV.undef :: (AV.undef :: (AV.undef :: (AV.undef :: (AV.undef :: (AV.undef :: (AV.undef :: (AV.undef :: (AV.undef :: (AV.undef :: (AV.undef :: (AV.undef :: (AV.undef :: (AV.undef :: (AV.undef :: (AV.undef :: (AV.undef :: [])))))))))))))))))))))))))))))))))))))))))))))))))))))))))))))))))))))))))))))))))))))))))))))))))))))))))))))))))))))))))))))))))))))))))))))))))))))))))))))))))))))))))))))))))))))))))))))))))))))))))))))))))))))))))))))))))))))) ((1000000,(Ent.box ((SV.con (⟨37,(Ty.int Go.IntKind.i64).pair ((Ty.int Go.IntKind.i64).pair ((Ty.int Go.IntKind.i64).pair ((Ty.int Go.IntKind.i64).pair ((Ty.int Go.IntKind.i64).pair ((Ty.int Go.IntKind.i64).pair (Ty.bool.pair (Ty.str.pair (Ty.row (nat_lit 100) (Ty.str.pair (Ty.int Go.IntKind.i64)))))))))),x3⟩:Rw)) :: []))) :: ((1000001,(Ent.row (⟨3,Ty.int Go.IntKind.i64,x4⟩:Rw) 0 Option.none)) :: ((1000002,(Ent.row (⟨3,Ty.int Go.IntKind.i64,x5⟩:Rw) 0 Option.none)) :: []))))
noncomputable def st19_top (n:Nat) (lL6:(List NT)→Int→Int→(List NT)→(List Int)→(List Int)→Option R19) (a:List NT):Option R19 :=
 cond (!decide ((↑a.length:Int)=(10:Int))) (some ((false,()),())) (cond (decide ((0:Int) < (↑a.length:Int))) (cond (!decide ((a.getD (Int.toNat (0:Int)) ZN).1=(2:Int))) (some ((false,()),())) (lL6 (a) ((↑a.length:Int)) ((0:Int)) (a) (List.replicate (Int.toNat (10:Int)) (0:Int)) (List.replicate (Int.toNat (10:Int)) (0:Int)))) (none))
noncomputable def st19_L16 (n:Nat) (lL16:Int→(List NT)→Int→Int→(List (ByteArray × Int))→Int→Int→(List NT)→(List Int)→(List Int)→Int→Int→Int→Int→Int→Int→Bool→ByteArray→(List (ByteArray × Int))→Option R19) (lL6:(List NT)→Int→Int→(List NT)→(List Int)→(List Int)→Option R19) (x0:Int) (x1:List NT) (x2:Int) (x3:Int) (x4:List (ByteArray × Int)) (x5:Int) (x6:Int) (x7:List NT) (x8:List Int) (x9:List Int) (x10:Int) (x11:Int) (x12:Int) (x13:Int) (x14:Int) (x15:Int) (x16:Bool) (x17:ByteArray) (x18:List (ByteArray × Int)):Option R19 :=
 cond (decide (x6 < x5)) (cond (decide ((0:Int)≤x6)) (cond (decide (x6 < (↑x4.length:Int))) ((q70 n ((x4.getD x6.toNat (ByteArray.empty,(0:Int))).1,())).bind fun r8=>cond (!r8.1.1) (some ((false,()),())) ((q61 n ((x4.getD x6.toNat (ByteArray.empty,(0:Int))).2,(0:Int),(9:Int),())).bind fun r9=>cond (!r9.1.1) (some ((false,()),())) (cond (decide ((0:Int)≤(x4.getD x6.toNat (ByteArray.empty,(0:Int))).2)) (cond (decide ((x4.getD x6.toNat (ByteArray.empty,(0:Int))).2 < (↑x7.length:Int))) (cond (decide ((x7.getD (Int.toNat (x4.getD x6.toNat (ByteArray.empty,(0:Int))).2) ZN).1=(0:Int))) (some ((false,()),())) (cond (decide ((0:Int) < x6)) (cond (decide ((0:Int)≤Go.IntKind.i64.wrap (x6 - (1:Int)))) (cond (decide (Go.IntKind.i64.wrap (x6 - (1:Int)) < (↑x18.length:Int))) (cond (!Go.Op.bytesLess (ByteArray.toList (x18.getD (Go.IntKind.i64.wrap (x6 - (1:Int))).toNat (ByteArray.empty,(0:Int))).1) (ByteArray.toList (x4.getD x6.toNat (ByteArray.empty,(0:Int))).1)) (some ((false,()),())) (cond (decide ((0:Int)≤(x4.getD x6.toNat (ByteArray.empty,(0:Int))).2)) (cond (decide ((x4.getD x6.toNat (ByteArray.empty,(0:Int))).2 < (↑x8.length:Int))) (cond (decide ((0:Int)≤(x4.getD x6.toNat (ByteArray.empty,(0:Int))).2)) (cond (decide ((x4.getD x6.toNat (ByteArray.empty,(0:Int))).2 < (↑x8.length:Int))) (cond (decide ((0:Int)≤(x4.getD x6.toNat (ByteArray.empty,(0:Int))).2)) (cond (decide ((x4.getD x6.toNat (ByteArray.empty,(0:Int))).2 < (↑x9.length:Int))) (lL16 (x0) (x1) (x2) (x3) (x4) (x5) (Go.IntKind.i64.wrap (x6 + (1:Int))) (x7) (x8.set (Int.toNat (x4.getD x6.toNat (ByteArray.empty,(0:Int))).2) (Go.IntKind.i64.wrap (x8.getD (Int.toNat (x4.getD x6.toNat (ByteArray.empty,(0:Int))).2) (0:Int) + (1:Int)))) (x9.set (Int.toNat (x4.getD x6.toNat (ByteArray.empty,(0:Int))).2) x0) (x10) (x11) (x12) (x13) (x14) (x15) (x16) (x17) (x18)) (none)) (none)) (none)) (none)) (none)) (none))) (none)) (none)) (cond (decide ((0:Int)≤(x4.getD x6.toNat (ByteArray.empty,(0:Int))).2)) (cond (decide ((x4.getD x6.toNat (ByteArray.empty,(0:Int))).2 < (↑x8.length:Int))) (cond (decide ((0:Int)≤(x4.getD x6.toNat (ByteArray.empty,(0:Int))).2)) (cond (decide ((x4.getD x6.toNat (ByteArray.empty,(0:Int))).2 < (↑x8.length:Int))) (cond (decide ((0:Int)≤(x4.getD x6.toNat (ByteArray.empty,(0:Int))).2)) (cond (decide ((x4.getD x6.toNat (ByteArray.empty,(0:Int))).2 < (↑x9.length:Int))) (lL16 (x0) (x1) (x2) (x3) (x4) (x5) (Go.IntKind.i64.wrap (x6 + (1:Int))) (x7) (x8.set (Int.toNat (x4.getD x6.toNat (ByteArray.empty,(0:Int))).2) (Go.IntKind.i64.wrap (x8.getD (Int.toNat (x4.getD x6.toNat (ByteArray.empty,(0:Int))).2) (0:Int) + (1:Int)))) (x9.set (Int.toNat (x4.getD x6.toNat (ByteArray.empty,(0:Int))).2) x0) (x10) (x11) (x12) (x13) (x14) (x15) (x16) (x17) (x18)) (none)) (none)) (none)) (none)) (none)) (none)))) (none)) (none)))) (none)) (none)) (lL6 (x1) (x2) (Go.IntKind.i64.wrap (x3 + (1:Int))) (x7) (x8) (x9))
noncomputable def st19_L36 (n:Nat) (lL36:Int→Int→(List NT)→Int→Int→(List Int)→(List Int)→Option R19) (lL25:(List NT)→Int→Int→(List Int)→(List Int)→Option R19) (x0:Int) (x1:Int) (x2:List NT) (x3:Int) (x4:Int) (x5:List Int) (x6:List Int):Option R19 :=
 cond (!decide (x0=(0:Int))) (cond (decide ((10:Int) < x1)) (some ((false,()),())) (cond (decide ((0:Int)≤x0)) (cond (decide (x0 < (↑x6.length:Int))) (lL36 (x6.getD x0.toNat (0:Int)) (Go.IntKind.i64.wrap (x1 + (1:Int))) (x2) (x3) (x4) (x5) (x6)) (none)) (none))) (lL25 (x2) (x3) (Go.IntKind.i64.wrap (x4 + (1:Int))) (x5) (x6))
noncomputable def st19_L25 (n:Nat) (lL25:(List NT)→Int→Int→(List Int)→(List Int)→Option R19) (lL36:Int→Int→(List NT)→Int→Int→(List Int)→(List Int)→Option R19) (x0:List NT) (x1:Int) (x2:Int) (x3:List Int) (x4:List Int):Option R19 :=
 cond (decide (x2 < x1)) (cond (decide ((0:Int)≤x2)) (cond (decide (x2 < (↑x0.length:Int))) (cond (decide ((x0.getD x2.toNat ZN).1=(0:Int))) (lL25 (x0) (x1) (Go.IntKind.i64.wrap (x2 + (1:Int))) (x3) (x4)) (cond (decide ((0:Int)≤x2)) (cond (decide (x2 < (↑x3.length:Int))) (cond (!decide ((x0.getD x2.toNat ZN).2.2.2.2.1=x3.getD x2.toNat (0:Int))) (some ((false,()),())) (cond (decide ((x0.getD x2.toNat ZN).1=(1:Int))) (cond (decide ((x0.getD x2.toNat ZN).2.2.2.2.1=(0:Int))) (cond (decide ((x0.getD x2.toNat ZN).2.2.2.2.2.1=(0:Int))) (some ((false,()),())) (cond (decide ((x0.getD x2.toNat ZN).1=(2:Int))) (cond (decide ((0:Int) < x2)) (cond (!decide ((x0.getD x2.toNat ZN).2.2.2.2.1=(1:Int))) (some ((false,()),())) (cond (decide (x2=(0:Int))) (cond (!decide ((x0.getD x2.toNat ZN).2.2.2.2.1=(0:Int))) (some ((false,()),())) (cond (decide ((x0.getD x2.toNat ZN).1=(2:Int))) (lL36 (x2) ((0:Int)) (x0) (x1) (x2) (x3) (x4)) (lL25 (x0) (x1) (Go.IntKind.i64.wrap (x2 + (1:Int))) (x3) (x4)))) (cond (decide ((x0.getD x2.toNat ZN).1=(2:Int))) (lL36 (x2) ((0:Int)) (x0) (x1) (x2) (x3) (x4)) (lL25 (x0) (x1) (Go.IntKind.i64.wrap (x2 + (1:Int))) (x3) (x4))))) (cond (decide (x2=(0:Int))) (cond (!decide ((x0.getD x2.toNat ZN).2.2.2.2.1=(0:Int))) (some ((false,()),())) (cond (decide ((x0.getD x2.toNat ZN).1=(2:Int))) (lL36 (x2) ((0:Int)) (x0) (x1) (x2) (x3) (x4)) (lL25 (x0) (x1) (Go.IntKind.i64.wrap (x2 + (1:Int))) (x3) (x4)))) (cond (decide ((x0.getD x2.toNat ZN).1=(2:Int))) (lL36 (x2) ((0:Int)) (x0) (x1) (x2) (x3) (x4)) (lL25 (x0) (x1) (Go.IntKind.i64.wrap (x2 + (1:Int))) (x3) (x4))))) (cond (decide (x2=(0:Int))) (cond (!decide ((x0.getD x2.toNat ZN).2.2.2.2.1=(0:Int))) (some ((false,()),())) (cond (decide ((x0.getD x2.toNat ZN).1=(2:Int))) (lL36 (x2) ((0:Int)) (x0) (x1) (x2) (x3) (x4)) (lL25 (x0) (x1) (Go.IntKind.i64.wrap (x2 + (1:Int))) (x3) (x4)))) (cond (decide ((x0.getD x2.toNat ZN).1=(2:Int))) (lL36 (x2) ((0:Int)) (x0) (x1) (x2) (x3) (x4)) (lL25 (x0) (x1) (Go.IntKind.i64.wrap (x2 + (1:Int))) (x3) (x4)))))) (cond (decide ((x0.getD x2.toNat ZN).1=(2:Int))) (cond (decide ((0:Int) < x2)) (cond (!decide ((x0.getD x2.toNat ZN).2.2.2.2.1=(1:Int))) (some ((false,()),())) (cond (decide (x2=(0:Int))) (cond (!decide ((x0.getD x2.toNat ZN).2.2.2.2.1=(0:Int))) (some ((false,()),())) (cond (decide ((x0.getD x2.toNat ZN).1=(2:Int))) (lL36 (x2) ((0:Int)) (x0) (x1) (x2) (x3) (x4)) (lL25 (x0) (x1) (Go.IntKind.i64.wrap (x2 + (1:Int))) (x3) (x4)))) (cond (decide ((x0.getD x2.toNat ZN).1=(2:Int))) (lL36 (x2) ((0:Int)) (x0) (x1) (x2) (x3) (x4)) (lL25 (x0) (x1) (Go.IntKind.i64.wrap (x2 + (1:Int))) (x3) (x4))))) (cond (decide (x2=(0:Int))) (cond (!decide ((x0.getD x2.toNat ZN).2.2.2.2.1=(0:Int))) (some ((false,()),())) (cond (decide ((x0.getD x2.toNat ZN).1=(2:Int))) (lL36 (x2) ((0:Int)) (x0) (x1) (x2) (x3) (x4)) (lL25 (x0) (x1) (Go.IntKind.i64.wrap (x2 + (1:Int))) (x3) (x4)))) (cond (decide ((x0.getD x2.toNat ZN).1=(2:Int))) (lL36 (x2) ((0:Int)) (x0) (x1) (x2) (x3) (x4)) (lL25 (x0) (x1) (Go.IntKind.i64.wrap (x2 + (1:Int))) (x3) (x4))))) (cond (decide (x2=(0:Int))) (cond (!decide ((x0.getD x2.toNat ZN).2.2.2.2.1=(0:Int))) (some ((false,()),())) (cond (decide ((x0.getD x2.toNat ZN).1=(2:Int))) (lL36 (x2) ((0:Int)) (x0) (x1) (x2) (x3) (x4)) (lL25 (x0) (x1) (Go.IntKind.i64.wrap (x2 + (1:Int))) (x3) (x4)))) (cond (decide ((x0.getD x2.toNat ZN).1=(2:Int))) (lL36 (x2) ((0:Int)) (x0) (x1) (x2) (x3) (x4)) (lL25 (x0) (x1) (Go.IntKind.i64.wrap (x2 + (1:Int))) (x3) (x4)))))) (cond (decide ((x0.getD x2.toNat ZN).1=(2:Int))) (cond (decide ((0:Int) < x2)) (cond (!decide ((x0.getD x2.toNat ZN).2.2.2.2.1=(1:Int))) (some ((false,()),())) (cond (decide (x2=(0:Int))) (cond (!decide ((x0.getD x2.toNat ZN).2.2.2.2.1=(0:Int))) (some ((false,()),())) (cond (decide ((x0.getD x2.toNat ZN).1=(2:Int))) (lL36 (x2) ((0:Int)) (x0) (x1) (x2) (x3) (x4)) (lL25 (x0) (x1) (Go.IntKind.i64.wrap (x2 + (1:Int))) (x3) (x4)))) (cond (decide ((x0.getD x2.toNat ZN).1=(2:Int))) (lL36 (x2) ((0:Int)) (x0) (x1) (x2) (x3) (x4)) (lL25 (x0) (x1) (Go.IntKind.i64.wrap (x2 + (1:Int))) (x3) (x4))))) (cond (decide (x2=(0:Int))) (cond (!decide ((x0.getD x2.toNat ZN).2.2.2.2.1=(0:Int))) (some ((false,()),())) (cond (decide ((x0.getD x2.toNat ZN).1=(2:Int))) (lL36 (x2) ((0:Int)) (x0) (x1) (x2) (x3) (x4)) (lL25 (x0) (x1) (Go.IntKind.i64.wrap (x2 + (1:Int))) (x3) (x4)))) (cond (decide ((x0.getD x2.toNat ZN).1=(2:Int))) (lL36 (x2) ((0:Int)) (x0) (x1) (x2) (x3) (x4)) (lL25 (x0) (x1) (Go.IntKind.i64.wrap (x2 + (1:Int))) (x3) (x4))))) (cond (decide (x2=(0:Int))) (cond (!decide ((x0.getD x2.toNat ZN).2.2.2.2.1=(0:Int))) (some ((false,()),())) (cond (decide ((x0.getD x2.toNat ZN).1=(2:Int))) (lL36 (x2) ((0:Int)) (x0) (x1) (x2) (x3) (x4)) (lL25 (x0) (x1) (Go.IntKind.i64.wrap (x2 + (1:Int))) (x3) (x4)))) (cond (decide ((x0.getD x2.toNat ZN).1=(2:Int))) (lL36 (x2) ((0:Int)) (x0) (x1) (x2) (x3) (x4)) (lL25 (x0) (x1) (Go.IntKind.i64.wrap (x2 + (1:Int))) (x3) (x4))))))) (none)) (none))) (none)) (none)) (some ((true,()),()))
noncomputable def st19_L6 (n:Nat) (lL6:(List NT)→Int→Int→(List NT)→(List Int)→(List Int)→Option R19) (lL16:Int→(List NT)→Int→Int→(List (ByteArray × Int))→Int→Int→(List NT)→(List Int)→(List Int)→Int→Int→Int→Int→Int→Int→Bool→ByteArray→(List (ByteArray × Int))→Option R19) (lL25:(List NT)→Int→Int→(List Int)→(List Int)→Option R19) (x0:List NT) (x1:Int) (x2:Int) (x3:List NT) (x4:List Int) (x5:List Int):Option R19 :=
 cond (decide (x2 < x1)) (cond (decide ((0:Int)≤x2)) (cond (decide (x2 < (↑x0.length:Int))) (cond (decide ((x0.getD x2.toNat ZN).1=(0:Int))) ((q69 n (((x0.getD x2.toNat ZN).1,(x0.getD x2.toNat ZN).2.1,(x0.getD x2.toNat ZN).2.2.1,(x0.getD x2.toNat ZN).2.2.2.1,(x0.getD x2.toNat ZN).2.2.2.2.1,(x0.getD x2.toNat ZN).2.2.2.2.2.1,(x0.getD x2.toNat ZN).2.2.2.2.2.2.1,(x0.getD x2.toNat ZN).2.2.2.2.2.2.2.1,(x0.getD x2.toNat ZN).2.2.2.2.2.2.2.2),())).bind fun r1=>cond (!r1.1.1) (some ((false,()),())) (lL6 (x0) (x1) (Go.IntKind.i64.wrap (x2 + (1:Int))) (x3) (x4) (x5))) ((q61 n ((x0.getD x2.toNat ZN).1,(1:Int),(2:Int),())).bind fun r2=>cond (!r2.1.1) (some ((false,()),())) ((q61 n ((x0.getD x2.toNat ZN).2.1,(0:Int),(511:Int),())).bind fun r3=>cond (!r3.1.1) (some ((false,()),())) ((q61 n ((x0.getD x2.toNat ZN).2.2.1,(0:Int),(9:Int),())).bind fun r4=>cond (!r4.1.1) (some ((false,()),())) ((q61 n ((x0.getD x2.toNat ZN).2.2.2.1,(0:Int),(9:Int),())).bind fun r5=>cond (!r5.1.1) (some ((false,()),())) ((q61 n ((x0.getD x2.toNat ZN).2.2.2.2.2.1,(0:Int),(99:Int),())).bind fun r6=>cond (!r6.1.1) (some ((false,()),())) (cond (decide ((x0.getD x2.toNat ZN).1=(1:Int))) (cond (decide ((40:Int) < (↑(ByteArray.size (x0.getD x2.toNat ZN).2.2.2.2.2.2.2.1):Int))) (some ((false,()),())) (cond (decide ((0:Int) < (↑(List.length (x0.getD x2.toNat ZN).2.2.2.2.2.2.2.2):Int))) (some ((false,()),())) (cond (decide ((x0.getD x2.toNat ZN).1=(2:Int))) (cond (!ByteArray.toList (x0.getD x2.toNat ZN).2.2.2.2.2.2.2.1 == (ByteArray.mk #[]).toList) (some ((false,()),())) (cond ((x0.getD x2.toNat ZN).2.2.2.2.2.2.1) (some ((false,()),())) (cond (decide ((6:Int) < (↑(List.length (x0.getD x2.toNat ZN).2.2.2.2.2.2.2.2):Int))) (some ((false,()),())) (lL16 (x2) (x0) (x1) (x2) ((x0.getD x2.toNat ZN).2.2.2.2.2.2.2.2) ((↑(List.length (x0.getD x2.toNat ZN).2.2.2.2.2.2.2.2):Int)) ((0:Int)) (x3) (x4) (x5) ((x0.getD x2.toNat ZN).1) ((x0.getD x2.toNat ZN).2.1) ((x0.getD x2.toNat ZN).2.2.1) ((x0.getD x2.toNat ZN).2.2.2.1) ((x0.getD x2.toNat ZN).2.2.2.2.1) ((x0.getD x2.toNat ZN).2.2.2.2.2.1) ((x0.getD x2.toNat ZN).2.2.2.2.2.2.1) ((x0.getD x2.toNat ZN).2.2.2.2.2.2.2.1) ((x0.getD x2.toNat ZN).2.2.2.2.2.2.2.2))))) (lL16 (x2) (x0) (x1) (x2) ((x0.getD x2.toNat ZN).2.2.2.2.2.2.2.2) ((↑(List.length (x0.getD x2.toNat ZN).2.2.2.2.2.2.2.2):Int)) ((0:Int)) (x3) (x4) (x5) ((x0.getD x2.toNat ZN).1) ((x0.getD x2.toNat ZN).2.1) ((x0.getD x2.toNat ZN).2.2.1) ((x0.getD x2.toNat ZN).2.2.2.1) ((x0.getD x2.toNat ZN).2.2.2.2.1) ((x0.getD x2.toNat ZN).2.2.2.2.2.1) ((x0.getD x2.toNat ZN).2.2.2.2.2.2.1) ((x0.getD x2.toNat ZN).2.2.2.2.2.2.2.1) ((x0.getD x2.toNat ZN).2.2.2.2.2.2.2.2))))) (cond (decide ((x0.getD x2.toNat ZN).1=(2:Int))) (cond (!ByteArray.toList (x0.getD x2.toNat ZN).2.2.2.2.2.2.2.1 == (ByteArray.mk #[]).toList) (some ((false,()),())) (cond ((x0.getD x2.toNat ZN).2.2.2.2.2.2.1) (some ((false,()),())) (cond (decide ((6:Int) < (↑(List.length (x0.getD x2.toNat ZN).2.2.2.2.2.2.2.2):Int))) (some ((false,()),())) (lL16 (x2) (x0) (x1) (x2) ((x0.getD x2.toNat ZN).2.2.2.2.2.2.2.2) ((↑(List.length (x0.getD x2.toNat ZN).2.2.2.2.2.2.2.2):Int)) ((0:Int)) (x3) (x4) (x5) ((x0.getD x2.toNat ZN).1) ((x0.getD x2.toNat ZN).2.1) ((x0.getD x2.toNat ZN).2.2.1) ((x0.getD x2.toNat ZN).2.2.2.1) ((x0.getD x2.toNat ZN).2.2.2.2.1) ((x0.getD x2.toNat ZN).2.2.2.2.2.1) ((x0.getD x2.toNat ZN).2.2.2.2.2.2.1) ((x0.getD x2.toNat ZN).2.2.2.2.2.2.2.1) ((x0.getD x2.toNat ZN).2.2.2.2.2.2.2.2))))) (lL16 (x2) (x0) (x1) (x2) ((x0.getD x2.toNat ZN).2.2.2.2.2.2.2.2) ((↑(List.length (x0.getD x2.toNat ZN).2.2.2.2.2.2.2.2):Int)) ((0:Int)) (x3) (x4) (x5) ((x0.getD x2.toNat ZN).1) ((x0.getD x2.toNat ZN).2.1) ((x0.getD x2.toNat ZN).2.2.1) ((x0.getD x2.toNat ZN).2.2.2.1) ((x0.getD x2.toNat ZN).2.2.2.2.1) ((x0.getD x2.toNat ZN).2.2.2.2.2.1) ((x0.getD x2.toNat ZN).2.2.2.2.2.2.1) ((x0.getD x2.toNat ZN).2.2.2.2.2.2.2.1) ((x0.getD x2.toNat ZN).2.2.2.2.2.2.2.2)))))))))) (none)) (none)) (lL25 (x3) ((↑x3.length:Int)) ((0:Int)) (x4) (x5))
theorem e19_top (n:Nat) (a:List NT):runF TT G19 an19 Try.f19 c19 ps19 rs19 n (a,())=st19_top n (fun x0 x1 x2 x3 x4 x5=>at19 n (.head 6) [n] (sh19_L6 x0 x1 x2 x3 x4 x5)) a:=by kernel_rfl
theorem e19_L16_0 (n:Nat) (m6:Nat) (x0:Int) (x1:List NT) (x2:Int) (x3:Int) (x4:List (ByteArray × Int)) (x5:Int) (x6:Int) (x7:List NT) (x8:List Int) (x9:List Int) (x10:Int) (x11:Int) (x12:Int) (x13:Int) (x14:Int) (x15:Int) (x16:Bool) (x17:ByteArray) (x18:List (ByteArray × Int)):at19 n (.head 16) [m6,0] (sh19_L16 x0 x1 x2 x3 x4 x5 x6 x7 x8 x9 x10 x11 x12 x13 x14 x15 x16 x17 x18)=none:=by kernel_rfl
theorem e19_L16 (n:Nat) (m6:Nat) (m16:Nat) (x0:Int) (x1:List NT) (x2:Int) (x3:Int) (x4:List (ByteArray × Int)) (x5:Int) (x6:Int) (x7:List NT) (x8:List Int) (x9:List Int) (x10:Int) (x11:Int) (x12:Int) (x13:Int) (x14:Int) (x15:Int) (x16:Bool) (x17:ByteArray) (x18:List (ByteArray × Int)):at19 n (.head 16) [m6,m16 + 1] (sh19_L16 x0 x1 x2 x3 x4 x5 x6 x7 x8 x9 x10 x11 x12 x13 x14 x15 x16 x17 x18)=st19_L16 n (fun x0 x1 x2 x3 x4 x5 x6 x7 x8 x9 x10 x11 x12 x13 x14 x15 x16 x17 x18=>at19 n (.head 16) [m6,m16] (sh19_L16 x0 x1 x2 x3 x4 x5 x6 x7 x8 x9 x10 x11 x12 x13 x14 x15 x16 x17 x18)) (fun x0 x1 x2 x3 x4 x5=>at19 n (.head 6) [m6] (sh19_L6 x0 x1 x2 x3 x4 x5)) x0 x1 x2 x3 x4 x5 x6 x7 x8 x9 x10 x11 x12 x13 x14 x15 x16 x17 x18:=by kernel_rfl
theorem e19_L36_0 (n:Nat) (m25:Nat) (x0:Int) (x1:Int) (x2:List NT) (x3:Int) (x4:Int) (x5:List Int) (x6:List Int):at19 n (.head 36) [m25,0] (sh19_L36 x0 x1 x2 x3 x4 x5 x6)=none:=by kernel_rfl
theorem e19_L36 (n:Nat) (m25:Nat) (m36:Nat) (x0:Int) (x1:Int) (x2:List NT) (x3:Int) (x4:Int) (x5:List Int) (x6:List Int):at19 n (.head 36) [m25,m36 + 1] (sh19_L36 x0 x1 x2 x3 x4 x5 x6)=st19_L36 n (fun x0 x1 x2 x3 x4 x5 x6=>at19 n (.head 36) [m25,m36] (sh19_L36 x0 x1 x2 x3 x4 x5 x6)) (fun x0 x1 x2 x3 x4=>at19 n (.head 25) [m25] (sh19_L25 x0 x1 x2 x3 x4)) x0 x1 x2 x3 x4 x5 x6:=by kernel_rfl
theorem e19_L25_0 (n:Nat) (x0:List NT) (x1:Int) (x2:Int) (x3:List Int) (x4:List Int):at19 n (.head 25) [0] (sh19_L25 x0 x1 x2 x3 x4)=none:=by kernel_rfl
theorem e19_L25 (n:Nat) (m25:Nat) (x0:List NT) (x1:Int) (x2:Int) (x3:List Int) (x4:List Int):at19 n (.head 25) [m25 + 1] (sh19_L25 x0 x1 x2 x3 x4)=st19_L25 n (fun x0 x1 x2 x3 x4=>at19 n (.head 25) [m25] (sh19_L25 x0 x1 x2 x3 x4)) (fun x0 x1 x2 x3 x4 x5 x6=>at19 n (.head 36) [m25,n] (sh19_L36 x0 x1 x2 x3 x4 x5 x6)) x0 x1 x2 x3 x4:=by kernel_rfl
theorem e19_L6_0 (n:Nat) (x0:List NT) (x1:Int) (x2:Int) (x3:List NT) (x4:List Int) (x5:List Int):at19 n (.head 6) [0] (sh19_L6 x0 x1 x2 x3 x4 x5)=none:=by kernel_rfl
theorem e19_L6 (n:Nat) (m6:Nat) (x0:List NT) (x1:Int) (x2:Int) (x3:List NT) (x4:List Int) (x5:List Int):at19 n (.head 6) [m6 + 1] (sh19_L6 x0 x1 x2 x3 x4 x5)=st19_L6 n (fun x0 x1 x2 x3 x4 x5=>at19 n (.head 6) [m6] (sh19_L6 x0 x1 x2 x3 x4 x5)) (fun x0 x1 x2 x3 x4 x5 x6 x7 x8 x9 x10 x11 x12 x13 x14 x15 x16 x17 x18=>at19 n (.head 16) [m6,n] (sh19_L16 x0 x1 x2 x3 x4 x5 x6 x7 x8 x9 x10 x11 x12 x13 x14 x15 x16 x17 x18)) (fun x0 x1 x2 x3 x4=>at19 n (.head 25) [n] (sh19_L25 x0 x1 x2 x3 x4)) x0 x1 x2 x3 x4 x5:=by kernel_rfl
noncomputable def p19_L16 (g6:(List NT)→Int→Int→(List NT)→(List Int)→(List Int)→Option R19) (n:Nat):Nat→Int→(List NT)→Int→Int→(List (ByteArray × Int))→Int→Int→(List NT)→(List Int)→(List Int)→Int→Int→Int→Int→Int→Int→Bool→ByteArray→(List (ByteArray × Int))→Option R19
 | 0,_,_,_,_,_,_,_,_,_,_,_,_,_,_,_,_,_,_,_=>none
 | m + 1,x0,x1,x2,x3,x4,x5,x6,x7,x8,x9,x10,x11,x12,x13,x14,x15,x16,x17,x18=>st19_L16 n (p19_L16 g6 n m) g6 x0 x1 x2 x3 x4 x5 x6 x7 x8 x9 x10 x11 x12 x13 x14 x15 x16 x17 x18
noncomputable def p19_L36 (g25:(List NT)→Int→Int→(List Int)→(List Int)→Option R19) (n:Nat):Nat→Int→Int→(List NT)→Int→Int→(List Int)→(List Int)→Option R19
 | 0,_,_,_,_,_,_,_=>none
 | m + 1,x0,x1,x2,x3,x4,x5,x6=>st19_L36 n (p19_L36 g25 n m) g25 x0 x1 x2 x3 x4 x5 x6
noncomputable def p19_L25 (n:Nat):Nat→(List NT)→Int→Int→(List Int)→(List Int)→Option R19
 | 0,_,_,_,_,_=>none
 | m + 1,x0,x1,x2,x3,x4=>st19_L25 n (p19_L25 n m) (p19_L36 (p19_L25 n m) n n) x0 x1 x2 x3 x4
noncomputable def p19_L6 (n:Nat):Nat→(List NT)→Int→Int→(List NT)→(List Int)→(List Int)→Option R19
 | 0,_,_,_,_,_,_=>none
 | m + 1,x0,x1,x2,x3,x4,x5=>st19_L6 n (p19_L6 n m) (p19_L16 (p19_L6 n m) n n) (p19_L25 n n) x0 x1 x2 x3 x4 x5
noncomputable def p19 (n:Nat) (a:List NT):Option R19:=st19_top n (p19_L6 n n) a
theorem t19_L16 (n:Nat) (m6:Nat):∀ (m16:Nat) (x0:Int) (x1:List NT) (x2:Int) (x3:Int) (x4:List (ByteArray × Int)) (x5:Int) (x6:Int) (x7:List NT) (x8:List Int) (x9:List Int) (x10:Int) (x11:Int) (x12:Int) (x13:Int) (x14:Int) (x15:Int) (x16:Bool) (x17:ByteArray) (x18:List (ByteArray × Int)),at19 n (.head 16) [m6,m16] (sh19_L16 x0 x1 x2 x3 x4 x5 x6 x7 x8 x9 x10 x11 x12 x13 x14 x15 x16 x17 x18)=p19_L16 (fun x0 x1 x2 x3 x4 x5=>at19 n (.head 6) [m6] (sh19_L6 x0 x1 x2 x3 x4 x5)) n m16 x0 x1 x2 x3 x4 x5 x6 x7 x8 x9 x10 x11 x12 x13 x14 x15 x16 x17 x18:=by
 intro m
 induction m with
 | zero=>intros; rw [e19_L16_0]; rfl
 | succ m ih =>
  intros
  rw [e19_L16]
  try simp only [ih]
  rfl
theorem t19_L36 (n:Nat) (m25:Nat):∀ (m36:Nat) (x0:Int) (x1:Int) (x2:List NT) (x3:Int) (x4:Int) (x5:List Int) (x6:List Int),at19 n (.head 36) [m25,m36] (sh19_L36 x0 x1 x2 x3 x4 x5 x6)=p19_L36 (fun x0 x1 x2 x3 x4=>at19 n (.head 25) [m25] (sh19_L25 x0 x1 x2 x3 x4)) n m36 x0 x1 x2 x3 x4 x5 x6:=by
 intro m
 induction m with
 | zero=>intros; rw [e19_L36_0]; rfl
 | succ m ih =>
  intros
  rw [e19_L36]
  try simp only [ih]
  rfl
theorem t19_L25 (n:Nat):∀ (m25:Nat) (x0:List NT) (x1:Int) (x2:Int) (x3:List Int) (x4:List Int),at19 n (.head 25) [m25] (sh19_L25 x0 x1 x2 x3 x4)=p19_L25 n m25 x0 x1 x2 x3 x4:=by
 intro m
 induction m with
 | zero=>intros; rw [e19_L25_0]; rfl
 | succ m ih =>
  intros
  rw [e19_L25]
  try simp only [t19_L36,ih]
  rfl
theorem t19_L6 (n:Nat):∀ (m6:Nat) (x0:List NT) (x1:Int) (x2:Int) (x3:List NT) (x4:List Int) (x5:List Int),at19 n (.head 6) [m6] (sh19_L6 x0 x1 x2 x3 x4 x5)=p19_L6 n m6 x0 x1 x2 x3 x4 x5:=by
 intro m
 induction m with
 | zero=>intros; rw [e19_L6_0]; rfl
 | succ m ih =>
  intros
  rw [e19_L6]
  try simp only [t19_L16,t19_L25,ih]
  rfl
theorem F19_eq (n:Nat) (a:List NT):runF TT G19 an19 Try.f19 c19 ps19 rs19 n (a,())=p19 n a:=by
 rw [e19_top]
 simp only [t19_L6]
 try rfl
noncomputable def q19 (n:Nat) (x:argsD ps19):Option R19:=p19 n x.1
noncomputable def Sm19:Sm:=⟨ps19,rs19,false,q19⟩
theorem holds19 (hg:GamOK Try.prog G19):Holds Try.prog 19 Sm19:=by
 have:=h0_19 hg
 have e:(runF TT G19 an19 Try.f19 c19 ps19 rs19)=q19:=by
  funext n x
  exact F19_eq n x.1
 rw [e] at this
 exact this
theorem gam19:GamOK Try.prog G19:=by
 intro f s h
 unfold G19 at h
 split at h
 ·injection h with h; subst h; exact ⟨⟨Try.f70,c70,Try.func70,by kernel_rfl,by decide +kernel⟩,hh70⟩
 ·injection h with h; subst h; exact ⟨⟨Try.f61,c61,Try.func61,by kernel_rfl,by decide +kernel⟩,hh61⟩
 ·injection h with h; subst h; exact ⟨⟨Try.f69,c69,Try.func69,by kernel_rfl,by decide +kernel⟩,hh69⟩
 ·cases h
theorem hh19:Holds Try.prog 19 Sm19:=holds19 gam19
end Go.Proofs.Ytbjgiioppmkpiaa.Rx.S

