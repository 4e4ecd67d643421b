/- What the functions of this seat compute, each as a plain function on lists and numbers, with the proof that a call answers so. No condition. -/
import Derived.Test.YtpcohpkflkhfbaaProg
import Derived.KernelRfl
import Derived.WalkKit
import Derived.Deep.LoopGhost
import Derived.Lib.Walk
import Derived.Test.YtpcohpkflkhfbaaRxK3
set_option linter.unusedVariables false
set_option linter.unusedSimpArgs false
namespace Go.Proofs.Ytpcohpkflkhfbaa.Rx.S
open Go Go.RowKit Go.Proofs
def tbl:List (TypeId × TI):=[
(2,⟨.int .i64,1,8,[.int .i64],some (.int .i64),false⟩),
(3,⟨.int .i64,1,8,[.int .i64],some (.int .i64),false⟩),
(4,⟨.bool,1,1,[.bool],some .bool,false⟩),
(5,⟨.int .u8,1,1,[.int .u8],some (.int .u8),false⟩),
(6,⟨.int .u8,1,1,[.int .u8],some (.int .u8),false⟩),
(7,⟨.struct [(0,1),(1,1),(2,1),(3,1)],4,24,[.int .i64,.int .i64,.bool,.int .u8],some (.pair (.int .i64) (.pair (.int .i64) (.pair .bool (.int .u8)))),true⟩),
(8,⟨.struct [(0,1),(1,1),(2,1),(3,1)],4,24,[.int .i64,.int .i64,.bool,.int .u8],some (.pair (.int .i64) (.pair (.int .i64) (.pair .bool (.int .u8)))),true⟩),
(9,⟨.str,1,16,[.str],some .str,false⟩),
(10,⟨.str,1,16,[.str],some .str,false⟩),
(11,⟨.str,1,16,[.str],some .str,false⟩),
(12,⟨.int .u64,1,8,[.int .u64],some (.int .u64),false⟩),
(13,⟨.struct [(0,1),(1,1)],2,24,[.str,.int .u64],some (.pair .str (.int .u64)),false⟩),
(14,⟨.struct [(0,1),(1,1)],2,24,[.str,.int .u64],some (.pair .str (.int .u64)),false⟩),
(15,⟨.ptr,1,8,[.ptr],none,false⟩),
(16,⟨.ptr,1,8,[.ptr],none,false⟩),
(17,⟨.ptr,1,8,[.ptr],none,false⟩),
(18,⟨.struct [(0,1)],1,8,[.ptr],none,false⟩),
(19,⟨.struct [(0,1)],1,8,[.ptr],none,false⟩),
(21,⟨.int .i32,1,4,[.int .i32],some (.int .i32),false⟩),
(22,⟨.slice 4,1,24,[.slice],some (.row 4 .bool),false⟩),
(23,⟨.slice 3,1,24,[.slice],some (.row 3 (.int .i64)),false⟩),
(24,⟨.struct [(0,1),(1,1),(2,1)],3,72,[.slice,.slice,.slice],some (.pair (.row 4 .bool) (.pair (.row 4 .bool) (.row 3 (.int .i64)))),false⟩),
(25,⟨.struct [(0,1),(1,1),(2,1)],3,72,[.slice,.slice,.slice],some (.pair (.row 4 .bool) (.pair (.row 4 .bool) (.row 3 (.int .i64)))),false⟩),
(27,⟨.struct [(0,1),(1,1),(2,1)],3,72,[.slice,.slice,.slice],some (.pair (.row 4 .bool) (.pair (.row 4 .bool) (.row 3 (.int .i64)))),false⟩),
(37,⟨.slice 5,1,24,[.slice],some (.row 5 (.int .u8)),false⟩),
(38,⟨.slice 51,1,24,[.slice],some (.row 51 (.pair (.int .i64) (.pair (.int .i64) (.pair (.int .i64) .bool)))),false⟩),
(39,⟨.struct [(0,1),(1,1),(2,1)],3,56,[.int .i64,.slice,.slice],some (.pair (.int .i64) (.pair (.row 51 (.pair (.int .i64) (.pair (.int .i64) (.pair (.int .i64) .bool)))) (.row 3 (.int .i64)))),false⟩),
(40,⟨.struct [(0,1),(1,1),(2,1)],3,56,[.int .i64,.slice,.slice],some (.pair (.int .i64) (.pair (.row 51 (.pair (.int .i64) (.pair (.int .i64) (.pair (.int .i64) .bool)))) (.row 3 (.int .i64)))),false⟩),
(50,⟨.struct [(0,1),(1,1),(2,1),(3,1)],4,32,[.int .i64,.int .i64,.int .i64,.bool],some (.pair (.int .i64) (.pair (.int .i64) (.pair (.int .i64) .bool))),true⟩),
(51,⟨.struct [(0,1),(1,1),(2,1),(3,1)],4,32,[.int .i64,.int .i64,.int .i64,.bool],some (.pair (.int .i64) (.pair (.int .i64) (.pair (.int .i64) .bool))),true⟩),
(55,⟨.slice 127,1,24,[.slice],some (.row 127 (.pair (.int .i64) (.pair (.int .i64) (.pair (.int .i64) .bool)))),false⟩),
(56,⟨.struct [(0,1),(1,1),(2,1)],3,56,[.int .i64,.slice,.slice],some (.pair (.int .i64) (.pair (.row 127 (.pair (.int .i64) (.pair (.int .i64) (.pair (.int .i64) .bool)))) (.row 3 (.int .i64)))),false⟩),
(57,⟨.struct [(0,1),(1,1),(2,1)],3,56,[.int .i64,.slice,.slice],some (.pair (.int .i64) (.pair (.row 127 (.pair (.int .i64) (.pair (.int .i64) (.pair (.int .i64) .bool)))) (.row 3 (.int .i64)))),false⟩),
(66,⟨.slice 111,1,24,[.slice],some (.row 111 (.pair (.int .i64) (.pair (.int .i64) (.pair (.int .i64) .bool)))),false⟩),
(67,⟨.struct [(0,1),(1,1)],2,32,[.slice,.int .i64],some (.pair (.row 111 (.pair (.int .i64) (.pair (.int .i64) (.pair (.int .i64) .bool)))) (.int .i64)),false⟩),
(68,⟨.struct [(0,1),(1,1)],2,32,[.slice,.int .i64],some (.pair (.row 111 (.pair (.int .i64) (.pair (.int .i64) (.pair (.int .i64) .bool)))) (.int .i64)),false⟩),
(76,⟨.slice 139,1,24,[.slice],some (.row 139 (.pair (.int .i64) (.pair (.int .i64) (.pair (.int .i64) .bool)))),false⟩),
(77,⟨.struct [(0,1),(1,1)],2,32,[.slice,.int .i64],some (.pair (.row 139 (.pair (.int .i64) (.pair (.int .i64) (.pair (.int .i64) .bool)))) (.int .i64)),false⟩),
(78,⟨.struct [(0,1),(1,1)],2,32,[.slice,.int .i64],some (.pair (.row 139 (.pair (.int .i64) (.pair (.int .i64) (.pair (.int .i64) .bool)))) (.int .i64)),false⟩),
(95,⟨.ptr,1,8,[.ptr],none,false⟩),
(110,⟨.struct [(0,1),(1,1),(2,1),(3,1)],4,32,[.int .i64,.int .i64,.int .i64,.bool],some (.pair (.int .i64) (.pair (.int .i64) (.pair (.int .i64) .bool))),true⟩),
(111,⟨.struct [(0,1),(1,1),(2,1),(3,1)],4,32,[.int .i64,.int .i64,.int .i64,.bool],some (.pair (.int .i64) (.pair (.int .i64) (.pair (.int .i64) .bool))),true⟩),
(121,⟨.struct [(0,1),(1,1)],2,32,[.slice,.int .i64],some (.pair (.row 5 (.int .u8)) (.int .i64)),false⟩),
(122,⟨.struct [(0,1),(1,1)],2,32,[.slice,.int .i64],some (.pair (.row 5 (.int .u8)) (.int .i64)),false⟩),
(125,⟨.ptr,1,8,[.ptr],none,false⟩),
(127,⟨.struct [(0,1),(1,1),(2,1),(3,1)],4,32,[.int .i64,.int .i64,.int .i64,.bool],some (.pair (.int .i64) (.pair (.int .i64) (.pair (.int .i64) .bool))),true⟩),
(137,⟨.int .u64,1,8,[.int .u64],some (.int .u64),false⟩),
(139,⟨.struct [(0,1),(1,1),(2,1),(3,1)],4,32,[.int .i64,.int .i64,.int .i64,.bool],some (.pair (.int .i64) (.pair (.int .i64) (.pair (.int .i64) .bool))),true⟩),
(143,⟨.int .i64,1,8,[.int .i64],some (.int .i64),false⟩),
(151,⟨.int .u32,1,4,[.int .u32],some (.int .u32),false⟩),
(153,⟨.int .u64,1,8,[.int .u64],some (.int .u64),false⟩),
(154,⟨.int .u64,1,8,[.int .u64],some (.int .u64),false⟩),
(158,⟨.ptr,1,8,[.ptr],none,false⟩),
(160,⟨.ptr,1,8,[.ptr],none,false⟩),
(164,⟨.struct [(0,1),(1,1),(2,1),(3,1)],4,40,[.ptr,.ptr,.ptr,.str],none,false⟩),
(165,⟨.struct [(0,1),(1,1),(2,1),(3,1)],4,40,[.ptr,.ptr,.ptr,.str],none,false⟩),
(167,⟨.struct [(0,0)],0,0,[],none,false⟩),
(168,⟨.struct [(0,0)],0,0,[],none,false⟩),
(170,⟨.int .u8,1,1,[.int .u8],some (.int .u8),false⟩),
(171,⟨.int .u8,1,1,[.int .u8],some (.int .u8),false⟩),
(173,⟨.ptr,1,8,[.ptr],none,false⟩),
(174,⟨.int .i32,1,4,[.int .i32],some (.int .i32),false⟩),
(175,⟨.int .i32,1,4,[.int .i32],some (.int .i32),false⟩),
(178,⟨.other,1,8,[.ptr],none,false⟩)]
def TT:TB:=tbOf tbl
theorem tt_ok:TBok Try.prog TT:=tbOk (by decide +kernel)
abbrev i64:Ty:=.int .i64
abbrev tTh:Ty:=.pair i64 (.pair i64 (.pair i64 .bool))
abbrev tRd:Ty:=.pair (.row 5 (.int .u8)) i64
theorem mixed:Try.prog.follows .mixedOrders=true:=by kernel_rfl
end Go.Proofs.Ytpcohpkflkhfbaa.Rx.S

namespace Go.Proofs.Ytpcohpkflkhfbaa.Rx.S
open Go Go.RowKit Go.Proofs
set_option maxRecDepth 100000
noncomputable def c57:Code:=(Try.f57.body.getD .skip)
def an57:An:=⟨fun _=>⟨[],[]⟩,fun _ _=>none⟩
abbrev ps57:List PK:=[.val i64 false,.val i64 false,.val i64 false]
abbrev rs57:List RK:=[.val .bool false]
abbrev R57:=retsD rs57 × outsD ps57
noncomputable def G57:Gam:=fun _=>none
theorem h0_57 (hg:GamOK Try.prog G57):Holds Try.prog 57 ⟨ps57,rs57,false,runF TT G57 an57 Try.f57 c57 ps57 rs57⟩:=holds_of tt_ok hg mixed Try.func57 (by kernel_rfl) (by rfl) (by decide +kernel)
noncomputable def st57_top (n:Nat) (a:Int) (b:Int) (c:Int):Option R57 :=
 cond (decide (b≤a)) (some ((decide (a≤c),()),())) (some ((false,()),()))
theorem e57_top (n:Nat) (a:Int) (b:Int) (c:Int):runF TT G57 an57 Try.f57 c57 ps57 rs57 n (a,b,c,())=st57_top n a b c:=by kernel_rfl
noncomputable def p57 (n:Nat) (a:Int) (b:Int) (c:Int):Option R57:=st57_top n a b c
theorem F57_eq (n:Nat) (a:Int) (b:Int) (c:Int):runF TT G57 an57 Try.f57 c57 ps57 rs57 n (a,b,c,())=p57 n a b c:=by
 rw [e57_top]
 skip
 try rfl
noncomputable def q57 (n:Nat) (x:argsD ps57):Option R57:=p57 n x.1 x.2.1 x.2.2.1
noncomputable def Sm57:Sm:=⟨ps57,rs57,false,q57⟩
theorem holds57 (hg:GamOK Try.prog G57):Holds Try.prog 57 Sm57:=by
 have:=h0_57 hg
 have e:(runF TT G57 an57 Try.f57 c57 ps57 rs57)=q57:=by
  funext n x
  exact F57_eq n x.1 x.2.1 x.2.2.1
 rw [e] at this
 exact this
theorem gam57:GamOK Try.prog G57:=fun _ _ h=>by cases h
theorem hh57:Holds Try.prog 57 Sm57:=holds57 gam57
end Go.Proofs.Ytpcohpkflkhfbaa.Rx.S

namespace Go.Proofs.Ytpcohpkflkhfbaa.Rx.S
open Go Go.RowKit Go.Proofs
set_option maxRecDepth 100000
noncomputable def c62:Code:=(Try.f62.body.getD .skip)
def an62:An:=⟨fun _=>⟨[],[]⟩,fun _ _=>none⟩
abbrev ps62:List PK:=[.val i64 false,.val i64 false,.val i64 false]
abbrev rs62:List RK:=[.val .bool false]
abbrev R62:=retsD rs62 × outsD ps62
noncomputable def G62:Gam:=fun _=>none
theorem h0_62 (hg:GamOK Try.prog G62):Holds Try.prog 62 ⟨ps62,rs62,false,runF TT G62 an62 Try.f62 c62 ps62 rs62⟩:=holds_of tt_ok hg mixed Try.func62 (by kernel_rfl) (by rfl) (by decide +kernel)
noncomputable def st62_top (n:Nat) (a:Int) (b:Int) (c:Int):Option R62 :=
 cond (decide (b≤a)) (some ((decide (a≤c),()),())) (some ((false,()),()))
theorem e62_top (n:Nat) (a:Int) (b:Int) (c:Int):runF TT G62 an62 Try.f62 c62 ps62 rs62 n (a,b,c,())=st62_top n a b c:=by kernel_rfl
noncomputable def p62 (n:Nat) (a:Int) (b:Int) (c:Int):Option R62:=st62_top n a b c
theorem F62_eq (n:Nat) (a:Int) (b:Int) (c:Int):runF TT G62 an62 Try.f62 c62 ps62 rs62 n (a,b,c,())=p62 n a b c:=by
 rw [e62_top]
 skip
 try rfl
noncomputable def q62 (n:Nat) (x:argsD ps62):Option R62:=p62 n x.1 x.2.1 x.2.2.1
noncomputable def Sm62:Sm:=⟨ps62,rs62,false,q62⟩
theorem holds62 (hg:GamOK Try.prog G62):Holds Try.prog 62 Sm62:=by
 have:=h0_62 hg
 have e:(runF TT G62 an62 Try.f62 c62 ps62 rs62)=q62:=by
  funext n x
  exact F62_eq n x.1 x.2.1 x.2.2.1
 rw [e] at this
 exact this
theorem gam62:GamOK Try.prog G62:=fun _ _ h=>by cases h
theorem hh62:Holds Try.prog 62 Sm62:=holds62 gam62
end Go.Proofs.Ytpcohpkflkhfbaa.Rx.S

namespace Go.Proofs.Ytpcohpkflkhfbaa.Rx.S
open Go Go.RowKit Go.Proofs
set_option maxRecDepth 100000
noncomputable def c81:Code:=(Try.f81.body.getD .skip)
def an81:An:=⟨fun _=>⟨[],[]⟩,fun _ _=>none⟩
abbrev ps81:List PK:=[.bx tRd,.val i64 false]
abbrev rs81:List RK:=[.val i64 false]
abbrev R81:=retsD rs81 × outsD ps81
noncomputable def G81:Gam:=fun _=>none
theorem h0_81 (hg:GamOK Try.prog G81):Holds Try.prog 81 ⟨ps81,rs81,true,runF TT G81 an81 Try.f81 c81 ps81 rs81⟩:=holds_of tt_ok hg mixed Try.func81 (by kernel_rfl) (by rfl) (by decide +kernel)
noncomputable def st81_top (n:Nat) (a:List Int × Int) (b:Int):Option R81 :=
 cond (decide (b < (1:Int))) (some (((0:Int),()),((a.1,Go.IntKind.i64.wrap (a.2 + (1:Int))),()))) (cond (decide ((↑(List.length a.1):Int)=(0:Int))) (some (((0:Int),()),((a.1,Go.IntKind.i64.wrap (a.2 + (1:Int))),()))) (cond (decide (Go.IntKind.i64.wrap (Go.IntKind.i64.wrap (a.2 + (1:Int)) - (1:Int)) < (↑(List.length a.1):Int))) (cond (decide ((0:Int)≤Go.IntKind.i64.wrap (Go.IntKind.i64.wrap (a.2 + (1:Int)) - (1:Int)))) (cond (decide (Go.IntKind.i64.wrap (Go.IntKind.i64.wrap (a.2 + (1:Int)) - (1:Int)) < (↑(List.length a.1):Int))) (cond (!decide (b=(0:Int))) (some (((Go.IntKind.i64.wrap (List.getD a.1 (Go.IntKind.i64.wrap (Go.IntKind.i64.wrap (a.2 + (1:Int)) - (1:Int))).toNat (0:Int))).tmod b,()),((a.1,Go.IntKind.i64.wrap (a.2 + (1:Int))),()))) (none)) (none)) (none)) (cond (!decide ((↑(List.length a.1):Int)=(0:Int))) (cond (decide ((0:Int)≤(Go.IntKind.i64.wrap (Go.IntKind.i64.wrap (a.2 + (1:Int)) - (1:Int))).tmod (↑(List.length a.1):Int))) (cond (decide ((Go.IntKind.i64.wrap (Go.IntKind.i64.wrap (a.2 + (1:Int)) - (1:Int))).tmod (↑(List.length a.1):Int) < (↑(List.length a.1):Int))) (cond (!decide ((↑(List.length a.1):Int)=(0:Int))) (cond (decide ((0:Int)≤(Go.IntKind.i64.wrap (Go.IntKind.i64.wrap (Go.IntKind.i64.wrap (Go.IntKind.i64.wrap (a.2 + (1:Int)) - (1:Int)) * (7:Int)) + (3:Int))).tmod (↑(List.length a.1):Int))) (cond (decide ((Go.IntKind.i64.wrap (Go.IntKind.i64.wrap (Go.IntKind.i64.wrap (Go.IntKind.i64.wrap (a.2 + (1:Int)) - (1:Int)) * (7:Int)) + (3:Int))).tmod (↑(List.length a.1):Int) < (↑(List.length a.1):Int))) (cond (!decide ((↑(List.length a.1):Int)=(0:Int))) (cond (!decide (b=(0:Int))) (some (((Go.IntKind.i64.wrap (↑(BitVec.ofInt Go.IntKind.i64.bits (Go.IntKind.i64.wrap (Go.IntKind.i64.wrap (Go.IntKind.i64.wrap (Go.IntKind.i64.wrap (Go.IntKind.i64.wrap (List.getD a.1 ((Go.IntKind.i64.wrap (Go.IntKind.i64.wrap (a.2 + (1:Int)) - (1:Int))).tmod (↑(List.length a.1):Int)).toNat (0:Int)) * (131:Int)) + Go.IntKind.i64.wrap (Go.IntKind.i64.wrap (List.getD a.1 ((Go.IntKind.i64.wrap (Go.IntKind.i64.wrap (Go.IntKind.i64.wrap (Go.IntKind.i64.wrap (a.2 + (1:Int)) - (1:Int)) * (7:Int)) + (3:Int))).tmod (↑(List.length a.1):Int)).toNat (0:Int)) * (1117:Int))) + Go.IntKind.i64.wrap (Go.IntKind.i64.wrap (Go.IntKind.i64.wrap (a.2 + (1:Int)) - (1:Int)) * (29:Int))) + Go.IntKind.i64.wrap (Go.IntKind.i64.wrap ((Go.IntKind.i64.wrap (Go.IntKind.i64.wrap (a.2 + (1:Int)) - (1:Int))).tdiv (↑(List.length a.1):Int)) * (53:Int)))) ^^^ BitVec.ofInt Go.IntKind.i64.bits (Go.IntKind.i64.wrap ((Go.IntKind.i64.wrap (Go.IntKind.i64.wrap (Go.IntKind.i64.wrap (Go.IntKind.i64.wrap (Go.IntKind.i64.wrap (List.getD a.1 ((Go.IntKind.i64.wrap (Go.IntKind.i64.wrap (a.2 + (1:Int)) - (1:Int))).tmod (↑(List.length a.1):Int)).toNat (0:Int)) * (131:Int)) + Go.IntKind.i64.wrap (Go.IntKind.i64.wrap (List.getD a.1 ((Go.IntKind.i64.wrap (Go.IntKind.i64.wrap (Go.IntKind.i64.wrap (Go.IntKind.i64.wrap (a.2 + (1:Int)) - (1:Int)) * (7:Int)) + (3:Int))).tmod (↑(List.length a.1):Int)).toNat (0:Int)) * (1117:Int))) + Go.IntKind.i64.wrap (Go.IntKind.i64.wrap (Go.IntKind.i64.wrap (a.2 + (1:Int)) - (1:Int)) * (29:Int))) + Go.IntKind.i64.wrap (Go.IntKind.i64.wrap ((Go.IntKind.i64.wrap (Go.IntKind.i64.wrap (a.2 + (1:Int)) - (1:Int))).tdiv (↑(List.length a.1):Int)) * (53:Int)))).tdiv (64:Int)))).toNat:Int)).tmod b,()),((a.1,Go.IntKind.i64.wrap (a.2 + (1:Int))),()))) (none)) (none)) (none)) (none)) (none)) (none)) (none)) (none))))
theorem e81_top (n:Nat) (a:List Int × Int) (b:Int):runF TT G81 an81 Try.f81 c81 ps81 rs81 n (a,b,())=st81_top n a b:=by kernel_rfl
noncomputable def p81 (n:Nat) (a:List Int × Int) (b:Int):Option R81:=st81_top n a b
theorem F81_eq (n:Nat) (a:List Int × Int) (b:Int):runF TT G81 an81 Try.f81 c81 ps81 rs81 n (a,b,())=p81 n a b:=by
 rw [e81_top]
 skip
 try rfl
noncomputable def q81 (n:Nat) (x:argsD ps81):Option R81:=p81 n x.1 x.2.1
noncomputable def Sm81:Sm:=⟨ps81,rs81,true,q81⟩
theorem holds81 (hg:GamOK Try.prog G81):Holds Try.prog 81 Sm81:=by
 have:=h0_81 hg
 have e:(runF TT G81 an81 Try.f81 c81 ps81 rs81)=q81:=by
  funext n x
  exact F81_eq n x.1 x.2.1
 rw [e] at this
 exact this
theorem gam81:GamOK Try.prog G81:=fun _ _ h=>by cases h
theorem hh81:Holds Try.prog 81 Sm81:=holds81 gam81
end Go.Proofs.Ytpcohpkflkhfbaa.Rx.S

namespace Go.Proofs.Ytpcohpkflkhfbaa.Rx.S
open Go Go.RowKit Go.Proofs
set_option maxRecDepth 100000
noncomputable def c73:Code:=(Try.f73.body.getD .skip)
def an73:An:=⟨fun _=>⟨[],[]⟩,fun _ _=>none⟩
abbrev ps73:List PK:=[.val (.row 5 (.int .u8)) false]
abbrev rs73:List RK:=[.bx tRd]
abbrev R73:=retsD rs73 × outsD ps73
noncomputable def G73:Gam:=fun _=>none
theorem h0_73 (hg:GamOK Try.prog G73):Holds Try.prog 73 ⟨ps73,rs73,true,runF TT G73 an73 Try.f73 c73 ps73 rs73⟩:=holds_of tt_ok hg mixed Try.func73 (by kernel_rfl) (by rfl) (by decide +kernel)
noncomputable def st73_top (n:Nat) (a:List Int):Option R73 :=
 cond (decide ((2000:Int) < (↑a.length:Int))) (cond (decide ((2000:Int)≤(↑a.length:Int))) (some (((List.take (Int.toNat (2000:Int)) a,(0:Int)),()),())) (none)) (some (((a,(0:Int)),()),()))
theorem e73_top (n:Nat) (a:List Int):runF TT G73 an73 Try.f73 c73 ps73 rs73 n (a,())=st73_top n a:=by kernel_rfl
noncomputable def p73 (n:Nat) (a:List Int):Option R73:=st73_top n a
theorem F73_eq (n:Nat) (a:List Int):runF TT G73 an73 Try.f73 c73 ps73 rs73 n (a,())=p73 n a:=by
 rw [e73_top]
 skip
 try rfl
noncomputable def q73 (n:Nat) (x:argsD ps73):Option R73:=p73 n x.1
noncomputable def Sm73:Sm:=⟨ps73,rs73,true,q73⟩
theorem holds73 (hg:GamOK Try.prog G73):Holds Try.prog 73 Sm73:=by
 have:=h0_73 hg
 have e:(runF TT G73 an73 Try.f73 c73 ps73 rs73)=q73:=by
  funext n x
  exact F73_eq n x.1
 rw [e] at this
 exact this
theorem gam73:GamOK Try.prog G73:=fun _ _ h=>by cases h
theorem hh73:Holds Try.prog 73 Sm73:=holds73 gam73
end Go.Proofs.Ytpcohpkflkhfbaa.Rx.S

namespace Go.Proofs.Ytpcohpkflkhfbaa.Rx.S
open Go Go.RowKit Go.Proofs
set_option maxRecDepth 100000
noncomputable def c48:Code:=(Try.f48.body.getD .skip)
def an48:An:=⟨fun r=>match r with | 2=>⟨[1,6,7,8],[]⟩ | _=>⟨[],[]⟩,fun _ _=>none⟩
abbrev ps48:List PK:=[.val (.pair (.row 111 tTh) i64) true]
abbrev rs48:List RK:=[.val .bool false]
abbrev R48:=retsD rs48 × outsD ps48
noncomputable def G48:Gam:=fun f=>match f with | 62=>some Sm62 | _=>none
theorem h0_48 (hg:GamOK Try.prog G48):Holds Try.prog 48 ⟨ps48,rs48,false,runF TT G48 an48 Try.f48 c48 ps48 rs48⟩:=holds_of tt_ok hg mixed Try.func48 (by kernel_rfl) (by rfl) (by decide +kernel)
noncomputable def at48:Nat→Pt→List Nat→St→Option R48:=atF TT G48 an48 Try.f48 c48 _ _
def sh48_L2 (x0:List (Int × Int × Int × Bool)) (x1:Int) (x2:Int) (x3:List (Int × Int × Int × Bool)) (x4:Int):St:=(St.mk (AV.undef :: ((AV.one (SV.bptr 1000000 0)) :: (AV.undef :: (AV.undef :: (AV.undef :: (AV.undef :: ((AV.one (SV.con (⟨111,(Ty.int Go.IntKind.i64).pair ((Ty.int Go.IntKind.i64).pair ((Ty.int Go.IntKind.i64).pair Ty.bool)),x0⟩:Rw))) :: ((AV.one (SV.int (Go.IntKind.i64) x1)) :: ((AV.one (SV.int (Go.IntKind.i64) x2)) :: (AV.undef :: (AV.undef :: (AV.undef :: (AV.undef :: (AV.undef :: (AV.undef :: (AV.undef :: (AV.undef :: (AV.undef :: (AV.undef :: (AV.undef :: (AV.undef :: (AV.undef :: (AV.undef :: (AV.undef :: (AV.undef :: (AV.undef :: (AV.undef :: (AV.undef :: (AV.undef :: (AV.undef :: (AV.undef :: (AV.undef :: (AV.undef :: (AV.undef :: (AV.undef :: (AV.undef :: (AV.undef :: (AV.undef :: (AV.undef :: (AV.undef :: (AV.undef :: (AV.undef :: (AV.undef :: (AV.undef :: (AV.undef :: (AV.undef :: (AV.undef :: (AV.undef :: (AV.undef :: (AV.undef :: (AV.undef :: (AV.undef :: (AV.undef :: (AV.undef :: (AV.undef :: (AV.undef :: (AV.undef :: (AV.undef :: (AV.undef :: (AV.undef :: (AV.undef :: (AV.undef :: (AV.undef :: (AV.undef :: (AV.undef :: (AV.undef :: [])))))))))))))))))))))))))))))))))))))))))))))))))))))))))))))))))) ((1000000,(Ent.box ((SV.con (⟨111,(Ty.int Go.IntKind.i64).pair ((Ty.int Go.IntKind.i64).pair ((Ty.int Go.IntKind.i64).pair Ty.bool)),x3⟩:Rw)) :: ((SV.int (Go.IntKind.i64) x4) :: [])))) :: []))
noncomputable def st48_top (n:Nat) (lL2:(List (Int × Int × Int × Bool))→Int→Int→(List (Int × Int × Int × Bool))→Int→Option R48) (a:List (Int × Int × Int × Bool) × Int):Option R48 :=
 lL2 (a.1) ((↑(List.length a.1):Int)) ((0:Int)) (a.1) (a.2)
noncomputable def st48_L2 (n:Nat) (lL2:(List (Int × Int × Int × Bool))→Int→Int→(List (Int × Int × Int × Bool))→Int→Option R48) (x0:List (Int × Int × Int × Bool)) (x1:Int) (x2:Int) (x3:List (Int × Int × Int × Bool)) (x4:Int):Option R48 :=
 cond (decide (x2 < x1)) (cond (decide ((0:Int)≤x2)) (cond (decide (x2 < (↑x0.length:Int))) ((q62 n ((x0.getD x2.toNat ((0:Int),(0:Int),(0:Int),false)).1,(0:Int),(99:Int),())).bind fun r1=>cond (!r1.1.1) (some ((false,()),())) ((q62 n ((x0.getD x2.toNat ((0:Int),(0:Int),(0:Int),false)).2.1,(1:Int),(6:Int),())).bind fun r2=>cond (!r2.1.1) (some ((false,()),())) ((q62 n ((x0.getD x2.toNat ((0:Int),(0:Int),(0:Int),false)).2.2.1,(0:Int),(1000000:Int),())).bind fun r3=>cond (!r3.1.1) (some ((false,()),())) (cond ((x0.getD x2.toNat ((0:Int),(0:Int),(0:Int),false)).2.2.2) (cond (decide ((x0.getD x2.toNat ((0:Int),(0:Int),(0:Int),false)).2.2.1 < x4)) (some ((false,()),())) (cond (decide ((0:Int) < x2)) (cond (decide ((0:Int)≤Go.IntKind.i64.wrap (x2 - (1:Int)))) (cond (decide (Go.IntKind.i64.wrap (x2 - (1:Int)) < (↑x3.length:Int))) (cond (decide ((x0.getD x2.toNat ((0:Int),(0:Int),(0:Int),false)).1≤(x3.getD (Go.IntKind.i64.wrap (x2 - (1:Int))).toNat ((0:Int),(0:Int),(0:Int),false)).1)) (some ((false,()),())) (lL2 (x0) (x1) (Go.IntKind.i64.wrap (x2 + (1:Int))) (x3) (x4))) (none)) (none)) (lL2 (x0) (x1) (Go.IntKind.i64.wrap (x2 + (1:Int))) (x3) (x4)))) (cond (decide ((0:Int) < x2)) (cond (decide ((0:Int)≤Go.IntKind.i64.wrap (x2 - (1:Int)))) (cond (decide (Go.IntKind.i64.wrap (x2 - (1:Int)) < (↑x3.length:Int))) (cond (decide ((x0.getD x2.toNat ((0:Int),(0:Int),(0:Int),false)).1≤(x3.getD (Go.IntKind.i64.wrap (x2 - (1:Int))).toNat ((0:Int),(0:Int),(0:Int),false)).1)) (some ((false,()),())) (lL2 (x0) (x1) (Go.IntKind.i64.wrap (x2 + (1:Int))) (x3) (x4))) (none)) (none)) (lL2 (x0) (x1) (Go.IntKind.i64.wrap (x2 + (1:Int))) (x3) (x4))))))) (none)) (none)) (cond (decide ((↑x3.length:Int)≤(6:Int))) ((q62 n (x4,(0:Int),(1000000:Int),())).bind fun r4=>some ((r4.1.1,()),())) (some ((false,()),())))
theorem e48_top (n:Nat) (a:List (Int × Int × Int × Bool) × Int):runF TT G48 an48 Try.f48 c48 ps48 rs48 n (a,())=st48_top n (fun x0 x1 x2 x3 x4=>at48 n (.head 2) [n] (sh48_L2 x0 x1 x2 x3 x4)) a:=by kernel_rfl
theorem e48_L2_0 (n:Nat) (x0:List (Int × Int × Int × Bool)) (x1:Int) (x2:Int) (x3:List (Int × Int × Int × Bool)) (x4:Int):at48 n (.head 2) [0] (sh48_L2 x0 x1 x2 x3 x4)=none:=by kernel_rfl
theorem e48_L2 (n:Nat) (m2:Nat) (x0:List (Int × Int × Int × Bool)) (x1:Int) (x2:Int) (x3:List (Int × Int × Int × Bool)) (x4:Int):at48 n (.head 2) [m2 + 1] (sh48_L2 x0 x1 x2 x3 x4)=st48_L2 n (fun x0 x1 x2 x3 x4=>at48 n (.head 2) [m2] (sh48_L2 x0 x1 x2 x3 x4)) x0 x1 x2 x3 x4:=by kernel_rfl
noncomputable def p48_L2 (n:Nat):Nat→(List (Int × Int × Int × Bool))→Int→Int→(List (Int × Int × Int × Bool))→Int→Option R48
 | 0,_,_,_,_,_=>none
 | m + 1,x0,x1,x2,x3,x4=>st48_L2 n (p48_L2 n m) x0 x1 x2 x3 x4
noncomputable def p48 (n:Nat) (a:List (Int × Int × Int × Bool) × Int):Option R48:=st48_top n (p48_L2 n n) a
theorem t48_L2 (n:Nat):∀ (m2:Nat) (x0:List (Int × Int × Int × Bool)) (x1:Int) (x2:Int) (x3:List (Int × Int × Int × Bool)) (x4:Int),at48 n (.head 2) [m2] (sh48_L2 x0 x1 x2 x3 x4)=p48_L2 n m2 x0 x1 x2 x3 x4:=by
 intro m
 induction m with
 | zero=>intros; rw [e48_L2_0]; rfl
 | succ m ih =>
  intros
  rw [e48_L2]
  simp only [ih]
  rfl
theorem F48_eq (n:Nat) (a:List (Int × Int × Int × Bool) × Int):runF TT G48 an48 Try.f48 c48 ps48 rs48 n (a,())=p48 n a:=by
 rw [e48_top]
 simp only [t48_L2]
 try rfl
noncomputable def q48 (n:Nat) (x:argsD ps48):Option R48:=p48 n x.1
noncomputable def Sm48:Sm:=⟨ps48,rs48,false,q48⟩
theorem holds48 (hg:GamOK Try.prog G48):Holds Try.prog 48 Sm48:=by
 have:=h0_48 hg
 have e:(runF TT G48 an48 Try.f48 c48 ps48 rs48)=q48:=by
  funext n x
  exact F48_eq n x.1
 rw [e] at this
 exact this
theorem gam48:GamOK Try.prog G48:=by
 intro f s h
 unfold G48 at h
 split at h
 ·injection h with h; subst h; exact ⟨⟨Try.f62,c62,Try.func62,by kernel_rfl,by decide +kernel⟩,hh62⟩
 ·cases h
theorem hh48:Holds Try.prog 48 Sm48:=holds48 gam48
end Go.Proofs.Ytpcohpkflkhfbaa.Rx.S

namespace Go.Proofs.Ytpcohpkflkhfbaa.Rx.S
open Go Go.RowKit Go.Proofs
set_option maxRecDepth 100000
noncomputable def c118:Code:=(Try.f118.body.getD .skip)
def an118:An:=⟨fun _=>⟨[],[]⟩,fun _ _=>none⟩
abbrev ps118:List PK:=[.val tTh true,.cp i64]
abbrev rs118:List RK:=[.val .bool false]
abbrev R118:=retsD rs118 × outsD ps118
noncomputable def G118:Gam:=fun _=>none
theorem h0_118 (hg:GamOK Try.prog G118):Holds Try.prog 118 ⟨ps118,rs118,false,runF TT G118 an118 Try.f118 c118 ps118 rs118⟩:=holds_of tt_ok hg mixed Try.func118 (by kernel_rfl) (by rfl) (by decide +kernel)
noncomputable def st118_top (n:Nat) (a:Int × Int × Int × Bool) (b:Int):Option R118 :=
 some ((decide (a.1=[b].getD (0:Nat) (0:Int)),()),())
theorem e118_top (n:Nat) (a:Int × Int × Int × Bool) (b:Int):runF TT G118 an118 Try.f118 c118 ps118 rs118 n (a,b,())=st118_top n a b:=by kernel_rfl
noncomputable def p118 (n:Nat) (a:Int × Int × Int × Bool) (b:Int):Option R118:=st118_top n a b
theorem F118_eq (n:Nat) (a:Int × Int × Int × Bool) (b:Int):runF TT G118 an118 Try.f118 c118 ps118 rs118 n (a,b,())=p118 n a b:=by
 rw [e118_top]
 skip
 try rfl
noncomputable def q118 (n:Nat) (x:argsD ps118):Option R118:=p118 n x.1 x.2.1
noncomputable def Sm118:Sm:=⟨ps118,rs118,false,q118⟩
theorem holds118 (hg:GamOK Try.prog G118):Holds Try.prog 118 Sm118:=by
 have:=h0_118 hg
 have e:(runF TT G118 an118 Try.f118 c118 ps118 rs118)=q118:=by
  funext n x
  exact F118_eq n x.1 x.2.1
 rw [e] at this
 exact this
theorem gam118:GamOK Try.prog G118:=fun _ _ h=>by cases h
theorem hh118:Holds Try.prog 118 Sm118:=holds118 gam118
end Go.Proofs.Ytpcohpkflkhfbaa.Rx.S

namespace Go.Proofs.Ytpcohpkflkhfbaa.Rx.S
open Go Go.RowKit Go.Proofs
set_option maxRecDepth 100000
noncomputable def c117:Code:=(Try.f117.body.getD .skip)
def an117:An:=⟨fun r=>match r with | 2=>⟨[0,1,7,8],[]⟩ | _=>⟨[],[]⟩,fun _ _=>none⟩
abbrev ps117:List PK:=[.val (.row 111 tTh) false,.fn 118 [i64]]
abbrev rs117:List RK:=[.val i64 false]
abbrev R117:=retsD rs117 × outsD ps117
noncomputable def G117:Gam:=fun f=>match f with | 118=>some Sm118 | _=>none
theorem h0_117 (hg:GamOK Try.prog G117):Holds Try.prog 117 ⟨ps117,rs117,false,runF TT G117 an117 Try.f117 c117 ps117 rs117⟩:=holds_of tt_ok hg mixed Try.func117 (by kernel_rfl) (by rfl) (by decide +kernel)
noncomputable def at117:Nat→Pt→List Nat→St→Option R117:=atF TT G117 an117 Try.f117 c117 _ _
def sh117_L2 (x0:List (Int × Int × Int × Bool)) (x1:Int) (x2:Int) (x3:Int):St:=(St.mk ((AV.one (SV.con (⟨111,(Ty.int Go.IntKind.i64).pair ((Ty.int Go.IntKind.i64).pair ((Ty.int Go.IntKind.i64).pair Ty.bool)),x0⟩:Rw))) :: ((AV.fn 118 ((SV.cptr (⟨0,Ty.int Go.IntKind.i64,[x1]⟩:Rw) 0 0) :: [])) :: (AV.undef :: (AV.undef :: (AV.undef :: (AV.undef :: (AV.undef :: ((AV.one (SV.int (Go.IntKind.i64) x2)) :: ((AV.one (SV.int (Go.IntKind.i64) x3)) :: (AV.undef :: (AV.undef :: (AV.undef :: (AV.undef :: (AV.undef :: (AV.undef :: (AV.undef :: (AV.undef :: (AV.undef :: (AV.undef :: []))))))))))))))))))) [])
noncomputable def st117_top (n:Nat) (lL2:(List (Int × Int × Int × Bool))→Int→Int→Int→Option R117) (a:List (Int × Int × Int × Bool)) (b:Int × Unit):Option R117 :=
 lL2 (a) (b.1) ((↑a.length:Int)) ((0:Int))
noncomputable def st117_L2 (n:Nat) (lL2:(List (Int × Int × Int × Bool))→Int→Int→Int→Option R117) (x0:List (Int × Int × Int × Bool)) (x1:Int) (x2:Int) (x3:Int):Option R117 :=
 cond (decide (x3 < x2)) (cond (decide ((0:Int)≤x3)) (cond (decide (x3 < (↑x0.length:Int))) ((q118 n (((x0.getD x3.toNat ((0:Int),(0:Int),(0:Int),false)).1,(x0.getD x3.toNat ((0:Int),(0:Int),(0:Int),false)).2.1,(x0.getD x3.toNat ((0:Int),(0:Int),(0:Int),false)).2.2.1,(x0.getD x3.toNat ((0:Int),(0:Int),(0:Int),false)).2.2.2),x1,())).bind fun r1=>cond (r1.1.1) (some ((x3,()),())) (lL2 (x0) (x1) (x2) (Go.IntKind.i64.wrap (x3 + (1:Int))))) (none)) (none)) (some (((-1:Int),()),()))
theorem e117_top (n:Nat) (a:List (Int × Int × Int × Bool)) (b:Int × Unit):runF TT G117 an117 Try.f117 c117 ps117 rs117 n (a,b,())=st117_top n (fun x0 x1 x2 x3=>at117 n (.head 2) [n] (sh117_L2 x0 x1 x2 x3)) a b:=by kernel_rfl
theorem e117_L2_0 (n:Nat) (x0:List (Int × Int × Int × Bool)) (x1:Int) (x2:Int) (x3:Int):at117 n (.head 2) [0] (sh117_L2 x0 x1 x2 x3)=none:=by kernel_rfl
theorem e117_L2 (n:Nat) (m2:Nat) (x0:List (Int × Int × Int × Bool)) (x1:Int) (x2:Int) (x3:Int):at117 n (.head 2) [m2 + 1] (sh117_L2 x0 x1 x2 x3)=st117_L2 n (fun x0 x1 x2 x3=>at117 n (.head 2) [m2] (sh117_L2 x0 x1 x2 x3)) x0 x1 x2 x3:=by kernel_rfl
noncomputable def p117_L2 (n:Nat):Nat→(List (Int × Int × Int × Bool))→Int→Int→Int→Option R117
 | 0,_,_,_,_=>none
 | m + 1,x0,x1,x2,x3=>st117_L2 n (p117_L2 n m) x0 x1 x2 x3
noncomputable def p117 (n:Nat) (a:List (Int × Int × Int × Bool)) (b:Int × Unit):Option R117:=st117_top n (p117_L2 n n) a b
theorem t117_L2 (n:Nat):∀ (m2:Nat) (x0:List (Int × Int × Int × Bool)) (x1:Int) (x2:Int) (x3:Int),at117 n (.head 2) [m2] (sh117_L2 x0 x1 x2 x3)=p117_L2 n m2 x0 x1 x2 x3:=by
 intro m
 induction m with
 | zero=>intros; rw [e117_L2_0]; rfl
 | succ m ih =>
  intros
  rw [e117_L2]
  simp only [ih]
  rfl
theorem F117_eq (n:Nat) (a:List (Int × Int × Int × Bool)) (b:Int × Unit):runF TT G117 an117 Try.f117 c117 ps117 rs117 n (a,b,())=p117 n a b:=by
 rw [e117_top]
 simp only [t117_L2]
 try rfl
noncomputable def q117 (n:Nat) (x:argsD ps117):Option R117:=p117 n x.1 x.2.1
noncomputable def Sm117:Sm:=⟨ps117,rs117,false,q117⟩
theorem holds117 (hg:GamOK Try.prog G117):Holds Try.prog 117 Sm117:=by
 have:=h0_117 hg
 have e:(runF TT G117 an117 Try.f117 c117 ps117 rs117)=q117:=by
  funext n x
  exact F117_eq n x.1 x.2.1
 rw [e] at this
 exact this
theorem gam117:GamOK Try.prog G117:=by
 intro f s h
 unfold G117 at h
 split at h
 ·injection h with h; subst h; exact ⟨⟨Try.f118,c118,Try.func118,by kernel_rfl,by decide +kernel⟩,hh118⟩
 ·cases h
theorem hh117:Holds Try.prog 117 Sm117:=holds117 gam117
end Go.Proofs.Ytpcohpkflkhfbaa.Rx.S

namespace Go.Proofs.Ytpcohpkflkhfbaa.Rx.S
open Go Go.RowKit Go.Proofs
set_option maxRecDepth 100000
noncomputable def c92:Code:=(Try.f92.body.getD .skip)
def an92:An:=⟨fun _=>⟨[],[]⟩,fun _ _=>none⟩
abbrev ps92:List PK:=[.val (.pair (.row 111 tTh) i64) true,.val i64 false]
abbrev rs92:List RK:=[.val i64 false]
abbrev R92:=retsD rs92 × outsD ps92
noncomputable def G92:Gam:=fun f=>match f with | 117=>some Sm117 | _=>none
theorem h0_92 (hg:GamOK Try.prog G92):Holds Try.prog 92 ⟨ps92,rs92,false,runF TT G92 an92 Try.f92 c92 ps92 rs92⟩:=holds_of tt_ok hg mixed Try.func92 (by kernel_rfl) (by rfl) (by decide +kernel)
noncomputable def st92_top (n:Nat) (a:List (Int × Int × Int × Bool) × Int) (b:Int):Option R92 :=
 (q117 n (a.1,(b,()),())).bind fun r0=>some ((r0.1.1,()),())
theorem e92_top (n:Nat) (a:List (Int × Int × Int × Bool) × Int) (b:Int):runF TT G92 an92 Try.f92 c92 ps92 rs92 n (a,b,())=st92_top n a b:=by kernel_rfl
noncomputable def p92 (n:Nat) (a:List (Int × Int × Int × Bool) × Int) (b:Int):Option R92:=st92_top n a b
theorem F92_eq (n:Nat) (a:List (Int × Int × Int × Bool) × Int) (b:Int):runF TT G92 an92 Try.f92 c92 ps92 rs92 n (a,b,())=p92 n a b:=by
 rw [e92_top]
 skip
 try rfl
noncomputable def q92 (n:Nat) (x:argsD ps92):Option R92:=p92 n x.1 x.2.1
noncomputable def Sm92:Sm:=⟨ps92,rs92,false,q92⟩
theorem holds92 (hg:GamOK Try.prog G92):Holds Try.prog 92 Sm92:=by
 have:=h0_92 hg
 have e:(runF TT G92 an92 Try.f92 c92 ps92 rs92)=q92:=by
  funext n x
  exact F92_eq n x.1 x.2.1
 rw [e] at this
 exact this
theorem gam92:GamOK Try.prog G92:=by
 intro f s h
 unfold G92 at h
 split at h
 ·injection h with h; subst h; exact ⟨⟨Try.f117,c117,Try.func117,by kernel_rfl,by decide +kernel⟩,hh117⟩
 ·cases h
theorem hh92:Holds Try.prog 92 Sm92:=holds92 gam92
end Go.Proofs.Ytpcohpkflkhfbaa.Rx.S

namespace Go.Proofs.Ytpcohpkflkhfbaa.Rx.S
open Go Go.RowKit Go.Proofs
set_option maxRecDepth 100000
noncomputable def c119:Code:=(Try.f119.body.getD .skip)
abbrev ps119:List PK:=[.val (.row 111 tTh) false]
abbrev rs119:List RK:=[.own (.row 111 tTh) false]
abbrev R119:=retsD rs119 × outsD ps119
noncomputable def p119 (n:Nat) (a:List (Int × Int × Int × Bool)):Option R119:=cond (decide ((0 + a.length) * (32:Nat)≤(140737488355328:Nat))) (some ((a,()),())) none
noncomputable def q119 (n:Nat) (x:argsD ps119):Option R119:=p119 n x.1
noncomputable def Sm119:Sm:=⟨ps119,rs119,false,q119⟩
noncomputable def S0_119 (n:Nat) (xs:List (Int × Int × Int × Bool)):St:=(initS Try.f119.ntmps ps119 (xs,())).put (some 2) (.one .nil)
noncomputable def S1_119 (n:Nat) (xs:List (Int × Int × Int × Bool)):St:=(S0_119 n xs).put (some 3) (.one (.con ⟨111,tTh,xs⟩))
theorem gam0_119:GamOK Try.prog (fun _=>none):=fun f s h=>by cases h
theorem hh119:Holds Try.prog 119 Sm119:=by
 refine holds_nilq tt_ok gam0_119 mixed (an:=⟨fun _=>⟨[],[]⟩,fun _ _=>none⟩) Try.func119 (by rfl) rfl (by first | exact Try.underlying66 | kernel_rfl) (by decide +kernel) S0_119 (fun n xs=>by kernel_rfl) S1_119 (fun n xs=>by kernel_rfl) (fun n xs=>rfl) (fun n xs b=>by kernel_rfl) (fun n y h=>?_) (fun n xs y h=>?_)
 ·have h':some (([],()),())=some y:=h
  refine Eq.trans ?_ h'
  kernel_rfl
 ·have h':cond (decide ((0 + xs.length) * (32:Nat)≤(140737488355328:Nat))) (some ((xs,()),())) none=some y:=h
  refine Eq.trans ?_ h'
  kernel_rfl
end Go.Proofs.Ytpcohpkflkhfbaa.Rx.S

namespace Go.Proofs.Ytpcohpkflkhfbaa.Rx.S
open Go Go.RowKit Go.Proofs
set_option maxRecDepth 100000
noncomputable def c93:Code:=(Try.f93.body.getD .skip)
def an93:An:=⟨fun _=>⟨[],[]⟩,fun _ _=>none⟩
abbrev ps93:List PK:=[.val (.pair (.row 111 tTh) i64) true]
abbrev rs93:List RK:=[.own (.pair (.row 111 tTh) i64) true]
abbrev R93:=retsD rs93 × outsD ps93
noncomputable def G93:Gam:=fun f=>match f with | 119=>some Sm119 | _=>none
theorem h0_93 (hg:GamOK Try.prog G93):Holds Try.prog 93 ⟨ps93,rs93,false,runF TT G93 an93 Try.f93 c93 ps93 rs93⟩:=holds_of tt_ok hg mixed Try.func93 (by kernel_rfl) (by rfl) (by decide +kernel)
noncomputable def st93_top (n:Nat) (a:List (Int × Int × Int × Bool) × Int):Option R93 :=
 (q119 n (a.1,())).bind fun r0=>some (((r0.1.1,a.2),()),())
theorem e93_top (n:Nat) (a:List (Int × Int × Int × Bool) × Int):runF TT G93 an93 Try.f93 c93 ps93 rs93 n (a,())=st93_top n a:=by kernel_rfl
noncomputable def p93 (n:Nat) (a:List (Int × Int × Int × Bool) × Int):Option R93:=st93_top n a
theorem F93_eq (n:Nat) (a:List (Int × Int × Int × Bool) × Int):runF TT G93 an93 Try.f93 c93 ps93 rs93 n (a,())=p93 n a:=by
 rw [e93_top]
 skip
 try rfl
noncomputable def q93 (n:Nat) (x:argsD ps93):Option R93:=p93 n x.1
noncomputable def Sm93:Sm:=⟨ps93,rs93,false,q93⟩
theorem holds93 (hg:GamOK Try.prog G93):Holds Try.prog 93 Sm93:=by
 have:=h0_93 hg
 have e:(runF TT G93 an93 Try.f93 c93 ps93 rs93)=q93:=by
  funext n x
  exact F93_eq n x.1
 rw [e] at this
 exact this
theorem gam93:GamOK Try.prog G93:=by
 intro f s h
 unfold G93 at h
 split at h
 ·injection h with h; subst h; exact ⟨⟨Try.f119,c119,Try.func119,by kernel_rfl,by decide +kernel⟩,hh119⟩
 ·cases h
theorem hh93:Holds Try.prog 93 Sm93:=holds93 gam93
end Go.Proofs.Ytpcohpkflkhfbaa.Rx.S

namespace Go.Proofs.Ytpcohpkflkhfbaa.Rx.S
open Go Go.RowKit Go.Proofs
set_option maxRecDepth 100000
noncomputable def c95:Code:=(Try.f95.body.getD .skip)
def an95:An:=⟨fun _=>⟨[],[]⟩,fun _ _=>none⟩
abbrev ps95:List PK:=[.val tTh true,.val tTh true]
abbrev rs95:List RK:=[.val i64 false]
abbrev R95:=retsD rs95 × outsD ps95
noncomputable def G95:Gam:=fun _=>none
theorem h0_95 (hg:GamOK Try.prog G95):Holds Try.prog 95 ⟨ps95,rs95,false,runF TT G95 an95 Try.f95 c95 ps95 rs95⟩:=holds_of tt_ok hg mixed Try.func95 (by kernel_rfl) (by rfl) (by decide +kernel)
noncomputable def st95_top (n:Nat) (a:Int × Int × Int × Bool) (b:Int × Int × Int × Bool):Option R95 :=
 some ((Go.IntKind.i64.wrap (a.1 - b.1),()),())
theorem e95_top (n:Nat) (a:Int × Int × Int × Bool) (b:Int × Int × Int × Bool):runF TT G95 an95 Try.f95 c95 ps95 rs95 n (a,b,())=st95_top n a b:=by kernel_rfl
noncomputable def p95 (n:Nat) (a:Int × Int × Int × Bool) (b:Int × Int × Int × Bool):Option R95:=st95_top n a b
theorem F95_eq (n:Nat) (a:Int × Int × Int × Bool) (b:Int × Int × Int × Bool):runF TT G95 an95 Try.f95 c95 ps95 rs95 n (a,b,())=p95 n a b:=by
 rw [e95_top]
 skip
 try rfl
noncomputable def q95 (n:Nat) (x:argsD ps95):Option R95:=p95 n x.1 x.2.1
noncomputable def Sm95:Sm:=⟨ps95,rs95,false,q95⟩
theorem holds95 (hg:GamOK Try.prog G95):Holds Try.prog 95 Sm95:=by
 have:=h0_95 hg
 have e:(runF TT G95 an95 Try.f95 c95 ps95 rs95)=q95:=by
  funext n x
  exact F95_eq n x.1 x.2.1
 rw [e] at this
 exact this
theorem gam95:GamOK Try.prog G95:=fun _ _ h=>by cases h
theorem hh95:Holds Try.prog 95 Sm95:=holds95 gam95
end Go.Proofs.Ytpcohpkflkhfbaa.Rx.S

namespace Go.Proofs.Ytpcohpkflkhfbaa.Rx.S
open Go Go.RowKit Go.Proofs
set_option maxRecDepth 100000
noncomputable def c125:Code:=(Try.f125.body.getD .skip)
def an125:An:=⟨fun r=>match r with | 1=>⟨[0,1,2,3,8],[]⟩ | 4=>⟨[0,1,2,3,8,9],[]⟩ | _=>⟨[],[]⟩,fun _ _=>none⟩
abbrev ps125:List PK:=[.io (.row 111 tTh) false,.val i64 false,.val i64 false,.fn 95 []]
abbrev rs125:List RK:=[]
abbrev R125:=retsD rs125 × outsD ps125
noncomputable def G125:Gam:=fun f=>match f with | 95=>some Sm95 | _=>none
theorem h0_125 (hg:GamOK Try.prog G125):Holds Try.prog 125 ⟨ps125,rs125,false,runF TT G125 an125 Try.f125 c125 ps125 rs125⟩:=holds_of tt_ok hg mixed Try.func125 (by kernel_rfl) (by rfl) (by decide +kernel)
noncomputable def at125:Nat→Pt→List Nat→St→Option R125:=atF TT G125 an125 Try.f125 c125 _ _
def sh125_L4 (x0:Int) (x1:Int) (x2:Int) (x3:Int) (x4:List (Int × Int × Int × Bool)):St:=(St.mk ((AV.par 0 false ((SV.ref 1000000 0 [] Option.none) :: [])) :: ((AV.one (SV.int (Go.IntKind.i64) x0)) :: ((AV.one (SV.int (Go.IntKind.i64) x1)) :: ((AV.fn 95 []) :: (AV.undef :: (AV.undef :: (AV.undef :: (AV.undef :: ((AV.one (SV.int (Go.IntKind.i64) x2)) :: ((AV.one (SV.int (Go.IntKind.i64) x3)) :: (AV.undef :: (AV.undef :: (AV.undef :: (AV.undef :: (AV.undef :: (AV.undef :: (AV.undef :: (AV.undef :: (AV.undef :: (AV.undef :: (AV.undef :: (AV.undef :: (AV.undef :: (AV.undef :: (AV.undef :: (AV.undef :: (AV.undef :: (AV.undef :: (AV.undef :: (AV.undef :: (AV.undef :: (AV.undef :: (AV.undef :: (AV.undef :: (AV.undef :: (AV.undef :: (AV.undef :: (AV.undef :: (AV.undef :: (AV.undef :: (AV.undef :: (AV.undef :: (AV.undef :: (AV.undef :: (AV.undef :: (AV.undef :: (AV.undef :: (AV.undef :: (AV.undef :: (AV.undef :: (AV.undef :: (AV.undef :: (AV.undef :: []))))))))))))))))))))))))))))))))))))))))))))))))))))) ((1000000,(Ent.row (⟨111,(Ty.int Go.IntKind.i64).pair ((Ty.int Go.IntKind.i64).pair ((Ty.int Go.IntKind.i64).pair Ty.bool)),x4⟩:Rw) 0 Option.none)) :: []))
def sh125_L1 (x0:Int) (x1:Int) (x2:Int) (x3:List (Int × Int × Int × Bool)):St:=(St.mk ((AV.par 0 false ((SV.ref 1000000 0 [] Option.none) :: [])) :: ((AV.one (SV.int (Go.IntKind.i64) x0)) :: ((AV.one (SV.int (Go.IntKind.i64) x1)) :: ((AV.fn 95 []) :: (AV.undef :: (AV.undef :: (AV.undef :: (AV.undef :: ((AV.one (SV.int (Go.IntKind.i64) x2)) :: (AV.undef :: (AV.undef :: (AV.undef :: (AV.undef :: (AV.undef :: (AV.undef :: (AV.undef :: (AV.undef :: (AV.undef :: (AV.undef :: (AV.undef :: (AV.undef :: (AV.undef :: (AV.undef :: (AV.undef :: (AV.undef :: (AV.undef :: (AV.undef :: (AV.undef :: (AV.undef :: (AV.undef :: (AV.undef :: (AV.undef :: (AV.undef :: (AV.undef :: (AV.undef :: (AV.undef :: (AV.undef :: (AV.undef :: (AV.undef :: (AV.undef :: (AV.undef :: (AV.undef :: (AV.undef :: (AV.undef :: (AV.undef :: (AV.undef :: (AV.undef :: (AV.undef :: (AV.undef :: (AV.undef :: (AV.undef :: (AV.undef :: (AV.undef :: []))))))))))))))))))))))))))))))))))))))))))))))))))))) ((1000000,(Ent.row (⟨111,(Ty.int Go.IntKind.i64).pair ((Ty.int Go.IntKind.i64).pair ((Ty.int Go.IntKind.i64).pair Ty.bool)),x3⟩:Rw) 0 Option.none)) :: []))
noncomputable def st125_top (n:Nat) (lL1:Int→Int→Int→(List (Int × Int × Int × Bool))→Option R125) (a:List (Int × Int × Int × Bool)) (b:Int) (c:Int) (d:Unit):Option R125 :=
 lL1 (b) (c) (Go.IntKind.i64.wrap (b + (1:Int))) (a)
noncomputable def st125_L4 (n:Nat) (lL4:Int→Int→Int→Int→(List (Int × Int × Int × Bool))→Option R125) (lL1:Int→Int→Int→(List (Int × Int × Int × Bool))→Option R125) (x0:Int) (x1:Int) (x2:Int) (x3:Int) (x4:List (Int × Int × Int × Bool)):Option R125 :=
 cond (decide (x0 < x3)) (cond (decide ((0:Int)≤x3)) (cond (decide (x3 < (↑x4.length:Int))) (cond (decide ((0:Int)≤Go.IntKind.i64.wrap (x3 - (1:Int)))) (cond (decide (Go.IntKind.i64.wrap (x3 - (1:Int)) < (↑x4.length:Int))) ((q95 n (((x4.getD x3.toNat ((0:Int),(0:Int),(0:Int),false)).1,(x4.getD x3.toNat ((0:Int),(0:Int),(0:Int),false)).2.1,(x4.getD x3.toNat ((0:Int),(0:Int),(0:Int),false)).2.2.1,(x4.getD x3.toNat ((0:Int),(0:Int),(0:Int),false)).2.2.2),((x4.getD (Go.IntKind.i64.wrap (x3 - (1:Int))).toNat ((0:Int),(0:Int),(0:Int),false)).1,(x4.getD (Go.IntKind.i64.wrap (x3 - (1:Int))).toNat ((0:Int),(0:Int),(0:Int),false)).2.1,(x4.getD (Go.IntKind.i64.wrap (x3 - (1:Int))).toNat ((0:Int),(0:Int),(0:Int),false)).2.2.1,(x4.getD (Go.IntKind.i64.wrap (x3 - (1:Int))).toNat ((0:Int),(0:Int),(0:Int),false)).2.2.2),())).bind fun r2=>cond (decide (r2.1.1 < (0:Int))) (cond (decide ((0:Int)≤Go.IntKind.i64.wrap (x3 - (1:Int)))) (cond (decide (Go.IntKind.i64.wrap (x3 - (1:Int)) < (↑x4.length:Int))) (cond (decide ((0:Int)≤x3)) (cond (decide (x3 < (↑x4.length:Int))) (cond (decide ((0:Int)≤x3)) (cond (decide (x3 < (↑x4.length:Int))) (cond (decide ((0:Int)≤Go.IntKind.i64.wrap (x3 - (1:Int)))) (cond (decide (Go.IntKind.i64.wrap (x3 - (1:Int)) < (↑(x4.set x3.toNat ((x4.getD (Go.IntKind.i64.wrap (x3 - (1:Int))).toNat ((0:Int),(0:Int),(0:Int),false)).1,(x4.getD (Go.IntKind.i64.wrap (x3 - (1:Int))).toNat ((0:Int),(0:Int),(0:Int),false)).2.1,(x4.getD (Go.IntKind.i64.wrap (x3 - (1:Int))).toNat ((0:Int),(0:Int),(0:Int),false)).2.2.1,(x4.getD (Go.IntKind.i64.wrap (x3 - (1:Int))).toNat ((0:Int),(0:Int),(0:Int),false)).2.2.2)).length:Int))) (lL4 (x0) (x1) (x2) (Go.IntKind.i64.wrap (x3 - (1:Int))) ((x4.set x3.toNat ((x4.getD (Go.IntKind.i64.wrap (x3 - (1:Int))).toNat ((0:Int),(0:Int),(0:Int),false)).1,(x4.getD (Go.IntKind.i64.wrap (x3 - (1:Int))).toNat ((0:Int),(0:Int),(0:Int),false)).2.1,(x4.getD (Go.IntKind.i64.wrap (x3 - (1:Int))).toNat ((0:Int),(0:Int),(0:Int),false)).2.2.1,(x4.getD (Go.IntKind.i64.wrap (x3 - (1:Int))).toNat ((0:Int),(0:Int),(0:Int),false)).2.2.2)).set (Go.IntKind.i64.wrap (x3 - (1:Int))).toNat ((x4.getD x3.toNat ((0:Int),(0:Int),(0:Int),false)).1,(x4.getD x3.toNat ((0:Int),(0:Int),(0:Int),false)).2.1,(x4.getD x3.toNat ((0:Int),(0:Int),(0:Int),false)).2.2.1,(x4.getD x3.toNat ((0:Int),(0:Int),(0:Int),false)).2.2.2))) (none)) (none)) (none)) (none)) (none)) (none)) (none)) (none)) (lL1 (x0) (x1) (Go.IntKind.i64.wrap (x2 + (1:Int))) (x4))) (none)) (none)) (none)) (none)) (lL1 (x0) (x1) (Go.IntKind.i64.wrap (x2 + (1:Int))) (x4))
noncomputable def st125_L1 (n:Nat) (lL4:Int→Int→Int→Int→(List (Int × Int × Int × Bool))→Option R125) (x0:Int) (x1:Int) (x2:Int) (x3:List (Int × Int × Int × Bool)):Option R125 :=
 cond (decide (x2 < x1)) (lL4 (x0) (x1) (x2) (x2) (x3)) (some ((),(x3,())))
theorem e125_top (n:Nat) (a:List (Int × Int × Int × Bool)) (b:Int) (c:Int) (d:Unit):runF TT G125 an125 Try.f125 c125 ps125 rs125 n (a,b,c,d,())=st125_top n (fun x0 x1 x2 x3=>at125 n (.head 1) [n] (sh125_L1 x0 x1 x2 x3)) a b c d:=by kernel_rfl
theorem e125_L4_0 (n:Nat) (m1:Nat) (x0:Int) (x1:Int) (x2:Int) (x3:Int) (x4:List (Int × Int × Int × Bool)):at125 n (.head 4) [m1,0] (sh125_L4 x0 x1 x2 x3 x4)=none:=by kernel_rfl
theorem e125_L4 (n:Nat) (m1:Nat) (m4:Nat) (x0:Int) (x1:Int) (x2:Int) (x3:Int) (x4:List (Int × Int × Int × Bool)):at125 n (.head 4) [m1,m4 + 1] (sh125_L4 x0 x1 x2 x3 x4)=st125_L4 n (fun x0 x1 x2 x3 x4=>at125 n (.head 4) [m1,m4] (sh125_L4 x0 x1 x2 x3 x4)) (fun x0 x1 x2 x3=>at125 n (.head 1) [m1] (sh125_L1 x0 x1 x2 x3)) x0 x1 x2 x3 x4:=by kernel_rfl
theorem e125_L1_0 (n:Nat) (x0:Int) (x1:Int) (x2:Int) (x3:List (Int × Int × Int × Bool)):at125 n (.head 1) [0] (sh125_L1 x0 x1 x2 x3)=none:=by kernel_rfl
theorem e125_L1 (n:Nat) (m1:Nat) (x0:Int) (x1:Int) (x2:Int) (x3:List (Int × Int × Int × Bool)):at125 n (.head 1) [m1 + 1] (sh125_L1 x0 x1 x2 x3)=st125_L1 n (fun x0 x1 x2 x3 x4=>at125 n (.head 4) [m1,n] (sh125_L4 x0 x1 x2 x3 x4)) x0 x1 x2 x3:=by kernel_rfl
noncomputable def p125_L4 (g1:Int→Int→Int→(List (Int × Int × Int × Bool))→Option R125) (n:Nat):Nat→Int→Int→Int→Int→(List (Int × Int × Int × Bool))→Option R125
 | 0,_,_,_,_,_=>none
 | m + 1,x0,x1,x2,x3,x4=>st125_L4 n (p125_L4 g1 n m) g1 x0 x1 x2 x3 x4
noncomputable def p125_L1 (n:Nat):Nat→Int→Int→Int→(List (Int × Int × Int × Bool))→Option R125
 | 0,_,_,_,_=>none
 | m + 1,x0,x1,x2,x3=>st125_L1 n (p125_L4 (p125_L1 n m) n n) x0 x1 x2 x3
noncomputable def p125 (n:Nat) (a:List (Int × Int × Int × Bool)) (b:Int) (c:Int) (d:Unit):Option R125:=st125_top n (p125_L1 n n) a b c d
theorem t125_L4 (n:Nat) (m1:Nat):∀ (m4:Nat) (x0:Int) (x1:Int) (x2:Int) (x3:Int) (x4:List (Int × Int × Int × Bool)),at125 n (.head 4) [m1,m4] (sh125_L4 x0 x1 x2 x3 x4)=p125_L4 (fun x0 x1 x2 x3=>at125 n (.head 1) [m1] (sh125_L1 x0 x1 x2 x3)) n m4 x0 x1 x2 x3 x4:=by
 intro m
 induction m with
 | zero=>intros; rw [e125_L4_0]; rfl
 | succ m ih =>
  intros
  rw [e125_L4]
  simp only [ih]
  rfl
theorem t125_L1 (n:Nat):∀ (m1:Nat) (x0:Int) (x1:Int) (x2:Int) (x3:List (Int × Int × Int × Bool)),at125 n (.head 1) [m1] (sh125_L1 x0 x1 x2 x3)=p125_L1 n m1 x0 x1 x2 x3:=by
 intro m
 induction m with
 | zero=>intros; rw [e125_L1_0]; rfl
 | succ m ih =>
  intros
  rw [e125_L1]
  simp only [t125_L4,ih]
  rfl
theorem F125_eq (n:Nat) (a:List (Int × Int × Int × Bool)) (b:Int) (c:Int) (d:Unit):runF TT G125 an125 Try.f125 c125 ps125 rs125 n (a,b,c,d,())=p125 n a b c d:=by
 rw [e125_top]
 simp only [t125_L1]
 try rfl
noncomputable def q125 (n:Nat) (x:argsD ps125):Option R125:=p125 n x.1 x.2.1 x.2.2.1 x.2.2.2.1
noncomputable def Sm125:Sm:=⟨ps125,rs125,false,q125⟩
theorem holds125 (hg:GamOK Try.prog G125):Holds Try.prog 125 Sm125:=by
 have:=h0_125 hg
 have e:(runF TT G125 an125 Try.f125 c125 ps125 rs125)=q125:=by
  funext n x
  exact F125_eq n x.1 x.2.1 x.2.2.1 x.2.2.2.1
 rw [e] at this
 exact this
theorem gam125:GamOK Try.prog G125:=by
 intro f s h
 unfold G125 at h
 split at h
 ·injection h with h; subst h; exact ⟨⟨Try.f95,c95,Try.func95,by kernel_rfl,by decide +kernel⟩,hh95⟩
 ·cases h
theorem hh125:Holds Try.prog 125 Sm125:=holds125 gam125
end Go.Proofs.Ytpcohpkflkhfbaa.Rx.S

namespace Go.Proofs.Ytpcohpkflkhfbaa.Rx.S
open Go Go.RowKit Go.Proofs
set_option maxRecDepth 100000
noncomputable def c120:Code:=(Try.f120.body.getD .skip)
def an120:An:=⟨fun r=>match r with | 2=>⟨[0,1,2,3,4,10,11],[]⟩ | _=>⟨[],[]⟩,fun _ _=>none⟩
abbrev ps120:List PK:=[.io (.row 111 tTh) false,.val i64 false,.val i64 false,.val i64 false,.fn 95 []]
abbrev rs120:List RK:=[]
abbrev R120:=retsD rs120 × outsD ps120
noncomputable def G120:Gam:=fun f=>match f with | 125=>some Sm125 | _=>none
theorem h0_120 (hg:GamOK Try.prog G120):Holds Try.prog 120 ⟨ps120,rs120,false,runF TT G120 an120 Try.f120 c120 ps120 rs120⟩:=holds_of tt_ok hg mixed Try.func120 (by kernel_rfl) (by rfl) (by decide +kernel)
noncomputable def at120:Nat→Pt→List Nat→St→Option R120:=atF TT G120 an120 Try.f120 c120 _ _
def sh120_L2 (x0:Int) (x1:Int) (x2:Int) (x3:Bool) (x4:Bool) (x5:List (Int × Int × Int × Bool)):St:=(St.mk ((AV.par 0 false ((SV.ref 1000000 0 [] Option.none) :: [])) :: ((AV.one (SV.int (Go.IntKind.i64) x0)) :: ((AV.one (SV.int (Go.IntKind.i64) x1)) :: ((AV.one (SV.int (Go.IntKind.i64) x2)) :: ((AV.fn 95 []) :: (AV.undef :: (AV.undef :: (AV.undef :: (AV.undef :: (AV.undef :: ((AV.one (SV.bool x3)) :: ((AV.one (SV.bool x4)) :: (AV.undef :: (AV.undef :: (AV.undef :: (AV.undef :: (AV.undef :: (AV.undef :: (AV.undef :: (AV.undef :: (AV.undef :: (AV.undef :: (AV.undef :: (AV.undef :: (AV.undef :: (AV.undef :: (AV.undef :: (AV.undef :: (AV.undef :: (AV.undef :: (AV.undef :: (AV.undef :: (AV.undef :: (AV.undef :: (AV.undef :: (AV.undef :: (AV.undef :: (AV.undef :: (AV.undef :: (AV.undef :: (AV.undef :: (AV.undef :: (AV.undef :: (AV.undef :: (AV.undef :: (AV.undef :: (AV.undef :: (AV.undef :: (AV.undef :: (AV.undef :: (AV.undef :: (AV.undef :: (AV.undef :: (AV.undef :: (AV.undef :: (AV.undef :: (AV.undef :: (AV.undef :: (AV.undef :: (AV.undef :: (AV.undef :: (AV.undef :: (AV.undef :: (AV.undef :: (AV.undef :: (AV.undef :: (AV.undef :: (AV.undef :: (AV.undef :: (AV.undef :: (AV.undef :: (AV.undef :: (AV.undef :: (AV.undef :: (AV.undef :: (AV.undef :: (AV.undef :: (AV.undef :: (AV.undef :: (AV.undef :: (AV.undef :: (AV.undef :: (AV.undef :: (AV.undef :: (AV.undef :: (AV.undef :: (AV.undef :: (AV.undef :: (AV.undef :: (AV.undef :: (AV.undef :: (AV.undef :: (AV.undef :: (AV.undef :: (AV.undef :: (AV.undef :: (AV.undef :: (AV.undef :: (AV.undef :: (AV.undef :: (AV.undef :: (AV.undef :: (AV.undef :: (AV.undef :: (AV.undef :: (AV.undef :: (AV.undef :: (AV.undef :: (AV.undef :: (AV.undef :: (AV.undef :: (AV.undef :: (AV.undef :: (AV.undef :: (AV.undef :: (AV.undef :: (AV.undef :: (AV.undef :: (AV.undef :: (AV.undef :: (AV.undef :: (AV.undef :: (AV.undef :: (AV.undef :: (AV.undef :: (AV.undef :: (AV.undef :: (AV.undef :: (AV.undef :: (AV.undef :: (AV.undef :: (AV.undef :: (AV.undef :: (AV.undef :: (AV.undef :: (AV.undef :: (AV.undef :: (AV.undef :: (AV.undef :: (AV.undef :: (AV.undef :: (AV.undef :: (AV.undef :: (AV.undef :: (AV.undef :: (AV.undef :: (AV.undef :: (AV.undef :: [])))))))))))))))))))))))))))))))))))))))))))))))))))))))))))))))))))))))))))))))))))))))))))))))))))))))))))))))))))))))))))))))))))))))))))))))))))) ((1000000,(Ent.row (⟨111,(Ty.int Go.IntKind.i64).pair ((Ty.int Go.IntKind.i64).pair ((Ty.int Go.IntKind.i64).pair Ty.bool)),x5⟩:Rw) 0 Option.none)) :: []))
noncomputable def st120_top (n:Nat) (lL2:Int→Int→Int→Bool→Bool→(List (Int × Int × Int × Bool))→Option R120) (a:List (Int × Int × Int × Bool)) (b:Int) (c:Int) (d:Int) (e:Unit):Option R120 :=
 lL2 (b) (c) (d) (true) (true) (a)
noncomputable def st120_L2 (n:Nat) (x0:Int) (x1:Int) (x2:Int) (x3:Bool) (x4:Bool) (x5:List (Int × Int × Int × Bool)):Option R120 :=
 cond (decide (Go.IntKind.i64.wrap (x1 - x0)≤(12:Int))) ((q125 n (x5,x0,x1,(),())).bind fun r1=>some ((),(r1.2.1,()))) (cond (decide (x2=(0:Int))) (none) (cond (!x3) (none) (none)))
theorem e120_top (n:Nat) (a:List (Int × Int × Int × Bool)) (b:Int) (c:Int) (d:Int) (e:Unit):runF TT G120 an120 Try.f120 c120 ps120 rs120 n (a,b,c,d,e,())=st120_top n (fun x0 x1 x2 x3 x4 x5=>at120 n (.head 2) [n] (sh120_L2 x0 x1 x2 x3 x4 x5)) a b c d e:=by kernel_rfl
theorem e120_L2_0 (n:Nat) (x0:Int) (x1:Int) (x2:Int) (x3:Bool) (x4:Bool) (x5:List (Int × Int × Int × Bool)):at120 n (.head 2) [0] (sh120_L2 x0 x1 x2 x3 x4 x5)=none:=by kernel_rfl
theorem e120_L2 (n:Nat) (m2:Nat) (x0:Int) (x1:Int) (x2:Int) (x3:Bool) (x4:Bool) (x5:List (Int × Int × Int × Bool)):at120 n (.head 2) [m2 + 1] (sh120_L2 x0 x1 x2 x3 x4 x5)=st120_L2 n x0 x1 x2 x3 x4 x5:=by kernel_rfl
noncomputable def p120_L2 (n:Nat):Nat→Int→Int→Int→Bool→Bool→(List (Int × Int × Int × Bool))→Option R120
 | 0,_,_,_,_,_,_=>none
 | m + 1,x0,x1,x2,x3,x4,x5=>st120_L2 n x0 x1 x2 x3 x4 x5
noncomputable def p120 (n:Nat) (a:List (Int × Int × Int × Bool)) (b:Int) (c:Int) (d:Int) (e:Unit):Option R120:=st120_top n (p120_L2 n n) a b c d e
theorem t120_L2 (n:Nat):∀ (m2:Nat) (x0:Int) (x1:Int) (x2:Int) (x3:Bool) (x4:Bool) (x5:List (Int × Int × Int × Bool)),at120 n (.head 2) [m2] (sh120_L2 x0 x1 x2 x3 x4 x5)=p120_L2 n m2 x0 x1 x2 x3 x4 x5:=by
 intro m
 induction m with
 | zero=>intros; rw [e120_L2_0]; rfl
 | succ m ih =>
  intros
  rw [e120_L2]
  try simp only [ih]
  rfl
theorem F120_eq (n:Nat) (a:List (Int × Int × Int × Bool)) (b:Int) (c:Int) (d:Int) (e:Unit):runF TT G120 an120 Try.f120 c120 ps120 rs120 n (a,b,c,d,e,())=p120 n a b c d e:=by
 rw [e120_top]
 simp only [t120_L2]
 try rfl
noncomputable def q120 (n:Nat) (x:argsD ps120):Option R120:=p120 n x.1 x.2.1 x.2.2.1 x.2.2.2.1 x.2.2.2.2.1
noncomputable def Sm120:Sm:=⟨ps120,rs120,false,q120⟩
theorem holds120 (hg:GamOK Try.prog G120):Holds Try.prog 120 Sm120:=by
 have:=h0_120 hg
 have e:(runF TT G120 an120 Try.f120 c120 ps120 rs120)=q120:=by
  funext n x
  exact F120_eq n x.1 x.2.1 x.2.2.1 x.2.2.2.1 x.2.2.2.2.1
 rw [e] at this
 exact this
theorem gam120:GamOK Try.prog G120:=by
 intro f s h
 unfold G120 at h
 split at h
 ·injection h with h; subst h; exact ⟨⟨Try.f125,c125,Try.func125,by kernel_rfl,by decide +kernel⟩,hh125⟩
 ·cases h
theorem hh120:Holds Try.prog 120 Sm120:=holds120 gam120
end Go.Proofs.Ytpcohpkflkhfbaa.Rx.S

namespace Go.Proofs.Ytpcohpkflkhfbaa.Rx.S
open Go Go.RowKit Go.Proofs
set_option maxRecDepth 100000
noncomputable def c134:Code:=(Try.f134.body.getD .skip)
def an134:An:=⟨fun _=>⟨[],[]⟩,fun _ _=>none⟩
abbrev ps134:List PK:=[.val (.int .u64) false]
abbrev rs134:List RK:=[.val i64 false]
abbrev R134:=retsD rs134 × outsD ps134
noncomputable def G134:Gam:=fun _=>none
theorem h0_134 (hg:GamOK Try.prog G134):Holds Try.prog 134 ⟨ps134,rs134,false,runF TT G134 an134 Try.f134 c134 ps134 rs134⟩:=holds_of tt_ok hg mixed Try.func134 (by kernel_rfl) (by rfl) (by decide +kernel)
def tb134_0:ByteArray:=(ByteArray.mk (([(0:UInt8),(1:UInt8),(2:UInt8),(2:UInt8),(3:UInt8),(3:UInt8),(3:UInt8),(3:UInt8),(4:UInt8),(4:UInt8),(4:UInt8),(4:UInt8),(4:UInt8),(4:UInt8),(4:UInt8),(4:UInt8),(5:UInt8),(5:UInt8),(5:UInt8),(5:UInt8),(5:UInt8),(5:UInt8),(5:UInt8),(5:UInt8),(5:UInt8),(5:UInt8),(5:UInt8),(5:UInt8),(5:UInt8),(5:UInt8),(5:UInt8),(5:UInt8),(6:UInt8),(6:UInt8),(6:UInt8),(6:UInt8),(6:UInt8),(6:UInt8),(6:UInt8),(6:UInt8),(6:UInt8),(6:UInt8),(6:UInt8),(6:UInt8),(6:UInt8),(6:UInt8),(6:UInt8),(6:UInt8),(6:UInt8),(6:UInt8),(6:UInt8),(6:UInt8),(6:UInt8),(6:UInt8),(6:UInt8),(6:UInt8),(6:UInt8),(6:UInt8),(6:UInt8),(6:UInt8),(6:UInt8),(6:UInt8),(6:UInt8),(6:UInt8)].append [(7:UInt8),(7:UInt8),(7:UInt8),(7:UInt8),(7:UInt8),(7:UInt8),(7:UInt8),(7:UInt8),(7:UInt8),(7:UInt8),(7:UInt8),(7:UInt8),(7:UInt8),(7:UInt8),(7:UInt8),(7:UInt8),(7:UInt8),(7:UInt8),(7:UInt8),(7:UInt8),(7:UInt8),(7:UInt8),(7:UInt8),(7:UInt8),(7:UInt8),(7:UInt8),(7:UInt8),(7:UInt8),(7:UInt8),(7:UInt8),(7:UInt8),(7:UInt8),(7:UInt8),(7:UInt8),(7:UInt8),(7:UInt8),(7:UInt8),(7:UInt8),(7:UInt8),(7:UInt8),(7:UInt8),(7:UInt8),(7:UInt8),(7:UInt8),(7:UInt8),(7:UInt8),(7:UInt8),(7:UInt8),(7:UInt8),(7:UInt8),(7:UInt8),(7:UInt8),(7:UInt8),(7:UInt8),(7:UInt8),(7:UInt8),(7:UInt8),(7:UInt8),(7:UInt8),(7:UInt8),(7:UInt8),(7:UInt8),(7:UInt8),(7:UInt8)]).append ([(8:UInt8),(8:UInt8),(8:UInt8),(8:UInt8),(8:UInt8),(8:UInt8),(8:UInt8),(8:UInt8),(8:UInt8),(8:UInt8),(8:UInt8),(8:UInt8),(8:UInt8),(8:UInt8),(8:UInt8),(8:UInt8),(8:UInt8),(8:UInt8),(8:UInt8),(8:UInt8),(8:UInt8),(8:UInt8),(8:UInt8),(8:UInt8),(8:UInt8),(8:UInt8),(8:UInt8),(8:UInt8),(8:UInt8),(8:UInt8),(8:UInt8),(8:UInt8),(8:UInt8),(8:UInt8),(8:UInt8),(8:UInt8),(8:UInt8),(8:UInt8),(8:UInt8),(8:UInt8),(8:UInt8),(8:UInt8),(8:UInt8),(8:UInt8),(8:UInt8),(8:UInt8),(8:UInt8),(8:UInt8),(8:UInt8),(8:UInt8),(8:UInt8),(8:UInt8),(8:UInt8),(8:UInt8),(8:UInt8),(8:UInt8),(8:UInt8),(8:UInt8),(8:UInt8),(8:UInt8),(8:UInt8),(8:UInt8),(8:UInt8),(8:UInt8)].append [(8:UInt8),(8:UInt8),(8:UInt8),(8:UInt8),(8:UInt8),(8:UInt8),(8:UInt8),(8:UInt8),(8:UInt8),(8:UInt8),(8:UInt8),(8:UInt8),(8:UInt8),(8:UInt8),(8:UInt8),(8:UInt8),(8:UInt8),(8:UInt8),(8:UInt8),(8:UInt8),(8:UInt8),(8:UInt8),(8:UInt8),(8:UInt8),(8:UInt8),(8:UInt8),(8:UInt8),(8:UInt8),(8:UInt8),(8:UInt8),(8:UInt8),(8:UInt8),(8:UInt8),(8:UInt8),(8:UInt8),(8:UInt8),(8:UInt8),(8:UInt8),(8:UInt8),(8:UInt8),(8:UInt8),(8:UInt8),(8:UInt8),(8:UInt8),(8:UInt8),(8:UInt8),(8:UInt8),(8:UInt8),(8:UInt8),(8:UInt8),(8:UInt8),(8:UInt8),(8:UInt8),(8:UInt8),(8:UInt8),(8:UInt8),(8:UInt8),(8:UInt8),(8:UInt8),(8:UInt8),(8:UInt8),(8:UInt8),(8:UInt8),(8:UInt8)])).toArray)
noncomputable def st134_top (n:Nat) (a:Int):Option R134 :=
 cond (decide ((4294967296:Int)≤a)) (cond (decide ((65536:Int)≤a.fdiv ((2:Int) ^ min (Int.toNat (32:Int)) Go.IntKind.u64.bits))) (cond (decide ((256:Int)≤(a.fdiv ((2:Int) ^ min (Int.toNat (32:Int)) Go.IntKind.u64.bits)).fdiv ((2:Int) ^ min (Int.toNat (16:Int)) Go.IntKind.u64.bits))) (cond (decide ((0:Int)≤Go.IntKind.u8.wrap (((a.fdiv ((2:Int) ^ min (Int.toNat (32:Int)) Go.IntKind.u64.bits)).fdiv ((2:Int) ^ min (Int.toNat (16:Int)) Go.IntKind.u64.bits)).fdiv ((2:Int) ^ min (Int.toNat (8:Int)) Go.IntKind.u64.bits)))) (cond (decide (Go.IntKind.u8.wrap (((a.fdiv ((2:Int) ^ min (Int.toNat (32:Int)) Go.IntKind.u64.bits)).fdiv ((2:Int) ^ min (Int.toNat (16:Int)) Go.IntKind.u64.bits)).fdiv ((2:Int) ^ min (Int.toNat (8:Int)) Go.IntKind.u64.bits)) < (↑tb134_0.size:Int))) (some ((Go.IntKind.i64.wrap (Go.IntKind.i64.wrap (Go.IntKind.i64.wrap ((32:Int) + (16:Int)) + (8:Int)) + Go.IntKind.i64.wrap (↑(tb134_0.data.toList.getD (Go.IntKind.u8.wrap (((a.fdiv ((2:Int) ^ min (Int.toNat (32:Int)) Go.IntKind.u64.bits)).fdiv ((2:Int) ^ min (Int.toNat (16:Int)) Go.IntKind.u64.bits)).fdiv ((2:Int) ^ min (Int.toNat (8:Int)) Go.IntKind.u64.bits))).toNat (0:UInt8)).toNat:Int)),()),())) (none)) (none)) (cond (decide ((0:Int)≤Go.IntKind.u8.wrap ((a.fdiv ((2:Int) ^ min (Int.toNat (32:Int)) Go.IntKind.u64.bits)).fdiv ((2:Int) ^ min (Int.toNat (16:Int)) Go.IntKind.u64.bits)))) (cond (decide (Go.IntKind.u8.wrap ((a.fdiv ((2:Int) ^ min (Int.toNat (32:Int)) Go.IntKind.u64.bits)).fdiv ((2:Int) ^ min (Int.toNat (16:Int)) Go.IntKind.u64.bits)) < (↑tb134_0.size:Int))) (some ((Go.IntKind.i64.wrap (Go.IntKind.i64.wrap ((32:Int) + (16:Int)) + Go.IntKind.i64.wrap (↑(tb134_0.data.toList.getD (Go.IntKind.u8.wrap ((a.fdiv ((2:Int) ^ min (Int.toNat (32:Int)) Go.IntKind.u64.bits)).fdiv ((2:Int) ^ min (Int.toNat (16:Int)) Go.IntKind.u64.bits))).toNat (0:UInt8)).toNat:Int)),()),())) (none)) (none))) (cond (decide ((256:Int)≤a.fdiv ((2:Int) ^ min (Int.toNat (32:Int)) Go.IntKind.u64.bits))) (cond (decide ((0:Int)≤Go.IntKind.u8.wrap ((a.fdiv ((2:Int) ^ min (Int.toNat (32:Int)) Go.IntKind.u64.bits)).fdiv ((2:Int) ^ min (Int.toNat (8:Int)) Go.IntKind.u64.bits)))) (cond (decide (Go.IntKind.u8.wrap ((a.fdiv ((2:Int) ^ min (Int.toNat (32:Int)) Go.IntKind.u64.bits)).fdiv ((2:Int) ^ min (Int.toNat (8:Int)) Go.IntKind.u64.bits)) < (↑tb134_0.size:Int))) (some ((Go.IntKind.i64.wrap (Go.IntKind.i64.wrap ((32:Int) + (8:Int)) + Go.IntKind.i64.wrap (↑(tb134_0.data.toList.getD (Go.IntKind.u8.wrap ((a.fdiv ((2:Int) ^ min (Int.toNat (32:Int)) Go.IntKind.u64.bits)).fdiv ((2:Int) ^ min (Int.toNat (8:Int)) Go.IntKind.u64.bits))).toNat (0:UInt8)).toNat:Int)),()),())) (none)) (none)) (cond (decide ((0:Int)≤Go.IntKind.u8.wrap (a.fdiv ((2:Int) ^ min (Int.toNat (32:Int)) Go.IntKind.u64.bits)))) (cond (decide (Go.IntKind.u8.wrap (a.fdiv ((2:Int) ^ min (Int.toNat (32:Int)) Go.IntKind.u64.bits)) < (↑tb134_0.size:Int))) (some ((Go.IntKind.i64.wrap ((32:Int) + Go.IntKind.i64.wrap (↑(tb134_0.data.toList.getD (Go.IntKind.u8.wrap (a.fdiv ((2:Int) ^ min (Int.toNat (32:Int)) Go.IntKind.u64.bits))).toNat (0:UInt8)).toNat:Int)),()),())) (none)) (none)))) (cond (decide ((65536:Int)≤a)) (cond (decide ((256:Int)≤a.fdiv ((2:Int) ^ min (Int.toNat (16:Int)) Go.IntKind.u64.bits))) (cond (decide ((0:Int)≤Go.IntKind.u8.wrap ((a.fdiv ((2:Int) ^ min (Int.toNat (16:Int)) Go.IntKind.u64.bits)).fdiv ((2:Int) ^ min (Int.toNat (8:Int)) Go.IntKind.u64.bits)))) (cond (decide (Go.IntKind.u8.wrap ((a.fdiv ((2:Int) ^ min (Int.toNat (16:Int)) Go.IntKind.u64.bits)).fdiv ((2:Int) ^ min (Int.toNat (8:Int)) Go.IntKind.u64.bits)) < (↑tb134_0.size:Int))) (some ((Go.IntKind.i64.wrap (Go.IntKind.i64.wrap (Go.IntKind.i64.wrap ((0:Int) + (16:Int)) + (8:Int)) + Go.IntKind.i64.wrap (↑(tb134_0.data.toList.getD (Go.IntKind.u8.wrap ((a.fdiv ((2:Int) ^ min (Int.toNat (16:Int)) Go.IntKind.u64.bits)).fdiv ((2:Int) ^ min (Int.toNat (8:Int)) Go.IntKind.u64.bits))).toNat (0:UInt8)).toNat:Int)),()),())) (none)) (none)) (cond (decide ((0:Int)≤Go.IntKind.u8.wrap (a.fdiv ((2:Int) ^ min (Int.toNat (16:Int)) Go.IntKind.u64.bits)))) (cond (decide (Go.IntKind.u8.wrap (a.fdiv ((2:Int) ^ min (Int.toNat (16:Int)) Go.IntKind.u64.bits)) < (↑tb134_0.size:Int))) (some ((Go.IntKind.i64.wrap (Go.IntKind.i64.wrap ((0:Int) + (16:Int)) + Go.IntKind.i64.wrap (↑(tb134_0.data.toList.getD (Go.IntKind.u8.wrap (a.fdiv ((2:Int) ^ min (Int.toNat (16:Int)) Go.IntKind.u64.bits))).toNat (0:UInt8)).toNat:Int)),()),())) (none)) (none))) (cond (decide ((256:Int)≤a)) (cond (decide ((0:Int)≤Go.IntKind.u8.wrap (a.fdiv ((2:Int) ^ min (Int.toNat (8:Int)) Go.IntKind.u64.bits)))) (cond (decide (Go.IntKind.u8.wrap (a.fdiv ((2:Int) ^ min (Int.toNat (8:Int)) Go.IntKind.u64.bits)) < (↑tb134_0.size:Int))) (some ((Go.IntKind.i64.wrap (Go.IntKind.i64.wrap ((0:Int) + (8:Int)) + Go.IntKind.i64.wrap (↑(tb134_0.data.toList.getD (Go.IntKind.u8.wrap (a.fdiv ((2:Int) ^ min (Int.toNat (8:Int)) Go.IntKind.u64.bits))).toNat (0:UInt8)).toNat:Int)),()),())) (none)) (none)) (cond (decide ((0:Int)≤Go.IntKind.u8.wrap a)) (cond (decide (Go.IntKind.u8.wrap a < (↑tb134_0.size:Int))) (some ((Go.IntKind.i64.wrap ((0:Int) + Go.IntKind.i64.wrap (↑(tb134_0.data.toList.getD (Go.IntKind.u8.wrap a).toNat (0:UInt8)).toNat:Int)),()),())) (none)) (none))))
theorem e134_top (n:Nat) (a:Int):runF TT G134 an134 Try.f134 c134 ps134 rs134 n (a,())=st134_top n a:=by kernel_rfl
noncomputable def p134 (n:Nat) (a:Int):Option R134:=st134_top n a
theorem F134_eq (n:Nat) (a:Int):runF TT G134 an134 Try.f134 c134 ps134 rs134 n (a,())=p134 n a:=by
 rw [e134_top]
 skip
 try rfl
noncomputable def q134 (n:Nat) (x:argsD ps134):Option R134:=p134 n x.1
noncomputable def Sm134:Sm:=⟨ps134,rs134,false,q134⟩
theorem holds134 (hg:GamOK Try.prog G134):Holds Try.prog 134 Sm134:=by
 have:=h0_134 hg
 have e:(runF TT G134 an134 Try.f134 c134 ps134 rs134)=q134:=by
  funext n x
  exact F134_eq n x.1
 rw [e] at this
 exact this
theorem gam134:GamOK Try.prog G134:=fun _ _ h=>by cases h
theorem hh134:Holds Try.prog 134 Sm134:=holds134 gam134
end Go.Proofs.Ytpcohpkflkhfbaa.Rx.S

namespace Go.Proofs.Ytpcohpkflkhfbaa.Rx.S
open Go Go.RowKit Go.Proofs
set_option maxRecDepth 100000
noncomputable def c121:Code:=(Try.f121.body.getD .skip)
def an121:An:=⟨fun _=>⟨[],[]⟩,fun _ _=>none⟩
abbrev ps121:List PK:=[.val (.int .u64) false]
abbrev rs121:List RK:=[.val i64 false]
abbrev R121:=retsD rs121 × outsD ps121
noncomputable def G121:Gam:=fun f=>match f with | 134=>some Sm134 | _=>none
theorem h0_121 (hg:GamOK Try.prog G121):Holds Try.prog 121 ⟨ps121,rs121,false,runF TT G121 an121 Try.f121 c121 ps121 rs121⟩:=holds_of tt_ok hg mixed Try.func121 (by kernel_rfl) (by rfl) (by decide +kernel)
noncomputable def st121_top (n:Nat) (a:Int):Option R121 :=
 (q134 n (a,())).bind fun r0=>some ((r0.1.1,()),())
theorem e121_top (n:Nat) (a:Int):runF TT G121 an121 Try.f121 c121 ps121 rs121 n (a,())=st121_top n a:=by kernel_rfl
noncomputable def p121 (n:Nat) (a:Int):Option R121:=st121_top n a
theorem F121_eq (n:Nat) (a:Int):runF TT G121 an121 Try.f121 c121 ps121 rs121 n (a,())=p121 n a:=by
 rw [e121_top]
 skip
 try rfl
noncomputable def q121 (n:Nat) (x:argsD ps121):Option R121:=p121 n x.1
noncomputable def Sm121:Sm:=⟨ps121,rs121,false,q121⟩
theorem holds121 (hg:GamOK Try.prog G121):Holds Try.prog 121 Sm121:=by
 have:=h0_121 hg
 have e:(runF TT G121 an121 Try.f121 c121 ps121 rs121)=q121:=by
  funext n x
  exact F121_eq n x.1
 rw [e] at this
 exact this
theorem gam121:GamOK Try.prog G121:=by
 intro f s h
 unfold G121 at h
 split at h
 ·injection h with h; subst h; exact ⟨⟨Try.f134,c134,Try.func134,by kernel_rfl,by decide +kernel⟩,hh134⟩
 ·cases h
theorem hh121:Holds Try.prog 121 Sm121:=holds121 gam121
end Go.Proofs.Ytpcohpkflkhfbaa.Rx.S

namespace Go.Proofs.Ytpcohpkflkhfbaa.Rx.S
open Go Go.RowKit Go.Proofs
set_option maxRecDepth 100000
noncomputable def c94:Code:=(Try.f94.body.getD .skip)
def an94:An:=⟨fun _=>⟨[],[]⟩,fun _ _=>none⟩
abbrev ps94:List PK:=[.io (.row 111 tTh) false,.fn 95 []]
abbrev rs94:List RK:=[]
abbrev R94:=retsD rs94 × outsD ps94
noncomputable def G94:Gam:=fun f=>match f with | 120=>some Sm120 | 121=>some Sm121 | _=>none
theorem h0_94 (hg:GamOK Try.prog G94):Holds Try.prog 94 ⟨ps94,rs94,false,runF TT G94 an94 Try.f94 c94 ps94 rs94⟩:=holds_of tt_ok hg mixed Try.func94 (by kernel_rfl) (by rfl) (by decide +kernel)
noncomputable def st94_top (n:Nat) (a:List (Int × Int × Int × Bool)) (b:Unit):Option R94 :=
 (q121 n (Go.IntKind.u64.wrap (↑a.length:Int),())).bind fun r0=>(q120 n (a,(0:Int),(↑a.length:Int),r0.1.1,(),())).bind fun r1=>some ((),(r1.2.1,()))
theorem e94_top (n:Nat) (a:List (Int × Int × Int × Bool)) (b:Unit):runF TT G94 an94 Try.f94 c94 ps94 rs94 n (a,b,())=st94_top n a b:=by kernel_rfl
noncomputable def p94 (n:Nat) (a:List (Int × Int × Int × Bool)) (b:Unit):Option R94:=st94_top n a b
theorem F94_eq (n:Nat) (a:List (Int × Int × Int × Bool)) (b:Unit):runF TT G94 an94 Try.f94 c94 ps94 rs94 n (a,b,())=p94 n a b:=by
 rw [e94_top]
 skip
 try rfl
noncomputable def q94 (n:Nat) (x:argsD ps94):Option R94:=p94 n x.1 x.2.1
noncomputable def Sm94:Sm:=⟨ps94,rs94,false,q94⟩
theorem holds94 (hg:GamOK Try.prog G94):Holds Try.prog 94 Sm94:=by
 have:=h0_94 hg
 have e:(runF TT G94 an94 Try.f94 c94 ps94 rs94)=q94:=by
  funext n x
  exact F94_eq n x.1 x.2.1
 rw [e] at this
 exact this
theorem gam94:GamOK Try.prog G94:=by
 intro f s h
 unfold G94 at h
 split at h
 ·injection h with h; subst h; exact ⟨⟨Try.f120,c120,Try.func120,by kernel_rfl,by decide +kernel⟩,hh120⟩
 ·injection h with h; subst h; exact ⟨⟨Try.f121,c121,Try.func121,by kernel_rfl,by decide +kernel⟩,hh121⟩
 ·cases h
theorem hh94:Holds Try.prog 94 Sm94:=holds94 gam94
end Go.Proofs.Ytpcohpkflkhfbaa.Rx.S

namespace Go.Proofs.Ytpcohpkflkhfbaa.Rx.S
open Go Go.RowKit Go.Proofs
set_option maxRecDepth 100000
noncomputable def c44:Code:=(Try.f44.body.getD .skip)
def an44:An:=⟨fun _=>⟨[],[]⟩,fun _ _=>none⟩
abbrev ps44:List PK:=[.val (.pair (.row 111 tTh) i64) true,.val i64 false,.val i64 false]
abbrev rs44:List RK:=[.own (.pair (.row 111 tTh) i64) true,.val .bool false]
abbrev R44:=retsD rs44 × outsD ps44
noncomputable def G44:Gam:=fun f=>match f with | 48=>some Sm48 | 62=>some Sm62 | 92=>some Sm92 | 93=>some Sm93 | 94=>some Sm94 | _=>none
theorem h0_44 (hg:GamOK Try.prog G44):Holds Try.prog 44 ⟨ps44,rs44,false,runF TT G44 an44 Try.f44 c44 ps44 rs44⟩:=holds_of tt_ok hg mixed Try.func44 (by kernel_rfl) (by rfl) (by decide +kernel)
noncomputable def st44_top (n:Nat) (a:List (Int × Int × Int × Bool) × Int) (b:Int) (c:Int):Option R44 :=
 (q48 n ((a.1,a.2),())).bind fun r0=>cond (!r0.1.1) (some ((([],(0:Int)),(false,())),())) (cond (decide ((↑(List.length a.1):Int)=(6:Int))) (some ((([],(0:Int)),(false,())),())) ((q92 n ((a.1,a.2),b,())).bind fun r1=>cond (decide ((0:Int)≤r1.1.1)) (some ((([],(0:Int)),(false,())),())) ((q62 n (b,(0:Int),(99:Int),())).bind fun r2=>cond (!r2.1.1) (some ((([],(0:Int)),(false,())),())) ((q62 n (c,(1:Int),(6:Int),())).bind fun r3=>cond (!r3.1.1) (some ((([],(0:Int)),(false,())),())) ((q93 n ((a.1,a.2),())).bind fun r4=>cond (decide ((List.length r4.1.1.1 + [(b,c,a.2,true)].length) * (32:Nat)≤(140737488355328:Nat))) ((q94 n (r4.1.1.1 ++ [(b,c,a.2,true)],(),())).bind fun r5=>some (((r5.2.1,r4.1.1.2),(true,())),())) (none))))))
theorem e44_top (n:Nat) (a:List (Int × Int × Int × Bool) × Int) (b:Int) (c:Int):runF TT G44 an44 Try.f44 c44 ps44 rs44 n (a,b,c,())=st44_top n a b c:=by kernel_rfl
noncomputable def p44 (n:Nat) (a:List (Int × Int × Int × Bool) × Int) (b:Int) (c:Int):Option R44:=st44_top n a b c
theorem F44_eq (n:Nat) (a:List (Int × Int × Int × Bool) × Int) (b:Int) (c:Int):runF TT G44 an44 Try.f44 c44 ps44 rs44 n (a,b,c,())=p44 n a b c:=by
 rw [e44_top]
 skip
 try rfl
noncomputable def q44 (n:Nat) (x:argsD ps44):Option R44:=p44 n x.1 x.2.1 x.2.2.1
noncomputable def Sm44:Sm:=⟨ps44,rs44,false,q44⟩
theorem holds44 (hg:GamOK Try.prog G44):Holds Try.prog 44 Sm44:=by
 have:=h0_44 hg
 have e:(runF TT G44 an44 Try.f44 c44 ps44 rs44)=q44:=by
  funext n x
  exact F44_eq n x.1 x.2.1 x.2.2.1
 rw [e] at this
 exact this
theorem gam44:GamOK Try.prog G44:=by
 intro f s h
 unfold G44 at h
 split at h
 ·injection h with h; subst h; exact ⟨⟨Try.f48,c48,Try.func48,by kernel_rfl,by decide +kernel⟩,hh48⟩
 ·injection h with h; subst h; exact ⟨⟨Try.f62,c62,Try.func62,by kernel_rfl,by decide +kernel⟩,hh62⟩
 ·injection h with h; subst h; exact ⟨⟨Try.f92,c92,Try.func92,by kernel_rfl,by decide +kernel⟩,hh92⟩
 ·injection h with h; subst h; exact ⟨⟨Try.f93,c93,Try.func93,by kernel_rfl,by decide +kernel⟩,hh93⟩
 ·injection h with h; subst h; exact ⟨⟨Try.f94,c94,Try.func94,by kernel_rfl,by decide +kernel⟩,hh94⟩
 ·cases h
theorem hh44:Holds Try.prog 44 Sm44:=holds44 gam44
end Go.Proofs.Ytpcohpkflkhfbaa.Rx.S

namespace Go.Proofs.Ytpcohpkflkhfbaa.Rx.S
open Go Go.RowKit Go.Proofs
set_option maxRecDepth 100000
noncomputable def c96:Code:=(Try.f96.body.getD .skip)
def an96:An:=⟨fun r=>match r with | 2=>⟨[1,3],[]⟩ | _=>⟨[],[]⟩,fun _ _=>none⟩
abbrev ps96:List PK:=[.val (.pair (.row 111 tTh) i64) true]
abbrev rs96:List RK:=[.val .bool false]
abbrev R96:=retsD rs96 × outsD ps96
noncomputable def G96:Gam:=fun f=>match f with | 57=>some Sm57 | _=>none
theorem h0_96 (hg:GamOK Try.prog G96):Holds Try.prog 96 ⟨ps96,rs96,false,runF TT G96 an96 Try.f96 c96 ps96 rs96⟩:=holds_of tt_ok hg mixed Try.func96 (by kernel_rfl) (by rfl) (by decide +kernel)
noncomputable def at96:Nat→Pt→List Nat→St→Option R96:=atF TT G96 an96 Try.f96 c96 _ _
def sh96_L2 (x0:Int) (x1:List (Int × Int × Int × Bool)) (x2:Int):St:=(St.mk (AV.undef :: ((AV.one (SV.bptr 1000000 0)) :: (AV.undef :: ((AV.one (SV.int (Go.IntKind.i64) x0)) :: (AV.undef :: (AV.undef :: (AV.undef :: (AV.undef :: (AV.undef :: (AV.undef :: (AV.undef :: (AV.undef :: (AV.undef :: (AV.undef :: (AV.undef :: (AV.undef :: (AV.undef :: (AV.undef :: (AV.undef :: (AV.undef :: (AV.undef :: (AV.undef :: (AV.undef :: (AV.undef :: (AV.undef :: (AV.undef :: (AV.undef :: (AV.undef :: (AV.undef :: (AV.undef :: (AV.undef :: (AV.undef :: (AV.undef :: (AV.undef :: (AV.undef :: (AV.undef :: (AV.undef :: (AV.undef :: (AV.undef :: (AV.undef :: (AV.undef :: (AV.undef :: (AV.undef :: (AV.undef :: (AV.undef :: (AV.undef :: (AV.undef :: (AV.undef :: (AV.undef :: (AV.undef :: (AV.undef :: (AV.undef :: (AV.undef :: (AV.undef :: (AV.undef :: (AV.undef :: (AV.undef :: (AV.undef :: (AV.undef :: (AV.undef :: (AV.undef :: (AV.undef :: (AV.undef :: (AV.undef :: (AV.undef :: (AV.undef :: (AV.undef :: (AV.undef :: (AV.undef :: []))))))))))))))))))))))))))))))))))))))))))))))))))))))))))))))))))))) ((1000000,(Ent.box ((SV.con (⟨111,(Ty.int Go.IntKind.i64).pair ((Ty.int Go.IntKind.i64).pair ((Ty.int Go.IntKind.i64).pair Ty.bool)),x1⟩:Rw)) :: ((SV.int (Go.IntKind.i64) x2) :: [])))) :: []))
noncomputable def st96_top (n:Nat) (lL2:Int→(List (Int × Int × Int × Bool))→Int→Option R96) (a:List (Int × Int × Int × Bool) × Int):Option R96 :=
 lL2 ((0:Int)) (a.1) (a.2)
noncomputable def st96_L2 (n:Nat) (lL2:Int→(List (Int × Int × Int × Bool))→Int→Option R96) (x0:Int) (x1:List (Int × Int × Int × Bool)) (x2:Int):Option R96 :=
 cond (decide (x0 < (↑x1.length:Int))) (cond (decide ((0:Int)≤x0)) (cond (decide (x0 < (↑x1.length:Int))) ((q57 n ((x1.getD x0.toNat ((0:Int),(0:Int),(0:Int),false)).1,(0:Int),(99:Int),())).bind fun r1=>cond (!r1.1.1) (some ((false,()),())) ((q57 n ((x1.getD x0.toNat ((0:Int),(0:Int),(0:Int),false)).2.1,(1:Int),(6:Int),())).bind fun r2=>cond (!r2.1.1) (some ((false,()),())) ((q57 n ((x1.getD x0.toNat ((0:Int),(0:Int),(0:Int),false)).2.2.1,(0:Int),(1000000:Int),())).bind fun r3=>cond (!r3.1.1) (some ((false,()),())) (cond (decide ((0:Int) < x0)) (cond (decide ((0:Int)≤Go.IntKind.i64.wrap (x0 - (1:Int)))) (cond (decide (Go.IntKind.i64.wrap (x0 - (1:Int)) < (↑x1.length:Int))) (cond (decide ((x1.getD x0.toNat ((0:Int),(0:Int),(0:Int),false)).1≤(x1.getD (Go.IntKind.i64.wrap (x0 - (1:Int))).toNat ((0:Int),(0:Int),(0:Int),false)).1)) (some ((false,()),())) (cond ((x1.getD x0.toNat ((0:Int),(0:Int),(0:Int),false)).2.2.2) (cond (decide ((x1.getD x0.toNat ((0:Int),(0:Int),(0:Int),false)).2.2.1 < x2)) (some ((false,()),())) (lL2 (Go.IntKind.i64.wrap (x0 + (1:Int))) (x1) (x2))) (lL2 (Go.IntKind.i64.wrap (x0 + (1:Int))) (x1) (x2)))) (none)) (none)) (cond ((x1.getD x0.toNat ((0:Int),(0:Int),(0:Int),false)).2.2.2) (cond (decide ((x1.getD x0.toNat ((0:Int),(0:Int),(0:Int),false)).2.2.1 < x2)) (some ((false,()),())) (lL2 (Go.IntKind.i64.wrap (x0 + (1:Int))) (x1) (x2))) (lL2 (Go.IntKind.i64.wrap (x0 + (1:Int))) (x1) (x2))))))) (none)) (none)) (cond (decide ((↑x1.length:Int)≤(6:Int))) ((q57 n (x2,(0:Int),(1000000:Int),())).bind fun r4=>some ((r4.1.1,()),())) (some ((false,()),())))
theorem e96_top (n:Nat) (a:List (Int × Int × Int × Bool) × Int):runF TT G96 an96 Try.f96 c96 ps96 rs96 n (a,())=st96_top n (fun x0 x1 x2=>at96 n (.head 2) [n] (sh96_L2 x0 x1 x2)) a:=by kernel_rfl
theorem e96_L2_0 (n:Nat) (x0:Int) (x1:List (Int × Int × Int × Bool)) (x2:Int):at96 n (.head 2) [0] (sh96_L2 x0 x1 x2)=none:=by kernel_rfl
theorem e96_L2 (n:Nat) (m2:Nat) (x0:Int) (x1:List (Int × Int × Int × Bool)) (x2:Int):at96 n (.head 2) [m2 + 1] (sh96_L2 x0 x1 x2)=st96_L2 n (fun x0 x1 x2=>at96 n (.head 2) [m2] (sh96_L2 x0 x1 x2)) x0 x1 x2:=by kernel_rfl
noncomputable def p96_L2 (n:Nat):Nat→Int→(List (Int × Int × Int × Bool))→Int→Option R96
 | 0,_,_,_=>none
 | m + 1,x0,x1,x2=>st96_L2 n (p96_L2 n m) x0 x1 x2
noncomputable def p96 (n:Nat) (a:List (Int × Int × Int × Bool) × Int):Option R96:=st96_top n (p96_L2 n n) a
theorem t96_L2 (n:Nat):∀ (m2:Nat) (x0:Int) (x1:List (Int × Int × Int × Bool)) (x2:Int),at96 n (.head 2) [m2] (sh96_L2 x0 x1 x2)=p96_L2 n m2 x0 x1 x2:=by
 intro m
 induction m with
 | zero=>intros; rw [e96_L2_0]; rfl
 | succ m ih =>
  intros
  rw [e96_L2]
  simp only [ih]
  rfl
theorem F96_eq (n:Nat) (a:List (Int × Int × Int × Bool) × Int):runF TT G96 an96 Try.f96 c96 ps96 rs96 n (a,())=p96 n a:=by
 rw [e96_top]
 simp only [t96_L2]
 try rfl
noncomputable def q96 (n:Nat) (x:argsD ps96):Option R96:=p96 n x.1
noncomputable def Sm96:Sm:=⟨ps96,rs96,false,q96⟩
theorem holds96 (hg:GamOK Try.prog G96):Holds Try.prog 96 Sm96:=by
 have:=h0_96 hg
 have e:(runF TT G96 an96 Try.f96 c96 ps96 rs96)=q96:=by
  funext n x
  exact F96_eq n x.1
 rw [e] at this
 exact this
theorem gam96:GamOK Try.prog G96:=by
 intro f s h
 unfold G96 at h
 split at h
 ·injection h with h; subst h; exact ⟨⟨Try.f57,c57,Try.func57,by kernel_rfl,by decide +kernel⟩,hh57⟩
 ·cases h
theorem hh96:Holds Try.prog 96 Sm96:=holds96 gam96
end Go.Proofs.Ytpcohpkflkhfbaa.Rx.S

namespace Go.Proofs.Ytpcohpkflkhfbaa.Rx.S
open Go Go.RowKit Go.Proofs
set_option maxRecDepth 100000
noncomputable def c97:Code:=(Try.f97.body.getD .skip)
def an97:An:=⟨fun r=>match r with | 2=>⟨[1,2,5],[]⟩ | _=>⟨[],[]⟩,fun _ _=>none⟩
abbrev ps97:List PK:=[.val (.pair (.row 111 tTh) i64) true,.val i64 false]
abbrev rs97:List RK:=[.val i64 false]
abbrev R97:=retsD rs97 × outsD ps97
noncomputable def G97:Gam:=fun _=>none
theorem h0_97 (hg:GamOK Try.prog G97):Holds Try.prog 97 ⟨ps97,rs97,false,runF TT G97 an97 Try.f97 c97 ps97 rs97⟩:=holds_of tt_ok hg mixed Try.func97 (by kernel_rfl) (by rfl) (by decide +kernel)
noncomputable def at97:Nat→Pt→List Nat→St→Option R97:=atF TT G97 an97 Try.f97 c97 _ _
def sh97_L2 (x0:Int) (x1:Int) (x2:List (Int × Int × Int × Bool)) (x3:Int):St:=(St.mk (AV.undef :: ((AV.one (SV.int (Go.IntKind.i64) x0)) :: ((AV.one (SV.bptr 1000000 0)) :: (AV.undef :: (AV.undef :: ((AV.one (SV.int (Go.IntKind.i64) x1)) :: (AV.undef :: (AV.undef :: (AV.undef :: (AV.undef :: (AV.undef :: (AV.undef :: (AV.undef :: (AV.undef :: (AV.undef :: (AV.undef :: (AV.undef :: (AV.undef :: (AV.undef :: (AV.undef :: (AV.undef :: (AV.undef :: [])))))))))))))))))))))) ((1000000,(Ent.box ((SV.con (⟨111,(Ty.int Go.IntKind.i64).pair ((Ty.int Go.IntKind.i64).pair ((Ty.int Go.IntKind.i64).pair Ty.bool)),x2⟩:Rw)) :: ((SV.int (Go.IntKind.i64) x3) :: [])))) :: []))
noncomputable def st97_top (n:Nat) (lL2:Int→Int→(List (Int × Int × Int × Bool))→Int→Option R97) (a:List (Int × Int × Int × Bool) × Int) (b:Int):Option R97 :=
 lL2 (b) ((0:Int)) (a.1) (a.2)
noncomputable def st97_L2 (n:Nat) (lL2:Int→Int→(List (Int × Int × Int × Bool))→Int→Option R97) (x0:Int) (x1:Int) (x2:List (Int × Int × Int × Bool)) (x3:Int):Option R97 :=
 cond (decide (x1 < (↑x2.length:Int))) (cond (decide ((0:Int)≤x1)) (cond (decide (x1 < (↑x2.length:Int))) (cond (decide ((x2.getD x1.toNat ((0:Int),(0:Int),(0:Int),false)).1=x0)) (some ((x1,()),())) (lL2 (x0) (Go.IntKind.i64.wrap (x1 + (1:Int))) (x2) (x3))) (none)) (none)) (some (((-1:Int),()),()))
theorem e97_top (n:Nat) (a:List (Int × Int × Int × Bool) × Int) (b:Int):runF TT G97 an97 Try.f97 c97 ps97 rs97 n (a,b,())=st97_top n (fun x0 x1 x2 x3=>at97 n (.head 2) [n] (sh97_L2 x0 x1 x2 x3)) a b:=by kernel_rfl
theorem e97_L2_0 (n:Nat) (x0:Int) (x1:Int) (x2:List (Int × Int × Int × Bool)) (x3:Int):at97 n (.head 2) [0] (sh97_L2 x0 x1 x2 x3)=none:=by kernel_rfl
theorem e97_L2 (n:Nat) (m2:Nat) (x0:Int) (x1:Int) (x2:List (Int × Int × Int × Bool)) (x3:Int):at97 n (.head 2) [m2 + 1] (sh97_L2 x0 x1 x2 x3)=st97_L2 n (fun x0 x1 x2 x3=>at97 n (.head 2) [m2] (sh97_L2 x0 x1 x2 x3)) x0 x1 x2 x3:=by kernel_rfl
noncomputable def p97_L2 (n:Nat):Nat→Int→Int→(List (Int × Int × Int × Bool))→Int→Option R97
 | 0,_,_,_,_=>none
 | m + 1,x0,x1,x2,x3=>st97_L2 n (p97_L2 n m) x0 x1 x2 x3
noncomputable def p97 (n:Nat) (a:List (Int × Int × Int × Bool) × Int) (b:Int):Option R97:=st97_top n (p97_L2 n n) a b
theorem t97_L2 (n:Nat):∀ (m2:Nat) (x0:Int) (x1:Int) (x2:List (Int × Int × Int × Bool)) (x3:Int),at97 n (.head 2) [m2] (sh97_L2 x0 x1 x2 x3)=p97_L2 n m2 x0 x1 x2 x3:=by
 intro m
 induction m with
 | zero=>intros; rw [e97_L2_0]; rfl
 | succ m ih =>
  intros
  rw [e97_L2]
  simp only [ih]
  rfl
theorem F97_eq (n:Nat) (a:List (Int × Int × Int × Bool) × Int) (b:Int):runF TT G97 an97 Try.f97 c97 ps97 rs97 n (a,b,())=p97 n a b:=by
 rw [e97_top]
 simp only [t97_L2]
 try rfl
noncomputable def q97 (n:Nat) (x:argsD ps97):Option R97:=p97 n x.1 x.2.1
noncomputable def Sm97:Sm:=⟨ps97,rs97,false,q97⟩
theorem holds97 (hg:GamOK Try.prog G97):Holds Try.prog 97 Sm97:=by
 have:=h0_97 hg
 have e:(runF TT G97 an97 Try.f97 c97 ps97 rs97)=q97:=by
  funext n x
  exact F97_eq n x.1 x.2.1
 rw [e] at this
 exact this
theorem gam97:GamOK Try.prog G97:=fun _ _ h=>by cases h
theorem hh97:Holds Try.prog 97 Sm97:=holds97 gam97
end Go.Proofs.Ytpcohpkflkhfbaa.Rx.S

namespace Go.Proofs.Ytpcohpkflkhfbaa.Rx.S
open Go Go.RowKit Go.Proofs
set_option maxRecDepth 100000
noncomputable def c98:Code:=(Try.f98.body.getD .skip)
def an98:An:=⟨fun r=>match r with | 4=>⟨[2,3,4,5,6,7],[]⟩ | _=>⟨[],[]⟩,fun _ _=>none⟩
abbrev ps98:List PK:=[.val (.pair (.row 111 tTh) i64) true,.val tTh true]
abbrev rs98:List RK:=[.own (.pair (.row 111 tTh) i64) true]
abbrev R98:=retsD rs98 × outsD ps98
noncomputable def G98:Gam:=fun _=>none
theorem h0_98 (hg:GamOK Try.prog G98):Holds Try.prog 98 ⟨ps98,rs98,false,runF TT G98 an98 Try.f98 c98 ps98 rs98⟩:=holds_of tt_ok hg mixed Try.func98 (by kernel_rfl) (by rfl) (by decide +kernel)
noncomputable def at98:Nat→Pt→List Nat→St→Option R98:=atF TT G98 an98 Try.f98 c98 _ _
def sh98_L4 (x0:Bool) (x1:Int) (x2:List (Int × Int × Int × Bool)) (x3:Int) (x4:Int) (x5:Int) (x6:Int) (x7:Bool) (x8:Int) (x9:List (Int × Int × Int × Bool)):St:=(St.mk (AV.undef :: (AV.undef :: ((AV.one (SV.bptr 1000000 0)) :: ((AV.one (SV.bptr 1000001 0)) :: ((AV.one (SV.bptr 1000002 0)) :: ((AV.one (SV.ref 1000003 0 [] Option.none)) :: ((AV.one (SV.bool x0)) :: ((AV.one (SV.int (Go.IntKind.i64) x1)) :: (AV.undef :: (AV.undef :: (AV.undef :: (AV.undef :: (AV.undef :: (AV.undef :: (AV.undef :: (AV.undef :: (AV.undef :: (AV.undef :: (AV.undef :: (AV.undef :: (AV.undef :: (AV.undef :: (AV.undef :: (AV.undef :: (AV.undef :: (AV.undef :: (AV.undef :: (AV.undef :: (AV.undef :: (AV.undef :: (AV.undef :: (AV.undef :: (AV.undef :: (AV.undef :: (AV.undef :: (AV.undef :: (AV.undef :: (AV.undef :: (AV.undef :: (AV.undef :: (AV.undef :: (AV.undef :: (AV.undef :: (AV.undef :: (AV.undef :: (AV.undef :: (AV.undef :: (AV.undef :: (AV.undef :: (AV.undef :: [])))))))))))))))))))))))))))))))))))))))))))))))))) ((1000000,(Ent.box ((SV.con (⟨111,(Ty.int Go.IntKind.i64).pair ((Ty.int Go.IntKind.i64).pair ((Ty.int Go.IntKind.i64).pair Ty.bool)),x2⟩:Rw)) :: ((SV.int (Go.IntKind.i64) x3) :: [])))) :: ((1000001,(Ent.box ((SV.int (Go.IntKind.i64) x4) :: ((SV.int (Go.IntKind.i64) x5) :: ((SV.int (Go.IntKind.i64) x6) :: ((SV.bool x7) :: [])))))) :: ((1000002,(Ent.box (SV.nil :: ((SV.int (Go.IntKind.i64) x8) :: [])))) :: ((1000003,(Ent.row (⟨111,(Ty.int Go.IntKind.i64).pair ((Ty.int Go.IntKind.i64).pair ((Ty.int Go.IntKind.i64).pair Ty.bool)),x9⟩:Rw) 0 Option.none)) :: [])))))
noncomputable def st98_top (n:Nat) (lL4:Bool→Int→(List (Int × Int × Int × Bool))→Int→Int→Int→Int→Bool→Int→(List (Int × Int × Int × Bool))→Option R98) (a:List (Int × Int × Int × Bool) × Int) (b:Int × Int × Int × Bool):Option R98 :=
 lL4 (false) ((0:Int)) (a.1) (a.2) (b.1) (b.2.1) (b.2.2.1) (b.2.2.2) ((0:Int)) ([])
noncomputable def st98_L4 (n:Nat) (lL4:Bool→Int→(List (Int × Int × Int × Bool))→Int→Int→Int→Int→Bool→Int→(List (Int × Int × Int × Bool))→Option R98) (x0:Bool) (x1:Int) (x2:List (Int × Int × Int × Bool)) (x3:Int) (x4:Int) (x5:Int) (x6:Int) (x7:Bool) (x8:Int) (x9:List (Int × Int × Int × Bool)):Option R98 :=
 cond (decide (x1 < (↑x2.length:Int))) (cond (!x0) (cond (decide ((0:Int)≤x1)) (cond (decide (x1 < (↑x2.length:Int))) (cond (decide (x4 < (x2.getD x1.toNat ((0:Int),(0:Int),(0:Int),false)).1)) (cond (decide ((x9.length + [(x4,x5,x6,x7)].length) * (32:Nat)≤(140737488355328:Nat))) (cond (decide ((0:Int)≤x1)) (cond (decide (x1 < (↑x2.length:Int))) (cond (decide (((x9 ++ [(x4,x5,x6,x7)]).length + [((x2.getD x1.toNat ((0:Int),(0:Int),(0:Int),false)).1,(x2.getD x1.toNat ((0:Int),(0:Int),(0:Int),false)).2.1,(x2.getD x1.toNat ((0:Int),(0:Int),(0:Int),false)).2.2.1,(x2.getD x1.toNat ((0:Int),(0:Int),(0:Int),false)).2.2.2)].length) * (32:Nat)≤(140737488355328:Nat))) (lL4 (true) (Go.IntKind.i64.wrap (x1 + (1:Int))) (x2) (x3) (x4) (x5) (x6) (x7) (x8) (x9 ++ [(x4,x5,x6,x7)] ++ [((x2.getD x1.toNat ((0:Int),(0:Int),(0:Int),false)).1,(x2.getD x1.toNat ((0:Int),(0:Int),(0:Int),false)).2.1,(x2.getD x1.toNat ((0:Int),(0:Int),(0:Int),false)).2.2.1,(x2.getD x1.toNat ((0:Int),(0:Int),(0:Int),false)).2.2.2)])) (none)) (none)) (none)) (none)) (cond (decide ((0:Int)≤x1)) (cond (decide (x1 < (↑x2.length:Int))) (cond (decide ((x9.length + [((x2.getD x1.toNat ((0:Int),(0:Int),(0:Int),false)).1,(x2.getD x1.toNat ((0:Int),(0:Int),(0:Int),false)).2.1,(x2.getD x1.toNat ((0:Int),(0:Int),(0:Int),false)).2.2.1,(x2.getD x1.toNat ((0:Int),(0:Int),(0:Int),false)).2.2.2)].length) * (32:Nat)≤(140737488355328:Nat))) (lL4 (x0) (Go.IntKind.i64.wrap (x1 + (1:Int))) (x2) (x3) (x4) (x5) (x6) (x7) (x8) (x9 ++ [((x2.getD x1.toNat ((0:Int),(0:Int),(0:Int),false)).1,(x2.getD x1.toNat ((0:Int),(0:Int),(0:Int),false)).2.1,(x2.getD x1.toNat ((0:Int),(0:Int),(0:Int),false)).2.2.1,(x2.getD x1.toNat ((0:Int),(0:Int),(0:Int),false)).2.2.2)])) (none)) (none)) (none))) (none)) (none)) (cond (decide ((0:Int)≤x1)) (cond (decide (x1 < (↑x2.length:Int))) (cond (decide ((x9.length + [((x2.getD x1.toNat ((0:Int),(0:Int),(0:Int),false)).1,(x2.getD x1.toNat ((0:Int),(0:Int),(0:Int),false)).2.1,(x2.getD x1.toNat ((0:Int),(0:Int),(0:Int),false)).2.2.1,(x2.getD x1.toNat ((0:Int),(0:Int),(0:Int),false)).2.2.2)].length) * (32:Nat)≤(140737488355328:Nat))) (lL4 (x0) (Go.IntKind.i64.wrap (x1 + (1:Int))) (x2) (x3) (x4) (x5) (x6) (x7) (x8) (x9 ++ [((x2.getD x1.toNat ((0:Int),(0:Int),(0:Int),false)).1,(x2.getD x1.toNat ((0:Int),(0:Int),(0:Int),false)).2.1,(x2.getD x1.toNat ((0:Int),(0:Int),(0:Int),false)).2.2.1,(x2.getD x1.toNat ((0:Int),(0:Int),(0:Int),false)).2.2.2)])) (none)) (none)) (none))) (cond (!x0) (cond (decide ((x9.length + [(x4,x5,x6,x7)].length) * (32:Nat)≤(140737488355328:Nat))) (some (((x9 ++ [(x4,x5,x6,x7)],x3),()),())) (none)) (some (((x9,x3),()),())))
theorem e98_top (n:Nat) (a:List (Int × Int × Int × Bool) × Int) (b:Int × Int × Int × Bool):runF TT G98 an98 Try.f98 c98 ps98 rs98 n (a,b,())=st98_top n (fun x0 x1 x2 x3 x4 x5 x6 x7 x8 x9=>at98 n (.head 4) [n] (sh98_L4 x0 x1 x2 x3 x4 x5 x6 x7 x8 x9)) a b:=by kernel_rfl
theorem e98_L4_0 (n:Nat) (x0:Bool) (x1:Int) (x2:List (Int × Int × Int × Bool)) (x3:Int) (x4:Int) (x5:Int) (x6:Int) (x7:Bool) (x8:Int) (x9:List (Int × Int × Int × Bool)):at98 n (.head 4) [0] (sh98_L4 x0 x1 x2 x3 x4 x5 x6 x7 x8 x9)=none:=by kernel_rfl
theorem e98_L4 (n:Nat) (m4:Nat) (x0:Bool) (x1:Int) (x2:List (Int × Int × Int × Bool)) (x3:Int) (x4:Int) (x5:Int) (x6:Int) (x7:Bool) (x8:Int) (x9:List (Int × Int × Int × Bool)):at98 n (.head 4) [m4 + 1] (sh98_L4 x0 x1 x2 x3 x4 x5 x6 x7 x8 x9)=st98_L4 n (fun x0 x1 x2 x3 x4 x5 x6 x7 x8 x9=>at98 n (.head 4) [m4] (sh98_L4 x0 x1 x2 x3 x4 x5 x6 x7 x8 x9)) x0 x1 x2 x3 x4 x5 x6 x7 x8 x9:=by kernel_rfl
noncomputable def p98_L4 (n:Nat):Nat→Bool→Int→(List (Int × Int × Int × Bool))→Int→Int→Int→Int→Bool→Int→(List (Int × Int × Int × Bool))→Option R98
 | 0,_,_,_,_,_,_,_,_,_,_=>none
 | m + 1,x0,x1,x2,x3,x4,x5,x6,x7,x8,x9=>st98_L4 n (p98_L4 n m) x0 x1 x2 x3 x4 x5 x6 x7 x8 x9
noncomputable def p98 (n:Nat) (a:List (Int × Int × Int × Bool) × Int) (b:Int × Int × Int × Bool):Option R98:=st98_top n (p98_L4 n n) a b
theorem t98_L4 (n:Nat):∀ (m4:Nat) (x0:Bool) (x1:Int) (x2:List (Int × Int × Int × Bool)) (x3:Int) (x4:Int) (x5:Int) (x6:Int) (x7:Bool) (x8:Int) (x9:List (Int × Int × Int × Bool)),at98 n (.head 4) [m4] (sh98_L4 x0 x1 x2 x3 x4 x5 x6 x7 x8 x9)=p98_L4 n m4 x0 x1 x2 x3 x4 x5 x6 x7 x8 x9:=by
 intro m
 induction m with
 | zero=>intros; rw [e98_L4_0]; rfl
 | succ m ih =>
  intros
  rw [e98_L4]
  simp only [ih]
  rfl
theorem F98_eq (n:Nat) (a:List (Int × Int × Int × Bool) × Int) (b:Int × Int × Int × Bool):runF TT G98 an98 Try.f98 c98 ps98 rs98 n (a,b,())=p98 n a b:=by
 rw [e98_top]
 simp only [t98_L4]
 try rfl
noncomputable def q98 (n:Nat) (x:argsD ps98):Option R98:=p98 n x.1 x.2.1
noncomputable def Sm98:Sm:=⟨ps98,rs98,false,q98⟩
theorem holds98 (hg:GamOK Try.prog G98):Holds Try.prog 98 Sm98:=by
 have:=h0_98 hg
 have e:(runF TT G98 an98 Try.f98 c98 ps98 rs98)=q98:=by
  funext n x
  exact F98_eq n x.1 x.2.1
 rw [e] at this
 exact this
theorem gam98:GamOK Try.prog G98:=fun _ _ h=>by cases h
theorem hh98:Holds Try.prog 98 Sm98:=holds98 gam98
end Go.Proofs.Ytpcohpkflkhfbaa.Rx.S

namespace Go.Proofs.Ytpcohpkflkhfbaa.Rx.S
open Go Go.RowKit Go.Proofs
set_option maxRecDepth 100000
noncomputable def c99:Code:=(Try.f99.body.getD .skip)
def an99:An:=⟨fun _=>⟨[],[]⟩,fun _ _=>none⟩
abbrev ps99:List PK:=[.val (.pair (.row 111 tTh) i64) true]
abbrev rs99:List RK:=[.own (.pair (.row 111 tTh) i64) true]
abbrev R99:=retsD rs99 × outsD ps99
noncomputable def G99:Gam:=fun _=>none
theorem h0_99 (hg:GamOK Try.prog G99):Holds Try.prog 99 ⟨ps99,rs99,false,runF TT G99 an99 Try.f99 c99 ps99 rs99⟩:=holds_of tt_ok hg mixed Try.func99 (by kernel_rfl) (by rfl) (by decide +kernel)
noncomputable def st99_top (n:Nat) (a:List (Int × Int × Int × Bool) × Int):Option R99 :=
 cond (decide (((0:Nat) + List.length a.1) * (32:Nat)≤(140737488355328:Nat))) (some (((a.1,a.2),()),())) (none)
theorem e99_top (n:Nat) (a:List (Int × Int × Int × Bool) × Int):runF TT G99 an99 Try.f99 c99 ps99 rs99 n (a,())=st99_top n a:=by kernel_rfl
noncomputable def p99 (n:Nat) (a:List (Int × Int × Int × Bool) × Int):Option R99:=st99_top n a
theorem F99_eq (n:Nat) (a:List (Int × Int × Int × Bool) × Int):runF TT G99 an99 Try.f99 c99 ps99 rs99 n (a,())=p99 n a:=by
 rw [e99_top]
 skip
 try rfl
noncomputable def q99 (n:Nat) (x:argsD ps99):Option R99:=p99 n x.1
noncomputable def Sm99:Sm:=⟨ps99,rs99,false,q99⟩
theorem holds99 (hg:GamOK Try.prog G99):Holds Try.prog 99 Sm99:=by
 have:=h0_99 hg
 have e:(runF TT G99 an99 Try.f99 c99 ps99 rs99)=q99:=by
  funext n x
  exact F99_eq n x.1
 rw [e] at this
 exact this
theorem gam99:GamOK Try.prog G99:=fun _ _ h=>by cases h
theorem hh99:Holds Try.prog 99 Sm99:=holds99 gam99
end Go.Proofs.Ytpcohpkflkhfbaa.Rx.S

namespace Go.Proofs.Ytpcohpkflkhfbaa.Rx.S
open Go Go.RowKit Go.Proofs
set_option maxRecDepth 100000
noncomputable def c45:Code:=(Try.f45.body.getD .skip)
def an45:An:=⟨fun _=>⟨[],[]⟩,fun _ _=>none⟩
abbrev ps45:List PK:=[.val (.pair (.row 111 tTh) i64) true,.val i64 false,.val i64 false]
abbrev rs45:List RK:=[.own (.pair (.row 111 tTh) i64) true,.val .bool false]
abbrev R45:=retsD rs45 × outsD ps45
noncomputable def G45:Gam:=fun f=>match f with | 57=>some Sm57 | 96=>some Sm96 | 97=>some Sm97 | 98=>some Sm98 | 99=>some Sm99 | _=>none
theorem h0_45 (hg:GamOK Try.prog G45):Holds Try.prog 45 ⟨ps45,rs45,false,runF TT G45 an45 Try.f45 c45 ps45 rs45⟩:=holds_of tt_ok hg mixed Try.func45 (by kernel_rfl) (by rfl) (by decide +kernel)
noncomputable def st45_top (n:Nat) (a:List (Int × Int × Int × Bool) × Int) (b:Int) (c:Int):Option R45 :=
 (q96 n ((a.1,a.2),())).bind fun r0=>cond (!r0.1.1) (some ((([],(0:Int)),(false,())),())) ((q97 n ((a.1,a.2),b,())).bind fun r1=>cond (decide ((0:Int)≤r1.1.1)) (some ((([],(0:Int)),(false,())),())) (cond (decide ((6:Int)≤(↑(List.length a.1):Int))) (some ((([],(0:Int)),(false,())),())) ((q57 n (b,(0:Int),(99:Int),())).bind fun r2=>cond (!r2.1.1) (some ((([],(0:Int)),(false,())),())) ((q57 n (c,(1:Int),(6:Int),())).bind fun r3=>cond (!r3.1.1) (some ((([],(0:Int)),(false,())),())) ((q99 n ((a.1,a.2),())).bind fun r4=>(q98 n ((r4.1.1.1,r4.1.1.2),(b,c,a.2,true),())).bind fun r5=>some (((r5.1.1.1,r5.1.1.2),(true,())),()))))))
theorem e45_top (n:Nat) (a:List (Int × Int × Int × Bool) × Int) (b:Int) (c:Int):runF TT G45 an45 Try.f45 c45 ps45 rs45 n (a,b,c,())=st45_top n a b c:=by kernel_rfl
noncomputable def p45 (n:Nat) (a:List (Int × Int × Int × Bool) × Int) (b:Int) (c:Int):Option R45:=st45_top n a b c
theorem F45_eq (n:Nat) (a:List (Int × Int × Int × Bool) × Int) (b:Int) (c:Int):runF TT G45 an45 Try.f45 c45 ps45 rs45 n (a,b,c,())=p45 n a b c:=by
 rw [e45_top]
 skip
 try rfl
noncomputable def q45 (n:Nat) (x:argsD ps45):Option R45:=p45 n x.1 x.2.1 x.2.2.1
noncomputable def Sm45:Sm:=⟨ps45,rs45,false,q45⟩
theorem holds45 (hg:GamOK Try.prog G45):Holds Try.prog 45 Sm45:=by
 have:=h0_45 hg
 have e:(runF TT G45 an45 Try.f45 c45 ps45 rs45)=q45:=by
  funext n x
  exact F45_eq n x.1 x.2.1 x.2.2.1
 rw [e] at this
 exact this
theorem gam45:GamOK Try.prog G45:=by
 intro f s h
 unfold G45 at h
 split at h
 ·injection h with h; subst h; exact ⟨⟨Try.f57,c57,Try.func57,by kernel_rfl,by decide +kernel⟩,hh57⟩
 ·injection h with h; subst h; exact ⟨⟨Try.f96,c96,Try.func96,by kernel_rfl,by decide +kernel⟩,hh96⟩
 ·injection h with h; subst h; exact ⟨⟨Try.f97,c97,Try.func97,by kernel_rfl,by decide +kernel⟩,hh97⟩
 ·injection h with h; subst h; exact ⟨⟨Try.f98,c98,Try.func98,by kernel_rfl,by decide +kernel⟩,hh98⟩
 ·injection h with h; subst h; exact ⟨⟨Try.f99,c99,Try.func99,by kernel_rfl,by decide +kernel⟩,hh99⟩
 ·cases h
theorem hh45:Holds Try.prog 45 Sm45:=holds45 gam45
end Go.Proofs.Ytpcohpkflkhfbaa.Rx.S

namespace Go.Proofs.Ytpcohpkflkhfbaa.Rx.S
open Go Go.RowKit Go.Proofs
set_option maxRecDepth 100000
noncomputable def c124:Code:=(Try.f124.body.getD .skip)
def an124:An:=⟨fun r=>match r with | 3=>⟨[1,3,4],[]⟩ | _=>⟨[],[]⟩,fun _ _=>none⟩
abbrev ps124:List PK:=[.val (.pair (.row 111 tTh) i64) true]
abbrev rs124:List RK:=[.val i64 false]
abbrev R124:=retsD rs124 × outsD ps124
noncomputable def G124:Gam:=fun _=>none
theorem h0_124 (hg:GamOK Try.prog G124):Holds Try.prog 124 ⟨ps124,rs124,false,runF TT G124 an124 Try.f124 c124 ps124 rs124⟩:=holds_of tt_ok hg mixed Try.func124 (by kernel_rfl) (by rfl) (by decide +kernel)
noncomputable def at124:Nat→Pt→List Nat→St→Option R124:=atF TT G124 an124 Try.f124 c124 _ _
def sh124_L3 (x0:Int) (x1:Int) (x2:List (Int × Int × Int × Bool)) (x3:Int):St:=(St.mk (AV.undef :: ((AV.one (SV.bptr 1000000 0)) :: (AV.undef :: ((AV.one (SV.int (Go.IntKind.i64) x0)) :: ((AV.one (SV.int (Go.IntKind.i64) x1)) :: (AV.undef :: (AV.undef :: (AV.undef :: (AV.undef :: (AV.undef :: (AV.undef :: (AV.undef :: (AV.undef :: (AV.undef :: (AV.undef :: (AV.undef :: (AV.undef :: (AV.undef :: (AV.undef :: (AV.undef :: (AV.undef :: (AV.undef :: (AV.undef :: (AV.undef :: (AV.undef :: (AV.undef :: (AV.undef :: (AV.undef :: (AV.undef :: (AV.undef :: (AV.undef :: (AV.undef :: (AV.undef :: (AV.undef :: (AV.undef :: (AV.undef :: (AV.undef :: (AV.undef :: (AV.undef :: []))))))))))))))))))))))))))))))))))))))) ((1000000,(Ent.box ((SV.con (⟨111,(Ty.int Go.IntKind.i64).pair ((Ty.int Go.IntKind.i64).pair ((Ty.int Go.IntKind.i64).pair Ty.bool)),x2⟩:Rw)) :: ((SV.int (Go.IntKind.i64) x3) :: [])))) :: []))
noncomputable def st124_top (n:Nat) (lL3:Int→Int→(List (Int × Int × Int × Bool))→Int→Option R124) (a:List (Int × Int × Int × Bool) × Int):Option R124 :=
 lL3 ((-1:Int)) ((0:Int)) (a.1) (a.2)
noncomputable def st124_L3 (n:Nat) (lL3:Int→Int→(List (Int × Int × Int × Bool))→Int→Option R124) (x0:Int) (x1:Int) (x2:List (Int × Int × Int × Bool)) (x3:Int):Option R124 :=
 cond (decide (x1 < (↑x2.length:Int))) (cond (decide ((0:Int)≤x1)) (cond (decide (x1 < (↑x2.length:Int))) (cond ((x2.getD x1.toNat ((0:Int),(0:Int),(0:Int),false)).2.2.2) (cond (decide (x0 < (0:Int))) (lL3 (x1) (Go.IntKind.i64.wrap (x1 + (1:Int))) (x2) (x3)) (cond (decide ((0:Int)≤x1)) (cond (decide (x1 < (↑x2.length:Int))) (cond (decide ((0:Int)≤x0)) (cond (decide (x0 < (↑x2.length:Int))) (cond (decide ((x2.getD x1.toNat ((0:Int),(0:Int),(0:Int),false)).2.2.1 < (x2.getD x0.toNat ((0:Int),(0:Int),(0:Int),false)).2.2.1)) (lL3 (x1) (Go.IntKind.i64.wrap (x1 + (1:Int))) (x2) (x3)) (lL3 (x0) (Go.IntKind.i64.wrap (x1 + (1:Int))) (x2) (x3))) (none)) (none)) (none)) (none))) (lL3 (x0) (Go.IntKind.i64.wrap (x1 + (1:Int))) (x2) (x3))) (none)) (none)) (some ((x0,()),()))
theorem e124_top (n:Nat) (a:List (Int × Int × Int × Bool) × Int):runF TT G124 an124 Try.f124 c124 ps124 rs124 n (a,())=st124_top n (fun x0 x1 x2 x3=>at124 n (.head 3) [n] (sh124_L3 x0 x1 x2 x3)) a:=by kernel_rfl
theorem e124_L3_0 (n:Nat) (x0:Int) (x1:Int) (x2:List (Int × Int × Int × Bool)) (x3:Int):at124 n (.head 3) [0] (sh124_L3 x0 x1 x2 x3)=none:=by kernel_rfl
theorem e124_L3 (n:Nat) (m3:Nat) (x0:Int) (x1:Int) (x2:List (Int × Int × Int × Bool)) (x3:Int):at124 n (.head 3) [m3 + 1] (sh124_L3 x0 x1 x2 x3)=st124_L3 n (fun x0 x1 x2 x3=>at124 n (.head 3) [m3] (sh124_L3 x0 x1 x2 x3)) x0 x1 x2 x3:=by kernel_rfl
noncomputable def p124_L3 (n:Nat):Nat→Int→Int→(List (Int × Int × Int × Bool))→Int→Option R124
 | 0,_,_,_,_=>none
 | m + 1,x0,x1,x2,x3=>st124_L3 n (p124_L3 n m) x0 x1 x2 x3
noncomputable def p124 (n:Nat) (a:List (Int × Int × Int × Bool) × Int):Option R124:=st124_top n (p124_L3 n n) a
theorem t124_L3 (n:Nat):∀ (m3:Nat) (x0:Int) (x1:Int) (x2:List (Int × Int × Int × Bool)) (x3:Int),at124 n (.head 3) [m3] (sh124_L3 x0 x1 x2 x3)=p124_L3 n m3 x0 x1 x2 x3:=by
 intro m
 induction m with
 | zero=>intros; rw [e124_L3_0]; rfl
 | succ m ih =>
  intros
  rw [e124_L3]
  try simp only [ih]
  rfl
theorem F124_eq (n:Nat) (a:List (Int × Int × Int × Bool) × Int):runF TT G124 an124 Try.f124 c124 ps124 rs124 n (a,())=p124 n a:=by
 rw [e124_top]
 simp only [t124_L3]
 try rfl
noncomputable def q124 (n:Nat) (x:argsD ps124):Option R124:=p124 n x.1
noncomputable def Sm124:Sm:=⟨ps124,rs124,false,q124⟩
theorem holds124 (hg:GamOK Try.prog G124):Holds Try.prog 124 Sm124:=by
 have:=h0_124 hg
 have e:(runF TT G124 an124 Try.f124 c124 ps124 rs124)=q124:=by
  funext n x
  exact F124_eq n x.1
 rw [e] at this
 exact this
theorem gam124:GamOK Try.prog G124:=fun _ _ h=>by cases h
theorem hh124:Holds Try.prog 124 Sm124:=holds124 gam124
end Go.Proofs.Ytpcohpkflkhfbaa.Rx.S

namespace Go.Proofs.Ytpcohpkflkhfbaa.Rx.S
open Go Go.RowKit Go.Proofs
set_option maxRecDepth 100000
noncomputable def c115:Code:=(Try.f115.body.getD .skip)
def an115:An:=⟨fun _=>⟨[],[]⟩,fun _ _=>none⟩
abbrev ps115:List PK:=[.own (.pair (.row 111 tTh) i64) true]
abbrev rs115:List RK:=[.own (.pair (.row 111 tTh) i64) true,.val i64 false]
abbrev R115:=retsD rs115 × outsD ps115
noncomputable def G115:Gam:=fun f=>match f with | 124=>some Sm124 | _=>none
theorem h0_115 (hg:GamOK Try.prog G115):Holds Try.prog 115 ⟨ps115,rs115,false,runF TT G115 an115 Try.f115 c115 ps115 rs115⟩:=holds_of tt_ok hg mixed Try.func115 (by kernel_rfl) (by rfl) (by decide +kernel)
noncomputable def st115_top (n:Nat) (a:List (Int × Int × Int × Bool) × Int):Option R115 :=
 (q124 n ((a.1,a.2),())).bind fun r0=>cond (decide (r0.1.1 < (0:Int))) (some (((a.1,a.2),((-1:Int),())),())) (cond (decide ((0:Int)≤r0.1.1)) (cond (decide (r0.1.1 < (↑(List.length a.1):Int))) (cond (decide ((0:Int)≤r0.1.1)) (cond (decide (r0.1.1 < (↑(List.length a.1):Int))) (cond (!decide ((List.getD a.1 (Int.toNat r0.1.1) ((0:Int),(0:Int),(0:Int),false)).2.1=(0:Int))) (cond (decide ((1000000:Int) < Go.IntKind.i64.wrap ((List.getD a.1 (Int.toNat r0.1.1) ((0:Int),(0:Int),(0:Int),false)).2.2.1 + Go.IntKind.i64.wrap (Int.tdiv (60:Int) (List.getD a.1 (Int.toNat r0.1.1) ((0:Int),(0:Int),(0:Int),false)).2.1)))) (some (((a.1,a.2),((-1:Int),())),())) (cond (decide ((0:Int)≤r0.1.1)) (cond (decide (r0.1.1 < (↑(List.length a.1):Int))) ((q124 n ((List.set a.1 (Int.toNat r0.1.1) ((List.getD a.1 (Int.toNat r0.1.1) ((0:Int),(0:Int),(0:Int),false)).1,(List.getD a.1 (Int.toNat r0.1.1) ((0:Int),(0:Int),(0:Int),false)).2.1,Go.IntKind.i64.wrap ((List.getD a.1 (Int.toNat r0.1.1) ((0:Int),(0:Int),(0:Int),false)).2.2.1 + Go.IntKind.i64.wrap (Int.tdiv (60:Int) (List.getD a.1 (Int.toNat r0.1.1) ((0:Int),(0:Int),(0:Int),false)).2.1)),(List.getD a.1 (Int.toNat r0.1.1) ((0:Int),(0:Int),(0:Int),false)).2.2.2),a.2),())).bind fun r1=>cond (decide ((0:Int)≤r1.1.1)) (cond (decide (r1.1.1 < (↑(List.set a.1 (Int.toNat r0.1.1) ((List.getD a.1 (Int.toNat r0.1.1) ((0:Int),(0:Int),(0:Int),false)).1,(List.getD a.1 (Int.toNat r0.1.1) ((0:Int),(0:Int),(0:Int),false)).2.1,Go.IntKind.i64.wrap ((List.getD a.1 (Int.toNat r0.1.1) ((0:Int),(0:Int),(0:Int),false)).2.2.1 + Go.IntKind.i64.wrap (Int.tdiv (60:Int) (List.getD a.1 (Int.toNat r0.1.1) ((0:Int),(0:Int),(0:Int),false)).2.1)),(List.getD a.1 (Int.toNat r0.1.1) ((0:Int),(0:Int),(0:Int),false)).2.2.2)).length:Int))) (cond (decide ((0:Int)≤r0.1.1)) (cond (decide (r0.1.1 < (↑(List.set a.1 (Int.toNat r0.1.1) ((List.getD a.1 (Int.toNat r0.1.1) ((0:Int),(0:Int),(0:Int),false)).1,(List.getD a.1 (Int.toNat r0.1.1) ((0:Int),(0:Int),(0:Int),false)).2.1,Go.IntKind.i64.wrap ((List.getD a.1 (Int.toNat r0.1.1) ((0:Int),(0:Int),(0:Int),false)).2.2.1 + Go.IntKind.i64.wrap (Int.tdiv (60:Int) (List.getD a.1 (Int.toNat r0.1.1) ((0:Int),(0:Int),(0:Int),false)).2.1)),(List.getD a.1 (Int.toNat r0.1.1) ((0:Int),(0:Int),(0:Int),false)).2.2.2)).length:Int))) (some (((List.set a.1 (Int.toNat r0.1.1) ((List.getD a.1 (Int.toNat r0.1.1) ((0:Int),(0:Int),(0:Int),false)).1,(List.getD a.1 (Int.toNat r0.1.1) ((0:Int),(0:Int),(0:Int),false)).2.1,Go.IntKind.i64.wrap ((List.getD a.1 (Int.toNat r0.1.1) ((0:Int),(0:Int),(0:Int),false)).2.2.1 + Go.IntKind.i64.wrap (Int.tdiv (60:Int) (List.getD a.1 (Int.toNat r0.1.1) ((0:Int),(0:Int),(0:Int),false)).2.1)),(List.getD a.1 (Int.toNat r0.1.1) ((0:Int),(0:Int),(0:Int),false)).2.2.2),if ((List.set a.1 (Int.toNat r0.1.1) ((List.getD a.1 (Int.toNat r0.1.1) ((0:Int),(0:Int),(0:Int),false)).1,(List.getD a.1 (Int.toNat r0.1.1) ((0:Int),(0:Int),(0:Int),false)).2.1,Go.IntKind.i64.wrap ((List.getD a.1 (Int.toNat r0.1.1) ((0:Int),(0:Int),(0:Int),false)).2.2.1 + Go.IntKind.i64.wrap (Int.tdiv (60:Int) (List.getD a.1 (Int.toNat r0.1.1) ((0:Int),(0:Int),(0:Int),false)).2.1)),(List.getD a.1 (Int.toNat r0.1.1) ((0:Int),(0:Int),(0:Int),false)).2.2.2)).getD (Int.toNat r1.1.1) ((0:Int),(0:Int),(0:Int),false)).2.2.1 > a.2 then ((List.set a.1 (Int.toNat r0.1.1) ((List.getD a.1 (Int.toNat r0.1.1) ((0:Int),(0:Int),(0:Int),false)).1,(List.getD a.1 (Int.toNat r0.1.1) ((0:Int),(0:Int),(0:Int),false)).2.1,Go.IntKind.i64.wrap ((List.getD a.1 (Int.toNat r0.1.1) ((0:Int),(0:Int),(0:Int),false)).2.2.1 + Go.IntKind.i64.wrap (Int.tdiv (60:Int) (List.getD a.1 (Int.toNat r0.1.1) ((0:Int),(0:Int),(0:Int),false)).2.1)),(List.getD a.1 (Int.toNat r0.1.1) ((0:Int),(0:Int),(0:Int),false)).2.2.2)).getD (Int.toNat r1.1.1) ((0:Int),(0:Int),(0:Int),false)).2.2.1 else a.2),(((List.set a.1 (Int.toNat r0.1.1) ((List.getD a.1 (Int.toNat r0.1.1) ((0:Int),(0:Int),(0:Int),false)).1,(List.getD a.1 (Int.toNat r0.1.1) ((0:Int),(0:Int),(0:Int),false)).2.1,Go.IntKind.i64.wrap ((List.getD a.1 (Int.toNat r0.1.1) ((0:Int),(0:Int),(0:Int),false)).2.2.1 + Go.IntKind.i64.wrap (Int.tdiv (60:Int) (List.getD a.1 (Int.toNat r0.1.1) ((0:Int),(0:Int),(0:Int),false)).2.1)),(List.getD a.1 (Int.toNat r0.1.1) ((0:Int),(0:Int),(0:Int),false)).2.2.2)).getD (Int.toNat r0.1.1) ((0:Int),(0:Int),(0:Int),false)).1,())),())) (none)) (none)) (none)) (none)) (none)) (none))) (none)) (none)) (none)) (none)) (none))
theorem e115_top (n:Nat) (a:List (Int × Int × Int × Bool) × Int):runF TT G115 an115 Try.f115 c115 ps115 rs115 n (a,())=st115_top n a:=by kernel_rfl
noncomputable def p115 (n:Nat) (a:List (Int × Int × Int × Bool) × Int):Option R115:=st115_top n a
theorem F115_eq (n:Nat) (a:List (Int × Int × Int × Bool) × Int):runF TT G115 an115 Try.f115 c115 ps115 rs115 n (a,())=p115 n a:=by
 rw [e115_top]
 skip
 try rfl
noncomputable def q115 (n:Nat) (x:argsD ps115):Option R115:=p115 n x.1
noncomputable def Sm115:Sm:=⟨ps115,rs115,false,q115⟩
theorem holds115 (hg:GamOK Try.prog G115):Holds Try.prog 115 Sm115:=by
 have:=h0_115 hg
 have e:(runF TT G115 an115 Try.f115 c115 ps115 rs115)=q115:=by
  funext n x
  exact F115_eq n x.1
 rw [e] at this
 exact this
theorem gam115:GamOK Try.prog G115:=by
 intro f s h
 unfold G115 at h
 split at h
 ·injection h with h; subst h; exact ⟨⟨Try.f124,c124,Try.func124,by kernel_rfl,by decide +kernel⟩,hh124⟩
 ·cases h
theorem hh115:Holds Try.prog 115 Sm115:=holds115 gam115
end Go.Proofs.Ytpcohpkflkhfbaa.Rx.S

namespace Go.Proofs.Ytpcohpkflkhfbaa.Rx.S
open Go Go.RowKit Go.Proofs
set_option maxRecDepth 100000
noncomputable def c116:Code:=(Try.f116.body.getD .skip)
def an116:An:=⟨fun _=>⟨[],[]⟩,fun _ _=>none⟩
abbrev ps116:List PK:=[.own (.pair (.row 111 tTh) i64) true,.val i64 false]
abbrev rs116:List RK:=[.own (.pair (.row 111 tTh) i64) true]
abbrev R116:=retsD rs116 × outsD ps116
noncomputable def G116:Gam:=fun _=>none
theorem h0_116 (hg:GamOK Try.prog G116):Holds Try.prog 116 ⟨ps116,rs116,false,runF TT G116 an116 Try.f116 c116 ps116 rs116⟩:=holds_of tt_ok hg mixed Try.func116 (by kernel_rfl) (by rfl) (by decide +kernel)
noncomputable def st116_top (n:Nat) (a:List (Int × Int × Int × Bool) × Int) (b:Int):Option R116 :=
 cond (decide ((0:Int)≤b)) (cond (decide (b < (↑(List.length a.1):Int))) (cond (!(List.getD a.1 b.toNat ((0:Int),(0:Int),(0:Int),false)).2.2.2) (cond (decide ((0:Int)≤b)) (cond (decide (b < (↑(List.length a.1):Int))) (cond (decide ((0:Int)≤b)) (cond (decide (b < (↑(List.set a.1 b.toNat ((List.getD a.1 b.toNat ((0:Int),(0:Int),(0:Int),false)).1,(List.getD a.1 b.toNat ((0:Int),(0:Int),(0:Int),false)).2.1,(List.getD a.1 b.toNat ((0:Int),(0:Int),(0:Int),false)).2.2.1,true)).length:Int))) (cond (decide ((0:Int)≤b)) (cond (decide (b < (↑(List.set a.1 b.toNat ((List.getD a.1 b.toNat ((0:Int),(0:Int),(0:Int),false)).1,(List.getD a.1 b.toNat ((0:Int),(0:Int),(0:Int),false)).2.1,(List.getD a.1 b.toNat ((0:Int),(0:Int),(0:Int),false)).2.2.1,true)).length:Int))) (some ((((List.set a.1 b.toNat ((List.getD a.1 b.toNat ((0:Int),(0:Int),(0:Int),false)).1,(List.getD a.1 b.toNat ((0:Int),(0:Int),(0:Int),false)).2.1,(List.getD a.1 b.toNat ((0:Int),(0:Int),(0:Int),false)).2.2.1,true)).set b.toNat (((List.set a.1 b.toNat ((List.getD a.1 b.toNat ((0:Int),(0:Int),(0:Int),false)).1,(List.getD a.1 b.toNat ((0:Int),(0:Int),(0:Int),false)).2.1,(List.getD a.1 b.toNat ((0:Int),(0:Int),(0:Int),false)).2.2.1,true)).getD b.toNat ((0:Int),(0:Int),(0:Int),false)).1,((List.set a.1 b.toNat ((List.getD a.1 b.toNat ((0:Int),(0:Int),(0:Int),false)).1,(List.getD a.1 b.toNat ((0:Int),(0:Int),(0:Int),false)).2.1,(List.getD a.1 b.toNat ((0:Int),(0:Int),(0:Int),false)).2.2.1,true)).getD b.toNat ((0:Int),(0:Int),(0:Int),false)).2.1,if a.2 > ((List.set a.1 b.toNat ((List.getD a.1 b.toNat ((0:Int),(0:Int),(0:Int),false)).1,(List.getD a.1 b.toNat ((0:Int),(0:Int),(0:Int),false)).2.1,(List.getD a.1 b.toNat ((0:Int),(0:Int),(0:Int),false)).2.2.1,true)).getD b.toNat ((0:Int),(0:Int),(0:Int),false)).2.2.1 then a.2 else ((List.set a.1 b.toNat ((List.getD a.1 b.toNat ((0:Int),(0:Int),(0:Int),false)).1,(List.getD a.1 b.toNat ((0:Int),(0:Int),(0:Int),false)).2.1,(List.getD a.1 b.toNat ((0:Int),(0:Int),(0:Int),false)).2.2.1,true)).getD b.toNat ((0:Int),(0:Int),(0:Int),false)).2.2.1,((List.set a.1 b.toNat ((List.getD a.1 b.toNat ((0:Int),(0:Int),(0:Int),false)).1,(List.getD a.1 b.toNat ((0:Int),(0:Int),(0:Int),false)).2.1,(List.getD a.1 b.toNat ((0:Int),(0:Int),(0:Int),false)).2.2.1,true)).getD b.toNat ((0:Int),(0:Int),(0:Int),false)).2.2.2),a.2),()),())) (none)) (none)) (none)) (none)) (none)) (none)) (some (((a.1,a.2),()),()))) (none)) (none)
theorem e116_top (n:Nat) (a:List (Int × Int × Int × Bool) × Int) (b:Int):runF TT G116 an116 Try.f116 c116 ps116 rs116 n (a,b,())=st116_top n a b:=by kernel_rfl
noncomputable def p116 (n:Nat) (a:List (Int × Int × Int × Bool) × Int) (b:Int):Option R116:=st116_top n a b
theorem F116_eq (n:Nat) (a:List (Int × Int × Int × Bool) × Int) (b:Int):runF TT G116 an116 Try.f116 c116 ps116 rs116 n (a,b,())=p116 n a b:=by
 rw [e116_top]
 skip
 try rfl
noncomputable def q116 (n:Nat) (x:argsD ps116):Option R116:=p116 n x.1 x.2.1
noncomputable def Sm116:Sm:=⟨ps116,rs116,false,q116⟩
theorem holds116 (hg:GamOK Try.prog G116):Holds Try.prog 116 Sm116:=by
 have:=h0_116 hg
 have e:(runF TT G116 an116 Try.f116 c116 ps116 rs116)=q116:=by
  funext n x
  exact F116_eq n x.1 x.2.1
 rw [e] at this
 exact this
theorem gam116:GamOK Try.prog G116:=fun _ _ h=>by cases h
theorem hh116:Holds Try.prog 116 Sm116:=holds116 gam116
end Go.Proofs.Ytpcohpkflkhfbaa.Rx.S

namespace Go.Proofs.Ytpcohpkflkhfbaa.Rx.S
open Go Go.RowKit Go.Proofs
set_option maxRecDepth 100000
noncomputable def c91:Code:=(Try.f91.body.getD .skip)
def an91:An:=⟨fun r=>match r with | 3=>⟨[0,2,3,4],[]⟩ | 9=>⟨[0,2,3,4,6],[]⟩ | _=>⟨[],[]⟩,fun _ _=>none⟩
abbrev ps91:List PK:=[.bx tRd]
abbrev rs91:List RK:=[.own (.pair (.row 111 tTh) i64) true]
abbrev R91:=retsD rs91 × outsD ps91
noncomputable def G91:Gam:=fun f=>match f with | 81=>some Sm81 | 97=>some Sm97 | 98=>some Sm98 | 115=>some Sm115 | 116=>some Sm116 | _=>none
theorem h0_91 (hg:GamOK Try.prog G91):Holds Try.prog 91 ⟨ps91,rs91,true,runF TT G91 an91 Try.f91 c91 ps91 rs91⟩:=holds_of tt_ok hg mixed Try.func91 (by kernel_rfl) (by rfl) (by decide +kernel)
noncomputable def at91:Nat→Pt→List Nat→St→Option R91:=atF TT G91 an91 Try.f91 c91 _ _
def sh91_L9 (x0:Int) (x1:Int) (x2:List Int) (x3:Int) (x4:Int) (x5:Int) (x6:List (Int × Int × Int × Bool)):St:=(St.mk ((AV.par 0 false ((SV.bptr 1000000 0) :: [])) :: (AV.undef :: ((AV.one (SV.bptr 1000001 0)) :: ((AV.one (SV.bptr 1000002 0)) :: ((AV.one (SV.int (Go.IntKind.i64) x0)) :: (AV.undef :: ((AV.one (SV.int (Go.IntKind.i64) x1)) :: (AV.undef :: (AV.undef :: (AV.undef :: (AV.undef :: (AV.undef :: (AV.undef :: (AV.undef :: (AV.undef :: (AV.undef :: (AV.undef :: (AV.undef :: (AV.undef :: (AV.undef :: (AV.undef :: (AV.undef :: (AV.undef :: (AV.undef :: (AV.undef :: (AV.undef :: (AV.undef :: (AV.undef :: (AV.undef :: (AV.undef :: (AV.undef :: (AV.undef :: (AV.undef :: (AV.undef :: (AV.undef :: (AV.undef :: (AV.undef :: (AV.undef :: (AV.undef :: (AV.undef :: (AV.undef :: (AV.undef :: (AV.undef :: (AV.undef :: (AV.undef :: (AV.undef :: (AV.undef :: (AV.undef :: (AV.undef :: (AV.undef :: (AV.undef :: (AV.undef :: (AV.undef :: (AV.undef :: (AV.undef :: (AV.undef :: (AV.undef :: (AV.undef :: (AV.undef :: (AV.undef :: (AV.undef :: (AV.undef :: (AV.undef :: (AV.undef :: (AV.undef :: (AV.undef :: (AV.undef :: (AV.undef :: (AV.undef :: (AV.undef :: (AV.undef :: (AV.undef :: (AV.undef :: (AV.undef :: (AV.undef :: (AV.undef :: (AV.undef :: (AV.undef :: (AV.undef :: (AV.undef :: (AV.undef :: (AV.undef :: (AV.undef :: (AV.undef :: (AV.undef :: (AV.undef :: (AV.undef :: (AV.undef :: (AV.undef :: (AV.undef :: (AV.undef :: (AV.undef :: (AV.undef :: (AV.undef :: (AV.undef :: (AV.undef :: (AV.undef :: (AV.undef :: [])))))))))))))))))))))))))))))))))))))))))))))))))))))))))))))))))))))))))))))))))))))))))))))))))) ((1000000,(Ent.box ((SV.con (⟨5,Ty.int Go.IntKind.u8,x2⟩:Rw)) :: ((SV.int (Go.IntKind.i64) x3) :: [])))) :: ((1000001,(Ent.box (SV.nil :: ((SV.int (Go.IntKind.i64) x4) :: [])))) :: ((1000002,(Ent.box ((SV.ref 1000003 0 [] Option.none) :: ((SV.int (Go.IntKind.i64) x5) :: [])))) :: ((1000003,(Ent.row (⟨111,(Ty.int Go.IntKind.i64).pair ((Ty.int Go.IntKind.i64).pair ((Ty.int Go.IntKind.i64).pair Ty.bool)),x6⟩:Rw) 0 Option.none)) :: [])))))
def sh91_L3 (x0:Int) (x1:List Int) (x2:Int) (x3:Int) (x4:Int) (x5:List (Int × Int × Int × Bool)):St:=(St.mk ((AV.par 0 false ((SV.bptr 1000000 0) :: [])) :: (AV.undef :: ((AV.one (SV.bptr 1000001 0)) :: ((AV.one (SV.bptr 1000002 0)) :: ((AV.one (SV.int (Go.IntKind.i64) x0)) :: (AV.undef :: (AV.undef :: (AV.undef :: (AV.undef :: (AV.undef :: (AV.undef :: (AV.undef :: (AV.undef :: (AV.undef :: (AV.undef :: (AV.undef :: (AV.undef :: (AV.undef :: (AV.undef :: (AV.undef :: (AV.undef :: (AV.undef :: (AV.undef :: (AV.undef :: (AV.undef :: (AV.undef :: (AV.undef :: (AV.undef :: (AV.undef :: (AV.undef :: (AV.undef :: (AV.undef :: (AV.undef :: (AV.undef :: (AV.undef :: (AV.undef :: (AV.undef :: (AV.undef :: (AV.undef :: (AV.undef :: (AV.undef :: (AV.undef :: (AV.undef :: (AV.undef :: (AV.undef :: (AV.undef :: (AV.undef :: (AV.undef :: (AV.undef :: (AV.undef :: (AV.undef :: (AV.undef :: (AV.undef :: (AV.undef :: (AV.undef :: (AV.undef :: (AV.undef :: (AV.undef :: (AV.undef :: (AV.undef :: (AV.undef :: (AV.undef :: (AV.undef :: (AV.undef :: (AV.undef :: (AV.undef :: (AV.undef :: (AV.undef :: (AV.undef :: (AV.undef :: (AV.undef :: (AV.undef :: (AV.undef :: (AV.undef :: (AV.undef :: (AV.undef :: (AV.undef :: (AV.undef :: (AV.undef :: (AV.undef :: (AV.undef :: (AV.undef :: (AV.undef :: (AV.undef :: (AV.undef :: (AV.undef :: (AV.undef :: (AV.undef :: (AV.undef :: (AV.undef :: (AV.undef :: (AV.undef :: (AV.undef :: (AV.undef :: (AV.undef :: (AV.undef :: (AV.undef :: (AV.undef :: [])))))))))))))))))))))))))))))))))))))))))))))))))))))))))))))))))))))))))))))))))))))))))))))))))) ((1000000,(Ent.box ((SV.con (⟨5,Ty.int Go.IntKind.u8,x1⟩:Rw)) :: ((SV.int (Go.IntKind.i64) x2) :: [])))) :: ((1000001,(Ent.box (SV.nil :: ((SV.int (Go.IntKind.i64) x3) :: [])))) :: ((1000002,(Ent.box ((SV.ref 1000003 0 [] Option.none) :: ((SV.int (Go.IntKind.i64) x4) :: [])))) :: ((1000003,(Ent.row (⟨111,(Ty.int Go.IntKind.i64).pair ((Ty.int Go.IntKind.i64).pair ((Ty.int Go.IntKind.i64).pair Ty.bool)),x5⟩:Rw) 0 Option.none)) :: [])))))
noncomputable def st91_top (n:Nat) (lL3:Int→(List Int)→Int→Int→Int→(List (Int × Int × Int × Bool))→Option R91) (a:List Int × Int):Option R91 :=
 (q81 n ((a.1,a.2),(6:Int),())).bind fun r0=>lL3 (r0.1.1) (r0.2.1.1) (r0.2.1.2) ((0:Int)) ((0:Int)) ([])
noncomputable def st91_L9 (n:Nat) (lL9:Int→Int→(List Int)→Int→Int→Int→(List (Int × Int × Int × Bool))→Option R91) (lL3:Int→(List Int)→Int→Int→Int→(List (Int × Int × Int × Bool))→Option R91) (x0:Int) (x1:Int) (x2:List Int) (x3:Int) (x4:Int) (x5:Int) (x6:List (Int × Int × Int × Bool)):Option R91 :=
 cond (decide ((0:Int) < x1)) ((q115 n ((x6,x5),())).bind fun r8=>lL9 (x0) (Go.IntKind.i64.wrap (x1 - (1:Int))) (x2) (x3) (x4) (r8.1.1.2) (r8.1.1.1)) (cond (decide ((0:Int) < (↑x6.length:Int))) ((q81 n ((x2,x3),(3:Int),())).bind fun r9=>cond (decide (r9.1.1=(0:Int))) ((q81 n ((r9.2.1.1,r9.2.1.2),(↑x6.length:Int),())).bind fun r10=>cond (decide ((0:Int)≤r10.1.1)) (cond (decide (r10.1.1 < (↑x6.length:Int))) ((q81 n ((r10.2.1.1,r10.2.1.2),(2:Int),())).bind fun r11=>cond (decide (r11.1.1=(0:Int))) ((q116 n ((x6.set (Int.toNat r10.1.1) ((x6.getD (Int.toNat r10.1.1) ((0:Int),(0:Int),(0:Int),false)).1,(x6.getD (Int.toNat r10.1.1) ((0:Int),(0:Int),(0:Int),false)).2.1,(x6.getD (Int.toNat r10.1.1) ((0:Int),(0:Int),(0:Int),false)).2.2.1,false),x5),r10.1.1,())).bind fun r12=>lL3 (Go.IntKind.i64.wrap (x0 - (1:Int))) (r11.2.1.1) (r11.2.1.2) (x4) (r12.1.1.2) (r12.1.1.1)) (lL3 (Go.IntKind.i64.wrap (x0 - (1:Int))) (r11.2.1.1) (r11.2.1.2) (x4) (x5) (x6.set (Int.toNat r10.1.1) ((x6.getD (Int.toNat r10.1.1) ((0:Int),(0:Int),(0:Int),false)).1,(x6.getD (Int.toNat r10.1.1) ((0:Int),(0:Int),(0:Int),false)).2.1,(x6.getD (Int.toNat r10.1.1) ((0:Int),(0:Int),(0:Int),false)).2.2.1,false)))) (none)) (none)) (lL3 (Go.IntKind.i64.wrap (x0 - (1:Int))) (r9.2.1.1) (r9.2.1.2) (x4) (x5) (x6))) (lL3 (Go.IntKind.i64.wrap (x0 - (1:Int))) (x2) (x3) (x4) (x5) (x6)))
noncomputable def st91_L3 (n:Nat) (lL9:Int→Int→(List Int)→Int→Int→Int→(List (Int × Int × Int × Bool))→Option R91) (x0:Int) (x1:List Int) (x2:Int) (x3:Int) (x4:Int) (x5:List (Int × Int × Int × Bool)):Option R91 :=
 cond (decide ((0:Int) < x0)) ((q81 n ((x1,x2),(8:Int),())).bind fun r2=>(q97 n ((x5,x4),r2.1.1,())).bind fun r3=>cond (decide (r3.1.1 < (0:Int))) ((q81 n ((r2.2.1.1,r2.2.1.2),(6:Int),())).bind fun r4=>(q98 n ((x5,x4),(r2.1.1,Go.IntKind.i64.wrap ((1:Int) + r4.1.1),x4,true),())).bind fun r5=>(q81 n ((r4.2.1.1,r4.2.1.2),(9:Int),())).bind fun r6=>lL9 (x0) (r6.1.1) (r6.2.1.1) (r6.2.1.2) (x3) (r5.1.1.2) (r5.1.1.1)) ((q81 n ((r2.2.1.1,r2.2.1.2),(9:Int),())).bind fun r13=>lL9 (x0) (r13.1.1) (r13.2.1.1) (r13.2.1.2) (x3) (x4) (x5))) ((q81 n ((x1,x2),(24:Int),())).bind fun r14=>cond (decide (r14.1.1=(0:Int))) ((q81 n ((r14.2.1.1,r14.2.1.2),(4:Int),())).bind fun r15=>cond (decide ((0:Int)≤r15.1.1)) (cond (decide (r15.1.1 < (↑[(-1:Int),Go.IntKind.i64.wrap (x4 + (30:Int)),(1000000:Int),(1000001:Int)].length:Int))) (some (((x5,[(-1:Int),Go.IntKind.i64.wrap (x4 + (30:Int)),(1000000:Int),(1000001:Int)].getD (Int.toNat r15.1.1) (0:Int)),()),((r15.2.1.1,r15.2.1.2),()))) (none)) (none)) (cond (decide (r14.1.1=(1:Int))) ((q81 n ((r14.2.1.1,r14.2.1.2),(101:Int),())).bind fun r16=>(q81 n ((r16.2.1.1,r16.2.1.2),(8:Int),())).bind fun r17=>(q81 n ((r17.2.1.1,r17.2.1.2),(3:Int),())).bind fun r18=>cond (decide ((0:Int)≤r18.1.1)) (cond (decide (r18.1.1 < (↑[(0:Int),(1000000:Int),(999990:Int)].length:Int))) (cond (decide ((x5.length + [(r16.1.1,r17.1.1,[(0:Int),(1000000:Int),(999990:Int)].getD (Int.toNat r18.1.1) (0:Int),true)].length) * (32:Nat)≤(140737488355328:Nat))) (some (((x5 ++ [(r16.1.1,r17.1.1,[(0:Int),(1000000:Int),(999990:Int)].getD (Int.toNat r18.1.1) (0:Int),true)],x4),()),((r18.2.1.1,r18.2.1.2),()))) (none)) (none)) (none)) (some (((x5,x4),()),((r14.2.1.1,r14.2.1.2),())))))
theorem e91_top (n:Nat) (a:List Int × Int):runF TT G91 an91 Try.f91 c91 ps91 rs91 n (a,())=st91_top n (fun x0 x1 x2 x3 x4 x5=>at91 n (.head 3) [n] (sh91_L3 x0 x1 x2 x3 x4 x5)) a:=by kernel_rfl
theorem e91_L9_0 (n:Nat) (m3:Nat) (x0:Int) (x1:Int) (x2:List Int) (x3:Int) (x4:Int) (x5:Int) (x6:List (Int × Int × Int × Bool)):at91 n (.head 9) [m3,0] (sh91_L9 x0 x1 x2 x3 x4 x5 x6)=none:=by kernel_rfl
theorem e91_L9 (n:Nat) (m3:Nat) (m9:Nat) (x0:Int) (x1:Int) (x2:List Int) (x3:Int) (x4:Int) (x5:Int) (x6:List (Int × Int × Int × Bool)):at91 n (.head 9) [m3,m9 + 1] (sh91_L9 x0 x1 x2 x3 x4 x5 x6)=st91_L9 n (fun x0 x1 x2 x3 x4 x5 x6=>at91 n (.head 9) [m3,m9] (sh91_L9 x0 x1 x2 x3 x4 x5 x6)) (fun x0 x1 x2 x3 x4 x5=>at91 n (.head 3) [m3] (sh91_L3 x0 x1 x2 x3 x4 x5)) x0 x1 x2 x3 x4 x5 x6:=by kernel_rfl
theorem e91_L3_0 (n:Nat) (x0:Int) (x1:List Int) (x2:Int) (x3:Int) (x4:Int) (x5:List (Int × Int × Int × Bool)):at91 n (.head 3) [0] (sh91_L3 x0 x1 x2 x3 x4 x5)=none:=by kernel_rfl
theorem e91_L3 (n:Nat) (m3:Nat) (x0:Int) (x1:List Int) (x2:Int) (x3:Int) (x4:Int) (x5:List (Int × Int × Int × Bool)):at91 n (.head 3) [m3 + 1] (sh91_L3 x0 x1 x2 x3 x4 x5)=st91_L3 n (fun x0 x1 x2 x3 x4 x5 x6=>at91 n (.head 9) [m3,n] (sh91_L9 x0 x1 x2 x3 x4 x5 x6)) x0 x1 x2 x3 x4 x5:=by kernel_rfl
noncomputable def p91_L9 (g3:Int→(List Int)→Int→Int→Int→(List (Int × Int × Int × Bool))→Option R91) (n:Nat):Nat→Int→Int→(List Int)→Int→Int→Int→(List (Int × Int × Int × Bool))→Option R91
 | 0,_,_,_,_,_,_,_=>none
 | m + 1,x0,x1,x2,x3,x4,x5,x6=>st91_L9 n (p91_L9 g3 n m) g3 x0 x1 x2 x3 x4 x5 x6
noncomputable def p91_L3 (n:Nat):Nat→Int→(List Int)→Int→Int→Int→(List (Int × Int × Int × Bool))→Option R91
 | 0,_,_,_,_,_,_=>none
 | m + 1,x0,x1,x2,x3,x4,x5=>st91_L3 n (p91_L9 (p91_L3 n m) n n) x0 x1 x2 x3 x4 x5
noncomputable def p91 (n:Nat) (a:List Int × Int):Option R91:=st91_top n (p91_L3 n n) a
theorem t91_L9 (n:Nat) (m3:Nat):∀ (m9:Nat) (x0:Int) (x1:Int) (x2:List Int) (x3:Int) (x4:Int) (x5:Int) (x6:List (Int × Int × Int × Bool)),at91 n (.head 9) [m3,m9] (sh91_L9 x0 x1 x2 x3 x4 x5 x6)=p91_L9 (fun x0 x1 x2 x3 x4 x5=>at91 n (.head 3) [m3] (sh91_L3 x0 x1 x2 x3 x4 x5)) n m9 x0 x1 x2 x3 x4 x5 x6:=by
 intro m
 induction m with
 | zero=>intros; rw [e91_L9_0]; rfl
 | succ m ih =>
  intros
  rw [e91_L9]
  try simp only [ih]
  rfl
theorem t91_L3 (n:Nat):∀ (m3:Nat) (x0:Int) (x1:List Int) (x2:Int) (x3:Int) (x4:Int) (x5:List (Int × Int × Int × Bool)),at91 n (.head 3) [m3] (sh91_L3 x0 x1 x2 x3 x4 x5)=p91_L3 n m3 x0 x1 x2 x3 x4 x5:=by
 intro m
 induction m with
 | zero=>intros; rw [e91_L3_0]; rfl
 | succ m ih =>
  intros
  rw [e91_L3]
  try simp only [t91_L9,ih]
  rfl
theorem F91_eq (n:Nat) (a:List Int × Int):runF TT G91 an91 Try.f91 c91 ps91 rs91 n (a,())=p91 n a:=by
 rw [e91_top]
 simp only [t91_L3]
 try rfl
noncomputable def q91 (n:Nat) (x:argsD ps91):Option R91:=p91 n x.1
noncomputable def Sm91:Sm:=⟨ps91,rs91,true,q91⟩
theorem holds91 (hg:GamOK Try.prog G91):Holds Try.prog 91 Sm91:=by
 have:=h0_91 hg
 have e:(runF TT G91 an91 Try.f91 c91 ps91 rs91)=q91:=by
  funext n x
  exact F91_eq n x.1
 rw [e] at this
 exact this
theorem gam91:GamOK Try.prog G91:=by
 intro f s h
 unfold G91 at h
 split at h
 ·injection h with h; subst h; exact ⟨⟨Try.f81,c81,Try.func81,by kernel_rfl,by decide +kernel⟩,hh81⟩
 ·injection h with h; subst h; exact ⟨⟨Try.f97,c97,Try.func97,by kernel_rfl,by decide +kernel⟩,hh97⟩
 ·injection h with h; subst h; exact ⟨⟨Try.f98,c98,Try.func98,by kernel_rfl,by decide +kernel⟩,hh98⟩
 ·injection h with h; subst h; exact ⟨⟨Try.f115,c115,Try.func115,by kernel_rfl,by decide +kernel⟩,hh115⟩
 ·injection h with h; subst h; exact ⟨⟨Try.f116,c116,Try.func116,by kernel_rfl,by decide +kernel⟩,hh116⟩
 ·cases h
theorem hh91:Holds Try.prog 91 Sm91:=holds91 gam91
end Go.Proofs.Ytpcohpkflkhfbaa.Rx.S

namespace Go.Proofs.Ytpcohpkflkhfbaa.Rx.S
open Go Go.RowKit Go.Proofs
set_option maxRecDepth 100000
noncomputable def c43:Code:=(Try.f43.body.getD .skip)
def an43:An:=⟨fun _=>⟨[],[]⟩,fun _ _=>none⟩
abbrev ps43:List PK:=[.val (.row 5 (.int .u8)) false]
abbrev rs43:List RK:=[.own (.pair (.row 111 tTh) i64) true,.val i64 false,.val i64 false]
abbrev R43:=retsD rs43 × outsD ps43
noncomputable def G43:Gam:=fun f=>match f with | 73=>some Sm73 | 81=>some Sm81 | 91=>some Sm91 | _=>none
theorem h0_43 (hg:GamOK Try.prog G43):Holds Try.prog 43 ⟨ps43,rs43,true,runF TT G43 an43 Try.f43 c43 ps43 rs43⟩:=holds_of tt_ok hg mixed Try.func43 (by kernel_rfl) (by rfl) (by decide +kernel)
noncomputable def st43_top (n:Nat) (a:List Int):Option R43 :=
 (q73 n (a,())).bind fun r0=>(q91 n ((r0.1.1.1,r0.1.1.2),())).bind fun r1=>(q81 n ((r1.2.1.1,r1.2.1.2),(9:Int),())).bind fun r2=>(q81 n ((r2.2.1.1,r2.2.1.2),(9:Int),())).bind fun r3=>(q81 n ((r3.2.1.1,r3.2.1.2),(8:Int),())).bind fun r4=>some (((r1.1.1.1,r1.1.1.2),(Go.IntKind.i64.wrap (r2.1.1 - Go.IntKind.i64.wrap (Int.tdiv r3.1.1 (8:Int))),(r4.1.1,()))),())
theorem e43_top (n:Nat) (a:List Int):runF TT G43 an43 Try.f43 c43 ps43 rs43 n (a,())=st43_top n a:=by kernel_rfl
noncomputable def p43 (n:Nat) (a:List Int):Option R43:=st43_top n a
theorem F43_eq (n:Nat) (a:List Int):runF TT G43 an43 Try.f43 c43 ps43 rs43 n (a,())=p43 n a:=by
 rw [e43_top]
 skip
 try rfl
noncomputable def q43 (n:Nat) (x:argsD ps43):Option R43:=p43 n x.1
noncomputable def Sm43:Sm:=⟨ps43,rs43,true,q43⟩
theorem holds43 (hg:GamOK Try.prog G43):Holds Try.prog 43 Sm43:=by
 have:=h0_43 hg
 have e:(runF TT G43 an43 Try.f43 c43 ps43 rs43)=q43:=by
  funext n x
  exact F43_eq n x.1
 rw [e] at this
 exact this
theorem gam43:GamOK Try.prog G43:=by
 intro f s h
 unfold G43 at h
 split at h
 ·injection h with h; subst h; exact ⟨⟨Try.f73,c73,Try.func73,by kernel_rfl,by decide +kernel⟩,hh73⟩
 ·injection h with h; subst h; exact ⟨⟨Try.f81,c81,Try.func81,by kernel_rfl,by decide +kernel⟩,hh81⟩
 ·injection h with h; subst h; exact ⟨⟨Try.f91,c91,Try.func91,by kernel_rfl,by decide +kernel⟩,hh91⟩
 ·cases h
theorem hh43:Holds Try.prog 43 Sm43:=holds43 gam43
end Go.Proofs.Ytpcohpkflkhfbaa.Rx.S

namespace Go.Proofs.Ytpcohpkflkhfbaa.Rx.S
open Go Go.RowKit Go.Proofs
set_option maxRecDepth 100000
noncomputable def c46:Code:=(Try.f46.body.getD .skip)
def an46:An:=⟨fun r=>match r with | 4=>⟨[2,3,5],[]⟩ | _=>⟨[],[]⟩,fun _ _=>none⟩
abbrev ps46:List PK:=[.val (.pair (.row 111 tTh) i64) true,.val (.pair (.row 111 tTh) i64) true]
abbrev rs46:List RK:=[.val .bool false]
abbrev R46:=retsD rs46 × outsD ps46
noncomputable def G46:Gam:=fun _=>none
theorem h0_46 (hg:GamOK Try.prog G46):Holds Try.prog 46 ⟨ps46,rs46,false,runF TT G46 an46 Try.f46 c46 ps46 rs46⟩:=holds_of tt_ok hg mixed Try.func46 (by kernel_rfl) (by rfl) (by decide +kernel)
noncomputable def at46:Nat→Pt→List Nat→St→Option R46:=atF TT G46 an46 Try.f46 c46 _ _
def sh46_L4 (x0:Int) (x1:List (Int × Int × Int × Bool)) (x2:Int) (x3:List (Int × Int × Int × Bool)) (x4:Int):St:=(St.mk (AV.undef :: (AV.undef :: ((AV.one (SV.bptr 1000000 0)) :: ((AV.one (SV.bptr 1000001 0)) :: (AV.undef :: ((AV.one (SV.int (Go.IntKind.i64) x0)) :: (AV.undef :: (AV.undef :: (AV.undef :: (AV.undef :: (AV.undef :: (AV.undef :: (AV.undef :: (AV.undef :: (AV.undef :: (AV.undef :: (AV.undef :: (AV.undef :: (AV.undef :: (AV.undef :: (AV.undef :: (AV.undef :: (AV.undef :: (AV.undef :: (AV.undef :: (AV.undef :: (AV.undef :: (AV.undef :: (AV.undef :: (AV.undef :: (AV.undef :: (AV.undef :: (AV.undef :: (AV.undef :: (AV.undef :: (AV.undef :: (AV.undef :: (AV.undef :: [])))))))))))))))))))))))))))))))))))))) ((1000000,(Ent.box ((SV.con (⟨111,(Ty.int Go.IntKind.i64).pair ((Ty.int Go.IntKind.i64).pair ((Ty.int Go.IntKind.i64).pair Ty.bool)),x1⟩:Rw)) :: ((SV.int (Go.IntKind.i64) x2) :: [])))) :: ((1000001,(Ent.box ((SV.con (⟨111,(Ty.int Go.IntKind.i64).pair ((Ty.int Go.IntKind.i64).pair ((Ty.int Go.IntKind.i64).pair Ty.bool)),x3⟩:Rw)) :: ((SV.int (Go.IntKind.i64) x4) :: [])))) :: [])))
noncomputable def st46_top (n:Nat) (lL4:Int→(List (Int × Int × Int × Bool))→Int→(List (Int × Int × Int × Bool))→Int→Option R46) (a:List (Int × Int × Int × Bool) × Int) (b:List (Int × Int × Int × Bool) × Int):Option R46 :=
 cond (!decide (a.2=b.2)) (some ((false,()),())) (cond (!decide ((↑(List.length a.1):Int)=(↑(List.length b.1):Int))) (some ((false,()),())) (lL4 ((0:Int)) (a.1) (a.2) (b.1) (b.2)))
noncomputable def st46_L4 (n:Nat) (lL4:Int→(List (Int × Int × Int × Bool))→Int→(List (Int × Int × Int × Bool))→Int→Option R46) (x0:Int) (x1:List (Int × Int × Int × Bool)) (x2:Int) (x3:List (Int × Int × Int × Bool)) (x4:Int):Option R46 :=
 cond (decide (x0 < (↑x1.length:Int))) (cond (decide ((0:Int)≤x0)) (cond (decide (x0 < (↑x1.length:Int))) (cond (decide ((0:Int)≤x0)) (cond (decide (x0 < (↑x3.length:Int))) (cond (!(decide ((x1.getD x0.toNat ((0:Int),(0:Int),(0:Int),false)).1=(x3.getD x0.toNat ((0:Int),(0:Int),(0:Int),false)).1)&&(decide ((x1.getD x0.toNat ((0:Int),(0:Int),(0:Int),false)).2.1=(x3.getD x0.toNat ((0:Int),(0:Int),(0:Int),false)).2.1)&&(decide ((x1.getD x0.toNat ((0:Int),(0:Int),(0:Int),false)).2.2.1=(x3.getD x0.toNat ((0:Int),(0:Int),(0:Int),false)).2.2.1)&&((x1.getD x0.toNat ((0:Int),(0:Int),(0:Int),false)).2.2.2 == (x3.getD x0.toNat ((0:Int),(0:Int),(0:Int),false)).2.2.2&&true))))) (some ((false,()),())) (lL4 (Go.IntKind.i64.wrap (x0 + (1:Int))) (x1) (x2) (x3) (x4))) (none)) (none)) (none)) (none)) (some ((true,()),()))
theorem e46_top (n:Nat) (a:List (Int × Int × Int × Bool) × Int) (b:List (Int × Int × Int × Bool) × Int):runF TT G46 an46 Try.f46 c46 ps46 rs46 n (a,b,())=st46_top n (fun x0 x1 x2 x3 x4=>at46 n (.head 4) [n] (sh46_L4 x0 x1 x2 x3 x4)) a b:=by kernel_rfl
theorem e46_L4_0 (n:Nat) (x0:Int) (x1:List (Int × Int × Int × Bool)) (x2:Int) (x3:List (Int × Int × Int × Bool)) (x4:Int):at46 n (.head 4) [0] (sh46_L4 x0 x1 x2 x3 x4)=none:=by kernel_rfl
theorem e46_L4 (n:Nat) (m4:Nat) (x0:Int) (x1:List (Int × Int × Int × Bool)) (x2:Int) (x3:List (Int × Int × Int × Bool)) (x4:Int):at46 n (.head 4) [m4 + 1] (sh46_L4 x0 x1 x2 x3 x4)=st46_L4 n (fun x0 x1 x2 x3 x4=>at46 n (.head 4) [m4] (sh46_L4 x0 x1 x2 x3 x4)) x0 x1 x2 x3 x4:=by kernel_rfl
noncomputable def p46_L4 (n:Nat):Nat→Int→(List (Int × Int × Int × Bool))→Int→(List (Int × Int × Int × Bool))→Int→Option R46
 | 0,_,_,_,_,_=>none
 | m + 1,x0,x1,x2,x3,x4=>st46_L4 n (p46_L4 n m) x0 x1 x2 x3 x4
noncomputable def p46 (n:Nat) (a:List (Int × Int × Int × Bool) × Int) (b:List (Int × Int × Int × Bool) × Int):Option R46:=st46_top n (p46_L4 n n) a b
theorem t46_L4 (n:Nat):∀ (m4:Nat) (x0:Int) (x1:List (Int × Int × Int × Bool)) (x2:Int) (x3:List (Int × Int × Int × Bool)) (x4:Int),at46 n (.head 4) [m4] (sh46_L4 x0 x1 x2 x3 x4)=p46_L4 n m4 x0 x1 x2 x3 x4:=by
 intro m
 induction m with
 | zero=>intros; rw [e46_L4_0]; rfl
 | succ m ih =>
  intros
  rw [e46_L4]
  try simp only [ih]
  rfl
theorem F46_eq (n:Nat) (a:List (Int × Int × Int × Bool) × Int) (b:List (Int × Int × Int × Bool) × Int):runF TT G46 an46 Try.f46 c46 ps46 rs46 n (a,b,())=p46 n a b:=by
 rw [e46_top]
 simp only [t46_L4]
 try rfl
noncomputable def q46 (n:Nat) (x:argsD ps46):Option R46:=p46 n x.1 x.2.1
noncomputable def Sm46:Sm:=⟨ps46,rs46,false,q46⟩
theorem holds46 (hg:GamOK Try.prog G46):Holds Try.prog 46 Sm46:=by
 have:=h0_46 hg
 have e:(runF TT G46 an46 Try.f46 c46 ps46 rs46)=q46:=by
  funext n x
  exact F46_eq n x.1 x.2.1
 rw [e] at this
 exact this
theorem gam46:GamOK Try.prog G46:=fun _ _ h=>by cases h
theorem hh46:Holds Try.prog 46 Sm46:=holds46 gam46
end Go.Proofs.Ytpcohpkflkhfbaa.Rx.S

namespace Go.Proofs.Ytpcohpkflkhfbaa.Rx.S
open Go Go.Proofs.Ytpcohpkflkhfbaa.Rx Go.RowKit Go.Lib Go.Proofs
set_option linter.unusedVariables false
set_option linter.unusedSimpArgs false
theorem zero111:∀ w,(zeroValue 111).run Try.prog w = .ok (.agg #[.int .i64 0,.int .i64 0,.int .i64 0,.bool false]) w:=fun w=>by
 have hi:(Try.prog.info? 111).bind (·.zero)=some (.agg #[.int .i64 0,.int .i64 0,.int .i64 0,.bool false]):=by kernel_rfl
 obtain ⟨i,h1,h2⟩:=Option.bind_eq_some_iff.1 hi
 simp [zeroValue,typeInfo,h1,h2]
set_option maxHeartbeats 4000000 in
set_option maxRecDepth 1000000 in
theorem del_walk (blk off n cap i j:Nat) (hj:j=i + 1) (us:List Value) (w:World) (hl:us.length=n * 4) (h1:∀ u ∈ us,u.oneCell'=true) (hcell:∀ j u,us[j]? = some u→w.cell? ⟨blk,off + j,none⟩=some u)
  (hfz:∀ j,j < n * 4→w.frozen? ⟨blk,off + j,none⟩=false) (hn:n≤cap) (hm:cap≤9223372036854775807) (hi:i < n) :
  Calls Try.prog 100 #[.slice (some ⟨blk,off,none⟩) n cap,.int .i64 i,.int .i64 (j:Nat)] w fun e w'=>e = .returned (.slice (some ⟨blk,off,none⟩) (n - 1) cap) ∧
   w'=(w.drew.setCells blk (off + i * 4) (us.drop (j * 4))).setCells blk (off + (n - 1) * 4) [.int .i64 0,.int .i64 0,.int .i64 0,.bool false]:=by
 have mixed:Try.prog.follows .mixedOrders=true:=by kernel_rfl
 have t37:Try.prog.underlying 66=some (.slice 111):=by kernel_rfl
 obtain ⟨news,hnews⟩:∃ news,news=us.drop (j * 4):=⟨_,rfl⟩
 have hlen:news.length=(n - j) * 4:=by rw [hnews,List.length_drop,hl]; omega
 obtain ⟨i0,hi0,hz1⟩:∃ i0,Try.prog.info? 111=some i0∧i0.size=4:=by
  have h:(Try.prog.info? 111).map (·.size)=some 4:=by kernel_rfl
  obtain ⟨i0,h1,h2⟩:=Option.map_eq_some_iff.1 h
  exact ⟨i0,h1,h2⟩
 obtain ⟨A,hA,hsrc⟩:∃ A:Addr,(if cap=j then (some ⟨blk,off,none⟩:Option Addr) else some ⟨blk,off + j * 4,none⟩)=some A∧Hid (∀ t u,news[t]? = some u→w.drew.cell? (A.add t)=some u):=by
  by_cases h:cap=j
  ·refine ⟨⟨blk,off,none⟩,by simp [h],fun t u hu=>?_⟩
   have h0:news.length=0:=by rw [hlen]; omega
   rw [List.length_eq_zero_iff.1 h0] at hu
   simp at hu
  ·refine ⟨⟨blk,off + j * 4,none⟩,by simp [h],fun t u hu=>?_⟩
   rw [hnews,List.getElem?_drop] at hu
   rw [Addr.add_lit,Nat.add_assoc]
   exact hcell _ _ hu
 have s2:Hid (∀ u ∈ news,u.oneCell'=true):=fun u hu=>h1 u (List.mem_of_mem_drop (hnews ▸ hu))
 have s1:Hid (news.length=(n - j) * 4):=hlen
 have hsome:∀ j,j < n * 4→(w.cell? ⟨blk,off + j,none⟩).isSome=true:=fun j hj=>by
  rw [hcell j _ (List.getElem?_eq_getElem (by rw [hl]; exact hj))]; rfl
 have s3:Hid (∀ t,t < news.length→(w.drew.cell? ⟨blk,off + i * 4 + t,none⟩).isSome=true∧w.drew.frozen? ⟨blk,off + i * 4 + t,none⟩=false):=by
  intro t ht
  rw [hlen] at ht
  rw [Nat.add_assoc]
  exact ⟨hsome _ (by omega),hfz _ (by omega)⟩
 obtain ⟨W1,hW1⟩:∃ W1,W1=w.drew.setCells blk (off + i * 4) news:=⟨_,rfl⟩
 have hcl:∀ ty,(Builtin.clear_ #[66] ty #[.slice (some ⟨blk,off + (i + (n - j)) * 4,none⟩) (n - (i + (n - j))) (cap - (i + (n - j)))]).run Try.prog W1 = .ok (.tuple #[]) (W1.setCells blk (off + (n - 1) * 4) [.int .i64 0,.int .i64 0,.int .i64 0,.bool false]):=fun ty=>by
  rw [show i + (n - j)=n - 1 by omega,show n - (n - 1)=1 by omega]
  refine run_clear_n W1 66 111 ty _ t37 zero111 (by decide) (by decide) blk _ 1 _ (by omega) (fun j hj=>?_) (fun j hj=>?_)
  ·have hj:j < 4:=hj
   rw [hW1]
   refine isSome_setCellsR blk _ _ _ (fun k hk=>?_) _ ?_
   ·rw [hlen] at hk; rw [Nat.add_assoc]; exact hsome _ (by omega)
   ·rw [Nat.add_assoc]; exact hsome _ (by omega)
  ·have hj:j < 4:=hj
   rw [hW1,World.frozen?_setCells,Nat.add_assoc]; exact hfz _ (by omega)
 have hW:Hid (W1=w.drew.setCells blk (off + i * 4) news):=hW1
 have hic:i≤cap:=by omega
 have hjn:j≤n:=by omega
 have hij:¬ ((i:Int)=j):=by omega
 have hjc:j≤cap:=by omega
 rw [← hnews,← hW1]
 have hlt:i < j:=by omega
 have hj':Hid (j=i + 1):=hj
 clear hj hW1 hcell hfz hsome hnews hlen h1
 go_enter Try.func100,Try.ntmps100
 go_wp2_with fail
 go_region_law (refine step_append_room rfl (.tmp 22) (.tmp 25) 66 rfl 111 i0 4 t37 hi0 hz1 blk off i cap (by simp [Act.eval,Act.put]) A (n - j) (cap - j) news (by simp [Act.eval,Act.put,hA]) s1.out hsrc.out s2.out (by omega) s3.out ?_; rw [← hW.out])
 go_wp2
 go_ret
 refine ⟨?_,rfl⟩
 rw [show i + (n - j)=n - 1 by have:=hj'.out; omega]
 rfl
end Go.Proofs.Ytpcohpkflkhfbaa.Rx.S

namespace Go.Proofs.Ytpcohpkflkhfbaa.Rx.S
open Go Go.Proofs.Ytpcohpkflkhfbaa.Rx Go.RowKit Go.Proofs
noncomputable def c100:Code:=(Try.f100.body.getD .skip)
abbrev ps100:List PK:=[.own (.row 111 tTh) false,.val i64 false,.val i64 false]
abbrev rs100:List RK:=[.own (.row 111 tTh) false]
abbrev R100:=retsD rs100 × outsD ps100
def p100 (n:Nat) (a:List (Int × Int × Int × Bool)) (b:Int) (c:Int):Option R100 :=
 cond (decide (0≤b)) (cond (decide (b < a.length)) (cond (decide (c=b + 1)) (some ((a.take b.toNat ++ a.drop (b.toNat + 1),()),())) none) none) none
noncomputable def q100 (n:Nat) (x:argsD ps100):Option R100:=p100 n x.1 x.2.1 x.2.2.1
noncomputable def Sm100:Sm:=⟨ps100,rs100,false,q100⟩
theorem hh100:Holds Try.prog 100 Sm100:=holds_del (T:=tTh) rfl rfl del_walk
end Go.Proofs.Ytpcohpkflkhfbaa.Rx.S

namespace Go.Proofs.Ytpcohpkflkhfbaa.Rx.S
open Go Go.RowKit Go.Proofs
set_option maxRecDepth 100000
noncomputable def c47:Code:=(Try.f47.body.getD .skip)
def an47:An:=⟨fun _=>⟨[],[]⟩,fun _ _=>none⟩
abbrev ps47:List PK:=[.val (.pair (.row 111 tTh) i64) true,.val i64 false]
abbrev rs47:List RK:=[.own (.pair (.row 111 tTh) i64) true,.val .bool false]
abbrev R47:=retsD rs47 × outsD ps47
noncomputable def G47:Gam:=fun f=>match f with | 48=>some Sm48 | 92=>some Sm92 | 93=>some Sm93 | 100=>some Sm100 | _=>none
theorem h0_47 (hg:GamOK Try.prog G47):Holds Try.prog 47 ⟨ps47,rs47,false,runF TT G47 an47 Try.f47 c47 ps47 rs47⟩:=holds_of tt_ok hg mixed Try.func47 (by kernel_rfl) (by rfl) (by decide +kernel)
noncomputable def st47_top (n:Nat) (a:List (Int × Int × Int × Bool) × Int) (b:Int):Option R47 :=
 (q92 n ((a.1,a.2),b,())).bind fun r0=>(q48 n ((a.1,a.2),())).bind fun r1=>cond (!r1.1.1) (some ((([],(0:Int)),(false,())),())) (cond (decide (r0.1.1 < (0:Int))) (some ((([],(0:Int)),(false,())),())) ((q93 n ((a.1,a.2),())).bind fun r2=>(q100 n (r2.1.1.1,r0.1.1,Go.IntKind.i64.wrap (r0.1.1 + (1:Int)),())).bind fun r3=>some (((r3.1.1,r2.1.1.2),(true,())),())))
theorem e47_top (n:Nat) (a:List (Int × Int × Int × Bool) × Int) (b:Int):runF TT G47 an47 Try.f47 c47 ps47 rs47 n (a,b,())=st47_top n a b:=by kernel_rfl
noncomputable def p47 (n:Nat) (a:List (Int × Int × Int × Bool) × Int) (b:Int):Option R47:=st47_top n a b
theorem F47_eq (n:Nat) (a:List (Int × Int × Int × Bool) × Int) (b:Int):runF TT G47 an47 Try.f47 c47 ps47 rs47 n (a,b,())=p47 n a b:=by
 rw [e47_top]
 skip
 try rfl
noncomputable def q47 (n:Nat) (x:argsD ps47):Option R47:=p47 n x.1 x.2.1
noncomputable def Sm47:Sm:=⟨ps47,rs47,false,q47⟩
theorem holds47 (hg:GamOK Try.prog G47):Holds Try.prog 47 Sm47:=by
 have:=h0_47 hg
 have e:(runF TT G47 an47 Try.f47 c47 ps47 rs47)=q47:=by
  funext n x
  exact F47_eq n x.1 x.2.1
 rw [e] at this
 exact this
theorem gam47:GamOK Try.prog G47:=by
 intro f s h
 unfold G47 at h
 split at h
 ·injection h with h; subst h; exact ⟨⟨Try.f48,c48,Try.func48,by kernel_rfl,by decide +kernel⟩,hh48⟩
 ·injection h with h; subst h; exact ⟨⟨Try.f92,c92,Try.func92,by kernel_rfl,by decide +kernel⟩,hh92⟩
 ·injection h with h; subst h; exact ⟨⟨Try.f93,c93,Try.func93,by kernel_rfl,by decide +kernel⟩,hh93⟩
 ·injection h with h; subst h; exact ⟨⟨Try.f100,c100,Try.func100,by kernel_rfl,by decide +kernel⟩,hh100⟩
 ·cases h
theorem hh47:Holds Try.prog 47 Sm47:=holds47 gam47
end Go.Proofs.Ytpcohpkflkhfbaa.Rx.S

namespace Go.Proofs.Ytpcohpkflkhfbaa.Rx.S
open Go Go.RowKit Go.Proofs
set_option maxRecDepth 100000
noncomputable def c11:Code:=(Try.f11.body.getD .skip)
def an11:An:=⟨fun _=>⟨[],[]⟩,fun _ _=>none⟩
abbrev ps11:List PK:=[.val (.row 5 (.int .u8)) false]
abbrev rs11:List RK:=[.val .bool false]
abbrev R11:=retsD rs11 × outsD ps11
noncomputable def G11:Gam:=fun f=>match f with | 43=>some Sm43 | 44=>some Sm44 | 45=>some Sm45 | 46=>some Sm46 | 47=>some Sm47 | 48=>some Sm48 | _=>none
theorem h0_11 (hg:GamOK Try.prog G11):Holds Try.prog 11 ⟨ps11,rs11,false,runF TT G11 an11 Try.f11 c11 ps11 rs11⟩:=holds_of tt_ok hg mixed Try.func11 (by kernel_rfl) (by rfl) (by decide +kernel)
noncomputable def st11_top (n:Nat) (a:List Int):Option R11 :=
 cond (decide ((1048576:Int) < (↑a.length:Int))) (some ((true,()),())) ((q43 n (a,())).bind fun r0=>(q44 n ((r0.1.1.1,r0.1.1.2),r0.1.2.1,r0.1.2.2.1,())).bind fun r1=>(q45 n ((r0.1.1.1,r0.1.1.2),r0.1.2.1,r0.1.2.2.1,())).bind fun r2=>(q46 n ((r1.1.1.1,r1.1.1.2),(r2.1.1.1,r2.1.1.2),())).bind fun r3=>cond (r3.1.1) (cond (!r1.1.2.1 == r2.1.2.1) (some ((r1.1.2.1 == r2.1.2.1,()),())) (cond (!r1.1.2.1) (some ((r1.1.2.1 == r2.1.2.1,()),())) ((q47 n ((r1.1.1.1,r1.1.1.2),r0.1.2.1,())).bind fun r4=>(q48 n ((r1.1.1.1,r1.1.1.2),())).bind fun r5=>cond (r5.1.1) (cond (r4.1.2.1) ((q46 n ((r4.1.1.1,r4.1.1.2),(r0.1.1.1,r0.1.1.2),())).bind fun r6=>some ((r6.1.1,()),())) (some ((false,()),()))) (some ((false,()),()))))) (some ((false,()),())))
theorem e11_top (n:Nat) (a:List Int):runF TT G11 an11 Try.f11 c11 ps11 rs11 n (a,())=st11_top n a:=by kernel_rfl
noncomputable def p11 (n:Nat) (a:List Int):Option R11:=st11_top n a
theorem F11_eq (n:Nat) (a:List Int):runF TT G11 an11 Try.f11 c11 ps11 rs11 n (a,())=p11 n a:=by
 rw [e11_top]
 skip
 try rfl
noncomputable def q11 (n:Nat) (x:argsD ps11):Option R11:=p11 n x.1
noncomputable def Sm11:Sm:=⟨ps11,rs11,false,q11⟩
theorem holds11 (hg:GamOK Try.prog G11):Holds Try.prog 11 Sm11:=by
 have:=h0_11 hg
 have e:(runF TT G11 an11 Try.f11 c11 ps11 rs11)=q11:=by
  funext n x
  exact F11_eq n x.1
 rw [e] at this
 exact this
theorem gam11:GamOK Try.prog G11:=by
 intro f s h
 unfold G11 at h
 split at h
 ·injection h with h; subst h; exact ⟨⟨Try.f43,c43,Try.func43,by kernel_rfl,by decide +kernel⟩,hh43⟩
 ·injection h with h; subst h; exact ⟨⟨Try.f44,c44,Try.func44,by kernel_rfl,by decide +kernel⟩,hh44⟩
 ·injection h with h; subst h; exact ⟨⟨Try.f45,c45,Try.func45,by kernel_rfl,by decide +kernel⟩,hh45⟩
 ·injection h with h; subst h; exact ⟨⟨Try.f46,c46,Try.func46,by kernel_rfl,by decide +kernel⟩,hh46⟩
 ·injection h with h; subst h; exact ⟨⟨Try.f47,c47,Try.func47,by kernel_rfl,by decide +kernel⟩,hh47⟩
 ·injection h with h; subst h; exact ⟨⟨Try.f48,c48,Try.func48,by kernel_rfl,by decide +kernel⟩,hh48⟩
 ·cases h
theorem hh11:Holds Try.prog 11 Sm11:=holds11 gam11
end Go.Proofs.Ytpcohpkflkhfbaa.Rx.S

