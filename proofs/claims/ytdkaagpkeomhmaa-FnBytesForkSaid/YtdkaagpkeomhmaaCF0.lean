/- What the functions of this seat compute, each as a plain function on lists and numbers, with the proof that a call answers so. No condition. -/
import Derived.Test.YtdkaagpkeomhmaaProg
import Derived.KernelRfl
import Derived.Test.YtdkaagpkeomhmaaRxK4
set_option linter.unusedVariables false
set_option linter.unusedSimpArgs false
namespace Go.Proofs.Ytdkaagpkeomhmaa.Rx
abbrev Aq:Type:=Int × Int × Bool × Bool
abbrev Lb:Type:=List ByteArray
abbrev Lq:Type:=List Aq
abbrev Uu:AV:=AV.undef
end Go.Proofs.Ytdkaagpkeomhmaa.Rx
namespace Go.Proofs.Ytdkaagpkeomhmaa.Rx.S
open Go Go.RowKit Go.Proofs
def tbl:List (TypeId × TI):=[
(2,⟨.int .i64,1,8,[.int .i64],some (.int .i64),false⟩),
(3,⟨.int .i64,1,8,[.int .i64],some (.int .i64),false⟩),
(4,⟨.bool,1,1,[.bool],some .bool,false⟩),
(5,⟨.int .u8,1,1,[.int .u8],some (.int .u8),false⟩),
(6,⟨.int .u8,1,1,[.int .u8],some (.int .u8),false⟩),
(7,⟨.struct [(0,1),(1,1),(2,1),(3,1)],4,24,[.int .i64,.int .i64,.bool,.int .u8],some (.pair (.int .i64) (.pair (.int .i64) (.pair .bool (.int .u8)))),true⟩),
(8,⟨.struct [(0,1),(1,1),(2,1),(3,1)],4,24,[.int .i64,.int .i64,.bool,.int .u8],some (.pair (.int .i64) (.pair (.int .i64) (.pair .bool (.int .u8)))),true⟩),
(9,⟨.str,1,16,[.str],some .str,false⟩),
(10,⟨.str,1,16,[.str],some .str,false⟩),
(11,⟨.str,1,16,[.str],some .str,false⟩),
(12,⟨.int .u64,1,8,[.int .u64],some (.int .u64),false⟩),
(13,⟨.struct [(0,1),(1,1)],2,24,[.str,.int .u64],some (.pair .str (.int .u64)),false⟩),
(14,⟨.struct [(0,1),(1,1)],2,24,[.str,.int .u64],some (.pair .str (.int .u64)),false⟩),
(15,⟨.ptr,1,8,[.ptr],none,false⟩),
(16,⟨.ptr,1,8,[.ptr],none,false⟩),
(17,⟨.ptr,1,8,[.ptr],none,false⟩),
(18,⟨.struct [(0,1)],1,8,[.ptr],none,false⟩),
(19,⟨.struct [(0,1)],1,8,[.ptr],none,false⟩),
(21,⟨.int .i32,1,4,[.int .i32],some (.int .i32),false⟩),
(22,⟨.slice 5,1,24,[.slice],some (.row 5 (.int .u8)),false⟩),
(23,⟨.slice 9,1,24,[.slice],some (.row 9 .str),false⟩),
(24,⟨.slice 3,1,24,[.slice],some (.row 3 (.int .i64)),false⟩),
(25,⟨.struct [(0,1),(1,1)],2,48,[.slice,.slice],some (.pair (.row 9 .str) (.row 3 (.int .i64))),false⟩),
(26,⟨.struct [(0,1),(1,1)],2,48,[.slice,.slice],some (.pair (.row 9 .str) (.row 3 (.int .i64))),false⟩),
(27,⟨.slice 71,1,24,[.slice],some (.row 71 (.pair .bool (.pair (.row 116 (.pair (.int .i64) (.pair (.int .i64) (.pair .bool .bool)))) (.row 80 (.pair (.int .i64) (.pair (.int .i64) (.pair .bool .bool))))))),false⟩),
(28,⟨.struct [(0,2),(2,2),(4,1),(5,1)],6,128,[.slice,.slice,.slice,.slice,.slice,.int .i64],some (.pair (.pair (.row 9 .str) (.row 3 (.int .i64))) (.pair (.pair (.row 9 .str) (.row 3 (.int .i64))) (.pair (.row 71 (.pair .bool (.pair (.row 116 (.pair (.int .i64) (.pair (.int .i64) (.pair .bool .bool)))) (.row 80 (.pair (.int .i64) (.pair (.int .i64) (.pair .bool .bool))))))) (.int .i64)))),false⟩),
(29,⟨.struct [(0,2),(2,2),(4,1),(5,1)],6,128,[.slice,.slice,.slice,.slice,.slice,.int .i64],some (.pair (.pair (.row 9 .str) (.row 3 (.int .i64))) (.pair (.pair (.row 9 .str) (.row 3 (.int .i64))) (.pair (.row 71 (.pair .bool (.pair (.row 116 (.pair (.int .i64) (.pair (.int .i64) (.pair .bool .bool)))) (.row 80 (.pair (.int .i64) (.pair (.int .i64) (.pair .bool .bool))))))) (.int .i64)))),false⟩),
(39,⟨.slice 165,1,24,[.slice],some (.row 165 (.pair .bool (.pair (.row 205 (.pair (.int .i64) (.pair (.int .i64) (.pair .bool .bool)))) (.pair (.row 3 (.int .i64)) (.row 9 .str))))),false⟩),
(40,⟨.struct [(0,1)],1,24,[.slice],some (.row 165 (.pair .bool (.pair (.row 205 (.pair (.int .i64) (.pair (.int .i64) (.pair .bool .bool)))) (.pair (.row 3 (.int .i64)) (.row 9 .str))))),false⟩),
(41,⟨.struct [(0,1)],1,24,[.slice],some (.row 165 (.pair .bool (.pair (.row 205 (.pair (.int .i64) (.pair (.int .i64) (.pair .bool .bool)))) (.pair (.row 3 (.int .i64)) (.row 9 .str))))),false⟩),
(43,⟨.slice 75,1,24,[.slice],some (.row 75 (.pair .bool (.pair (.row 116 (.pair (.int .i64) (.pair (.int .i64) (.pair .bool .bool)))) (.pair (.row 3 (.int .i64)) (.row 9 .str))))),false⟩),
(44,⟨.struct [(0,1)],1,24,[.slice],some (.row 75 (.pair .bool (.pair (.row 116 (.pair (.int .i64) (.pair (.int .i64) (.pair .bool .bool)))) (.pair (.row 3 (.int .i64)) (.row 9 .str))))),false⟩),
(45,⟨.struct [(0,1)],1,24,[.slice],some (.row 75 (.pair .bool (.pair (.row 116 (.pair (.int .i64) (.pair (.int .i64) (.pair .bool .bool)))) (.pair (.row 3 (.int .i64)) (.row 9 .str))))),false⟩),
(55,⟨.struct [(0,1),(1,1)],2,48,[.slice,.slice],some (.pair (.row 9 .str) (.row 3 (.int .i64))),false⟩),
(56,⟨.slice 174,1,24,[.slice],some (.row 174 (.pair .bool (.pair (.row 205 (.pair (.int .i64) (.pair (.int .i64) (.pair .bool .bool)))) (.row 208 (.pair (.int .i64) (.pair (.int .i64) (.pair .bool .bool))))))),false⟩),
(57,⟨.struct [(0,2),(2,2),(4,1),(5,1)],6,128,[.slice,.slice,.slice,.slice,.slice,.int .i64],some (.pair (.pair (.row 9 .str) (.row 3 (.int .i64))) (.pair (.pair (.row 9 .str) (.row 3 (.int .i64))) (.pair (.row 174 (.pair .bool (.pair (.row 205 (.pair (.int .i64) (.pair (.int .i64) (.pair .bool .bool)))) (.row 208 (.pair (.int .i64) (.pair (.int .i64) (.pair .bool .bool))))))) (.int .i64)))),false⟩),
(58,⟨.struct [(0,2),(2,2),(4,1),(5,1)],6,128,[.slice,.slice,.slice,.slice,.slice,.int .i64],some (.pair (.pair (.row 9 .str) (.row 3 (.int .i64))) (.pair (.pair (.row 9 .str) (.row 3 (.int .i64))) (.pair (.row 174 (.pair .bool (.pair (.row 205 (.pair (.int .i64) (.pair (.int .i64) (.pair .bool .bool)))) (.row 208 (.pair (.int .i64) (.pair (.int .i64) (.pair .bool .bool))))))) (.int .i64)))),false⟩),
(68,⟨.slice 116,1,24,[.slice],some (.row 116 (.pair (.int .i64) (.pair (.int .i64) (.pair .bool .bool)))),false⟩),
(69,⟨.slice 80,1,24,[.slice],some (.row 80 (.pair (.int .i64) (.pair (.int .i64) (.pair .bool .bool)))),false⟩),
(70,⟨.struct [(0,1),(1,1),(2,1)],3,56,[.bool,.slice,.slice],some (.pair .bool (.pair (.row 116 (.pair (.int .i64) (.pair (.int .i64) (.pair .bool .bool)))) (.row 80 (.pair (.int .i64) (.pair (.int .i64) (.pair .bool .bool)))))),false⟩),
(71,⟨.struct [(0,1),(1,1),(2,1)],3,56,[.bool,.slice,.slice],some (.pair .bool (.pair (.row 116 (.pair (.int .i64) (.pair (.int .i64) (.pair .bool .bool)))) (.row 80 (.pair (.int .i64) (.pair (.int .i64) (.pair .bool .bool)))))),false⟩),
(74,⟨.struct [(0,1),(1,1),(2,1),(3,1)],4,80,[.bool,.slice,.slice,.slice],some (.pair .bool (.pair (.row 116 (.pair (.int .i64) (.pair (.int .i64) (.pair .bool .bool)))) (.pair (.row 3 (.int .i64)) (.row 9 .str)))),false⟩),
(75,⟨.struct [(0,1),(1,1),(2,1),(3,1)],4,80,[.bool,.slice,.slice,.slice],some (.pair .bool (.pair (.row 116 (.pair (.int .i64) (.pair (.int .i64) (.pair .bool .bool)))) (.pair (.row 3 (.int .i64)) (.row 9 .str)))),false⟩),
(79,⟨.struct [(0,1),(1,1),(2,1),(3,1)],4,24,[.int .i64,.int .i64,.bool,.bool],some (.pair (.int .i64) (.pair (.int .i64) (.pair .bool .bool))),true⟩),
(80,⟨.struct [(0,1),(1,1),(2,1),(3,1)],4,24,[.int .i64,.int .i64,.bool,.bool],some (.pair (.int .i64) (.pair (.int .i64) (.pair .bool .bool))),true⟩),
(86,⟨.ptr,1,8,[.ptr],none,false⟩),
(96,⟨.ptr,1,8,[.ptr],none,false⟩),
(108,⟨.slice 110,1,24,[.slice],some (.row 110 (.pair .bool .bool)),false⟩),
(109,⟨.struct [(0,1),(1,1)],2,2,[.bool,.bool],some (.pair .bool .bool),true⟩),
(110,⟨.struct [(0,1),(1,1)],2,2,[.bool,.bool],some (.pair .bool .bool),true⟩),
(115,⟨.struct [(0,1),(1,1),(2,1),(3,1)],4,24,[.int .i64,.int .i64,.bool,.bool],some (.pair (.int .i64) (.pair (.int .i64) (.pair .bool .bool))),true⟩),
(116,⟨.struct [(0,1),(1,1),(2,1),(3,1)],4,24,[.int .i64,.int .i64,.bool,.bool],some (.pair (.int .i64) (.pair (.int .i64) (.pair .bool .bool))),true⟩),
(120,⟨.ptr,1,8,[.ptr],none,false⟩),
(127,⟨.struct [(0,1),(1,1)],2,16,[.int .i64,.int .i64],some (.pair (.int .i64) (.int .i64)),true⟩),
(128,⟨.struct [(0,1),(1,1)],2,16,[.int .i64,.int .i64],some (.pair (.int .i64) (.int .i64)),true⟩),
(146,⟨.struct [(0,1),(1,1)],2,32,[.slice,.int .i64],some (.pair (.row 5 (.int .u8)) (.int .i64)),false⟩),
(147,⟨.struct [(0,1),(1,1)],2,32,[.slice,.int .i64],some (.pair (.row 5 (.int .u8)) (.int .i64)),false⟩),
(154,⟨.ptr,1,8,[.ptr],none,false⟩),
(163,⟨.slice 205,1,24,[.slice],some (.row 205 (.pair (.int .i64) (.pair (.int .i64) (.pair .bool .bool)))),false⟩),
(164,⟨.struct [(0,1),(1,1),(2,1),(3,1)],4,80,[.bool,.slice,.slice,.slice],some (.pair .bool (.pair (.row 205 (.pair (.int .i64) (.pair (.int .i64) (.pair .bool .bool)))) (.pair (.row 3 (.int .i64)) (.row 9 .str)))),false⟩),
(165,⟨.struct [(0,1),(1,1),(2,1),(3,1)],4,80,[.bool,.slice,.slice,.slice],some (.pair .bool (.pair (.row 205 (.pair (.int .i64) (.pair (.int .i64) (.pair .bool .bool)))) (.pair (.row 3 (.int .i64)) (.row 9 .str)))),false⟩),
(172,⟨.slice 208,1,24,[.slice],some (.row 208 (.pair (.int .i64) (.pair (.int .i64) (.pair .bool .bool)))),false⟩),
(173,⟨.struct [(0,1),(1,1),(2,1)],3,56,[.bool,.slice,.slice],some (.pair .bool (.pair (.row 205 (.pair (.int .i64) (.pair (.int .i64) (.pair .bool .bool)))) (.row 208 (.pair (.int .i64) (.pair (.int .i64) (.pair .bool .bool)))))),false⟩),
(174,⟨.struct [(0,1),(1,1),(2,1)],3,56,[.bool,.slice,.slice],some (.pair .bool (.pair (.row 205 (.pair (.int .i64) (.pair (.int .i64) (.pair .bool .bool)))) (.row 208 (.pair (.int .i64) (.pair (.int .i64) (.pair .bool .bool)))))),false⟩),
(186,⟨.ptr,1,8,[.ptr],none,false⟩),
(205,⟨.struct [(0,1),(1,1),(2,1),(3,1)],4,24,[.int .i64,.int .i64,.bool,.bool],some (.pair (.int .i64) (.pair (.int .i64) (.pair .bool .bool))),true⟩),
(208,⟨.struct [(0,1),(1,1),(2,1),(3,1)],4,24,[.int .i64,.int .i64,.bool,.bool],some (.pair (.int .i64) (.pair (.int .i64) (.pair .bool .bool))),true⟩),
(211,⟨.struct [(0,1),(1,1),(2,1),(3,1)],4,40,[.ptr,.ptr,.ptr,.str],none,false⟩),
(212,⟨.struct [(0,1),(1,1),(2,1),(3,1)],4,40,[.ptr,.ptr,.ptr,.str],none,false⟩),
(214,⟨.struct [(0,0)],0,0,[],none,false⟩),
(215,⟨.struct [(0,0)],0,0,[],none,false⟩),
(216,⟨.int .u32,1,4,[.int .u32],some (.int .u32),false⟩),
(217,⟨.int .u8,1,1,[.int .u8],some (.int .u8),false⟩),
(218,⟨.int .u8,1,1,[.int .u8],some (.int .u8),false⟩),
(220,⟨.ptr,1,8,[.ptr],none,false⟩),
(221,⟨.int .i32,1,4,[.int .i32],some (.int .i32),false⟩),
(222,⟨.int .i32,1,4,[.int .i32],some (.int .i32),false⟩),
(225,⟨.other,1,8,[.ptr],none,false⟩)]
def TT:TB:=tbOf tbl
theorem tt_ok:TBok Try.prog TT:=tbOk (by decide +kernel)
abbrev i64:Ty:=.int .i64
abbrev tAr:Ty:=.pair i64 (.pair i64 (.pair .bool .bool))
abbrev tRd:Ty:=.pair (.row 5 (.int .u8)) i64
abbrev tBo (a:TypeId):Ty:=.pair .bool (.pair (.row a tAr) (.pair (.row 3 i64) (.row 9 .str)))
abbrev tSl:Ty:=.pair i64 (.pair i64 (.pair .bool .bool))
abbrev tPg:Ty:=.pair (.row 9 .str) (.row 3 i64)
abbrev tSp (a s:TypeId):Ty:=.pair .bool (.pair (.row a tAr) (.row s tSl))
abbrev tMem:Ty:=.pair tPg (.pair tPg (.pair (.row 71 (tSp 116 80)) i64))
abbrev tVi:Ty:=.row 75 (tBo 116)
theorem mixed:Try.prog.follows .mixedOrders=true:=by kernel_rfl
end Go.Proofs.Ytdkaagpkeomhmaa.Rx.S

namespace Go.Proofs.Ytdkaagpkeomhmaa.Rx.S
open Go Go.RowKit Go.Proofs
set_option maxRecDepth 100000
noncomputable def c69:Code:=(Try.f69.body.getD .skip)
def an69:An:=⟨fun _=>⟨[],[]⟩,fun _ _=>none⟩
abbrev ps69:List PK:=[.val i64 false,.val i64 false,.val i64 false]
abbrev rs69:List RK:=[.val .bool false]
abbrev R69:=retsD rs69 × outsD ps69
noncomputable def G69:Gam:=fun _=>none
theorem h0_69 (hg:GamOK Try.prog G69):Holds Try.prog 69 ⟨ps69,rs69,false,runF TT G69 an69 Try.f69 c69 ps69 rs69⟩:=holds_of tt_ok hg mixed Try.func69 (by kernel_rfl) (by rfl) (by decide +kernel)
noncomputable def st69_top (n:Nat) (a:Int) (b:Int) (c:Int):Option R69 :=
 cond (decide (b≤a)) (some ((decide (a≤c),()),())) (some ((false,()),()))
theorem e69_top (n:Nat) (a:Int) (b:Int) (c:Int):runF TT G69 an69 Try.f69 c69 ps69 rs69 n (a,b,c,())=st69_top n a b c:=by kernel_rfl
noncomputable def p69 (n:Nat) (a:Int) (b:Int) (c:Int):Option R69:=st69_top n a b c
theorem F69_eq (n:Nat) (a:Int) (b:Int) (c:Int):runF TT G69 an69 Try.f69 c69 ps69 rs69 n (a,b,c,())=p69 n a b c:=by
 rw [e69_top]
 skip
 try rfl
noncomputable def q69 (n:Nat) (x:argsD ps69):Option R69:=p69 n x.1 x.2.1 x.2.2.1
noncomputable def Sm69:Sm:=⟨ps69,rs69,false,q69⟩
theorem holds69 (hg:GamOK Try.prog G69):Holds Try.prog 69 Sm69:=by
 have:=h0_69 hg
 have e:(runF TT G69 an69 Try.f69 c69 ps69 rs69)=q69:=by
  funext n x
  exact F69_eq n x.1 x.2.1 x.2.2.1
 rw [e] at this
 exact this
theorem gam69:GamOK Try.prog G69:=fun _ _ h=>by cases h
theorem hh69:Holds Try.prog 69 Sm69:=holds69 gam69
end Go.Proofs.Ytdkaagpkeomhmaa.Rx.S

namespace Go.Proofs.Ytdkaagpkeomhmaa.Rx.S
open Go Go.RowKit Go.Proofs
set_option maxRecDepth 100000
noncomputable def c117:Code:=(Try.f117.body.getD .skip)
def an117:An:=⟨fun r=>match r with | 4=>⟨[1,3],[]⟩ | _=>⟨[],[]⟩,fun _ _=>none⟩
abbrev ps117:List PK:=[.val tPg true]
abbrev rs117:List RK:=[.val .bool false]
abbrev R117:=retsD rs117 × outsD ps117
noncomputable def G117:Gam:=fun f=>match f with | 69=>some Sm69 | _=>none
theorem h0_117 (hg:GamOK Try.prog G117):Holds Try.prog 117 ⟨ps117,rs117,false,runF TT G117 an117 Try.f117 c117 ps117 rs117⟩:=holds_of tt_ok hg mixed Try.func117 (by kernel_rfl) (by rfl) (by decide +kernel)
noncomputable def at117:Nat→Pt→List Nat→St→Option R117:=atF TT G117 an117 Try.f117 c117 _ _
def sh117_L4 (x0:Int) (x1:Lb) (x2:List Int):St:=(St.mk [Uu,AV.one (SV.bptr 1000000 0),Uu,AV.one (SV.int (Go.IntKind.i64) x0),Uu,Uu,Uu,Uu,Uu,Uu,Uu,Uu,Uu,Uu,Uu,Uu,Uu,Uu,Uu,Uu,Uu,Uu,Uu,Uu,Uu,Uu,Uu,Uu,Uu,Uu,Uu,Uu,Uu,Uu,Uu,Uu,Uu,Uu,Uu,Uu,Uu,Uu,Uu,Uu,Uu,Uu,Uu,Uu,Uu] ((1000000,(Ent.box ((SV.con (⟨9,Ty.str,x1⟩:Rw)) :: ((SV.con (⟨3,Ty.int Go.IntKind.i64,x2⟩:Rw)) :: [])))) :: []))
noncomputable def st117_top (n:Nat) (lL4:Int→(Lb)→(List Int)→Option R117) (a:Lb × List Int):Option R117 :=
 cond (!decide ((↑(List.length a.1):Int)=(↑(List.length a.2):Int))) (some ((false,()),())) ((q69 n ((↑(List.length a.1):Int),(1:Int),(12:Int),())).bind fun r0=>cond (!r0.1.1) (some ((false,()),())) (lL4 ((0:Int)) (a.1) (a.2)))
noncomputable def st117_L4 (n:Nat) (lL4:Int→(Lb)→(List Int)→Option R117) (x0:Int) (x1:Lb) (x2:List Int):Option R117 :=
 cond (decide (x0 < (↑x1.length:Int))) (cond (decide ((0:Int)≤x0)) (cond (decide (x0 < (↑x2.length:Int))) (cond (decide (x2.getD x0.toNat (0:Int)=(0:Int))) (cond (decide ((0:Int)≤x0)) (cond (decide (x0 < (↑x2.length:Int))) ((q69 n (x2.getD x0.toNat (0:Int),(0:Int),(99:Int),())).bind fun r2=>cond (!r2.1.1) (some ((false,()),())) (cond (decide ((0:Int)≤x0)) (cond (decide (x0 < (↑x1.length:Int))) (cond (!decide ((↑(ByteArray.size (x1.getD x0.toNat ByteArray.empty)):Int)=(0:Int))) (some ((false,()),())) (lL4 (Go.IntKind.i64.wrap (x0 + (1:Int))) (x1) (x2))) (none)) (none))) (none)) (none)) (cond (decide ((0:Int)≤x0)) (cond (decide (x0 < (↑x2.length:Int))) ((q69 n (x2.getD x0.toNat (0:Int),(0:Int),(99:Int),())).bind fun r3=>cond (!r3.1.1) (some ((false,()),())) (cond (decide ((0:Int)≤x0)) (cond (decide (x0 < (↑x1.length:Int))) (cond (!decide ((↑(ByteArray.size (x1.getD x0.toNat ByteArray.empty)):Int)=(4:Int))) (some ((false,()),())) (lL4 (Go.IntKind.i64.wrap (x0 + (1:Int))) (x1) (x2))) (none)) (none))) (none)) (none))) (none)) (none)) (some ((true,()),()))
theorem e117_top (n:Nat) (a:Lb × List Int):runF TT G117 an117 Try.f117 c117 ps117 rs117 n (a,())=st117_top n (fun x0 x1 x2=>at117 n (.head 4) [n] (sh117_L4 x0 x1 x2)) a:=by kernel_rfl
theorem e117_L4_0 (n:Nat) (x0:Int) (x1:Lb) (x2:List Int):at117 n (.head 4) [0] (sh117_L4 x0 x1 x2)=none:=by kernel_rfl
theorem e117_L4 (n:Nat) (m4:Nat) (x0:Int) (x1:Lb) (x2:List Int):at117 n (.head 4) [m4 + 1] (sh117_L4 x0 x1 x2)=st117_L4 n (fun x0 x1 x2=>at117 n (.head 4) [m4] (sh117_L4 x0 x1 x2)) x0 x1 x2:=by kernel_rfl
noncomputable def p117_L4 (n:Nat):Nat→Int→(Lb)→(List Int)→Option R117
 | 0,_,_,_=>none
 | m + 1,x0,x1,x2=>st117_L4 n (p117_L4 n m) x0 x1 x2
noncomputable def p117 (n:Nat) (a:Lb × List Int):Option R117:=st117_top n (p117_L4 n n) a
theorem t117_L4 (n:Nat):∀ (m4:Nat) (x0:Int) (x1:Lb) (x2:List Int),at117 n (.head 4) [m4] (sh117_L4 x0 x1 x2)=p117_L4 n m4 x0 x1 x2:=by
 intro m
 induction m with
 | zero=>intros; rw [e117_L4_0]; rfl
 | succ m ih =>
  intros
  rw [e117_L4]
  try simp only [ih]
  rfl
theorem F117_eq (n:Nat) (a:Lb × List Int):runF TT G117 an117 Try.f117 c117 ps117 rs117 n (a,())=p117 n a:=by
 rw [e117_top]
 simp only [t117_L4]
 try rfl
noncomputable def q117 (n:Nat) (x:argsD ps117):Option R117:=p117 n x.1
noncomputable def Sm117:Sm:=⟨ps117,rs117,false,q117⟩
theorem holds117 (hg:GamOK Try.prog G117):Holds Try.prog 117 Sm117:=by
 have:=h0_117 hg
 have e:(runF TT G117 an117 Try.f117 c117 ps117 rs117)=q117:=by
  funext n x
  exact F117_eq n x.1
 rw [e] at this
 exact this
theorem gam117:GamOK Try.prog G117:=by
 intro f s h
 unfold G117 at h
 split at h
 ·injection h with h; subst h; exact ⟨⟨Try.f69,c69,Try.func69,by kernel_rfl,by decide +kernel⟩,hh69⟩
 ·cases h
theorem hh117:Holds Try.prog 117 Sm117:=holds117 gam117
end Go.Proofs.Ytdkaagpkeomhmaa.Rx.S

namespace Go.Proofs.Ytdkaagpkeomhmaa.Rx.S
open Go Go.RowKit Go.Proofs
set_option maxRecDepth 100000
noncomputable def c71:Code:=(Try.f71.body.getD .skip)
def an71:An:=⟨fun r=>match r with | 2=>⟨[0,1,5],[]⟩ | _=>⟨[],[]⟩,fun _ _=>none⟩
abbrev ps71:List PK:=[.val (.row 116 tAr) false,.val i64 false]
abbrev rs71:List RK:=[.val i64 false]
abbrev R71:=retsD rs71 × outsD ps71
noncomputable def G71:Gam:=fun f=>match f with | 69=>some Sm69 | _=>none
theorem h0_71 (hg:GamOK Try.prog G71):Holds Try.prog 71 ⟨ps71,rs71,false,runF TT G71 an71 Try.f71 c71 ps71 rs71⟩:=holds_of tt_ok hg mixed Try.func71 (by kernel_rfl) (by rfl) (by decide +kernel)
noncomputable def at71:Nat→Pt→List Nat→St→Option R71:=atF TT G71 an71 Try.f71 c71 _ _
def sh71_L2 (x0:Lq) (x1 x2:Int):St:=(St.mk [AV.one (SV.con (⟨116,(Ty.int Go.IntKind.i64).pair ((Ty.int Go.IntKind.i64).pair (Ty.bool.pair Ty.bool)),x0⟩:Rw)),AV.one (SV.int (Go.IntKind.i64) x1),Uu,Uu,Uu,AV.one (SV.int (Go.IntKind.i64) x2),Uu,Uu,Uu,Uu,Uu,Uu,Uu,Uu,Uu,Uu,Uu,Uu,Uu,Uu,Uu,Uu,Uu,Uu,Uu,Uu,Uu,Uu,Uu,Uu,Uu,Uu] [])
noncomputable def st71_top (n:Nat) (lL2:(Lq)→Int→Int→Option R71) (a:Lq) (b:Int):Option R71 :=
 lL2 (a) (b) ((0:Int))
noncomputable def st71_L2 (n:Nat) (lL2:(Lq)→Int→Int→Option R71) (x0:Lq) (x1 x2:Int):Option R71 :=
 cond (decide (x2 < (↑x0.length:Int))) (cond (decide ((0:Int)≤x2)) (cond (decide (x2 < (↑x0.length:Int))) (cond (decide ((0:Int)≤x2)) (cond (decide (x2 < (↑x0.length:Int))) (cond (decide ((0:Int)≤x2)) (cond (decide (x2 < (↑x0.length:Int))) ((q69 n (x1,(x0.getD x2.toNat ((0:Int),(0:Int),false,false)).1,Go.IntKind.i64.wrap (Go.IntKind.i64.wrap ((x0.getD x2.toNat ((0:Int),(0:Int),false,false)).1 + (x0.getD x2.toNat ((0:Int),(0:Int),false,false)).2.1) - (1:Int)),())).bind fun r1=>cond (r1.1.1) (some ((x2,()),())) (lL2 (x0) (x1) (Go.IntKind.i64.wrap (x2 + (1:Int))))) (none)) (none)) (none)) (none)) (none)) (none)) (some (((-1:Int),()),()))
theorem e71_top (n:Nat) (a:Lq) (b:Int):runF TT G71 an71 Try.f71 c71 ps71 rs71 n (a,b,())=st71_top n (fun x0 x1 x2=>at71 n (.head 2) [n] (sh71_L2 x0 x1 x2)) a b:=by kernel_rfl
theorem e71_L2_0 (n:Nat) (x0:Lq) (x1 x2:Int):at71 n (.head 2) [0] (sh71_L2 x0 x1 x2)=none:=by kernel_rfl
theorem e71_L2 (n:Nat) (m2:Nat) (x0:Lq) (x1 x2:Int):at71 n (.head 2) [m2 + 1] (sh71_L2 x0 x1 x2)=st71_L2 n (fun x0 x1 x2=>at71 n (.head 2) [m2] (sh71_L2 x0 x1 x2)) x0 x1 x2:=by kernel_rfl
noncomputable def p71_L2 (n:Nat):Nat→(Lq)→Int→Int→Option R71
 | 0,_,_,_=>none
 | m + 1,x0,x1,x2=>st71_L2 n (p71_L2 n m) x0 x1 x2
noncomputable def p71 (n:Nat) (a:Lq) (b:Int):Option R71:=st71_top n (p71_L2 n n) a b
theorem t71_L2 (n:Nat):∀ (m2:Nat) (x0:Lq) (x1 x2:Int),at71 n (.head 2) [m2] (sh71_L2 x0 x1 x2)=p71_L2 n m2 x0 x1 x2:=by
 intro m
 induction m with
 | zero=>intros; rw [e71_L2_0]; rfl
 | succ m ih =>
  intros
  rw [e71_L2]
  try simp only [ih]
  rfl
theorem F71_eq (n:Nat) (a:Lq) (b:Int):runF TT G71 an71 Try.f71 c71 ps71 rs71 n (a,b,())=p71 n a b:=by
 rw [e71_top]
 simp only [t71_L2]
 try rfl
noncomputable def q71 (n:Nat) (x:argsD ps71):Option R71:=p71 n x.1 x.2.1
noncomputable def Sm71:Sm:=⟨ps71,rs71,false,q71⟩
theorem holds71 (hg:GamOK Try.prog G71):Holds Try.prog 71 Sm71:=by
 have:=h0_71 hg
 have e:(runF TT G71 an71 Try.f71 c71 ps71 rs71)=q71:=by
  funext n x
  exact F71_eq n x.1 x.2.1
 rw [e] at this
 exact this
theorem gam71:GamOK Try.prog G71:=by
 intro f s h
 unfold G71 at h
 split at h
 ·injection h with h; subst h; exact ⟨⟨Try.f69,c69,Try.func69,by kernel_rfl,by decide +kernel⟩,hh69⟩
 ·cases h
theorem hh71:Holds Try.prog 71 Sm71:=holds71 gam71
end Go.Proofs.Ytdkaagpkeomhmaa.Rx.S

namespace Go.Proofs.Ytdkaagpkeomhmaa.Rx.S
open Go Go.RowKit Go.Proofs
set_option maxRecDepth 100000
noncomputable def c158:Code:=(Try.f158.body.getD .skip)
def an158:An:=⟨fun _=>⟨[],[]⟩,fun _ _=>none⟩
abbrev ps158:List PK:=[.val tAr true]
abbrev rs158:List RK:=[.val .bool false]
abbrev R158:=retsD rs158 × outsD ps158
noncomputable def G158:Gam:=fun f=>match f with | 69=>some Sm69 | _=>none
theorem h0_158 (hg:GamOK Try.prog G158):Holds Try.prog 158 ⟨ps158,rs158,false,runF TT G158 an158 Try.f158 c158 ps158 rs158⟩:=holds_of tt_ok hg mixed Try.func158 (by kernel_rfl) (by rfl) (by decide +kernel)
noncomputable def st158_top (n:Nat) (a:Aq):Option R158 :=
 (q69 n (a.1,(0:Int),(15:Int),())).bind fun r0=>cond (r0.1.1) ((q69 n (a.2.1,(1:Int),Go.IntKind.i64.wrap ((16:Int) - a.1),())).bind fun r1=>some ((r1.1.1,()),())) (some ((false,()),()))
theorem e158_top (n:Nat) (a:Aq):runF TT G158 an158 Try.f158 c158 ps158 rs158 n (a,())=st158_top n a:=by kernel_rfl
noncomputable def p158 (n:Nat) (a:Aq):Option R158:=st158_top n a
theorem F158_eq (n:Nat) (a:Aq):runF TT G158 an158 Try.f158 c158 ps158 rs158 n (a,())=p158 n a:=by
 rw [e158_top]
 skip
 try rfl
noncomputable def q158 (n:Nat) (x:argsD ps158):Option R158:=p158 n x.1
noncomputable def Sm158:Sm:=⟨ps158,rs158,false,q158⟩
theorem holds158 (hg:GamOK Try.prog G158):Holds Try.prog 158 Sm158:=by
 have:=h0_158 hg
 have e:(runF TT G158 an158 Try.f158 c158 ps158 rs158)=q158:=by
  funext n x
  exact F158_eq n x.1
 rw [e] at this
 exact this
theorem gam158:GamOK Try.prog G158:=by
 intro f s h
 unfold G158 at h
 split at h
 ·injection h with h; subst h; exact ⟨⟨Try.f69,c69,Try.func69,by kernel_rfl,by decide +kernel⟩,hh69⟩
 ·cases h
theorem hh158:Holds Try.prog 158 Sm158:=holds158 gam158
end Go.Proofs.Ytdkaagpkeomhmaa.Rx.S

namespace Go.Proofs.Ytdkaagpkeomhmaa.Rx.S
open Go Go.RowKit Go.Proofs
set_option maxRecDepth 100000
noncomputable def c127:Code:=(Try.f127.body.getD .skip)
def an127:An:=⟨fun r=>match r with | 2=>⟨[0,3],[]⟩ | _=>⟨[],[]⟩,fun _ _=>none⟩
abbrev ps127:List PK:=[.val (.row 116 tAr) false]
abbrev rs127:List RK:=[.val .bool false]
abbrev R127:=retsD rs127 × outsD ps127
noncomputable def G127:Gam:=fun f=>match f with | 158=>some Sm158 | _=>none
theorem h0_127 (hg:GamOK Try.prog G127):Holds Try.prog 127 ⟨ps127,rs127,false,runF TT G127 an127 Try.f127 c127 ps127 rs127⟩:=holds_of tt_ok hg mixed Try.func127 (by kernel_rfl) (by rfl) (by decide +kernel)
noncomputable def at127:Nat→Pt→List Nat→St→Option R127:=atF TT G127 an127 Try.f127 c127 _ _
def sh127_L2 (x0:Lq) (x1:Int):St:=(St.mk [AV.one (SV.con (⟨116,(Ty.int Go.IntKind.i64).pair ((Ty.int Go.IntKind.i64).pair (Ty.bool.pair Ty.bool)),x0⟩:Rw)),Uu,Uu,AV.one (SV.int (Go.IntKind.i64) x1),Uu,Uu,Uu,Uu,Uu,Uu,Uu,Uu,Uu,Uu,Uu,Uu,Uu,Uu,Uu,Uu,Uu,Uu,Uu,Uu,Uu,Uu,Uu,Uu,Uu,Uu,Uu,Uu,Uu,Uu,Uu,Uu,Uu,Uu,Uu,Uu,Uu,Uu,Uu,Uu] [])
noncomputable def st127_top (n:Nat) (lL2:(Lq)→Int→Option R127) (a:Lq):Option R127 :=
 lL2 (a) ((0:Int))
noncomputable def st127_L2 (n:Nat) (lL2:(Lq)→Int→Option R127) (x0:Lq) (x1:Int):Option R127 :=
 cond (decide (x1 < (↑x0.length:Int))) (cond (decide ((0:Int)≤x1)) (cond (decide (x1 < (↑x0.length:Int))) ((q158 n (((x0.getD x1.toNat ((0:Int),(0:Int),false,false)).1,(x0.getD x1.toNat ((0:Int),(0:Int),false,false)).2.1,(x0.getD x1.toNat ((0:Int),(0:Int),false,false)).2.2.1,(x0.getD x1.toNat ((0:Int),(0:Int),false,false)).2.2.2),())).bind fun r1=>cond (!r1.1.1) (some ((false,()),())) (cond (decide ((0:Int) < x1)) (cond (decide ((0:Int)≤Go.IntKind.i64.wrap (x1 - (1:Int)))) (cond (decide (Go.IntKind.i64.wrap (x1 - (1:Int)) < (↑x0.length:Int))) (cond (decide ((0:Int)≤Go.IntKind.i64.wrap (x1 - (1:Int)))) (cond (decide (Go.IntKind.i64.wrap (x1 - (1:Int)) < (↑x0.length:Int))) (cond (decide ((0:Int)≤x1)) (cond (decide (x1 < (↑x0.length:Int))) (cond (decide ((x0.getD x1.toNat ((0:Int),(0:Int),false,false)).1 < Go.IntKind.i64.wrap ((x0.getD (Go.IntKind.i64.wrap (x1 - (1:Int))).toNat ((0:Int),(0:Int),false,false)).1 + (x0.getD (Go.IntKind.i64.wrap (x1 - (1:Int))).toNat ((0:Int),(0:Int),false,false)).2.1))) (some ((false,()),())) (lL2 (x0) (Go.IntKind.i64.wrap (x1 + (1:Int))))) (none)) (none)) (none)) (none)) (none)) (none)) (lL2 (x0) (Go.IntKind.i64.wrap (x1 + (1:Int)))))) (none)) (none)) (some ((decide ((↑x0.length:Int)≤(6:Int)),()),()))
theorem e127_top (n:Nat) (a:Lq):runF TT G127 an127 Try.f127 c127 ps127 rs127 n (a,())=st127_top n (fun x0 x1=>at127 n (.head 2) [n] (sh127_L2 x0 x1)) a:=by kernel_rfl
theorem e127_L2_0 (n:Nat) (x0:Lq) (x1:Int):at127 n (.head 2) [0] (sh127_L2 x0 x1)=none:=by kernel_rfl
theorem e127_L2 (n:Nat) (m2:Nat) (x0:Lq) (x1:Int):at127 n (.head 2) [m2 + 1] (sh127_L2 x0 x1)=st127_L2 n (fun x0 x1=>at127 n (.head 2) [m2] (sh127_L2 x0 x1)) x0 x1:=by kernel_rfl
noncomputable def p127_L2 (n:Nat):Nat→(Lq)→Int→Option R127
 | 0,_,_=>none
 | m + 1,x0,x1=>st127_L2 n (p127_L2 n m) x0 x1
noncomputable def p127 (n:Nat) (a:Lq):Option R127:=st127_top n (p127_L2 n n) a
theorem t127_L2 (n:Nat):∀ (m2:Nat) (x0:Lq) (x1:Int),at127 n (.head 2) [m2] (sh127_L2 x0 x1)=p127_L2 n m2 x0 x1:=by
 intro m
 induction m with
 | zero=>intros; rw [e127_L2_0]; rfl
 | succ m ih =>
  intros
  rw [e127_L2]
  try simp only [ih]
  rfl
theorem F127_eq (n:Nat) (a:Lq):runF TT G127 an127 Try.f127 c127 ps127 rs127 n (a,())=p127 n a:=by
 rw [e127_top]
 simp only [t127_L2]
 try rfl
noncomputable def q127 (n:Nat) (x:argsD ps127):Option R127:=p127 n x.1
noncomputable def Sm127:Sm:=⟨ps127,rs127,false,q127⟩
theorem holds127 (hg:GamOK Try.prog G127):Holds Try.prog 127 Sm127:=by
 have:=h0_127 hg
 have e:(runF TT G127 an127 Try.f127 c127 ps127 rs127)=q127:=by
  funext n x
  exact F127_eq n x.1
 rw [e] at this
 exact this
theorem gam127:GamOK Try.prog G127:=by
 intro f s h
 unfold G127 at h
 split at h
 ·injection h with h; subst h; exact ⟨⟨Try.f158,c158,Try.func158,by kernel_rfl,by decide +kernel⟩,hh158⟩
 ·cases h
theorem hh127:Holds Try.prog 127 Sm127:=holds127 gam127
end Go.Proofs.Ytdkaagpkeomhmaa.Rx.S

namespace Go.Proofs.Ytdkaagpkeomhmaa.Rx.S
open Go Go.RowKit Go.Proofs
set_option maxRecDepth 100000
noncomputable def c118:Code:=(Try.f118.body.getD .skip)
def an118:An:=⟨fun r=>match r with | 6=>⟨[1,3],[]⟩ | _=>⟨[],[]⟩,fun _ _=>none⟩
abbrev ps118:List PK:=[.val (tSp 116 80) true]
abbrev rs118:List RK:=[.val .bool false]
abbrev R118:=retsD rs118 × outsD ps118
noncomputable def G118:Gam:=fun f=>match f with | 69=>some Sm69 | 71=>some Sm71 | 127=>some Sm127 | _=>none
theorem h0_118 (hg:GamOK Try.prog G118):Holds Try.prog 118 ⟨ps118,rs118,false,runF TT G118 an118 Try.f118 c118 ps118 rs118⟩:=holds_of tt_ok hg mixed Try.func118 (by kernel_rfl) (by rfl) (by decide +kernel)
noncomputable def at118:Nat→Pt→List Nat→St→Option R118:=atF TT G118 an118 Try.f118 c118 _ _
def sh118_L6 (x0:Int) (x1:Bool) (x2 x3:Lq):St:=(St.mk [Uu,AV.one (SV.bptr 1000000 0),Uu,AV.one (SV.int (Go.IntKind.i64) x0),Uu,Uu,Uu,Uu,Uu,Uu,Uu,Uu,Uu,Uu,Uu,Uu,Uu,Uu,Uu,Uu,Uu,Uu,Uu,Uu,Uu,Uu,Uu,Uu,Uu,Uu,Uu,Uu,Uu,Uu,Uu,Uu,Uu,Uu,Uu,Uu,Uu,Uu,Uu,Uu,Uu,Uu,Uu,Uu,Uu,Uu,Uu,Uu,Uu,Uu,Uu,Uu,Uu,Uu,Uu,Uu,Uu,Uu,Uu,Uu,Uu,Uu,Uu,Uu,Uu,Uu] ((1000000,(Ent.box ((SV.bool x1) :: ((SV.con (⟨116,(Ty.int Go.IntKind.i64).pair ((Ty.int Go.IntKind.i64).pair (Ty.bool.pair Ty.bool)),x2⟩:Rw)) :: ((SV.con (⟨80,(Ty.int Go.IntKind.i64).pair ((Ty.int Go.IntKind.i64).pair (Ty.bool.pair Ty.bool)),x3⟩:Rw)) :: []))))) :: []))
noncomputable def st118_top (n:Nat) (lL6:Int→Bool→(Lq)→(Lq)→Option R118) (a:Bool × Lq × Lq):Option R118 :=
 cond (!a.1) (cond (decide ((↑(List.length a.2.1):Int)=(0:Int))) (some ((decide ((↑(List.length a.2.2):Int)=(0:Int)),()),())) (some ((false,()),()))) ((q127 n (a.2.1,())).bind fun r0=>cond (!r0.1.1) (some ((false,()),())) (cond (!decide ((↑(List.length a.2.2):Int)=(16:Int))) (some ((false,()),())) (lL6 ((0:Int)) (a.1) (a.2.1) (a.2.2))))
noncomputable def st118_L6 (n:Nat) (lL6:Int→Bool→(Lq)→(Lq)→Option R118) (x0:Int) (x1:Bool) (x2 x3:Lq):Option R118 :=
 cond (decide (x0 < (16:Int))) (cond (decide ((0:Int)≤x0)) (cond (decide (x0 < (↑x3.length:Int))) ((q71 n (x2,x0,())).bind fun r2=>cond (decide ((x3.getD x0.toNat ((0:Int),(0:Int),false,false)).1=(0:Int))) (cond (!(decide ((x3.getD x0.toNat ((0:Int),(0:Int),false,false)).1=(0:Int))&&(decide ((x3.getD x0.toNat ((0:Int),(0:Int),false,false)).2.1=(0:Int))&&((x3.getD x0.toNat ((0:Int),(0:Int),false,false)).2.2.1 == false&&((x3.getD x0.toNat ((0:Int),(0:Int),false,false)).2.2.2 == false&&true))))) (some ((false,()),())) (lL6 (Go.IntKind.i64.wrap (x0 + (1:Int))) (x1) (x2) (x3))) (cond (decide (r2.1.1 < (0:Int))) (some ((false,()),())) ((q69 n ((x3.getD x0.toNat ((0:Int),(0:Int),false,false)).1,(1:Int),(2:Int),())).bind fun r3=>cond (!r3.1.1) (some ((false,()),())) (cond (decide ((0:Int)≤r2.1.1)) (cond (decide (r2.1.1 < (↑x2.length:Int))) (cond ((x2.getD (Int.toNat r2.1.1) ((0:Int),(0:Int),false,false)).2.2.2) (cond (!(x3.getD x0.toNat ((0:Int),(0:Int),false,false)).2.2.1) (some ((false,()),())) (lL6 (Go.IntKind.i64.wrap (x0 + (1:Int))) (x1) (x2) (x3))) (lL6 (Go.IntKind.i64.wrap (x0 + (1:Int))) (x1) (x2) (x3))) (none)) (none))))) (none)) (none)) (some ((true,()),()))
theorem e118_top (n:Nat) (a:Bool × Lq × Lq):runF TT G118 an118 Try.f118 c118 ps118 rs118 n (a,())=st118_top n (fun x0 x1 x2 x3=>at118 n (.head 6) [n] (sh118_L6 x0 x1 x2 x3)) a:=by kernel_rfl
theorem e118_L6_0 (n:Nat) (x0:Int) (x1:Bool) (x2 x3:Lq):at118 n (.head 6) [0] (sh118_L6 x0 x1 x2 x3)=none:=by kernel_rfl
theorem e118_L6 (n:Nat) (m6:Nat) (x0:Int) (x1:Bool) (x2 x3:Lq):at118 n (.head 6) [m6 + 1] (sh118_L6 x0 x1 x2 x3)=st118_L6 n (fun x0 x1 x2 x3=>at118 n (.head 6) [m6] (sh118_L6 x0 x1 x2 x3)) x0 x1 x2 x3:=by kernel_rfl
noncomputable def p118_L6 (n:Nat):Nat→Int→Bool→(Lq)→(Lq)→Option R118
 | 0,_,_,_,_=>none
 | m + 1,x0,x1,x2,x3=>st118_L6 n (p118_L6 n m) x0 x1 x2 x3
noncomputable def p118 (n:Nat) (a:Bool × Lq × Lq):Option R118:=st118_top n (p118_L6 n n) a
theorem t118_L6 (n:Nat):∀ (m6:Nat) (x0:Int) (x1:Bool) (x2 x3:Lq),at118 n (.head 6) [m6] (sh118_L6 x0 x1 x2 x3)=p118_L6 n m6 x0 x1 x2 x3:=by
 intro m
 induction m with
 | zero=>intros; rw [e118_L6_0]; rfl
 | succ m ih =>
  intros
  rw [e118_L6]
  try simp only [ih]
  rfl
theorem F118_eq (n:Nat) (a:Bool × Lq × Lq):runF TT G118 an118 Try.f118 c118 ps118 rs118 n (a,())=p118 n a:=by
 rw [e118_top]
 simp only [t118_L6]
 try rfl
noncomputable def q118 (n:Nat) (x:argsD ps118):Option R118:=p118 n x.1
noncomputable def Sm118:Sm:=⟨ps118,rs118,false,q118⟩
theorem holds118 (hg:GamOK Try.prog G118):Holds Try.prog 118 Sm118:=by
 have:=h0_118 hg
 have e:(runF TT G118 an118 Try.f118 c118 ps118 rs118)=q118:=by
  funext n x
  exact F118_eq n x.1
 rw [e] at this
 exact this
theorem gam118:GamOK Try.prog G118:=by
 intro f s h
 unfold G118 at h
 split at h
 ·injection h with h; subst h; exact ⟨⟨Try.f69,c69,Try.func69,by kernel_rfl,by decide +kernel⟩,hh69⟩
 ·injection h with h; subst h; exact ⟨⟨Try.f71,c71,Try.func71,by kernel_rfl,by decide +kernel⟩,hh71⟩
 ·injection h with h; subst h; exact ⟨⟨Try.f127,c127,Try.func127,by kernel_rfl,by decide +kernel⟩,hh127⟩
 ·cases h
theorem hh118:Holds Try.prog 118 Sm118:=holds118 gam118
end Go.Proofs.Ytdkaagpkeomhmaa.Rx.S

namespace Go.Proofs.Ytdkaagpkeomhmaa.Rx.S
open Go Go.RowKit Go.Proofs
set_option maxRecDepth 100000
noncomputable def c119:Code:=(Try.f119.body.getD .skip)
def an119:An:=⟨fun r=>match r with | 3=>⟨[1,2,3,7,8],[]⟩ | 6=>⟨[1,2,3,7,8,9],[]⟩ | _=>⟨[],[]⟩,fun _ _=>none⟩
abbrev ps119:List PK:=[.val tMem true,.val i64 false,.val i64 false]
abbrev rs119:List RK:=[.val i64 false]
abbrev R119:=retsD rs119 × outsD ps119
noncomputable def G119:Gam:=fun _=>none
theorem h0_119 (hg:GamOK Try.prog G119):Holds Try.prog 119 ⟨ps119,rs119,false,runF TT G119 an119 Try.f119 c119 ps119 rs119⟩:=holds_of tt_ok hg mixed Try.func119 (by kernel_rfl) (by rfl) (by decide +kernel)
noncomputable def at119:Nat→Pt→List Nat→St→Option R119:=atF TT G119 an119 Try.f119 c119 _ _
def sh119_L6 (x0 x1 x2 x3 x4:Int) (x5:Lb) (x6:List Int) (x7:Lb) (x8:List Int) (x9:List (Bool × Lq × Lq)) (x10:Int):St:=(St.mk [Uu,AV.one (SV.int (Go.IntKind.i64) x0),AV.one (SV.int (Go.IntKind.i64) x1),AV.one (SV.bptr 1000000 0),Uu,Uu,Uu,AV.one (SV.int (Go.IntKind.i64) x2),AV.one (SV.int (Go.IntKind.i64) x3),AV.one (SV.int (Go.IntKind.i64) x4),Uu,Uu,Uu,Uu,Uu,Uu,Uu,Uu,Uu,Uu,Uu,Uu,Uu,Uu,Uu,Uu,Uu,Uu,Uu,Uu,Uu,Uu,Uu,Uu,Uu,Uu,Uu,Uu,Uu,Uu,Uu,Uu,Uu,Uu,Uu,Uu,Uu,Uu,Uu,Uu,Uu] ((1000000,(Ent.box ((SV.con (⟨9,Ty.str,x5⟩:Rw)) :: ((SV.con (⟨3,Ty.int Go.IntKind.i64,x6⟩:Rw)) :: ((SV.con (⟨9,Ty.str,x7⟩:Rw)) :: ((SV.con (⟨3,Ty.int Go.IntKind.i64,x8⟩:Rw)) :: ((SV.con (⟨71,Ty.bool.pair ((Ty.row (nat_lit 116) ((Ty.int Go.IntKind.i64).pair ((Ty.int Go.IntKind.i64).pair (Ty.bool.pair Ty.bool)))).pair (Ty.row (nat_lit 80) ((Ty.int Go.IntKind.i64).pair ((Ty.int Go.IntKind.i64).pair (Ty.bool.pair Ty.bool))))),x9⟩:Rw)) :: ((SV.int (Go.IntKind.i64) x10) :: [])))))))) :: []))
def sh119_L3 (x0 x1 x2 x3:Int) (x4:Lb) (x5:List Int) (x6:Lb) (x7:List Int) (x8:List (Bool × Lq × Lq)) (x9:Int):St:=(St.mk [Uu,AV.one (SV.int (Go.IntKind.i64) x0),AV.one (SV.int (Go.IntKind.i64) x1),AV.one (SV.bptr 1000000 0),Uu,Uu,Uu,AV.one (SV.int (Go.IntKind.i64) x2),AV.one (SV.int (Go.IntKind.i64) x3),Uu,Uu,Uu,Uu,Uu,Uu,Uu,Uu,Uu,Uu,Uu,Uu,Uu,Uu,Uu,Uu,Uu,Uu,Uu,Uu,Uu,Uu,Uu,Uu,Uu,Uu,Uu,Uu,Uu,Uu,Uu,Uu,Uu,Uu,Uu,Uu,Uu,Uu,Uu,Uu,Uu,Uu] ((1000000,(Ent.box ((SV.con (⟨9,Ty.str,x4⟩:Rw)) :: ((SV.con (⟨3,Ty.int Go.IntKind.i64,x5⟩:Rw)) :: ((SV.con (⟨9,Ty.str,x6⟩:Rw)) :: ((SV.con (⟨3,Ty.int Go.IntKind.i64,x7⟩:Rw)) :: ((SV.con (⟨71,Ty.bool.pair ((Ty.row (nat_lit 116) ((Ty.int Go.IntKind.i64).pair ((Ty.int Go.IntKind.i64).pair (Ty.bool.pair Ty.bool)))).pair (Ty.row (nat_lit 80) ((Ty.int Go.IntKind.i64).pair ((Ty.int Go.IntKind.i64).pair (Ty.bool.pair Ty.bool))))),x8⟩:Rw)) :: ((SV.int (Go.IntKind.i64) x9) :: [])))))))) :: []))
noncomputable def st119_top (n:Nat) (lL3:Int→Int→Int→Int→(Lb)→(List Int)→(Lb)→(List Int)→(List (Bool × Lq × Lq))→Int→Option R119) (a:(Lb × List Int) × (Lb × List Int) × List (Bool × Lq × Lq) × Int) (b:Int) (c:Int):Option R119 :=
 lL3 (b) (c) ((0:Int)) ((0:Int)) (a.1.1) (a.1.2) (a.2.1.1) (a.2.1.2) (a.2.2.1) (a.2.2.2)
noncomputable def st119_L6 (n:Nat) (lL6:Int→Int→Int→Int→Int→(Lb)→(List Int)→(Lb)→(List Int)→(List (Bool × Lq × Lq))→Int→Option R119) (lL3:Int→Int→Int→Int→(Lb)→(List Int)→(Lb)→(List Int)→(List (Bool × Lq × Lq))→Int→Option R119) (x0 x1 x2 x3 x4:Int) (x5:Lb) (x6:List Int) (x7:Lb) (x8:List Int) (x9:List (Bool × Lq × Lq)) (x10:Int):Option R119 :=
 cond (decide ((0:Int)≤x3)) (cond (decide (x3 < (↑x9.length:Int))) (cond (decide (x4 < (↑(List.length (x9.getD x3.toNat (false,[],[])).2.2):Int))) (cond (decide ((0:Int)≤x3)) (cond (decide (x3 < (↑x9.length:Int))) (cond (decide ((0:Int)≤x4)) (cond (decide (x4 < (↑(List.length (x9.getD x3.toNat (false,[],[])).2.2):Int))) (cond (decide ((List.getD (x9.getD x3.toNat (false,[],[])).2.2 x4.toNat ((0:Int),(0:Int),false,false)).1=x0)) (cond (decide ((List.getD (x9.getD x3.toNat (false,[],[])).2.2 x4.toNat ((0:Int),(0:Int),false,false)).2.1=x1)) (lL6 (x0) (x1) (Go.IntKind.i64.wrap (x2 + (1:Int))) (x3) (Go.IntKind.i64.wrap (x4 + (1:Int))) (x5) (x6) (x7) (x8) (x9) (x10)) (lL6 (x0) (x1) (x2) (x3) (Go.IntKind.i64.wrap (x4 + (1:Int))) (x5) (x6) (x7) (x8) (x9) (x10))) (lL6 (x0) (x1) (x2) (x3) (Go.IntKind.i64.wrap (x4 + (1:Int))) (x5) (x6) (x7) (x8) (x9) (x10))) (none)) (none)) (none)) (none)) (lL3 (x0) (x1) (x2) (Go.IntKind.i64.wrap (x3 + (1:Int))) (x5) (x6) (x7) (x8) (x9) (x10))) (none)) (none)
noncomputable def st119_L3 (n:Nat) (lL6:Int→Int→Int→Int→Int→(Lb)→(List Int)→(Lb)→(List Int)→(List (Bool × Lq × Lq))→Int→Option R119) (x0 x1 x2 x3:Int) (x4:Lb) (x5:List Int) (x6:Lb) (x7:List Int) (x8:List (Bool × Lq × Lq)) (x9:Int):Option R119 :=
 cond (decide (x3 < (↑x8.length:Int))) (lL6 (x0) (x1) (x2) (x3) ((0:Int)) (x4) (x5) (x6) (x7) (x8) (x9)) (some ((x2,()),()))
theorem e119_top (n:Nat) (a:(Lb × List Int) × (Lb × List Int) × List (Bool × Lq × Lq) × Int) (b:Int) (c:Int):runF TT G119 an119 Try.f119 c119 ps119 rs119 n (a,b,c,())=st119_top n (fun x0 x1 x2 x3 x4 x5 x6 x7 x8 x9=>at119 n (.head 3) [n] (sh119_L3 x0 x1 x2 x3 x4 x5 x6 x7 x8 x9)) a b c:=by kernel_rfl
theorem e119_L6_0 (n:Nat) (m3:Nat) (x0 x1 x2 x3 x4:Int) (x5:Lb) (x6:List Int) (x7:Lb) (x8:List Int) (x9:List (Bool × Lq × Lq)) (x10:Int):at119 n (.head 6) [m3,0] (sh119_L6 x0 x1 x2 x3 x4 x5 x6 x7 x8 x9 x10)=none:=by kernel_rfl
theorem e119_L6 (n:Nat) (m3:Nat) (m6:Nat) (x0 x1 x2 x3 x4:Int) (x5:Lb) (x6:List Int) (x7:Lb) (x8:List Int) (x9:List (Bool × Lq × Lq)) (x10:Int):at119 n (.head 6) [m3,m6 + 1] (sh119_L6 x0 x1 x2 x3 x4 x5 x6 x7 x8 x9 x10)=st119_L6 n (fun x0 x1 x2 x3 x4 x5 x6 x7 x8 x9 x10=>at119 n (.head 6) [m3,m6] (sh119_L6 x0 x1 x2 x3 x4 x5 x6 x7 x8 x9 x10)) (fun x0 x1 x2 x3 x4 x5 x6 x7 x8 x9=>at119 n (.head 3) [m3] (sh119_L3 x0 x1 x2 x3 x4 x5 x6 x7 x8 x9)) x0 x1 x2 x3 x4 x5 x6 x7 x8 x9 x10:=by kernel_rfl
theorem e119_L3_0 (n:Nat) (x0 x1 x2 x3:Int) (x4:Lb) (x5:List Int) (x6:Lb) (x7:List Int) (x8:List (Bool × Lq × Lq)) (x9:Int):at119 n (.head 3) [0] (sh119_L3 x0 x1 x2 x3 x4 x5 x6 x7 x8 x9)=none:=by kernel_rfl
theorem e119_L3 (n:Nat) (m3:Nat) (x0 x1 x2 x3:Int) (x4:Lb) (x5:List Int) (x6:Lb) (x7:List Int) (x8:List (Bool × Lq × Lq)) (x9:Int):at119 n (.head 3) [m3 + 1] (sh119_L3 x0 x1 x2 x3 x4 x5 x6 x7 x8 x9)=st119_L3 n (fun x0 x1 x2 x3 x4 x5 x6 x7 x8 x9 x10=>at119 n (.head 6) [m3,n] (sh119_L6 x0 x1 x2 x3 x4 x5 x6 x7 x8 x9 x10)) x0 x1 x2 x3 x4 x5 x6 x7 x8 x9:=by kernel_rfl
noncomputable def p119_L6 (g3:Int→Int→Int→Int→(Lb)→(List Int)→(Lb)→(List Int)→(List (Bool × Lq × Lq))→Int→Option R119) (n:Nat):Nat→Int→Int→Int→Int→Int→(Lb)→(List Int)→(Lb)→(List Int)→(List (Bool × Lq × Lq))→Int→Option R119
 | 0,_,_,_,_,_,_,_,_,_,_,_=>none
 | m + 1,x0,x1,x2,x3,x4,x5,x6,x7,x8,x9,x10=>st119_L6 n (p119_L6 g3 n m) g3 x0 x1 x2 x3 x4 x5 x6 x7 x8 x9 x10
noncomputable def p119_L3 (n:Nat):Nat→Int→Int→Int→Int→(Lb)→(List Int)→(Lb)→(List Int)→(List (Bool × Lq × Lq))→Int→Option R119
 | 0,_,_,_,_,_,_,_,_,_,_=>none
 | m + 1,x0,x1,x2,x3,x4,x5,x6,x7,x8,x9=>st119_L3 n (p119_L6 (p119_L3 n m) n n) x0 x1 x2 x3 x4 x5 x6 x7 x8 x9
noncomputable def p119 (n:Nat) (a:(Lb × List Int) × (Lb × List Int) × List (Bool × Lq × Lq) × Int) (b:Int) (c:Int):Option R119:=st119_top n (p119_L3 n n) a b c
theorem t119_L6 (n:Nat) (m3:Nat):∀ (m6:Nat) (x0 x1 x2 x3 x4:Int) (x5:Lb) (x6:List Int) (x7:Lb) (x8:List Int) (x9:List (Bool × Lq × Lq)) (x10:Int),at119 n (.head 6) [m3,m6] (sh119_L6 x0 x1 x2 x3 x4 x5 x6 x7 x8 x9 x10)=p119_L6 (fun x0 x1 x2 x3 x4 x5 x6 x7 x8 x9=>at119 n (.head 3) [m3] (sh119_L3 x0 x1 x2 x3 x4 x5 x6 x7 x8 x9)) n m6 x0 x1 x2 x3 x4 x5 x6 x7 x8 x9 x10:=by
 intro m
 induction m with
 | zero=>intros; rw [e119_L6_0]; rfl
 | succ m ih =>
  intros
  rw [e119_L6]
  try simp only [ih]
  rfl
theorem t119_L3 (n:Nat):∀ (m3:Nat) (x0 x1 x2 x3:Int) (x4:Lb) (x5:List Int) (x6:Lb) (x7:List Int) (x8:List (Bool × Lq × Lq)) (x9:Int),at119 n (.head 3) [m3] (sh119_L3 x0 x1 x2 x3 x4 x5 x6 x7 x8 x9)=p119_L3 n m3 x0 x1 x2 x3 x4 x5 x6 x7 x8 x9:=by
 intro m
 induction m with
 | zero=>intros; rw [e119_L3_0]; rfl
 | succ m ih =>
  intros
  rw [e119_L3]
  try simp only [t119_L6,ih]
  rfl
theorem F119_eq (n:Nat) (a:(Lb × List Int) × (Lb × List Int) × List (Bool × Lq × Lq) × Int) (b:Int) (c:Int):runF TT G119 an119 Try.f119 c119 ps119 rs119 n (a,b,c,())=p119 n a b c:=by
 rw [e119_top]
 simp only [t119_L3]
 try rfl
noncomputable def q119 (n:Nat) (x:argsD ps119):Option R119:=p119 n x.1 x.2.1 x.2.2.1
noncomputable def Sm119:Sm:=⟨ps119,rs119,false,q119⟩
theorem holds119 (hg:GamOK Try.prog G119):Holds Try.prog 119 Sm119:=by
 have:=h0_119 hg
 have e:(runF TT G119 an119 Try.f119 c119 ps119 rs119)=q119:=by
  funext n x
  exact F119_eq n x.1 x.2.1 x.2.2.1
 rw [e] at this
 exact this
theorem gam119:GamOK Try.prog G119:=fun _ _ h=>by cases h
theorem hh119:Holds Try.prog 119 Sm119:=holds119 gam119
end Go.Proofs.Ytdkaagpkeomhmaa.Rx.S

namespace Go.Proofs.Ytdkaagpkeomhmaa.Rx.S
open Go Go.RowKit Go.Proofs
set_option maxRecDepth 100000
noncomputable def c157:Code:=(Try.f157.body.getD .skip)
def an157:An:=⟨fun _=>⟨[],[]⟩,fun _ _=>none⟩
abbrev ps157:List PK:=[.val (tSp 116 80) true,.val i64 false]
abbrev rs157:List RK:=[.val .bool false]
abbrev R157:=retsD rs157 × outsD ps157
noncomputable def G157:Gam:=fun f=>match f with | 71=>some Sm71 | _=>none
theorem h0_157 (hg:GamOK Try.prog G157):Holds Try.prog 157 ⟨ps157,rs157,false,runF TT G157 an157 Try.f157 c157 ps157 rs157⟩:=holds_of tt_ok hg mixed Try.func157 (by kernel_rfl) (by rfl) (by decide +kernel)
noncomputable def st157_top (n:Nat) (a:Bool × Lq × Lq) (b:Int):Option R157 :=
 (q71 n (a.2.1,b,())).bind fun r0=>cond (decide ((0:Int)≤r0.1.1)) (cond (decide ((0:Int)≤r0.1.1)) (cond (decide (r0.1.1 < (↑(List.length a.2.1):Int))) (some (((List.getD a.2.1 (Int.toNat r0.1.1) ((0:Int),(0:Int),false,false)).2.2.2,()),())) (none)) (none)) (some ((false,()),()))
theorem e157_top (n:Nat) (a:Bool × Lq × Lq) (b:Int):runF TT G157 an157 Try.f157 c157 ps157 rs157 n (a,b,())=st157_top n a b:=by kernel_rfl
noncomputable def p157 (n:Nat) (a:Bool × Lq × Lq) (b:Int):Option R157:=st157_top n a b
theorem F157_eq (n:Nat) (a:Bool × Lq × Lq) (b:Int):runF TT G157 an157 Try.f157 c157 ps157 rs157 n (a,b,())=p157 n a b:=by
 rw [e157_top]
 skip
 try rfl
noncomputable def q157 (n:Nat) (x:argsD ps157):Option R157:=p157 n x.1 x.2.1
noncomputable def Sm157:Sm:=⟨ps157,rs157,false,q157⟩
theorem holds157 (hg:GamOK Try.prog G157):Holds Try.prog 157 Sm157:=by
 have:=h0_157 hg
 have e:(runF TT G157 an157 Try.f157 c157 ps157 rs157)=q157:=by
  funext n x
  exact F157_eq n x.1 x.2.1
 rw [e] at this
 exact this
theorem gam157:GamOK Try.prog G157:=by
 intro f s h
 unfold G157 at h
 split at h
 ·injection h with h; subst h; exact ⟨⟨Try.f71,c71,Try.func71,by kernel_rfl,by decide +kernel⟩,hh71⟩
 ·cases h
theorem hh157:Holds Try.prog 157 Sm157:=holds157 gam157
end Go.Proofs.Ytdkaagpkeomhmaa.Rx.S

namespace Go.Proofs.Ytdkaagpkeomhmaa.Rx.S
open Go Go.RowKit Go.Proofs
set_option maxRecDepth 100000
noncomputable def c120:Code:=(Try.f120.body.getD .skip)
def an120:An:=⟨fun r=>match r with | 5=>⟨[1,2,3,7,8,9,10],[]⟩ | 8=>⟨[1,2,3,7,8,9,10,11],[]⟩ | _=>⟨[],[]⟩,fun _ _=>none⟩
abbrev ps120:List PK:=[.val tMem true,.val i64 false,.val i64 false]
abbrev rs120:List RK:=[.val .bool false]
abbrev R120:=retsD rs120 × outsD ps120
noncomputable def G120:Gam:=fun f=>match f with | 157=>some Sm157 | _=>none
theorem h0_120 (hg:GamOK Try.prog G120):Holds Try.prog 120 ⟨ps120,rs120,false,runF TT G120 an120 Try.f120 c120 ps120 rs120⟩:=holds_of tt_ok hg mixed Try.func120 (by kernel_rfl) (by rfl) (by decide +kernel)
noncomputable def at120:Nat→Pt→List Nat→St→Option R120:=atF TT G120 an120 Try.f120 c120 _ _
def sh120_L8 (x0 x1 x2:Int) (x3 x4:Bool) (x5 x6:Int) (x7:Lb) (x8:List Int) (x9:Lb) (x10:List Int) (x11:List (Bool × Lq × Lq)) (x12:Int):St:=(St.mk [Uu,AV.one (SV.int (Go.IntKind.i64) x0),AV.one (SV.int (Go.IntKind.i64) x1),AV.one (SV.bptr 1000000 0),Uu,Uu,Uu,AV.one (SV.int (Go.IntKind.i64) x2),AV.one (SV.bool x3),AV.one (SV.bool x4),AV.one (SV.int (Go.IntKind.i64) x5),AV.one (SV.int (Go.IntKind.i64) x6),Uu,Uu,Uu,Uu,Uu,Uu,Uu,Uu,Uu,Uu,Uu,Uu,Uu,Uu,Uu,Uu,Uu,Uu,Uu,Uu,Uu,Uu,Uu,Uu,Uu,Uu,Uu,Uu,Uu,Uu,Uu,Uu,Uu,Uu,Uu,Uu,Uu,Uu,Uu,Uu,Uu,Uu,Uu,Uu,Uu,Uu,Uu,Uu,Uu,Uu,Uu,Uu,Uu,Uu,Uu,Uu,Uu,Uu,Uu,Uu,Uu,Uu,Uu,Uu,Uu,Uu] ((1000000,(Ent.box ((SV.con (⟨9,Ty.str,x7⟩:Rw)) :: ((SV.con (⟨3,Ty.int Go.IntKind.i64,x8⟩:Rw)) :: ((SV.con (⟨9,Ty.str,x9⟩:Rw)) :: ((SV.con (⟨3,Ty.int Go.IntKind.i64,x10⟩:Rw)) :: ((SV.con (⟨71,Ty.bool.pair ((Ty.row (nat_lit 116) ((Ty.int Go.IntKind.i64).pair ((Ty.int Go.IntKind.i64).pair (Ty.bool.pair Ty.bool)))).pair (Ty.row (nat_lit 80) ((Ty.int Go.IntKind.i64).pair ((Ty.int Go.IntKind.i64).pair (Ty.bool.pair Ty.bool))))),x11⟩:Rw)) :: ((SV.int (Go.IntKind.i64) x12) :: [])))))))) :: []))
def sh120_L5 (x0 x1 x2:Int) (x3 x4:Bool) (x5:Int) (x6:Lb) (x7:List Int) (x8:Lb) (x9:List Int) (x10:List (Bool × Lq × Lq)) (x11:Int):St:=(St.mk [Uu,AV.one (SV.int (Go.IntKind.i64) x0),AV.one (SV.int (Go.IntKind.i64) x1),AV.one (SV.bptr 1000000 0),Uu,Uu,Uu,AV.one (SV.int (Go.IntKind.i64) x2),AV.one (SV.bool x3),AV.one (SV.bool x4),AV.one (SV.int (Go.IntKind.i64) x5),Uu,Uu,Uu,Uu,Uu,Uu,Uu,Uu,Uu,Uu,Uu,Uu,Uu,Uu,Uu,Uu,Uu,Uu,Uu,Uu,Uu,Uu,Uu,Uu,Uu,Uu,Uu,Uu,Uu,Uu,Uu,Uu,Uu,Uu,Uu,Uu,Uu,Uu,Uu,Uu,Uu,Uu,Uu,Uu,Uu,Uu,Uu,Uu,Uu,Uu,Uu,Uu,Uu,Uu,Uu,Uu,Uu,Uu,Uu,Uu,Uu,Uu,Uu,Uu,Uu,Uu,Uu] ((1000000,(Ent.box ((SV.con (⟨9,Ty.str,x6⟩:Rw)) :: ((SV.con (⟨3,Ty.int Go.IntKind.i64,x7⟩:Rw)) :: ((SV.con (⟨9,Ty.str,x8⟩:Rw)) :: ((SV.con (⟨3,Ty.int Go.IntKind.i64,x9⟩:Rw)) :: ((SV.con (⟨71,Ty.bool.pair ((Ty.row (nat_lit 116) ((Ty.int Go.IntKind.i64).pair ((Ty.int Go.IntKind.i64).pair (Ty.bool.pair Ty.bool)))).pair (Ty.row (nat_lit 80) ((Ty.int Go.IntKind.i64).pair ((Ty.int Go.IntKind.i64).pair (Ty.bool.pair Ty.bool))))),x10⟩:Rw)) :: ((SV.int (Go.IntKind.i64) x11) :: [])))))))) :: []))
noncomputable def st120_top (n:Nat) (lL5:Int→Int→Int→Bool→Bool→Int→(Lb)→(List Int)→(Lb)→(List Int)→(List (Bool × Lq × Lq))→Int→Option R120) (a:(Lb × List Int) × (Lb × List Int) × List (Bool × Lq × Lq) × Int) (b:Int) (c:Int):Option R120 :=
 lL5 (b) (c) ((0:Int)) (false) (false) ((0:Int)) (a.1.1) (a.1.2) (a.2.1.1) (a.2.1.2) (a.2.2.1) (a.2.2.2)
noncomputable def st120_L8 (n:Nat) (lL8:Int→Int→Int→Bool→Bool→Int→Int→(Lb)→(List Int)→(Lb)→(List Int)→(List (Bool × Lq × Lq))→Int→Option R120) (lL5:Int→Int→Int→Bool→Bool→Int→(Lb)→(List Int)→(Lb)→(List Int)→(List (Bool × Lq × Lq))→Int→Option R120) (x0 x1 x2:Int) (x3 x4:Bool) (x5 x6:Int) (x7:Lb) (x8:List Int) (x9:Lb) (x10:List Int) (x11:List (Bool × Lq × Lq)) (x12:Int):Option R120 :=
 cond (decide ((0:Int)≤x5)) (cond (decide (x5 < (↑x11.length:Int))) (cond (decide (x6 < (↑(List.length (x11.getD x5.toNat (false,[],[])).2.2):Int))) (cond (decide ((0:Int)≤x5)) (cond (decide (x5 < (↑x11.length:Int))) (cond (decide ((0:Int)≤x6)) (cond (decide (x6 < (↑(List.length (x11.getD x5.toNat (false,[],[])).2.2):Int))) (cond (decide ((List.getD (x11.getD x5.toNat (false,[],[])).2.2 x6.toNat ((0:Int),(0:Int),false,false)).1=x0)) (cond (decide ((List.getD (x11.getD x5.toNat (false,[],[])).2.2 x6.toNat ((0:Int),(0:Int),false,false)).2.1=x1)) (cond (x3) (cond (x4) (lL8 (x0) (x1) (Go.IntKind.i64.wrap (x2 + (1:Int))) (true) (true) (x5) (Go.IntKind.i64.wrap (x6 + (1:Int))) (x7) (x8) (x9) (x10) (x11) (x12)) (cond (decide ((0:Int)≤x5)) (cond (decide (x5 < (↑x11.length:Int))) ((q157 n (((x11.getD x5.toNat (false,[],[])).1,(x11.getD x5.toNat (false,[],[])).2.1,(x11.getD x5.toNat (false,[],[])).2.2),x6,())).bind fun r2=>lL8 (x0) (x1) (Go.IntKind.i64.wrap (x2 + (1:Int))) (true) (!r2.1.1) (x5) (Go.IntKind.i64.wrap (x6 + (1:Int))) (x7) (x8) (x9) (x10) (x11) (x12)) (none)) (none))) (cond (x4) (lL8 (x0) (x1) (Go.IntKind.i64.wrap (x2 + (1:Int))) ((List.getD (x11.getD x5.toNat (false,[],[])).2.2 x6.toNat ((0:Int),(0:Int),false,false)).2.2.1) (true) (x5) (Go.IntKind.i64.wrap (x6 + (1:Int))) (x7) (x8) (x9) (x10) (x11) (x12)) (cond (decide ((0:Int)≤x5)) (cond (decide (x5 < (↑x11.length:Int))) ((q157 n (((x11.getD x5.toNat (false,[],[])).1,(x11.getD x5.toNat (false,[],[])).2.1,(x11.getD x5.toNat (false,[],[])).2.2),x6,())).bind fun r3=>lL8 (x0) (x1) (Go.IntKind.i64.wrap (x2 + (1:Int))) ((List.getD (x11.getD x5.toNat (false,[],[])).2.2 x6.toNat ((0:Int),(0:Int),false,false)).2.2.1) (!r3.1.1) (x5) (Go.IntKind.i64.wrap (x6 + (1:Int))) (x7) (x8) (x9) (x10) (x11) (x12)) (none)) (none)))) (lL8 (x0) (x1) (x2) (x3) (x4) (x5) (Go.IntKind.i64.wrap (x6 + (1:Int))) (x7) (x8) (x9) (x10) (x11) (x12))) (lL8 (x0) (x1) (x2) (x3) (x4) (x5) (Go.IntKind.i64.wrap (x6 + (1:Int))) (x7) (x8) (x9) (x10) (x11) (x12))) (none)) (none)) (none)) (none)) (lL5 (x0) (x1) (x2) (x3) (x4) (Go.IntKind.i64.wrap (x5 + (1:Int))) (x7) (x8) (x9) (x10) (x11) (x12))) (none)) (none)
noncomputable def st120_L5 (n:Nat) (lL8:Int→Int→Int→Bool→Bool→Int→Int→(Lb)→(List Int)→(Lb)→(List Int)→(List (Bool × Lq × Lq))→Int→Option R120) (x0 x1 x2:Int) (x3 x4:Bool) (x5:Int) (x6:Lb) (x7:List Int) (x8:Lb) (x9:List Int) (x10:List (Bool × Lq × Lq)) (x11:Int):Option R120 :=
 cond (decide (x5 < (↑x10.length:Int))) (lL8 (x0) (x1) (x2) (x3) (x4) (x5) ((0:Int)) (x6) (x7) (x8) (x9) (x10) (x11)) (cond (decide (x2 < (2:Int))) (some ((true,()),())) (cond (!x3) (some ((true,()),())) (some ((!x4,()),()))))
theorem e120_top (n:Nat) (a:(Lb × List Int) × (Lb × List Int) × List (Bool × Lq × Lq) × Int) (b:Int) (c:Int):runF TT G120 an120 Try.f120 c120 ps120 rs120 n (a,b,c,())=st120_top n (fun x0 x1 x2 x3 x4 x5 x6 x7 x8 x9 x10 x11=>at120 n (.head 5) [n] (sh120_L5 x0 x1 x2 x3 x4 x5 x6 x7 x8 x9 x10 x11)) a b c:=by kernel_rfl
theorem e120_L8_0 (n:Nat) (m5:Nat) (x0 x1 x2:Int) (x3 x4:Bool) (x5 x6:Int) (x7:Lb) (x8:List Int) (x9:Lb) (x10:List Int) (x11:List (Bool × Lq × Lq)) (x12:Int):at120 n (.head 8) [m5,0] (sh120_L8 x0 x1 x2 x3 x4 x5 x6 x7 x8 x9 x10 x11 x12)=none:=by kernel_rfl
theorem e120_L8 (n:Nat) (m5:Nat) (m8:Nat) (x0 x1 x2:Int) (x3 x4:Bool) (x5 x6:Int) (x7:Lb) (x8:List Int) (x9:Lb) (x10:List Int) (x11:List (Bool × Lq × Lq)) (x12:Int):at120 n (.head 8) [m5,m8 + 1] (sh120_L8 x0 x1 x2 x3 x4 x5 x6 x7 x8 x9 x10 x11 x12)=st120_L8 n (fun x0 x1 x2 x3 x4 x5 x6 x7 x8 x9 x10 x11 x12=>at120 n (.head 8) [m5,m8] (sh120_L8 x0 x1 x2 x3 x4 x5 x6 x7 x8 x9 x10 x11 x12)) (fun x0 x1 x2 x3 x4 x5 x6 x7 x8 x9 x10 x11=>at120 n (.head 5) [m5] (sh120_L5 x0 x1 x2 x3 x4 x5 x6 x7 x8 x9 x10 x11)) x0 x1 x2 x3 x4 x5 x6 x7 x8 x9 x10 x11 x12:=by kernel_rfl
theorem e120_L5_0 (n:Nat) (x0 x1 x2:Int) (x3 x4:Bool) (x5:Int) (x6:Lb) (x7:List Int) (x8:Lb) (x9:List Int) (x10:List (Bool × Lq × Lq)) (x11:Int):at120 n (.head 5) [0] (sh120_L5 x0 x1 x2 x3 x4 x5 x6 x7 x8 x9 x10 x11)=none:=by kernel_rfl
theorem e120_L5 (n:Nat) (m5:Nat) (x0 x1 x2:Int) (x3 x4:Bool) (x5:Int) (x6:Lb) (x7:List Int) (x8:Lb) (x9:List Int) (x10:List (Bool × Lq × Lq)) (x11:Int):at120 n (.head 5) [m5 + 1] (sh120_L5 x0 x1 x2 x3 x4 x5 x6 x7 x8 x9 x10 x11)=st120_L5 n (fun x0 x1 x2 x3 x4 x5 x6 x7 x8 x9 x10 x11 x12=>at120 n (.head 8) [m5,n] (sh120_L8 x0 x1 x2 x3 x4 x5 x6 x7 x8 x9 x10 x11 x12)) x0 x1 x2 x3 x4 x5 x6 x7 x8 x9 x10 x11:=by kernel_rfl
noncomputable def p120_L8 (g5:Int→Int→Int→Bool→Bool→Int→(Lb)→(List Int)→(Lb)→(List Int)→(List (Bool × Lq × Lq))→Int→Option R120) (n:Nat):Nat→Int→Int→Int→Bool→Bool→Int→Int→(Lb)→(List Int)→(Lb)→(List Int)→(List (Bool × Lq × Lq))→Int→Option R120
 | 0,_,_,_,_,_,_,_,_,_,_,_,_,_=>none
 | m + 1,x0,x1,x2,x3,x4,x5,x6,x7,x8,x9,x10,x11,x12=>st120_L8 n (p120_L8 g5 n m) g5 x0 x1 x2 x3 x4 x5 x6 x7 x8 x9 x10 x11 x12
noncomputable def p120_L5 (n:Nat):Nat→Int→Int→Int→Bool→Bool→Int→(Lb)→(List Int)→(Lb)→(List Int)→(List (Bool × Lq × Lq))→Int→Option R120
 | 0,_,_,_,_,_,_,_,_,_,_,_,_=>none
 | m + 1,x0,x1,x2,x3,x4,x5,x6,x7,x8,x9,x10,x11=>st120_L5 n (p120_L8 (p120_L5 n m) n n) x0 x1 x2 x3 x4 x5 x6 x7 x8 x9 x10 x11
noncomputable def p120 (n:Nat) (a:(Lb × List Int) × (Lb × List Int) × List (Bool × Lq × Lq) × Int) (b:Int) (c:Int):Option R120:=st120_top n (p120_L5 n n) a b c
theorem t120_L8 (n:Nat) (m5:Nat):∀ (m8:Nat) (x0 x1 x2:Int) (x3 x4:Bool) (x5 x6:Int) (x7:Lb) (x8:List Int) (x9:Lb) (x10:List Int) (x11:List (Bool × Lq × Lq)) (x12:Int),at120 n (.head 8) [m5,m8] (sh120_L8 x0 x1 x2 x3 x4 x5 x6 x7 x8 x9 x10 x11 x12)=p120_L8 (fun x0 x1 x2 x3 x4 x5 x6 x7 x8 x9 x10 x11=>at120 n (.head 5) [m5] (sh120_L5 x0 x1 x2 x3 x4 x5 x6 x7 x8 x9 x10 x11)) n m8 x0 x1 x2 x3 x4 x5 x6 x7 x8 x9 x10 x11 x12:=by
 intro m
 induction m with
 | zero=>intros; rw [e120_L8_0]; rfl
 | succ m ih =>
  intros
  rw [e120_L8]
  try simp only [ih]
  rfl
theorem t120_L5 (n:Nat):∀ (m5:Nat) (x0 x1 x2:Int) (x3 x4:Bool) (x5:Int) (x6:Lb) (x7:List Int) (x8:Lb) (x9:List Int) (x10:List (Bool × Lq × Lq)) (x11:Int),at120 n (.head 5) [m5] (sh120_L5 x0 x1 x2 x3 x4 x5 x6 x7 x8 x9 x10 x11)=p120_L5 n m5 x0 x1 x2 x3 x4 x5 x6 x7 x8 x9 x10 x11:=by
 intro m
 induction m with
 | zero=>intros; rw [e120_L5_0]; rfl
 | succ m ih =>
  intros
  rw [e120_L5]
  try simp only [t120_L8,ih]
  rfl
theorem F120_eq (n:Nat) (a:(Lb × List Int) × (Lb × List Int) × List (Bool × Lq × Lq) × Int) (b:Int) (c:Int):runF TT G120 an120 Try.f120 c120 ps120 rs120 n (a,b,c,())=p120 n a b c:=by
 rw [e120_top]
 simp only [t120_L5]
 try rfl
noncomputable def q120 (n:Nat) (x:argsD ps120):Option R120:=p120 n x.1 x.2.1 x.2.2.1
noncomputable def Sm120:Sm:=⟨ps120,rs120,false,q120⟩
theorem holds120 (hg:GamOK Try.prog G120):Holds Try.prog 120 Sm120:=by
 have:=h0_120 hg
 have e:(runF TT G120 an120 Try.f120 c120 ps120 rs120)=q120:=by
  funext n x
  exact F120_eq n x.1 x.2.1 x.2.2.1
 rw [e] at this
 exact this
theorem gam120:GamOK Try.prog G120:=by
 intro f s h
 unfold G120 at h
 split at h
 ·injection h with h; subst h; exact ⟨⟨Try.f157,c157,Try.func157,by kernel_rfl,by decide +kernel⟩,hh157⟩
 ·cases h
theorem hh120:Holds Try.prog 120 Sm120:=holds120 gam120
end Go.Proofs.Ytdkaagpkeomhmaa.Rx.S

namespace Go.Proofs.Ytdkaagpkeomhmaa.Rx.S
open Go Go.RowKit Go.Proofs
set_option maxRecDepth 100000
noncomputable def c53:Code:=(Try.f53.body.getD .skip)
def an53:An:=⟨fun r=>match r with | 4=>⟨[1,3],[]⟩ | 9=>⟨[1,3,4],[]⟩ | 18=>⟨[1,7],[]⟩ | 23=>⟨[1,8],[]⟩ | _=>⟨[],[]⟩,fun _ _=>none⟩
abbrev ps53:List PK:=[.val tMem true]
abbrev rs53:List RK:=[.val .bool false]
abbrev R53:=retsD rs53 × outsD ps53
noncomputable def G53:Gam:=fun f=>match f with | 69=>some Sm69 | 117=>some Sm117 | 118=>some Sm118 | 119=>some Sm119 | 120=>some Sm120 | _=>none
theorem h0_53 (hg:GamOK Try.prog G53):Holds Try.prog 53 ⟨ps53,rs53,false,runF TT G53 an53 Try.f53 c53 ps53 rs53⟩:=holds_of tt_ok hg mixed Try.func53 (by kernel_rfl) (by rfl) (by decide +kernel)
noncomputable def at53:Nat→Pt→List Nat→St→Option R53:=atF TT G53 an53 Try.f53 c53 _ _
def sh53_L9 (x0 x1:Int) (x2:Lb) (x3:List Int) (x4:Lb) (x5:List Int) (x6:List (Bool × Lq × Lq)) (x7:Int):St:=(St.mk [Uu,AV.one (SV.bptr 1000000 0),Uu,AV.one (SV.int (Go.IntKind.i64) x0),AV.one (SV.int (Go.IntKind.i64) x1),Uu,Uu,Uu,Uu,Uu,Uu,Uu,Uu,Uu,Uu,Uu,Uu,Uu,Uu,Uu,Uu,Uu,Uu,Uu,Uu,Uu,Uu,Uu,Uu,Uu,Uu,Uu,Uu,Uu,Uu,Uu,Uu,Uu,Uu,Uu,Uu,Uu,Uu,Uu,Uu,Uu,Uu,Uu,Uu,Uu,Uu,Uu,Uu,Uu,Uu,Uu,Uu,Uu,Uu,Uu,Uu,Uu,Uu,Uu,Uu,Uu,Uu,Uu,Uu,Uu,Uu,Uu,Uu,Uu,Uu,Uu,Uu,Uu,Uu,Uu,Uu,Uu,Uu,Uu,Uu,Uu,Uu,Uu,Uu,Uu,Uu,Uu,Uu,Uu,Uu,Uu,Uu,Uu,Uu,Uu,Uu,Uu,Uu,Uu,Uu,Uu,Uu,Uu,Uu,Uu,Uu,Uu,Uu,Uu,Uu,Uu,Uu,Uu,Uu,Uu,Uu,Uu,Uu,Uu,Uu,Uu,Uu,Uu,Uu,Uu] ((1000000,(Ent.box ((SV.con (⟨9,Ty.str,x2⟩:Rw)) :: ((SV.con (⟨3,Ty.int Go.IntKind.i64,x3⟩:Rw)) :: ((SV.con (⟨9,Ty.str,x4⟩:Rw)) :: ((SV.con (⟨3,Ty.int Go.IntKind.i64,x5⟩:Rw)) :: ((SV.con (⟨71,Ty.bool.pair ((Ty.row (nat_lit 116) ((Ty.int Go.IntKind.i64).pair ((Ty.int Go.IntKind.i64).pair (Ty.bool.pair Ty.bool)))).pair (Ty.row (nat_lit 80) ((Ty.int Go.IntKind.i64).pair ((Ty.int Go.IntKind.i64).pair (Ty.bool.pair Ty.bool))))),x6⟩:Rw)) :: ((SV.int (Go.IntKind.i64) x7) :: [])))))))) :: []))
def sh53_L23 (x0:Int) (x1:Lb) (x2:List Int) (x3:Lb) (x4:List Int) (x5:List (Bool × Lq × Lq)) (x6:Int):St:=(St.mk [Uu,AV.one (SV.bptr 1000000 0),Uu,Uu,Uu,Uu,Uu,Uu,AV.one (SV.int (Go.IntKind.i64) x0),Uu,Uu,Uu,Uu,Uu,Uu,Uu,Uu,Uu,Uu,Uu,Uu,Uu,Uu,Uu,Uu,Uu,Uu,Uu,Uu,Uu,Uu,Uu,Uu,Uu,Uu,Uu,Uu,Uu,Uu,Uu,Uu,Uu,Uu,Uu,Uu,Uu,Uu,Uu,Uu,Uu,Uu,Uu,Uu,Uu,Uu,Uu,Uu,Uu,Uu,Uu,Uu,Uu,Uu,Uu,Uu,Uu,Uu,Uu,Uu,Uu,Uu,Uu,Uu,Uu,Uu,Uu,Uu,Uu,Uu,Uu,Uu,Uu,Uu,Uu,Uu,Uu,Uu,Uu,Uu,Uu,Uu,Uu,Uu,Uu,Uu,Uu,Uu,Uu,Uu,Uu,Uu,Uu,Uu,Uu,Uu,Uu,Uu,Uu,Uu,Uu,Uu,Uu,Uu,Uu,Uu,Uu,Uu,Uu,Uu,Uu,Uu,Uu,Uu,Uu,Uu,Uu,Uu,Uu,Uu,Uu] ((1000000,(Ent.box ((SV.con (⟨9,Ty.str,x1⟩:Rw)) :: ((SV.con (⟨3,Ty.int Go.IntKind.i64,x2⟩:Rw)) :: ((SV.con (⟨9,Ty.str,x3⟩:Rw)) :: ((SV.con (⟨3,Ty.int Go.IntKind.i64,x4⟩:Rw)) :: ((SV.con (⟨71,Ty.bool.pair ((Ty.row (nat_lit 116) ((Ty.int Go.IntKind.i64).pair ((Ty.int Go.IntKind.i64).pair (Ty.bool.pair Ty.bool)))).pair (Ty.row (nat_lit 80) ((Ty.int Go.IntKind.i64).pair ((Ty.int Go.IntKind.i64).pair (Ty.bool.pair Ty.bool))))),x5⟩:Rw)) :: ((SV.int (Go.IntKind.i64) x6) :: [])))))))) :: []))
def sh53_L18 (x0:Int) (x1:Lb) (x2:List Int) (x3:Lb) (x4:List Int) (x5:List (Bool × Lq × Lq)) (x6:Int):St:=(St.mk [Uu,AV.one (SV.bptr 1000000 0),Uu,Uu,Uu,Uu,Uu,AV.one (SV.int (Go.IntKind.i64) x0),Uu,Uu,Uu,Uu,Uu,Uu,Uu,Uu,Uu,Uu,Uu,Uu,Uu,Uu,Uu,Uu,Uu,Uu,Uu,Uu,Uu,Uu,Uu,Uu,Uu,Uu,Uu,Uu,Uu,Uu,Uu,Uu,Uu,Uu,Uu,Uu,Uu,Uu,Uu,Uu,Uu,Uu,Uu,Uu,Uu,Uu,Uu,Uu,Uu,Uu,Uu,Uu,Uu,Uu,Uu,Uu,Uu,Uu,Uu,Uu,Uu,Uu,Uu,Uu,Uu,Uu,Uu,Uu,Uu,Uu,Uu,Uu,Uu,Uu,Uu,Uu,Uu,Uu,Uu,Uu,Uu,Uu,Uu,Uu,Uu,Uu,Uu,Uu,Uu,Uu,Uu,Uu,Uu,Uu,Uu,Uu,Uu,Uu,Uu,Uu,Uu,Uu,Uu,Uu,Uu,Uu,Uu,Uu,Uu,Uu,Uu,Uu,Uu,Uu,Uu,Uu,Uu,Uu,Uu,Uu,Uu,Uu] ((1000000,(Ent.box ((SV.con (⟨9,Ty.str,x1⟩:Rw)) :: ((SV.con (⟨3,Ty.int Go.IntKind.i64,x2⟩:Rw)) :: ((SV.con (⟨9,Ty.str,x3⟩:Rw)) :: ((SV.con (⟨3,Ty.int Go.IntKind.i64,x4⟩:Rw)) :: ((SV.con (⟨71,Ty.bool.pair ((Ty.row (nat_lit 116) ((Ty.int Go.IntKind.i64).pair ((Ty.int Go.IntKind.i64).pair (Ty.bool.pair Ty.bool)))).pair (Ty.row (nat_lit 80) ((Ty.int Go.IntKind.i64).pair ((Ty.int Go.IntKind.i64).pair (Ty.bool.pair Ty.bool))))),x5⟩:Rw)) :: ((SV.int (Go.IntKind.i64) x6) :: [])))))))) :: []))
def sh53_L4 (x0:Int) (x1:Lb) (x2:List Int) (x3:Lb) (x4:List Int) (x5:List (Bool × Lq × Lq)) (x6:Int):St:=(St.mk [Uu,AV.one (SV.bptr 1000000 0),Uu,AV.one (SV.int (Go.IntKind.i64) x0),Uu,Uu,Uu,Uu,Uu,Uu,Uu,Uu,Uu,Uu,Uu,Uu,Uu,Uu,Uu,Uu,Uu,Uu,Uu,Uu,Uu,Uu,Uu,Uu,Uu,Uu,Uu,Uu,Uu,Uu,Uu,Uu,Uu,Uu,Uu,Uu,Uu,Uu,Uu,Uu,Uu,Uu,Uu,Uu,Uu,Uu,Uu,Uu,Uu,Uu,Uu,Uu,Uu,Uu,Uu,Uu,Uu,Uu,Uu,Uu,Uu,Uu,Uu,Uu,Uu,Uu,Uu,Uu,Uu,Uu,Uu,Uu,Uu,Uu,Uu,Uu,Uu,Uu,Uu,Uu,Uu,Uu,Uu,Uu,Uu,Uu,Uu,Uu,Uu,Uu,Uu,Uu,Uu,Uu,Uu,Uu,Uu,Uu,Uu,Uu,Uu,Uu,Uu,Uu,Uu,Uu,Uu,Uu,Uu,Uu,Uu,Uu,Uu,Uu,Uu,Uu,Uu,Uu,Uu,Uu,Uu,Uu,Uu,Uu,Uu,Uu] ((1000000,(Ent.box ((SV.con (⟨9,Ty.str,x1⟩:Rw)) :: ((SV.con (⟨3,Ty.int Go.IntKind.i64,x2⟩:Rw)) :: ((SV.con (⟨9,Ty.str,x3⟩:Rw)) :: ((SV.con (⟨3,Ty.int Go.IntKind.i64,x4⟩:Rw)) :: ((SV.con (⟨71,Ty.bool.pair ((Ty.row (nat_lit 116) ((Ty.int Go.IntKind.i64).pair ((Ty.int Go.IntKind.i64).pair (Ty.bool.pair Ty.bool)))).pair (Ty.row (nat_lit 80) ((Ty.int Go.IntKind.i64).pair ((Ty.int Go.IntKind.i64).pair (Ty.bool.pair Ty.bool))))),x5⟩:Rw)) :: ((SV.int (Go.IntKind.i64) x6) :: [])))))))) :: []))
noncomputable def st53_top (n:Nat) (lL4:Int→(Lb)→(List Int)→(Lb)→(List Int)→(List (Bool × Lq × Lq))→Int→Option R53) (a:(Lb × List Int) × (Lb × List Int) × List (Bool × Lq × Lq) × Int):Option R53 :=
 (q117 n ((a.1.1,a.1.2),())).bind fun r0=>cond (!r0.1.1) (some ((false,()),())) ((q117 n ((a.2.1.1,a.2.1.2),())).bind fun r1=>cond (!r1.1.1) (some ((false,()),())) (cond (!decide ((↑(List.length a.1.2):Int)=(12:Int))) (some ((false,()),())) (cond (!decide ((↑(List.length a.2.1.2):Int)=(12:Int))) (some ((false,()),())) (cond (!decide ((↑(List.length a.2.2.1):Int)=(5:Int))) (some ((false,()),())) ((q69 n (a.2.2.2,(0:Int),(11:Int),())).bind fun r2=>cond (!r2.1.1) (some ((false,()),())) (lL4 ((0:Int)) (a.1.1) (a.1.2) (a.2.1.1) (a.2.1.2) (a.2.2.1) (a.2.2.2)))))))
noncomputable def st53_L9 (n:Nat) (lL9:Int→Int→(Lb)→(List Int)→(Lb)→(List Int)→(List (Bool × Lq × Lq))→Int→Option R53) (lL4:Int→(Lb)→(List Int)→(Lb)→(List Int)→(List (Bool × Lq × Lq))→Int→Option R53) (x0 x1:Int) (x2:Lb) (x3:List Int) (x4:Lb) (x5:List Int) (x6:List (Bool × Lq × Lq)) (x7:Int):Option R53 :=
 cond (decide ((0:Int)≤x0)) (cond (decide (x0 < (↑x6.length:Int))) (cond (decide (x1 < (↑(List.length (x6.getD x0.toNat (false,[],[])).2.2):Int))) (cond (decide ((0:Int)≤x0)) (cond (decide (x0 < (↑x6.length:Int))) (cond (decide ((0:Int)≤x1)) (cond (decide (x1 < (↑(List.length (x6.getD x0.toNat (false,[],[])).2.2):Int))) (cond (decide ((List.getD (x6.getD x0.toNat (false,[],[])).2.2 x1.toNat ((0:Int),(0:Int),false,false)).1=(2:Int))) (cond (!decide ((List.getD (x6.getD x0.toNat (false,[],[])).2.2 x1.toNat ((0:Int),(0:Int),false,false)).1=(0:Int))) ((q69 n ((List.getD (x6.getD x0.toNat (false,[],[])).2.2 x1.toNat ((0:Int),(0:Int),false,false)).2.1,(0:Int),Go.IntKind.i64.wrap ((12:Int) - (1:Int)),())).bind fun r6=>cond (!r6.1.1) (some ((false,()),())) (lL9 (x0) (Go.IntKind.i64.wrap (x1 + (1:Int))) (x2) (x3) (x4) (x5) (x6) (x7))) (lL9 (x0) (Go.IntKind.i64.wrap (x1 + (1:Int))) (x2) (x3) (x4) (x5) (x6) (x7))) (cond (!decide ((List.getD (x6.getD x0.toNat (false,[],[])).2.2 x1.toNat ((0:Int),(0:Int),false,false)).1=(0:Int))) ((q69 n ((List.getD (x6.getD x0.toNat (false,[],[])).2.2 x1.toNat ((0:Int),(0:Int),false,false)).2.1,(0:Int),Go.IntKind.i64.wrap ((12:Int) - (1:Int)),())).bind fun r7=>cond (!r7.1.1) (some ((false,()),())) (lL9 (x0) (Go.IntKind.i64.wrap (x1 + (1:Int))) (x2) (x3) (x4) (x5) (x6) (x7))) (lL9 (x0) (Go.IntKind.i64.wrap (x1 + (1:Int))) (x2) (x3) (x4) (x5) (x6) (x7)))) (none)) (none)) (none)) (none)) (lL4 (Go.IntKind.i64.wrap (x0 + (1:Int))) (x2) (x3) (x4) (x5) (x6) (x7))) (none)) (none)
noncomputable def st53_L23 (n:Nat) (lL23:Int→(Lb)→(List Int)→(Lb)→(List Int)→(List (Bool × Lq × Lq))→Int→Option R53) (x0:Int) (x1:Lb) (x2:List Int) (x3:Lb) (x4:List Int) (x5:List (Bool × Lq × Lq)) (x6:Int):Option R53 :=
 cond (decide (x0 < (12:Int))) ((q119 n (((x1,x2),(x3,x4),x5,x6),(2:Int),x0,())).bind fun r12=>cond (decide ((0:Int)≤x0)) (cond (decide (x0 < (↑x4.length:Int))) (cond (!decide (r12.1.1=x4.getD x0.toNat (0:Int))) (some ((false,()),())) ((q120 n (((x1,x2),(x3,x4),x5,x6),(2:Int),x0,())).bind fun r13=>cond (!r13.1.1) (some ((false,()),())) (lL23 (Go.IntKind.i64.wrap (x0 + (1:Int))) (x1) (x2) (x3) (x4) (x5) (x6)))) (none)) (none)) (some ((true,()),()))
noncomputable def st53_L18 (n:Nat) (lL18:Int→(Lb)→(List Int)→(Lb)→(List Int)→(List (Bool × Lq × Lq))→Int→Option R53) (lL23:Int→(Lb)→(List Int)→(Lb)→(List Int)→(List (Bool × Lq × Lq))→Int→Option R53) (x0:Int) (x1:Lb) (x2:List Int) (x3:Lb) (x4:List Int) (x5:List (Bool × Lq × Lq)) (x6:Int):Option R53 :=
 cond (decide (x0 < (12:Int))) ((q119 n (((x1,x2),(x3,x4),x5,x6),(1:Int),x0,())).bind fun r9=>cond (decide ((0:Int)≤x0)) (cond (decide (x0 < (↑x2.length:Int))) (cond (!decide (r9.1.1=x2.getD x0.toNat (0:Int))) (some ((false,()),())) ((q120 n (((x1,x2),(x3,x4),x5,x6),(1:Int),x0,())).bind fun r10=>cond (!r10.1.1) (some ((false,()),())) (lL18 (Go.IntKind.i64.wrap (x0 + (1:Int))) (x1) (x2) (x3) (x4) (x5) (x6)))) (none)) (none)) (lL23 ((0:Int)) (x1) (x2) (x3) (x4) (x5) (x6))
noncomputable def st53_L4 (n:Nat) (lL9:Int→Int→(Lb)→(List Int)→(Lb)→(List Int)→(List (Bool × Lq × Lq))→Int→Option R53) (lL18:Int→(Lb)→(List Int)→(Lb)→(List Int)→(List (Bool × Lq × Lq))→Int→Option R53) (x0:Int) (x1:Lb) (x2:List Int) (x3:Lb) (x4:List Int) (x5:List (Bool × Lq × Lq)) (x6:Int):Option R53 :=
 cond (decide (x0 < (5:Int))) (cond (decide ((0:Int)≤x0)) (cond (decide (x0 < (↑x5.length:Int))) ((q118 n (((x5.getD x0.toNat (false,[],[])).1,(x5.getD x0.toNat (false,[],[])).2.1,(x5.getD x0.toNat (false,[],[])).2.2),())).bind fun r4=>cond (!r4.1.1) (some ((false,()),())) (lL9 (x0) ((0:Int)) (x1) (x2) (x3) (x4) (x5) (x6))) (none)) (none)) (lL18 ((0:Int)) (x1) (x2) (x3) (x4) (x5) (x6))
theorem e53_top (n:Nat) (a:(Lb × List Int) × (Lb × List Int) × List (Bool × Lq × Lq) × Int):runF TT G53 an53 Try.f53 c53 ps53 rs53 n (a,())=st53_top n (fun x0 x1 x2 x3 x4 x5 x6=>at53 n (.head 4) [n] (sh53_L4 x0 x1 x2 x3 x4 x5 x6)) a:=by kernel_rfl
theorem e53_L9_0 (n:Nat) (m4:Nat) (x0 x1:Int) (x2:Lb) (x3:List Int) (x4:Lb) (x5:List Int) (x6:List (Bool × Lq × Lq)) (x7:Int):at53 n (.head 9) [m4,0] (sh53_L9 x0 x1 x2 x3 x4 x5 x6 x7)=none:=by kernel_rfl
theorem e53_L9 (n:Nat) (m4:Nat) (m9:Nat) (x0 x1:Int) (x2:Lb) (x3:List Int) (x4:Lb) (x5:List Int) (x6:List (Bool × Lq × Lq)) (x7:Int):at53 n (.head 9) [m4,m9 + 1] (sh53_L9 x0 x1 x2 x3 x4 x5 x6 x7)=st53_L9 n (fun x0 x1 x2 x3 x4 x5 x6 x7=>at53 n (.head 9) [m4,m9] (sh53_L9 x0 x1 x2 x3 x4 x5 x6 x7)) (fun x0 x1 x2 x3 x4 x5 x6=>at53 n (.head 4) [m4] (sh53_L4 x0 x1 x2 x3 x4 x5 x6)) x0 x1 x2 x3 x4 x5 x6 x7:=by kernel_rfl
theorem e53_L23_0 (n:Nat) (x0:Int) (x1:Lb) (x2:List Int) (x3:Lb) (x4:List Int) (x5:List (Bool × Lq × Lq)) (x6:Int):at53 n (.head 23) [0] (sh53_L23 x0 x1 x2 x3 x4 x5 x6)=none:=by kernel_rfl
theorem e53_L23 (n:Nat) (m23:Nat) (x0:Int) (x1:Lb) (x2:List Int) (x3:Lb) (x4:List Int) (x5:List (Bool × Lq × Lq)) (x6:Int):at53 n (.head 23) [m23 + 1] (sh53_L23 x0 x1 x2 x3 x4 x5 x6)=st53_L23 n (fun x0 x1 x2 x3 x4 x5 x6=>at53 n (.head 23) [m23] (sh53_L23 x0 x1 x2 x3 x4 x5 x6)) x0 x1 x2 x3 x4 x5 x6:=by kernel_rfl
theorem e53_L18_0 (n:Nat) (x0:Int) (x1:Lb) (x2:List Int) (x3:Lb) (x4:List Int) (x5:List (Bool × Lq × Lq)) (x6:Int):at53 n (.head 18) [0] (sh53_L18 x0 x1 x2 x3 x4 x5 x6)=none:=by kernel_rfl
theorem e53_L18 (n:Nat) (m18:Nat) (x0:Int) (x1:Lb) (x2:List Int) (x3:Lb) (x4:List Int) (x5:List (Bool × Lq × Lq)) (x6:Int):at53 n (.head 18) [m18 + 1] (sh53_L18 x0 x1 x2 x3 x4 x5 x6)=st53_L18 n (fun x0 x1 x2 x3 x4 x5 x6=>at53 n (.head 18) [m18] (sh53_L18 x0 x1 x2 x3 x4 x5 x6)) (fun x0 x1 x2 x3 x4 x5 x6=>at53 n (.head 23) [n] (sh53_L23 x0 x1 x2 x3 x4 x5 x6)) x0 x1 x2 x3 x4 x5 x6:=by kernel_rfl
theorem e53_L4_0 (n:Nat) (x0:Int) (x1:Lb) (x2:List Int) (x3:Lb) (x4:List Int) (x5:List (Bool × Lq × Lq)) (x6:Int):at53 n (.head 4) [0] (sh53_L4 x0 x1 x2 x3 x4 x5 x6)=none:=by kernel_rfl
theorem e53_L4 (n:Nat) (m4:Nat) (x0:Int) (x1:Lb) (x2:List Int) (x3:Lb) (x4:List Int) (x5:List (Bool × Lq × Lq)) (x6:Int):at53 n (.head 4) [m4 + 1] (sh53_L4 x0 x1 x2 x3 x4 x5 x6)=st53_L4 n (fun x0 x1 x2 x3 x4 x5 x6 x7=>at53 n (.head 9) [m4,n] (sh53_L9 x0 x1 x2 x3 x4 x5 x6 x7)) (fun x0 x1 x2 x3 x4 x5 x6=>at53 n (.head 18) [n] (sh53_L18 x0 x1 x2 x3 x4 x5 x6)) x0 x1 x2 x3 x4 x5 x6:=by kernel_rfl
noncomputable def p53_L9 (g4:Int→(Lb)→(List Int)→(Lb)→(List Int)→(List (Bool × Lq × Lq))→Int→Option R53) (n:Nat):Nat→Int→Int→(Lb)→(List Int)→(Lb)→(List Int)→(List (Bool × Lq × Lq))→Int→Option R53
 | 0,_,_,_,_,_,_,_,_=>none
 | m + 1,x0,x1,x2,x3,x4,x5,x6,x7=>st53_L9 n (p53_L9 g4 n m) g4 x0 x1 x2 x3 x4 x5 x6 x7
noncomputable def p53_L23 (n:Nat):Nat→Int→(Lb)→(List Int)→(Lb)→(List Int)→(List (Bool × Lq × Lq))→Int→Option R53
 | 0,_,_,_,_,_,_,_=>none
 | m + 1,x0,x1,x2,x3,x4,x5,x6=>st53_L23 n (p53_L23 n m) x0 x1 x2 x3 x4 x5 x6
noncomputable def p53_L18 (n:Nat):Nat→Int→(Lb)→(List Int)→(Lb)→(List Int)→(List (Bool × Lq × Lq))→Int→Option R53
 | 0,_,_,_,_,_,_,_=>none
 | m + 1,x0,x1,x2,x3,x4,x5,x6=>st53_L18 n (p53_L18 n m) (p53_L23 n n) x0 x1 x2 x3 x4 x5 x6
noncomputable def p53_L4 (n:Nat):Nat→Int→(Lb)→(List Int)→(Lb)→(List Int)→(List (Bool × Lq × Lq))→Int→Option R53
 | 0,_,_,_,_,_,_,_=>none
 | m + 1,x0,x1,x2,x3,x4,x5,x6=>st53_L4 n (p53_L9 (p53_L4 n m) n n) (p53_L18 n n) x0 x1 x2 x3 x4 x5 x6
noncomputable def p53 (n:Nat) (a:(Lb × List Int) × (Lb × List Int) × List (Bool × Lq × Lq) × Int):Option R53:=st53_top n (p53_L4 n n) a
theorem t53_L9 (n:Nat) (m4:Nat):∀ (m9:Nat) (x0 x1:Int) (x2:Lb) (x3:List Int) (x4:Lb) (x5:List Int) (x6:List (Bool × Lq × Lq)) (x7:Int),at53 n (.head 9) [m4,m9] (sh53_L9 x0 x1 x2 x3 x4 x5 x6 x7)=p53_L9 (fun x0 x1 x2 x3 x4 x5 x6=>at53 n (.head 4) [m4] (sh53_L4 x0 x1 x2 x3 x4 x5 x6)) n m9 x0 x1 x2 x3 x4 x5 x6 x7:=by
 intro m
 induction m with
 | zero=>intros; rw [e53_L9_0]; rfl
 | succ m ih =>
  intros
  rw [e53_L9]
  try simp only [ih]
  rfl
theorem t53_L23 (n:Nat):∀ (m23:Nat) (x0:Int) (x1:Lb) (x2:List Int) (x3:Lb) (x4:List Int) (x5:List (Bool × Lq × Lq)) (x6:Int),at53 n (.head 23) [m23] (sh53_L23 x0 x1 x2 x3 x4 x5 x6)=p53_L23 n m23 x0 x1 x2 x3 x4 x5 x6:=by
 intro m
 induction m with
 | zero=>intros; rw [e53_L23_0]; rfl
 | succ m ih =>
  intros
  rw [e53_L23]
  try simp only [ih]
  rfl
theorem t53_L18 (n:Nat):∀ (m18:Nat) (x0:Int) (x1:Lb) (x2:List Int) (x3:Lb) (x4:List Int) (x5:List (Bool × Lq × Lq)) (x6:Int),at53 n (.head 18) [m18] (sh53_L18 x0 x1 x2 x3 x4 x5 x6)=p53_L18 n m18 x0 x1 x2 x3 x4 x5 x6:=by
 intro m
 induction m with
 | zero=>intros; rw [e53_L18_0]; rfl
 | succ m ih =>
  intros
  rw [e53_L18]
  try simp only [t53_L23,ih]
  rfl
theorem t53_L4 (n:Nat):∀ (m4:Nat) (x0:Int) (x1:Lb) (x2:List Int) (x3:Lb) (x4:List Int) (x5:List (Bool × Lq × Lq)) (x6:Int),at53 n (.head 4) [m4] (sh53_L4 x0 x1 x2 x3 x4 x5 x6)=p53_L4 n m4 x0 x1 x2 x3 x4 x5 x6:=by
 intro m
 induction m with
 | zero=>intros; rw [e53_L4_0]; rfl
 | succ m ih =>
  intros
  rw [e53_L4]
  try simp only [t53_L9,t53_L18,ih]
  rfl
theorem F53_eq (n:Nat) (a:(Lb × List Int) × (Lb × List Int) × List (Bool × Lq × Lq) × Int):runF TT G53 an53 Try.f53 c53 ps53 rs53 n (a,())=p53 n a:=by
 rw [e53_top]
 simp only [t53_L4]
 try rfl
noncomputable def q53 (n:Nat) (x:argsD ps53):Option R53:=p53 n x.1
noncomputable def Sm53:Sm:=⟨ps53,rs53,false,q53⟩
theorem holds53 (hg:GamOK Try.prog G53):Holds Try.prog 53 Sm53:=by
 have:=h0_53 hg
 have e:(runF TT G53 an53 Try.f53 c53 ps53 rs53)=q53:=by
  funext n x
  exact F53_eq n x.1
 rw [e] at this
 exact this
theorem gam53:GamOK Try.prog G53:=by
 intro f s h
 unfold G53 at h
 split at h
 ·injection h with h; subst h; exact ⟨⟨Try.f69,c69,Try.func69,by kernel_rfl,by decide +kernel⟩,hh69⟩
 ·injection h with h; subst h; exact ⟨⟨Try.f117,c117,Try.func117,by kernel_rfl,by decide +kernel⟩,hh117⟩
 ·injection h with h; subst h; exact ⟨⟨Try.f118,c118,Try.func118,by kernel_rfl,by decide +kernel⟩,hh118⟩
 ·injection h with h; subst h; exact ⟨⟨Try.f119,c119,Try.func119,by kernel_rfl,by decide +kernel⟩,hh119⟩
 ·injection h with h; subst h; exact ⟨⟨Try.f120,c120,Try.func120,by kernel_rfl,by decide +kernel⟩,hh120⟩
 ·cases h
theorem hh53:Holds Try.prog 53 Sm53:=holds53 gam53
end Go.Proofs.Ytdkaagpkeomhmaa.Rx.S

namespace Go.Proofs.Ytdkaagpkeomhmaa.Rx.S
open Go Go.RowKit Go.Proofs
set_option maxRecDepth 100000
noncomputable def c123:Code:=(Try.f123.body.getD .skip)
def an123:An:=⟨fun _=>⟨[],[]⟩,fun _ _=>none⟩
abbrev ps123:List PK:=[.val tPg true]
abbrev rs123:List RK:=[.own tPg true]
abbrev R123:=retsD rs123 × outsD ps123
noncomputable def G123:Gam:=fun _=>none
theorem h0_123 (hg:GamOK Try.prog G123):Holds Try.prog 123 ⟨ps123,rs123,false,runF TT G123 an123 Try.f123 c123 ps123 rs123⟩:=holds_of tt_ok hg mixed Try.func123 (by kernel_rfl) (by rfl) (by decide +kernel)
noncomputable def st123_top (n:Nat) (a:Lb × List Int):Option R123 :=
 cond (decide (((0:Nat) + List.length a.1) * (16:Nat)≤(140737488355328:Nat))) (cond (decide (((0:Nat) + List.length a.2) * (8:Nat)≤(140737488355328:Nat))) (some (((a.1,a.2),()),())) (none)) (none)
theorem e123_top (n:Nat) (a:Lb × List Int):runF TT G123 an123 Try.f123 c123 ps123 rs123 n (a,())=st123_top n a:=by kernel_rfl
noncomputable def p123 (n:Nat) (a:Lb × List Int):Option R123:=st123_top n a
theorem F123_eq (n:Nat) (a:Lb × List Int):runF TT G123 an123 Try.f123 c123 ps123 rs123 n (a,())=p123 n a:=by
 rw [e123_top]
 skip
 try rfl
noncomputable def q123 (n:Nat) (x:argsD ps123):Option R123:=p123 n x.1
noncomputable def Sm123:Sm:=⟨ps123,rs123,false,q123⟩
theorem holds123 (hg:GamOK Try.prog G123):Holds Try.prog 123 Sm123:=by
 have:=h0_123 hg
 have e:(runF TT G123 an123 Try.f123 c123 ps123 rs123)=q123:=by
  funext n x
  exact F123_eq n x.1
 rw [e] at this
 exact this
theorem gam123:GamOK Try.prog G123:=fun _ _ h=>by cases h
theorem hh123:Holds Try.prog 123 Sm123:=holds123 gam123
end Go.Proofs.Ytdkaagpkeomhmaa.Rx.S

namespace Go.Proofs.Ytdkaagpkeomhmaa.Rx.S
open Go Go.RowKit Go.Proofs
set_option maxRecDepth 100000
noncomputable def c56:Code:=(Try.f56.body.getD .skip)
def an56:An:=⟨fun r=>match r with | 3=>⟨[1,2,3,4],[]⟩ | _=>⟨[],[]⟩,fun _ _=>none⟩
abbrev ps56:List PK:=[.val tMem true]
abbrev rs56:List RK:=[.own tMem true]
abbrev R56:=retsD rs56 × outsD ps56
noncomputable def G56:Gam:=fun f=>match f with | 123=>some Sm123 | _=>none
theorem h0_56 (hg:GamOK Try.prog G56):Holds Try.prog 56 ⟨ps56,rs56,false,runF TT G56 an56 Try.f56 c56 ps56 rs56⟩:=holds_of tt_ok hg mixed Try.func56 (by kernel_rfl) (by rfl) (by decide +kernel)
noncomputable def at56:Nat→Pt→List Nat→St→Option R56:=atF TT G56 an56 Try.f56 c56 _ _
def sh56_L3 (x0:Int) (x1:Lb) (x2:List Int) (x3:Lb) (x4:List Int) (x5:List (Bool × Lq × Lq)) (x6 x7 x8:Int) (x9:Lb) (x10:List Int) (x11:Lb) (x12:List Int) (x13:List (Bool × Lq × Lq)):St:=(St.mk [Uu,AV.one (SV.bptr 1000000 0),AV.one (SV.bptr 1000001 0),AV.one (SV.bptr 1000002 0),AV.one (SV.int (Go.IntKind.i64) x0),Uu,Uu,Uu,Uu,Uu,Uu,Uu,Uu,Uu,Uu,Uu,Uu,Uu,Uu,Uu,Uu,Uu,Uu,Uu,Uu,Uu,Uu,Uu,Uu,Uu,Uu,Uu,Uu,Uu,Uu,Uu,Uu,Uu,Uu,Uu,Uu,Uu,Uu,Uu,Uu] ((1000000,(Ent.box ((SV.con (⟨9,Ty.str,x1⟩:Rw)) :: ((SV.con (⟨3,Ty.int Go.IntKind.i64,x2⟩:Rw)) :: ((SV.con (⟨9,Ty.str,x3⟩:Rw)) :: ((SV.con (⟨3,Ty.int Go.IntKind.i64,x4⟩:Rw)) :: ((SV.con (⟨71,Ty.bool.pair ((Ty.row (nat_lit 116) ((Ty.int Go.IntKind.i64).pair ((Ty.int Go.IntKind.i64).pair (Ty.bool.pair Ty.bool)))).pair (Ty.row (nat_lit 80) ((Ty.int Go.IntKind.i64).pair ((Ty.int Go.IntKind.i64).pair (Ty.bool.pair Ty.bool))))),x5⟩:Rw)) :: ((SV.int (Go.IntKind.i64) x6) :: [])))))))) :: ((1000001,(Ent.box (SV.nil :: (SV.nil :: (SV.nil :: (SV.nil :: (SV.nil :: ((SV.int (Go.IntKind.i64) x7) :: [])))))))) :: ((1000002,(Ent.box ((SV.ref 1000003 0 [] Option.none) :: ((SV.ref 1000004 0 [] Option.none) :: ((SV.ref 1000005 0 [] Option.none) :: ((SV.ref 1000006 0 [] Option.none) :: ((SV.ref 1000007 0 [] Option.none) :: ((SV.int (Go.IntKind.i64) x8) :: [])))))))) :: ((1000003,(Ent.row (⟨9,Ty.str,x9⟩:Rw) 0 Option.none)) :: ((1000004,(Ent.row (⟨3,Ty.int Go.IntKind.i64,x10⟩:Rw) 0 Option.none)) :: ((1000005,(Ent.row (⟨9,Ty.str,x11⟩:Rw) 0 Option.none)) :: ((1000006,(Ent.row (⟨3,Ty.int Go.IntKind.i64,x12⟩:Rw) 0 Option.none)) :: ((1000007,(Ent.row (⟨71,Ty.bool.pair ((Ty.row (nat_lit 116) ((Ty.int Go.IntKind.i64).pair ((Ty.int Go.IntKind.i64).pair (Ty.bool.pair Ty.bool)))).pair (Ty.row (nat_lit 80) ((Ty.int Go.IntKind.i64).pair ((Ty.int Go.IntKind.i64).pair (Ty.bool.pair Ty.bool))))),x13⟩:Rw) 0 Option.none)) :: [])))))))))
noncomputable def st56_top (n:Nat) (lL3:Int→(Lb)→(List Int)→(Lb)→(List Int)→(List (Bool × Lq × Lq))→Int→Int→Int→(Lb)→(List Int)→(Lb)→(List Int)→(List (Bool × Lq × Lq))→Option R56) (a:(Lb × List Int) × (Lb × List Int) × List (Bool × Lq × Lq) × Int):Option R56 :=
 (q123 n ((a.1.1,a.1.2),())).bind fun r0=>(q123 n ((a.2.1.1,a.2.1.2),())).bind fun r1=>lL3 ((0:Int)) (a.1.1) (a.1.2) (a.2.1.1) (a.2.1.2) (a.2.2.1) (a.2.2.2) ((0:Int)) (a.2.2.2) (r0.1.1.1) (r0.1.1.2) (r1.1.1.1) (r1.1.1.2) ([])
noncomputable def st56_L3 (n:Nat) (lL3:Int→(Lb)→(List Int)→(Lb)→(List Int)→(List (Bool × Lq × Lq))→Int→Int→Int→(Lb)→(List Int)→(Lb)→(List Int)→(List (Bool × Lq × Lq))→Option R56) (x0:Int) (x1:Lb) (x2:List Int) (x3:Lb) (x4:List Int) (x5:List (Bool × Lq × Lq)) (x6 x7 x8:Int) (x9:Lb) (x10:List Int) (x11:Lb) (x12:List Int) (x13:List (Bool × Lq × Lq)):Option R56 :=
 cond (decide (x0 < (↑x5.length:Int))) (cond (decide ((0:Int)≤x0)) (cond (decide (x0 < (↑x5.length:Int))) (cond (decide (((0:Nat) + List.length (x5.getD x0.toNat (false,[],[])).2.1) * (24:Nat)≤(140737488355328:Nat))) (cond (decide (((0:Nat) + List.length (x5.getD x0.toNat (false,[],[])).2.2) * (24:Nat)≤(140737488355328:Nat))) (cond (decide ((x13.length + [((x5.getD x0.toNat (false,[],[])).1,(x5.getD x0.toNat (false,[],[])).2.1,(x5.getD x0.toNat (false,[],[])).2.2)].length) * (56:Nat)≤(140737488355328:Nat))) (lL3 (Go.IntKind.i64.wrap (x0 + (1:Int))) (x1) (x2) (x3) (x4) (x5) (x6) (x7) (x8) (x9) (x10) (x11) (x12) (x13 ++ [((x5.getD x0.toNat (false,[],[])).1,(x5.getD x0.toNat (false,[],[])).2.1,(x5.getD x0.toNat (false,[],[])).2.2)])) (none)) (none)) (none)) (none)) (none)) (some ((((x9,x10),((x11,x12),(x13,x8))),()),()))
theorem e56_top (n:Nat) (a:(Lb × List Int) × (Lb × List Int) × List (Bool × Lq × Lq) × Int):runF TT G56 an56 Try.f56 c56 ps56 rs56 n (a,())=st56_top n (fun x0 x1 x2 x3 x4 x5 x6 x7 x8 x9 x10 x11 x12 x13=>at56 n (.head 3) [n] (sh56_L3 x0 x1 x2 x3 x4 x5 x6 x7 x8 x9 x10 x11 x12 x13)) a:=by kernel_rfl
theorem e56_L3_0 (n:Nat) (x0:Int) (x1:Lb) (x2:List Int) (x3:Lb) (x4:List Int) (x5:List (Bool × Lq × Lq)) (x6 x7 x8:Int) (x9:Lb) (x10:List Int) (x11:Lb) (x12:List Int) (x13:List (Bool × Lq × Lq)):at56 n (.head 3) [0] (sh56_L3 x0 x1 x2 x3 x4 x5 x6 x7 x8 x9 x10 x11 x12 x13)=none:=by kernel_rfl
theorem e56_L3 (n:Nat) (m3:Nat) (x0:Int) (x1:Lb) (x2:List Int) (x3:Lb) (x4:List Int) (x5:List (Bool × Lq × Lq)) (x6 x7 x8:Int) (x9:Lb) (x10:List Int) (x11:Lb) (x12:List Int) (x13:List (Bool × Lq × Lq)):at56 n (.head 3) [m3 + 1] (sh56_L3 x0 x1 x2 x3 x4 x5 x6 x7 x8 x9 x10 x11 x12 x13)=st56_L3 n (fun x0 x1 x2 x3 x4 x5 x6 x7 x8 x9 x10 x11 x12 x13=>at56 n (.head 3) [m3] (sh56_L3 x0 x1 x2 x3 x4 x5 x6 x7 x8 x9 x10 x11 x12 x13)) x0 x1 x2 x3 x4 x5 x6 x7 x8 x9 x10 x11 x12 x13:=by kernel_rfl
noncomputable def p56_L3 (n:Nat):Nat→Int→(Lb)→(List Int)→(Lb)→(List Int)→(List (Bool × Lq × Lq))→Int→Int→Int→(Lb)→(List Int)→(Lb)→(List Int)→(List (Bool × Lq × Lq))→Option R56
 | 0,_,_,_,_,_,_,_,_,_,_,_,_,_,_=>none
 | m + 1,x0,x1,x2,x3,x4,x5,x6,x7,x8,x9,x10,x11,x12,x13=>st56_L3 n (p56_L3 n m) x0 x1 x2 x3 x4 x5 x6 x7 x8 x9 x10 x11 x12 x13
noncomputable def p56 (n:Nat) (a:(Lb × List Int) × (Lb × List Int) × List (Bool × Lq × Lq) × Int):Option R56:=st56_top n (p56_L3 n n) a
theorem t56_L3 (n:Nat):∀ (m3:Nat) (x0:Int) (x1:Lb) (x2:List Int) (x3:Lb) (x4:List Int) (x5:List (Bool × Lq × Lq)) (x6 x7 x8:Int) (x9:Lb) (x10:List Int) (x11:Lb) (x12:List Int) (x13:List (Bool × Lq × Lq)),at56 n (.head 3) [m3] (sh56_L3 x0 x1 x2 x3 x4 x5 x6 x7 x8 x9 x10 x11 x12 x13)=p56_L3 n m3 x0 x1 x2 x3 x4 x5 x6 x7 x8 x9 x10 x11 x12 x13:=by
 intro m
 induction m with
 | zero=>intros; rw [e56_L3_0]; rfl
 | succ m ih =>
  intros
  rw [e56_L3]
  try simp only [ih]
  rfl
theorem F56_eq (n:Nat) (a:(Lb × List Int) × (Lb × List Int) × List (Bool × Lq × Lq) × Int):runF TT G56 an56 Try.f56 c56 ps56 rs56 n (a,())=p56 n a:=by
 rw [e56_top]
 simp only [t56_L3]
 try rfl
noncomputable def q56 (n:Nat) (x:argsD ps56):Option R56:=p56 n x.1
noncomputable def Sm56:Sm:=⟨ps56,rs56,false,q56⟩
theorem holds56 (hg:GamOK Try.prog G56):Holds Try.prog 56 Sm56:=by
 have:=h0_56 hg
 have e:(runF TT G56 an56 Try.f56 c56 ps56 rs56)=q56:=by
  funext n x
  exact F56_eq n x.1
 rw [e] at this
 exact this
theorem gam56:GamOK Try.prog G56:=by
 intro f s h
 unfold G56 at h
 split at h
 ·injection h with h; subst h; exact ⟨⟨Try.f123,c123,Try.func123,by kernel_rfl,by decide +kernel⟩,hh123⟩
 ·cases h
theorem hh56:Holds Try.prog 56 Sm56:=holds56 gam56
end Go.Proofs.Ytdkaagpkeomhmaa.Rx.S

namespace Go.Proofs.Ytdkaagpkeomhmaa.Rx.S
open Go Go.RowKit Go.Proofs
set_option maxRecDepth 100000
noncomputable def c93:Code:=(Try.f93.body.getD .skip)
def an93:An:=⟨fun r=>match r with | 2=>⟨[1,3],[]⟩ | _=>⟨[],[]⟩,fun _ _=>none⟩
abbrev ps93:List PK:=[.val tMem true]
abbrev rs93:List RK:=[.val i64 false]
abbrev R93:=retsD rs93 × outsD ps93
noncomputable def G93:Gam:=fun _=>none
theorem h0_93 (hg:GamOK Try.prog G93):Holds Try.prog 93 ⟨ps93,rs93,false,runF TT G93 an93 Try.f93 c93 ps93 rs93⟩:=holds_of tt_ok hg mixed Try.func93 (by kernel_rfl) (by rfl) (by decide +kernel)
noncomputable def at93:Nat→Pt→List Nat→St→Option R93:=atF TT G93 an93 Try.f93 c93 _ _
def sh93_L2 (x0:Int) (x1:Lb) (x2:List Int) (x3:Lb) (x4:List Int) (x5:List (Bool × Lq × Lq)) (x6:Int):St:=(St.mk [Uu,AV.one (SV.bptr 1000000 0),Uu,AV.one (SV.int (Go.IntKind.i64) x0),Uu,Uu,Uu,Uu,Uu,Uu,Uu,Uu,Uu,Uu,Uu,Uu,Uu,Uu,Uu] ((1000000,(Ent.box ((SV.con (⟨9,Ty.str,x1⟩:Rw)) :: ((SV.con (⟨3,Ty.int Go.IntKind.i64,x2⟩:Rw)) :: ((SV.con (⟨9,Ty.str,x3⟩:Rw)) :: ((SV.con (⟨3,Ty.int Go.IntKind.i64,x4⟩:Rw)) :: ((SV.con (⟨71,Ty.bool.pair ((Ty.row (nat_lit 116) ((Ty.int Go.IntKind.i64).pair ((Ty.int Go.IntKind.i64).pair (Ty.bool.pair Ty.bool)))).pair (Ty.row (nat_lit 80) ((Ty.int Go.IntKind.i64).pair ((Ty.int Go.IntKind.i64).pair (Ty.bool.pair Ty.bool))))),x5⟩:Rw)) :: ((SV.int (Go.IntKind.i64) x6) :: [])))))))) :: []))
noncomputable def st93_top (n:Nat) (lL2:Int→(Lb)→(List Int)→(Lb)→(List Int)→(List (Bool × Lq × Lq))→Int→Option R93) (a:(Lb × List Int) × (Lb × List Int) × List (Bool × Lq × Lq) × Int):Option R93 :=
 lL2 ((0:Int)) (a.1.1) (a.1.2) (a.2.1.1) (a.2.1.2) (a.2.2.1) (a.2.2.2)
noncomputable def st93_L2 (n:Nat) (lL2:Int→(Lb)→(List Int)→(Lb)→(List Int)→(List (Bool × Lq × Lq))→Int→Option R93) (x0:Int) (x1:Lb) (x2:List Int) (x3:Lb) (x4:List Int) (x5:List (Bool × Lq × Lq)) (x6:Int):Option R93 :=
 cond (decide (x0 < (↑x5.length:Int))) (cond (decide ((0:Int)≤x0)) (cond (decide (x0 < (↑x5.length:Int))) (cond (!(x5.getD x0.toNat (false,[],[])).1) (some ((x0,()),())) (lL2 (Go.IntKind.i64.wrap (x0 + (1:Int))) (x1) (x2) (x3) (x4) (x5) (x6))) (none)) (none)) (some (((-1:Int),()),()))
theorem e93_top (n:Nat) (a:(Lb × List Int) × (Lb × List Int) × List (Bool × Lq × Lq) × Int):runF TT G93 an93 Try.f93 c93 ps93 rs93 n (a,())=st93_top n (fun x0 x1 x2 x3 x4 x5 x6=>at93 n (.head 2) [n] (sh93_L2 x0 x1 x2 x3 x4 x5 x6)) a:=by kernel_rfl
theorem e93_L2_0 (n:Nat) (x0:Int) (x1:Lb) (x2:List Int) (x3:Lb) (x4:List Int) (x5:List (Bool × Lq × Lq)) (x6:Int):at93 n (.head 2) [0] (sh93_L2 x0 x1 x2 x3 x4 x5 x6)=none:=by kernel_rfl
theorem e93_L2 (n:Nat) (m2:Nat) (x0:Int) (x1:Lb) (x2:List Int) (x3:Lb) (x4:List Int) (x5:List (Bool × Lq × Lq)) (x6:Int):at93 n (.head 2) [m2 + 1] (sh93_L2 x0 x1 x2 x3 x4 x5 x6)=st93_L2 n (fun x0 x1 x2 x3 x4 x5 x6=>at93 n (.head 2) [m2] (sh93_L2 x0 x1 x2 x3 x4 x5 x6)) x0 x1 x2 x3 x4 x5 x6:=by kernel_rfl
noncomputable def p93_L2 (n:Nat):Nat→Int→(Lb)→(List Int)→(Lb)→(List Int)→(List (Bool × Lq × Lq))→Int→Option R93
 | 0,_,_,_,_,_,_,_=>none
 | m + 1,x0,x1,x2,x3,x4,x5,x6=>st93_L2 n (p93_L2 n m) x0 x1 x2 x3 x4 x5 x6
noncomputable def p93 (n:Nat) (a:(Lb × List Int) × (Lb × List Int) × List (Bool × Lq × Lq) × Int):Option R93:=st93_top n (p93_L2 n n) a
theorem t93_L2 (n:Nat):∀ (m2:Nat) (x0:Int) (x1:Lb) (x2:List Int) (x3:Lb) (x4:List Int) (x5:List (Bool × Lq × Lq)) (x6:Int),at93 n (.head 2) [m2] (sh93_L2 x0 x1 x2 x3 x4 x5 x6)=p93_L2 n m2 x0 x1 x2 x3 x4 x5 x6:=by
 intro m
 induction m with
 | zero=>intros; rw [e93_L2_0]; rfl
 | succ m ih =>
  intros
  rw [e93_L2]
  try simp only [ih]
  rfl
theorem F93_eq (n:Nat) (a:(Lb × List Int) × (Lb × List Int) × List (Bool × Lq × Lq) × Int):runF TT G93 an93 Try.f93 c93 ps93 rs93 n (a,())=p93 n a:=by
 rw [e93_top]
 simp only [t93_L2]
 try rfl
noncomputable def q93 (n:Nat) (x:argsD ps93):Option R93:=p93 n x.1
noncomputable def Sm93:Sm:=⟨ps93,rs93,false,q93⟩
theorem holds93 (hg:GamOK Try.prog G93):Holds Try.prog 93 Sm93:=by
 have:=h0_93 hg
 have e:(runF TT G93 an93 Try.f93 c93 ps93 rs93)=q93:=by
  funext n x
  exact F93_eq n x.1
 rw [e] at this
 exact this
theorem gam93:GamOK Try.prog G93:=fun _ _ h=>by cases h
theorem hh93:Holds Try.prog 93 Sm93:=holds93 gam93
end Go.Proofs.Ytdkaagpkeomhmaa.Rx.S

namespace Go.Proofs.Ytdkaagpkeomhmaa.Rx.S
open Go Go.RowKit Go.Proofs
set_option maxRecDepth 100000
noncomputable def c28:Code:=(Try.f28.body.getD .skip)
def an28:An:=⟨fun _=>⟨[],[]⟩,fun _ _=>none⟩
abbrev ps28:List PK:=[.val tMem true]
abbrev rs28:List RK:=[.own tMem true,.val i64 false,.val .bool false]
abbrev R28:=retsD rs28 × outsD ps28
noncomputable def G28:Gam:=fun f=>match f with | 53=>some Sm53 | 56=>some Sm56 | 93=>some Sm93 | _=>none
theorem h0_28 (hg:GamOK Try.prog G28):Holds Try.prog 28 ⟨ps28,rs28,false,runF TT G28 an28 Try.f28 c28 ps28 rs28⟩:=holds_of tt_ok hg mixed Try.func28 (by kernel_rfl) (by rfl) (by decide +kernel)
noncomputable def st28_top (n:Nat) (a:(Lb × List Int) × (Lb × List Int) × List (Bool × Lq × Lq) × Int):Option R28 :=
 (q53 n (((a.1.1,a.1.2),(a.2.1.1,a.2.1.2),a.2.2.1,a.2.2.2),())).bind fun r0=>cond (!r0.1.1) (some (((([],[]),(([],[]),([],(0:Int)))),((-1:Int),(false,()))),())) ((q93 n (((a.1.1,a.1.2),(a.2.1.1,a.2.1.2),a.2.2.1,a.2.2.2),())).bind fun r1=>cond (decide (r1.1.1 < (0:Int))) (some (((([],[]),(([],[]),([],(0:Int)))),((-1:Int),(false,()))),())) ((q56 n (((a.1.1,a.1.2),(a.2.1.1,a.2.1.2),a.2.2.1,a.2.2.2),())).bind fun r2=>(q93 n (((a.1.1,a.1.2),(a.2.1.1,a.2.1.2),a.2.2.1,a.2.2.2),())).bind fun r3=>cond (decide ((0:Int)≤r3.1.1)) (cond (decide (r3.1.1 < (↑(List.length r2.1.1.2.2.1):Int))) (some ((((r2.1.1.1.1,r2.1.1.1.2),((r2.1.1.2.1.1,r2.1.1.2.1.2),(List.set r2.1.1.2.2.1 (Int.toNat r3.1.1) (true,[],List.replicate (Int.toNat (16:Int)) ((0:Int),(0:Int),false,false)),r2.1.1.2.2.2))),(r3.1.1,(true,()))),())) (none)) (none)))
theorem e28_top (n:Nat) (a:(Lb × List Int) × (Lb × List Int) × List (Bool × Lq × Lq) × Int):runF TT G28 an28 Try.f28 c28 ps28 rs28 n (a,())=st28_top n a:=by kernel_rfl
noncomputable def p28 (n:Nat) (a:(Lb × List Int) × (Lb × List Int) × List (Bool × Lq × Lq) × Int):Option R28:=st28_top n a
theorem F28_eq (n:Nat) (a:(Lb × List Int) × (Lb × List Int) × List (Bool × Lq × Lq) × Int):runF TT G28 an28 Try.f28 c28 ps28 rs28 n (a,())=p28 n a:=by
 rw [e28_top]
 skip
 try rfl
noncomputable def q28 (n:Nat) (x:argsD ps28):Option R28:=p28 n x.1
noncomputable def Sm28:Sm:=⟨ps28,rs28,false,q28⟩
theorem holds28 (hg:GamOK Try.prog G28):Holds Try.prog 28 Sm28:=by
 have:=h0_28 hg
 have e:(runF TT G28 an28 Try.f28 c28 ps28 rs28)=q28:=by
  funext n x
  exact F28_eq n x.1
 rw [e] at this
 exact this
theorem gam28:GamOK Try.prog G28:=by
 intro f s h
 unfold G28 at h
 split at h
 ·injection h with h; subst h; exact ⟨⟨Try.f53,c53,Try.func53,by kernel_rfl,by decide +kernel⟩,hh53⟩
 ·injection h with h; subst h; exact ⟨⟨Try.f56,c56,Try.func56,by kernel_rfl,by decide +kernel⟩,hh56⟩
 ·injection h with h; subst h; exact ⟨⟨Try.f93,c93,Try.func93,by kernel_rfl,by decide +kernel⟩,hh93⟩
 ·cases h
theorem hh28:Holds Try.prog 28 Sm28:=holds28 gam28
end Go.Proofs.Ytdkaagpkeomhmaa.Rx.S

namespace Go.Proofs.Ytdkaagpkeomhmaa.Rx.S
open Go Go.RowKit Go.Proofs
set_option maxRecDepth 100000
noncomputable def c48:Code:=(Try.f48.body.getD .skip)
def an48:An:=⟨fun _=>⟨[],[]⟩,fun _ _=>none⟩
abbrev ps48:List PK:=[.bx tRd,.val i64 false]
abbrev rs48:List RK:=[.val i64 false]
abbrev R48:=retsD rs48 × outsD ps48
noncomputable def G48:Gam:=fun _=>none
theorem h0_48 (hg:GamOK Try.prog G48):Holds Try.prog 48 ⟨ps48,rs48,true,runF TT G48 an48 Try.f48 c48 ps48 rs48⟩:=holds_of tt_ok hg mixed Try.func48 (by kernel_rfl) (by rfl) (by decide +kernel)
noncomputable def st48_top (n:Nat) (a:List Int × Int) (b:Int):Option R48 :=
 cond (decide (b < (1:Int))) (some (((0:Int),()),((a.1,Go.IntKind.i64.wrap (a.2 + (1:Int))),()))) (cond (decide ((↑(List.length a.1):Int)=(0:Int))) (some (((0:Int),()),((a.1,Go.IntKind.i64.wrap (a.2 + (1:Int))),()))) (cond (decide (Go.IntKind.i64.wrap (Go.IntKind.i64.wrap (a.2 + (1:Int)) - (1:Int)) < (↑(List.length a.1):Int))) (cond (decide ((0:Int)≤Go.IntKind.i64.wrap (Go.IntKind.i64.wrap (a.2 + (1:Int)) - (1:Int)))) (cond (decide (Go.IntKind.i64.wrap (Go.IntKind.i64.wrap (a.2 + (1:Int)) - (1:Int)) < (↑(List.length a.1):Int))) (cond (!decide (b=(0:Int))) (some (((Go.IntKind.i64.wrap (List.getD a.1 (Go.IntKind.i64.wrap (Go.IntKind.i64.wrap (a.2 + (1:Int)) - (1:Int))).toNat (0:Int))).tmod b,()),((a.1,Go.IntKind.i64.wrap (a.2 + (1:Int))),()))) (none)) (none)) (none)) (cond (!decide ((↑(List.length a.1):Int)=(0:Int))) (cond (decide ((0:Int)≤(Go.IntKind.i64.wrap (Go.IntKind.i64.wrap (a.2 + (1:Int)) - (1:Int))).tmod (↑(List.length a.1):Int))) (cond (decide ((Go.IntKind.i64.wrap (Go.IntKind.i64.wrap (a.2 + (1:Int)) - (1:Int))).tmod (↑(List.length a.1):Int) < (↑(List.length a.1):Int))) (cond (!decide ((↑(List.length a.1):Int)=(0:Int))) (cond (decide ((0:Int)≤(Go.IntKind.i64.wrap (Go.IntKind.i64.wrap (Go.IntKind.i64.wrap (Go.IntKind.i64.wrap (a.2 + (1:Int)) - (1:Int)) * (7:Int)) + (3:Int))).tmod (↑(List.length a.1):Int))) (cond (decide ((Go.IntKind.i64.wrap (Go.IntKind.i64.wrap (Go.IntKind.i64.wrap (Go.IntKind.i64.wrap (a.2 + (1:Int)) - (1:Int)) * (7:Int)) + (3:Int))).tmod (↑(List.length a.1):Int) < (↑(List.length a.1):Int))) (cond (!decide ((↑(List.length a.1):Int)=(0:Int))) (cond (!decide (b=(0:Int))) (some (((Go.IntKind.i64.wrap (↑(BitVec.ofInt Go.IntKind.i64.bits (Go.IntKind.i64.wrap (Go.IntKind.i64.wrap (Go.IntKind.i64.wrap (Go.IntKind.i64.wrap (Go.IntKind.i64.wrap (List.getD a.1 ((Go.IntKind.i64.wrap (Go.IntKind.i64.wrap (a.2 + (1:Int)) - (1:Int))).tmod (↑(List.length a.1):Int)).toNat (0:Int)) * (131:Int)) + Go.IntKind.i64.wrap (Go.IntKind.i64.wrap (List.getD a.1 ((Go.IntKind.i64.wrap (Go.IntKind.i64.wrap (Go.IntKind.i64.wrap (Go.IntKind.i64.wrap (a.2 + (1:Int)) - (1:Int)) * (7:Int)) + (3:Int))).tmod (↑(List.length a.1):Int)).toNat (0:Int)) * (1117:Int))) + Go.IntKind.i64.wrap (Go.IntKind.i64.wrap (Go.IntKind.i64.wrap (a.2 + (1:Int)) - (1:Int)) * (29:Int))) + Go.IntKind.i64.wrap (Go.IntKind.i64.wrap ((Go.IntKind.i64.wrap (Go.IntKind.i64.wrap (a.2 + (1:Int)) - (1:Int))).tdiv (↑(List.length a.1):Int)) * (53:Int)))) ^^^ BitVec.ofInt Go.IntKind.i64.bits (Go.IntKind.i64.wrap ((Go.IntKind.i64.wrap (Go.IntKind.i64.wrap (Go.IntKind.i64.wrap (Go.IntKind.i64.wrap (Go.IntKind.i64.wrap (List.getD a.1 ((Go.IntKind.i64.wrap (Go.IntKind.i64.wrap (a.2 + (1:Int)) - (1:Int))).tmod (↑(List.length a.1):Int)).toNat (0:Int)) * (131:Int)) + Go.IntKind.i64.wrap (Go.IntKind.i64.wrap (List.getD a.1 ((Go.IntKind.i64.wrap (Go.IntKind.i64.wrap (Go.IntKind.i64.wrap (Go.IntKind.i64.wrap (a.2 + (1:Int)) - (1:Int)) * (7:Int)) + (3:Int))).tmod (↑(List.length a.1):Int)).toNat (0:Int)) * (1117:Int))) + Go.IntKind.i64.wrap (Go.IntKind.i64.wrap (Go.IntKind.i64.wrap (a.2 + (1:Int)) - (1:Int)) * (29:Int))) + Go.IntKind.i64.wrap (Go.IntKind.i64.wrap ((Go.IntKind.i64.wrap (Go.IntKind.i64.wrap (a.2 + (1:Int)) - (1:Int))).tdiv (↑(List.length a.1):Int)) * (53:Int)))).tdiv (64:Int)))).toNat:Int)).tmod b,()),((a.1,Go.IntKind.i64.wrap (a.2 + (1:Int))),()))) (none)) (none)) (none)) (none)) (none)) (none)) (none)) (none))))
theorem e48_top (n:Nat) (a:List Int × Int) (b:Int):runF TT G48 an48 Try.f48 c48 ps48 rs48 n (a,b,())=st48_top n a b:=by kernel_rfl
noncomputable def p48 (n:Nat) (a:List Int × Int) (b:Int):Option R48:=st48_top n a b
theorem F48_eq (n:Nat) (a:List Int × Int) (b:Int):runF TT G48 an48 Try.f48 c48 ps48 rs48 n (a,b,())=p48 n a b:=by
 rw [e48_top]
 skip
 try rfl
noncomputable def q48 (n:Nat) (x:argsD ps48):Option R48:=p48 n x.1 x.2.1
noncomputable def Sm48:Sm:=⟨ps48,rs48,true,q48⟩
theorem holds48 (hg:GamOK Try.prog G48):Holds Try.prog 48 Sm48:=by
 have:=h0_48 hg
 have e:(runF TT G48 an48 Try.f48 c48 ps48 rs48)=q48:=by
  funext n x
  exact F48_eq n x.1 x.2.1
 rw [e] at this
 exact this
theorem gam48:GamOK Try.prog G48:=fun _ _ h=>by cases h
theorem hh48:Holds Try.prog 48 Sm48:=holds48 gam48
end Go.Proofs.Ytdkaagpkeomhmaa.Rx.S

namespace Go.Proofs.Ytdkaagpkeomhmaa.Rx.S
open Go Go.RowKit Go.Proofs
set_option maxRecDepth 100000
noncomputable def c54:Code:=(Try.f54.body.getD .skip)
def an54:An:=⟨fun _=>⟨[],[]⟩,fun _ _=>none⟩
abbrev ps54:List PK:=[.val tMem true,.val i64 false]
abbrev rs54:List RK:=[.val .bool false]
abbrev R54:=retsD rs54 × outsD ps54
noncomputable def G54:Gam:=fun f=>match f with | 69=>some Sm69 | _=>none
theorem h0_54 (hg:GamOK Try.prog G54):Holds Try.prog 54 ⟨ps54,rs54,false,runF TT G54 an54 Try.f54 c54 ps54 rs54⟩:=holds_of tt_ok hg mixed Try.func54 (by kernel_rfl) (by rfl) (by decide +kernel)
noncomputable def st54_top (n:Nat) (a:(Lb × List Int) × (Lb × List Int) × List (Bool × Lq × Lq) × Int) (b:Int):Option R54 :=
 (q69 n (b,(0:Int),Go.IntKind.i64.wrap ((↑(List.length a.2.2.1):Int) - (1:Int)),())).bind fun r0=>cond (r0.1.1) (cond (decide ((0:Int)≤b)) (cond (decide (b < (↑(List.length a.2.2.1):Int))) (some (((List.getD a.2.2.1 b.toNat (false,[],[])).1,()),())) (none)) (none)) (some ((false,()),()))
theorem e54_top (n:Nat) (a:(Lb × List Int) × (Lb × List Int) × List (Bool × Lq × Lq) × Int) (b:Int):runF TT G54 an54 Try.f54 c54 ps54 rs54 n (a,b,())=st54_top n a b:=by kernel_rfl
noncomputable def p54 (n:Nat) (a:(Lb × List Int) × (Lb × List Int) × List (Bool × Lq × Lq) × Int) (b:Int):Option R54:=st54_top n a b
theorem F54_eq (n:Nat) (a:(Lb × List Int) × (Lb × List Int) × List (Bool × Lq × Lq) × Int) (b:Int):runF TT G54 an54 Try.f54 c54 ps54 rs54 n (a,b,())=p54 n a b:=by
 rw [e54_top]
 skip
 try rfl
noncomputable def q54 (n:Nat) (x:argsD ps54):Option R54:=p54 n x.1 x.2.1
noncomputable def Sm54:Sm:=⟨ps54,rs54,false,q54⟩
theorem holds54 (hg:GamOK Try.prog G54):Holds Try.prog 54 Sm54:=by
 have:=h0_54 hg
 have e:(runF TT G54 an54 Try.f54 c54 ps54 rs54)=q54:=by
  funext n x
  exact F54_eq n x.1 x.2.1
 rw [e] at this
 exact this
theorem gam54:GamOK Try.prog G54:=by
 intro f s h
 unfold G54 at h
 split at h
 ·injection h with h; subst h; exact ⟨⟨Try.f69,c69,Try.func69,by kernel_rfl,by decide +kernel⟩,hh69⟩
 ·cases h
theorem hh54:Holds Try.prog 54 Sm54:=holds54 gam54
end Go.Proofs.Ytdkaagpkeomhmaa.Rx.S

namespace Go.Proofs.Ytdkaagpkeomhmaa.Rx.S
open Go Go.RowKit Go.Proofs
set_option maxRecDepth 100000
noncomputable def c175:Code:=(Try.f175.body.getD .skip)
def an175:An:=⟨fun _=>⟨[],[]⟩,fun _ _=>none⟩
abbrev ps175:List PK:=[.val tAr true,.val i64 false,.val i64 false]
abbrev rs175:List RK:=[.val tAr true,.val .bool false]
abbrev R175:=retsD rs175 × outsD ps175
noncomputable def G175:Gam:=fun _=>none
theorem h0_175 (hg:GamOK Try.prog G175):Holds Try.prog 175 ⟨ps175,rs175,false,runF TT G175 an175 Try.f175 c175 ps175 rs175⟩:=holds_of tt_ok hg mixed Try.func175 (by kernel_rfl) (by rfl) (by decide +kernel)
noncomputable def st175_top (n:Nat) (a:Aq) (b:Int) (c:Int):Option R175 :=
 cond (decide ((if c < Go.IntKind.i64.wrap (Go.IntKind.i64.wrap (a.1 + a.2.1) - (1:Int)) then c else Go.IntKind.i64.wrap (Go.IntKind.i64.wrap (a.1 + a.2.1) - (1:Int))) < if b > a.1 then b else a.1)) (some ((((0:Int),((0:Int),(false,false))),(false,())),())) (some (((if b > a.1 then b else a.1,(Go.IntKind.i64.wrap (Go.IntKind.i64.wrap ((if c < Go.IntKind.i64.wrap (Go.IntKind.i64.wrap (a.1 + a.2.1) - (1:Int)) then c else Go.IntKind.i64.wrap (Go.IntKind.i64.wrap (a.1 + a.2.1) - (1:Int))) - if b > a.1 then b else a.1) + (1:Int)),(a.2.2.1,a.2.2.2))),(true,())),()))
theorem e175_top (n:Nat) (a:Aq) (b:Int) (c:Int):runF TT G175 an175 Try.f175 c175 ps175 rs175 n (a,b,c,())=st175_top n a b c:=by kernel_rfl
noncomputable def p175 (n:Nat) (a:Aq) (b:Int) (c:Int):Option R175:=st175_top n a b c
theorem F175_eq (n:Nat) (a:Aq) (b:Int) (c:Int):runF TT G175 an175 Try.f175 c175 ps175 rs175 n (a,b,c,())=p175 n a b c:=by
 rw [e175_top]
 skip
 try rfl
noncomputable def q175 (n:Nat) (x:argsD ps175):Option R175:=p175 n x.1 x.2.1 x.2.2.1
noncomputable def Sm175:Sm:=⟨ps175,rs175,false,q175⟩
theorem holds175 (hg:GamOK Try.prog G175):Holds Try.prog 175 Sm175:=by
 have:=h0_175 hg
 have e:(runF TT G175 an175 Try.f175 c175 ps175 rs175)=q175:=by
  funext n x
  exact F175_eq n x.1 x.2.1 x.2.2.1
 rw [e] at this
 exact this
theorem gam175:GamOK Try.prog G175:=fun _ _ h=>by cases h
theorem hh175:Holds Try.prog 175 Sm175:=holds175 gam175
end Go.Proofs.Ytdkaagpkeomhmaa.Rx.S

namespace Go.Proofs.Ytdkaagpkeomhmaa.Rx.S
open Go Go.RowKit Go.Proofs
set_option maxRecDepth 100000
noncomputable def c159:Code:=(Try.f159.body.getD .skip)
def an159:An:=⟨fun r=>match r with | 3=>⟨[0,1,2,7,8],[]⟩ | _=>⟨[],[]⟩,fun _ _=>none⟩
abbrev ps159:List PK:=[.val (.row 116 tAr) false,.val i64 false,.val i64 false]
abbrev rs159:List RK:=[.own (.row 116 tAr) false]
abbrev R159:=retsD rs159 × outsD ps159
noncomputable def G159:Gam:=fun f=>match f with | 175=>some Sm175 | _=>none
theorem h0_159 (hg:GamOK Try.prog G159):Holds Try.prog 159 ⟨ps159,rs159,false,runF TT G159 an159 Try.f159 c159 ps159 rs159⟩:=holds_of tt_ok hg mixed Try.func159 (by kernel_rfl) (by rfl) (by decide +kernel)
noncomputable def at159:Nat→Pt→List Nat→St→Option R159:=atF TT G159 an159 Try.f159 c159 _ _
def sh159_L3 (x0:Lq) (x1 x2 x3:Int) (x4:Lq):St:=(St.mk [AV.one (SV.con (⟨116,(Ty.int Go.IntKind.i64).pair ((Ty.int Go.IntKind.i64).pair (Ty.bool.pair Ty.bool)),x0⟩:Rw)),AV.one (SV.int (Go.IntKind.i64) x1),AV.one (SV.int (Go.IntKind.i64) x2),Uu,Uu,Uu,Uu,AV.one (SV.ref 1000000 0 [] Option.none),AV.one (SV.int (Go.IntKind.i64) x3),Uu,Uu,Uu,Uu,Uu,Uu,Uu,Uu,Uu,Uu,Uu,Uu,Uu,Uu,Uu,Uu,Uu,Uu,Uu,Uu,Uu,Uu,Uu,Uu,Uu,Uu,Uu,Uu,Uu,Uu,Uu,Uu,Uu,Uu,Uu,Uu,Uu,Uu,Uu,Uu,Uu,Uu] ((1000000,(Ent.row (⟨116,(Ty.int Go.IntKind.i64).pair ((Ty.int Go.IntKind.i64).pair (Ty.bool.pair Ty.bool)),x4⟩:Rw) 0 Option.none)) :: []))
noncomputable def st159_top (n:Nat) (lL3:(Lq)→Int→Int→Int→(Lq)→Option R159) (a:Lq) (b:Int) (c:Int):Option R159 :=
 lL3 (a) (b) (c) ((0:Int)) ([])
noncomputable def st159_L3 (n:Nat) (lL3:(Lq)→Int→Int→Int→(Lq)→Option R159) (x0:Lq) (x1 x2 x3:Int) (x4:Lq):Option R159 :=
 cond (decide (x3 < (↑x0.length:Int))) (cond (decide ((0:Int)≤x3)) (cond (decide (x3 < (↑x0.length:Int))) ((q175 n (((x0.getD x3.toNat ((0:Int),(0:Int),false,false)).1,(x0.getD x3.toNat ((0:Int),(0:Int),false,false)).2.1,(x0.getD x3.toNat ((0:Int),(0:Int),false,false)).2.2.1,(x0.getD x3.toNat ((0:Int),(0:Int),false,false)).2.2.2),(0:Int),Go.IntKind.i64.wrap (x1 - (1:Int)),())).bind fun r1=>cond (decide ((0:Int)≤x3)) (cond (decide (x3 < (↑x0.length:Int))) ((q175 n (((x0.getD x3.toNat ((0:Int),(0:Int),false,false)).1,(x0.getD x3.toNat ((0:Int),(0:Int),false,false)).2.1,(x0.getD x3.toNat ((0:Int),(0:Int),false,false)).2.2.1,(x0.getD x3.toNat ((0:Int),(0:Int),false,false)).2.2.2),Go.IntKind.i64.wrap (x2 + (1:Int)),(15:Int),())).bind fun r2=>cond (r1.1.2.1) (cond (decide ((x4.length + [(r1.1.1.1,r1.1.1.2.1,r1.1.1.2.2.1,r1.1.1.2.2.2)].length) * (24:Nat)≤(140737488355328:Nat))) (cond (r2.1.2.1) (cond (decide (((x4 ++ [(r1.1.1.1,r1.1.1.2.1,r1.1.1.2.2.1,r1.1.1.2.2.2)]).length + [(r2.1.1.1,r2.1.1.2.1,r2.1.1.2.2.1,r2.1.1.2.2.2)].length) * (24:Nat)≤(140737488355328:Nat))) (lL3 (x0) (x1) (x2) (Go.IntKind.i64.wrap (x3 + (1:Int))) (x4 ++ [(r1.1.1.1,r1.1.1.2.1,r1.1.1.2.2.1,r1.1.1.2.2.2)] ++ [(r2.1.1.1,r2.1.1.2.1,r2.1.1.2.2.1,r2.1.1.2.2.2)])) (none)) (lL3 (x0) (x1) (x2) (Go.IntKind.i64.wrap (x3 + (1:Int))) (x4 ++ [(r1.1.1.1,r1.1.1.2.1,r1.1.1.2.2.1,r1.1.1.2.2.2)]))) (none)) (cond (r2.1.2.1) (cond (decide ((x4.length + [(r2.1.1.1,r2.1.1.2.1,r2.1.1.2.2.1,r2.1.1.2.2.2)].length) * (24:Nat)≤(140737488355328:Nat))) (lL3 (x0) (x1) (x2) (Go.IntKind.i64.wrap (x3 + (1:Int))) (x4 ++ [(r2.1.1.1,r2.1.1.2.1,r2.1.1.2.2.1,r2.1.1.2.2.2)])) (none)) (lL3 (x0) (x1) (x2) (Go.IntKind.i64.wrap (x3 + (1:Int))) (x4)))) (none)) (none)) (none)) (none)) (some ((x4,()),()))
theorem e159_top (n:Nat) (a:Lq) (b:Int) (c:Int):runF TT G159 an159 Try.f159 c159 ps159 rs159 n (a,b,c,())=st159_top n (fun x0 x1 x2 x3 x4=>at159 n (.head 3) [n] (sh159_L3 x0 x1 x2 x3 x4)) a b c:=by kernel_rfl
theorem e159_L3_0 (n:Nat) (x0:Lq) (x1 x2 x3:Int) (x4:Lq):at159 n (.head 3) [0] (sh159_L3 x0 x1 x2 x3 x4)=none:=by kernel_rfl
theorem e159_L3 (n:Nat) (m3:Nat) (x0:Lq) (x1 x2 x3:Int) (x4:Lq):at159 n (.head 3) [m3 + 1] (sh159_L3 x0 x1 x2 x3 x4)=st159_L3 n (fun x0 x1 x2 x3 x4=>at159 n (.head 3) [m3] (sh159_L3 x0 x1 x2 x3 x4)) x0 x1 x2 x3 x4:=by kernel_rfl
noncomputable def p159_L3 (n:Nat):Nat→(Lq)→Int→Int→Int→(Lq)→Option R159
 | 0,_,_,_,_,_=>none
 | m + 1,x0,x1,x2,x3,x4=>st159_L3 n (p159_L3 n m) x0 x1 x2 x3 x4
noncomputable def p159 (n:Nat) (a:Lq) (b:Int) (c:Int):Option R159:=st159_top n (p159_L3 n n) a b c
theorem t159_L3 (n:Nat):∀ (m3:Nat) (x0:Lq) (x1 x2 x3:Int) (x4:Lq),at159 n (.head 3) [m3] (sh159_L3 x0 x1 x2 x3 x4)=p159_L3 n m3 x0 x1 x2 x3 x4:=by
 intro m
 induction m with
 | zero=>intros; rw [e159_L3_0]; rfl
 | succ m ih =>
  intros
  rw [e159_L3]
  try simp only [ih]
  rfl
theorem F159_eq (n:Nat) (a:Lq) (b:Int) (c:Int):runF TT G159 an159 Try.f159 c159 ps159 rs159 n (a,b,c,())=p159 n a b c:=by
 rw [e159_top]
 simp only [t159_L3]
 try rfl
noncomputable def q159 (n:Nat) (x:argsD ps159):Option R159:=p159 n x.1 x.2.1 x.2.2.1
noncomputable def Sm159:Sm:=⟨ps159,rs159,false,q159⟩
theorem holds159 (hg:GamOK Try.prog G159):Holds Try.prog 159 Sm159:=by
 have:=h0_159 hg
 have e:(runF TT G159 an159 Try.f159 c159 ps159 rs159)=q159:=by
  funext n x
  exact F159_eq n x.1 x.2.1 x.2.2.1
 rw [e] at this
 exact this
theorem gam159:GamOK Try.prog G159:=by
 intro f s h
 unfold G159 at h
 split at h
 ·injection h with h; subst h; exact ⟨⟨Try.f175,c175,Try.func175,by kernel_rfl,by decide +kernel⟩,hh175⟩
 ·cases h
theorem hh159:Holds Try.prog 159 Sm159:=holds159 gam159
end Go.Proofs.Ytdkaagpkeomhmaa.Rx.S

namespace Go.Proofs.Ytdkaagpkeomhmaa.Rx.S
open Go Go.RowKit Go.Proofs
set_option maxRecDepth 100000
noncomputable def c121:Code:=(Try.f121.body.getD .skip)
def an121:An:=⟨fun _=>⟨[],[]⟩,fun _ _=>none⟩
abbrev ps121:List PK:=[.val (.row 116 tAr) false,.val i64 false,.val i64 false]
abbrev rs121:List RK:=[.own (.row 116 tAr) false,.val .bool false]
abbrev R121:=retsD rs121 × outsD ps121
noncomputable def G121:Gam:=fun f=>match f with | 127=>some Sm127 | 158=>some Sm158 | 159=>some Sm159 | _=>none
theorem h0_121 (hg:GamOK Try.prog G121):Holds Try.prog 121 ⟨ps121,rs121,false,runF TT G121 an121 Try.f121 c121 ps121 rs121⟩:=holds_of tt_ok hg mixed Try.func121 (by kernel_rfl) (by rfl) (by decide +kernel)
noncomputable def st121_top (n:Nat) (a:Lq) (b:Int) (c:Int):Option R121 :=
 (q127 n (a,())).bind fun r0=>cond (!r0.1.1) (some (([],(false,())),())) ((q158 n ((b,c,false,false),())).bind fun r1=>cond (!r1.1.1) (some (([],(false,())),())) ((q159 n (a,b,Go.IntKind.i64.wrap (Go.IntKind.i64.wrap (b + c) - (1:Int)),())).bind fun r2=>(q127 n (r2.1.1,())).bind fun r3=>cond (!r3.1.1) (some (([],(false,())),())) (some ((r2.1.1,(true,())),()))))
theorem e121_top (n:Nat) (a:Lq) (b:Int) (c:Int):runF TT G121 an121 Try.f121 c121 ps121 rs121 n (a,b,c,())=st121_top n a b c:=by kernel_rfl
noncomputable def p121 (n:Nat) (a:Lq) (b:Int) (c:Int):Option R121:=st121_top n a b c
theorem F121_eq (n:Nat) (a:Lq) (b:Int) (c:Int):runF TT G121 an121 Try.f121 c121 ps121 rs121 n (a,b,c,())=p121 n a b c:=by
 rw [e121_top]
 skip
 try rfl
noncomputable def q121 (n:Nat) (x:argsD ps121):Option R121:=p121 n x.1 x.2.1 x.2.2.1
noncomputable def Sm121:Sm:=⟨ps121,rs121,false,q121⟩
theorem holds121 (hg:GamOK Try.prog G121):Holds Try.prog 121 Sm121:=by
 have:=h0_121 hg
 have e:(runF TT G121 an121 Try.f121 c121 ps121 rs121)=q121:=by
  funext n x
  exact F121_eq n x.1 x.2.1 x.2.2.1
 rw [e] at this
 exact this
theorem gam121:GamOK Try.prog G121:=by
 intro f s h
 unfold G121 at h
 split at h
 ·injection h with h; subst h; exact ⟨⟨Try.f127,c127,Try.func127,by kernel_rfl,by decide +kernel⟩,hh127⟩
 ·injection h with h; subst h; exact ⟨⟨Try.f158,c158,Try.func158,by kernel_rfl,by decide +kernel⟩,hh158⟩
 ·injection h with h; subst h; exact ⟨⟨Try.f159,c159,Try.func159,by kernel_rfl,by decide +kernel⟩,hh159⟩
 ·cases h
theorem hh121:Holds Try.prog 121 Sm121:=holds121 gam121
end Go.Proofs.Ytdkaagpkeomhmaa.Rx.S

namespace Go.Proofs.Ytdkaagpkeomhmaa.Rx.S
open Go Go.RowKit Go.Proofs
set_option maxRecDepth 100000
noncomputable def c160:Code:=(Try.f160.body.getD .skip)
def an160:An:=⟨fun _=>⟨[],[]⟩,fun _ _=>none⟩
abbrev ps160:List PK:=[.own tPg true,.val i64 false]
abbrev rs160:List RK:=[.own tPg true]
abbrev R160:=retsD rs160 × outsD ps160
noncomputable def G160:Gam:=fun _=>none
theorem h0_160 (hg:GamOK Try.prog G160):Holds Try.prog 160 ⟨ps160,rs160,false,runF TT G160 an160 Try.f160 c160 ps160 rs160⟩:=holds_of tt_ok hg mixed Try.func160 (by kernel_rfl) (by rfl) (by decide +kernel)
noncomputable def st160_top (n:Nat) (a:Lb × List Int) (b:Int):Option R160 :=
 cond (decide ((0:Int)≤b)) (cond (decide (b < (↑(List.length a.2):Int))) (cond (decide ((0:Int)≤b)) (cond (decide (b < (↑(List.length a.2):Int))) (cond (decide ((0:Int)≤b)) (cond (decide (b < (↑(List.set a.2 b.toNat (Go.IntKind.i64.wrap (List.getD a.2 b.toNat (0:Int) - (1:Int)))).length:Int))) (cond (decide ((List.set a.2 b.toNat (Go.IntKind.i64.wrap (List.getD a.2 b.toNat (0:Int) - (1:Int)))).getD b.toNat (0:Int)=(0:Int))) (cond (decide ((0:Int)≤b)) (cond (decide (b < (↑(List.length a.1):Int))) (some (((List.set a.1 b.toNat (ByteArray.mk #[]),List.set a.2 b.toNat (Go.IntKind.i64.wrap (List.getD a.2 b.toNat (0:Int) - (1:Int)))),()),())) (none)) (none)) (some (((a.1,List.set a.2 b.toNat (Go.IntKind.i64.wrap (List.getD a.2 b.toNat (0:Int) - (1:Int)))),()),()))) (none)) (none)) (none)) (none)) (none)) (none)
theorem e160_top (n:Nat) (a:Lb × List Int) (b:Int):runF TT G160 an160 Try.f160 c160 ps160 rs160 n (a,b,())=st160_top n a b:=by kernel_rfl
noncomputable def p160 (n:Nat) (a:Lb × List Int) (b:Int):Option R160:=st160_top n a b
theorem F160_eq (n:Nat) (a:Lb × List Int) (b:Int):runF TT G160 an160 Try.f160 c160 ps160 rs160 n (a,b,())=p160 n a b:=by
 rw [e160_top]
 skip
 try rfl
noncomputable def q160 (n:Nat) (x:argsD ps160):Option R160:=p160 n x.1 x.2.1
noncomputable def Sm160:Sm:=⟨ps160,rs160,false,q160⟩
theorem holds160 (hg:GamOK Try.prog G160):Holds Try.prog 160 Sm160:=by
 have:=h0_160 hg
 have e:(runF TT G160 an160 Try.f160 c160 ps160 rs160)=q160:=by
  funext n x
  exact F160_eq n x.1 x.2.1
 rw [e] at this
 exact this
theorem gam160:GamOK Try.prog G160:=fun _ _ h=>by cases h
theorem hh160:Holds Try.prog 160 Sm160:=holds160 gam160
end Go.Proofs.Ytdkaagpkeomhmaa.Rx.S

namespace Go.Proofs.Ytdkaagpkeomhmaa.Rx.S
open Go Go.RowKit Go.Proofs
set_option maxRecDepth 100000
noncomputable def c122:Code:=(Try.f122.body.getD .skip)
def an122:An:=⟨fun _=>⟨[],[]⟩,fun _ _=>none⟩
abbrev ps122:List PK:=[.own tMem true,.val i64 false,.val i64 false]
abbrev rs122:List RK:=[.own tMem true]
abbrev R122:=retsD rs122 × outsD ps122
noncomputable def G122:Gam:=fun f=>match f with | 160=>some Sm160 | _=>none
theorem h0_122 (hg:GamOK Try.prog G122):Holds Try.prog 122 ⟨ps122,rs122,false,runF TT G122 an122 Try.f122 c122 ps122 rs122⟩:=holds_of tt_ok hg mixed Try.func122 (by kernel_rfl) (by rfl) (by decide +kernel)
noncomputable def st122_top (n:Nat) (a:(Lb × List Int) × (Lb × List Int) × List (Bool × Lq × Lq) × Int) (b:Int) (c:Int):Option R122 :=
 cond (decide ((0:Int)≤b)) (cond (decide (b < (↑(List.length a.2.2.1):Int))) (cond (decide ((0:Int)≤c)) (cond (decide (c < (↑(List.length (List.getD a.2.2.1 b.toNat (false,[],[])).2.2):Int))) (cond (decide ((List.getD (List.getD a.2.2.1 b.toNat (false,[],[])).2.2 c.toNat ((0:Int),(0:Int),false,false)).1=(1:Int))) ((q160 n ((a.1.1,a.1.2),(List.getD (List.getD a.2.2.1 b.toNat (false,[],[])).2.2 c.toNat ((0:Int),(0:Int),false,false)).2.1,())).bind fun r0=>cond (decide ((0:Int)≤b)) (cond (decide (b < (↑(List.length a.2.2.1):Int))) (cond (decide ((0:Int)≤c)) (cond (decide (c < (↑(List.length (List.getD a.2.2.1 b.toNat (false,[],[])).2.2):Int))) (some ((((r0.1.1.1,r0.1.1.2),((a.2.1.1,a.2.1.2),(List.set a.2.2.1 b.toNat ((List.getD a.2.2.1 b.toNat (false,[],[])).1,(List.getD a.2.2.1 b.toNat (false,[],[])).2.1,List.set (List.getD a.2.2.1 b.toNat (false,[],[])).2.2 c.toNat ((0:Int),(0:Int),false,false)),a.2.2.2))),()),())) (none)) (none)) (none)) (none)) (cond (decide ((List.getD (List.getD a.2.2.1 b.toNat (false,[],[])).2.2 c.toNat ((0:Int),(0:Int),false,false)).1=(2:Int))) ((q160 n ((a.2.1.1,a.2.1.2),(List.getD (List.getD a.2.2.1 b.toNat (false,[],[])).2.2 c.toNat ((0:Int),(0:Int),false,false)).2.1,())).bind fun r1=>cond (decide ((0:Int)≤b)) (cond (decide (b < (↑(List.length a.2.2.1):Int))) (cond (decide ((0:Int)≤c)) (cond (decide (c < (↑(List.length (List.getD a.2.2.1 b.toNat (false,[],[])).2.2):Int))) (some ((((a.1.1,a.1.2),((r1.1.1.1,r1.1.1.2),(List.set a.2.2.1 b.toNat ((List.getD a.2.2.1 b.toNat (false,[],[])).1,(List.getD a.2.2.1 b.toNat (false,[],[])).2.1,List.set (List.getD a.2.2.1 b.toNat (false,[],[])).2.2 c.toNat ((0:Int),(0:Int),false,false)),a.2.2.2))),()),())) (none)) (none)) (none)) (none)) (cond (decide ((0:Int)≤b)) (cond (decide (b < (↑(List.length a.2.2.1):Int))) (cond (decide ((0:Int)≤c)) (cond (decide (c < (↑(List.length (List.getD a.2.2.1 b.toNat (false,[],[])).2.2):Int))) (some ((((a.1.1,a.1.2),((a.2.1.1,a.2.1.2),(List.set a.2.2.1 b.toNat ((List.getD a.2.2.1 b.toNat (false,[],[])).1,(List.getD a.2.2.1 b.toNat (false,[],[])).2.1,List.set (List.getD a.2.2.1 b.toNat (false,[],[])).2.2 c.toNat ((0:Int),(0:Int),false,false)),a.2.2.2))),()),())) (none)) (none)) (none)) (none)))) (none)) (none)) (none)) (none)
theorem e122_top (n:Nat) (a:(Lb × List Int) × (Lb × List Int) × List (Bool × Lq × Lq) × Int) (b:Int) (c:Int):runF TT G122 an122 Try.f122 c122 ps122 rs122 n (a,b,c,())=st122_top n a b c:=by kernel_rfl
noncomputable def p122 (n:Nat) (a:(Lb × List Int) × (Lb × List Int) × List (Bool × Lq × Lq) × Int) (b:Int) (c:Int):Option R122:=st122_top n a b c
theorem F122_eq (n:Nat) (a:(Lb × List Int) × (Lb × List Int) × List (Bool × Lq × Lq) × Int) (b:Int) (c:Int):runF TT G122 an122 Try.f122 c122 ps122 rs122 n (a,b,c,())=p122 n a b c:=by
 rw [e122_top]
 skip
 try rfl
noncomputable def q122 (n:Nat) (x:argsD ps122):Option R122:=p122 n x.1 x.2.1 x.2.2.1
noncomputable def Sm122:Sm:=⟨ps122,rs122,false,q122⟩
theorem holds122 (hg:GamOK Try.prog G122):Holds Try.prog 122 Sm122:=by
 have:=h0_122 hg
 have e:(runF TT G122 an122 Try.f122 c122 ps122 rs122)=q122:=by
  funext n x
  exact F122_eq n x.1 x.2.1 x.2.2.1
 rw [e] at this
 exact this
theorem gam122:GamOK Try.prog G122:=by
 intro f s h
 unfold G122 at h
 split at h
 ·injection h with h; subst h; exact ⟨⟨Try.f160,c160,Try.func160,by kernel_rfl,by decide +kernel⟩,hh160⟩
 ·cases h
theorem hh122:Holds Try.prog 122 Sm122:=holds122 gam122
end Go.Proofs.Ytdkaagpkeomhmaa.Rx.S

namespace Go.Proofs.Ytdkaagpkeomhmaa.Rx.S
open Go Go.RowKit Go.Proofs
set_option maxRecDepth 100000
noncomputable def c55:Code:=(Try.f55.body.getD .skip)
def an55:An:=⟨fun r=>match r with | 6=>⟨[1,2,3,4,8,12],[]⟩ | _=>⟨[],[]⟩,fun _ _=>none⟩
abbrev ps55:List PK:=[.own tMem true,.val i64 false,.val i64 false,.val i64 false]
abbrev rs55:List RK:=[.own tMem true,.val i64 false]
abbrev R55:=retsD rs55 × outsD ps55
noncomputable def G55:Gam:=fun f=>match f with | 121=>some Sm121 | 122=>some Sm122 | _=>none
theorem h0_55 (hg:GamOK Try.prog G55):Holds Try.prog 55 ⟨ps55,rs55,false,runF TT G55 an55 Try.f55 c55 ps55 rs55⟩:=holds_of tt_ok hg mixed Try.func55 (by kernel_rfl) (by rfl) (by decide +kernel)
noncomputable def at55:Nat→Pt→List Nat→St→Option R55:=atF TT G55 an55 Try.f55 c55 _ _
def sh55_L6 (x0 x1 x2 x3 x4 x5:Int) (x6:Lb) (x7:List Int) (x8:Lb) (x9:List Int) (x10:List (Bool × Lq × Lq)):St:=(St.mk [Uu,AV.one (SV.int (Go.IntKind.i64) x0),AV.one (SV.int (Go.IntKind.i64) x1),AV.one (SV.int (Go.IntKind.i64) x2),AV.one (SV.bptr 1000000 0),Uu,Uu,Uu,AV.one (SV.bptr 1000001 0),Uu,Uu,Uu,AV.one (SV.int (Go.IntKind.i64) x3),Uu,Uu,Uu,Uu,Uu,Uu,Uu,Uu,Uu,Uu,Uu,Uu,Uu,Uu,Uu,Uu,Uu,Uu,Uu,Uu,Uu,Uu,Uu,Uu,Uu,Uu,Uu,Uu,Uu,Uu,Uu,Uu,Uu,Uu] ((1000000,(Ent.box ((SV.ref 1000002 0 [] Option.none) :: ((SV.ref 1000003 0 [] Option.none) :: ((SV.ref 1000004 0 [] Option.none) :: ((SV.ref 1000005 0 [] Option.none) :: ((SV.ref 1000006 0 [] Option.none) :: ((SV.int (Go.IntKind.i64) x4) :: [])))))))) :: ((1000001,(Ent.box (SV.nil :: (SV.nil :: (SV.nil :: (SV.nil :: (SV.nil :: ((SV.int (Go.IntKind.i64) x5) :: [])))))))) :: ((1000002,(Ent.row (⟨9,Ty.str,x6⟩:Rw) 0 Option.none)) :: ((1000003,(Ent.row (⟨3,Ty.int Go.IntKind.i64,x7⟩:Rw) 0 Option.none)) :: ((1000004,(Ent.row (⟨9,Ty.str,x8⟩:Rw) 0 Option.none)) :: ((1000005,(Ent.row (⟨3,Ty.int Go.IntKind.i64,x9⟩:Rw) 0 Option.none)) :: ((1000006,(Ent.row (⟨71,Ty.bool.pair ((Ty.row (nat_lit 116) ((Ty.int Go.IntKind.i64).pair ((Ty.int Go.IntKind.i64).pair (Ty.bool.pair Ty.bool)))).pair (Ty.row (nat_lit 80) ((Ty.int Go.IntKind.i64).pair ((Ty.int Go.IntKind.i64).pair (Ty.bool.pair Ty.bool))))),x10⟩:Rw) 0 Option.none)) :: []))))))))
noncomputable def st55_top (n:Nat) (lL6:Int→Int→Int→Int→Int→Int→(Lb)→(List Int)→(Lb)→(List Int)→(List (Bool × Lq × Lq))→Option R55) (a:(Lb × List Int) × (Lb × List Int) × List (Bool × Lq × Lq) × Int) (b:Int) (c:Int) (d:Int):Option R55 :=
 cond (decide ((0:Int)≤b)) (cond (decide (b < (↑(List.length a.2.2.1):Int))) ((q121 n ((List.getD a.2.2.1 b.toNat (false,[],[])).2.1,c,d,())).bind fun r0=>cond (!r0.1.2.1) (some ((((a.1.1,a.1.2),((a.2.1.1,a.2.1.2),(a.2.2.1,a.2.2.2))),((4:Int),())),())) (cond (decide ((0:Int)≤b)) (cond (decide (b < (↑(List.length a.2.2.1):Int))) (lL6 (b) (c) (d) (c) (a.2.2.2) ((0:Int)) (a.1.1) (a.1.2) (a.2.1.1) (a.2.1.2) (List.set a.2.2.1 b.toNat ((List.getD a.2.2.1 b.toNat (false,[],[])).1,r0.1.1,(List.getD a.2.2.1 b.toNat (false,[],[])).2.2))) (none)) (none))) (none)) (none)
noncomputable def st55_L6 (n:Nat) (lL6:Int→Int→Int→Int→Int→Int→(Lb)→(List Int)→(Lb)→(List Int)→(List (Bool × Lq × Lq))→Option R55) (x0 x1 x2 x3 x4 x5:Int) (x6:Lb) (x7:List Int) (x8:Lb) (x9:List Int) (x10:List (Bool × Lq × Lq)):Option R55 :=
 cond (decide (x3 < Go.IntKind.i64.wrap (x1 + x2))) ((q122 n (((x6,x7),(x8,x9),x10,x4),x0,x3,())).bind fun r2=>lL6 (x0) (x1) (x2) (Go.IntKind.i64.wrap (x3 + (1:Int))) (r2.1.1.2.2.2) (x5) (r2.1.1.1.1) (r2.1.1.1.2) (r2.1.1.2.1.1) (r2.1.1.2.1.2) (r2.1.1.2.2.1)) (some ((((x6,x7),((x8,x9),(x10,x4))),((0:Int),())),()))
theorem e55_top (n:Nat) (a:(Lb × List Int) × (Lb × List Int) × List (Bool × Lq × Lq) × Int) (b:Int) (c:Int) (d:Int):runF TT G55 an55 Try.f55 c55 ps55 rs55 n (a,b,c,d,())=st55_top n (fun x0 x1 x2 x3 x4 x5 x6 x7 x8 x9 x10=>at55 n (.head 6) [n] (sh55_L6 x0 x1 x2 x3 x4 x5 x6 x7 x8 x9 x10)) a b c d:=by kernel_rfl
theorem e55_L6_0 (n:Nat) (x0 x1 x2 x3 x4 x5:Int) (x6:Lb) (x7:List Int) (x8:Lb) (x9:List Int) (x10:List (Bool × Lq × Lq)):at55 n (.head 6) [0] (sh55_L6 x0 x1 x2 x3 x4 x5 x6 x7 x8 x9 x10)=none:=by kernel_rfl
theorem e55_L6 (n:Nat) (m6:Nat) (x0 x1 x2 x3 x4 x5:Int) (x6:Lb) (x7:List Int) (x8:Lb) (x9:List Int) (x10:List (Bool × Lq × Lq)):at55 n (.head 6) [m6 + 1] (sh55_L6 x0 x1 x2 x3 x4 x5 x6 x7 x8 x9 x10)=st55_L6 n (fun x0 x1 x2 x3 x4 x5 x6 x7 x8 x9 x10=>at55 n (.head 6) [m6] (sh55_L6 x0 x1 x2 x3 x4 x5 x6 x7 x8 x9 x10)) x0 x1 x2 x3 x4 x5 x6 x7 x8 x9 x10:=by kernel_rfl
noncomputable def p55_L6 (n:Nat):Nat→Int→Int→Int→Int→Int→Int→(Lb)→(List Int)→(Lb)→(List Int)→(List (Bool × Lq × Lq))→Option R55
 | 0,_,_,_,_,_,_,_,_,_,_,_=>none
 | m + 1,x0,x1,x2,x3,x4,x5,x6,x7,x8,x9,x10=>st55_L6 n (p55_L6 n m) x0 x1 x2 x3 x4 x5 x6 x7 x8 x9 x10
noncomputable def p55 (n:Nat) (a:(Lb × List Int) × (Lb × List Int) × List (Bool × Lq × Lq) × Int) (b:Int) (c:Int) (d:Int):Option R55:=st55_top n (p55_L6 n n) a b c d
theorem t55_L6 (n:Nat):∀ (m6:Nat) (x0 x1 x2 x3 x4 x5:Int) (x6:Lb) (x7:List Int) (x8:Lb) (x9:List Int) (x10:List (Bool × Lq × Lq)),at55 n (.head 6) [m6] (sh55_L6 x0 x1 x2 x3 x4 x5 x6 x7 x8 x9 x10)=p55_L6 n m6 x0 x1 x2 x3 x4 x5 x6 x7 x8 x9 x10:=by
 intro m
 induction m with
 | zero=>intros; rw [e55_L6_0]; rfl
 | succ m ih =>
  intros
  rw [e55_L6]
  try simp only [ih]
  rfl
theorem F55_eq (n:Nat) (a:(Lb × List Int) × (Lb × List Int) × List (Bool × Lq × Lq) × Int) (b:Int) (c:Int) (d:Int):runF TT G55 an55 Try.f55 c55 ps55 rs55 n (a,b,c,d,())=p55 n a b c d:=by
 rw [e55_top]
 simp only [t55_L6]
 try rfl
noncomputable def q55 (n:Nat) (x:argsD ps55):Option R55:=p55 n x.1 x.2.1 x.2.2.1 x.2.2.2.1
noncomputable def Sm55:Sm:=⟨ps55,rs55,false,q55⟩
theorem holds55 (hg:GamOK Try.prog G55):Holds Try.prog 55 Sm55:=by
 have:=h0_55 hg
 have e:(runF TT G55 an55 Try.f55 c55 ps55 rs55)=q55:=by
  funext n x
  exact F55_eq n x.1 x.2.1 x.2.2.1 x.2.2.2.1
 rw [e] at this
 exact this
theorem gam55:GamOK Try.prog G55:=by
 intro f s h
 unfold G55 at h
 split at h
 ·injection h with h; subst h; exact ⟨⟨Try.f121,c121,Try.func121,by kernel_rfl,by decide +kernel⟩,hh121⟩
 ·injection h with h; subst h; exact ⟨⟨Try.f122,c122,Try.func122,by kernel_rfl,by decide +kernel⟩,hh122⟩
 ·cases h
theorem hh55:Holds Try.prog 55 Sm55:=holds55 gam55
end Go.Proofs.Ytdkaagpkeomhmaa.Rx.S

namespace Go.Proofs.Ytdkaagpkeomhmaa.Rx.S
open Go Go.RowKit Go.Proofs
set_option maxRecDepth 100000
noncomputable def c103:Code:=(Try.f103.body.getD .skip)
def an103:An:=⟨fun r=>match r with | 2=>⟨[1,2,4,5],[]⟩ | _=>⟨[],[]⟩,fun _ _=>none⟩
abbrev ps103:List PK:=[.own tMem true,.val i64 false]
abbrev rs103:List RK:=[.own tMem true]
abbrev R103:=retsD rs103 × outsD ps103
noncomputable def G103:Gam:=fun f=>match f with | 122=>some Sm122 | _=>none
theorem h0_103 (hg:GamOK Try.prog G103):Holds Try.prog 103 ⟨ps103,rs103,false,runF TT G103 an103 Try.f103 c103 ps103 rs103⟩:=holds_of tt_ok hg mixed Try.func103 (by kernel_rfl) (by rfl) (by decide +kernel)
noncomputable def at103:Nat→Pt→List Nat→St→Option R103:=atF TT G103 an103 Try.f103 c103 _ _
def sh103_L2 (x0 x1 x2 x3:Int) (x4:Lb) (x5:List Int) (x6:Lb) (x7:List Int) (x8:List (Bool × Lq × Lq)):St:=(St.mk [Uu,AV.one (SV.int (Go.IntKind.i64) x0),AV.one (SV.bptr 1000000 0),Uu,AV.one (SV.bptr 1000001 0),AV.one (SV.int (Go.IntKind.i64) x1),Uu,Uu,Uu,Uu,Uu,Uu,Uu,Uu,Uu,Uu,Uu,Uu,Uu,Uu] ((1000000,(Ent.box ((SV.ref 1000002 0 [] Option.none) :: ((SV.ref 1000003 0 [] Option.none) :: ((SV.ref 1000004 0 [] Option.none) :: ((SV.ref 1000005 0 [] Option.none) :: ((SV.ref 1000006 0 [] Option.none) :: ((SV.int (Go.IntKind.i64) x2) :: [])))))))) :: ((1000001,(Ent.box (SV.nil :: (SV.nil :: (SV.nil :: (SV.nil :: (SV.nil :: ((SV.int (Go.IntKind.i64) x3) :: [])))))))) :: ((1000002,(Ent.row (⟨9,Ty.str,x4⟩:Rw) 0 Option.none)) :: ((1000003,(Ent.row (⟨3,Ty.int Go.IntKind.i64,x5⟩:Rw) 0 Option.none)) :: ((1000004,(Ent.row (⟨9,Ty.str,x6⟩:Rw) 0 Option.none)) :: ((1000005,(Ent.row (⟨3,Ty.int Go.IntKind.i64,x7⟩:Rw) 0 Option.none)) :: ((1000006,(Ent.row (⟨71,Ty.bool.pair ((Ty.row (nat_lit 116) ((Ty.int Go.IntKind.i64).pair ((Ty.int Go.IntKind.i64).pair (Ty.bool.pair Ty.bool)))).pair (Ty.row (nat_lit 80) ((Ty.int Go.IntKind.i64).pair ((Ty.int Go.IntKind.i64).pair (Ty.bool.pair Ty.bool))))),x8⟩:Rw) 0 Option.none)) :: []))))))))
noncomputable def st103_top (n:Nat) (lL2:Int→Int→Int→Int→(Lb)→(List Int)→(Lb)→(List Int)→(List (Bool × Lq × Lq))→Option R103) (a:(Lb × List Int) × (Lb × List Int) × List (Bool × Lq × Lq) × Int) (b:Int):Option R103 :=
 lL2 (b) ((0:Int)) (a.2.2.2) ((0:Int)) (a.1.1) (a.1.2) (a.2.1.1) (a.2.1.2) (a.2.2.1)
noncomputable def st103_L2 (n:Nat) (lL2:Int→Int→Int→Int→(Lb)→(List Int)→(Lb)→(List Int)→(List (Bool × Lq × Lq))→Option R103) (x0 x1 x2 x3:Int) (x4:Lb) (x5:List Int) (x6:Lb) (x7:List Int) (x8:List (Bool × Lq × Lq)):Option R103 :=
 cond (decide (x1 < (16:Int))) ((q122 n (((x4,x5),(x6,x7),x8,x2),x0,x1,())).bind fun r1=>lL2 (x0) (Go.IntKind.i64.wrap (x1 + (1:Int))) (r1.1.1.2.2.2) (x3) (r1.1.1.1.1) (r1.1.1.1.2) (r1.1.1.2.1.1) (r1.1.1.2.1.2) (r1.1.1.2.2.1)) (cond (decide ((0:Int)≤x0)) (cond (decide (x0 < (↑x8.length:Int))) (some ((((x4,x5),((x6,x7),(x8.set x0.toNat (false,[],[]),x2))),()),())) (none)) (none))
theorem e103_top (n:Nat) (a:(Lb × List Int) × (Lb × List Int) × List (Bool × Lq × Lq) × Int) (b:Int):runF TT G103 an103 Try.f103 c103 ps103 rs103 n (a,b,())=st103_top n (fun x0 x1 x2 x3 x4 x5 x6 x7 x8=>at103 n (.head 2) [n] (sh103_L2 x0 x1 x2 x3 x4 x5 x6 x7 x8)) a b:=by kernel_rfl
theorem e103_L2_0 (n:Nat) (x0 x1 x2 x3:Int) (x4:Lb) (x5:List Int) (x6:Lb) (x7:List Int) (x8:List (Bool × Lq × Lq)):at103 n (.head 2) [0] (sh103_L2 x0 x1 x2 x3 x4 x5 x6 x7 x8)=none:=by kernel_rfl
theorem e103_L2 (n:Nat) (m2:Nat) (x0 x1 x2 x3:Int) (x4:Lb) (x5:List Int) (x6:Lb) (x7:List Int) (x8:List (Bool × Lq × Lq)):at103 n (.head 2) [m2 + 1] (sh103_L2 x0 x1 x2 x3 x4 x5 x6 x7 x8)=st103_L2 n (fun x0 x1 x2 x3 x4 x5 x6 x7 x8=>at103 n (.head 2) [m2] (sh103_L2 x0 x1 x2 x3 x4 x5 x6 x7 x8)) x0 x1 x2 x3 x4 x5 x6 x7 x8:=by kernel_rfl
noncomputable def p103_L2 (n:Nat):Nat→Int→Int→Int→Int→(Lb)→(List Int)→(Lb)→(List Int)→(List (Bool × Lq × Lq))→Option R103
 | 0,_,_,_,_,_,_,_,_,_=>none
 | m + 1,x0,x1,x2,x3,x4,x5,x6,x7,x8=>st103_L2 n (p103_L2 n m) x0 x1 x2 x3 x4 x5 x6 x7 x8
noncomputable def p103 (n:Nat) (a:(Lb × List Int) × (Lb × List Int) × List (Bool × Lq × Lq) × Int) (b:Int):Option R103:=st103_top n (p103_L2 n n) a b
theorem t103_L2 (n:Nat):∀ (m2:Nat) (x0 x1 x2 x3:Int) (x4:Lb) (x5:List Int) (x6:Lb) (x7:List Int) (x8:List (Bool × Lq × Lq)),at103 n (.head 2) [m2] (sh103_L2 x0 x1 x2 x3 x4 x5 x6 x7 x8)=p103_L2 n m2 x0 x1 x2 x3 x4 x5 x6 x7 x8:=by
 intro m
 induction m with
 | zero=>intros; rw [e103_L2_0]; rfl
 | succ m ih =>
  intros
  rw [e103_L2]
  try simp only [ih]
  rfl
theorem F103_eq (n:Nat) (a:(Lb × List Int) × (Lb × List Int) × List (Bool × Lq × Lq) × Int) (b:Int):runF TT G103 an103 Try.f103 c103 ps103 rs103 n (a,b,())=p103 n a b:=by
 rw [e103_top]
 simp only [t103_L2]
 try rfl
noncomputable def q103 (n:Nat) (x:argsD ps103):Option R103:=p103 n x.1 x.2.1
noncomputable def Sm103:Sm:=⟨ps103,rs103,false,q103⟩
theorem holds103 (hg:GamOK Try.prog G103):Holds Try.prog 103 Sm103:=by
 have:=h0_103 hg
 have e:(runF TT G103 an103 Try.f103 c103 ps103 rs103)=q103:=by
  funext n x
  exact F103_eq n x.1 x.2.1
 rw [e] at this
 exact this
theorem gam103:GamOK Try.prog G103:=by
 intro f s h
 unfold G103 at h
 split at h
 ·injection h with h; subst h; exact ⟨⟨Try.f122,c122,Try.func122,by kernel_rfl,by decide +kernel⟩,hh122⟩
 ·cases h
theorem hh103:Holds Try.prog 103 Sm103:=holds103 gam103
end Go.Proofs.Ytdkaagpkeomhmaa.Rx.S

namespace Go.Proofs.Ytdkaagpkeomhmaa.Rx.S
open Go Go.RowKit Go.Proofs
set_option maxRecDepth 100000
noncomputable def c170:Code:=(Try.f170.body.getD .skip)
def an170:An:=⟨fun r=>match r with | 4=>⟨[0,3,5,6,7],[]⟩ | _=>⟨[],[]⟩,fun _ _=>none⟩
abbrev ps170:List PK:=[.val (.row 116 tAr) false,.val tAr true]
abbrev rs170:List RK:=[.own (.row 116 tAr) false]
abbrev R170:=retsD rs170 × outsD ps170
noncomputable def G170:Gam:=fun _=>none
theorem h0_170 (hg:GamOK Try.prog G170):Holds Try.prog 170 ⟨ps170,rs170,false,runF TT G170 an170 Try.f170 c170 ps170 rs170⟩:=holds_of tt_ok hg mixed Try.func170 (by kernel_rfl) (by rfl) (by decide +kernel)
noncomputable def at170:Nat→Pt→List Nat→St→Option R170:=atF TT G170 an170 Try.f170 c170 _ _
def sh170_L4 (x0:Lq) (x1:Bool) (x2 x3 x4:Int) (x5 x6:Bool) (x7:Lq):St:=(St.mk [AV.one (SV.con (⟨116,(Ty.int Go.IntKind.i64).pair ((Ty.int Go.IntKind.i64).pair (Ty.bool.pair Ty.bool)),x0⟩:Rw)),Uu,Uu,AV.one (SV.bptr 1000000 0),Uu,AV.one (SV.ref 1000001 0 [] Option.none),AV.one (SV.bool x1),AV.one (SV.int (Go.IntKind.i64) x2),Uu,Uu,Uu,Uu,Uu,Uu,Uu,Uu,Uu,Uu,Uu,Uu,Uu,Uu,Uu,Uu,Uu,Uu,Uu,Uu,Uu,Uu,Uu,Uu,Uu,Uu,Uu,Uu,Uu,Uu,Uu,Uu,Uu,Uu,Uu,Uu,Uu] ((1000000,(Ent.box ((SV.int (Go.IntKind.i64) x3) :: ((SV.int (Go.IntKind.i64) x4) :: ((SV.bool x5) :: ((SV.bool x6) :: [])))))) :: ((1000001,(Ent.row (⟨116,(Ty.int Go.IntKind.i64).pair ((Ty.int Go.IntKind.i64).pair (Ty.bool.pair Ty.bool)),x7⟩:Rw) 0 Option.none)) :: [])))
noncomputable def st170_top (n:Nat) (lL4:(Lq)→Bool→Int→Int→Int→Bool→Bool→(Lq)→Option R170) (a:Lq) (b:Aq):Option R170 :=
 lL4 (a) (false) ((0:Int)) (b.1) (b.2.1) (b.2.2.1) (b.2.2.2) ([])
noncomputable def st170_L4 (n:Nat) (lL4:(Lq)→Bool→Int→Int→Int→Bool→Bool→(Lq)→Option R170) (x0:Lq) (x1:Bool) (x2 x3 x4:Int) (x5 x6:Bool) (x7:Lq):Option R170 :=
 cond (decide (x2 < (↑x0.length:Int))) (cond (!x1) (cond (decide ((0:Int)≤x2)) (cond (decide (x2 < (↑x0.length:Int))) (cond (decide (x3≤(x0.getD x2.toNat ((0:Int),(0:Int),false,false)).1)) (cond (decide ((x7.length + [(x3,x4,x5,x6)].length) * (24:Nat)≤(140737488355328:Nat))) (cond (decide ((0:Int)≤x2)) (cond (decide (x2 < (↑x0.length:Int))) (cond (decide (((x7 ++ [(x3,x4,x5,x6)]).length + [((x0.getD x2.toNat ((0:Int),(0:Int),false,false)).1,(x0.getD x2.toNat ((0:Int),(0:Int),false,false)).2.1,(x0.getD x2.toNat ((0:Int),(0:Int),false,false)).2.2.1,(x0.getD x2.toNat ((0:Int),(0:Int),false,false)).2.2.2)].length) * (24:Nat)≤(140737488355328:Nat))) (lL4 (x0) (true) (Go.IntKind.i64.wrap (x2 + (1:Int))) (x3) (x4) (x5) (x6) (x7 ++ [(x3,x4,x5,x6)] ++ [((x0.getD x2.toNat ((0:Int),(0:Int),false,false)).1,(x0.getD x2.toNat ((0:Int),(0:Int),false,false)).2.1,(x0.getD x2.toNat ((0:Int),(0:Int),false,false)).2.2.1,(x0.getD x2.toNat ((0:Int),(0:Int),false,false)).2.2.2)])) (none)) (none)) (none)) (none)) (cond (decide ((0:Int)≤x2)) (cond (decide (x2 < (↑x0.length:Int))) (cond (decide ((x7.length + [((x0.getD x2.toNat ((0:Int),(0:Int),false,false)).1,(x0.getD x2.toNat ((0:Int),(0:Int),false,false)).2.1,(x0.getD x2.toNat ((0:Int),(0:Int),false,false)).2.2.1,(x0.getD x2.toNat ((0:Int),(0:Int),false,false)).2.2.2)].length) * (24:Nat)≤(140737488355328:Nat))) (lL4 (x0) (x1) (Go.IntKind.i64.wrap (x2 + (1:Int))) (x3) (x4) (x5) (x6) (x7 ++ [((x0.getD x2.toNat ((0:Int),(0:Int),false,false)).1,(x0.getD x2.toNat ((0:Int),(0:Int),false,false)).2.1,(x0.getD x2.toNat ((0:Int),(0:Int),false,false)).2.2.1,(x0.getD x2.toNat ((0:Int),(0:Int),false,false)).2.2.2)])) (none)) (none)) (none))) (none)) (none)) (cond (decide ((0:Int)≤x2)) (cond (decide (x2 < (↑x0.length:Int))) (cond (decide ((x7.length + [((x0.getD x2.toNat ((0:Int),(0:Int),false,false)).1,(x0.getD x2.toNat ((0:Int),(0:Int),false,false)).2.1,(x0.getD x2.toNat ((0:Int),(0:Int),false,false)).2.2.1,(x0.getD x2.toNat ((0:Int),(0:Int),false,false)).2.2.2)].length) * (24:Nat)≤(140737488355328:Nat))) (lL4 (x0) (x1) (Go.IntKind.i64.wrap (x2 + (1:Int))) (x3) (x4) (x5) (x6) (x7 ++ [((x0.getD x2.toNat ((0:Int),(0:Int),false,false)).1,(x0.getD x2.toNat ((0:Int),(0:Int),false,false)).2.1,(x0.getD x2.toNat ((0:Int),(0:Int),false,false)).2.2.1,(x0.getD x2.toNat ((0:Int),(0:Int),false,false)).2.2.2)])) (none)) (none)) (none))) (cond (!x1) (cond (decide ((x7.length + [(x3,x4,x5,x6)].length) * (24:Nat)≤(140737488355328:Nat))) (some ((x7 ++ [(x3,x4,x5,x6)],()),())) (none)) (some ((x7,()),())))
theorem e170_top (n:Nat) (a:Lq) (b:Aq):runF TT G170 an170 Try.f170 c170 ps170 rs170 n (a,b,())=st170_top n (fun x0 x1 x2 x3 x4 x5 x6 x7=>at170 n (.head 4) [n] (sh170_L4 x0 x1 x2 x3 x4 x5 x6 x7)) a b:=by kernel_rfl
theorem e170_L4_0 (n:Nat) (x0:Lq) (x1:Bool) (x2 x3 x4:Int) (x5 x6:Bool) (x7:Lq):at170 n (.head 4) [0] (sh170_L4 x0 x1 x2 x3 x4 x5 x6 x7)=none:=by kernel_rfl
theorem e170_L4 (n:Nat) (m4:Nat) (x0:Lq) (x1:Bool) (x2 x3 x4:Int) (x5 x6:Bool) (x7:Lq):at170 n (.head 4) [m4 + 1] (sh170_L4 x0 x1 x2 x3 x4 x5 x6 x7)=st170_L4 n (fun x0 x1 x2 x3 x4 x5 x6 x7=>at170 n (.head 4) [m4] (sh170_L4 x0 x1 x2 x3 x4 x5 x6 x7)) x0 x1 x2 x3 x4 x5 x6 x7:=by kernel_rfl
noncomputable def p170_L4 (n:Nat):Nat→(Lq)→Bool→Int→Int→Int→Bool→Bool→(Lq)→Option R170
 | 0,_,_,_,_,_,_,_,_=>none
 | m + 1,x0,x1,x2,x3,x4,x5,x6,x7=>st170_L4 n (p170_L4 n m) x0 x1 x2 x3 x4 x5 x6 x7
noncomputable def p170 (n:Nat) (a:Lq) (b:Aq):Option R170:=st170_top n (p170_L4 n n) a b
theorem t170_L4 (n:Nat):∀ (m4:Nat) (x0:Lq) (x1:Bool) (x2 x3 x4:Int) (x5 x6:Bool) (x7:Lq),at170 n (.head 4) [m4] (sh170_L4 x0 x1 x2 x3 x4 x5 x6 x7)=p170_L4 n m4 x0 x1 x2 x3 x4 x5 x6 x7:=by
 intro m
 induction m with
 | zero=>intros; rw [e170_L4_0]; rfl
 | succ m ih =>
  intros
  rw [e170_L4]
  try simp only [ih]
  rfl
theorem F170_eq (n:Nat) (a:Lq) (b:Aq):runF TT G170 an170 Try.f170 c170 ps170 rs170 n (a,b,())=p170 n a b:=by
 rw [e170_top]
 simp only [t170_L4]
 try rfl
noncomputable def q170 (n:Nat) (x:argsD ps170):Option R170:=p170 n x.1 x.2.1
noncomputable def Sm170:Sm:=⟨ps170,rs170,false,q170⟩
theorem holds170 (hg:GamOK Try.prog G170):Holds Try.prog 170 Sm170:=by
 have:=h0_170 hg
 have e:(runF TT G170 an170 Try.f170 c170 ps170 rs170)=q170:=by
  funext n x
  exact F170_eq n x.1 x.2.1
 rw [e] at this
 exact this
theorem gam170:GamOK Try.prog G170:=fun _ _ h=>by cases h
theorem hh170:Holds Try.prog 170 Sm170:=holds170 gam170
end Go.Proofs.Ytdkaagpkeomhmaa.Rx.S

namespace Go.Proofs.Ytdkaagpkeomhmaa.Rx.S
open Go Go.RowKit Go.Proofs
set_option maxRecDepth 100000
noncomputable def c152:Code:=(Try.f152.body.getD .skip)
def an152:An:=⟨fun _=>⟨[],[]⟩,fun _ _=>none⟩
abbrev ps152:List PK:=[.val (.row 116 tAr) false,.val tAr true]
abbrev rs152:List RK:=[.own (.row 116 tAr) false,.val .bool false]
abbrev R152:=retsD rs152 × outsD ps152
noncomputable def G152:Gam:=fun f=>match f with | 127=>some Sm127 | 158=>some Sm158 | 170=>some Sm170 | _=>none
theorem h0_152 (hg:GamOK Try.prog G152):Holds Try.prog 152 ⟨ps152,rs152,false,runF TT G152 an152 Try.f152 c152 ps152 rs152⟩:=holds_of tt_ok hg mixed Try.func152 (by kernel_rfl) (by rfl) (by decide +kernel)
noncomputable def st152_top (n:Nat) (a:Lq) (b:Aq):Option R152 :=
 (q127 n (a,())).bind fun r0=>cond (!r0.1.1) (some (([],(false,())),())) ((q158 n ((b.1,b.2.1,b.2.2.1,b.2.2.2),())).bind fun r1=>cond (!r1.1.1) (some (([],(false,())),())) ((q170 n (a,(b.1,b.2.1,b.2.2.1,b.2.2.2),())).bind fun r2=>(q127 n (r2.1.1,())).bind fun r3=>cond (!r3.1.1) (some (([],(false,())),())) (some ((r2.1.1,(true,())),()))))
theorem e152_top (n:Nat) (a:Lq) (b:Aq):runF TT G152 an152 Try.f152 c152 ps152 rs152 n (a,b,())=st152_top n a b:=by kernel_rfl
noncomputable def p152 (n:Nat) (a:Lq) (b:Aq):Option R152:=st152_top n a b
theorem F152_eq (n:Nat) (a:Lq) (b:Aq):runF TT G152 an152 Try.f152 c152 ps152 rs152 n (a,b,())=p152 n a b:=by
 rw [e152_top]
 skip
 try rfl
noncomputable def q152 (n:Nat) (x:argsD ps152):Option R152:=p152 n x.1 x.2.1
noncomputable def Sm152:Sm:=⟨ps152,rs152,false,q152⟩
theorem holds152 (hg:GamOK Try.prog G152):Holds Try.prog 152 Sm152:=by
 have:=h0_152 hg
 have e:(runF TT G152 an152 Try.f152 c152 ps152 rs152)=q152:=by
  funext n x
  exact F152_eq n x.1 x.2.1
 rw [e] at this
 exact this
theorem gam152:GamOK Try.prog G152:=by
 intro f s h
 unfold G152 at h
 split at h
 ·injection h with h; subst h; exact ⟨⟨Try.f127,c127,Try.func127,by kernel_rfl,by decide +kernel⟩,hh127⟩
 ·injection h with h; subst h; exact ⟨⟨Try.f158,c158,Try.func158,by kernel_rfl,by decide +kernel⟩,hh158⟩
 ·injection h with h; subst h; exact ⟨⟨Try.f170,c170,Try.func170,by kernel_rfl,by decide +kernel⟩,hh170⟩
 ·cases h
theorem hh152:Holds Try.prog 152 Sm152:=holds152 gam152
end Go.Proofs.Ytdkaagpkeomhmaa.Rx.S

namespace Go.Proofs.Ytdkaagpkeomhmaa.Rx.S
open Go Go.RowKit Go.Proofs
set_option maxRecDepth 100000
noncomputable def c108:Code:=(Try.f108.body.getD .skip)
def an108:An:=⟨fun _=>⟨[],[]⟩,fun _ _=>none⟩
abbrev ps108:List PK:=[.own tMem true,.val i64 false,.val tAr true]
abbrev rs108:List RK:=[.own tMem true,.val i64 false]
abbrev R108:=retsD rs108 × outsD ps108
noncomputable def G108:Gam:=fun f=>match f with | 152=>some Sm152 | _=>none
theorem h0_108 (hg:GamOK Try.prog G108):Holds Try.prog 108 ⟨ps108,rs108,false,runF TT G108 an108 Try.f108 c108 ps108 rs108⟩:=holds_of tt_ok hg mixed Try.func108 (by kernel_rfl) (by rfl) (by decide +kernel)
noncomputable def st108_top (n:Nat) (a:(Lb × List Int) × (Lb × List Int) × List (Bool × Lq × Lq) × Int) (b:Int) (c:Aq):Option R108 :=
 cond (decide ((0:Int)≤b)) (cond (decide (b < (↑(List.length a.2.2.1):Int))) ((q152 n ((List.getD a.2.2.1 b.toNat (false,[],[])).2.1,(c.1,c.2.1,c.2.2.1,c.2.2.2),())).bind fun r0=>cond (!r0.1.2.1) (some ((((a.1.1,a.1.2),((a.2.1.1,a.2.1.2),(a.2.2.1,a.2.2.2))),((4:Int),())),())) (cond (decide ((0:Int)≤b)) (cond (decide (b < (↑(List.length a.2.2.1):Int))) (some ((((a.1.1,a.1.2),((a.2.1.1,a.2.1.2),(List.set a.2.2.1 b.toNat ((List.getD a.2.2.1 b.toNat (false,[],[])).1,r0.1.1,(List.getD a.2.2.1 b.toNat (false,[],[])).2.2),a.2.2.2))),((0:Int),())),())) (none)) (none))) (none)) (none)
theorem e108_top (n:Nat) (a:(Lb × List Int) × (Lb × List Int) × List (Bool × Lq × Lq) × Int) (b:Int) (c:Aq):runF TT G108 an108 Try.f108 c108 ps108 rs108 n (a,b,c,())=st108_top n a b c:=by kernel_rfl
noncomputable def p108 (n:Nat) (a:(Lb × List Int) × (Lb × List Int) × List (Bool × Lq × Lq) × Int) (b:Int) (c:Aq):Option R108:=st108_top n a b c
theorem F108_eq (n:Nat) (a:(Lb × List Int) × (Lb × List Int) × List (Bool × Lq × Lq) × Int) (b:Int) (c:Aq):runF TT G108 an108 Try.f108 c108 ps108 rs108 n (a,b,c,())=p108 n a b c:=by
 rw [e108_top]
 skip
 try rfl
noncomputable def q108 (n:Nat) (x:argsD ps108):Option R108:=p108 n x.1 x.2.1 x.2.2.1
noncomputable def Sm108:Sm:=⟨ps108,rs108,false,q108⟩
theorem holds108 (hg:GamOK Try.prog G108):Holds Try.prog 108 Sm108:=by
 have:=h0_108 hg
 have e:(runF TT G108 an108 Try.f108 c108 ps108 rs108)=q108:=by
  funext n x
  exact F108_eq n x.1 x.2.1 x.2.2.1
 rw [e] at this
 exact this
theorem gam108:GamOK Try.prog G108:=by
 intro f s h
 unfold G108 at h
 split at h
 ·injection h with h; subst h; exact ⟨⟨Try.f152,c152,Try.func152,by kernel_rfl,by decide +kernel⟩,hh152⟩
 ·cases h
theorem hh108:Holds Try.prog 108 Sm108:=holds108 gam108
end Go.Proofs.Ytdkaagpkeomhmaa.Rx.S

namespace Go.Proofs.Ytdkaagpkeomhmaa.Rx.S
open Go Go.RowKit Go.Proofs
set_option maxRecDepth 100000
noncomputable def c72:Code:=(Try.f72.body.getD .skip)
def an72:An:=⟨fun _=>⟨[],[]⟩,fun _ _=>none⟩
abbrev ps72:List PK:=[.val .str false,.val i64 false,.val i64 false]
abbrev rs72:List RK:=[.val .str false]
abbrev R72:=retsD rs72 × outsD ps72
noncomputable def G72:Gam:=fun _=>none
theorem h0_72 (hg:GamOK Try.prog G72):Holds Try.prog 72 ⟨ps72,rs72,false,runF TT G72 an72 Try.f72 c72 ps72 rs72⟩:=holds_of tt_ok hg mixed Try.func72 (by kernel_rfl) (by rfl) (by decide +kernel)
noncomputable def st72_top (n:Nat) (a:ByteArray) (b:Int) (c:Int):Option R72 :=
 cond (decide ((0:Int)≤b)) (cond (decide (b≤(↑a.size:Int))) (cond (decide ((a.extract (Int.toNat (0:Int)) b.toNat).size + (List.foldl (fun r n=>r.push (UInt8.ofNat n.toNat)) ByteArray.empty [Go.IntKind.u8.wrap c]).size≤(9223372036854775807:Nat))) (cond (decide ((0:Int)≤Go.IntKind.i64.wrap (b + (1:Int)))) (cond (decide (Go.IntKind.i64.wrap (b + (1:Int))≤(↑a.size:Int))) (cond (decide ((a.extract (Int.toNat (0:Int)) b.toNat ++ List.foldl (fun r n=>r.push (UInt8.ofNat n.toNat)) ByteArray.empty [Go.IntKind.u8.wrap c]).size + (a.extract (Go.IntKind.i64.wrap (b + (1:Int))).toNat (↑a.size:Int).toNat).size≤(9223372036854775807:Nat))) (some ((a.extract (Int.toNat (0:Int)) b.toNat ++ List.foldl (fun r n=>r.push (UInt8.ofNat n.toNat)) ByteArray.empty [Go.IntKind.u8.wrap c] ++ a.extract (Go.IntKind.i64.wrap (b + (1:Int))).toNat (↑a.size:Int).toNat,()),())) (none)) (none)) (none)) (none)) (none)) (none)
theorem e72_top (n:Nat) (a:ByteArray) (b:Int) (c:Int):runF TT G72 an72 Try.f72 c72 ps72 rs72 n (a,b,c,())=st72_top n a b c:=by kernel_rfl
noncomputable def p72 (n:Nat) (a:ByteArray) (b:Int) (c:Int):Option R72:=st72_top n a b c
theorem F72_eq (n:Nat) (a:ByteArray) (b:Int) (c:Int):runF TT G72 an72 Try.f72 c72 ps72 rs72 n (a,b,c,())=p72 n a b c:=by
 rw [e72_top]
 skip
 try rfl
noncomputable def q72 (n:Nat) (x:argsD ps72):Option R72:=p72 n x.1 x.2.1 x.2.2.1
noncomputable def Sm72:Sm:=⟨ps72,rs72,false,q72⟩
theorem holds72 (hg:GamOK Try.prog G72):Holds Try.prog 72 Sm72:=by
 have:=h0_72 hg
 have e:(runF TT G72 an72 Try.f72 c72 ps72 rs72)=q72:=by
  funext n x
  exact F72_eq n x.1 x.2.1 x.2.2.1
 rw [e] at this
 exact this
theorem gam72:GamOK Try.prog G72:=fun _ _ h=>by cases h
theorem hh72:Holds Try.prog 72 Sm72:=holds72 gam72
end Go.Proofs.Ytdkaagpkeomhmaa.Rx.S

namespace Go.Proofs.Ytdkaagpkeomhmaa.Rx.S
open Go Go.RowKit Go.Proofs
set_option maxRecDepth 100000
noncomputable def c172:Code:=(Try.f172.body.getD .skip)
def an172:An:=⟨fun r=>match r with | 2=>⟨[1,2,4,6],[]⟩ | _=>⟨[],[]⟩,fun _ _=>none⟩
abbrev ps172:List PK:=[.own tPg true,.val .str false]
abbrev rs172:List RK:=[.own tPg true,.val i64 false]
abbrev R172:=retsD rs172 × outsD ps172
noncomputable def G172:Gam:=fun _=>none
theorem h0_172 (hg:GamOK Try.prog G172):Holds Try.prog 172 ⟨ps172,rs172,false,runF TT G172 an172 Try.f172 c172 ps172 rs172⟩:=holds_of tt_ok hg mixed Try.func172 (by kernel_rfl) (by rfl) (by decide +kernel)
noncomputable def at172:Nat→Pt→List Nat→St→Option R172:=atF TT G172 an172 Try.f172 c172 _ _
def sh172_L2 (x0:ByteArray) (x1:Int) (x2:Lb) (x3:List Int):St:=(St.mk [Uu,AV.one (SV.str x0),AV.one (SV.bptr 1000000 0),Uu,AV.one (SV.bptr 1000001 0),Uu,AV.one (SV.int (Go.IntKind.i64) x1),Uu,Uu,Uu,Uu,Uu,Uu,Uu,Uu,Uu,Uu,Uu,Uu,Uu,Uu,Uu,Uu,Uu,Uu,Uu,Uu,Uu,Uu,Uu,Uu,Uu] ((1000000,(Ent.box ((SV.ref 1000002 0 [] Option.none) :: ((SV.ref 1000003 0 [] Option.none) :: [])))) :: ((1000001,(Ent.box (SV.nil :: (SV.nil :: [])))) :: ((1000002,(Ent.row (⟨9,Ty.str,x2⟩:Rw) 0 Option.none)) :: ((1000003,(Ent.row (⟨3,Ty.int Go.IntKind.i64,x3⟩:Rw) 0 Option.none)) :: [])))))
noncomputable def st172_top (n:Nat) (lL2:ByteArray→Int→(Lb)→(List Int)→Option R172) (a:Lb × List Int) (b:ByteArray):Option R172 :=
 lL2 (b) ((0:Int)) (a.1) (a.2)
noncomputable def st172_L2 (n:Nat) (lL2:ByteArray→Int→(Lb)→(List Int)→Option R172) (x0:ByteArray) (x1:Int) (x2:Lb) (x3:List Int):Option R172 :=
 cond (decide (x1 < (↑x3.length:Int))) (cond (decide ((0:Int)≤x1)) (cond (decide (x1 < (↑x3.length:Int))) (cond (decide (x3.getD x1.toNat (0:Int)=(0:Int))) (cond (decide ((0:Int)≤x1)) (cond (decide (x1 < (↑x3.length:Int))) (cond (decide ((0:Int)≤x1)) (cond (decide (x1 < (↑x2.length:Int))) (some (((x2.set x1.toNat x0,x3.set x1.toNat (1:Int)),(x1,())),())) (none)) (none)) (none)) (none)) (lL2 (x0) (Go.IntKind.i64.wrap (x1 + (1:Int))) (x2) (x3))) (none)) (none)) (some (((x2,x3),((-1:Int),())),()))
theorem e172_top (n:Nat) (a:Lb × List Int) (b:ByteArray):runF TT G172 an172 Try.f172 c172 ps172 rs172 n (a,b,())=st172_top n (fun x0 x1 x2 x3=>at172 n (.head 2) [n] (sh172_L2 x0 x1 x2 x3)) a b:=by kernel_rfl
theorem e172_L2_0 (n:Nat) (x0:ByteArray) (x1:Int) (x2:Lb) (x3:List Int):at172 n (.head 2) [0] (sh172_L2 x0 x1 x2 x3)=none:=by kernel_rfl
theorem e172_L2 (n:Nat) (m2:Nat) (x0:ByteArray) (x1:Int) (x2:Lb) (x3:List Int):at172 n (.head 2) [m2 + 1] (sh172_L2 x0 x1 x2 x3)=st172_L2 n (fun x0 x1 x2 x3=>at172 n (.head 2) [m2] (sh172_L2 x0 x1 x2 x3)) x0 x1 x2 x3:=by kernel_rfl
noncomputable def p172_L2 (n:Nat):Nat→ByteArray→Int→(Lb)→(List Int)→Option R172
 | 0,_,_,_,_=>none
 | m + 1,x0,x1,x2,x3=>st172_L2 n (p172_L2 n m) x0 x1 x2 x3
noncomputable def p172 (n:Nat) (a:Lb × List Int) (b:ByteArray):Option R172:=st172_top n (p172_L2 n n) a b
theorem t172_L2 (n:Nat):∀ (m2:Nat) (x0:ByteArray) (x1:Int) (x2:Lb) (x3:List Int),at172 n (.head 2) [m2] (sh172_L2 x0 x1 x2 x3)=p172_L2 n m2 x0 x1 x2 x3:=by
 intro m
 induction m with
 | zero=>intros; rw [e172_L2_0]; rfl
 | succ m ih =>
  intros
  rw [e172_L2]
  try simp only [ih]
  rfl
theorem F172_eq (n:Nat) (a:Lb × List Int) (b:ByteArray):runF TT G172 an172 Try.f172 c172 ps172 rs172 n (a,b,())=p172 n a b:=by
 rw [e172_top]
 simp only [t172_L2]
 try rfl
noncomputable def q172 (n:Nat) (x:argsD ps172):Option R172:=p172 n x.1 x.2.1
noncomputable def Sm172:Sm:=⟨ps172,rs172,false,q172⟩
theorem holds172 (hg:GamOK Try.prog G172):Holds Try.prog 172 Sm172:=by
 have:=h0_172 hg
 have e:(runF TT G172 an172 Try.f172 c172 ps172 rs172)=q172:=by
  funext n x
  exact F172_eq n x.1 x.2.1
 rw [e] at this
 exact this
theorem gam172:GamOK Try.prog G172:=fun _ _ h=>by cases h
theorem hh172:Holds Try.prog 172 Sm172:=holds172 gam172
end Go.Proofs.Ytdkaagpkeomhmaa.Rx.S

namespace Go.Proofs.Ytdkaagpkeomhmaa.Rx.S
open Go Go.RowKit Go.Proofs
set_option maxRecDepth 100000
noncomputable def c174:Code:=(Try.f174.body.getD .skip)
def an174:An:=⟨fun r=>match r with | 2=>⟨[1,2,3,4,5,10,11],[]⟩ | 5=>⟨[1,2,3,4,5,10,11,12],[]⟩ | _=>⟨[],[]⟩,fun _ _=>none⟩
abbrev ps174:List PK:=[.own tMem true,.val i64 false,.val i64 false,.val i64 false,.val i64 false]
abbrev rs174:List RK:=[.own tMem true]
abbrev R174:=retsD rs174 × outsD ps174
noncomputable def G174:Gam:=fun _=>none
theorem h0_174 (hg:GamOK Try.prog G174):Holds Try.prog 174 ⟨ps174,rs174,false,runF TT G174 an174 Try.f174 c174 ps174 rs174⟩:=holds_of tt_ok hg mixed Try.func174 (by kernel_rfl) (by rfl) (by decide +kernel)
noncomputable def at174:Nat→Pt→List Nat→St→Option R174:=atF TT G174 an174 Try.f174 c174 _ _
def sh174_L5 (x0 x1 x2 x3 x4 x5 x6 x7:Int) (x8:Lb) (x9:List Int) (x10:Lb) (x11:List Int) (x12:List (Bool × Lq × Lq)):St:=(St.mk [Uu,AV.one (SV.int (Go.IntKind.i64) x0),AV.one (SV.int (Go.IntKind.i64) x1),AV.one (SV.int (Go.IntKind.i64) x2),AV.one (SV.int (Go.IntKind.i64) x3),AV.one (SV.bptr 1000000 0),Uu,Uu,Uu,Uu,AV.one (SV.bptr 1000001 0),AV.one (SV.int (Go.IntKind.i64) x4),AV.one (SV.int (Go.IntKind.i64) x5),Uu,Uu,Uu,Uu,Uu,Uu,Uu,Uu,Uu,Uu,Uu,Uu,Uu,Uu,Uu,Uu,Uu,Uu,Uu,Uu,Uu,Uu,Uu,Uu,Uu,Uu,Uu,Uu,Uu,Uu,Uu,Uu,Uu,Uu,Uu,Uu,Uu,Uu,Uu,Uu,Uu,Uu,Uu,Uu,Uu,Uu,Uu,Uu,Uu,Uu,Uu,Uu] ((1000000,(Ent.box ((SV.ref 1000002 0 [] Option.none) :: ((SV.ref 1000003 0 [] Option.none) :: ((SV.ref 1000004 0 [] Option.none) :: ((SV.ref 1000005 0 [] Option.none) :: ((SV.ref 1000006 0 [] Option.none) :: ((SV.int (Go.IntKind.i64) x6) :: [])))))))) :: ((1000001,(Ent.box (SV.nil :: (SV.nil :: (SV.nil :: (SV.nil :: (SV.nil :: ((SV.int (Go.IntKind.i64) x7) :: [])))))))) :: ((1000002,(Ent.row (⟨9,Ty.str,x8⟩:Rw) 0 Option.none)) :: ((1000003,(Ent.row (⟨3,Ty.int Go.IntKind.i64,x9⟩:Rw) 0 Option.none)) :: ((1000004,(Ent.row (⟨9,Ty.str,x10⟩:Rw) 0 Option.none)) :: ((1000005,(Ent.row (⟨3,Ty.int Go.IntKind.i64,x11⟩:Rw) 0 Option.none)) :: ((1000006,(Ent.row (⟨71,Ty.bool.pair ((Ty.row (nat_lit 116) ((Ty.int Go.IntKind.i64).pair ((Ty.int Go.IntKind.i64).pair (Ty.bool.pair Ty.bool)))).pair (Ty.row (nat_lit 80) ((Ty.int Go.IntKind.i64).pair ((Ty.int Go.IntKind.i64).pair (Ty.bool.pair Ty.bool))))),x12⟩:Rw) 0 Option.none)) :: []))))))))
def sh174_L2 (x0 x1 x2 x3 x4 x5 x6:Int) (x7:Lb) (x8:List Int) (x9:Lb) (x10:List Int) (x11:List (Bool × Lq × Lq)):St:=(St.mk [Uu,AV.one (SV.int (Go.IntKind.i64) x0),AV.one (SV.int (Go.IntKind.i64) x1),AV.one (SV.int (Go.IntKind.i64) x2),AV.one (SV.int (Go.IntKind.i64) x3),AV.one (SV.bptr 1000000 0),Uu,Uu,Uu,Uu,AV.one (SV.bptr 1000001 0),AV.one (SV.int (Go.IntKind.i64) x4),Uu,Uu,Uu,Uu,Uu,Uu,Uu,Uu,Uu,Uu,Uu,Uu,Uu,Uu,Uu,Uu,Uu,Uu,Uu,Uu,Uu,Uu,Uu,Uu,Uu,Uu,Uu,Uu,Uu,Uu,Uu,Uu,Uu,Uu,Uu,Uu,Uu,Uu,Uu,Uu,Uu,Uu,Uu,Uu,Uu,Uu,Uu,Uu,Uu,Uu,Uu,Uu,Uu] ((1000000,(Ent.box ((SV.ref 1000002 0 [] Option.none) :: ((SV.ref 1000003 0 [] Option.none) :: ((SV.ref 1000004 0 [] Option.none) :: ((SV.ref 1000005 0 [] Option.none) :: ((SV.ref 1000006 0 [] Option.none) :: ((SV.int (Go.IntKind.i64) x5) :: [])))))))) :: ((1000001,(Ent.box (SV.nil :: (SV.nil :: (SV.nil :: (SV.nil :: (SV.nil :: ((SV.int (Go.IntKind.i64) x6) :: [])))))))) :: ((1000002,(Ent.row (⟨9,Ty.str,x7⟩:Rw) 0 Option.none)) :: ((1000003,(Ent.row (⟨3,Ty.int Go.IntKind.i64,x8⟩:Rw) 0 Option.none)) :: ((1000004,(Ent.row (⟨9,Ty.str,x9⟩:Rw) 0 Option.none)) :: ((1000005,(Ent.row (⟨3,Ty.int Go.IntKind.i64,x10⟩:Rw) 0 Option.none)) :: ((1000006,(Ent.row (⟨71,Ty.bool.pair ((Ty.row (nat_lit 116) ((Ty.int Go.IntKind.i64).pair ((Ty.int Go.IntKind.i64).pair (Ty.bool.pair Ty.bool)))).pair (Ty.row (nat_lit 80) ((Ty.int Go.IntKind.i64).pair ((Ty.int Go.IntKind.i64).pair (Ty.bool.pair Ty.bool))))),x11⟩:Rw) 0 Option.none)) :: []))))))))
noncomputable def st174_top (n:Nat) (lL2:Int→Int→Int→Int→Int→Int→Int→(Lb)→(List Int)→(Lb)→(List Int)→(List (Bool × Lq × Lq))→Option R174) (a:(Lb × List Int) × (Lb × List Int) × List (Bool × Lq × Lq) × Int) (b:Int) (c:Int) (d:Int) (e:Int):Option R174 :=
 lL2 (b) (c) (d) (e) ((0:Int)) (a.2.2.2) ((0:Int)) (a.1.1) (a.1.2) (a.2.1.1) (a.2.1.2) (a.2.2.1)
noncomputable def st174_L5 (n:Nat) (lL5:Int→Int→Int→Int→Int→Int→Int→Int→(Lb)→(List Int)→(Lb)→(List Int)→(List (Bool × Lq × Lq))→Option R174) (lL2:Int→Int→Int→Int→Int→Int→Int→(Lb)→(List Int)→(Lb)→(List Int)→(List (Bool × Lq × Lq))→Option R174) (x0 x1 x2 x3 x4 x5 x6 x7:Int) (x8:Lb) (x9:List Int) (x10:Lb) (x11:List Int) (x12:List (Bool × Lq × Lq)):Option R174 :=
 cond (decide ((0:Int)≤x4)) (cond (decide (x4 < (↑x12.length:Int))) (cond (decide (x5 < (↑(List.length (x12.getD x4.toNat (false,[],[])).2.2):Int))) (cond (decide ((0:Int)≤x4)) (cond (decide (x4 < (↑x12.length:Int))) (cond (decide ((0:Int)≤x5)) (cond (decide (x5 < (↑(List.length (x12.getD x4.toNat (false,[],[])).2.2):Int))) (cond (decide ((List.getD (x12.getD x4.toNat (false,[],[])).2.2 x5.toNat ((0:Int),(0:Int),false,false)).1=x0)) (cond (decide ((List.getD (x12.getD x4.toNat (false,[],[])).2.2 x5.toNat ((0:Int),(0:Int),false,false)).2.1=x1)) (cond (decide ((0:Int)≤x4)) (cond (decide (x4 < (↑x12.length:Int))) (cond (decide ((0:Int)≤x5)) (cond (decide (x5 < (↑(List.length (x12.getD x4.toNat (false,[],[])).2.2):Int))) (lL5 (x0) (x1) (x2) (x3) (x4) (Go.IntKind.i64.wrap (x5 + (1:Int))) (x6) (x7) (x8) (x9) (x10) (x11) (x12.set x4.toNat ((x12.getD x4.toNat (false,[],[])).1,(x12.getD x4.toNat (false,[],[])).2.1,List.set (x12.getD x4.toNat (false,[],[])).2.2 x5.toNat (x2,x3,(List.getD (x12.getD x4.toNat (false,[],[])).2.2 x5.toNat ((0:Int),(0:Int),false,false)).2.2.1,(List.getD (x12.getD x4.toNat (false,[],[])).2.2 x5.toNat ((0:Int),(0:Int),false,false)).2.2.2)))) (none)) (none)) (none)) (none)) (lL5 (x0) (x1) (x2) (x3) (x4) (Go.IntKind.i64.wrap (x5 + (1:Int))) (x6) (x7) (x8) (x9) (x10) (x11) (x12))) (lL5 (x0) (x1) (x2) (x3) (x4) (Go.IntKind.i64.wrap (x5 + (1:Int))) (x6) (x7) (x8) (x9) (x10) (x11) (x12))) (none)) (none)) (none)) (none)) (lL2 (x0) (x1) (x2) (x3) (Go.IntKind.i64.wrap (x4 + (1:Int))) (x6) (x7) (x8) (x9) (x10) (x11) (x12))) (none)) (none)
noncomputable def st174_L2 (n:Nat) (lL5:Int→Int→Int→Int→Int→Int→Int→Int→(Lb)→(List Int)→(Lb)→(List Int)→(List (Bool × Lq × Lq))→Option R174) (x0 x1 x2 x3 x4 x5 x6:Int) (x7:Lb) (x8:List Int) (x9:Lb) (x10:List Int) (x11:List (Bool × Lq × Lq)):Option R174 :=
 cond (decide (x4 < (↑x11.length:Int))) (lL5 (x0) (x1) (x2) (x3) (x4) ((0:Int)) (x5) (x6) (x7) (x8) (x9) (x10) (x11)) (some ((((x7,x8),((x9,x10),(x11,x5))),()),()))
theorem e174_top (n:Nat) (a:(Lb × List Int) × (Lb × List Int) × List (Bool × Lq × Lq) × Int) (b:Int) (c:Int) (d:Int) (e:Int):runF TT G174 an174 Try.f174 c174 ps174 rs174 n (a,b,c,d,e,())=st174_top n (fun x0 x1 x2 x3 x4 x5 x6 x7 x8 x9 x10 x11=>at174 n (.head 2) [n] (sh174_L2 x0 x1 x2 x3 x4 x5 x6 x7 x8 x9 x10 x11)) a b c d e:=by kernel_rfl
theorem e174_L5_0 (n:Nat) (m2:Nat) (x0 x1 x2 x3 x4 x5 x6 x7:Int) (x8:Lb) (x9:List Int) (x10:Lb) (x11:List Int) (x12:List (Bool × Lq × Lq)):at174 n (.head 5) [m2,0] (sh174_L5 x0 x1 x2 x3 x4 x5 x6 x7 x8 x9 x10 x11 x12)=none:=by kernel_rfl
theorem e174_L5 (n:Nat) (m2:Nat) (m5:Nat) (x0 x1 x2 x3 x4 x5 x6 x7:Int) (x8:Lb) (x9:List Int) (x10:Lb) (x11:List Int) (x12:List (Bool × Lq × Lq)):at174 n (.head 5) [m2,m5 + 1] (sh174_L5 x0 x1 x2 x3 x4 x5 x6 x7 x8 x9 x10 x11 x12)=st174_L5 n (fun x0 x1 x2 x3 x4 x5 x6 x7 x8 x9 x10 x11 x12=>at174 n (.head 5) [m2,m5] (sh174_L5 x0 x1 x2 x3 x4 x5 x6 x7 x8 x9 x10 x11 x12)) (fun x0 x1 x2 x3 x4 x5 x6 x7 x8 x9 x10 x11=>at174 n (.head 2) [m2] (sh174_L2 x0 x1 x2 x3 x4 x5 x6 x7 x8 x9 x10 x11)) x0 x1 x2 x3 x4 x5 x6 x7 x8 x9 x10 x11 x12:=by kernel_rfl
theorem e174_L2_0 (n:Nat) (x0 x1 x2 x3 x4 x5 x6:Int) (x7:Lb) (x8:List Int) (x9:Lb) (x10:List Int) (x11:List (Bool × Lq × Lq)):at174 n (.head 2) [0] (sh174_L2 x0 x1 x2 x3 x4 x5 x6 x7 x8 x9 x10 x11)=none:=by kernel_rfl
theorem e174_L2 (n:Nat) (m2:Nat) (x0 x1 x2 x3 x4 x5 x6:Int) (x7:Lb) (x8:List Int) (x9:Lb) (x10:List Int) (x11:List (Bool × Lq × Lq)):at174 n (.head 2) [m2 + 1] (sh174_L2 x0 x1 x2 x3 x4 x5 x6 x7 x8 x9 x10 x11)=st174_L2 n (fun x0 x1 x2 x3 x4 x5 x6 x7 x8 x9 x10 x11 x12=>at174 n (.head 5) [m2,n] (sh174_L5 x0 x1 x2 x3 x4 x5 x6 x7 x8 x9 x10 x11 x12)) x0 x1 x2 x3 x4 x5 x6 x7 x8 x9 x10 x11:=by kernel_rfl
noncomputable def p174_L5 (g2:Int→Int→Int→Int→Int→Int→Int→(Lb)→(List Int)→(Lb)→(List Int)→(List (Bool × Lq × Lq))→Option R174) (n:Nat):Nat→Int→Int→Int→Int→Int→Int→Int→Int→(Lb)→(List Int)→(Lb)→(List Int)→(List (Bool × Lq × Lq))→Option R174
 | 0,_,_,_,_,_,_,_,_,_,_,_,_,_=>none
 | m + 1,x0,x1,x2,x3,x4,x5,x6,x7,x8,x9,x10,x11,x12=>st174_L5 n (p174_L5 g2 n m) g2 x0 x1 x2 x3 x4 x5 x6 x7 x8 x9 x10 x11 x12
noncomputable def p174_L2 (n:Nat):Nat→Int→Int→Int→Int→Int→Int→Int→(Lb)→(List Int)→(Lb)→(List Int)→(List (Bool × Lq × Lq))→Option R174
 | 0,_,_,_,_,_,_,_,_,_,_,_,_=>none
 | m + 1,x0,x1,x2,x3,x4,x5,x6,x7,x8,x9,x10,x11=>st174_L2 n (p174_L5 (p174_L2 n m) n n) x0 x1 x2 x3 x4 x5 x6 x7 x8 x9 x10 x11
noncomputable def p174 (n:Nat) (a:(Lb × List Int) × (Lb × List Int) × List (Bool × Lq × Lq) × Int) (b:Int) (c:Int) (d:Int) (e:Int):Option R174:=st174_top n (p174_L2 n n) a b c d e
theorem t174_L5 (n:Nat) (m2:Nat):∀ (m5:Nat) (x0 x1 x2 x3 x4 x5 x6 x7:Int) (x8:Lb) (x9:List Int) (x10:Lb) (x11:List Int) (x12:List (Bool × Lq × Lq)),at174 n (.head 5) [m2,m5] (sh174_L5 x0 x1 x2 x3 x4 x5 x6 x7 x8 x9 x10 x11 x12)=p174_L5 (fun x0 x1 x2 x3 x4 x5 x6 x7 x8 x9 x10 x11=>at174 n (.head 2) [m2] (sh174_L2 x0 x1 x2 x3 x4 x5 x6 x7 x8 x9 x10 x11)) n m5 x0 x1 x2 x3 x4 x5 x6 x7 x8 x9 x10 x11 x12:=by
 intro m
 induction m with
 | zero=>intros; rw [e174_L5_0]; rfl
 | succ m ih =>
  intros
  rw [e174_L5]
  try simp only [ih]
  rfl
theorem t174_L2 (n:Nat):∀ (m2:Nat) (x0 x1 x2 x3 x4 x5 x6:Int) (x7:Lb) (x8:List Int) (x9:Lb) (x10:List Int) (x11:List (Bool × Lq × Lq)),at174 n (.head 2) [m2] (sh174_L2 x0 x1 x2 x3 x4 x5 x6 x7 x8 x9 x10 x11)=p174_L2 n m2 x0 x1 x2 x3 x4 x5 x6 x7 x8 x9 x10 x11:=by
 intro m
 induction m with
 | zero=>intros; rw [e174_L2_0]; rfl
 | succ m ih =>
  intros
  rw [e174_L2]
  try simp only [t174_L5,ih]
  rfl
theorem F174_eq (n:Nat) (a:(Lb × List Int) × (Lb × List Int) × List (Bool × Lq × Lq) × Int) (b:Int) (c:Int) (d:Int) (e:Int):runF TT G174 an174 Try.f174 c174 ps174 rs174 n (a,b,c,d,e,())=p174 n a b c d e:=by
 rw [e174_top]
 simp only [t174_L2]
 try rfl
noncomputable def q174 (n:Nat) (x:argsD ps174):Option R174:=p174 n x.1 x.2.1 x.2.2.1 x.2.2.2.1 x.2.2.2.2.1
noncomputable def Sm174:Sm:=⟨ps174,rs174,false,q174⟩
theorem holds174 (hg:GamOK Try.prog G174):Holds Try.prog 174 Sm174:=by
 have:=h0_174 hg
 have e:(runF TT G174 an174 Try.f174 c174 ps174 rs174)=q174:=by
  funext n x
  exact F174_eq n x.1 x.2.1 x.2.2.1 x.2.2.2.1 x.2.2.2.2.1
 rw [e] at this
 exact this
theorem gam174:GamOK Try.prog G174:=fun _ _ h=>by cases h
theorem hh174:Holds Try.prog 174 Sm174:=holds174 gam174
end Go.Proofs.Ytdkaagpkeomhmaa.Rx.S

namespace Go.Proofs.Ytdkaagpkeomhmaa.Rx.S
open Go Go.RowKit Go.Proofs
set_option maxRecDepth 100000
noncomputable def c180:Code:=(Try.f180.body.getD .skip)
def an180:An:=⟨fun r=>match r with | 3=>⟨[1,3,4],[]⟩ | _=>⟨[],[]⟩,fun _ _=>none⟩
abbrev ps180:List PK:=[.val tPg true]
abbrev rs180:List RK:=[.val i64 false]
abbrev R180:=retsD rs180 × outsD ps180
noncomputable def G180:Gam:=fun _=>none
theorem h0_180 (hg:GamOK Try.prog G180):Holds Try.prog 180 ⟨ps180,rs180,false,runF TT G180 an180 Try.f180 c180 ps180 rs180⟩:=holds_of tt_ok hg mixed Try.func180 (by kernel_rfl) (by rfl) (by decide +kernel)
noncomputable def at180:Nat→Pt→List Nat→St→Option R180:=atF TT G180 an180 Try.f180 c180 _ _
def sh180_L3 (x0 x1:Int) (x2:Lb) (x3:List Int):St:=(St.mk [Uu,AV.one (SV.bptr 1000000 0),Uu,AV.one (SV.int (Go.IntKind.i64) x0),AV.one (SV.int (Go.IntKind.i64) x1),Uu,Uu,Uu,Uu,Uu,Uu,Uu,Uu,Uu,Uu,Uu,Uu,Uu,Uu,Uu,Uu] ((1000000,(Ent.box ((SV.con (⟨9,Ty.str,x2⟩:Rw)) :: ((SV.con (⟨3,Ty.int Go.IntKind.i64,x3⟩:Rw)) :: [])))) :: []))
noncomputable def st180_top (n:Nat) (lL3:Int→Int→(Lb)→(List Int)→Option R180) (a:Lb × List Int):Option R180 :=
 lL3 ((0:Int)) ((0:Int)) (a.1) (a.2)
noncomputable def st180_L3 (n:Nat) (lL3:Int→Int→(Lb)→(List Int)→Option R180) (x0 x1:Int) (x2:Lb) (x3:List Int):Option R180 :=
 cond (decide (x1 < (↑x3.length:Int))) (cond (decide ((0:Int)≤x1)) (cond (decide (x1 < (↑x3.length:Int))) (cond (decide (x3.getD x1.toNat (0:Int)=(0:Int))) (lL3 (Go.IntKind.i64.wrap (x0 + (1:Int))) (Go.IntKind.i64.wrap (x1 + (1:Int))) (x2) (x3)) (lL3 (x0) (Go.IntKind.i64.wrap (x1 + (1:Int))) (x2) (x3))) (none)) (none)) (some ((x0,()),()))
theorem e180_top (n:Nat) (a:Lb × List Int):runF TT G180 an180 Try.f180 c180 ps180 rs180 n (a,())=st180_top n (fun x0 x1 x2 x3=>at180 n (.head 3) [n] (sh180_L3 x0 x1 x2 x3)) a:=by kernel_rfl
theorem e180_L3_0 (n:Nat) (x0 x1:Int) (x2:Lb) (x3:List Int):at180 n (.head 3) [0] (sh180_L3 x0 x1 x2 x3)=none:=by kernel_rfl
theorem e180_L3 (n:Nat) (m3:Nat) (x0 x1:Int) (x2:Lb) (x3:List Int):at180 n (.head 3) [m3 + 1] (sh180_L3 x0 x1 x2 x3)=st180_L3 n (fun x0 x1 x2 x3=>at180 n (.head 3) [m3] (sh180_L3 x0 x1 x2 x3)) x0 x1 x2 x3:=by kernel_rfl
noncomputable def p180_L3 (n:Nat):Nat→Int→Int→(Lb)→(List Int)→Option R180
 | 0,_,_,_,_=>none
 | m + 1,x0,x1,x2,x3=>st180_L3 n (p180_L3 n m) x0 x1 x2 x3
noncomputable def p180 (n:Nat) (a:Lb × List Int):Option R180:=st180_top n (p180_L3 n n) a
theorem t180_L3 (n:Nat):∀ (m3:Nat) (x0 x1:Int) (x2:Lb) (x3:List Int),at180 n (.head 3) [m3] (sh180_L3 x0 x1 x2 x3)=p180_L3 n m3 x0 x1 x2 x3:=by
 intro m
 induction m with
 | zero=>intros; rw [e180_L3_0]; rfl
 | succ m ih =>
  intros
  rw [e180_L3]
  try simp only [ih]
  rfl
theorem F180_eq (n:Nat) (a:Lb × List Int):runF TT G180 an180 Try.f180 c180 ps180 rs180 n (a,())=p180 n a:=by
 rw [e180_top]
 simp only [t180_L3]
 try rfl
noncomputable def q180 (n:Nat) (x:argsD ps180):Option R180:=p180 n x.1
noncomputable def Sm180:Sm:=⟨ps180,rs180,false,q180⟩
theorem holds180 (hg:GamOK Try.prog G180):Holds Try.prog 180 Sm180:=by
 have:=h0_180 hg
 have e:(runF TT G180 an180 Try.f180 c180 ps180 rs180)=q180:=by
  funext n x
  exact F180_eq n x.1
 rw [e] at this
 exact this
theorem gam180:GamOK Try.prog G180:=fun _ _ h=>by cases h
theorem hh180:Holds Try.prog 180 Sm180:=holds180 gam180
end Go.Proofs.Ytdkaagpkeomhmaa.Rx.S

namespace Go.Proofs.Ytdkaagpkeomhmaa.Rx.S
open Go Go.RowKit Go.Proofs
set_option maxRecDepth 100000
noncomputable def c181:Code:=(Try.f181.body.getD .skip)
def an181:An:=⟨fun r=>match r with | 3=>⟨[1,2,4,6,7],[]⟩ | 6=>⟨[1,2,4,6,7,8],[]⟩ | _=>⟨[],[]⟩,fun _ _=>none⟩
abbrev ps181:List PK:=[.own tMem true,.val i64 false]
abbrev rs181:List RK:=[.own tMem true,.val .bool false]
abbrev R181:=retsD rs181 × outsD ps181
noncomputable def G181:Gam:=fun _=>none
theorem h0_181 (hg:GamOK Try.prog G181):Holds Try.prog 181 ⟨ps181,rs181,false,runF TT G181 an181 Try.f181 c181 ps181 rs181⟩:=holds_of tt_ok hg mixed Try.func181 (by kernel_rfl) (by rfl) (by decide +kernel)
noncomputable def at181:Nat→Pt→List Nat→St→Option R181:=atF TT G181 an181 Try.f181 c181 _ _
def sh181_L6 (x0:Int) (x1:Bool) (x2 x3 x4 x5:Int) (x6:Lb) (x7:List Int) (x8:Lb) (x9:List Int) (x10:List (Bool × Lq × Lq)):St:=(St.mk [Uu,AV.one (SV.int (Go.IntKind.i64) x0),AV.one (SV.bptr 1000000 0),Uu,AV.one (SV.bptr 1000001 0),Uu,AV.one (SV.bool x1),AV.one (SV.int (Go.IntKind.i64) x2),AV.one (SV.int (Go.IntKind.i64) x3),Uu,Uu,Uu,Uu,Uu,Uu,Uu,Uu,Uu,Uu,Uu,Uu,Uu,Uu,Uu,Uu,Uu,Uu,Uu,Uu,Uu,Uu,Uu,Uu,Uu,Uu,Uu,Uu,Uu,Uu,Uu,Uu,Uu,Uu,Uu,Uu,Uu,Uu,Uu,Uu,Uu,Uu,Uu,Uu,Uu,Uu,Uu,Uu,Uu,Uu,Uu,Uu,Uu] ((1000000,(Ent.box ((SV.ref 1000002 0 [] Option.none) :: ((SV.ref 1000003 0 [] Option.none) :: ((SV.ref 1000004 0 [] Option.none) :: ((SV.ref 1000005 0 [] Option.none) :: ((SV.ref 1000006 0 [] Option.none) :: ((SV.int (Go.IntKind.i64) x4) :: [])))))))) :: ((1000001,(Ent.box (SV.nil :: (SV.nil :: (SV.nil :: (SV.nil :: (SV.nil :: ((SV.int (Go.IntKind.i64) x5) :: [])))))))) :: ((1000002,(Ent.row (⟨9,Ty.str,x6⟩:Rw) 0 Option.none)) :: ((1000003,(Ent.row (⟨3,Ty.int Go.IntKind.i64,x7⟩:Rw) 0 Option.none)) :: ((1000004,(Ent.row (⟨9,Ty.str,x8⟩:Rw) 0 Option.none)) :: ((1000005,(Ent.row (⟨3,Ty.int Go.IntKind.i64,x9⟩:Rw) 0 Option.none)) :: ((1000006,(Ent.row (⟨71,Ty.bool.pair ((Ty.row (nat_lit 116) ((Ty.int Go.IntKind.i64).pair ((Ty.int Go.IntKind.i64).pair (Ty.bool.pair Ty.bool)))).pair (Ty.row (nat_lit 80) ((Ty.int Go.IntKind.i64).pair ((Ty.int Go.IntKind.i64).pair (Ty.bool.pair Ty.bool))))),x10⟩:Rw) 0 Option.none)) :: []))))))))
def sh181_L3 (x0:Int) (x1:Bool) (x2 x3 x4:Int) (x5:Lb) (x6:List Int) (x7:Lb) (x8:List Int) (x9:List (Bool × Lq × Lq)):St:=(St.mk [Uu,AV.one (SV.int (Go.IntKind.i64) x0),AV.one (SV.bptr 1000000 0),Uu,AV.one (SV.bptr 1000001 0),Uu,AV.one (SV.bool x1),AV.one (SV.int (Go.IntKind.i64) x2),Uu,Uu,Uu,Uu,Uu,Uu,Uu,Uu,Uu,Uu,Uu,Uu,Uu,Uu,Uu,Uu,Uu,Uu,Uu,Uu,Uu,Uu,Uu,Uu,Uu,Uu,Uu,Uu,Uu,Uu,Uu,Uu,Uu,Uu,Uu,Uu,Uu,Uu,Uu,Uu,Uu,Uu,Uu,Uu,Uu,Uu,Uu,Uu,Uu,Uu,Uu,Uu,Uu,Uu] ((1000000,(Ent.box ((SV.ref 1000002 0 [] Option.none) :: ((SV.ref 1000003 0 [] Option.none) :: ((SV.ref 1000004 0 [] Option.none) :: ((SV.ref 1000005 0 [] Option.none) :: ((SV.ref 1000006 0 [] Option.none) :: ((SV.int (Go.IntKind.i64) x3) :: [])))))))) :: ((1000001,(Ent.box (SV.nil :: (SV.nil :: (SV.nil :: (SV.nil :: (SV.nil :: ((SV.int (Go.IntKind.i64) x4) :: [])))))))) :: ((1000002,(Ent.row (⟨9,Ty.str,x5⟩:Rw) 0 Option.none)) :: ((1000003,(Ent.row (⟨3,Ty.int Go.IntKind.i64,x6⟩:Rw) 0 Option.none)) :: ((1000004,(Ent.row (⟨9,Ty.str,x7⟩:Rw) 0 Option.none)) :: ((1000005,(Ent.row (⟨3,Ty.int Go.IntKind.i64,x8⟩:Rw) 0 Option.none)) :: ((1000006,(Ent.row (⟨71,Ty.bool.pair ((Ty.row (nat_lit 116) ((Ty.int Go.IntKind.i64).pair ((Ty.int Go.IntKind.i64).pair (Ty.bool.pair Ty.bool)))).pair (Ty.row (nat_lit 80) ((Ty.int Go.IntKind.i64).pair ((Ty.int Go.IntKind.i64).pair (Ty.bool.pair Ty.bool))))),x9⟩:Rw) 0 Option.none)) :: []))))))))
noncomputable def st181_top (n:Nat) (lL3:Int→Bool→Int→Int→Int→(Lb)→(List Int)→(Lb)→(List Int)→(List (Bool × Lq × Lq))→Option R181) (a:(Lb × List Int) × (Lb × List Int) × List (Bool × Lq × Lq) × Int) (b:Int):Option R181 :=
 lL3 (b) (false) ((0:Int)) (a.2.2.2) ((0:Int)) (a.1.1) (a.1.2) (a.2.1.1) (a.2.1.2) (a.2.2.1)
noncomputable def st181_L6 (n:Nat) (lL6:Int→Bool→Int→Int→Int→Int→(Lb)→(List Int)→(Lb)→(List Int)→(List (Bool × Lq × Lq))→Option R181) (lL3:Int→Bool→Int→Int→Int→(Lb)→(List Int)→(Lb)→(List Int)→(List (Bool × Lq × Lq))→Option R181) (x0:Int) (x1:Bool) (x2 x3 x4 x5:Int) (x6:Lb) (x7:List Int) (x8:Lb) (x9:List Int) (x10:List (Bool × Lq × Lq)):Option R181 :=
 cond (decide ((0:Int)≤x2)) (cond (decide (x2 < (↑x10.length:Int))) (cond (decide (x3 < (↑(List.length (x10.getD x2.toNat (false,[],[])).2.2):Int))) (cond (decide ((0:Int)≤x2)) (cond (decide (x2 < (↑x10.length:Int))) (cond (decide ((0:Int)≤x3)) (cond (decide (x3 < (↑(List.length (x10.getD x2.toNat (false,[],[])).2.2):Int))) (cond (decide ((List.getD (x10.getD x2.toNat (false,[],[])).2.2 x3.toNat ((0:Int),(0:Int),false,false)).1=(1:Int))) (cond (decide ((List.getD (x10.getD x2.toNat (false,[],[])).2.2 x3.toNat ((0:Int),(0:Int),false,false)).2.1=x0)) (cond (x1) (cond (decide ((0:Int)≤x2)) (cond (decide (x2 < (↑x10.length:Int))) (cond (decide ((0:Int)≤x3)) (cond (decide (x3 < (↑(List.length (x10.getD x2.toNat (false,[],[])).2.2):Int))) (lL6 (x0) (true) (x2) (Go.IntKind.i64.wrap (x3 + (1:Int))) (x4) (x5) (x6) (x7) (x8) (x9) (x10.set x2.toNat ((x10.getD x2.toNat (false,[],[])).1,(x10.getD x2.toNat (false,[],[])).2.1,List.set (x10.getD x2.toNat (false,[],[])).2.2 x3.toNat ((List.getD (x10.getD x2.toNat (false,[],[])).2.2 x3.toNat ((0:Int),(0:Int),false,false)).1,(List.getD (x10.getD x2.toNat (false,[],[])).2.2 x3.toNat ((0:Int),(0:Int),false,false)).2.1,(List.getD (x10.getD x2.toNat (false,[],[])).2.2 x3.toNat ((0:Int),(0:Int),false,false)).2.2.1,false)))) (none)) (none)) (none)) (none)) (cond (decide ((0:Int)≤x2)) (cond (decide (x2 < (↑x10.length:Int))) (cond (decide ((0:Int)≤x3)) (cond (decide (x3 < (↑(List.length (x10.getD x2.toNat (false,[],[])).2.2):Int))) (lL6 (x0) ((List.getD (x10.getD x2.toNat (false,[],[])).2.2 x3.toNat ((0:Int),(0:Int),false,false)).2.2.2) (x2) (Go.IntKind.i64.wrap (x3 + (1:Int))) (x4) (x5) (x6) (x7) (x8) (x9) (x10.set x2.toNat ((x10.getD x2.toNat (false,[],[])).1,(x10.getD x2.toNat (false,[],[])).2.1,List.set (x10.getD x2.toNat (false,[],[])).2.2 x3.toNat ((List.getD (x10.getD x2.toNat (false,[],[])).2.2 x3.toNat ((0:Int),(0:Int),false,false)).1,(List.getD (x10.getD x2.toNat (false,[],[])).2.2 x3.toNat ((0:Int),(0:Int),false,false)).2.1,(List.getD (x10.getD x2.toNat (false,[],[])).2.2 x3.toNat ((0:Int),(0:Int),false,false)).2.2.1,false)))) (none)) (none)) (none)) (none))) (lL6 (x0) (x1) (x2) (Go.IntKind.i64.wrap (x3 + (1:Int))) (x4) (x5) (x6) (x7) (x8) (x9) (x10))) (lL6 (x0) (x1) (x2) (Go.IntKind.i64.wrap (x3 + (1:Int))) (x4) (x5) (x6) (x7) (x8) (x9) (x10))) (none)) (none)) (none)) (none)) (lL3 (x0) (x1) (Go.IntKind.i64.wrap (x2 + (1:Int))) (x4) (x5) (x6) (x7) (x8) (x9) (x10))) (none)) (none)
noncomputable def st181_L3 (n:Nat) (lL6:Int→Bool→Int→Int→Int→Int→(Lb)→(List Int)→(Lb)→(List Int)→(List (Bool × Lq × Lq))→Option R181) (x0:Int) (x1:Bool) (x2 x3 x4:Int) (x5:Lb) (x6:List Int) (x7:Lb) (x8:List Int) (x9:List (Bool × Lq × Lq)):Option R181 :=
 cond (decide (x2 < (↑x9.length:Int))) (lL6 (x0) (x1) (x2) ((0:Int)) (x3) (x4) (x5) (x6) (x7) (x8) (x9)) (some ((((x5,x6),((x7,x8),(x9,x3))),(x1,())),()))
theorem e181_top (n:Nat) (a:(Lb × List Int) × (Lb × List Int) × List (Bool × Lq × Lq) × Int) (b:Int):runF TT G181 an181 Try.f181 c181 ps181 rs181 n (a,b,())=st181_top n (fun x0 x1 x2 x3 x4 x5 x6 x7 x8 x9=>at181 n (.head 3) [n] (sh181_L3 x0 x1 x2 x3 x4 x5 x6 x7 x8 x9)) a b:=by kernel_rfl
theorem e181_L6_0 (n:Nat) (m3:Nat) (x0:Int) (x1:Bool) (x2 x3 x4 x5:Int) (x6:Lb) (x7:List Int) (x8:Lb) (x9:List Int) (x10:List (Bool × Lq × Lq)):at181 n (.head 6) [m3,0] (sh181_L6 x0 x1 x2 x3 x4 x5 x6 x7 x8 x9 x10)=none:=by kernel_rfl
theorem e181_L6 (n:Nat) (m3:Nat) (m6:Nat) (x0:Int) (x1:Bool) (x2 x3 x4 x5:Int) (x6:Lb) (x7:List Int) (x8:Lb) (x9:List Int) (x10:List (Bool × Lq × Lq)):at181 n (.head 6) [m3,m6 + 1] (sh181_L6 x0 x1 x2 x3 x4 x5 x6 x7 x8 x9 x10)=st181_L6 n (fun x0 x1 x2 x3 x4 x5 x6 x7 x8 x9 x10=>at181 n (.head 6) [m3,m6] (sh181_L6 x0 x1 x2 x3 x4 x5 x6 x7 x8 x9 x10)) (fun x0 x1 x2 x3 x4 x5 x6 x7 x8 x9=>at181 n (.head 3) [m3] (sh181_L3 x0 x1 x2 x3 x4 x5 x6 x7 x8 x9)) x0 x1 x2 x3 x4 x5 x6 x7 x8 x9 x10:=by kernel_rfl
theorem e181_L3_0 (n:Nat) (x0:Int) (x1:Bool) (x2 x3 x4:Int) (x5:Lb) (x6:List Int) (x7:Lb) (x8:List Int) (x9:List (Bool × Lq × Lq)):at181 n (.head 3) [0] (sh181_L3 x0 x1 x2 x3 x4 x5 x6 x7 x8 x9)=none:=by kernel_rfl
theorem e181_L3 (n:Nat) (m3:Nat) (x0:Int) (x1:Bool) (x2 x3 x4:Int) (x5:Lb) (x6:List Int) (x7:Lb) (x8:List Int) (x9:List (Bool × Lq × Lq)):at181 n (.head 3) [m3 + 1] (sh181_L3 x0 x1 x2 x3 x4 x5 x6 x7 x8 x9)=st181_L3 n (fun x0 x1 x2 x3 x4 x5 x6 x7 x8 x9 x10=>at181 n (.head 6) [m3,n] (sh181_L6 x0 x1 x2 x3 x4 x5 x6 x7 x8 x9 x10)) x0 x1 x2 x3 x4 x5 x6 x7 x8 x9:=by kernel_rfl
noncomputable def p181_L6 (g3:Int→Bool→Int→Int→Int→(Lb)→(List Int)→(Lb)→(List Int)→(List (Bool × Lq × Lq))→Option R181) (n:Nat):Nat→Int→Bool→Int→Int→Int→Int→(Lb)→(List Int)→(Lb)→(List Int)→(List (Bool × Lq × Lq))→Option R181
 | 0,_,_,_,_,_,_,_,_,_,_,_=>none
 | m + 1,x0,x1,x2,x3,x4,x5,x6,x7,x8,x9,x10=>st181_L6 n (p181_L6 g3 n m) g3 x0 x1 x2 x3 x4 x5 x6 x7 x8 x9 x10
noncomputable def p181_L3 (n:Nat):Nat→Int→Bool→Int→Int→Int→(Lb)→(List Int)→(Lb)→(List Int)→(List (Bool × Lq × Lq))→Option R181
 | 0,_,_,_,_,_,_,_,_,_,_=>none
 | m + 1,x0,x1,x2,x3,x4,x5,x6,x7,x8,x9=>st181_L3 n (p181_L6 (p181_L3 n m) n n) x0 x1 x2 x3 x4 x5 x6 x7 x8 x9
noncomputable def p181 (n:Nat) (a:(Lb × List Int) × (Lb × List Int) × List (Bool × Lq × Lq) × Int) (b:Int):Option R181:=st181_top n (p181_L3 n n) a b
theorem t181_L6 (n:Nat) (m3:Nat):∀ (m6:Nat) (x0:Int) (x1:Bool) (x2 x3 x4 x5:Int) (x6:Lb) (x7:List Int) (x8:Lb) (x9:List Int) (x10:List (Bool × Lq × Lq)),at181 n (.head 6) [m3,m6] (sh181_L6 x0 x1 x2 x3 x4 x5 x6 x7 x8 x9 x10)=p181_L6 (fun x0 x1 x2 x3 x4 x5 x6 x7 x8 x9=>at181 n (.head 3) [m3] (sh181_L3 x0 x1 x2 x3 x4 x5 x6 x7 x8 x9)) n m6 x0 x1 x2 x3 x4 x5 x6 x7 x8 x9 x10:=by
 intro m
 induction m with
 | zero=>intros; rw [e181_L6_0]; rfl
 | succ m ih =>
  intros
  rw [e181_L6]
  try simp only [ih]
  rfl
theorem t181_L3 (n:Nat):∀ (m3:Nat) (x0:Int) (x1:Bool) (x2 x3 x4:Int) (x5:Lb) (x6:List Int) (x7:Lb) (x8:List Int) (x9:List (Bool × Lq × Lq)),at181 n (.head 3) [m3] (sh181_L3 x0 x1 x2 x3 x4 x5 x6 x7 x8 x9)=p181_L3 n m3 x0 x1 x2 x3 x4 x5 x6 x7 x8 x9:=by
 intro m
 induction m with
 | zero=>intros; rw [e181_L3_0]; rfl
 | succ m ih =>
  intros
  rw [e181_L3]
  try simp only [t181_L6,ih]
  rfl
theorem F181_eq (n:Nat) (a:(Lb × List Int) × (Lb × List Int) × List (Bool × Lq × Lq) × Int) (b:Int):runF TT G181 an181 Try.f181 c181 ps181 rs181 n (a,b,())=p181 n a b:=by
 rw [e181_top]
 simp only [t181_L3]
 try rfl
noncomputable def q181 (n:Nat) (x:argsD ps181):Option R181:=p181 n x.1 x.2.1
noncomputable def Sm181:Sm:=⟨ps181,rs181,false,q181⟩
theorem holds181 (hg:GamOK Try.prog G181):Holds Try.prog 181 Sm181:=by
 have:=h0_181 hg
 have e:(runF TT G181 an181 Try.f181 c181 ps181 rs181)=q181:=by
  funext n x
  exact F181_eq n x.1 x.2.1
 rw [e] at this
 exact this
theorem gam181:GamOK Try.prog G181:=fun _ _ h=>by cases h
theorem hh181:Holds Try.prog 181 Sm181:=holds181 gam181
end Go.Proofs.Ytdkaagpkeomhmaa.Rx.S

namespace Go.Proofs.Ytdkaagpkeomhmaa.Rx.S
open Go Go.RowKit Go.Proofs
set_option maxRecDepth 100000
noncomputable def c171:Code:=(Try.f171.body.getD .skip)
def an171:An:=⟨fun r=>match r with | 5=>⟨[1,2,4],[]⟩ | _=>⟨[],[]⟩,fun _ _=>none⟩
abbrev ps171:List PK:=[.own tMem true,.val i64 false]
abbrev rs171:List RK:=[.own tMem true,.val .bool false]
abbrev R171:=retsD rs171 × outsD ps171
noncomputable def G171:Gam:=fun f=>match f with | 172=>some Sm172 | 174=>some Sm174 | 180=>some Sm180 | 181=>some Sm181 | _=>none
theorem h0_171 (hg:GamOK Try.prog G171):Holds Try.prog 171 ⟨ps171,rs171,false,runF TT G171 an171 Try.f171 c171 ps171 rs171⟩:=holds_of tt_ok hg mixed Try.func171 (by kernel_rfl) (by rfl) (by decide +kernel)
noncomputable def at171:Nat→Pt→List Nat→St→Option R171:=atF TT G171 an171 Try.f171 c171 _ _
def sh171_L5 (x0 x1 x2:Int) (x3:Lb) (x4:List Int) (x5:Lb) (x6:List Int) (x7:List (Bool × Lq × Lq)):St:=(St.mk [Uu,AV.one (SV.int (Go.IntKind.i64) x0),AV.one (SV.bptr 1000000 0),Uu,AV.one (SV.bptr 1000001 0),Uu,Uu,Uu,Uu,Uu,Uu,Uu,Uu,Uu,Uu,Uu,Uu,Uu,Uu,Uu,Uu,Uu,Uu,Uu,Uu,Uu,Uu,Uu,Uu,Uu,Uu,Uu,Uu,Uu,Uu,Uu,Uu,Uu,Uu,Uu,Uu,Uu,Uu,Uu,Uu,Uu,Uu,Uu,Uu,Uu,Uu,Uu,Uu,Uu,Uu,Uu,Uu,Uu,Uu,Uu,Uu,Uu,Uu,Uu,Uu,Uu,Uu,Uu,Uu,Uu,Uu,Uu,Uu,Uu,Uu,Uu,Uu,Uu,Uu,Uu] ((1000000,(Ent.box ((SV.ref 1000002 0 [] Option.none) :: ((SV.ref 1000003 0 [] Option.none) :: ((SV.ref 1000004 0 [] Option.none) :: ((SV.ref 1000005 0 [] Option.none) :: ((SV.ref 1000006 0 [] Option.none) :: ((SV.int (Go.IntKind.i64) x1) :: [])))))))) :: ((1000001,(Ent.box (SV.nil :: (SV.nil :: (SV.nil :: (SV.nil :: (SV.nil :: ((SV.int (Go.IntKind.i64) x2) :: [])))))))) :: ((1000002,(Ent.row (⟨9,Ty.str,x3⟩:Rw) 0 Option.none)) :: ((1000003,(Ent.row (⟨3,Ty.int Go.IntKind.i64,x4⟩:Rw) 0 Option.none)) :: ((1000004,(Ent.row (⟨9,Ty.str,x5⟩:Rw) 0 Option.none)) :: ((1000005,(Ent.row (⟨3,Ty.int Go.IntKind.i64,x6⟩:Rw) 0 Option.none)) :: ((1000006,(Ent.row (⟨71,Ty.bool.pair ((Ty.row (nat_lit 116) ((Ty.int Go.IntKind.i64).pair ((Ty.int Go.IntKind.i64).pair (Ty.bool.pair Ty.bool)))).pair (Ty.row (nat_lit 80) ((Ty.int Go.IntKind.i64).pair ((Ty.int Go.IntKind.i64).pair (Ty.bool.pair Ty.bool))))),x7⟩:Rw) 0 Option.none)) :: []))))))))
noncomputable def st171_top (n:Nat) (lL5:Int→Int→Int→(Lb)→(List Int)→(Lb)→(List Int)→(List (Bool × Lq × Lq))→Option R171) (a:(Lb × List Int) × (Lb × List Int) × List (Bool × Lq × Lq) × Int) (b:Int):Option R171 :=
 (q180 n ((a.1.1,a.1.2),())).bind fun r0=>cond (decide ((0:Int) < r0.1.1)) (some ((((a.1.1,a.1.2),((a.2.1.1,a.2.1.2),(a.2.2.1,a.2.2.2))),(true,())),())) ((q180 n ((a.2.1.1,a.2.1.2),())).bind fun r1=>cond (decide (r1.1.1=(0:Int))) (some ((((a.1.1,a.1.2),((a.2.1.1,a.2.1.2),(a.2.2.1,a.2.2.2))),(false,())),())) (lL5 (b) (a.2.2.2) ((0:Int)) (a.1.1) (a.1.2) (a.2.1.1) (a.2.1.2) (a.2.2.1)))
noncomputable def st171_L5 (n:Nat) (lL5:Int→Int→Int→(Lb)→(List Int)→(Lb)→(List Int)→(List (Bool × Lq × Lq))→Option R171) (x0 x1 x2:Int) (x3:Lb) (x4:List Int) (x5:Lb) (x6:List Int) (x7:List (Bool × Lq × Lq)):Option R171 :=
 cond (decide (x1=x0)) (lL5 (x0) ((Go.IntKind.i64.wrap (x1 + (1:Int))).tmod (12:Int)) (x2) (x3) (x4) (x5) (x6) (x7)) ((q181 n (((x3,x4),(x5,x6),x7,(Go.IntKind.i64.wrap (x1 + (1:Int))).tmod (12:Int)),x1,())).bind fun r3=>cond (r3.1.2.1) (lL5 (x0) (r3.1.1.2.2.2) (x2) (r3.1.1.1.1) (r3.1.1.1.2) (r3.1.1.2.1.1) (r3.1.1.2.1.2) (r3.1.1.2.2.1)) (cond (decide ((0:Int)≤x1)) (cond (decide (x1 < (↑(List.length r3.1.1.1.2):Int))) (cond (decide ((0:Int)≤x1)) (cond (decide (x1 < (↑(List.length r3.1.1.1.1):Int))) ((q172 n ((r3.1.1.2.1.1,r3.1.1.2.1.2),List.getD r3.1.1.1.1 x1.toNat ByteArray.empty,())).bind fun r4=>cond (decide ((0:Int)≤r4.1.2.1)) (cond (decide (r4.1.2.1 < (↑(List.length r4.1.1.2):Int))) ((q174 n (((r3.1.1.1.1,r3.1.1.1.2),(r4.1.1.1,List.set r4.1.1.2 (Int.toNat r4.1.2.1) (List.getD r3.1.1.1.2 x1.toNat (0:Int))),r3.1.1.2.2.1,r3.1.1.2.2.2),(1:Int),x1,(2:Int),r4.1.2.1,())).bind fun r5=>cond (decide ((0:Int)≤x1)) (cond (decide (x1 < (↑(List.length r5.1.1.1.2):Int))) (cond (decide ((0:Int)≤x1)) (cond (decide (x1 < (↑(List.length r5.1.1.1.1):Int))) (some ((((List.set r5.1.1.1.1 x1.toNat (ByteArray.mk #[]),List.set r5.1.1.1.2 x1.toNat (0:Int)),((r5.1.1.2.1.1,r5.1.1.2.1.2),(r5.1.1.2.2.1,r5.1.1.2.2.2))),(true,())),())) (none)) (none)) (none)) (none)) (none)) (none)) (none)) (none)) (none)) (none)))
theorem e171_top (n:Nat) (a:(Lb × List Int) × (Lb × List Int) × List (Bool × Lq × Lq) × Int) (b:Int):runF TT G171 an171 Try.f171 c171 ps171 rs171 n (a,b,())=st171_top n (fun x0 x1 x2 x3 x4 x5 x6 x7=>at171 n (.head 5) [n] (sh171_L5 x0 x1 x2 x3 x4 x5 x6 x7)) a b:=by kernel_rfl
theorem e171_L5_0 (n:Nat) (x0 x1 x2:Int) (x3:Lb) (x4:List Int) (x5:Lb) (x6:List Int) (x7:List (Bool × Lq × Lq)):at171 n (.head 5) [0] (sh171_L5 x0 x1 x2 x3 x4 x5 x6 x7)=none:=by kernel_rfl
theorem e171_L5 (n:Nat) (m5:Nat) (x0 x1 x2:Int) (x3:Lb) (x4:List Int) (x5:Lb) (x6:List Int) (x7:List (Bool × Lq × Lq)):at171 n (.head 5) [m5 + 1] (sh171_L5 x0 x1 x2 x3 x4 x5 x6 x7)=st171_L5 n (fun x0 x1 x2 x3 x4 x5 x6 x7=>at171 n (.head 5) [m5] (sh171_L5 x0 x1 x2 x3 x4 x5 x6 x7)) x0 x1 x2 x3 x4 x5 x6 x7:=by kernel_rfl
noncomputable def p171_L5 (n:Nat):Nat→Int→Int→Int→(Lb)→(List Int)→(Lb)→(List Int)→(List (Bool × Lq × Lq))→Option R171
 | 0,_,_,_,_,_,_,_,_=>none
 | m + 1,x0,x1,x2,x3,x4,x5,x6,x7=>st171_L5 n (p171_L5 n m) x0 x1 x2 x3 x4 x5 x6 x7
noncomputable def p171 (n:Nat) (a:(Lb × List Int) × (Lb × List Int) × List (Bool × Lq × Lq) × Int) (b:Int):Option R171:=st171_top n (p171_L5 n n) a b
theorem t171_L5 (n:Nat):∀ (m5:Nat) (x0 x1 x2:Int) (x3:Lb) (x4:List Int) (x5:Lb) (x6:List Int) (x7:List (Bool × Lq × Lq)),at171 n (.head 5) [m5] (sh171_L5 x0 x1 x2 x3 x4 x5 x6 x7)=p171_L5 n m5 x0 x1 x2 x3 x4 x5 x6 x7:=by
 intro m
 induction m with
 | zero=>intros; rw [e171_L5_0]; rfl
 | succ m ih =>
  intros
  rw [e171_L5]
  try simp only [ih]
  rfl
theorem F171_eq (n:Nat) (a:(Lb × List Int) × (Lb × List Int) × List (Bool × Lq × Lq) × Int) (b:Int):runF TT G171 an171 Try.f171 c171 ps171 rs171 n (a,b,())=p171 n a b:=by
 rw [e171_top]
 simp only [t171_L5]
 try rfl
noncomputable def q171 (n:Nat) (x:argsD ps171):Option R171:=p171 n x.1 x.2.1
noncomputable def Sm171:Sm:=⟨ps171,rs171,false,q171⟩
theorem holds171 (hg:GamOK Try.prog G171):Holds Try.prog 171 Sm171:=by
 have:=h0_171 hg
 have e:(runF TT G171 an171 Try.f171 c171 ps171 rs171)=q171:=by
  funext n x
  exact F171_eq n x.1 x.2.1
 rw [e] at this
 exact this
theorem gam171:GamOK Try.prog G171:=by
 intro f s h
 unfold G171 at h
 split at h
 ·injection h with h; subst h; exact ⟨⟨Try.f172,c172,Try.func172,by kernel_rfl,by decide +kernel⟩,hh172⟩
 ·injection h with h; subst h; exact ⟨⟨Try.f174,c174,Try.func174,by kernel_rfl,by decide +kernel⟩,hh174⟩
 ·injection h with h; subst h; exact ⟨⟨Try.f180,c180,Try.func180,by kernel_rfl,by decide +kernel⟩,hh180⟩
 ·injection h with h; subst h; exact ⟨⟨Try.f181,c181,Try.func181,by kernel_rfl,by decide +kernel⟩,hh181⟩
 ·cases h
theorem hh171:Holds Try.prog 171 Sm171:=holds171 gam171
end Go.Proofs.Ytdkaagpkeomhmaa.Rx.S

namespace Go.Proofs.Ytdkaagpkeomhmaa.Rx.S
open Go Go.RowKit Go.Proofs
set_option maxRecDepth 100000
noncomputable def c3000171:Code:=(Try.f171.body.getD .skip)
def an3000171:An:=⟨fun _=>⟨[],[]⟩,fun _ _=>none⟩
abbrev ps3000171:List PK:=[.io tMem true,.val i64 false]
abbrev rs3000171:List RK:=[.val .bool false]
abbrev R3000171:=retsD rs3000171 × outsD ps3000171
noncomputable def G3000171:Gam:=fun f=>match f with | 180=>some Sm180 | _=>none
theorem h0_3000171 (hg:GamOK Try.prog G3000171):HoldsB Try.prog 171 ⟨ps3000171,rs3000171,false,runB TT G3000171 an3000171 Try.f171 c3000171 ps3000171 rs3000171⟩:=holdsB_of tt_ok hg mixed Try.func171 (by kernel_rfl) (by rfl) (by decide +kernel)
noncomputable def at3000171:Nat→Pt→List Nat→St→Option R3000171:=atB TT G3000171 an3000171 Try.f171 c3000171 _ _
def sh3000171_L5:St:=(St.mk [Uu,Uu,Uu,Uu,Uu,Uu,Uu,Uu,Uu,Uu,Uu,Uu,Uu,Uu,Uu,Uu,Uu,Uu,Uu,Uu,Uu,Uu,Uu,Uu,Uu,Uu,Uu,Uu,Uu,Uu,Uu,Uu,Uu,Uu,Uu,Uu,Uu,Uu,Uu,Uu,Uu,Uu,Uu,Uu,Uu,Uu,Uu,Uu,Uu,Uu,Uu,Uu,Uu,Uu,Uu,Uu,Uu,Uu,Uu,Uu,Uu,Uu,Uu,Uu,Uu,Uu,Uu,Uu,Uu,Uu,Uu,Uu,Uu,Uu,Uu,Uu,Uu,Uu,Uu,Uu] [])
noncomputable def st3000171_top (n:Nat) (lL5:Option R3000171) (a:(Lb × List Int) × (Lb × List Int) × List (Bool × Lq × Lq) × Int) (b:Int):Option R3000171 :=
 (q180 n ((a.1.1,a.1.2),())).bind fun r0=>cond (decide ((0:Int) < r0.1.1)) (cond (decide (a.2.2.2=a.2.2.2)) (some ((true,()),(((a.1.1,a.1.2),((a.2.1.1,a.2.1.2),(a.2.2.1,a.2.2.2))),()))) (none)) ((q180 n ((a.2.1.1,a.2.1.2),())).bind fun r1=>cond (decide (r1.1.1=(0:Int))) (cond (decide (a.2.2.2=a.2.2.2)) (some ((false,()),(((a.1.1,a.1.2),((a.2.1.1,a.2.1.2),(a.2.2.1,a.2.2.2))),()))) (none)) (lL5 ))
noncomputable def st3000171_L5 (n:Nat):Option R3000171 :=
 none
theorem e3000171_top (n:Nat) (a:(Lb × List Int) × (Lb × List Int) × List (Bool × Lq × Lq) × Int) (b:Int):runB TT G3000171 an3000171 Try.f171 c3000171 ps3000171 rs3000171 n (a,b,())=st3000171_top n (at3000171 n (.head 5) [n] (sh3000171_L5 )) a b:=by kernel_rfl
theorem e3000171_L5_0 (n:Nat):at3000171 n (.head 5) [0] (sh3000171_L5 )=none:=by kernel_rfl
theorem e3000171_L5 (n:Nat) (m5:Nat):at3000171 n (.head 5) [m5 + 1] (sh3000171_L5 )=st3000171_L5 n:=by kernel_rfl
noncomputable def p3000171_L5 (n:Nat):Nat→Option R3000171
 | 0=>none
 | m + 1=>st3000171_L5 n 
noncomputable def p3000171 (n:Nat) (a:(Lb × List Int) × (Lb × List Int) × List (Bool × Lq × Lq) × Int) (b:Int):Option R3000171:=st3000171_top n (p3000171_L5 n n) a b
theorem t3000171_L5 (n:Nat):∀ (m5:Nat) ,at3000171 n (.head 5) [m5] (sh3000171_L5 )=p3000171_L5 n m5:=by
 intro m
 induction m with
 | zero=>intros; rw [e3000171_L5_0]; rfl
 | succ m ih =>
  intros
  rw [e3000171_L5]
  try simp only [ih]
  rfl
theorem F3000171_eq (n:Nat) (a:(Lb × List Int) × (Lb × List Int) × List (Bool × Lq × Lq) × Int) (b:Int):runB TT G3000171 an3000171 Try.f171 c3000171 ps3000171 rs3000171 n (a,b,())=p3000171 n a b:=by
 rw [e3000171_top]
 simp only [t3000171_L5]
 try rfl
noncomputable def q3000171 (n:Nat) (x:argsD ps3000171):Option R3000171:=p3000171 n x.1 x.2.1
noncomputable def Sm3000171:Sm:=⟨ps3000171,rs3000171,false,q3000171⟩
theorem holds3000171 (hg:GamOK Try.prog G3000171):HoldsB Try.prog 171 Sm3000171:=by
 have:=h0_3000171 hg
 have e:(runB TT G3000171 an3000171 Try.f171 c3000171 ps3000171 rs3000171)=q3000171:=by
  funext n x
  exact F3000171_eq n x.1 x.2.1
 rw [e] at this
 exact this
theorem gam3000171:GamOK Try.prog G3000171:=by
 intro f s h
 unfold G3000171 at h
 split at h
 ·injection h with h; subst h; exact ⟨⟨Try.f180,c180,Try.func180,by kernel_rfl,by decide +kernel⟩,hh180⟩
 ·cases h
theorem hh3000171:HoldsX Try.prog 3000171 Sm3000171:=holds3000171 gam3000171
end Go.Proofs.Ytdkaagpkeomhmaa.Rx.S

namespace Go.Proofs.Ytdkaagpkeomhmaa.Rx.S
open Go Go.RowKit Go.Proofs
set_option maxRecDepth 100000
noncomputable def c173:Code:=(Try.f173.body.getD .skip)
def an173:An:=⟨fun _=>⟨[],[]⟩,fun _ _=>none⟩
abbrev ps173:List PK:=[]
abbrev rs173:List RK:=[.val .str false]
abbrev R173:=retsD rs173 × outsD ps173
noncomputable def G173:Gam:=fun _=>none
theorem h0_173 (hg:GamOK Try.prog G173):Holds Try.prog 173 ⟨ps173,rs173,false,runF TT G173 an173 Try.f173 c173 ps173 rs173⟩:=holds_of tt_ok hg mixed Try.func173 (by kernel_rfl) (by rfl) (by decide +kernel)
noncomputable def st173_top (n:Nat):Option R173 :=
 some ((List.foldl (fun r n=>r.push (UInt8.ofNat n.toNat)) ByteArray.empty (List.replicate (Int.toNat (4:Int)) (0:Int)),()),())
theorem e173_top (n:Nat):runF TT G173 an173 Try.f173 c173 ps173 rs173 n ()=st173_top n:=by kernel_rfl
noncomputable def p173 (n:Nat):Option R173:=st173_top n 
theorem F173_eq (n:Nat):runF TT G173 an173 Try.f173 c173 ps173 rs173 n ()=p173 n:=by
 rw [e173_top]
 skip
 try rfl
noncomputable def q173 (n:Nat) (x:argsD ps173):Option R173:=p173 n 
noncomputable def Sm173:Sm:=⟨ps173,rs173,false,q173⟩
theorem holds173 (hg:GamOK Try.prog G173):Holds Try.prog 173 Sm173:=by
 have:=h0_173 hg
 have e:(runF TT G173 an173 Try.f173 c173 ps173 rs173)=q173:=by
  funext n x
  exact F173_eq n 
 rw [e] at this
 exact this
theorem gam173:GamOK Try.prog G173:=fun _ _ h=>by cases h
theorem hh173:Holds Try.prog 173 Sm173:=holds173 gam173
end Go.Proofs.Ytdkaagpkeomhmaa.Rx.S

namespace Go.Proofs.Ytdkaagpkeomhmaa.Rx.S
open Go Go.RowKit Go.Proofs
set_option maxRecDepth 100000
noncomputable def c153:Code:=(Try.f153.body.getD .skip)
def an153:An:=⟨fun _=>⟨[],[]⟩,fun _ _=>none⟩
abbrev ps153:List PK:=[.own tMem true,.val i64 false,.val i64 false]
abbrev rs153:List RK:=[.own tMem true,.val .bool false]
abbrev R153:=retsD rs153 × outsD ps153
noncomputable def G153:Gam:=fun f=>match f with | 171=>some Sm171 | 3000171=>some Sm3000171 | 172=>some Sm172 | 173=>some Sm173 | 174=>some Sm174 | _=>none
theorem h0_153 (hg:GamOK Try.prog G153):Holds Try.prog 153 ⟨ps153,rs153,false,runF TT G153 an153 Try.f153 c153 ps153 rs153⟩:=holds_of tt_ok hg mixed Try.func153 (by kernel_rfl) (by rfl) (by decide +kernel)
noncomputable def st153_top (n:Nat) (a:(Lb × List Int) × (Lb × List Int) × List (Bool × Lq × Lq) × Int) (b:Int) (c:Int):Option R153 :=
 cond (decide ((0:Int)≤b)) (cond (decide (b < (↑(List.length a.2.2.1):Int))) (cond (decide ((0:Int)≤c)) (cond (decide (c < (↑(List.length (List.getD a.2.2.1 b.toNat (false,[],[])).2.2):Int))) (cond (!decide ((List.getD (List.getD a.2.2.1 b.toNat (false,[],[])).2.2 c.toNat ((0:Int),(0:Int),false,false)).1=(1:Int))) ((q171 n (((a.1.1,a.1.2),(a.2.1.1,a.2.1.2),a.2.2.1,a.2.2.2),(-1:Int),())).bind fun r0=>cond (r0.1.2.1) ((q171 n (((a.1.1,a.1.2),(a.2.1.1,a.2.1.2),a.2.2.1,a.2.2.2),(-1:Int),())).bind fun r1=>cond (!r1.1.2.1) (none) (cond (decide ((List.getD (List.getD a.2.2.1 b.toNat (false,[],[])).2.2 c.toNat ((0:Int),(0:Int),false,false)).1=(0:Int))) ((q173 n ()).bind fun r2=>(q172 n ((r1.1.1.1.1,r1.1.1.1.2),r2.1.1,())).bind fun r3=>cond (decide ((0:Int)≤b)) (cond (decide (b < (↑(List.length r1.1.1.2.2.1):Int))) (cond (decide ((0:Int)≤c)) (cond (decide (c < (↑(List.length (List.getD r1.1.1.2.2.1 b.toNat (false,[],[])).2.2):Int))) (cond (decide ((0:Int)≤b)) (cond (decide (b < (↑(List.set r1.1.1.2.2.1 b.toNat ((List.getD r1.1.1.2.2.1 b.toNat (false,[],[])).1,(List.getD r1.1.1.2.2.1 b.toNat (false,[],[])).2.1,List.set (List.getD r1.1.1.2.2.1 b.toNat (false,[],[])).2.2 c.toNat ((1:Int),r3.1.2.1,true,false))).length:Int))) (cond (decide ((0:Int)≤c)) (cond (decide (c < (↑(List.length ((List.set r1.1.1.2.2.1 b.toNat ((List.getD r1.1.1.2.2.1 b.toNat (false,[],[])).1,(List.getD r1.1.1.2.2.1 b.toNat (false,[],[])).2.1,List.set (List.getD r1.1.1.2.2.1 b.toNat (false,[],[])).2.2 c.toNat ((1:Int),r3.1.2.1,true,false))).getD b.toNat (false,[],[])).2.2):Int))) (some ((((r3.1.1.1,r3.1.1.2),((r1.1.1.2.1.1,r1.1.1.2.1.2),((List.set r1.1.1.2.2.1 b.toNat ((List.getD r1.1.1.2.2.1 b.toNat (false,[],[])).1,(List.getD r1.1.1.2.2.1 b.toNat (false,[],[])).2.1,List.set (List.getD r1.1.1.2.2.1 b.toNat (false,[],[])).2.2 c.toNat ((1:Int),r3.1.2.1,true,false))).set b.toNat (((List.set r1.1.1.2.2.1 b.toNat ((List.getD r1.1.1.2.2.1 b.toNat (false,[],[])).1,(List.getD r1.1.1.2.2.1 b.toNat (false,[],[])).2.1,List.set (List.getD r1.1.1.2.2.1 b.toNat (false,[],[])).2.2 c.toNat ((1:Int),r3.1.2.1,true,false))).getD b.toNat (false,[],[])).1,((List.set r1.1.1.2.2.1 b.toNat ((List.getD r1.1.1.2.2.1 b.toNat (false,[],[])).1,(List.getD r1.1.1.2.2.1 b.toNat (false,[],[])).2.1,List.set (List.getD r1.1.1.2.2.1 b.toNat (false,[],[])).2.2 c.toNat ((1:Int),r3.1.2.1,true,false))).getD b.toNat (false,[],[])).2.1,List.set ((List.set r1.1.1.2.2.1 b.toNat ((List.getD r1.1.1.2.2.1 b.toNat (false,[],[])).1,(List.getD r1.1.1.2.2.1 b.toNat (false,[],[])).2.1,List.set (List.getD r1.1.1.2.2.1 b.toNat (false,[],[])).2.2 c.toNat ((1:Int),r3.1.2.1,true,false))).getD b.toNat (false,[],[])).2.2 c.toNat ((List.getD ((List.set r1.1.1.2.2.1 b.toNat ((List.getD r1.1.1.2.2.1 b.toNat (false,[],[])).1,(List.getD r1.1.1.2.2.1 b.toNat (false,[],[])).2.1,List.set (List.getD r1.1.1.2.2.1 b.toNat (false,[],[])).2.2 c.toNat ((1:Int),r3.1.2.1,true,false))).getD b.toNat (false,[],[])).2.2 c.toNat ((0:Int),(0:Int),false,false)).1,(List.getD ((List.set r1.1.1.2.2.1 b.toNat ((List.getD r1.1.1.2.2.1 b.toNat (false,[],[])).1,(List.getD r1.1.1.2.2.1 b.toNat (false,[],[])).2.1,List.set (List.getD r1.1.1.2.2.1 b.toNat (false,[],[])).2.2 c.toNat ((1:Int),r3.1.2.1,true,false))).getD b.toNat (false,[],[])).2.2 c.toNat ((0:Int),(0:Int),false,false)).2.1,(List.getD ((List.set r1.1.1.2.2.1 b.toNat ((List.getD r1.1.1.2.2.1 b.toNat (false,[],[])).1,(List.getD r1.1.1.2.2.1 b.toNat (false,[],[])).2.1,List.set (List.getD r1.1.1.2.2.1 b.toNat (false,[],[])).2.2 c.toNat ((1:Int),r3.1.2.1,true,false))).getD b.toNat (false,[],[])).2.2 c.toNat ((0:Int),(0:Int),false,false)).2.2.1,true)),r1.1.1.2.2.2))),(true,())),())) (none)) (none)) (none)) (none)) (none)) (none)) (none)) (none)) (cond (decide ((0:Int)≤(List.getD (List.getD a.2.2.1 b.toNat (false,[],[])).2.2 c.toNat ((0:Int),(0:Int),false,false)).2.1)) (cond (decide ((List.getD (List.getD a.2.2.1 b.toNat (false,[],[])).2.2 c.toNat ((0:Int),(0:Int),false,false)).2.1 < (↑(List.length r1.1.1.2.1.1):Int))) ((q172 n ((r1.1.1.1.1,r1.1.1.1.2),List.getD r1.1.1.2.1.1 (Int.toNat (List.getD (List.getD a.2.2.1 b.toNat (false,[],[])).2.2 c.toNat ((0:Int),(0:Int),false,false)).2.1) ByteArray.empty,())).bind fun r4=>cond (decide ((0:Int)≤(List.getD (List.getD a.2.2.1 b.toNat (false,[],[])).2.2 c.toNat ((0:Int),(0:Int),false,false)).2.1)) (cond (decide ((List.getD (List.getD a.2.2.1 b.toNat (false,[],[])).2.2 c.toNat ((0:Int),(0:Int),false,false)).2.1 < (↑(List.length r1.1.1.2.1.2):Int))) (cond (decide ((0:Int)≤r4.1.2.1)) (cond (decide (r4.1.2.1 < (↑(List.length r4.1.1.2):Int))) ((q174 n (((r4.1.1.1,List.set r4.1.1.2 (Int.toNat r4.1.2.1) (List.getD r1.1.1.2.1.2 (Int.toNat (List.getD (List.getD a.2.2.1 b.toNat (false,[],[])).2.2 c.toNat ((0:Int),(0:Int),false,false)).2.1) (0:Int))),(r1.1.1.2.1.1,r1.1.1.2.1.2),r1.1.1.2.2.1,r1.1.1.2.2.2),(2:Int),(List.getD (List.getD a.2.2.1 b.toNat (false,[],[])).2.2 c.toNat ((0:Int),(0:Int),false,false)).2.1,(1:Int),r4.1.2.1,())).bind fun r5=>cond (decide ((0:Int)≤(List.getD (List.getD a.2.2.1 b.toNat (false,[],[])).2.2 c.toNat ((0:Int),(0:Int),false,false)).2.1)) (cond (decide ((List.getD (List.getD a.2.2.1 b.toNat (false,[],[])).2.2 c.toNat ((0:Int),(0:Int),false,false)).2.1 < (↑(List.length r5.1.1.2.1.2):Int))) (cond (decide ((0:Int)≤(List.getD (List.getD a.2.2.1 b.toNat (false,[],[])).2.2 c.toNat ((0:Int),(0:Int),false,false)).2.1)) (cond (decide ((List.getD (List.getD a.2.2.1 b.toNat (false,[],[])).2.2 c.toNat ((0:Int),(0:Int),false,false)).2.1 < (↑(List.length r5.1.1.2.1.1):Int))) (cond (decide ((0:Int)≤b)) (cond (decide (b < (↑(List.length r5.1.1.2.2.1):Int))) (cond (decide ((0:Int)≤c)) (cond (decide (c < (↑(List.length (List.getD r5.1.1.2.2.1 b.toNat (false,[],[])).2.2):Int))) (some ((((r5.1.1.1.1,r5.1.1.1.2),((List.set r5.1.1.2.1.1 (Int.toNat (List.getD (List.getD a.2.2.1 b.toNat (false,[],[])).2.2 c.toNat ((0:Int),(0:Int),false,false)).2.1) (ByteArray.mk #[]),List.set r5.1.1.2.1.2 (Int.toNat (List.getD (List.getD a.2.2.1 b.toNat (false,[],[])).2.2 c.toNat ((0:Int),(0:Int),false,false)).2.1) (0:Int)),(List.set r5.1.1.2.2.1 b.toNat ((List.getD r5.1.1.2.2.1 b.toNat (false,[],[])).1,(List.getD r5.1.1.2.2.1 b.toNat (false,[],[])).2.1,List.set (List.getD r5.1.1.2.2.1 b.toNat (false,[],[])).2.2 c.toNat ((List.getD (List.getD r5.1.1.2.2.1 b.toNat (false,[],[])).2.2 c.toNat ((0:Int),(0:Int),false,false)).1,(List.getD (List.getD r5.1.1.2.2.1 b.toNat (false,[],[])).2.2 c.toNat ((0:Int),(0:Int),false,false)).2.1,(List.getD (List.getD r5.1.1.2.2.1 b.toNat (false,[],[])).2.2 c.toNat ((0:Int),(0:Int),false,false)).2.2.1,true)),r5.1.1.2.2.2))),(true,())),())) (none)) (none)) (none)) (none)) (none)) (none)) (none)) (none)) (none)) (none)) (none)) (none)) (none)) (none)))) ((q3000171 n (((a.1.1,a.1.2),(a.2.1.1,a.2.1.2),a.2.2.1,a.2.2.2),(-1:Int),())).bind fun r6=>cond (!r6.1.1) (some ((((r6.2.1.1.1,r6.2.1.1.2),((r6.2.1.2.1.1,r6.2.1.2.1.2),(r6.2.1.2.2.1,a.2.2.2))),(false,())),())) (none))) (cond (decide ((0:Int)≤b)) (cond (decide (b < (↑(List.length a.2.2.1):Int))) (cond (decide ((0:Int)≤c)) (cond (decide (c < (↑(List.length (List.getD a.2.2.1 b.toNat (false,[],[])).2.2):Int))) (some ((((a.1.1,a.1.2),((a.2.1.1,a.2.1.2),(List.set a.2.2.1 b.toNat ((List.getD a.2.2.1 b.toNat (false,[],[])).1,(List.getD a.2.2.1 b.toNat (false,[],[])).2.1,List.set (List.getD a.2.2.1 b.toNat (false,[],[])).2.2 c.toNat ((List.getD (List.getD a.2.2.1 b.toNat (false,[],[])).2.2 c.toNat ((0:Int),(0:Int),false,false)).1,(List.getD (List.getD a.2.2.1 b.toNat (false,[],[])).2.2 c.toNat ((0:Int),(0:Int),false,false)).2.1,(List.getD (List.getD a.2.2.1 b.toNat (false,[],[])).2.2 c.toNat ((0:Int),(0:Int),false,false)).2.2.1,true)),a.2.2.2))),(true,())),())) (none)) (none)) (none)) (none))) (none)) (none)) (none)) (none)
theorem e153_top (n:Nat) (a:(Lb × List Int) × (Lb × List Int) × List (Bool × Lq × Lq) × Int) (b:Int) (c:Int):runF TT G153 an153 Try.f153 c153 ps153 rs153 n (a,b,c,())=st153_top n a b c:=by kernel_rfl
noncomputable def p153 (n:Nat) (a:(Lb × List Int) × (Lb × List Int) × List (Bool × Lq × Lq) × Int) (b:Int) (c:Int):Option R153:=st153_top n a b c
theorem F153_eq (n:Nat) (a:(Lb × List Int) × (Lb × List Int) × List (Bool × Lq × Lq) × Int) (b:Int) (c:Int):runF TT G153 an153 Try.f153 c153 ps153 rs153 n (a,b,c,())=p153 n a b c:=by
 rw [e153_top]
 skip
 try rfl
noncomputable def q153 (n:Nat) (x:argsD ps153):Option R153:=p153 n x.1 x.2.1 x.2.2.1
noncomputable def Sm153:Sm:=⟨ps153,rs153,false,q153⟩
theorem holds153 (hg:GamOK Try.prog G153):Holds Try.prog 153 Sm153:=by
 have:=h0_153 hg
 have e:(runF TT G153 an153 Try.f153 c153 ps153 rs153)=q153:=by
  funext n x
  exact F153_eq n x.1 x.2.1 x.2.2.1
 rw [e] at this
 exact this
theorem gam153:GamOK Try.prog G153:=by
 intro f s h
 unfold G153 at h
 split at h
 ·injection h with h; subst h; exact ⟨⟨Try.f171,c171,Try.func171,by kernel_rfl,by decide +kernel⟩,hh171⟩
 ·injection h with h; subst h; exact ⟨⟨Try.f171,c3000171,Try.func171,by kernel_rfl,by decide +kernel⟩,hh3000171⟩
 ·injection h with h; subst h; exact ⟨⟨Try.f172,c172,Try.func172,by kernel_rfl,by decide +kernel⟩,hh172⟩
 ·injection h with h; subst h; exact ⟨⟨Try.f173,c173,Try.func173,by kernel_rfl,by decide +kernel⟩,hh173⟩
 ·injection h with h; subst h; exact ⟨⟨Try.f174,c174,Try.func174,by kernel_rfl,by decide +kernel⟩,hh174⟩
 ·cases h
theorem hh153:Holds Try.prog 153 Sm153:=holds153 gam153
end Go.Proofs.Ytdkaagpkeomhmaa.Rx.S

namespace Go.Proofs.Ytdkaagpkeomhmaa.Rx.S
open Go Go.RowKit Go.Proofs
set_option maxRecDepth 100000
noncomputable def c154:Code:=(Try.f154.body.getD .skip)
def an154:An:=⟨fun _=>⟨[],[]⟩,fun _ _=>none⟩
abbrev ps154:List PK:=[.own tMem true,.val i64 false,.val i64 false]
abbrev rs154:List RK:=[.own tMem true,.val .bool false]
abbrev R154:=retsD rs154 × outsD ps154
noncomputable def G154:Gam:=fun f=>match f with | 160=>some Sm160 | 171=>some Sm171 | 3000171=>some Sm3000171 | 172=>some Sm172 | _=>none
theorem h0_154 (hg:GamOK Try.prog G154):Holds Try.prog 154 ⟨ps154,rs154,false,runF TT G154 an154 Try.f154 c154 ps154 rs154⟩:=holds_of tt_ok hg mixed Try.func154 (by kernel_rfl) (by rfl) (by decide +kernel)
noncomputable def st154_top (n:Nat) (a:(Lb × List Int) × (Lb × List Int) × List (Bool × Lq × Lq) × Int) (b:Int) (c:Int):Option R154 :=
 cond (decide ((0:Int)≤b)) (cond (decide (b < (↑(List.length a.2.2.1):Int))) (cond (decide ((0:Int)≤c)) (cond (decide (c < (↑(List.length (List.getD a.2.2.1 b.toNat (false,[],[])).2.2):Int))) (cond (!(List.getD (List.getD a.2.2.1 b.toNat (false,[],[])).2.2 c.toNat ((0:Int),(0:Int),false,false)).2.2.1) (cond (decide ((0:Int)≤(List.getD (List.getD a.2.2.1 b.toNat (false,[],[])).2.2 c.toNat ((0:Int),(0:Int),false,false)).2.1)) (cond (decide ((List.getD (List.getD a.2.2.1 b.toNat (false,[],[])).2.2 c.toNat ((0:Int),(0:Int),false,false)).2.1 < (↑(List.length a.1.2):Int))) (cond (decide ((1:Int) < List.getD a.1.2 (Int.toNat (List.getD (List.getD a.2.2.1 b.toNat (false,[],[])).2.2 c.toNat ((0:Int),(0:Int),false,false)).2.1) (0:Int))) ((q171 n (((a.1.1,a.1.2),(a.2.1.1,a.2.1.2),a.2.2.1,a.2.2.2),(List.getD (List.getD a.2.2.1 b.toNat (false,[],[])).2.2 c.toNat ((0:Int),(0:Int),false,false)).2.1,())).bind fun r0=>cond (r0.1.2.1) ((q171 n (((a.1.1,a.1.2),(a.2.1.1,a.2.1.2),a.2.2.1,a.2.2.2),(List.getD (List.getD a.2.2.1 b.toNat (false,[],[])).2.2 c.toNat ((0:Int),(0:Int),false,false)).2.1,())).bind fun r1=>cond (!r1.1.2.1) (none) (cond (decide ((0:Int)≤(List.getD (List.getD a.2.2.1 b.toNat (false,[],[])).2.2 c.toNat ((0:Int),(0:Int),false,false)).2.1)) (cond (decide ((List.getD (List.getD a.2.2.1 b.toNat (false,[],[])).2.2 c.toNat ((0:Int),(0:Int),false,false)).2.1 < (↑(List.length r1.1.1.1.1):Int))) ((q172 n ((r1.1.1.1.1,r1.1.1.1.2),List.getD r1.1.1.1.1 (Int.toNat (List.getD (List.getD a.2.2.1 b.toNat (false,[],[])).2.2 c.toNat ((0:Int),(0:Int),false,false)).2.1) ByteArray.empty,())).bind fun r2=>(q160 n ((r2.1.1.1,r2.1.1.2),(List.getD (List.getD a.2.2.1 b.toNat (false,[],[])).2.2 c.toNat ((0:Int),(0:Int),false,false)).2.1,())).bind fun r3=>cond (decide ((0:Int)≤b)) (cond (decide (b < (↑(List.length r1.1.1.2.2.1):Int))) (cond (decide ((0:Int)≤c)) (cond (decide (c < (↑(List.length (List.getD r1.1.1.2.2.1 b.toNat (false,[],[])).2.2):Int))) (some ((((r3.1.1.1,r3.1.1.2),((r1.1.1.2.1.1,r1.1.1.2.1.2),(List.set r1.1.1.2.2.1 b.toNat ((List.getD r1.1.1.2.2.1 b.toNat (false,[],[])).1,(List.getD r1.1.1.2.2.1 b.toNat (false,[],[])).2.1,List.set (List.getD r1.1.1.2.2.1 b.toNat (false,[],[])).2.2 c.toNat ((List.getD (List.getD a.2.2.1 b.toNat (false,[],[])).2.2 c.toNat ((0:Int),(0:Int),false,false)).1,r2.1.2.1,true,(List.getD (List.getD a.2.2.1 b.toNat (false,[],[])).2.2 c.toNat ((0:Int),(0:Int),false,false)).2.2.2)),r1.1.1.2.2.2))),(true,())),())) (none)) (none)) (none)) (none)) (none)) (none))) ((q3000171 n (((a.1.1,a.1.2),(a.2.1.1,a.2.1.2),a.2.2.1,a.2.2.2),(List.getD (List.getD a.2.2.1 b.toNat (false,[],[])).2.2 c.toNat ((0:Int),(0:Int),false,false)).2.1,())).bind fun r4=>cond (!r4.1.1) (some ((((r4.2.1.1.1,r4.2.1.1.2),((r4.2.1.2.1.1,r4.2.1.2.1.2),(r4.2.1.2.2.1,a.2.2.2))),(false,())),())) (none))) (cond (decide ((0:Int)≤b)) (cond (decide (b < (↑(List.length a.2.2.1):Int))) (cond (decide ((0:Int)≤c)) (cond (decide (c < (↑(List.length (List.getD a.2.2.1 b.toNat (false,[],[])).2.2):Int))) (some ((((a.1.1,a.1.2),((a.2.1.1,a.2.1.2),(List.set a.2.2.1 b.toNat ((List.getD a.2.2.1 b.toNat (false,[],[])).1,(List.getD a.2.2.1 b.toNat (false,[],[])).2.1,List.set (List.getD a.2.2.1 b.toNat (false,[],[])).2.2 c.toNat ((List.getD (List.getD a.2.2.1 b.toNat (false,[],[])).2.2 c.toNat ((0:Int),(0:Int),false,false)).1,(List.getD (List.getD a.2.2.1 b.toNat (false,[],[])).2.2 c.toNat ((0:Int),(0:Int),false,false)).2.1,true,(List.getD (List.getD a.2.2.1 b.toNat (false,[],[])).2.2 c.toNat ((0:Int),(0:Int),false,false)).2.2.2)),a.2.2.2))),(true,())),())) (none)) (none)) (none)) (none))) (none)) (none)) (cond (decide ((0:Int)≤b)) (cond (decide (b < (↑(List.length a.2.2.1):Int))) (cond (decide ((0:Int)≤c)) (cond (decide (c < (↑(List.length (List.getD a.2.2.1 b.toNat (false,[],[])).2.2):Int))) (some ((((a.1.1,a.1.2),((a.2.1.1,a.2.1.2),(List.set a.2.2.1 b.toNat ((List.getD a.2.2.1 b.toNat (false,[],[])).1,(List.getD a.2.2.1 b.toNat (false,[],[])).2.1,List.set (List.getD a.2.2.1 b.toNat (false,[],[])).2.2 c.toNat ((List.getD (List.getD a.2.2.1 b.toNat (false,[],[])).2.2 c.toNat ((0:Int),(0:Int),false,false)).1,(List.getD (List.getD a.2.2.1 b.toNat (false,[],[])).2.2 c.toNat ((0:Int),(0:Int),false,false)).2.1,true,(List.getD (List.getD a.2.2.1 b.toNat (false,[],[])).2.2 c.toNat ((0:Int),(0:Int),false,false)).2.2.2)),a.2.2.2))),(true,())),())) (none)) (none)) (none)) (none))) (none)) (none)) (none)) (none)
theorem e154_top (n:Nat) (a:(Lb × List Int) × (Lb × List Int) × List (Bool × Lq × Lq) × Int) (b:Int) (c:Int):runF TT G154 an154 Try.f154 c154 ps154 rs154 n (a,b,c,())=st154_top n a b c:=by kernel_rfl
noncomputable def p154 (n:Nat) (a:(Lb × List Int) × (Lb × List Int) × List (Bool × Lq × Lq) × Int) (b:Int) (c:Int):Option R154:=st154_top n a b c
theorem F154_eq (n:Nat) (a:(Lb × List Int) × (Lb × List Int) × List (Bool × Lq × Lq) × Int) (b:Int) (c:Int):runF TT G154 an154 Try.f154 c154 ps154 rs154 n (a,b,c,())=p154 n a b c:=by
 rw [e154_top]
 skip
 try rfl
noncomputable def q154 (n:Nat) (x:argsD ps154):Option R154:=p154 n x.1 x.2.1 x.2.2.1
noncomputable def Sm154:Sm:=⟨ps154,rs154,false,q154⟩
theorem holds154 (hg:GamOK Try.prog G154):Holds Try.prog 154 Sm154:=by
 have:=h0_154 hg
 have e:(runF TT G154 an154 Try.f154 c154 ps154 rs154)=q154:=by
  funext n x
  exact F154_eq n x.1 x.2.1 x.2.2.1
 rw [e] at this
 exact this
theorem gam154:GamOK Try.prog G154:=by
 intro f s h
 unfold G154 at h
 split at h
 ·injection h with h; subst h; exact ⟨⟨Try.f160,c160,Try.func160,by kernel_rfl,by decide +kernel⟩,hh160⟩
 ·injection h with h; subst h; exact ⟨⟨Try.f171,c171,Try.func171,by kernel_rfl,by decide +kernel⟩,hh171⟩
 ·injection h with h; subst h; exact ⟨⟨Try.f171,c3000171,Try.func171,by kernel_rfl,by decide +kernel⟩,hh3000171⟩
 ·injection h with h; subst h; exact ⟨⟨Try.f172,c172,Try.func172,by kernel_rfl,by decide +kernel⟩,hh172⟩
 ·cases h
theorem hh154:Holds Try.prog 154 Sm154:=holds154 gam154
end Go.Proofs.Ytdkaagpkeomhmaa.Rx.S

