/- What the functions of this seat compute, each as a plain function on lists and numbers, with the proof that a call answers so. No condition. -/
import Derived.Test.YtdkaagpkeomhmaaProg
import Derived.KernelRfl
import Derived.WalkKit
import Derived.Deep.LoopGhost
import Derived.Lib.Walk
import Derived.Test.YtdkaagpkeomhmaaEK4
set_option linter.unusedVariables false
set_option linter.unusedSimpArgs false
namespace Go.Proofs.Ytdkaagpkeomhmaa.Rx
abbrev Aq:Type:=Int×Int×Bool×Bool
abbrev Lb:Type:=List ByteArray
abbrev Lq:Type:=List Aq
abbrev Uu:AV:=AV.undef
abbrev Li:Type:=List Int
abbrev Br:Type:=Bool×Lq×Lq
abbrev Ls:Type:=List Br
abbrev Mm:Type:=(Lb×Li)×(Lb×Li)×Ls×Int
abbrev Ur(k:Nat):List AV:=List.replicate k Uu
abbrev Ai(x:Int):AV:=.one (.int .i64 x)
abbrev Si(x:Int):SV:=.int .i64 x
abbrev Sr(o:Nat):SV:=.ref o 0 [] none
abbrev Er(r:Rw):Ent:=.row r 0 none
abbrev yAq:Ty:=.pair (.int .i64) (.pair (.int .i64) (.pair .bool .bool))
abbrev ySp:Ty:=.pair .bool (.pair (.row 116 yAq) (.row 80 yAq))
end Go.Proofs.Ytdkaagpkeomhmaa.Rx
namespace Go.Proofs.Ytdkaagpkeomhmaa.Rx.S
open Go Go.RowKit Go.Proofs
def tbl:List (TypeId×TI):=[
(2,⟨.int .i64,1,8,[.int .i64],some (.int .i64),false⟩),
(3,⟨.int .i64,1,8,[.int .i64],some (.int .i64),false⟩),
(4,⟨.bool,1,1,[.bool],some .bool,false⟩),
(5,⟨.int .u8,1,1,[.int .u8],some (.int .u8),false⟩),
(6,⟨.int .u8,1,1,[.int .u8],some (.int .u8),false⟩),
(7,⟨.struct [(0,1),(1,1),(2,1),(3,1)],4,24,[.int .i64,.int .i64,.bool,.int .u8],some (.pair (.int .i64) (.pair (.int .i64) (.pair .bool (.int .u8)))),true⟩),
(8,⟨.struct [(0,1),(1,1),(2,1),(3,1)],4,24,[.int .i64,.int .i64,.bool,.int .u8],some (.pair (.int .i64) (.pair (.int .i64) (.pair .bool (.int .u8)))),true⟩),
(9,⟨.str,1,16,[.str],some .str,false⟩),
(10,⟨.str,1,16,[.str],some .str,false⟩),
(11,⟨.str,1,16,[.str],some .str,false⟩),
(12,⟨.int .u64,1,8,[.int .u64],some (.int .u64),false⟩),
(13,⟨.struct [(0,1),(1,1)],2,24,[.str,.int .u64],some (.pair .str (.int .u64)),false⟩),
(14,⟨.struct [(0,1),(1,1)],2,24,[.str,.int .u64],some (.pair .str (.int .u64)),false⟩),
(15,⟨.ptr,1,8,[.ptr],none,false⟩),
(16,⟨.ptr,1,8,[.ptr],none,false⟩),
(17,⟨.ptr,1,8,[.ptr],none,false⟩),
(18,⟨.struct [(0,1)],1,8,[.ptr],none,false⟩),
(19,⟨.struct [(0,1)],1,8,[.ptr],none,false⟩),
(21,⟨.int .i32,1,4,[.int .i32],some (.int .i32),false⟩),
(22,⟨.slice 5,1,24,[.slice],some (.row 5 (.int .u8)),false⟩),
(23,⟨.slice 9,1,24,[.slice],some (.row 9 .str),false⟩),
(24,⟨.slice 3,1,24,[.slice],some (.row 3 (.int .i64)),false⟩),
(25,⟨.struct [(0,1),(1,1)],2,48,[.slice,.slice],some (.pair (.row 9 .str) (.row 3 (.int .i64))),false⟩),
(26,⟨.struct [(0,1),(1,1)],2,48,[.slice,.slice],some (.pair (.row 9 .str) (.row 3 (.int .i64))),false⟩),
(27,⟨.slice 71,1,24,[.slice],some (.row 71 (.pair .bool (.pair (.row 116 (.pair (.int .i64) (.pair (.int .i64) (.pair .bool .bool)))) (.row 80 (.pair (.int .i64) (.pair (.int .i64) (.pair .bool .bool))))))),false⟩),
(28,⟨.struct [(0,2),(2,2),(4,1),(5,1)],6,128,[.slice,.slice,.slice,.slice,.slice,.int .i64],some (.pair (.pair (.row 9 .str) (.row 3 (.int .i64))) (.pair (.pair (.row 9 .str) (.row 3 (.int .i64))) (.pair (.row 71 (.pair .bool (.pair (.row 116 (.pair (.int .i64) (.pair (.int .i64) (.pair .bool .bool)))) (.row 80 (.pair (.int .i64) (.pair (.int .i64) (.pair .bool .bool))))))) (.int .i64)))),false⟩),
(29,⟨.struct [(0,2),(2,2),(4,1),(5,1)],6,128,[.slice,.slice,.slice,.slice,.slice,.int .i64],some (.pair (.pair (.row 9 .str) (.row 3 (.int .i64))) (.pair (.pair (.row 9 .str) (.row 3 (.int .i64))) (.pair (.row 71 (.pair .bool (.pair (.row 116 (.pair (.int .i64) (.pair (.int .i64) (.pair .bool .bool)))) (.row 80 (.pair (.int .i64) (.pair (.int .i64) (.pair .bool .bool))))))) (.int .i64)))),false⟩),
(39,⟨.slice 165,1,24,[.slice],some (.row 165 (.pair .bool (.pair (.row 205 (.pair (.int .i64) (.pair (.int .i64) (.pair .bool .bool)))) (.pair (.row 3 (.int .i64)) (.row 9 .str))))),false⟩),
(40,⟨.struct [(0,1)],1,24,[.slice],some (.row 165 (.pair .bool (.pair (.row 205 (.pair (.int .i64) (.pair (.int .i64) (.pair .bool .bool)))) (.pair (.row 3 (.int .i64)) (.row 9 .str))))),false⟩),
(41,⟨.struct [(0,1)],1,24,[.slice],some (.row 165 (.pair .bool (.pair (.row 205 (.pair (.int .i64) (.pair (.int .i64) (.pair .bool .bool)))) (.pair (.row 3 (.int .i64)) (.row 9 .str))))),false⟩),
(43,⟨.slice 75,1,24,[.slice],some (.row 75 (.pair .bool (.pair (.row 116 (.pair (.int .i64) (.pair (.int .i64) (.pair .bool .bool)))) (.pair (.row 3 (.int .i64)) (.row 9 .str))))),false⟩),
(44,⟨.struct [(0,1)],1,24,[.slice],some (.row 75 (.pair .bool (.pair (.row 116 (.pair (.int .i64) (.pair (.int .i64) (.pair .bool .bool)))) (.pair (.row 3 (.int .i64)) (.row 9 .str))))),false⟩),
(45,⟨.struct [(0,1)],1,24,[.slice],some (.row 75 (.pair .bool (.pair (.row 116 (.pair (.int .i64) (.pair (.int .i64) (.pair .bool .bool)))) (.pair (.row 3 (.int .i64)) (.row 9 .str))))),false⟩),
(55,⟨.struct [(0,1),(1,1)],2,48,[.slice,.slice],some (.pair (.row 9 .str) (.row 3 (.int .i64))),false⟩),
(56,⟨.slice 174,1,24,[.slice],some (.row 174 (.pair .bool (.pair (.row 205 (.pair (.int .i64) (.pair (.int .i64) (.pair .bool .bool)))) (.row 208 (.pair (.int .i64) (.pair (.int .i64) (.pair .bool .bool))))))),false⟩),
(57,⟨.struct [(0,2),(2,2),(4,1),(5,1)],6,128,[.slice,.slice,.slice,.slice,.slice,.int .i64],some (.pair (.pair (.row 9 .str) (.row 3 (.int .i64))) (.pair (.pair (.row 9 .str) (.row 3 (.int .i64))) (.pair (.row 174 (.pair .bool (.pair (.row 205 (.pair (.int .i64) (.pair (.int .i64) (.pair .bool .bool)))) (.row 208 (.pair (.int .i64) (.pair (.int .i64) (.pair .bool .bool))))))) (.int .i64)))),false⟩),
(58,⟨.struct [(0,2),(2,2),(4,1),(5,1)],6,128,[.slice,.slice,.slice,.slice,.slice,.int .i64],some (.pair (.pair (.row 9 .str) (.row 3 (.int .i64))) (.pair (.pair (.row 9 .str) (.row 3 (.int .i64))) (.pair (.row 174 (.pair .bool (.pair (.row 205 (.pair (.int .i64) (.pair (.int .i64) (.pair .bool .bool)))) (.row 208 (.pair (.int .i64) (.pair (.int .i64) (.pair .bool .bool))))))) (.int .i64)))),false⟩),
(68,⟨.slice 116,1,24,[.slice],some (.row 116 (.pair (.int .i64) (.pair (.int .i64) (.pair .bool .bool)))),false⟩),
(69,⟨.slice 80,1,24,[.slice],some (.row 80 (.pair (.int .i64) (.pair (.int .i64) (.pair .bool .bool)))),false⟩),
(70,⟨.struct [(0,1),(1,1),(2,1)],3,56,[.bool,.slice,.slice],some (.pair .bool (.pair (.row 116 (.pair (.int .i64) (.pair (.int .i64) (.pair .bool .bool)))) (.row 80 (.pair (.int .i64) (.pair (.int .i64) (.pair .bool .bool)))))),false⟩),
(71,⟨.struct [(0,1),(1,1),(2,1)],3,56,[.bool,.slice,.slice],some (.pair .bool (.pair (.row 116 (.pair (.int .i64) (.pair (.int .i64) (.pair .bool .bool)))) (.row 80 (.pair (.int .i64) (.pair (.int .i64) (.pair .bool .bool)))))),false⟩),
(74,⟨.struct [(0,1),(1,1),(2,1),(3,1)],4,80,[.bool,.slice,.slice,.slice],some (.pair .bool (.pair (.row 116 (.pair (.int .i64) (.pair (.int .i64) (.pair .bool .bool)))) (.pair (.row 3 (.int .i64)) (.row 9 .str)))),false⟩),
(75,⟨.struct [(0,1),(1,1),(2,1),(3,1)],4,80,[.bool,.slice,.slice,.slice],some (.pair .bool (.pair (.row 116 (.pair (.int .i64) (.pair (.int .i64) (.pair .bool .bool)))) (.pair (.row 3 (.int .i64)) (.row 9 .str)))),false⟩),
(79,⟨.struct [(0,1),(1,1),(2,1),(3,1)],4,24,[.int .i64,.int .i64,.bool,.bool],some (.pair (.int .i64) (.pair (.int .i64) (.pair .bool .bool))),true⟩),
(80,⟨.struct [(0,1),(1,1),(2,1),(3,1)],4,24,[.int .i64,.int .i64,.bool,.bool],some (.pair (.int .i64) (.pair (.int .i64) (.pair .bool .bool))),true⟩),
(86,⟨.ptr,1,8,[.ptr],none,false⟩),
(96,⟨.ptr,1,8,[.ptr],none,false⟩),
(105,⟨.map 107 108,1,8,[.map],none,false⟩),
(107,⟨.arr 2 3,2,16,[.int .i64,.int .i64],none,false⟩),
(108,⟨.slice 110,1,24,[.slice],some (.row 110 (.pair .bool .bool)),false⟩),
(109,⟨.struct [(0,1),(1,1)],2,2,[.bool,.bool],some (.pair .bool .bool),true⟩),
(110,⟨.struct [(0,1),(1,1)],2,2,[.bool,.bool],some (.pair .bool .bool),true⟩),
(111,⟨.map 3 26,1,8,[.map],none,false⟩),
(115,⟨.struct [(0,1),(1,1),(2,1),(3,1)],4,24,[.int .i64,.int .i64,.bool,.bool],some (.pair (.int .i64) (.pair (.int .i64) (.pair .bool .bool))),true⟩),
(116,⟨.struct [(0,1),(1,1),(2,1),(3,1)],4,24,[.int .i64,.int .i64,.bool,.bool],some (.pair (.int .i64) (.pair (.int .i64) (.pair .bool .bool))),true⟩),
(120,⟨.ptr,1,8,[.ptr],none,false⟩),
(127,⟨.struct [(0,1),(1,1)],2,16,[.int .i64,.int .i64],some (.pair (.int .i64) (.int .i64)),true⟩),
(128,⟨.struct [(0,1),(1,1)],2,16,[.int .i64,.int .i64],some (.pair (.int .i64) (.int .i64)),true⟩),
(146,⟨.struct [(0,1),(1,1)],2,32,[.slice,.int .i64],some (.pair (.row 5 (.int .u8)) (.int .i64)),false⟩),
(147,⟨.struct [(0,1),(1,1)],2,32,[.slice,.int .i64],some (.pair (.row 5 (.int .u8)) (.int .i64)),false⟩),
(154,⟨.ptr,1,8,[.ptr],none,false⟩),
(163,⟨.slice 205,1,24,[.slice],some (.row 205 (.pair (.int .i64) (.pair (.int .i64) (.pair .bool .bool)))),false⟩),
(164,⟨.struct [(0,1),(1,1),(2,1),(3,1)],4,80,[.bool,.slice,.slice,.slice],some (.pair .bool (.pair (.row 205 (.pair (.int .i64) (.pair (.int .i64) (.pair .bool .bool)))) (.pair (.row 3 (.int .i64)) (.row 9 .str)))),false⟩),
(165,⟨.struct [(0,1),(1,1),(2,1),(3,1)],4,80,[.bool,.slice,.slice,.slice],some (.pair .bool (.pair (.row 205 (.pair (.int .i64) (.pair (.int .i64) (.pair .bool .bool)))) (.pair (.row 3 (.int .i64)) (.row 9 .str)))),false⟩),
(172,⟨.slice 208,1,24,[.slice],some (.row 208 (.pair (.int .i64) (.pair (.int .i64) (.pair .bool .bool)))),false⟩),
(173,⟨.struct [(0,1),(1,1),(2,1)],3,56,[.bool,.slice,.slice],some (.pair .bool (.pair (.row 205 (.pair (.int .i64) (.pair (.int .i64) (.pair .bool .bool)))) (.row 208 (.pair (.int .i64) (.pair (.int .i64) (.pair .bool .bool)))))),false⟩),
(174,⟨.struct [(0,1),(1,1),(2,1)],3,56,[.bool,.slice,.slice],some (.pair .bool (.pair (.row 205 (.pair (.int .i64) (.pair (.int .i64) (.pair .bool .bool)))) (.row 208 (.pair (.int .i64) (.pair (.int .i64) (.pair .bool .bool)))))),false⟩),
(186,⟨.ptr,1,8,[.ptr],none,false⟩),
(205,⟨.struct [(0,1),(1,1),(2,1),(3,1)],4,24,[.int .i64,.int .i64,.bool,.bool],some (.pair (.int .i64) (.pair (.int .i64) (.pair .bool .bool))),true⟩),
(208,⟨.struct [(0,1),(1,1),(2,1),(3,1)],4,24,[.int .i64,.int .i64,.bool,.bool],some (.pair (.int .i64) (.pair (.int .i64) (.pair .bool .bool))),true⟩),
(211,⟨.struct [(0,1),(1,1),(2,1),(3,1)],4,40,[.ptr,.ptr,.ptr,.str],none,false⟩),
(212,⟨.struct [(0,1),(1,1),(2,1),(3,1)],4,40,[.ptr,.ptr,.ptr,.str],none,false⟩),
(214,⟨.struct [(0,0)],0,0,[],none,false⟩),
(215,⟨.struct [(0,0)],0,0,[],none,false⟩),
(216,⟨.int .u32,1,4,[.int .u32],some (.int .u32),false⟩),
(217,⟨.int .u8,1,1,[.int .u8],some (.int .u8),false⟩),
(218,⟨.int .u8,1,1,[.int .u8],some (.int .u8),false⟩),
(220,⟨.ptr,1,8,[.ptr],none,false⟩),
(221,⟨.int .i32,1,4,[.int .i32],some (.int .i32),false⟩),
(222,⟨.int .i32,1,4,[.int .i32],some (.int .i32),false⟩),
(225,⟨.other,1,8,[.ptr],none,false⟩)]
def TT:TB:=tbOf tbl
theorem tt_ok:TBok Try.prog TT:=tbOk (by decide +kernel)
abbrev i64:Ty:=.int .i64
abbrev tAr:Ty:=.pair i64 (.pair i64 (.pair .bool .bool))
abbrev tRd:Ty:=.pair (.row 5 (.int .u8)) i64
abbrev tSl:Ty:=.pair i64 (.pair i64 (.pair .bool .bool))
abbrev tPg:Ty:=.pair (.row 9 .str) (.row 3 i64)
abbrev tSp(a s:TypeId):Ty:=.pair .bool (.pair (.row a tAr) (.row s tSl))
abbrev tMem:Ty:=.pair tPg (.pair tPg (.pair (.row 71 (tSp 116 80)) i64))
abbrev tLm:Ty:=.pair tPg (.pair tPg (.pair (.row 174 (tSp 205 208)) i64))
theorem mixed:Try.prog.follows .mixedOrders=true:=by kernel_rfl
abbrev Hp(f:FuncId)(s:Sm):Prop:=Holds Try.prog f s
theorem hOf{P:Program}{f:FuncId}{ps:List PK}{rs:List RK}{b:Bool}{F q:Nat→argsD ps→Option (retsD rs×outsD ps)}(h:Holds P f ⟨ps,rs,b,F⟩)(e:∀ n x,F n x=q n x):Holds P f ⟨ps,rs,b,q⟩:=by
 have:F=q:=funext fun n=>funext (e n)
 subst this;exact h
def Gk (f:FuncId) (s:Sm):Prop:=(∃ fn c,Try.prog.funcs[f % 1000000]?=some fn ∧ fn.body=some c ∧ (fn.name == "runtime.NumGoroutine")=false) ∧ zhn Try.prog f s
theorem gj {f:FuncId} {s t:Sm} (h:some s=some t) (y:Gk f s):(∃ fn c,Try.prog.funcs[f % 1000000]?=some fn ∧ fn.body=some c ∧ (fn.name == "runtime.NumGoroutine")=false) ∧ zhn Try.prog f t:=by
 injection h with h;subst h;exact y
end Go.Proofs.Ytdkaagpkeomhmaa.Rx.S
namespace Go.Proofs.Ytdkaagpkeomhmaa.Rx.S
open Go Go.RowKit Go.Proofs
set_option maxRecDepth 100000
noncomputable def c69:Code:=(Try.f69.body.getD .skip)
def an69:An:=⟨fun _=>⟨[],[]⟩,fun _ _=>none⟩
abbrev ps69:List PK:=[.val i64 false,.val i64 false,.val i64 false]
abbrev rs69:List RK:=[.val .bool false]
abbrev R69:=retsD rs69×outsD ps69
noncomputable def G69:Gam:=fun _=>none
noncomputable def ziv(n:Nat)(a:Int)(b:Int)(c:Int):Option R69 :=
 cond (decide (b≤a)) (some ((decide (a≤c),()),())) (some ((false,()),()))
theorem e69_top(n:Nat)(a:Int)(b:Int)(c:Int):runF TT G69 an69 Try.f69 c69 ps69 rs69 n (a,b,c,())=ziv n a b c:=by kernel_rfl
noncomputable def p69(n:Nat)(a:Int)(b:Int)(c:Int):Option R69:=ziv n a b c
noncomputable def q69(n:Nat)(x:argsD ps69):Option R69:=p69 n x.1 x.2.1 x.2.2.1
noncomputable def Sm69:Sm:=⟨ps69,rs69,false,q69⟩
theorem gam69:GamOK Try.prog G69:=fun _ _ h=>by cases h
theorem hh69:Hp 69 Sm69:=hOf (zac (an:=an69) (c:=c69) tt_ok gam69 mixed Try.func69 (by kernel_rfl) rfl (by decide +kernel)) fun n x=>(e69_top n x.1 x.2.1 x.2.2.1).trans rfl
theorem y69:Gk 69 Sm69:=⟨⟨Try.f69,c69,Try.func69,by kernel_rfl,by decide +kernel⟩,hh69⟩
noncomputable def c117:Code:=(Try.f117.body.getD .skip)
def an117:An:=⟨fun r=>match r with | 4=>⟨[1,3],[]⟩ | _=>⟨[],[]⟩,fun _ _=>none⟩
abbrev ps117:List PK:=[.val tPg true]
abbrev rs117:List RK:=[.val .bool false]
abbrev R117:=retsD rs117×outsD ps117
noncomputable def G117:Gam:=fun f=>match f with | 69=>some Sm69 | _=>none
noncomputable def at117:Nat→Pt→List Nat→St→Option R117:=atF TT G117 an117 Try.f117 c117 _ _
def zg9(x0:Int)(x1:Lb)(x2:Li):St:=(St.mk ([Uu,AV.one (SV.bptr 1000000 0),Uu,Ai x0]++Ur 45) [(1000000,(Ent.box [SV.con (⟨9,Ty.str,x1⟩:Rw),SV.con (⟨3,Ty.int .i64,x2⟩:Rw)]))])
noncomputable def zbf(n:Nat)(lL4:Int→Lb→Li→Option R117)(a:Lb×Li):Option R117 :=
 cond (!decide ((↑(List.length a.1):Int)=(↑(List.length a.2):Int))) (some ((false,()),())) ((q69 n ((↑(List.length a.1):Int),(1:Int),(12:Int),())).bind fun r0=>cond (!r0.1.1) (some ((false,()),())) (lL4 (0:Int) a.1 a.2))
noncomputable def zbw(n:Nat)(lL4:Int→Lb→Li→Option R117)(x0:Int)(x1:Lb)(x2:Li):Option R117 :=
 cond (decide (x0<(↑x1.length:Int))) (cond (decide (0≤x0)) (cond (decide (x0<(↑x2.length:Int))) (cond (decide (x2.getD x0.toNat (0:Int)=(0:Int))) (cond (decide (0≤x0)) (cond (decide (x0<(↑x2.length:Int))) ((q69 n (x2.getD x0.toNat (0:Int),(0:Int),(99:Int),())).bind fun r2=>cond (!r2.1.1) (some ((false,()),())) (cond (decide (0≤x0)) (cond (decide (x0<(↑x1.length:Int))) (cond (!decide ((↑(ByteArray.size (x1.getD x0.toNat ByteArray.empty)):Int)=(0:Int))) (some ((false,()),())) (lL4 (IntKind.i64.wrap (x0+1)) x1 x2)) none) none)) none) none) (cond (decide (0≤x0)) (cond (decide (x0<(↑x2.length:Int))) ((q69 n (x2.getD x0.toNat (0:Int),(0:Int),(99:Int),())).bind fun r3=>cond (!r3.1.1) (some ((false,()),())) (cond (decide (0≤x0)) (cond (decide (x0<(↑x1.length:Int))) (cond (!decide ((↑(ByteArray.size (x1.getD x0.toNat ByteArray.empty)):Int)=(4:Int))) (some ((false,()),())) (lL4 (IntKind.i64.wrap (x0+1)) x1 x2)) none) none)) none) none)) none) none) (some ((true,()),()))
theorem e117_top(n:Nat)(a:Lb×Li):runF TT G117 an117 Try.f117 c117 ps117 rs117 n (a,())=zbf n (fun x0 x1 x2=>at117 n (.head 4) [n] (zg9 x0 x1 x2)) a:=by kernel_rfl
theorem e117_L4_0(n:Nat)(x0:Int)(x1:Lb)(x2:Li):at117 n (.head 4) [0] (zg9 x0 x1 x2)=none:=by kernel_rfl
theorem e117_L4(n:Nat)(m4:Nat)(x0:Int)(x1:Lb)(x2:Li):at117 n (.head 4) [m4+1] (zg9 x0 x1 x2)=zbw n (fun x0 x1 x2=>at117 n (.head 4) [m4] (zg9 x0 x1 x2)) x0 x1 x2:=by kernel_rfl
noncomputable def zcx(n:Nat):Nat→Int→Lb→Li→Option R117
 | 0,_,_,_=>none
 | m+1,x0,x1,x2=>zbw n (zcx n m) x0 x1 x2
noncomputable def p117(n:Nat)(a:Lb×Li):Option R117:=zbf n (zcx n n) a
theorem t117_L4(n:Nat):∀ (m4:Nat) (x0:Int) (x1:Lb) (x2:Li),at117 n (.head 4) [m4] (zg9 x0 x1 x2)=zcx n m4 x0 x1 x2:=by
 intro m
 induction m with
 | zero=>intros;rw[e117_L4_0];rfl
 | succ m ih =>
  intros
  rw[e117_L4]
  try simp only[ih]
  rfl
noncomputable def q117(n:Nat)(x:argsD ps117):Option R117:=p117 n x.1
noncomputable def Sm117:Sm:=⟨ps117,rs117,false,q117⟩
theorem gam117:GamOK Try.prog G117:=by intro f s h;unfold G117 at h;split at h;exact gj h y69;cases h
theorem hh117:Hp 117 Sm117:=hOf (zac (an:=an117) (c:=c117) tt_ok gam117 mixed Try.func117 (by kernel_rfl) rfl (by decide +kernel)) fun n x=>(e117_top n x.1).trans (by simp only[t117_L4];try rfl)
theorem y117:Gk 117 Sm117:=⟨⟨Try.f117,c117,Try.func117,by kernel_rfl,by decide +kernel⟩,hh117⟩
noncomputable def c71:Code:=(Try.f71.body.getD .skip)
def an71:An:=⟨fun r=>match r with | 2=>⟨[0,1,5],[]⟩ | _=>⟨[],[]⟩,fun _ _=>none⟩
abbrev ps71:List PK:=[.val (.row 116 tAr) false,.val i64 false]
abbrev rs71:List RK:=[.val i64 false]
abbrev R71:=retsD rs71×outsD ps71
noncomputable def G71:Gam:=fun f=>match f with | 69=>some Sm69 | _=>none
noncomputable def at71:Nat→Pt→List Nat→St→Option R71:=atF TT G71 an71 Try.f71 c71 _ _
def zj2(x0:Lq)(x1 x2:Int):St:=(St.mk ([AV.one (SV.con (⟨116,yAq,x0⟩:Rw)),Ai x1,Uu,Uu,Uu,Ai x2]++Ur 26) [])
noncomputable def st71_top(n:Nat)(lL2:Lq→Int→Int→Option R71)(a:Lq)(b:Int):Option R71 :=
 lL2 a b (0:Int)
noncomputable def zht(n:Nat)(lL2:Lq→Int→Int→Option R71)(x0:Lq)(x1 x2:Int):Option R71 :=
 cond (decide (x2<(↑x0.length:Int))) (cond (decide (0≤x2)) (cond (decide (x2<(↑x0.length:Int))) (cond (decide (0≤x2)) (cond (decide (x2<(↑x0.length:Int))) (cond (decide (0≤x2)) (cond (decide (x2<(↑x0.length:Int))) ((q69 n (x1,(x0.getD x2.toNat ((0:Int),(0:Int),false,false)).1,IntKind.i64.wrap (IntKind.i64.wrap ((x0.getD x2.toNat ((0:Int),(0:Int),false,false)).1+(x0.getD x2.toNat ((0:Int),(0:Int),false,false)).2.1) - (1:Int)),())).bind fun r1=>cond r1.1.1 (some ((x2,()),())) (lL2 x0 x1 (IntKind.i64.wrap (x2+1)))) none) none) none) none) none) none) (some (((-1:Int),()),()))
theorem e71_top(n:Nat)(a:Lq)(b:Int):runF TT G71 an71 Try.f71 c71 ps71 rs71 n (a,b,())=st71_top n (fun x0 x1 x2=>at71 n (.head 2) [n] (zj2 x0 x1 x2)) a b:=by kernel_rfl
theorem e71_L2_0(n:Nat)(x0:Lq)(x1 x2:Int):at71 n (.head 2) [0] (zj2 x0 x1 x2)=none:=by kernel_rfl
theorem e71_L2(n:Nat)(m2:Nat)(x0:Lq)(x1 x2:Int):at71 n (.head 2) [m2+1] (zj2 x0 x1 x2)=zht n (fun x0 x1 x2=>at71 n (.head 2) [m2] (zj2 x0 x1 x2)) x0 x1 x2:=by kernel_rfl
noncomputable def p71_L2(n:Nat):Nat→Lq→Int→Int→Option R71
 | 0,_,_,_=>none
 | m+1,x0,x1,x2=>zht n (p71_L2 n m) x0 x1 x2
noncomputable def p71(n:Nat)(a:Lq)(b:Int):Option R71:=st71_top n (p71_L2 n n) a b
theorem t71_L2(n:Nat):∀ (m2:Nat) (x0:Lq) (x1 x2:Int),at71 n (.head 2) [m2] (zj2 x0 x1 x2)=p71_L2 n m2 x0 x1 x2:=by
 intro m
 induction m with
 | zero=>intros;rw[e71_L2_0];rfl
 | succ m ih =>
  intros
  rw[e71_L2]
  try simp only[ih]
  rfl
noncomputable def q71(n:Nat)(x:argsD ps71):Option R71:=p71 n x.1 x.2.1
noncomputable def Sm71:Sm:=⟨ps71,rs71,false,q71⟩
theorem gam71:GamOK Try.prog G71:=by intro f s h;unfold G71 at h;split at h;exact gj h y69;cases h
theorem hh71:Hp 71 Sm71:=hOf (zac (an:=an71) (c:=c71) tt_ok gam71 mixed Try.func71 (by kernel_rfl) rfl (by decide +kernel)) fun n x=>(e71_top n x.1 x.2.1).trans (by simp only[t71_L2];try rfl)
theorem y71:Gk 71 Sm71:=⟨⟨Try.f71,c71,Try.func71,by kernel_rfl,by decide +kernel⟩,hh71⟩
noncomputable def c158:Code:=(Try.f158.body.getD .skip)
def an158:An:=⟨fun _=>⟨[],[]⟩,fun _ _=>none⟩
abbrev ps158:List PK:=[.val tAr true]
abbrev rs158:List RK:=[.val .bool false]
abbrev R158:=retsD rs158×outsD ps158
noncomputable def G158:Gam:=fun f=>match f with | 69=>some Sm69 | _=>none
noncomputable def zck(n:Nat)(a:Aq):Option R158 :=
 (q69 n (a.1,(0:Int),(15:Int),())).bind fun r0=>cond r0.1.1 ((q69 n (a.2.1,(1:Int),IntKind.i64.wrap ((16:Int) - a.1),())).bind fun r1=>some ((r1.1.1,()),())) (some ((false,()),()))
theorem e158_top(n:Nat)(a:Aq):runF TT G158 an158 Try.f158 c158 ps158 rs158 n (a,())=zck n a:=by kernel_rfl
noncomputable def p158(n:Nat)(a:Aq):Option R158:=zck n a
noncomputable def q158(n:Nat)(x:argsD ps158):Option R158:=p158 n x.1
noncomputable def Sm158:Sm:=⟨ps158,rs158,false,q158⟩
theorem gam158:GamOK Try.prog G158:=by intro f s h;unfold G158 at h;split at h;exact gj h y69;cases h
theorem hh158:Hp 158 Sm158:=hOf (zac (an:=an158) (c:=c158) tt_ok gam158 mixed Try.func158 (by kernel_rfl) rfl (by decide +kernel)) fun n x=>(e158_top n x.1).trans rfl
theorem y158:Gk 158 Sm158:=⟨⟨Try.f158,c158,Try.func158,by kernel_rfl,by decide +kernel⟩,hh158⟩
noncomputable def c127:Code:=(Try.f127.body.getD .skip)
def an127:An:=⟨fun r=>match r with | 2=>⟨[0,3],[]⟩ | _=>⟨[],[]⟩,fun _ _=>none⟩
abbrev ps127:List PK:=[.val (.row 116 tAr) false]
abbrev rs127:List RK:=[.val .bool false]
abbrev R127:=retsD rs127×outsD ps127
noncomputable def G127:Gam:=fun f=>match f with | 158=>some Sm158 | _=>none
noncomputable def at127:Nat→Pt→List Nat→St→Option R127:=atF TT G127 an127 Try.f127 c127 _ _
def zg4(x0:Lq)(x1:Int):St:=(St.mk ([AV.one (SV.con (⟨116,yAq,x0⟩:Rw)),Uu,Uu,Ai x1]++Ur 40) [])
noncomputable def st127_top(n:Nat)(lL2:Lq→Int→Option R127)(a:Lq):Option R127 :=
 lL2 a (0:Int)
noncomputable def za_(n:Nat)(lL2:Lq→Int→Option R127)(x0:Lq)(x1:Int):Option R127 :=
 cond (decide (x1<(↑x0.length:Int))) (cond (decide (0≤x1)) (cond (decide (x1<(↑x0.length:Int))) ((q158 n (((x0.getD x1.toNat ((0:Int),(0:Int),false,false)).1,(x0.getD x1.toNat ((0:Int),(0:Int),false,false)).2.1,(x0.getD x1.toNat ((0:Int),(0:Int),false,false)).2.2.1,(x0.getD x1.toNat ((0:Int),(0:Int),false,false)).2.2.2),())).bind fun r1=>cond (!r1.1.1) (some ((false,()),())) (cond (decide (0<x1)) (cond (decide ((0:Int)≤IntKind.i64.wrap (x1 - 1))) (cond (decide (IntKind.i64.wrap (x1 - 1)<(↑x0.length:Int))) (cond (decide ((0:Int)≤IntKind.i64.wrap (x1 - 1))) (cond (decide (IntKind.i64.wrap (x1 - 1)<(↑x0.length:Int))) (cond (decide (0≤x1)) (cond (decide (x1<(↑x0.length:Int))) (cond (decide ((x0.getD x1.toNat ((0:Int),(0:Int),false,false)).1<IntKind.i64.wrap ((x0.getD (IntKind.i64.wrap (x1 - 1)).toNat ((0:Int),(0:Int),false,false)).1+(x0.getD (IntKind.i64.wrap (x1 - 1)).toNat ((0:Int),(0:Int),false,false)).2.1))) (some ((false,()),())) (lL2 x0 (IntKind.i64.wrap (x1+1)))) none) none) none) none) none) none) (lL2 x0 (IntKind.i64.wrap (x1+1))))) none) none) (some ((decide ((↑x0.length:Int)≤(6:Int)),()),()))
theorem e127_top(n:Nat)(a:Lq):runF TT G127 an127 Try.f127 c127 ps127 rs127 n (a,())=st127_top n (fun x0 x1=>at127 n (.head 2) [n] (zg4 x0 x1)) a:=by kernel_rfl
theorem e127_L2_0(n:Nat)(x0:Lq)(x1:Int):at127 n (.head 2) [0] (zg4 x0 x1)=none:=by kernel_rfl
theorem e127_L2(n:Nat)(m2:Nat)(x0:Lq)(x1:Int):at127 n (.head 2) [m2+1] (zg4 x0 x1)=za_ n (fun x0 x1=>at127 n (.head 2) [m2] (zg4 x0 x1)) x0 x1:=by kernel_rfl
noncomputable def zcw(n:Nat):Nat→Lq→Int→Option R127
 | 0,_,_=>none
 | m+1,x0,x1=>za_ n (zcw n m) x0 x1
noncomputable def p127(n:Nat)(a:Lq):Option R127:=st127_top n (zcw n n) a
theorem t127_L2(n:Nat):∀ (m2:Nat) (x0:Lq) (x1:Int),at127 n (.head 2) [m2] (zg4 x0 x1)=zcw n m2 x0 x1:=by
 intro m
 induction m with
 | zero=>intros;rw[e127_L2_0];rfl
 | succ m ih =>
  intros
  rw[e127_L2]
  try simp only[ih]
  rfl
noncomputable def q127(n:Nat)(x:argsD ps127):Option R127:=p127 n x.1
noncomputable def Sm127:Sm:=⟨ps127,rs127,false,q127⟩
theorem gam127:GamOK Try.prog G127:=by intro f s h;unfold G127 at h;split at h;exact gj h y158;cases h
theorem hh127:Hp 127 Sm127:=hOf (zac (an:=an127) (c:=c127) tt_ok gam127 mixed Try.func127 (by kernel_rfl) rfl (by decide +kernel)) fun n x=>(e127_top n x.1).trans (by simp only[t127_L2];try rfl)
theorem y127:Gk 127 Sm127:=⟨⟨Try.f127,c127,Try.func127,by kernel_rfl,by decide +kernel⟩,hh127⟩
noncomputable def c118:Code:=(Try.f118.body.getD .skip)
def an118:An:=⟨fun r=>match r with | 6=>⟨[1,3],[]⟩ | _=>⟨[],[]⟩,fun _ _=>none⟩
abbrev ps118:List PK:=[.val (tSp 116 80) true]
abbrev rs118:List RK:=[.val .bool false]
abbrev R118:=retsD rs118×outsD ps118
noncomputable def G118:Gam:=fun f=>match f with | 69=>some Sm69 | 71=>some Sm71 | 127=>some Sm127 | _=>none
noncomputable def at118:Nat→Pt→List Nat→St→Option R118:=atF TT G118 an118 Try.f118 c118 _ _
def zg8(x0:Int)(x1:Bool)(x2 x3:Lq):St:=(St.mk ([Uu,AV.one (SV.bptr 1000000 0),Uu,Ai x0]++Ur 66) [(1000000,(Ent.box [SV.bool x1,SV.con (⟨116,yAq,x2⟩:Rw),SV.con (⟨80,yAq,x3⟩:Rw)]))])
noncomputable def zcl(n:Nat)(lL6:Int→Bool→Lq→Lq→Option R118)(a:Br):Option R118 :=
 cond (!a.1) (cond (decide ((↑(List.length a.2.1):Int)=(0:Int))) (some ((decide ((↑(List.length a.2.2):Int)=(0:Int)),()),())) (some ((false,()),()))) ((q127 n (a.2.1,())).bind fun r0=>cond (!r0.1.1) (some ((false,()),())) (cond (!decide ((↑(List.length a.2.2):Int)=(16:Int))) (some ((false,()),())) (lL6 (0:Int) a.1 a.2.1 a.2.2)))
noncomputable def zbs(n:Nat)(lL6:Int→Bool→Lq→Lq→Option R118)(x0:Int)(x1:Bool)(x2 x3:Lq):Option R118 :=
 cond (decide (x0<16)) (cond (decide (0≤x0)) (cond (decide (x0<(↑x3.length:Int))) ((q71 n (x2,x0,())).bind fun r2=>cond (decide ((x3.getD x0.toNat ((0:Int),(0:Int),false,false)).1=(0:Int))) (cond (!(decide ((x3.getD x0.toNat ((0:Int),(0:Int),false,false)).1=(0:Int))&&(decide ((x3.getD x0.toNat ((0:Int),(0:Int),false,false)).2.1=(0:Int))&&((x3.getD x0.toNat ((0:Int),(0:Int),false,false)).2.2.1 == false&&((x3.getD x0.toNat ((0:Int),(0:Int),false,false)).2.2.2 == false&&true))))) (some ((false,()),())) (lL6 (IntKind.i64.wrap (x0+1)) x1 x2 x3)) (cond (decide (r2.1.1<(0:Int))) (some ((false,()),())) ((q69 n ((x3.getD x0.toNat ((0:Int),(0:Int),false,false)).1,(1:Int),(2:Int),())).bind fun r3=>cond (!r3.1.1) (some ((false,()),())) (cond (decide ((0:Int)≤r2.1.1)) (cond (decide (r2.1.1<(↑x2.length:Int))) (cond ((x2.getD (Int.toNat r2.1.1) ((0:Int),(0:Int),false,false)).2.2.2) (cond (!(x3.getD x0.toNat ((0:Int),(0:Int),false,false)).2.2.1) (some ((false,()),())) (lL6 (IntKind.i64.wrap (x0+1)) x1 x2 x3)) (lL6 (IntKind.i64.wrap (x0+1)) x1 x2 x3)) none) none)))) none) none) (some ((true,()),()))
theorem e118_top(n:Nat)(a:Br):runF TT G118 an118 Try.f118 c118 ps118 rs118 n (a,())=zcl n (fun x0 x1 x2 x3=>at118 n (.head 6) [n] (zg8 x0 x1 x2 x3)) a:=by kernel_rfl
theorem e118_L6_0(n:Nat)(x0:Int)(x1:Bool)(x2 x3:Lq):at118 n (.head 6) [0] (zg8 x0 x1 x2 x3)=none:=by kernel_rfl
theorem e118_L6(n:Nat)(m6:Nat)(x0:Int)(x1:Bool)(x2 x3:Lq):at118 n (.head 6) [m6+1] (zg8 x0 x1 x2 x3)=zbs n (fun x0 x1 x2 x3=>at118 n (.head 6) [m6] (zg8 x0 x1 x2 x3)) x0 x1 x2 x3:=by kernel_rfl
noncomputable def zfl(n:Nat):Nat→Int→Bool→Lq→Lq→Option R118
 | 0,_,_,_,_=>none
 | m+1,x0,x1,x2,x3=>zbs n (zfl n m) x0 x1 x2 x3
noncomputable def p118(n:Nat)(a:Br):Option R118:=zcl n (zfl n n) a
theorem t118_L6(n:Nat):∀ (m6:Nat) (x0:Int) (x1:Bool) (x2 x3:Lq),at118 n (.head 6) [m6] (zg8 x0 x1 x2 x3)=zfl n m6 x0 x1 x2 x3:=by
 intro m
 induction m with
 | zero=>intros;rw[e118_L6_0];rfl
 | succ m ih =>
  intros
  rw[e118_L6]
  try simp only[ih]
  rfl
noncomputable def q118(n:Nat)(x:argsD ps118):Option R118:=p118 n x.1
noncomputable def Sm118:Sm:=⟨ps118,rs118,false,q118⟩
theorem gam118:GamOK Try.prog G118:=by intro f s h;unfold G118 at h;split at h;exact gj h y69;exact gj h y71;exact gj h y127;cases h
theorem hh118:Hp 118 Sm118:=hOf (zac (an:=an118) (c:=c118) tt_ok gam118 mixed Try.func118 (by kernel_rfl) rfl (by decide +kernel)) fun n x=>(e118_top n x.1).trans (by simp only[t118_L6];try rfl)
theorem y118:Gk 118 Sm118:=⟨⟨Try.f118,c118,Try.func118,by kernel_rfl,by decide +kernel⟩,hh118⟩
noncomputable def c119:Code:=(Try.f119.body.getD .skip)
def an119:An:=⟨fun r=>match r with | 3=>⟨[1,2,3,7,8],[]⟩ | 6=>⟨[1,2,3,7,8,9],[]⟩ | _=>⟨[],[]⟩,fun _ _=>none⟩
abbrev ps119:List PK:=[.val tMem true,.val i64 false,.val i64 false]
abbrev rs119:List RK:=[.val i64 false]
abbrev R119:=retsD rs119×outsD ps119
noncomputable def G119:Gam:=fun _=>none
noncomputable def at119:Nat→Pt→List Nat→St→Option R119:=atF TT G119 an119 Try.f119 c119 _ _
def zg7(x0 x1 x2 x3 x4:Int)(x5:Lb)(x6:Li)(x7:Lb)(x8:Li)(x9:List (Br))(x10:Int):St:=(St.mk ([Uu,Ai x0,Ai x1,AV.one (SV.bptr 1000000 0),Uu,Uu,Uu,Ai x2,Ai x3,Ai x4]++Ur 41) [(1000000,(Ent.box [SV.con (⟨9,Ty.str,x5⟩:Rw),SV.con (⟨3,Ty.int .i64,x6⟩:Rw),SV.con (⟨9,Ty.str,x7⟩:Rw),SV.con (⟨3,Ty.int .i64,x8⟩:Rw),SV.con (⟨71,ySp,x9⟩:Rw),Si x10]))])
def zeh(x0 x1 x2 x3:Int)(x4:Lb)(x5:Li)(x6:Lb)(x7:Li)(x8:List (Br))(x9:Int):St:=(St.mk ([Uu,Ai x0,Ai x1,AV.one (SV.bptr 1000000 0),Uu,Uu,Uu,Ai x2,Ai x3]++Ur 42) [(1000000,(Ent.box [SV.con (⟨9,Ty.str,x4⟩:Rw),SV.con (⟨3,Ty.int .i64,x5⟩:Rw),SV.con (⟨9,Ty.str,x6⟩:Rw),SV.con (⟨3,Ty.int .i64,x7⟩:Rw),SV.con (⟨71,ySp,x8⟩:Rw),Si x9]))])
noncomputable def st119_top(n:Nat)(lL3:Int→Int→Int→Int→Lb→Li→Lb→Li→(List (Br))→Int→Option R119)(a:Mm)(b:Int)(c:Int):Option R119 :=
 lL3 b c (0:Int) (0:Int) a.1.1 a.1.2 a.2.1.1 a.2.1.2 a.2.2.1 a.2.2.2
noncomputable def zea(n:Nat)(lL6:Int→Int→Int→Int→Int→Lb→Li→Lb→Li→(List (Br))→Int→Option R119)(lL3:Int→Int→Int→Int→Lb→Li→Lb→Li→(List (Br))→Int→Option R119)(x0 x1 x2 x3 x4:Int)(x5:Lb)(x6:Li)(x7:Lb)(x8:Li)(x9:List (Br))(x10:Int):Option R119 :=
 cond (decide (0≤x3)) (cond (decide (x3<(↑x9.length:Int))) (cond (decide (x4<(↑(List.length (x9.getD x3.toNat (false,[],[])).2.2):Int))) (cond (decide (0≤x3)) (cond (decide (x3<(↑x9.length:Int))) (cond (decide (0≤x4)) (cond (decide (x4<(↑(List.length (x9.getD x3.toNat (false,[],[])).2.2):Int))) (cond (decide ((List.getD (x9.getD x3.toNat (false,[],[])).2.2 x4.toNat ((0:Int),(0:Int),false,false)).1=x0)) (cond (decide ((List.getD (x9.getD x3.toNat (false,[],[])).2.2 x4.toNat ((0:Int),(0:Int),false,false)).2.1=x1)) (lL6 x0 x1 (IntKind.i64.wrap (x2+1)) x3 (IntKind.i64.wrap (x4+1)) x5 x6 x7 x8 x9 x10) (lL6 x0 x1 x2 x3 (IntKind.i64.wrap (x4+1)) x5 x6 x7 x8 x9 x10)) (lL6 x0 x1 x2 x3 (IntKind.i64.wrap (x4+1)) x5 x6 x7 x8 x9 x10)) none) none) none) none) (lL3 x0 x1 x2 (IntKind.i64.wrap (x3+1)) x5 x6 x7 x8 x9 x10)) none) none
noncomputable def zeb(n:Nat)(lL6:Int→Int→Int→Int→Int→Lb→Li→Lb→Li→(List (Br))→Int→Option R119)(x0 x1 x2 x3:Int)(x4:Lb)(x5:Li)(x6:Lb)(x7:Li)(x8:List (Br))(x9:Int):Option R119 :=
 cond (decide (x3<(↑x8.length:Int))) (lL6 x0 x1 x2 x3 (0:Int) x4 x5 x6 x7 x8 x9) (some ((x2,()),()))
theorem e119_top(n:Nat)(a:Mm)(b:Int)(c:Int):runF TT G119 an119 Try.f119 c119 ps119 rs119 n (a,b,c,())=st119_top n (fun x0 x1 x2 x3 x4 x5 x6 x7 x8 x9=>at119 n (.head 3) [n] (zeh x0 x1 x2 x3 x4 x5 x6 x7 x8 x9)) a b c:=by kernel_rfl
theorem e119_L6_0(n:Nat)(m3:Nat)(x0 x1 x2 x3 x4:Int)(x5:Lb)(x6:Li)(x7:Lb)(x8:Li)(x9:List (Br))(x10:Int):at119 n (.head 6) [m3,0] (zg7 x0 x1 x2 x3 x4 x5 x6 x7 x8 x9 x10)=none:=by kernel_rfl
theorem e119_L6(n:Nat)(m3:Nat)(m6:Nat)(x0 x1 x2 x3 x4:Int)(x5:Lb)(x6:Li)(x7:Lb)(x8:Li)(x9:List (Br))(x10:Int):at119 n (.head 6) [m3,m6+1] (zg7 x0 x1 x2 x3 x4 x5 x6 x7 x8 x9 x10)=zea n (fun x0 x1 x2 x3 x4 x5 x6 x7 x8 x9 x10=>at119 n (.head 6) [m3,m6] (zg7 x0 x1 x2 x3 x4 x5 x6 x7 x8 x9 x10)) (fun x0 x1 x2 x3 x4 x5 x6 x7 x8 x9=>at119 n (.head 3) [m3] (zeh x0 x1 x2 x3 x4 x5 x6 x7 x8 x9)) x0 x1 x2 x3 x4 x5 x6 x7 x8 x9 x10:=by kernel_rfl
theorem e119_L3_0(n:Nat)(x0 x1 x2 x3:Int)(x4:Lb)(x5:Li)(x6:Lb)(x7:Li)(x8:List (Br))(x9:Int):at119 n (.head 3) [0] (zeh x0 x1 x2 x3 x4 x5 x6 x7 x8 x9)=none:=by kernel_rfl
theorem e119_L3(n:Nat)(m3:Nat)(x0 x1 x2 x3:Int)(x4:Lb)(x5:Li)(x6:Lb)(x7:Li)(x8:List (Br))(x9:Int):at119 n (.head 3) [m3+1] (zeh x0 x1 x2 x3 x4 x5 x6 x7 x8 x9)=zeb n (fun x0 x1 x2 x3 x4 x5 x6 x7 x8 x9 x10=>at119 n (.head 6) [m3,n] (zg7 x0 x1 x2 x3 x4 x5 x6 x7 x8 x9 x10)) x0 x1 x2 x3 x4 x5 x6 x7 x8 x9:=by kernel_rfl
noncomputable def p119_L6(g3:Int→Int→Int→Int→Lb→Li→Lb→Li→(List (Br))→Int→Option R119)(n:Nat):Nat→Int→Int→Int→Int→Int→Lb→Li→Lb→Li→(List (Br))→Int→Option R119
 | 0,_,_,_,_,_,_,_,_,_,_,_=>none
 | m+1,x0,x1,x2,x3,x4,x5,x6,x7,x8,x9,x10=>zea n (p119_L6 g3 n m) g3 x0 x1 x2 x3 x4 x5 x6 x7 x8 x9 x10
noncomputable def zk3(n:Nat):Nat→Int→Int→Int→Int→Lb→Li→Lb→Li→(List (Br))→Int→Option R119
 | 0,_,_,_,_,_,_,_,_,_,_=>none
 | m+1,x0,x1,x2,x3,x4,x5,x6,x7,x8,x9=>zeb n (p119_L6 (zk3 n m) n n) x0 x1 x2 x3 x4 x5 x6 x7 x8 x9
noncomputable def p119(n:Nat)(a:Mm)(b:Int)(c:Int):Option R119:=st119_top n (zk3 n n) a b c
theorem t119_L6(n:Nat)(m3:Nat):∀ (m6:Nat) (x0 x1 x2 x3 x4:Int) (x5:Lb) (x6:Li) (x7:Lb) (x8:Li) (x9:List (Br)) (x10:Int),at119 n (.head 6) [m3,m6] (zg7 x0 x1 x2 x3 x4 x5 x6 x7 x8 x9 x10)=p119_L6 (fun x0 x1 x2 x3 x4 x5 x6 x7 x8 x9=>at119 n (.head 3) [m3] (zeh x0 x1 x2 x3 x4 x5 x6 x7 x8 x9)) n m6 x0 x1 x2 x3 x4 x5 x6 x7 x8 x9 x10:=by
 intro m
 induction m with
 | zero=>intros;rw[e119_L6_0];rfl
 | succ m ih =>
  intros
  rw[e119_L6]
  try simp only[ih]
  rfl
theorem t119_L3(n:Nat):∀ (m3:Nat) (x0 x1 x2 x3:Int) (x4:Lb) (x5:Li) (x6:Lb) (x7:Li) (x8:List (Br)) (x9:Int),at119 n (.head 3) [m3] (zeh x0 x1 x2 x3 x4 x5 x6 x7 x8 x9)=zk3 n m3 x0 x1 x2 x3 x4 x5 x6 x7 x8 x9:=by
 intro m
 induction m with
 | zero=>intros;rw[e119_L3_0];rfl
 | succ m ih =>
  intros
  rw[e119_L3]
  try simp only[t119_L6,ih]
  rfl
noncomputable def q119(n:Nat)(x:argsD ps119):Option R119:=p119 n x.1 x.2.1 x.2.2.1
noncomputable def Sm119:Sm:=⟨ps119,rs119,false,q119⟩
theorem gam119:GamOK Try.prog G119:=fun _ _ h=>by cases h
theorem hh119:Hp 119 Sm119:=hOf (zac (an:=an119) (c:=c119) tt_ok gam119 mixed Try.func119 (by kernel_rfl) rfl (by decide +kernel)) fun n x=>(e119_top n x.1 x.2.1 x.2.2.1).trans (by simp only[t119_L3];try rfl)
theorem y119:Gk 119 Sm119:=⟨⟨Try.f119,c119,Try.func119,by kernel_rfl,by decide +kernel⟩,hh119⟩
noncomputable def c157:Code:=(Try.f157.body.getD .skip)
def an157:An:=⟨fun _=>⟨[],[]⟩,fun _ _=>none⟩
abbrev ps157:List PK:=[.val (tSp 116 80) true,.val i64 false]
abbrev rs157:List RK:=[.val .bool false]
abbrev R157:=retsD rs157×outsD ps157
noncomputable def G157:Gam:=fun f=>match f with | 71=>some Sm71 | _=>none
noncomputable def zf1(n:Nat)(a:Br)(b:Int):Option R157 :=
 (q71 n (a.2.1,b,())).bind fun r0=>cond (decide ((0:Int)≤r0.1.1)) (cond (decide ((0:Int)≤r0.1.1)) (cond (decide (r0.1.1<(↑(List.length a.2.1):Int))) (some (((List.getD a.2.1 (Int.toNat r0.1.1) ((0:Int),(0:Int),false,false)).2.2.2,()),())) none) none) (some ((false,()),()))
theorem e157_top(n:Nat)(a:Br)(b:Int):runF TT G157 an157 Try.f157 c157 ps157 rs157 n (a,b,())=zf1 n a b:=by kernel_rfl
noncomputable def p157(n:Nat)(a:Br)(b:Int):Option R157:=zf1 n a b
noncomputable def q157(n:Nat)(x:argsD ps157):Option R157:=p157 n x.1 x.2.1
noncomputable def Sm157:Sm:=⟨ps157,rs157,false,q157⟩
theorem gam157:GamOK Try.prog G157:=by intro f s h;unfold G157 at h;split at h;exact gj h y71;cases h
theorem hh157:Hp 157 Sm157:=hOf (zac (an:=an157) (c:=c157) tt_ok gam157 mixed Try.func157 (by kernel_rfl) rfl (by decide +kernel)) fun n x=>(e157_top n x.1 x.2.1).trans rfl
theorem y157:Gk 157 Sm157:=⟨⟨Try.f157,c157,Try.func157,by kernel_rfl,by decide +kernel⟩,hh157⟩
noncomputable def c120:Code:=(Try.f120.body.getD .skip)
def an120:An:=⟨fun r=>match r with | 5=>⟨[1,2,3,7,8,9,10],[]⟩ | 8=>⟨[1,2,3,7,8,9,10,11],[]⟩ | _=>⟨[],[]⟩,fun _ _=>none⟩
abbrev ps120:List PK:=[.val tMem true,.val i64 false,.val i64 false]
abbrev rs120:List RK:=[.val .bool false]
abbrev R120:=retsD rs120×outsD ps120
noncomputable def G120:Gam:=fun f=>match f with | 157=>some Sm157 | _=>none
noncomputable def at120:Nat→Pt→List Nat→St→Option R120:=atF TT G120 an120 Try.f120 c120 _ _
def zg6(x0 x1 x2:Int)(x3 x4:Bool)(x5 x6:Int)(x7:Lb)(x8:Li)(x9:Lb)(x10:Li)(x11:List (Br))(x12:Int):St:=(St.mk ([Uu,Ai x0,Ai x1,AV.one (SV.bptr 1000000 0),Uu,Uu,Uu,Ai x2,AV.one (SV.bool x3),AV.one (SV.bool x4),Ai x5,Ai x6]++Ur 66) [(1000000,(Ent.box [SV.con (⟨9,Ty.str,x7⟩:Rw),SV.con (⟨3,Ty.int .i64,x8⟩:Rw),SV.con (⟨9,Ty.str,x9⟩:Rw),SV.con (⟨3,Ty.int .i64,x10⟩:Rw),SV.con (⟨71,ySp,x11⟩:Rw),Si x12]))])
def zeg(x0 x1 x2:Int)(x3 x4:Bool)(x5:Int)(x6:Lb)(x7:Li)(x8:Lb)(x9:Li)(x10:List (Br))(x11:Int):St:=(St.mk ([Uu,Ai x0,Ai x1,AV.one (SV.bptr 1000000 0),Uu,Uu,Uu,Ai x2,AV.one (SV.bool x3),AV.one (SV.bool x4),Ai x5]++Ur 67) [(1000000,(Ent.box [SV.con (⟨9,Ty.str,x6⟩:Rw),SV.con (⟨3,Ty.int .i64,x7⟩:Rw),SV.con (⟨9,Ty.str,x8⟩:Rw),SV.con (⟨3,Ty.int .i64,x9⟩:Rw),SV.con (⟨71,ySp,x10⟩:Rw),Si x11]))])
noncomputable def st120_top(n:Nat)(lL5:Int→Int→Int→Bool→Bool→Int→Lb→Li→Lb→Li→(List (Br))→Int→Option R120)(a:Mm)(b:Int)(c:Int):Option R120 :=
 lL5 b c (0:Int) false false (0:Int) a.1.1 a.1.2 a.2.1.1 a.2.1.2 a.2.2.1 a.2.2.2
noncomputable def zbq(n:Nat)(lL8:Int→Int→Int→Bool→Bool→Int→Int→Lb→Li→Lb→Li→(List (Br))→Int→Option R120)(lL5:Int→Int→Int→Bool→Bool→Int→Lb→Li→Lb→Li→(List (Br))→Int→Option R120)(x0 x1 x2:Int)(x3 x4:Bool)(x5 x6:Int)(x7:Lb)(x8:Li)(x9:Lb)(x10:Li)(x11:List (Br))(x12:Int):Option R120 :=
 cond (decide (0≤x5)) (cond (decide (x5<(↑x11.length:Int))) (cond (decide (x6<(↑(List.length (x11.getD x5.toNat (false,[],[])).2.2):Int))) (cond (decide (0≤x5)) (cond (decide (x5<(↑x11.length:Int))) (cond (decide (0≤x6)) (cond (decide (x6<(↑(List.length (x11.getD x5.toNat (false,[],[])).2.2):Int))) (cond (decide ((List.getD (x11.getD x5.toNat (false,[],[])).2.2 x6.toNat ((0:Int),(0:Int),false,false)).1=x0)) (cond (decide ((List.getD (x11.getD x5.toNat (false,[],[])).2.2 x6.toNat ((0:Int),(0:Int),false,false)).2.1=x1)) (cond x3 (cond x4 (lL8 x0 x1 (IntKind.i64.wrap (x2+1)) true true x5 (IntKind.i64.wrap (x6+1)) x7 x8 x9 x10 x11 x12) (cond (decide (0≤x5)) (cond (decide (x5<(↑x11.length:Int))) ((q157 n (((x11.getD x5.toNat (false,[],[])).1,(x11.getD x5.toNat (false,[],[])).2.1,(x11.getD x5.toNat (false,[],[])).2.2),x6,())).bind fun r2=>lL8 x0 x1 (IntKind.i64.wrap (x2+1)) true (!r2.1.1) x5 (IntKind.i64.wrap (x6+1)) x7 x8 x9 x10 x11 x12) none) none)) (cond x4 (lL8 x0 x1 (IntKind.i64.wrap (x2+1)) ((List.getD (x11.getD x5.toNat (false,[],[])).2.2 x6.toNat ((0:Int),(0:Int),false,false)).2.2.1) true x5 (IntKind.i64.wrap (x6+1)) x7 x8 x9 x10 x11 x12) (cond (decide (0≤x5)) (cond (decide (x5<(↑x11.length:Int))) ((q157 n (((x11.getD x5.toNat (false,[],[])).1,(x11.getD x5.toNat (false,[],[])).2.1,(x11.getD x5.toNat (false,[],[])).2.2),x6,())).bind fun r3=>lL8 x0 x1 (IntKind.i64.wrap (x2+1)) ((List.getD (x11.getD x5.toNat (false,[],[])).2.2 x6.toNat ((0:Int),(0:Int),false,false)).2.2.1) (!r3.1.1) x5 (IntKind.i64.wrap (x6+1)) x7 x8 x9 x10 x11 x12) none) none))) (lL8 x0 x1 x2 x3 x4 x5 (IntKind.i64.wrap (x6+1)) x7 x8 x9 x10 x11 x12)) (lL8 x0 x1 x2 x3 x4 x5 (IntKind.i64.wrap (x6+1)) x7 x8 x9 x10 x11 x12)) none) none) none) none) (lL5 x0 x1 x2 x3 x4 (IntKind.i64.wrap (x5+1)) x7 x8 x9 x10 x11 x12)) none) none
noncomputable def zbr(n:Nat)(lL8:Int→Int→Int→Bool→Bool→Int→Int→Lb→Li→Lb→Li→(List (Br))→Int→Option R120)(x0 x1 x2:Int)(x3 x4:Bool)(x5:Int)(x6:Lb)(x7:Li)(x8:Lb)(x9:Li)(x10:List (Br))(x11:Int):Option R120 :=
 cond (decide (x5<(↑x10.length:Int))) (lL8 x0 x1 x2 x3 x4 x5 (0:Int) x6 x7 x8 x9 x10 x11) (cond (decide (x2<2)) (some ((true,()),())) (cond (!x3) (some ((true,()),())) (some ((!x4,()),()))))
theorem e120_top(n:Nat)(a:Mm)(b:Int)(c:Int):runF TT G120 an120 Try.f120 c120 ps120 rs120 n (a,b,c,())=st120_top n (fun x0 x1 x2 x3 x4 x5 x6 x7 x8 x9 x10 x11=>at120 n (.head 5) [n] (zeg x0 x1 x2 x3 x4 x5 x6 x7 x8 x9 x10 x11)) a b c:=by kernel_rfl
theorem e120_L8_0(n:Nat)(m5:Nat)(x0 x1 x2:Int)(x3 x4:Bool)(x5 x6:Int)(x7:Lb)(x8:Li)(x9:Lb)(x10:Li)(x11:List (Br))(x12:Int):at120 n (.head 8) [m5,0] (zg6 x0 x1 x2 x3 x4 x5 x6 x7 x8 x9 x10 x11 x12)=none:=by kernel_rfl
theorem e120_L8(n:Nat)(m5:Nat)(m8:Nat)(x0 x1 x2:Int)(x3 x4:Bool)(x5 x6:Int)(x7:Lb)(x8:Li)(x9:Lb)(x10:Li)(x11:List (Br))(x12:Int):at120 n (.head 8) [m5,m8+1] (zg6 x0 x1 x2 x3 x4 x5 x6 x7 x8 x9 x10 x11 x12)=zbq n (fun x0 x1 x2 x3 x4 x5 x6 x7 x8 x9 x10 x11 x12=>at120 n (.head 8) [m5,m8] (zg6 x0 x1 x2 x3 x4 x5 x6 x7 x8 x9 x10 x11 x12)) (fun x0 x1 x2 x3 x4 x5 x6 x7 x8 x9 x10 x11=>at120 n (.head 5) [m5] (zeg x0 x1 x2 x3 x4 x5 x6 x7 x8 x9 x10 x11)) x0 x1 x2 x3 x4 x5 x6 x7 x8 x9 x10 x11 x12:=by kernel_rfl
theorem e120_L5_0(n:Nat)(x0 x1 x2:Int)(x3 x4:Bool)(x5:Int)(x6:Lb)(x7:Li)(x8:Lb)(x9:Li)(x10:List (Br))(x11:Int):at120 n (.head 5) [0] (zeg x0 x1 x2 x3 x4 x5 x6 x7 x8 x9 x10 x11)=none:=by kernel_rfl
theorem e120_L5(n:Nat)(m5:Nat)(x0 x1 x2:Int)(x3 x4:Bool)(x5:Int)(x6:Lb)(x7:Li)(x8:Lb)(x9:Li)(x10:List (Br))(x11:Int):at120 n (.head 5) [m5+1] (zeg x0 x1 x2 x3 x4 x5 x6 x7 x8 x9 x10 x11)=zbr n (fun x0 x1 x2 x3 x4 x5 x6 x7 x8 x9 x10 x11 x12=>at120 n (.head 8) [m5,n] (zg6 x0 x1 x2 x3 x4 x5 x6 x7 x8 x9 x10 x11 x12)) x0 x1 x2 x3 x4 x5 x6 x7 x8 x9 x10 x11:=by kernel_rfl
noncomputable def zfj(g5:Int→Int→Int→Bool→Bool→Int→Lb→Li→Lb→Li→(List (Br))→Int→Option R120)(n:Nat):Nat→Int→Int→Int→Bool→Bool→Int→Int→Lb→Li→Lb→Li→(List (Br))→Int→Option R120
 | 0,_,_,_,_,_,_,_,_,_,_,_,_,_=>none
 | m+1,x0,x1,x2,x3,x4,x5,x6,x7,x8,x9,x10,x11,x12=>zbq n (zfj g5 n m) g5 x0 x1 x2 x3 x4 x5 x6 x7 x8 x9 x10 x11 x12
noncomputable def zfk(n:Nat):Nat→Int→Int→Int→Bool→Bool→Int→Lb→Li→Lb→Li→(List (Br))→Int→Option R120
 | 0,_,_,_,_,_,_,_,_,_,_,_,_=>none
 | m+1,x0,x1,x2,x3,x4,x5,x6,x7,x8,x9,x10,x11=>zbr n (zfj (zfk n m) n n) x0 x1 x2 x3 x4 x5 x6 x7 x8 x9 x10 x11
noncomputable def p120(n:Nat)(a:Mm)(b:Int)(c:Int):Option R120:=st120_top n (zfk n n) a b c
theorem t120_L8(n:Nat)(m5:Nat):∀ (m8:Nat) (x0 x1 x2:Int) (x3 x4:Bool) (x5 x6:Int) (x7:Lb) (x8:Li) (x9:Lb) (x10:Li) (x11:List (Br)) (x12:Int),at120 n (.head 8) [m5,m8] (zg6 x0 x1 x2 x3 x4 x5 x6 x7 x8 x9 x10 x11 x12)=zfj (fun x0 x1 x2 x3 x4 x5 x6 x7 x8 x9 x10 x11=>at120 n (.head 5) [m5] (zeg x0 x1 x2 x3 x4 x5 x6 x7 x8 x9 x10 x11)) n m8 x0 x1 x2 x3 x4 x5 x6 x7 x8 x9 x10 x11 x12:=by
 intro m
 induction m with
 | zero=>intros;rw[e120_L8_0];rfl
 | succ m ih =>
  intros
  rw[e120_L8]
  try simp only[ih]
  rfl
theorem t120_L5(n:Nat):∀ (m5:Nat) (x0 x1 x2:Int) (x3 x4:Bool) (x5:Int) (x6:Lb) (x7:Li) (x8:Lb) (x9:Li) (x10:List (Br)) (x11:Int),at120 n (.head 5) [m5] (zeg x0 x1 x2 x3 x4 x5 x6 x7 x8 x9 x10 x11)=zfk n m5 x0 x1 x2 x3 x4 x5 x6 x7 x8 x9 x10 x11:=by
 intro m
 induction m with
 | zero=>intros;rw[e120_L5_0];rfl
 | succ m ih =>
  intros
  rw[e120_L5]
  try simp only[t120_L8,ih]
  rfl
noncomputable def q120(n:Nat)(x:argsD ps120):Option R120:=p120 n x.1 x.2.1 x.2.2.1
noncomputable def Sm120:Sm:=⟨ps120,rs120,false,q120⟩
theorem gam120:GamOK Try.prog G120:=by intro f s h;unfold G120 at h;split at h;exact gj h y157;cases h
theorem hh120:Hp 120 Sm120:=hOf (zac (an:=an120) (c:=c120) tt_ok gam120 mixed Try.func120 (by kernel_rfl) rfl (by decide +kernel)) fun n x=>(e120_top n x.1 x.2.1 x.2.2.1).trans (by simp only[t120_L5];try rfl)
theorem y120:Gk 120 Sm120:=⟨⟨Try.f120,c120,Try.func120,by kernel_rfl,by decide +kernel⟩,hh120⟩
noncomputable def c53:Code:=(Try.f53.body.getD .skip)
def an53:An:=⟨fun r=>match r with | 4=>⟨[1,3],[]⟩ | 9=>⟨[1,3,4],[]⟩ | 18=>⟨[1,7],[]⟩ | 23=>⟨[1,8],[]⟩ | _=>⟨[],[]⟩,fun _ _=>none⟩
abbrev ps53:List PK:=[.val tMem true]
abbrev rs53:List RK:=[.val .bool false]
abbrev R53:=retsD rs53×outsD ps53
noncomputable def G53:Gam:=fun f=>match f with | 69=>some Sm69 | 117=>some Sm117 | 118=>some Sm118 | 119=>some Sm119 | 120=>some Sm120 | _=>none
noncomputable def at53:Nat→Pt→List Nat→St→Option R53:=atF TT G53 an53 Try.f53 c53 _ _
def zj6(x0 x1:Int)(x2:Lb)(x3:Li)(x4:Lb)(x5:Li)(x6:List (Br))(x7:Int):St:=(St.mk ([Uu,AV.one (SV.bptr 1000000 0),Uu,Ai x0,Ai x1]++Ur 125) [(1000000,(Ent.box [SV.con (⟨9,Ty.str,x2⟩:Rw),SV.con (⟨3,Ty.int .i64,x3⟩:Rw),SV.con (⟨9,Ty.str,x4⟩:Rw),SV.con (⟨3,Ty.int .i64,x5⟩:Rw),SV.con (⟨71,ySp,x6⟩:Rw),Si x7]))])
def zgh(x0:Int)(x1:Lb)(x2:Li)(x3:Lb)(x4:Li)(x5:List (Br))(x6:Int):St:=(St.mk ([Uu,AV.one (SV.bptr 1000000 0),Uu,Uu,Uu,Uu,Uu,Uu,Ai x0]++Ur 121) [(1000000,(Ent.box [SV.con (⟨9,Ty.str,x1⟩:Rw),SV.con (⟨3,Ty.int .i64,x2⟩:Rw),SV.con (⟨9,Ty.str,x3⟩:Rw),SV.con (⟨3,Ty.int .i64,x4⟩:Rw),SV.con (⟨71,ySp,x5⟩:Rw),Si x6]))])
def zgi(x0:Int)(x1:Lb)(x2:Li)(x3:Lb)(x4:Li)(x5:List (Br))(x6:Int):St:=(St.mk ([Uu,AV.one (SV.bptr 1000000 0),Uu,Uu,Uu,Uu,Uu,Ai x0]++Ur 122) [(1000000,(Ent.box [SV.con (⟨9,Ty.str,x1⟩:Rw),SV.con (⟨3,Ty.int .i64,x2⟩:Rw),SV.con (⟨9,Ty.str,x3⟩:Rw),SV.con (⟨3,Ty.int .i64,x4⟩:Rw),SV.con (⟨71,ySp,x5⟩:Rw),Si x6]))])
def zhy(x0:Int)(x1:Lb)(x2:Li)(x3:Lb)(x4:Li)(x5:List (Br))(x6:Int):St:=(St.mk ([Uu,AV.one (SV.bptr 1000000 0),Uu,Ai x0]++Ur 126) [(1000000,(Ent.box [SV.con (⟨9,Ty.str,x1⟩:Rw),SV.con (⟨3,Ty.int .i64,x2⟩:Rw),SV.con (⟨9,Ty.str,x3⟩:Rw),SV.con (⟨3,Ty.int .i64,x4⟩:Rw),SV.con (⟨71,ySp,x5⟩:Rw),Si x6]))])
noncomputable def zdn(n:Nat)(lL4:Int→Lb→Li→Lb→Li→(List (Br))→Int→Option R53)(a:Mm):Option R53 :=
 (q117 n ((a.1.1,a.1.2),())).bind fun r0=>cond (!r0.1.1) (some ((false,()),())) ((q117 n ((a.2.1.1,a.2.1.2),())).bind fun r1=>cond (!r1.1.1) (some ((false,()),())) (cond (!decide ((↑(List.length a.1.2):Int)=(12:Int))) (some ((false,()),())) (cond (!decide ((↑(List.length a.2.1.2):Int)=(12:Int))) (some ((false,()),())) (cond (!decide ((↑(List.length a.2.2.1):Int)=(5:Int))) (some ((false,()),())) ((q69 n (a.2.2.2,(0:Int),(11:Int),())).bind fun r2=>cond (!r2.1.1) (some ((false,()),())) (lL4 (0:Int) a.1.1 a.1.2 a.2.1.1 a.2.1.2 a.2.2.1 a.2.2.2))))))
noncomputable def zch(n:Nat)(lL9:Int→Int→Lb→Li→Lb→Li→(List (Br))→Int→Option R53)(lL4:Int→Lb→Li→Lb→Li→(List (Br))→Int→Option R53)(x0 x1:Int)(x2:Lb)(x3:Li)(x4:Lb)(x5:Li)(x6:List (Br))(x7:Int):Option R53 :=
 cond (decide (0≤x0)) (cond (decide (x0<(↑x6.length:Int))) (cond (decide (x1<(↑(List.length (x6.getD x0.toNat (false,[],[])).2.2):Int))) (cond (decide (0≤x0)) (cond (decide (x0<(↑x6.length:Int))) (cond (decide (0≤x1)) (cond (decide (x1<(↑(List.length (x6.getD x0.toNat (false,[],[])).2.2):Int))) (cond (decide ((List.getD (x6.getD x0.toNat (false,[],[])).2.2 x1.toNat ((0:Int),(0:Int),false,false)).1=(2:Int))) (cond (!decide ((List.getD (x6.getD x0.toNat (false,[],[])).2.2 x1.toNat ((0:Int),(0:Int),false,false)).1=(0:Int))) ((q69 n ((List.getD (x6.getD x0.toNat (false,[],[])).2.2 x1.toNat ((0:Int),(0:Int),false,false)).2.1,(0:Int),IntKind.i64.wrap ((12:Int) - (1:Int)),())).bind fun r6=>cond (!r6.1.1) (some ((false,()),())) (lL9 x0 (IntKind.i64.wrap (x1+1)) x2 x3 x4 x5 x6 x7)) (lL9 x0 (IntKind.i64.wrap (x1+1)) x2 x3 x4 x5 x6 x7)) (cond (!decide ((List.getD (x6.getD x0.toNat (false,[],[])).2.2 x1.toNat ((0:Int),(0:Int),false,false)).1=(0:Int))) ((q69 n ((List.getD (x6.getD x0.toNat (false,[],[])).2.2 x1.toNat ((0:Int),(0:Int),false,false)).2.1,(0:Int),IntKind.i64.wrap ((12:Int) - (1:Int)),())).bind fun r7=>cond (!r7.1.1) (some ((false,()),())) (lL9 x0 (IntKind.i64.wrap (x1+1)) x2 x3 x4 x5 x6 x7)) (lL9 x0 (IntKind.i64.wrap (x1+1)) x2 x3 x4 x5 x6 x7))) none) none) none) none) (lL4 (IntKind.i64.wrap (x0+1)) x2 x3 x4 x5 x6 x7)) none) none
noncomputable def zbo(n:Nat)(lL23:Int→Lb→Li→Lb→Li→(List (Br))→Int→Option R53)(x0:Int)(x1:Lb)(x2:Li)(x3:Lb)(x4:Li)(x5:List (Br))(x6:Int):Option R53 :=
 cond (decide (x0<12)) ((q119 n (((x1,x2),(x3,x4),x5,x6),(2:Int),x0,())).bind fun r12=>cond (decide (0≤x0)) (cond (decide (x0<(↑x4.length:Int))) (cond (!decide (r12.1.1=x4.getD x0.toNat (0:Int))) (some ((false,()),())) ((q120 n (((x1,x2),(x3,x4),x5,x6),(2:Int),x0,())).bind fun r13=>cond (!r13.1.1) (some ((false,()),())) (lL23 (IntKind.i64.wrap (x0+1)) x1 x2 x3 x4 x5 x6))) none) none) (some ((true,()),()))
noncomputable def zbp(n:Nat)(lL18:Int→Lb→Li→Lb→Li→(List (Br))→Int→Option R53)(lL23:Int→Lb→Li→Lb→Li→(List (Br))→Int→Option R53)(x0:Int)(x1:Lb)(x2:Li)(x3:Lb)(x4:Li)(x5:List (Br))(x6:Int):Option R53 :=
 cond (decide (x0<12)) ((q119 n (((x1,x2),(x3,x4),x5,x6),(1:Int),x0,())).bind fun r9=>cond (decide (0≤x0)) (cond (decide (x0<(↑x2.length:Int))) (cond (!decide (r9.1.1=x2.getD x0.toNat (0:Int))) (some ((false,()),())) ((q120 n (((x1,x2),(x3,x4),x5,x6),(1:Int),x0,())).bind fun r10=>cond (!r10.1.1) (some ((false,()),())) (lL18 (IntKind.i64.wrap (x0+1)) x1 x2 x3 x4 x5 x6))) none) none) (lL23 (0:Int) x1 x2 x3 x4 x5 x6)
noncomputable def zci(n:Nat)(lL9:Int→Int→Lb→Li→Lb→Li→(List (Br))→Int→Option R53)(lL18:Int→Lb→Li→Lb→Li→(List (Br))→Int→Option R53)(x0:Int)(x1:Lb)(x2:Li)(x3:Lb)(x4:Li)(x5:List (Br))(x6:Int):Option R53 :=
 cond (decide (x0<5)) (cond (decide (0≤x0)) (cond (decide (x0<(↑x5.length:Int))) ((q118 n (((x5.getD x0.toNat (false,[],[])).1,(x5.getD x0.toNat (false,[],[])).2.1,(x5.getD x0.toNat (false,[],[])).2.2),())).bind fun r4=>cond (!r4.1.1) (some ((false,()),())) (lL9 x0 (0:Int) x1 x2 x3 x4 x5 x6)) none) none) (lL18 (0:Int) x1 x2 x3 x4 x5 x6)
theorem e53_top(n:Nat)(a:Mm):runF TT G53 an53 Try.f53 c53 ps53 rs53 n (a,())=zdn n (fun x0 x1 x2 x3 x4 x5 x6=>at53 n (.head 4) [n] (zhy x0 x1 x2 x3 x4 x5 x6)) a:=by kernel_rfl
theorem e53_L9_0(n:Nat)(m4:Nat)(x0 x1:Int)(x2:Lb)(x3:Li)(x4:Lb)(x5:Li)(x6:List (Br))(x7:Int):at53 n (.head 9) [m4,0] (zj6 x0 x1 x2 x3 x4 x5 x6 x7)=none:=by kernel_rfl
theorem e53_L9(n:Nat)(m4:Nat)(m9:Nat)(x0 x1:Int)(x2:Lb)(x3:Li)(x4:Lb)(x5:Li)(x6:List (Br))(x7:Int):at53 n (.head 9) [m4,m9+1] (zj6 x0 x1 x2 x3 x4 x5 x6 x7)=zch n (fun x0 x1 x2 x3 x4 x5 x6 x7=>at53 n (.head 9) [m4,m9] (zj6 x0 x1 x2 x3 x4 x5 x6 x7)) (fun x0 x1 x2 x3 x4 x5 x6=>at53 n (.head 4) [m4] (zhy x0 x1 x2 x3 x4 x5 x6)) x0 x1 x2 x3 x4 x5 x6 x7:=by kernel_rfl
theorem e53_L23_0(n:Nat)(x0:Int)(x1:Lb)(x2:Li)(x3:Lb)(x4:Li)(x5:List (Br))(x6:Int):at53 n (.head 23) [0] (zgh x0 x1 x2 x3 x4 x5 x6)=none:=by kernel_rfl
theorem e53_L23(n:Nat)(m23:Nat)(x0:Int)(x1:Lb)(x2:Li)(x3:Lb)(x4:Li)(x5:List (Br))(x6:Int):at53 n (.head 23) [m23+1] (zgh x0 x1 x2 x3 x4 x5 x6)=zbo n (fun x0 x1 x2 x3 x4 x5 x6=>at53 n (.head 23) [m23] (zgh x0 x1 x2 x3 x4 x5 x6)) x0 x1 x2 x3 x4 x5 x6:=by kernel_rfl
theorem e53_L18_0(n:Nat)(x0:Int)(x1:Lb)(x2:Li)(x3:Lb)(x4:Li)(x5:List (Br))(x6:Int):at53 n (.head 18) [0] (zgi x0 x1 x2 x3 x4 x5 x6)=none:=by kernel_rfl
theorem e53_L18(n:Nat)(m18:Nat)(x0:Int)(x1:Lb)(x2:Li)(x3:Lb)(x4:Li)(x5:List (Br))(x6:Int):at53 n (.head 18) [m18+1] (zgi x0 x1 x2 x3 x4 x5 x6)=zbp n (fun x0 x1 x2 x3 x4 x5 x6=>at53 n (.head 18) [m18] (zgi x0 x1 x2 x3 x4 x5 x6)) (fun x0 x1 x2 x3 x4 x5 x6=>at53 n (.head 23) [n] (zgh x0 x1 x2 x3 x4 x5 x6)) x0 x1 x2 x3 x4 x5 x6:=by kernel_rfl
theorem e53_L4_0(n:Nat)(x0:Int)(x1:Lb)(x2:Li)(x3:Lb)(x4:Li)(x5:List (Br))(x6:Int):at53 n (.head 4) [0] (zhy x0 x1 x2 x3 x4 x5 x6)=none:=by kernel_rfl
theorem e53_L4(n:Nat)(m4:Nat)(x0:Int)(x1:Lb)(x2:Li)(x3:Lb)(x4:Li)(x5:List (Br))(x6:Int):at53 n (.head 4) [m4+1] (zhy x0 x1 x2 x3 x4 x5 x6)=zci n (fun x0 x1 x2 x3 x4 x5 x6 x7=>at53 n (.head 9) [m4,n] (zj6 x0 x1 x2 x3 x4 x5 x6 x7)) (fun x0 x1 x2 x3 x4 x5 x6=>at53 n (.head 18) [n] (zgi x0 x1 x2 x3 x4 x5 x6)) x0 x1 x2 x3 x4 x5 x6:=by kernel_rfl
noncomputable def zb3(g4:Int→Lb→Li→Lb→Li→(List (Br))→Int→Option R53)(n:Nat):Nat→Int→Int→Lb→Li→Lb→Li→(List (Br))→Int→Option R53
 | 0,_,_,_,_,_,_,_,_=>none
 | m+1,x0,x1,x2,x3,x4,x5,x6,x7=>zch n (zb3 g4 n m) g4 x0 x1 x2 x3 x4 x5 x6 x7
noncomputable def zkr(n:Nat):Nat→Int→Lb→Li→Lb→Li→(List (Br))→Int→Option R53
 | 0,_,_,_,_,_,_,_=>none
 | m+1,x0,x1,x2,x3,x4,x5,x6=>zbo n (zkr n m) x0 x1 x2 x3 x4 x5 x6
noncomputable def zkv(n:Nat):Nat→Int→Lb→Li→Lb→Li→(List (Br))→Int→Option R53
 | 0,_,_,_,_,_,_,_=>none
 | m+1,x0,x1,x2,x3,x4,x5,x6=>zbp n (zkv n m) (zkr n n) x0 x1 x2 x3 x4 x5 x6
noncomputable def zko(n:Nat):Nat→Int→Lb→Li→Lb→Li→(List (Br))→Int→Option R53
 | 0,_,_,_,_,_,_,_=>none
 | m+1,x0,x1,x2,x3,x4,x5,x6=>zci n (zb3 (zko n m) n n) (zkv n n) x0 x1 x2 x3 x4 x5 x6
noncomputable def p53(n:Nat)(a:Mm):Option R53:=zdn n (zko n n) a
theorem t53_L9(n:Nat)(m4:Nat):∀ (m9:Nat) (x0 x1:Int) (x2:Lb) (x3:Li) (x4:Lb) (x5:Li) (x6:List (Br)) (x7:Int),at53 n (.head 9) [m4,m9] (zj6 x0 x1 x2 x3 x4 x5 x6 x7)=zb3 (fun x0 x1 x2 x3 x4 x5 x6=>at53 n (.head 4) [m4] (zhy x0 x1 x2 x3 x4 x5 x6)) n m9 x0 x1 x2 x3 x4 x5 x6 x7:=by
 intro m
 induction m with
 | zero=>intros;rw[e53_L9_0];rfl
 | succ m ih =>
  intros
  rw[e53_L9]
  try simp only[ih]
  rfl
theorem t53_L23(n:Nat):∀ (m23:Nat) (x0:Int) (x1:Lb) (x2:Li) (x3:Lb) (x4:Li) (x5:List (Br)) (x6:Int),at53 n (.head 23) [m23] (zgh x0 x1 x2 x3 x4 x5 x6)=zkr n m23 x0 x1 x2 x3 x4 x5 x6:=by
 intro m
 induction m with
 | zero=>intros;rw[e53_L23_0];rfl
 | succ m ih =>
  intros
  rw[e53_L23]
  try simp only[ih]
  rfl
theorem t53_L18(n:Nat):∀ (m18:Nat) (x0:Int) (x1:Lb) (x2:Li) (x3:Lb) (x4:Li) (x5:List (Br)) (x6:Int),at53 n (.head 18) [m18] (zgi x0 x1 x2 x3 x4 x5 x6)=zkv n m18 x0 x1 x2 x3 x4 x5 x6:=by
 intro m
 induction m with
 | zero=>intros;rw[e53_L18_0];rfl
 | succ m ih =>
  intros
  rw[e53_L18]
  try simp only[t53_L23,ih]
  rfl
theorem t53_L4(n:Nat):∀ (m4:Nat) (x0:Int) (x1:Lb) (x2:Li) (x3:Lb) (x4:Li) (x5:List (Br)) (x6:Int),at53 n (.head 4) [m4] (zhy x0 x1 x2 x3 x4 x5 x6)=zko n m4 x0 x1 x2 x3 x4 x5 x6:=by
 intro m
 induction m with
 | zero=>intros;rw[e53_L4_0];rfl
 | succ m ih =>
  intros
  rw[e53_L4]
  try simp only[t53_L9,t53_L18,ih]
  rfl
noncomputable def q53(n:Nat)(x:argsD ps53):Option R53:=p53 n x.1
noncomputable def Sm53:Sm:=⟨ps53,rs53,false,q53⟩
theorem gam53:GamOK Try.prog G53:=by intro f s h;unfold G53 at h;split at h;exact gj h y69;exact gj h y117;exact gj h y118;exact gj h y119;exact gj h y120;cases h
theorem hh53:Hp 53 Sm53:=hOf (zac (an:=an53) (c:=c53) tt_ok gam53 mixed Try.func53 (by kernel_rfl) rfl (by decide +kernel)) fun n x=>(e53_top n x.1).trans (by simp only[t53_L4];try rfl)
theorem y53:Gk 53 Sm53:=⟨⟨Try.f53,c53,Try.func53,by kernel_rfl,by decide +kernel⟩,hh53⟩
noncomputable def c123:Code:=(Try.f123.body.getD .skip)
def an123:An:=⟨fun _=>⟨[],[]⟩,fun _ _=>none⟩
abbrev ps123:List PK:=[.val tPg true]
abbrev rs123:List RK:=[.own tPg true]
abbrev R123:=retsD rs123×outsD ps123
noncomputable def G123:Gam:=fun _=>none
noncomputable def zgb(n:Nat)(a:Lb×Li):Option R123 :=
 cond (decide (((0:Nat)+List.length a.1)*(16:Nat)≤(140737488355328:Nat))) (cond (decide (((0:Nat)+List.length a.2)*(8:Nat)≤(140737488355328:Nat))) (some (((a.1,a.2),()),())) none) none
theorem e123_top(n:Nat)(a:Lb×Li):runF TT G123 an123 Try.f123 c123 ps123 rs123 n (a,())=zgb n a:=by kernel_rfl
noncomputable def p123(n:Nat)(a:Lb×Li):Option R123:=zgb n a
noncomputable def q123(n:Nat)(x:argsD ps123):Option R123:=p123 n x.1
noncomputable def Sm123:Sm:=⟨ps123,rs123,false,q123⟩
theorem gam123:GamOK Try.prog G123:=fun _ _ h=>by cases h
theorem hh123:Hp 123 Sm123:=hOf (zac (an:=an123) (c:=c123) tt_ok gam123 mixed Try.func123 (by kernel_rfl) rfl (by decide +kernel)) fun n x=>(e123_top n x.1).trans rfl
theorem y123:Gk 123 Sm123:=⟨⟨Try.f123,c123,Try.func123,by kernel_rfl,by decide +kernel⟩,hh123⟩
noncomputable def c56:Code:=(Try.f56.body.getD .skip)
def an56:An:=⟨fun r=>match r with | 3=>⟨[1,2,3,4],[]⟩ | _=>⟨[],[]⟩,fun _ _=>none⟩
abbrev ps56:List PK:=[.val tMem true]
abbrev rs56:List RK:=[.own tMem true]
abbrev R56:=retsD rs56×outsD ps56
noncomputable def G56:Gam:=fun f=>match f with | 123=>some Sm123 | _=>none
noncomputable def at56:Nat→Pt→List Nat→St→Option R56:=atF TT G56 an56 Try.f56 c56 _ _
def zj5(x0:Int)(x1:Lb)(x2:Li)(x3:Lb)(x4:Li)(x5:List (Br))(x6 x7 x8:Int)(x9:Lb)(x10:Li)(x11:Lb)(x12:Li)(x13:List (Br)):St:=(St.mk ([Uu,AV.one (SV.bptr 1000000 0),AV.one (SV.bptr 1000001 0),AV.one (SV.bptr 1000002 0),Ai x0]++Ur 40) [(1000000,(Ent.box [SV.con (⟨9,Ty.str,x1⟩:Rw),SV.con (⟨3,Ty.int .i64,x2⟩:Rw),SV.con (⟨9,Ty.str,x3⟩:Rw),SV.con (⟨3,Ty.int .i64,x4⟩:Rw),SV.con (⟨71,ySp,x5⟩:Rw),Si x6])),(1000001,(Ent.box [SV.nil,SV.nil,SV.nil,SV.nil,SV.nil,Si x7])),(1000002,(Ent.box [Sr 1000003,Sr 1000004,Sr 1000005,Sr 1000006,Sr 1000007,Si x8])),(1000003,Er ⟨9,Ty.str,x9⟩),(1000004,Er ⟨3,Ty.int .i64,x10⟩),(1000005,Er ⟨9,Ty.str,x11⟩),(1000006,Er ⟨3,Ty.int .i64,x12⟩),(1000007,Er ⟨71,ySp,x13⟩)])
noncomputable def zi1(n:Nat)(lL3:Int→Lb→Li→Lb→Li→(List (Br))→Int→Int→Int→Lb→Li→Lb→Li→(List (Br))→Option R56)(a:Mm):Option R56 :=
 (q123 n ((a.1.1,a.1.2),())).bind fun r0=>(q123 n ((a.2.1.1,a.2.1.2),())).bind fun r1=>lL3 (0:Int) a.1.1 a.1.2 a.2.1.1 a.2.1.2 a.2.2.1 a.2.2.2 (0:Int) a.2.2.2 r0.1.1.1 r0.1.1.2 r1.1.1.1 r1.1.1.2 ([])
noncomputable def zhu(n:Nat)(lL3:Int→Lb→Li→Lb→Li→(List (Br))→Int→Int→Int→Lb→Li→Lb→Li→(List (Br))→Option R56)(x0:Int)(x1:Lb)(x2:Li)(x3:Lb)(x4:Li)(x5:List (Br))(x6 x7 x8:Int)(x9:Lb)(x10:Li)(x11:Lb)(x12:Li)(x13:List (Br)):Option R56 :=
 cond (decide (x0<(↑x5.length:Int))) (cond (decide (0≤x0)) (cond (decide (x0<(↑x5.length:Int))) (cond (decide (((0:Nat)+List.length (x5.getD x0.toNat (false,[],[])).2.1)*(24:Nat)≤(140737488355328:Nat))) (cond (decide (((0:Nat)+List.length (x5.getD x0.toNat (false,[],[])).2.2)*(24:Nat)≤(140737488355328:Nat))) (cond (decide ((x13.length+[((x5.getD x0.toNat (false,[],[])).1,(x5.getD x0.toNat (false,[],[])).2.1,(x5.getD x0.toNat (false,[],[])).2.2)].length)*(56:Nat)≤(140737488355328:Nat))) (lL3 (IntKind.i64.wrap (x0+1)) x1 x2 x3 x4 x5 x6 x7 x8 x9 x10 x11 x12 (x13++[((x5.getD x0.toNat (false,[],[])).1,(x5.getD x0.toNat (false,[],[])).2.1,(x5.getD x0.toNat (false,[],[])).2.2)])) none) none) none) none) none) (some ((((x9,x10),((x11,x12),(x13,x8))),()),()))
theorem e56_top(n:Nat)(a:Mm):runF TT G56 an56 Try.f56 c56 ps56 rs56 n (a,())=zi1 n (fun x0 x1 x2 x3 x4 x5 x6 x7 x8 x9 x10 x11 x12 x13=>at56 n (.head 3) [n] (zj5 x0 x1 x2 x3 x4 x5 x6 x7 x8 x9 x10 x11 x12 x13)) a:=by kernel_rfl
theorem e56_L3_0(n:Nat)(x0:Int)(x1:Lb)(x2:Li)(x3:Lb)(x4:Li)(x5:List (Br))(x6 x7 x8:Int)(x9:Lb)(x10:Li)(x11:Lb)(x12:Li)(x13:List (Br)):at56 n (.head 3) [0] (zj5 x0 x1 x2 x3 x4 x5 x6 x7 x8 x9 x10 x11 x12 x13)=none:=by kernel_rfl
theorem e56_L3(n:Nat)(m3:Nat)(x0:Int)(x1:Lb)(x2:Li)(x3:Lb)(x4:Li)(x5:List (Br))(x6 x7 x8:Int)(x9:Lb)(x10:Li)(x11:Lb)(x12:Li)(x13:List (Br)):at56 n (.head 3) [m3+1] (zj5 x0 x1 x2 x3 x4 x5 x6 x7 x8 x9 x10 x11 x12 x13)=zhu n (fun x0 x1 x2 x3 x4 x5 x6 x7 x8 x9 x10 x11 x12 x13=>at56 n (.head 3) [m3] (zj5 x0 x1 x2 x3 x4 x5 x6 x7 x8 x9 x10 x11 x12 x13)) x0 x1 x2 x3 x4 x5 x6 x7 x8 x9 x10 x11 x12 x13:=by kernel_rfl
noncomputable def p56_L3(n:Nat):Nat→Int→Lb→Li→Lb→Li→(List (Br))→Int→Int→Int→Lb→Li→Lb→Li→(List (Br))→Option R56
 | 0,_,_,_,_,_,_,_,_,_,_,_,_,_,_=>none
 | m+1,x0,x1,x2,x3,x4,x5,x6,x7,x8,x9,x10,x11,x12,x13=>zhu n (p56_L3 n m) x0 x1 x2 x3 x4 x5 x6 x7 x8 x9 x10 x11 x12 x13
noncomputable def p56(n:Nat)(a:Mm):Option R56:=zi1 n (p56_L3 n n) a
theorem t56_L3(n:Nat):∀ (m3:Nat) (x0:Int) (x1:Lb) (x2:Li) (x3:Lb) (x4:Li) (x5:List (Br)) (x6 x7 x8:Int) (x9:Lb) (x10:Li) (x11:Lb) (x12:Li) (x13:List (Br)),at56 n (.head 3) [m3] (zj5 x0 x1 x2 x3 x4 x5 x6 x7 x8 x9 x10 x11 x12 x13)=p56_L3 n m3 x0 x1 x2 x3 x4 x5 x6 x7 x8 x9 x10 x11 x12 x13:=by
 intro m
 induction m with
 | zero=>intros;rw[e56_L3_0];rfl
 | succ m ih =>
  intros
  rw[e56_L3]
  try simp only[ih]
  rfl
noncomputable def q56(n:Nat)(x:argsD ps56):Option R56:=p56 n x.1
noncomputable def Sm56:Sm:=⟨ps56,rs56,false,q56⟩
theorem gam56:GamOK Try.prog G56:=by intro f s h;unfold G56 at h;split at h;exact gj h y123;cases h
theorem hh56:Hp 56 Sm56:=hOf (zac (an:=an56) (c:=c56) tt_ok gam56 mixed Try.func56 (by kernel_rfl) rfl (by decide +kernel)) fun n x=>(e56_top n x.1).trans (by simp only[t56_L3];try rfl)
theorem y56:Gk 56 Sm56:=⟨⟨Try.f56,c56,Try.func56,by kernel_rfl,by decide +kernel⟩,hh56⟩
noncomputable def c93:Code:=(Try.f93.body.getD .skip)
def an93:An:=⟨fun r=>match r with | 2=>⟨[1,3],[]⟩ | _=>⟨[],[]⟩,fun _ _=>none⟩
abbrev ps93:List PK:=[.val tMem true]
abbrev rs93:List RK:=[.val i64 false]
abbrev R93:=retsD rs93×outsD ps93
noncomputable def G93:Gam:=fun _=>none
noncomputable def at93:Nat→Pt→List Nat→St→Option R93:=atF TT G93 an93 Try.f93 c93 _ _
def zj0(x0:Int)(x1:Lb)(x2:Li)(x3:Lb)(x4:Li)(x5:List (Br))(x6:Int):St:=(St.mk ([Uu,AV.one (SV.bptr 1000000 0),Uu,Ai x0]++Ur 15) [(1000000,(Ent.box [SV.con (⟨9,Ty.str,x1⟩:Rw),SV.con (⟨3,Ty.int .i64,x2⟩:Rw),SV.con (⟨9,Ty.str,x3⟩:Rw),SV.con (⟨3,Ty.int .i64,x4⟩:Rw),SV.con (⟨71,ySp,x5⟩:Rw),Si x6]))])
noncomputable def st93_top(n:Nat)(lL2:Int→Lb→Li→Lb→Li→(List (Br))→Int→Option R93)(a:Mm):Option R93 :=
 lL2 (0:Int) a.1.1 a.1.2 a.2.1.1 a.2.1.2 a.2.2.1 a.2.2.2
noncomputable def zhr(n:Nat)(lL2:Int→Lb→Li→Lb→Li→(List (Br))→Int→Option R93)(x0:Int)(x1:Lb)(x2:Li)(x3:Lb)(x4:Li)(x5:List (Br))(x6:Int):Option R93 :=
 cond (decide (x0<(↑x5.length:Int))) (cond (decide (0≤x0)) (cond (decide (x0<(↑x5.length:Int))) (cond (!(x5.getD x0.toNat (false,[],[])).1) (some ((x0,()),())) (lL2 (IntKind.i64.wrap (x0+1)) x1 x2 x3 x4 x5 x6)) none) none) (some (((-1:Int),()),()))
theorem e93_top(n:Nat)(a:Mm):runF TT G93 an93 Try.f93 c93 ps93 rs93 n (a,())=st93_top n (fun x0 x1 x2 x3 x4 x5 x6=>at93 n (.head 2) [n] (zj0 x0 x1 x2 x3 x4 x5 x6)) a:=by kernel_rfl
theorem e93_L2_0(n:Nat)(x0:Int)(x1:Lb)(x2:Li)(x3:Lb)(x4:Li)(x5:List (Br))(x6:Int):at93 n (.head 2) [0] (zj0 x0 x1 x2 x3 x4 x5 x6)=none:=by kernel_rfl
theorem e93_L2(n:Nat)(m2:Nat)(x0:Int)(x1:Lb)(x2:Li)(x3:Lb)(x4:Li)(x5:List (Br))(x6:Int):at93 n (.head 2) [m2+1] (zj0 x0 x1 x2 x3 x4 x5 x6)=zhr n (fun x0 x1 x2 x3 x4 x5 x6=>at93 n (.head 2) [m2] (zj0 x0 x1 x2 x3 x4 x5 x6)) x0 x1 x2 x3 x4 x5 x6:=by kernel_rfl
noncomputable def p93_L2(n:Nat):Nat→Int→Lb→Li→Lb→Li→(List (Br))→Int→Option R93
 | 0,_,_,_,_,_,_,_=>none
 | m+1,x0,x1,x2,x3,x4,x5,x6=>zhr n (p93_L2 n m) x0 x1 x2 x3 x4 x5 x6
noncomputable def p93(n:Nat)(a:Mm):Option R93:=st93_top n (p93_L2 n n) a
theorem t93_L2(n:Nat):∀ (m2:Nat) (x0:Int) (x1:Lb) (x2:Li) (x3:Lb) (x4:Li) (x5:List (Br)) (x6:Int),at93 n (.head 2) [m2] (zj0 x0 x1 x2 x3 x4 x5 x6)=p93_L2 n m2 x0 x1 x2 x3 x4 x5 x6:=by
 intro m
 induction m with
 | zero=>intros;rw[e93_L2_0];rfl
 | succ m ih =>
  intros
  rw[e93_L2]
  try simp only[ih]
  rfl
noncomputable def q93(n:Nat)(x:argsD ps93):Option R93:=p93 n x.1
noncomputable def Sm93:Sm:=⟨ps93,rs93,false,q93⟩
theorem gam93:GamOK Try.prog G93:=fun _ _ h=>by cases h
theorem hh93:Hp 93 Sm93:=hOf (zac (an:=an93) (c:=c93) tt_ok gam93 mixed Try.func93 (by kernel_rfl) rfl (by decide +kernel)) fun n x=>(e93_top n x.1).trans (by simp only[t93_L2];try rfl)
theorem y93:Gk 93 Sm93:=⟨⟨Try.f93,c93,Try.func93,by kernel_rfl,by decide +kernel⟩,hh93⟩
noncomputable def c28:Code:=(Try.f28.body.getD .skip)
def an28:An:=⟨fun _=>⟨[],[]⟩,fun _ _=>none⟩
abbrev ps28:List PK:=[.val tMem true]
abbrev rs28:List RK:=[.own tMem true,.val i64 false,.val .bool false]
abbrev R28:=retsD rs28×outsD ps28
noncomputable def G28:Gam:=fun f=>match f with | 53=>some Sm53 | 56=>some Sm56 | 93=>some Sm93 | _=>none
noncomputable def zjb(n:Nat)(a:Mm):Option R28 :=
 (q53 n (((a.1.1,a.1.2),(a.2.1.1,a.2.1.2),a.2.2.1,a.2.2.2),())).bind fun r0=>cond (!r0.1.1) (some (((([],[]),(([],[]),([],(0:Int)))),((-1:Int),(false,()))),())) ((q93 n (((a.1.1,a.1.2),(a.2.1.1,a.2.1.2),a.2.2.1,a.2.2.2),())).bind fun r1=>cond (decide (r1.1.1<(0:Int))) (some (((([],[]),(([],[]),([],(0:Int)))),((-1:Int),(false,()))),())) ((q56 n (((a.1.1,a.1.2),(a.2.1.1,a.2.1.2),a.2.2.1,a.2.2.2),())).bind fun r2=>(q93 n (((a.1.1,a.1.2),(a.2.1.1,a.2.1.2),a.2.2.1,a.2.2.2),())).bind fun r3=>cond (decide ((0:Int)≤r3.1.1)) (cond (decide (r3.1.1<(↑(List.length r2.1.1.2.2.1):Int))) (some ((((r2.1.1.1.1,r2.1.1.1.2),((r2.1.1.2.1.1,r2.1.1.2.1.2),(List.set r2.1.1.2.2.1 (Int.toNat r3.1.1) (true,[],List.replicate (Int.toNat (16:Int)) ((0:Int),(0:Int),false,false)),r2.1.1.2.2.2))),(r3.1.1,(true,()))),())) none) none))
theorem e28_top(n:Nat)(a:Mm):runF TT G28 an28 Try.f28 c28 ps28 rs28 n (a,())=zjb n a:=by kernel_rfl
noncomputable def p28(n:Nat)(a:Mm):Option R28:=zjb n a
noncomputable def q28(n:Nat)(x:argsD ps28):Option R28:=p28 n x.1
noncomputable def Sm28:Sm:=⟨ps28,rs28,false,q28⟩
theorem gam28:GamOK Try.prog G28:=by intro f s h;unfold G28 at h;split at h;exact gj h y53;exact gj h y56;exact gj h y93;cases h
theorem hh28:Hp 28 Sm28:=hOf (zac (an:=an28) (c:=c28) tt_ok gam28 mixed Try.func28 (by kernel_rfl) rfl (by decide +kernel)) fun n x=>(e28_top n x.1).trans rfl
theorem y28:Gk 28 Sm28:=⟨⟨Try.f28,c28,Try.func28,by kernel_rfl,by decide +kernel⟩,hh28⟩
abbrev ps48:List PK:=[.bx tRd,.val i64 false]
abbrev rs48:List RK:=[.val i64 false]
abbrev R48:=retsD rs48×outsD ps48
noncomputable def st48_top(n:Nat)(a:Li×Int)(b:Int):Option R48 :=
 cond (decide (b<(1:Int))) (some (((0:Int),()),((a.1,IntKind.i64.wrap (a.2+(1:Int))),()))) (cond (decide ((↑(List.length a.1):Int)=(0:Int))) (some (((0:Int),()),((a.1,IntKind.i64.wrap (a.2+(1:Int))),()))) (cond (decide (IntKind.i64.wrap (IntKind.i64.wrap (a.2+(1:Int)) - (1:Int))<(↑(List.length a.1):Int))) (cond (decide ((0:Int)≤IntKind.i64.wrap (IntKind.i64.wrap (a.2+(1:Int)) - (1:Int)))) (cond (decide (IntKind.i64.wrap (IntKind.i64.wrap (a.2+(1:Int)) - (1:Int))<(↑(List.length a.1):Int))) (cond (!decide (b=(0:Int))) (some (((IntKind.i64.wrap (List.getD a.1 (IntKind.i64.wrap (IntKind.i64.wrap (a.2+(1:Int)) - (1:Int))).toNat (0:Int))).tmod b,()),((a.1,IntKind.i64.wrap (a.2+(1:Int))),()))) none) none) none) (cond (!decide ((↑(List.length a.1):Int)=(0:Int))) (cond (decide ((0:Int)≤(IntKind.i64.wrap (IntKind.i64.wrap (a.2+(1:Int)) - (1:Int))).tmod (↑(List.length a.1):Int))) (cond (decide ((IntKind.i64.wrap (IntKind.i64.wrap (a.2+(1:Int)) - (1:Int))).tmod (↑(List.length a.1):Int)<(↑(List.length a.1):Int))) (cond (!decide ((↑(List.length a.1):Int)=(0:Int))) (cond (decide ((0:Int)≤(IntKind.i64.wrap (IntKind.i64.wrap (IntKind.i64.wrap (IntKind.i64.wrap (a.2+(1:Int)) - (1:Int))*(7:Int))+(3:Int))).tmod (↑(List.length a.1):Int))) (cond (decide ((IntKind.i64.wrap (IntKind.i64.wrap (IntKind.i64.wrap (IntKind.i64.wrap (a.2+(1:Int)) - (1:Int))*(7:Int))+(3:Int))).tmod (↑(List.length a.1):Int)<(↑(List.length a.1):Int))) (cond (!decide ((↑(List.length a.1):Int)=(0:Int))) (cond (!decide (b=(0:Int))) (some (((IntKind.i64.wrap (↑(BitVec.ofInt IntKind.i64.bits (IntKind.i64.wrap (IntKind.i64.wrap (IntKind.i64.wrap (IntKind.i64.wrap (IntKind.i64.wrap (List.getD a.1 ((IntKind.i64.wrap (IntKind.i64.wrap (a.2+(1:Int)) - (1:Int))).tmod (↑(List.length a.1):Int)).toNat (0:Int))*(131:Int))+IntKind.i64.wrap (IntKind.i64.wrap (List.getD a.1 ((IntKind.i64.wrap (IntKind.i64.wrap (IntKind.i64.wrap (IntKind.i64.wrap (a.2+(1:Int)) - (1:Int))*(7:Int))+(3:Int))).tmod (↑(List.length a.1):Int)).toNat (0:Int))*(1117:Int)))+IntKind.i64.wrap (IntKind.i64.wrap (IntKind.i64.wrap (a.2+(1:Int)) - (1:Int))*(29:Int)))+IntKind.i64.wrap (IntKind.i64.wrap ((IntKind.i64.wrap (IntKind.i64.wrap (a.2+(1:Int)) - (1:Int))).tdiv (↑(List.length a.1):Int))*(53:Int)))) ^^^ BitVec.ofInt IntKind.i64.bits (IntKind.i64.wrap ((IntKind.i64.wrap (IntKind.i64.wrap (IntKind.i64.wrap (IntKind.i64.wrap (IntKind.i64.wrap (List.getD a.1 ((IntKind.i64.wrap (IntKind.i64.wrap (a.2+(1:Int)) - (1:Int))).tmod (↑(List.length a.1):Int)).toNat (0:Int))*(131:Int))+IntKind.i64.wrap (IntKind.i64.wrap (List.getD a.1 ((IntKind.i64.wrap (IntKind.i64.wrap (IntKind.i64.wrap (IntKind.i64.wrap (a.2+(1:Int)) - (1:Int))*(7:Int))+(3:Int))).tmod (↑(List.length a.1):Int)).toNat (0:Int))*(1117:Int)))+IntKind.i64.wrap (IntKind.i64.wrap (IntKind.i64.wrap (a.2+(1:Int)) - (1:Int))*(29:Int)))+IntKind.i64.wrap (IntKind.i64.wrap ((IntKind.i64.wrap (IntKind.i64.wrap (a.2+(1:Int)) - (1:Int))).tdiv (↑(List.length a.1):Int))*(53:Int)))).tdiv (64:Int)))).toNat:Int)).tmod b,()),((a.1,IntKind.i64.wrap (a.2+(1:Int))),()))) none) none) none) none) none) none) none) none)))
noncomputable def p48(n:Nat)(a:Li×Int)(b:Int):Option R48:=st48_top n a b
noncomputable def q48(n:Nat)(x:argsD ps48):Option R48:=p48 n x.1 x.2.1
noncomputable def c54:Code:=(Try.f54.body.getD .skip)
def an54:An:=⟨fun _=>⟨[],[]⟩,fun _ _=>none⟩
abbrev ps54:List PK:=[.val tMem true,.val i64 false]
abbrev rs54:List RK:=[.val .bool false]
abbrev R54:=retsD rs54×outsD ps54
noncomputable def G54:Gam:=fun f=>match f with | 69=>some Sm69 | _=>none
noncomputable def zi2(n:Nat)(a:Mm)(b:Int):Option R54 :=
 (q69 n (b,(0:Int),IntKind.i64.wrap ((↑(List.length a.2.2.1):Int) - (1:Int)),())).bind fun r0=>cond r0.1.1 (cond (decide ((0:Int)≤b)) (cond (decide (b<(↑(List.length a.2.2.1):Int))) (some (((List.getD a.2.2.1 b.toNat (false,[],[])).1,()),())) none) none) (some ((false,()),()))
theorem e54_top(n:Nat)(a:Mm)(b:Int):runF TT G54 an54 Try.f54 c54 ps54 rs54 n (a,b,())=zi2 n a b:=by kernel_rfl
noncomputable def p54(n:Nat)(a:Mm)(b:Int):Option R54:=zi2 n a b
noncomputable def q54(n:Nat)(x:argsD ps54):Option R54:=p54 n x.1 x.2.1
noncomputable def Sm54:Sm:=⟨ps54,rs54,false,q54⟩
theorem gam54:GamOK Try.prog G54:=by intro f s h;unfold G54 at h;split at h;exact gj h y69;cases h
theorem hh54:Hp 54 Sm54:=hOf (zac (an:=an54) (c:=c54) tt_ok gam54 mixed Try.func54 (by kernel_rfl) rfl (by decide +kernel)) fun n x=>(e54_top n x.1 x.2.1).trans rfl
theorem y54:Gk 54 Sm54:=⟨⟨Try.f54,c54,Try.func54,by kernel_rfl,by decide +kernel⟩,hh54⟩
noncomputable def c160:Code:=(Try.f160.body.getD .skip)
def an160:An:=⟨fun _=>⟨[],[]⟩,fun _ _=>none⟩
abbrev ps160:List PK:=[.own tPg true,.val i64 false]
abbrev rs160:List RK:=[.own tPg true]
abbrev R160:=retsD rs160×outsD ps160
noncomputable def G160:Gam:=fun _=>none
noncomputable def zf0(n:Nat)(a:Lb×Li)(b:Int):Option R160 :=
 cond (decide ((0:Int)≤b)) (cond (decide (b<(↑(List.length a.2):Int))) (cond (decide ((0:Int)≤b)) (cond (decide (b<(↑(List.length a.2):Int))) (cond (decide ((0:Int)≤b)) (cond (decide (b<(↑(List.set a.2 b.toNat (IntKind.i64.wrap (List.getD a.2 b.toNat (0:Int) - (1:Int)))).length:Int))) (cond (decide ((List.set a.2 b.toNat (IntKind.i64.wrap (List.getD a.2 b.toNat (0:Int) - (1:Int)))).getD b.toNat (0:Int)=(0:Int))) (cond (decide ((0:Int)≤b)) (cond (decide (b<(↑(List.length a.1):Int))) (some (((List.set a.1 b.toNat (ByteArray.mk #[]),List.set a.2 b.toNat (IntKind.i64.wrap (List.getD a.2 b.toNat (0:Int) - (1:Int)))),()),())) none) none) (some (((a.1,List.set a.2 b.toNat (IntKind.i64.wrap (List.getD a.2 b.toNat (0:Int) - (1:Int)))),()),()))) none) none) none) none) none) none
theorem e160_top(n:Nat)(a:Lb×Li)(b:Int):runF TT G160 an160 Try.f160 c160 ps160 rs160 n (a,b,())=zf0 n a b:=by kernel_rfl
noncomputable def p160(n:Nat)(a:Lb×Li)(b:Int):Option R160:=zf0 n a b
noncomputable def q160(n:Nat)(x:argsD ps160):Option R160:=p160 n x.1 x.2.1
noncomputable def Sm160:Sm:=⟨ps160,rs160,false,q160⟩
theorem gam160:GamOK Try.prog G160:=fun _ _ h=>by cases h
theorem hh160:Hp 160 Sm160:=hOf (zac (an:=an160) (c:=c160) tt_ok gam160 mixed Try.func160 (by kernel_rfl) rfl (by decide +kernel)) fun n x=>(e160_top n x.1 x.2.1).trans rfl
theorem y160:Gk 160 Sm160:=⟨⟨Try.f160,c160,Try.func160,by kernel_rfl,by decide +kernel⟩,hh160⟩
noncomputable def c122:Code:=(Try.f122.body.getD .skip)
def an122:An:=⟨fun _=>⟨[],[]⟩,fun _ _=>none⟩
abbrev ps122:List PK:=[.own tMem true,.val i64 false,.val i64 false]
abbrev rs122:List RK:=[.own tMem true]
abbrev R122:=retsD rs122×outsD ps122
noncomputable def G122:Gam:=fun f=>match f with | 160=>some Sm160 | _=>none
noncomputable def zgc(n:Nat)(a:Mm)(b:Int)(c:Int):Option R122 :=
 cond (decide ((0:Int)≤b)) (cond (decide (b<(↑(List.length a.2.2.1):Int))) (cond (decide ((0:Int)≤c)) (cond (decide (c<(↑(List.length (List.getD a.2.2.1 b.toNat (false,[],[])).2.2):Int))) (cond (decide ((List.getD (List.getD a.2.2.1 b.toNat (false,[],[])).2.2 c.toNat ((0:Int),(0:Int),false,false)).1=(1:Int))) ((q160 n ((a.1.1,a.1.2),(List.getD (List.getD a.2.2.1 b.toNat (false,[],[])).2.2 c.toNat ((0:Int),(0:Int),false,false)).2.1,())).bind fun r0=>cond (decide ((0:Int)≤b)) (cond (decide (b<(↑(List.length a.2.2.1):Int))) (cond (decide ((0:Int)≤c)) (cond (decide (c<(↑(List.length (List.getD a.2.2.1 b.toNat (false,[],[])).2.2):Int))) (some ((((r0.1.1.1,r0.1.1.2),((a.2.1.1,a.2.1.2),(List.set a.2.2.1 b.toNat ((List.getD a.2.2.1 b.toNat (false,[],[])).1,(List.getD a.2.2.1 b.toNat (false,[],[])).2.1,List.set (List.getD a.2.2.1 b.toNat (false,[],[])).2.2 c.toNat ((0:Int),(0:Int),false,false)),a.2.2.2))),()),())) none) none) none) none) (cond (decide ((List.getD (List.getD a.2.2.1 b.toNat (false,[],[])).2.2 c.toNat ((0:Int),(0:Int),false,false)).1=(2:Int))) ((q160 n ((a.2.1.1,a.2.1.2),(List.getD (List.getD a.2.2.1 b.toNat (false,[],[])).2.2 c.toNat ((0:Int),(0:Int),false,false)).2.1,())).bind fun r1=>cond (decide ((0:Int)≤b)) (cond (decide (b<(↑(List.length a.2.2.1):Int))) (cond (decide ((0:Int)≤c)) (cond (decide (c<(↑(List.length (List.getD a.2.2.1 b.toNat (false,[],[])).2.2):Int))) (some ((((a.1.1,a.1.2),((r1.1.1.1,r1.1.1.2),(List.set a.2.2.1 b.toNat ((List.getD a.2.2.1 b.toNat (false,[],[])).1,(List.getD a.2.2.1 b.toNat (false,[],[])).2.1,List.set (List.getD a.2.2.1 b.toNat (false,[],[])).2.2 c.toNat ((0:Int),(0:Int),false,false)),a.2.2.2))),()),())) none) none) none) none) (cond (decide ((0:Int)≤b)) (cond (decide (b<(↑(List.length a.2.2.1):Int))) (cond (decide ((0:Int)≤c)) (cond (decide (c<(↑(List.length (List.getD a.2.2.1 b.toNat (false,[],[])).2.2):Int))) (some ((((a.1.1,a.1.2),((a.2.1.1,a.2.1.2),(List.set a.2.2.1 b.toNat ((List.getD a.2.2.1 b.toNat (false,[],[])).1,(List.getD a.2.2.1 b.toNat (false,[],[])).2.1,List.set (List.getD a.2.2.1 b.toNat (false,[],[])).2.2 c.toNat ((0:Int),(0:Int),false,false)),a.2.2.2))),()),())) none) none) none) none))) none) none) none) none
theorem e122_top(n:Nat)(a:Mm)(b:Int)(c:Int):runF TT G122 an122 Try.f122 c122 ps122 rs122 n (a,b,c,())=zgc n a b c:=by kernel_rfl
noncomputable def p122(n:Nat)(a:Mm)(b:Int)(c:Int):Option R122:=zgc n a b c
noncomputable def q122(n:Nat)(x:argsD ps122):Option R122:=p122 n x.1 x.2.1 x.2.2.1
noncomputable def Sm122:Sm:=⟨ps122,rs122,false,q122⟩
theorem gam122:GamOK Try.prog G122:=by intro f s h;unfold G122 at h;split at h;exact gj h y160;cases h
theorem hh122:Hp 122 Sm122:=hOf (zac (an:=an122) (c:=c122) tt_ok gam122 mixed Try.func122 (by kernel_rfl) rfl (by decide +kernel)) fun n x=>(e122_top n x.1 x.2.1 x.2.2.1).trans rfl
theorem y122:Gk 122 Sm122:=⟨⟨Try.f122,c122,Try.func122,by kernel_rfl,by decide +kernel⟩,hh122⟩
noncomputable def c103:Code:=(Try.f103.body.getD .skip)
def an103:An:=⟨fun r=>match r with | 2=>⟨[1,2,4,5],[]⟩ | _=>⟨[],[]⟩,fun _ _=>none⟩
abbrev ps103:List PK:=[.own tMem true,.val i64 false]
abbrev rs103:List RK:=[.own tMem true]
abbrev R103:=retsD rs103×outsD ps103
noncomputable def G103:Gam:=fun f=>match f with | 122=>some Sm122 | _=>none
noncomputable def at103:Nat→Pt→List Nat→St→Option R103:=atF TT G103 an103 Try.f103 c103 _ _
def zg_(x0 x1 x2 x3:Int)(x4:Lb)(x5:Li)(x6:Lb)(x7:Li)(x8:List (Br)):St:=(St.mk ([Uu,Ai x0,AV.one (SV.bptr 1000000 0),Uu,AV.one (SV.bptr 1000001 0),Ai x1]++Ur 14) [(1000000,(Ent.box [Sr 1000002,Sr 1000003,Sr 1000004,Sr 1000005,Sr 1000006,Si x2])),(1000001,(Ent.box [SV.nil,SV.nil,SV.nil,SV.nil,SV.nil,Si x3])),(1000002,Er ⟨9,Ty.str,x4⟩),(1000003,Er ⟨3,Ty.int .i64,x5⟩),(1000004,Er ⟨9,Ty.str,x6⟩),(1000005,Er ⟨3,Ty.int .i64,x7⟩),(1000006,Er ⟨71,ySp,x8⟩)])
noncomputable def st103_top(n:Nat)(lL2:Int→Int→Int→Int→Lb→Li→Lb→Li→(List (Br))→Option R103)(a:Mm)(b:Int):Option R103 :=
 lL2 b (0:Int) a.2.2.2 (0:Int) a.1.1 a.1.2 a.2.1.1 a.2.1.2 a.2.2.1
noncomputable def zec(n:Nat)(lL2:Int→Int→Int→Int→Lb→Li→Lb→Li→(List (Br))→Option R103)(x0 x1 x2 x3:Int)(x4:Lb)(x5:Li)(x6:Lb)(x7:Li)(x8:List (Br)):Option R103 :=
 cond (decide (x1<16)) ((q122 n (((x4,x5),(x6,x7),x8,x2),x0,x1,())).bind fun r1=>lL2 x0 (IntKind.i64.wrap (x1+1)) r1.1.1.2.2.2 x3 r1.1.1.1.1 r1.1.1.1.2 r1.1.1.2.1.1 r1.1.1.2.1.2 r1.1.1.2.2.1) (cond (decide (0≤x0)) (cond (decide (x0<(↑x8.length:Int))) (some ((((x4,x5),((x6,x7),(x8.set x0.toNat (false,[],[]),x2))),()),())) none) none)
theorem e103_top(n:Nat)(a:Mm)(b:Int):runF TT G103 an103 Try.f103 c103 ps103 rs103 n (a,b,())=st103_top n (fun x0 x1 x2 x3 x4 x5 x6 x7 x8=>at103 n (.head 2) [n] (zg_ x0 x1 x2 x3 x4 x5 x6 x7 x8)) a b:=by kernel_rfl
theorem e103_L2_0(n:Nat)(x0 x1 x2 x3:Int)(x4:Lb)(x5:Li)(x6:Lb)(x7:Li)(x8:List (Br)):at103 n (.head 2) [0] (zg_ x0 x1 x2 x3 x4 x5 x6 x7 x8)=none:=by kernel_rfl
theorem e103_L2(n:Nat)(m2:Nat)(x0 x1 x2 x3:Int)(x4:Lb)(x5:Li)(x6:Lb)(x7:Li)(x8:List (Br)):at103 n (.head 2) [m2+1] (zg_ x0 x1 x2 x3 x4 x5 x6 x7 x8)=zec n (fun x0 x1 x2 x3 x4 x5 x6 x7 x8=>at103 n (.head 2) [m2] (zg_ x0 x1 x2 x3 x4 x5 x6 x7 x8)) x0 x1 x2 x3 x4 x5 x6 x7 x8:=by kernel_rfl
noncomputable def p103_L2(n:Nat):Nat→Int→Int→Int→Int→Lb→Li→Lb→Li→(List (Br))→Option R103
 | 0,_,_,_,_,_,_,_,_,_=>none
 | m+1,x0,x1,x2,x3,x4,x5,x6,x7,x8=>zec n (p103_L2 n m) x0 x1 x2 x3 x4 x5 x6 x7 x8
noncomputable def p103(n:Nat)(a:Mm)(b:Int):Option R103:=st103_top n (p103_L2 n n) a b
theorem t103_L2(n:Nat):∀ (m2:Nat) (x0 x1 x2 x3:Int) (x4:Lb) (x5:Li) (x6:Lb) (x7:Li) (x8:List (Br)),at103 n (.head 2) [m2] (zg_ x0 x1 x2 x3 x4 x5 x6 x7 x8)=p103_L2 n m2 x0 x1 x2 x3 x4 x5 x6 x7 x8:=by
 intro m
 induction m with
 | zero=>intros;rw[e103_L2_0];rfl
 | succ m ih =>
  intros
  rw[e103_L2]
  try simp only[ih]
  rfl
noncomputable def q103(n:Nat)(x:argsD ps103):Option R103:=p103 n x.1 x.2.1
noncomputable def Sm103:Sm:=⟨ps103,rs103,false,q103⟩
theorem gam103:GamOK Try.prog G103:=by intro f s h;unfold G103 at h;split at h;exact gj h y122;cases h
theorem hh103:Hp 103 Sm103:=hOf (zac (an:=an103) (c:=c103) tt_ok gam103 mixed Try.func103 (by kernel_rfl) rfl (by decide +kernel)) fun n x=>(e103_top n x.1 x.2.1).trans (by simp only[t103_L2];try rfl)
theorem y103:Gk 103 Sm103:=⟨⟨Try.f103,c103,Try.func103,by kernel_rfl,by decide +kernel⟩,hh103⟩
noncomputable def c59:Code:=(Try.f59.body.getD .skip)
def an59:An:=⟨fun _=>⟨[],[]⟩,fun _ _=>none⟩
abbrev ps59:List PK:=[.val i64 false,.val i64 false,.val i64 false]
abbrev rs59:List RK:=[.val .bool false]
abbrev R59:=retsD rs59×outsD ps59
noncomputable def G59:Gam:=fun _=>none
noncomputable def zi0(n:Nat)(a:Int)(b:Int)(c:Int):Option R59 :=
 cond (decide (b≤a)) (some ((decide (a≤c),()),())) (some ((false,()),()))
theorem e59_top(n:Nat)(a:Int)(b:Int)(c:Int):runF TT G59 an59 Try.f59 c59 ps59 rs59 n (a,b,c,())=zi0 n a b c:=by kernel_rfl
noncomputable def p59(n:Nat)(a:Int)(b:Int)(c:Int):Option R59:=zi0 n a b c
noncomputable def q59(n:Nat)(x:argsD ps59):Option R59:=p59 n x.1 x.2.1 x.2.2.1
noncomputable def Sm59:Sm:=⟨ps59,rs59,false,q59⟩
theorem gam59:GamOK Try.prog G59:=fun _ _ h=>by cases h
theorem hh59:Hp 59 Sm59:=hOf (zac (an:=an59) (c:=c59) tt_ok gam59 mixed Try.func59 (by kernel_rfl) rfl (by decide +kernel)) fun n x=>(e59_top n x.1 x.2.1 x.2.2.1).trans rfl
theorem y59:Gk 59 Sm59:=⟨⟨Try.f59,c59,Try.func59,by kernel_rfl,by decide +kernel⟩,hh59⟩
noncomputable def c114:Code:=(Try.f114.body.getD .skip)
def an114:An:=⟨fun _=>⟨[],[]⟩,fun _ _=>none⟩
abbrev ps114:List PK:=[.val tAr true]
abbrev rs114:List RK:=[.val .bool false]
abbrev R114:=retsD rs114×outsD ps114
noncomputable def G114:Gam:=fun f=>match f with | 59=>some Sm59 | _=>none
noncomputable def zgd(n:Nat)(a:Aq):Option R114 :=
 (q59 n (a.1,(0:Int),(15:Int),())).bind fun r0=>cond r0.1.1 ((q59 n (a.2.1,(1:Int),IntKind.i64.wrap ((16:Int) - a.1),())).bind fun r1=>some ((r1.1.1,()),())) (some ((false,()),()))
theorem e114_top(n:Nat)(a:Aq):runF TT G114 an114 Try.f114 c114 ps114 rs114 n (a,())=zgd n a:=by kernel_rfl
noncomputable def p114(n:Nat)(a:Aq):Option R114:=zgd n a
noncomputable def q114(n:Nat)(x:argsD ps114):Option R114:=p114 n x.1
noncomputable def Sm114:Sm:=⟨ps114,rs114,false,q114⟩
theorem gam114:GamOK Try.prog G114:=by intro f s h;unfold G114 at h;split at h;exact gj h y59;cases h
theorem hh114:Hp 114 Sm114:=hOf (zac (an:=an114) (c:=c114) tt_ok gam114 mixed Try.func114 (by kernel_rfl) rfl (by decide +kernel)) fun n x=>(e114_top n x.1).trans rfl
theorem y114:Gk 114 Sm114:=⟨⟨Try.f114,c114,Try.func114,by kernel_rfl,by decide +kernel⟩,hh114⟩
noncomputable def c115:Code:=(Try.f115.body.getD .skip)
def an115:An:=⟨fun _=>⟨[],[]⟩,fun _ _=>none⟩
abbrev ps115:List PK:=[.val tAr true]
abbrev rs115:List RK:=[.val i64 false]
abbrev R115:=retsD rs115×outsD ps115
noncomputable def G115:Gam:=fun _=>none
noncomputable def st115_top(n:Nat)(a:Aq):Option R115 :=
 some ((IntKind.i64.wrap (a.1+a.2.1),()),())
theorem e115_top(n:Nat)(a:Aq):runF TT G115 an115 Try.f115 c115 ps115 rs115 n (a,())=st115_top n a:=by kernel_rfl
noncomputable def p115(n:Nat)(a:Aq):Option R115:=st115_top n a
noncomputable def q115(n:Nat)(x:argsD ps115):Option R115:=p115 n x.1
noncomputable def Sm115:Sm:=⟨ps115,rs115,false,q115⟩
theorem gam115:GamOK Try.prog G115:=fun _ _ h=>by cases h
theorem hh115:Hp 115 Sm115:=hOf (zac (an:=an115) (c:=c115) tt_ok gam115 mixed Try.func115 (by kernel_rfl) rfl (by decide +kernel)) fun n x=>(e115_top n x.1).trans rfl
theorem y115:Gk 115 Sm115:=⟨⟨Try.f115,c115,Try.func115,by kernel_rfl,by decide +kernel⟩,hh115⟩
noncomputable def c63:Code:=(Try.f63.body.getD .skip)
def an63:An:=⟨fun r=>match r with | 2=>⟨[0,5,6,7],[]⟩ | _=>⟨[],[]⟩,fun _ _=>none⟩
abbrev ps63:List PK:=[.val (.row 116 tAr) false]
abbrev rs63:List RK:=[.val .bool false]
abbrev R63:=retsD rs63×outsD ps63
noncomputable def G63:Gam:=fun f=>match f with | 114=>some Sm114 | 115=>some Sm115 | _=>none
noncomputable def at63:Nat→Pt→List Nat→St→Option R63:=atF TT G63 an63 Try.f63 c63 _ _
def zj3(x0 x1:Lq)(x2 x3:Int):St:=(St.mk ([AV.one (SV.con (⟨116,yAq,x0⟩:Rw)),Uu,Uu,Uu,Uu,AV.one (SV.con (⟨116,yAq,x1⟩:Rw)),Ai x2,Ai x3]++Ur 26) [])
noncomputable def st63_top(n:Nat)(lL2:Lq→Lq→Int→Int→Option R63)(a:Lq):Option R63 :=
 lL2 a a ((↑a.length:Int)) (0:Int)
noncomputable def st63_L2(n:Nat)(lL2:Lq→Lq→Int→Int→Option R63)(x0 x1:Lq)(x2 x3:Int):Option R63 :=
 cond (decide (x3<x2)) (cond (decide (0≤x3)) (cond (decide (x3<(↑x1.length:Int))) ((q114 n (((x1.getD x3.toNat ((0:Int),(0:Int),false,false)).1,(x1.getD x3.toNat ((0:Int),(0:Int),false,false)).2.1,(x1.getD x3.toNat ((0:Int),(0:Int),false,false)).2.2.1,(x1.getD x3.toNat ((0:Int),(0:Int),false,false)).2.2.2),())).bind fun r1=>cond (!r1.1.1) (some ((false,()),())) (cond (decide (0<x3)) (cond (decide ((0:Int)≤IntKind.i64.wrap (x3 - 1))) (cond (decide (IntKind.i64.wrap (x3 - 1)<(↑x0.length:Int))) ((q115 n (((x0.getD (IntKind.i64.wrap (x3 - 1)).toNat ((0:Int),(0:Int),false,false)).1,(x0.getD (IntKind.i64.wrap (x3 - 1)).toNat ((0:Int),(0:Int),false,false)).2.1,(x0.getD (IntKind.i64.wrap (x3 - 1)).toNat ((0:Int),(0:Int),false,false)).2.2.1,(x0.getD (IntKind.i64.wrap (x3 - 1)).toNat ((0:Int),(0:Int),false,false)).2.2.2),())).bind fun r2=>cond (decide ((x1.getD x3.toNat ((0:Int),(0:Int),false,false)).1<r2.1.1)) (some ((false,()),())) (lL2 x0 x1 x2 (IntKind.i64.wrap (x3+1)))) none) none) (lL2 x0 x1 x2 (IntKind.i64.wrap (x3+1))))) none) none) (some ((decide ((↑x0.length:Int)≤(6:Int)),()),()))
theorem e63_top(n:Nat)(a:Lq):runF TT G63 an63 Try.f63 c63 ps63 rs63 n (a,())=st63_top n (fun x0 x1 x2 x3=>at63 n (.head 2) [n] (zj3 x0 x1 x2 x3)) a:=by kernel_rfl
theorem e63_L2_0(n:Nat)(x0 x1:Lq)(x2 x3:Int):at63 n (.head 2) [0] (zj3 x0 x1 x2 x3)=none:=by kernel_rfl
theorem e63_L2(n:Nat)(m2:Nat)(x0 x1:Lq)(x2 x3:Int):at63 n (.head 2) [m2+1] (zj3 x0 x1 x2 x3)=st63_L2 n (fun x0 x1 x2 x3=>at63 n (.head 2) [m2] (zj3 x0 x1 x2 x3)) x0 x1 x2 x3:=by kernel_rfl
noncomputable def p63_L2(n:Nat):Nat→Lq→Lq→Int→Int→Option R63
 | 0,_,_,_,_=>none
 | m+1,x0,x1,x2,x3=>st63_L2 n (p63_L2 n m) x0 x1 x2 x3
noncomputable def p63(n:Nat)(a:Lq):Option R63:=st63_top n (p63_L2 n n) a
theorem t63_L2(n:Nat):∀ (m2:Nat) (x0 x1:Lq) (x2 x3:Int),at63 n (.head 2) [m2] (zj3 x0 x1 x2 x3)=p63_L2 n m2 x0 x1 x2 x3:=by
 intro m
 induction m with
 | zero=>intros;rw[e63_L2_0];rfl
 | succ m ih =>
  intros
  rw[e63_L2]
  try simp only[ih]
  rfl
noncomputable def q63(n:Nat)(x:argsD ps63):Option R63:=p63 n x.1
noncomputable def Sm63:Sm:=⟨ps63,rs63,false,q63⟩
theorem gam63:GamOK Try.prog G63:=by intro f s h;unfold G63 at h;split at h;exact gj h y114;exact gj h y115;cases h
theorem hh63:Hp 63 Sm63:=hOf (zac (an:=an63) (c:=c63) tt_ok gam63 mixed Try.func63 (by kernel_rfl) rfl (by decide +kernel)) fun n x=>(e63_top n x.1).trans (by simp only[t63_L2];try rfl)
theorem y63:Gk 63 Sm63:=⟨⟨Try.f63,c63,Try.func63,by kernel_rfl,by decide +kernel⟩,hh63⟩
noncomputable def c87:Code:=(Try.f87.body.getD .skip)
abbrev ps87:List PK:=[.val (.row 116 tAr) false]
abbrev rs87:List RK:=[.own (.row 116 tAr) false]
abbrev R87:=retsD rs87×outsD ps87
noncomputable def p87(n:Nat)(a:Lq):Option R87:=cond (decide ((0+a.length)*(24:Nat)≤(140737488355328:Nat))) (some ((a,()),())) none
noncomputable def q87(n:Nat)(x:argsD ps87):Option R87:=p87 n x.1
noncomputable def Sm87:Sm:=⟨ps87,rs87,false,q87⟩
noncomputable def S0_87(n:Nat)(xs:Lq):St:=(initS Try.f87.ntmps ps87 (xs,())).put (some 2) (.one .nil)
noncomputable def S1_87(n:Nat)(xs:Lq):St:=(S0_87 n xs).put (some 3) (.one (.con ⟨116,tAr,xs⟩))
theorem gam0_87:GamOK Try.prog (fun _=>none):=fun f s h=>by cases h
theorem hh87:Holds Try.prog 87 Sm87:=by
 refine holds_nilq tt_ok gam0_87 mixed (an:=⟨fun _=>⟨[],[]⟩,fun _ _=>none⟩) Try.func87 (by rfl) rfl (by first | exact Try.underlying68 | kernel_rfl) (by decide +kernel) S0_87 (fun n xs=>by kernel_rfl) S1_87 (fun n xs=>by kernel_rfl) (fun n xs=>rfl) (fun n xs b=>by kernel_rfl) (fun n y h=>?_) (fun n xs y h=>?_)
 ·have h':some (([],()),())=some y:=h
  refine Eq.trans ?_ h'
  kernel_rfl
 ·have h':cond (decide ((0+xs.length)*(24:Nat)≤(140737488355328:Nat))) (some ((xs,()),())) none=some y:=h
  refine Eq.trans ?_ h'
  kernel_rfl
theorem y87:Gk 87 Sm87:=⟨⟨Try.f87,c87,Try.func87,by kernel_rfl,by decide +kernel⟩,hh87⟩
noncomputable def c125:Code:=(Try.f125.body.getD .skip)
def an125:An:=⟨fun _=>⟨[],[]⟩,fun _ _=>none⟩
abbrev ps125:List PK:=[.val tAr true,.cp i64]
abbrev rs125:List RK:=[.val .bool false]
abbrev R125:=retsD rs125×outsD ps125
noncomputable def G125:Gam:=fun f=>match f with | 115=>some Sm115 | _=>none
noncomputable def zga(n:Nat)(a:Aq)(b:Int):Option R125 :=
 cond (decide (a.1≤[b].getD (0:Nat) (0:Int))) ((q115 n ((a.1,a.2.1,a.2.2.1,a.2.2.2),())).bind fun r0=>some ((decide ([b].getD (0:Nat) (0:Int)<r0.1.1),()),())) (some ((false,()),()))
theorem e125_top(n:Nat)(a:Aq)(b:Int):runF TT G125 an125 Try.f125 c125 ps125 rs125 n (a,b,())=zga n a b:=by kernel_rfl
noncomputable def p125(n:Nat)(a:Aq)(b:Int):Option R125:=zga n a b
noncomputable def q125(n:Nat)(x:argsD ps125):Option R125:=p125 n x.1 x.2.1
noncomputable def Sm125:Sm:=⟨ps125,rs125,false,q125⟩
theorem gam125:GamOK Try.prog G125:=by intro f s h;unfold G125 at h;split at h;exact gj h y115;cases h
theorem hh125:Hp 125 Sm125:=hOf (zac (an:=an125) (c:=c125) tt_ok gam125 mixed Try.func125 (by kernel_rfl) rfl (by decide +kernel)) fun n x=>(e125_top n x.1 x.2.1).trans rfl
theorem y125:Gk 125 Sm125:=⟨⟨Try.f125,c125,Try.func125,by kernel_rfl,by decide +kernel⟩,hh125⟩
noncomputable def c124:Code:=(Try.f124.body.getD .skip)
def an124:An:=⟨fun r=>match r with | 2=>⟨[0,1,7,8],[]⟩ | _=>⟨[],[]⟩,fun _ _=>none⟩
abbrev ps124:List PK:=[.val (.row 116 tAr) false,.fn 125 [i64]]
abbrev rs124:List RK:=[.val i64 false]
abbrev R124:=retsD rs124×outsD ps124
noncomputable def G124:Gam:=fun f=>match f with | 125=>some Sm125 | _=>none
noncomputable def at124:Nat→Pt→List Nat→St→Option R124:=atF TT G124 an124 Try.f124 c124 _ _
def zg5(x0:Lq)(x1 x2 x3:Int):St:=(St.mk ([AV.one (SV.con (⟨116,yAq,x0⟩:Rw)),AV.fn 125 [SV.cptr (⟨0,Ty.int .i64,[x1]⟩:Rw) 0 0],Uu,Uu,Uu,Uu,Uu,Ai x2,Ai x3]++Ur 10) [])
noncomputable def st124_top(n:Nat)(lL2:Lq→Int→Int→Int→Option R124)(a:Lq)(b:Int×Unit):Option R124 :=
 lL2 a b.1 ((↑a.length:Int)) (0:Int)
noncomputable def zd_(n:Nat)(lL2:Lq→Int→Int→Int→Option R124)(x0:Lq)(x1 x2 x3:Int):Option R124 :=
 cond (decide (x3<x2)) (cond (decide (0≤x3)) (cond (decide (x3<(↑x0.length:Int))) ((q125 n (((x0.getD x3.toNat ((0:Int),(0:Int),false,false)).1,(x0.getD x3.toNat ((0:Int),(0:Int),false,false)).2.1,(x0.getD x3.toNat ((0:Int),(0:Int),false,false)).2.2.1,(x0.getD x3.toNat ((0:Int),(0:Int),false,false)).2.2.2),x1,())).bind fun r1=>cond r1.1.1 (some ((x3,()),())) (lL2 x0 x1 x2 (IntKind.i64.wrap (x3+1)))) none) none) (some (((-1:Int),()),()))
theorem e124_top(n:Nat)(a:Lq)(b:Int×Unit):runF TT G124 an124 Try.f124 c124 ps124 rs124 n (a,b,())=st124_top n (fun x0 x1 x2 x3=>at124 n (.head 2) [n] (zg5 x0 x1 x2 x3)) a b:=by kernel_rfl
theorem e124_L2_0(n:Nat)(x0:Lq)(x1 x2 x3:Int):at124 n (.head 2) [0] (zg5 x0 x1 x2 x3)=none:=by kernel_rfl
theorem e124_L2(n:Nat)(m2:Nat)(x0:Lq)(x1 x2 x3:Int):at124 n (.head 2) [m2+1] (zg5 x0 x1 x2 x3)=zd_ n (fun x0 x1 x2 x3=>at124 n (.head 2) [m2] (zg5 x0 x1 x2 x3)) x0 x1 x2 x3:=by kernel_rfl
noncomputable def p124_L2(n:Nat):Nat→Lq→Int→Int→Int→Option R124
 | 0,_,_,_,_=>none
 | m+1,x0,x1,x2,x3=>zd_ n (p124_L2 n m) x0 x1 x2 x3
noncomputable def p124(n:Nat)(a:Lq)(b:Int×Unit):Option R124:=st124_top n (p124_L2 n n) a b
theorem t124_L2(n:Nat):∀ (m2:Nat) (x0:Lq) (x1 x2 x3:Int),at124 n (.head 2) [m2] (zg5 x0 x1 x2 x3)=p124_L2 n m2 x0 x1 x2 x3:=by
 intro m
 induction m with
 | zero=>intros;rw[e124_L2_0];rfl
 | succ m ih =>
  intros
  rw[e124_L2]
  try simp only[ih]
  rfl
noncomputable def q124(n:Nat)(x:argsD ps124):Option R124:=p124 n x.1 x.2.1
noncomputable def Sm124:Sm:=⟨ps124,rs124,false,q124⟩
theorem gam124:GamOK Try.prog G124:=by intro f s h;unfold G124 at h;split at h;exact gj h y125;cases h
theorem hh124:Hp 124 Sm124:=hOf (zac (an:=an124) (c:=c124) tt_ok gam124 mixed Try.func124 (by kernel_rfl) rfl (by decide +kernel)) fun n x=>(e124_top n x.1 x.2.1).trans (by simp only[t124_L2];try rfl)
theorem y124:Gk 124 Sm124:=⟨⟨Try.f124,c124,Try.func124,by kernel_rfl,by decide +kernel⟩,hh124⟩
noncomputable def c60:Code:=(Try.f60.body.getD .skip)
def an60:An:=⟨fun _=>⟨[],[]⟩,fun _ _=>none⟩
abbrev ps60:List PK:=[.val (.row 116 tAr) false,.val i64 false]
abbrev rs60:List RK:=[.val i64 false]
abbrev R60:=retsD rs60×outsD ps60
noncomputable def G60:Gam:=fun f=>match f with | 63=>some Sm63 | 124=>some Sm124 | _=>none
noncomputable def ziz(n:Nat)(a:Lq)(b:Int):Option R60 :=
 (q63 n (a,())).bind fun r0=>cond (!r0.1.1) (some (((-1:Int),()),())) ((q124 n (a,(b,()),())).bind fun r1=>some ((r1.1.1,()),()))
theorem e60_top(n:Nat)(a:Lq)(b:Int):runF TT G60 an60 Try.f60 c60 ps60 rs60 n (a,b,())=ziz n a b:=by kernel_rfl
noncomputable def p60(n:Nat)(a:Lq)(b:Int):Option R60:=ziz n a b
noncomputable def q60(n:Nat)(x:argsD ps60):Option R60:=p60 n x.1 x.2.1
noncomputable def Sm60:Sm:=⟨ps60,rs60,false,q60⟩
theorem gam60:GamOK Try.prog G60:=by intro f s h;unfold G60 at h;split at h;exact gj h y63;exact gj h y124;cases h
theorem hh60:Hp 60 Sm60:=hOf (zac (an:=an60) (c:=c60) tt_ok gam60 mixed Try.func60 (by kernel_rfl) rfl (by decide +kernel)) fun n x=>(e60_top n x.1 x.2.1).trans rfl
theorem y60:Gk 60 Sm60:=⟨⟨Try.f60,c60,Try.func60,by kernel_rfl,by decide +kernel⟩,hh60⟩
noncomputable def c62:Code:=(Try.f62.body.getD .skip)
def an62:An:=⟨fun r=>match r with | 4=>⟨[1,21,22,23],[]⟩ | _=>⟨[],[]⟩,fun _ _=>none⟩
abbrev ps62:List PK:=[.val tPg true]
abbrev rs62:List RK:=[.val .bool false]
abbrev R62:=retsD rs62×outsD ps62
noncomputable def G62:Gam:=fun f=>match f with | 59=>some Sm59 | _=>none
noncomputable def at62:Nat→Pt→List Nat→St→Option R62:=atF TT G62 an62 Try.f62 c62 _ _
def zj4(x0:Li)(x1 x2:Int)(x3:Lb)(x4:Li):St:=(St.mk ([Uu,AV.one (SV.bptr 1000000 0),Uu,Uu,Uu,Uu,Uu,Uu,Uu,Uu,Uu,Uu,Uu,Uu,Uu,Uu,Uu,Uu,Uu,Uu,Uu,AV.one (SV.con (⟨3,Ty.int .i64,x0⟩:Rw)),Ai x1,Ai x2]++Ur 20) [(1000000,(Ent.box [SV.con (⟨9,Ty.str,x3⟩:Rw),SV.con (⟨3,Ty.int .i64,x4⟩:Rw)]))])
noncomputable def ziy(n:Nat)(lL4:Li→Int→Int→Lb→Li→Option R62)(a:Lb×Li):Option R62 :=
 cond (!decide ((↑(List.length a.1):Int)=(↑(List.length a.2):Int))) (some ((false,()),())) ((q59 n ((↑(List.length a.1):Int),(1:Int),(12:Int),())).bind fun r0=>cond (!r0.1.1) (some ((false,()),())) (lL4 a.2 ((↑(List.length a.2):Int)) (0:Int) a.1 a.2))
noncomputable def zjx(n:Nat)(lL4:Li→Int→Int→Lb→Li→Option R62)(x0:Li)(x1 x2:Int)(x3:Lb)(x4:Li):Option R62 :=
 cond (decide (x2<x1)) (cond (decide (0≤x2)) (cond (decide (x2<(↑x0.length:Int))) (cond (decide (x0.getD x2.toNat (0:Int)=(0:Int))) ((q59 n (x0.getD x2.toNat (0:Int),(0:Int),(99:Int),())).bind fun r2=>cond (!r2.1.1) (some ((false,()),())) (cond (decide (0≤x2)) (cond (decide (x2<(↑x3.length:Int))) (cond (!decide ((↑(ByteArray.size (x3.getD x2.toNat ByteArray.empty)):Int)=(0:Int))) (some ((false,()),())) (lL4 x0 x1 (IntKind.i64.wrap (x2+1)) x3 x4)) none) none)) ((q59 n (x0.getD x2.toNat (0:Int),(0:Int),(99:Int),())).bind fun r3=>cond (!r3.1.1) (some ((false,()),())) (cond (decide (0≤x2)) (cond (decide (x2<(↑x3.length:Int))) (cond (!decide ((↑(ByteArray.size (x3.getD x2.toNat ByteArray.empty)):Int)=(4:Int))) (some ((false,()),())) (lL4 x0 x1 (IntKind.i64.wrap (x2+1)) x3 x4)) none) none))) none) none) (some ((true,()),()))
theorem e62_top(n:Nat)(a:Lb×Li):runF TT G62 an62 Try.f62 c62 ps62 rs62 n (a,())=ziy n (fun x0 x1 x2 x3 x4=>at62 n (.head 4) [n] (zj4 x0 x1 x2 x3 x4)) a:=by kernel_rfl
theorem e62_L4_0(n:Nat)(x0:Li)(x1 x2:Int)(x3:Lb)(x4:Li):at62 n (.head 4) [0] (zj4 x0 x1 x2 x3 x4)=none:=by kernel_rfl
theorem e62_L4(n:Nat)(m4:Nat)(x0:Li)(x1 x2:Int)(x3:Lb)(x4:Li):at62 n (.head 4) [m4+1] (zj4 x0 x1 x2 x3 x4)=zjx n (fun x0 x1 x2 x3 x4=>at62 n (.head 4) [m4] (zj4 x0 x1 x2 x3 x4)) x0 x1 x2 x3 x4:=by kernel_rfl
noncomputable def p62_L4(n:Nat):Nat→Li→Int→Int→Lb→Li→Option R62
 | 0,_,_,_,_,_=>none
 | m+1,x0,x1,x2,x3,x4=>zjx n (p62_L4 n m) x0 x1 x2 x3 x4
noncomputable def p62(n:Nat)(a:Lb×Li):Option R62:=ziy n (p62_L4 n n) a
theorem t62_L4(n:Nat):∀ (m4:Nat) (x0:Li) (x1 x2:Int) (x3:Lb) (x4:Li),at62 n (.head 4) [m4] (zj4 x0 x1 x2 x3 x4)=p62_L4 n m4 x0 x1 x2 x3 x4:=by
 intro m
 induction m with
 | zero=>intros;rw[e62_L4_0];rfl
 | succ m ih =>
  intros
  rw[e62_L4]
  try simp only[ih]
  rfl
noncomputable def q62(n:Nat)(x:argsD ps62):Option R62:=p62 n x.1
noncomputable def Sm62:Sm:=⟨ps62,rs62,false,q62⟩
theorem gam62:GamOK Try.prog G62:=by intro f s h;unfold G62 at h;split at h;exact gj h y59;cases h
theorem hh62:Hp 62 Sm62:=hOf (zac (an:=an62) (c:=c62) tt_ok gam62 mixed Try.func62 (by kernel_rfl) rfl (by decide +kernel)) fun n x=>(e62_top n x.1).trans (by simp only[t62_L4];try rfl)
theorem y62:Gk 62 Sm62:=⟨⟨Try.f62,c62,Try.func62,by kernel_rfl,by decide +kernel⟩,hh62⟩
noncomputable def c64:Code:=(Try.f64.body.getD .skip)
def an64:An:=⟨fun _=>⟨[],[]⟩,fun _ _=>none⟩
abbrev ps64:List PK:=[.val tPg true,.val i64 false]
abbrev rs64:List RK:=[.val .bool false]
abbrev R64:=retsD rs64×outsD ps64
noncomputable def G64:Gam:=fun f=>match f with | 59=>some Sm59 | _=>none
noncomputable def zix(n:Nat)(a:Lb×Li)(b:Int):Option R64 :=
 (q59 n (b,(0:Int),IntKind.i64.wrap ((↑(List.length a.2):Int) - (1:Int)),())).bind fun r0=>cond r0.1.1 (cond (decide ((0:Int)≤b)) (cond (decide (b<(↑(List.length a.2):Int))) (some ((decide ((0:Int)<List.getD a.2 b.toNat (0:Int)),()),())) none) none) (some ((false,()),()))
theorem e64_top(n:Nat)(a:Lb×Li)(b:Int):runF TT G64 an64 Try.f64 c64 ps64 rs64 n (a,b,())=zix n a b:=by kernel_rfl
noncomputable def p64(n:Nat)(a:Lb×Li)(b:Int):Option R64:=zix n a b
noncomputable def q64(n:Nat)(x:argsD ps64):Option R64:=p64 n x.1 x.2.1
noncomputable def Sm64:Sm:=⟨ps64,rs64,false,q64⟩
theorem gam64:GamOK Try.prog G64:=by intro f s h;unfold G64 at h;split at h;exact gj h y59;cases h
theorem hh64:Hp 64 Sm64:=hOf (zac (an:=an64) (c:=c64) tt_ok gam64 mixed Try.func64 (by kernel_rfl) rfl (by decide +kernel)) fun n x=>(e64_top n x.1 x.2.1).trans rfl
theorem y64:Gk 64 Sm64:=⟨⟨Try.f64,c64,Try.func64,by kernel_rfl,by decide +kernel⟩,hh64⟩
noncomputable def c65:Code:=(Try.f65.body.getD .skip)
def an65:An:=⟨fun _=>⟨[],[]⟩,fun _ _=>none⟩
abbrev ps65:List PK:=[.val (tSp 116 80) true,.val i64 false]
abbrev rs65:List RK:=[.val .bool false]
abbrev R65:=retsD rs65×outsD ps65
noncomputable def G65:Gam:=fun f=>match f with | 60=>some Sm60 | _=>none
noncomputable def ziw(n:Nat)(a:Br)(b:Int):Option R65 :=
 (q60 n (a.2.1,b,())).bind fun r0=>cond (decide ((0:Int)≤r0.1.1)) (cond (decide ((0:Int)≤r0.1.1)) (cond (decide (r0.1.1<(↑(List.length a.2.1):Int))) (some (((List.getD a.2.1 (Int.toNat r0.1.1) ((0:Int),(0:Int),false,false)).2.2.2,()),())) none) none) (some ((false,()),()))
theorem e65_top(n:Nat)(a:Br)(b:Int):runF TT G65 an65 Try.f65 c65 ps65 rs65 n (a,b,())=ziw n a b:=by kernel_rfl
noncomputable def p65(n:Nat)(a:Br)(b:Int):Option R65:=ziw n a b
noncomputable def q65(n:Nat)(x:argsD ps65):Option R65:=p65 n x.1 x.2.1
noncomputable def Sm65:Sm:=⟨ps65,rs65,false,q65⟩
theorem gam65:GamOK Try.prog G65:=by intro f s h;unfold G65 at h;split at h;exact gj h y60;cases h
theorem hh65:Hp 65 Sm65:=hOf (zac (an:=an65) (c:=c65) tt_ok gam65 mixed Try.func65 (by kernel_rfl) rfl (by decide +kernel)) fun n x=>(e65_top n x.1 x.2.1).trans rfl
theorem y65:Gk 65 Sm65:=⟨⟨Try.f65,c65,Try.func65,by kernel_rfl,by decide +kernel⟩,hh65⟩
noncomputable def c17:Code:=(Try.f17.body.getD .skip)
def an17:An:=⟨fun r=>match r with | 5=>⟨[1,3,56,57,58],[]⟩ | 13=>⟨[1,3,5,56,57,58,86,87,88],[]⟩ | 29=>⟨[3,169],[]⟩ | 32=>⟨[3,9,169,176,177,178],[]⟩ | 38=>⟨[3,9,13,169,176,177,178,192,193,194],[]⟩ | 41=>⟨[3,9,13,14,15,169,176,177,178,192,193,194,199,200,201],[]⟩ | _=>⟨[],[]⟩,fun _ _=>none⟩
abbrev ps17:List PK:=[.val tMem true]
abbrev rs17:List RK:=[.val .bool false]
abbrev R17:=retsD rs17×outsD ps17
noncomputable def G17:Gam:=fun f=>match f with | 59=>some Sm59 | 60=>some Sm60 | 62=>some Sm62 | 63=>some Sm63 | 64=>some Sm64 | 65=>some Sm65 | _=>none
noncomputable def at17:Nat→Pt→List Nat→St→Option R17:=atF TT G17 an17 Try.f17 c17 _ _
def zgk(x0:List (Br))(x1 x2:Int)(x3:Lq)(x4 x5:Int)(x6:Lb)(x7:Li)(x8:Lb)(x9:Li)(x10:List (Br))(x11:Int)(x12:List ((Int×Int)×Option (List (Bool×Bool))))(x13:Bool)(x14 x15:Lq):St:=(St.mk ([Uu,AV.one (SV.bptr 1000000 0),Uu,AV.one (SV.mapr 1000001),Uu,AV.one (SV.bptr 1000002 0),Uu,Uu,Uu,Uu,Uu,Uu,Uu,Uu,Uu,Uu,Uu,Uu,Uu,Uu,Uu,Uu,Uu,Uu,Uu,Uu,Uu,Uu,Uu,Uu,Uu,Uu,Uu,Uu,Uu,Uu,Uu,Uu,Uu,Uu,Uu,Uu,Uu,Uu,Uu,Uu,Uu,Uu,Uu,Uu,Uu,Uu,Uu,Uu,Uu,Uu,AV.one (SV.con (⟨71,ySp,x0⟩:Rw)),Ai x1,Ai x2,Uu,Uu,Uu,Uu,Uu,Uu,Uu,Uu,Uu,Uu,Uu,Uu,Uu,Uu,Uu,Uu,Uu,Uu,Uu,Uu,Uu,Uu,Uu,Uu,Uu,Uu,Uu,AV.one (SV.con (⟨80,yAq,x3⟩:Rw)),Ai x4,Ai x5]++Ur 136) [(1000000,(Ent.box [SV.con (⟨9,Ty.str,x6⟩:Rw),SV.con (⟨3,Ty.int .i64,x7⟩:Rw),SV.con (⟨9,Ty.str,x8⟩:Rw),SV.con (⟨3,Ty.int .i64,x9⟩:Rw),SV.con (⟨71,ySp,x10⟩:Rw),Si x11])),(1000001,(Ent.grp 110 (Ty.bool.pair Ty.bool) x12)),(1000002,(Ent.box [SV.bool x13,SV.con (⟨116,yAq,x14⟩:Rw),SV.con (⟨80,yAq,x15⟩:Rw)]))])
def zgj(x0 x1:Int)(x2:Li)(x3 x4 x5 x6 x7 x8:Int)(x9:List ((Int×Int)×Option (List (Bool×Bool))))(x10:List (Bool×Bool))(x11 x12:Bool)(x13 x14:List (Int×Lb×Li)):St:=(St.mk ([Uu,Uu,Uu,AV.one (SV.mapr 1000000),Uu,Uu,Uu,Uu,Uu,Ai x0,Uu,Uu,Uu,AV.one (Sr 1000001),Ai x1,AV.one (SV.bptr 1000002 0),Uu,Uu,Uu,Uu,Uu,Uu,Uu,Uu,Uu,Uu,Uu,Uu,Uu,Uu,Uu,Uu,Uu,Uu,Uu,Uu,Uu,Uu,Uu,Uu,Uu,Uu,Uu,Uu,Uu,Uu,Uu,Uu,Uu,Uu,Uu,Uu,Uu,Uu,Uu,Uu,Uu,Uu,Uu,Uu,Uu,Uu,Uu,Uu,Uu,Uu,Uu,Uu,Uu,Uu,Uu,Uu,Uu,Uu,Uu,Uu,Uu,Uu,Uu,Uu,Uu,Uu,Uu,Uu,Uu,Uu,Uu,Uu,Uu,Uu,Uu,Uu,Uu,Uu,Uu,Uu,Uu,Uu,Uu,Uu,Uu,Uu,Uu,Uu,Uu,Uu,Uu,Uu,Uu,Uu,Uu,Uu,Uu,Uu,Uu,Uu,Uu,Uu,Uu,Uu,Uu,Uu,Uu,Uu,Uu,Uu,Uu,Uu,Uu,Uu,Uu,Uu,Uu,Uu,Uu,Uu,Uu,Uu,Uu,Uu,Uu,Uu,Uu,Uu,Uu,Uu,Uu,Uu,Uu,Uu,Uu,Uu,Uu,Uu,Uu,Uu,Uu,Uu,Uu,Uu,Uu,Uu,Uu,Uu,Uu,Uu,Uu,Uu,Uu,AV.one (SV.bptr 1000003 0),Uu,Uu,Uu,Uu,Uu,Uu,AV.one (SV.con (⟨3,Ty.int .i64,x2⟩:Rw)),Ai x3,Ai x4,Uu,Uu,Uu,Uu,Uu,Uu,Uu,Uu,Uu,Uu,Uu,Uu,Uu,AV.one (Sr 1000001),Ai x5,Ai x6,Uu,Uu,Uu,Uu,AV.one (Sr 1000001),Ai x7,Ai x8]++Ur 23) [(1000000,(Ent.grp 110 (Ty.bool.pair Ty.bool) x9)),(1000001,Er ⟨110,Ty.bool.pair Ty.bool,x10⟩),(1000002,(Ent.box [SV.bool x11,SV.bool x12])),(1000003,(Ent.mit ((Ty.row (nat_lit 9) Ty.str).pair (Ty.row (nat_lit 3) (Ty.int .i64))) x13 x14))])
def zef(x0:Int)(x1:Li)(x2 x3 x4 x5:Int)(x6:List ((Int×Int)×Option (List (Bool×Bool))))(x7:List (Bool×Bool))(x8 x9:List (Int×Lb×Li)):St:=(St.mk ([Uu,Uu,Uu,AV.one (SV.mapr 1000000),Uu,Uu,Uu,Uu,Uu,Ai x0,Uu,Uu,Uu,AV.one (Sr 1000001),Uu,Uu,Uu,Uu,Uu,Uu,Uu,Uu,Uu,Uu,Uu,Uu,Uu,Uu,Uu,Uu,Uu,Uu,Uu,Uu,Uu,Uu,Uu,Uu,Uu,Uu,Uu,Uu,Uu,Uu,Uu,Uu,Uu,Uu,Uu,Uu,Uu,Uu,Uu,Uu,Uu,Uu,Uu,Uu,Uu,Uu,Uu,Uu,Uu,Uu,Uu,Uu,Uu,Uu,Uu,Uu,Uu,Uu,Uu,Uu,Uu,Uu,Uu,Uu,Uu,Uu,Uu,Uu,Uu,Uu,Uu,Uu,Uu,Uu,Uu,Uu,Uu,Uu,Uu,Uu,Uu,Uu,Uu,Uu,Uu,Uu,Uu,Uu,Uu,Uu,Uu,Uu,Uu,Uu,Uu,Uu,Uu,Uu,Uu,Uu,Uu,Uu,Uu,Uu,Uu,Uu,Uu,Uu,Uu,Uu,Uu,Uu,Uu,Uu,Uu,Uu,Uu,Uu,Uu,Uu,Uu,Uu,Uu,Uu,Uu,Uu,Uu,Uu,Uu,Uu,Uu,Uu,Uu,Uu,Uu,Uu,Uu,Uu,Uu,Uu,Uu,Uu,Uu,Uu,Uu,Uu,Uu,Uu,Uu,Uu,Uu,Uu,Uu,Uu,Uu,AV.one (SV.bptr 1000002 0),Uu,Uu,Uu,Uu,Uu,Uu,AV.one (SV.con (⟨3,Ty.int .i64,x1⟩:Rw)),Ai x2,Ai x3,Uu,Uu,Uu,Uu,Uu,Uu,Uu,Uu,Uu,Uu,Uu,Uu,Uu,AV.one (Sr 1000001),Ai x4,Ai x5]++Ur 30) [(1000000,(Ent.grp 110 (Ty.bool.pair Ty.bool) x6)),(1000001,Er ⟨110,Ty.bool.pair Ty.bool,x7⟩),(1000002,(Ent.mit ((Ty.row (nat_lit 9) Ty.str).pair (Ty.row (nat_lit 3) (Ty.int .i64))) x8 x9))])
def zcu(x0:Int)(x1:Li)(x2 x3:Int)(x4:List ((Int×Int)×Option (List (Bool×Bool))))(x5 x6:List (Int×Lb×Li)):St:=(St.mk ([Uu,Uu,Uu,AV.one (SV.mapr 1000000),Uu,Uu,Uu,Uu,Uu,Ai x0,Uu,Uu,Uu,Uu,Uu,Uu,Uu,Uu,Uu,Uu,Uu,Uu,Uu,Uu,Uu,Uu,Uu,Uu,Uu,Uu,Uu,Uu,Uu,Uu,Uu,Uu,Uu,Uu,Uu,Uu,Uu,Uu,Uu,Uu,Uu,Uu,Uu,Uu,Uu,Uu,Uu,Uu,Uu,Uu,Uu,Uu,Uu,Uu,Uu,Uu,Uu,Uu,Uu,Uu,Uu,Uu,Uu,Uu,Uu,Uu,Uu,Uu,Uu,Uu,Uu,Uu,Uu,Uu,Uu,Uu,Uu,Uu,Uu,Uu,Uu,Uu,Uu,Uu,Uu,Uu,Uu,Uu,Uu,Uu,Uu,Uu,Uu,Uu,Uu,Uu,Uu,Uu,Uu,Uu,Uu,Uu,Uu,Uu,Uu,Uu,Uu,Uu,Uu,Uu,Uu,Uu,Uu,Uu,Uu,Uu,Uu,Uu,Uu,Uu,Uu,Uu,Uu,Uu,Uu,Uu,Uu,Uu,Uu,Uu,Uu,Uu,Uu,Uu,Uu,Uu,Uu,Uu,Uu,Uu,Uu,Uu,Uu,Uu,Uu,Uu,Uu,Uu,Uu,Uu,Uu,Uu,Uu,Uu,Uu,Uu,Uu,Uu,Uu,Uu,Uu,Uu,Uu,Uu,Uu,AV.one (SV.bptr 1000001 0),Uu,Uu,Uu,Uu,Uu,Uu,AV.one (SV.con (⟨3,Ty.int .i64,x1⟩:Rw)),Ai x2,Ai x3]++Ur 46) [(1000000,(Ent.grp 110 (Ty.bool.pair Ty.bool) x4)),(1000001,(Ent.mit ((Ty.row (nat_lit 9) Ty.str).pair (Ty.row (nat_lit 3) (Ty.int .i64))) x5 x6))])
def zcb(x0:List ((Int×Int)×Option (List (Bool×Bool))))(x1 x2:List (Int×Lb×Li)):St:=(St.mk ([Uu,Uu,Uu,AV.one (SV.mapr 1000000),Uu,Uu,Uu,Uu,Uu,Uu,Uu,Uu,Uu,Uu,Uu,Uu,Uu,Uu,Uu,Uu,Uu,Uu,Uu,Uu,Uu,Uu,Uu,Uu,Uu,Uu,Uu,Uu,Uu,Uu,Uu,Uu,Uu,Uu,Uu,Uu,Uu,Uu,Uu,Uu,Uu,Uu,Uu,Uu,Uu,Uu,Uu,Uu,Uu,Uu,Uu,Uu,Uu,Uu,Uu,Uu,Uu,Uu,Uu,Uu,Uu,Uu,Uu,Uu,Uu,Uu,Uu,Uu,Uu,Uu,Uu,Uu,Uu,Uu,Uu,Uu,Uu,Uu,Uu,Uu,Uu,Uu,Uu,Uu,Uu,Uu,Uu,Uu,Uu,Uu,Uu,Uu,Uu,Uu,Uu,Uu,Uu,Uu,Uu,Uu,Uu,Uu,Uu,Uu,Uu,Uu,Uu,Uu,Uu,Uu,Uu,Uu,Uu,Uu,Uu,Uu,Uu,Uu,Uu,Uu,Uu,Uu,Uu,Uu,Uu,Uu,Uu,Uu,Uu,Uu,Uu,Uu,Uu,Uu,Uu,Uu,Uu,Uu,Uu,Uu,Uu,Uu,Uu,Uu,Uu,Uu,Uu,Uu,Uu,Uu,Uu,Uu,Uu,Uu,Uu,Uu,Uu,Uu,Uu,Uu,Uu,Uu,Uu,Uu,Uu,AV.one (SV.bptr 1000001 0)]++Ur 55) [(1000000,(Ent.grp 110 (Ty.bool.pair Ty.bool) x0)),(1000001,(Ent.mit ((Ty.row (nat_lit 9) Ty.str).pair (Ty.row (nat_lit 3) (Ty.int .i64))) x1 x2))])
def zey(x0:List (Br))(x1 x2:Int)(x3:Lb)(x4:Li)(x5:Lb)(x6:Li)(x7:List (Br))(x8:Int)(x9:List ((Int×Int)×Option (List (Bool×Bool)))):St:=(St.mk ([Uu,AV.one (SV.bptr 1000000 0),Uu,AV.one (SV.mapr 1000001),Uu,Uu,Uu,Uu,Uu,Uu,Uu,Uu,Uu,Uu,Uu,Uu,Uu,Uu,Uu,Uu,Uu,Uu,Uu,Uu,Uu,Uu,Uu,Uu,Uu,Uu,Uu,Uu,Uu,Uu,Uu,Uu,Uu,Uu,Uu,Uu,Uu,Uu,Uu,Uu,Uu,Uu,Uu,Uu,Uu,Uu,Uu,Uu,Uu,Uu,Uu,Uu,AV.one (SV.con (⟨71,ySp,x0⟩:Rw)),Ai x1,Ai x2]++Ur 166) [(1000000,(Ent.box [SV.con (⟨9,Ty.str,x3⟩:Rw),SV.con (⟨3,Ty.int .i64,x4⟩:Rw),SV.con (⟨9,Ty.str,x5⟩:Rw),SV.con (⟨3,Ty.int .i64,x6⟩:Rw),SV.con (⟨71,ySp,x7⟩:Rw),Si x8])),(1000001,(Ent.grp 110 (Ty.bool.pair Ty.bool) x9))])
noncomputable def zjd(n:Nat)(lL5:(List (Br))→Int→Int→Lb→Li→Lb→Li→(List (Br))→Int→(List ((Int×Int)×Option (List (Bool×Bool))))→Option R17)(a:Mm):Option R17 :=
 (q62 n ((a.1.1,a.1.2),())).bind fun r0=>cond (!r0.1.1) (some ((false,()),())) (cond (!decide ((↑(List.length a.1.2):Int)=(12:Int))) (some ((false,()),())) ((q62 n ((a.2.1.1,a.2.1.2),())).bind fun r1=>cond (!r1.1.1) (some ((false,()),())) (cond (!decide ((↑(List.length a.2.1.2):Int)=(12:Int))) (some ((false,()),())) (cond (!decide ((↑(List.length a.2.2.1):Int)=(5:Int))) (some ((false,()),())) ((q59 n (a.2.2.2,(0:Int),(11:Int),())).bind fun r2=>cond (!r2.1.1) (some ((false,()),())) (lL5 a.2.2.1 ((↑(List.length a.2.2.1):Int)) (0:Int) a.1.1 a.1.2 a.2.1.1 a.2.1.2 a.2.2.1 a.2.2.2 ([])))))))
noncomputable def zay(n:Nat)(lL13:(List (Br))→Int→Int→Lq→Int→Int→Lb→Li→Lb→Li→(List (Br))→Int→(List ((Int×Int)×Option (List (Bool×Bool))))→Bool→Lq→Lq→Option R17)(lL5:(List (Br))→Int→Int→Lb→Li→Lb→Li→(List (Br))→Int→(List ((Int×Int)×Option (List (Bool×Bool))))→Option R17)(x0:List (Br))(x1 x2:Int)(x3:Lq)(x4 x5:Int)(x6:Lb)(x7:Li)(x8:Lb)(x9:Li)(x10:List (Br))(x11:Int)(x12:List ((Int×Int)×Option (List (Bool×Bool))))(x13:Bool)(x14 x15:Lq):Option R17 :=
 cond (decide (x5<x4)) (cond (decide (0≤x5)) (cond (decide (x5<(↑x3.length:Int))) (cond (decide ((x3.getD x5.toNat ((0:Int),(0:Int),false,false)).1=(0:Int))) (cond (!(decide ((x3.getD x5.toNat ((0:Int),(0:Int),false,false)).1=(0:Int))&&(decide ((x3.getD x5.toNat ((0:Int),(0:Int),false,false)).2.1=(0:Int))&&((x3.getD x5.toNat ((0:Int),(0:Int),false,false)).2.2.1 == false&&((x3.getD x5.toNat ((0:Int),(0:Int),false,false)).2.2.2 == false&&true))))) (some ((false,()),())) (lL13 x0 x1 x2 x3 x4 (IntKind.i64.wrap (x5+1)) x6 x7 x8 x9 x10 x11 x12 x13 x14 x15)) ((q60 n (x14,x5,())).bind fun r6=>cond (decide (r6.1.1<(0:Int))) (cond (!(decide ((x3.getD x5.toNat ((0:Int),(0:Int),false,false)).1=(0:Int))&&(decide ((x3.getD x5.toNat ((0:Int),(0:Int),false,false)).2.1=(0:Int))&&((x3.getD x5.toNat ((0:Int),(0:Int),false,false)).2.2.1 == false&&((x3.getD x5.toNat ((0:Int),(0:Int),false,false)).2.2.2 == false&&true))))) (some ((false,()),())) (lL13 x0 x1 x2 x3 x4 (IntKind.i64.wrap (x5+1)) x6 x7 x8 x9 x10 x11 x12 x13 x14 x15)) (cond (decide ((x3.getD x5.toNat ((0:Int),(0:Int),false,false)).1=(1:Int))) ((q64 n ((x6,x7),(x3.getD x5.toNat ((0:Int),(0:Int),false,false)).2.1,())).bind fun r7=>cond (!r7.1.1) (some ((false,()),())) (cond (decide ((x3.getD x5.toNat ((0:Int),(0:Int),false,false)).1=(2:Int))) ((q64 n ((x8,x9),(x3.getD x5.toNat ((0:Int),(0:Int),false,false)).2.1,())).bind fun r8=>cond (!r8.1.1) (some ((false,()),())) ((q59 n ((x3.getD x5.toNat ((0:Int),(0:Int),false,false)).1,(1:Int),(2:Int),())).bind fun r9=>cond (!r9.1.1) (some ((false,()),())) ((q65 n ((x13,x14,x15),x5,())).bind fun r10=>cond r10.1.1 (cond (!(x3.getD x5.toNat ((0:Int),(0:Int),false,false)).2.2.1) (some ((false,()),())) ((q65 n ((x13,x14,x15),x5,())).bind fun r11=>cond (gok x12 (x3.getD x5.toNat ((0:Int),(0:Int),false,false)).1 (x3.getD x5.toNat ((0:Int),(0:Int),false,false)).2.1) (cond (decide (((gvl x12 (x3.getD x5.toNat ((0:Int),(0:Int),false,false)).1 (x3.getD x5.toNat ((0:Int),(0:Int),false,false)).2.1).length+[((x3.getD x5.toNat ((0:Int),(0:Int),false,false)).2.2.1,r11.1.1)].length)*(2:Nat)≤(140737488355328:Nat))) (cond (decide ((0:Int)≤(↑(gfi x12 (x3.getD x5.toNat ((0:Int),(0:Int),false,false)).1 (x3.getD x5.toNat ((0:Int),(0:Int),false,false)).2.1):Int))&&decide ((↑(gfi x12 (x3.getD x5.toNat ((0:Int),(0:Int),false,false)).1 (x3.getD x5.toNat ((0:Int),(0:Int),false,false)).2.1):Int)<(↑(gou x12 (x3.getD x5.toNat ((0:Int),(0:Int),false,false)).1 (x3.getD x5.toNat ((0:Int),(0:Int),false,false)).2.1).length:Int))) (lL13 x0 x1 x2 x3 x4 (IntKind.i64.wrap (x5+1)) x6 x7 x8 x9 x10 x11 (gbk (gou x12 (x3.getD x5.toNat ((0:Int),(0:Int),false,false)).1 (x3.getD x5.toNat ((0:Int),(0:Int),false,false)).2.1) (↑(gfi x12 (x3.getD x5.toNat ((0:Int),(0:Int),false,false)).1 (x3.getD x5.toNat ((0:Int),(0:Int),false,false)).2.1):Int) (gvl x12 (x3.getD x5.toNat ((0:Int),(0:Int),false,false)).1 (x3.getD x5.toNat ((0:Int),(0:Int),false,false)).2.1++[((x3.getD x5.toNat ((0:Int),(0:Int),false,false)).2.2.1,r11.1.1)])) x13 x14 x15) none) none) none)) ((q65 n ((x13,x14,x15),x5,())).bind fun r12=>cond (gok x12 (x3.getD x5.toNat ((0:Int),(0:Int),false,false)).1 (x3.getD x5.toNat ((0:Int),(0:Int),false,false)).2.1) (cond (decide (((gvl x12 (x3.getD x5.toNat ((0:Int),(0:Int),false,false)).1 (x3.getD x5.toNat ((0:Int),(0:Int),false,false)).2.1).length+[((x3.getD x5.toNat ((0:Int),(0:Int),false,false)).2.2.1,r12.1.1)].length)*(2:Nat)≤(140737488355328:Nat))) (cond (decide ((0:Int)≤(↑(gfi x12 (x3.getD x5.toNat ((0:Int),(0:Int),false,false)).1 (x3.getD x5.toNat ((0:Int),(0:Int),false,false)).2.1):Int))&&decide ((↑(gfi x12 (x3.getD x5.toNat ((0:Int),(0:Int),false,false)).1 (x3.getD x5.toNat ((0:Int),(0:Int),false,false)).2.1):Int)<(↑(gou x12 (x3.getD x5.toNat ((0:Int),(0:Int),false,false)).1 (x3.getD x5.toNat ((0:Int),(0:Int),false,false)).2.1).length:Int))) (lL13 x0 x1 x2 x3 x4 (IntKind.i64.wrap (x5+1)) x6 x7 x8 x9 x10 x11 (gbk (gou x12 (x3.getD x5.toNat ((0:Int),(0:Int),false,false)).1 (x3.getD x5.toNat ((0:Int),(0:Int),false,false)).2.1) (↑(gfi x12 (x3.getD x5.toNat ((0:Int),(0:Int),false,false)).1 (x3.getD x5.toNat ((0:Int),(0:Int),false,false)).2.1):Int) (gvl x12 (x3.getD x5.toNat ((0:Int),(0:Int),false,false)).1 (x3.getD x5.toNat ((0:Int),(0:Int),false,false)).2.1++[((x3.getD x5.toNat ((0:Int),(0:Int),false,false)).2.2.1,r12.1.1)])) x13 x14 x15) none) none) none)))) ((q59 n ((x3.getD x5.toNat ((0:Int),(0:Int),false,false)).1,(1:Int),(2:Int),())).bind fun r13=>cond (!r13.1.1) (some ((false,()),())) ((q65 n ((x13,x14,x15),x5,())).bind fun r14=>cond r14.1.1 (cond (!(x3.getD x5.toNat ((0:Int),(0:Int),false,false)).2.2.1) (some ((false,()),())) ((q65 n ((x13,x14,x15),x5,())).bind fun r15=>cond (gok x12 (x3.getD x5.toNat ((0:Int),(0:Int),false,false)).1 (x3.getD x5.toNat ((0:Int),(0:Int),false,false)).2.1) (cond (decide (((gvl x12 (x3.getD x5.toNat ((0:Int),(0:Int),false,false)).1 (x3.getD x5.toNat ((0:Int),(0:Int),false,false)).2.1).length+[((x3.getD x5.toNat ((0:Int),(0:Int),false,false)).2.2.1,r15.1.1)].length)*(2:Nat)≤(140737488355328:Nat))) (cond (decide ((0:Int)≤(↑(gfi x12 (x3.getD x5.toNat ((0:Int),(0:Int),false,false)).1 (x3.getD x5.toNat ((0:Int),(0:Int),false,false)).2.1):Int))&&decide ((↑(gfi x12 (x3.getD x5.toNat ((0:Int),(0:Int),false,false)).1 (x3.getD x5.toNat ((0:Int),(0:Int),false,false)).2.1):Int)<(↑(gou x12 (x3.getD x5.toNat ((0:Int),(0:Int),false,false)).1 (x3.getD x5.toNat ((0:Int),(0:Int),false,false)).2.1).length:Int))) (lL13 x0 x1 x2 x3 x4 (IntKind.i64.wrap (x5+1)) x6 x7 x8 x9 x10 x11 (gbk (gou x12 (x3.getD x5.toNat ((0:Int),(0:Int),false,false)).1 (x3.getD x5.toNat ((0:Int),(0:Int),false,false)).2.1) (↑(gfi x12 (x3.getD x5.toNat ((0:Int),(0:Int),false,false)).1 (x3.getD x5.toNat ((0:Int),(0:Int),false,false)).2.1):Int) (gvl x12 (x3.getD x5.toNat ((0:Int),(0:Int),false,false)).1 (x3.getD x5.toNat ((0:Int),(0:Int),false,false)).2.1++[((x3.getD x5.toNat ((0:Int),(0:Int),false,false)).2.2.1,r15.1.1)])) x13 x14 x15) none) none) none)) ((q65 n ((x13,x14,x15),x5,())).bind fun r16=>cond (gok x12 (x3.getD x5.toNat ((0:Int),(0:Int),false,false)).1 (x3.getD x5.toNat ((0:Int),(0:Int),false,false)).2.1) (cond (decide (((gvl x12 (x3.getD x5.toNat ((0:Int),(0:Int),false,false)).1 (x3.getD x5.toNat ((0:Int),(0:Int),false,false)).2.1).length+[((x3.getD x5.toNat ((0:Int),(0:Int),false,false)).2.2.1,r16.1.1)].length)*(2:Nat)≤(140737488355328:Nat))) (cond (decide ((0:Int)≤(↑(gfi x12 (x3.getD x5.toNat ((0:Int),(0:Int),false,false)).1 (x3.getD x5.toNat ((0:Int),(0:Int),false,false)).2.1):Int))&&decide ((↑(gfi x12 (x3.getD x5.toNat ((0:Int),(0:Int),false,false)).1 (x3.getD x5.toNat ((0:Int),(0:Int),false,false)).2.1):Int)<(↑(gou x12 (x3.getD x5.toNat ((0:Int),(0:Int),false,false)).1 (x3.getD x5.toNat ((0:Int),(0:Int),false,false)).2.1).length:Int))) (lL13 x0 x1 x2 x3 x4 (IntKind.i64.wrap (x5+1)) x6 x7 x8 x9 x10 x11 (gbk (gou x12 (x3.getD x5.toNat ((0:Int),(0:Int),false,false)).1 (x3.getD x5.toNat ((0:Int),(0:Int),false,false)).2.1) (↑(gfi x12 (x3.getD x5.toNat ((0:Int),(0:Int),false,false)).1 (x3.getD x5.toNat ((0:Int),(0:Int),false,false)).2.1):Int) (gvl x12 (x3.getD x5.toNat ((0:Int),(0:Int),false,false)).1 (x3.getD x5.toNat ((0:Int),(0:Int),false,false)).2.1++[((x3.getD x5.toNat ((0:Int),(0:Int),false,false)).2.2.1,r16.1.1)])) x13 x14 x15) none) none) none))))) (cond (decide ((x3.getD x5.toNat ((0:Int),(0:Int),false,false)).1=(2:Int))) ((q64 n ((x8,x9),(x3.getD x5.toNat ((0:Int),(0:Int),false,false)).2.1,())).bind fun r17=>cond (!r17.1.1) (some ((false,()),())) ((q59 n ((x3.getD x5.toNat ((0:Int),(0:Int),false,false)).1,(1:Int),(2:Int),())).bind fun r18=>cond (!r18.1.1) (some ((false,()),())) ((q65 n ((x13,x14,x15),x5,())).bind fun r19=>cond r19.1.1 (cond (!(x3.getD x5.toNat ((0:Int),(0:Int),false,false)).2.2.1) (some ((false,()),())) ((q65 n ((x13,x14,x15),x5,())).bind fun r20=>cond (gok x12 (x3.getD x5.toNat ((0:Int),(0:Int),false,false)).1 (x3.getD x5.toNat ((0:Int),(0:Int),false,false)).2.1) (cond (decide (((gvl x12 (x3.getD x5.toNat ((0:Int),(0:Int),false,false)).1 (x3.getD x5.toNat ((0:Int),(0:Int),false,false)).2.1).length+[((x3.getD x5.toNat ((0:Int),(0:Int),false,false)).2.2.1,r20.1.1)].length)*(2:Nat)≤(140737488355328:Nat))) (cond (decide ((0:Int)≤(↑(gfi x12 (x3.getD x5.toNat ((0:Int),(0:Int),false,false)).1 (x3.getD x5.toNat ((0:Int),(0:Int),false,false)).2.1):Int))&&decide ((↑(gfi x12 (x3.getD x5.toNat ((0:Int),(0:Int),false,false)).1 (x3.getD x5.toNat ((0:Int),(0:Int),false,false)).2.1):Int)<(↑(gou x12 (x3.getD x5.toNat ((0:Int),(0:Int),false,false)).1 (x3.getD x5.toNat ((0:Int),(0:Int),false,false)).2.1).length:Int))) (lL13 x0 x1 x2 x3 x4 (IntKind.i64.wrap (x5+1)) x6 x7 x8 x9 x10 x11 (gbk (gou x12 (x3.getD x5.toNat ((0:Int),(0:Int),false,false)).1 (x3.getD x5.toNat ((0:Int),(0:Int),false,false)).2.1) (↑(gfi x12 (x3.getD x5.toNat ((0:Int),(0:Int),false,false)).1 (x3.getD x5.toNat ((0:Int),(0:Int),false,false)).2.1):Int) (gvl x12 (x3.getD x5.toNat ((0:Int),(0:Int),false,false)).1 (x3.getD x5.toNat ((0:Int),(0:Int),false,false)).2.1++[((x3.getD x5.toNat ((0:Int),(0:Int),false,false)).2.2.1,r20.1.1)])) x13 x14 x15) none) none) none)) ((q65 n ((x13,x14,x15),x5,())).bind fun r21=>cond (gok x12 (x3.getD x5.toNat ((0:Int),(0:Int),false,false)).1 (x3.getD x5.toNat ((0:Int),(0:Int),false,false)).2.1) (cond (decide (((gvl x12 (x3.getD x5.toNat ((0:Int),(0:Int),false,false)).1 (x3.getD x5.toNat ((0:Int),(0:Int),false,false)).2.1).length+[((x3.getD x5.toNat ((0:Int),(0:Int),false,false)).2.2.1,r21.1.1)].length)*(2:Nat)≤(140737488355328:Nat))) (cond (decide ((0:Int)≤(↑(gfi x12 (x3.getD x5.toNat ((0:Int),(0:Int),false,false)).1 (x3.getD x5.toNat ((0:Int),(0:Int),false,false)).2.1):Int))&&decide ((↑(gfi x12 (x3.getD x5.toNat ((0:Int),(0:Int),false,false)).1 (x3.getD x5.toNat ((0:Int),(0:Int),false,false)).2.1):Int)<(↑(gou x12 (x3.getD x5.toNat ((0:Int),(0:Int),false,false)).1 (x3.getD x5.toNat ((0:Int),(0:Int),false,false)).2.1).length:Int))) (lL13 x0 x1 x2 x3 x4 (IntKind.i64.wrap (x5+1)) x6 x7 x8 x9 x10 x11 (gbk (gou x12 (x3.getD x5.toNat ((0:Int),(0:Int),false,false)).1 (x3.getD x5.toNat ((0:Int),(0:Int),false,false)).2.1) (↑(gfi x12 (x3.getD x5.toNat ((0:Int),(0:Int),false,false)).1 (x3.getD x5.toNat ((0:Int),(0:Int),false,false)).2.1):Int) (gvl x12 (x3.getD x5.toNat ((0:Int),(0:Int),false,false)).1 (x3.getD x5.toNat ((0:Int),(0:Int),false,false)).2.1++[((x3.getD x5.toNat ((0:Int),(0:Int),false,false)).2.2.1,r21.1.1)])) x13 x14 x15) none) none) none)))) ((q59 n ((x3.getD x5.toNat ((0:Int),(0:Int),false,false)).1,(1:Int),(2:Int),())).bind fun r22=>cond (!r22.1.1) (some ((false,()),())) ((q65 n ((x13,x14,x15),x5,())).bind fun r23=>cond r23.1.1 (cond (!(x3.getD x5.toNat ((0:Int),(0:Int),false,false)).2.2.1) (some ((false,()),())) ((q65 n ((x13,x14,x15),x5,())).bind fun r24=>cond (gok x12 (x3.getD x5.toNat ((0:Int),(0:Int),false,false)).1 (x3.getD x5.toNat ((0:Int),(0:Int),false,false)).2.1) (cond (decide (((gvl x12 (x3.getD x5.toNat ((0:Int),(0:Int),false,false)).1 (x3.getD x5.toNat ((0:Int),(0:Int),false,false)).2.1).length+[((x3.getD x5.toNat ((0:Int),(0:Int),false,false)).2.2.1,r24.1.1)].length)*(2:Nat)≤(140737488355328:Nat))) (cond (decide ((0:Int)≤(↑(gfi x12 (x3.getD x5.toNat ((0:Int),(0:Int),false,false)).1 (x3.getD x5.toNat ((0:Int),(0:Int),false,false)).2.1):Int))&&decide ((↑(gfi x12 (x3.getD x5.toNat ((0:Int),(0:Int),false,false)).1 (x3.getD x5.toNat ((0:Int),(0:Int),false,false)).2.1):Int)<(↑(gou x12 (x3.getD x5.toNat ((0:Int),(0:Int),false,false)).1 (x3.getD x5.toNat ((0:Int),(0:Int),false,false)).2.1).length:Int))) (lL13 x0 x1 x2 x3 x4 (IntKind.i64.wrap (x5+1)) x6 x7 x8 x9 x10 x11 (gbk (gou x12 (x3.getD x5.toNat ((0:Int),(0:Int),false,false)).1 (x3.getD x5.toNat ((0:Int),(0:Int),false,false)).2.1) (↑(gfi x12 (x3.getD x5.toNat ((0:Int),(0:Int),false,false)).1 (x3.getD x5.toNat ((0:Int),(0:Int),false,false)).2.1):Int) (gvl x12 (x3.getD x5.toNat ((0:Int),(0:Int),false,false)).1 (x3.getD x5.toNat ((0:Int),(0:Int),false,false)).2.1++[((x3.getD x5.toNat ((0:Int),(0:Int),false,false)).2.2.1,r24.1.1)])) x13 x14 x15) none) none) none)) ((q65 n ((x13,x14,x15),x5,())).bind fun r25=>cond (gok x12 (x3.getD x5.toNat ((0:Int),(0:Int),false,false)).1 (x3.getD x5.toNat ((0:Int),(0:Int),false,false)).2.1) (cond (decide (((gvl x12 (x3.getD x5.toNat ((0:Int),(0:Int),false,false)).1 (x3.getD x5.toNat ((0:Int),(0:Int),false,false)).2.1).length+[((x3.getD x5.toNat ((0:Int),(0:Int),false,false)).2.2.1,r25.1.1)].length)*(2:Nat)≤(140737488355328:Nat))) (cond (decide ((0:Int)≤(↑(gfi x12 (x3.getD x5.toNat ((0:Int),(0:Int),false,false)).1 (x3.getD x5.toNat ((0:Int),(0:Int),false,false)).2.1):Int))&&decide ((↑(gfi x12 (x3.getD x5.toNat ((0:Int),(0:Int),false,false)).1 (x3.getD x5.toNat ((0:Int),(0:Int),false,false)).2.1):Int)<(↑(gou x12 (x3.getD x5.toNat ((0:Int),(0:Int),false,false)).1 (x3.getD x5.toNat ((0:Int),(0:Int),false,false)).2.1).length:Int))) (lL13 x0 x1 x2 x3 x4 (IntKind.i64.wrap (x5+1)) x6 x7 x8 x9 x10 x11 (gbk (gou x12 (x3.getD x5.toNat ((0:Int),(0:Int),false,false)).1 (x3.getD x5.toNat ((0:Int),(0:Int),false,false)).2.1) (↑(gfi x12 (x3.getD x5.toNat ((0:Int),(0:Int),false,false)).1 (x3.getD x5.toNat ((0:Int),(0:Int),false,false)).2.1):Int) (gvl x12 (x3.getD x5.toNat ((0:Int),(0:Int),false,false)).1 (x3.getD x5.toNat ((0:Int),(0:Int),false,false)).2.1++[((x3.getD x5.toNat ((0:Int),(0:Int),false,false)).2.2.1,r25.1.1)])) x13 x14 x15) none) none) none))))))) none) none) (lL5 x0 x1 (IntKind.i64.wrap (x2+1)) x6 x7 x8 x9 x10 x11 x12)
noncomputable def zdo(n:Nat)(lL41:Int→Int→Li→Int→Int→Int→Int→Int→Int→(List ((Int×Int)×Option (List (Bool×Bool))))→(List (Bool×Bool))→Bool→Bool→(List (Int×Lb×Li))→(List (Int×Lb×Li))→Option R17)(lL38:Int→Li→Int→Int→Int→Int→(List ((Int×Int)×Option (List (Bool×Bool))))→(List (Bool×Bool))→(List (Int×Lb×Li))→(List (Int×Lb×Li))→Option R17)(x0 x1:Int)(x2:Li)(x3 x4 x5 x6 x7 x8:Int)(x9:List ((Int×Int)×Option (List (Bool×Bool))))(x10:List (Bool×Bool))(x11 x12:Bool)(x13 x14:List (Int×Lb×Li)):Option R17 :=
 cond (decide (x8<x7)) (cond (decide (0≤x8)) (cond (decide (x8<(↑x10.length:Int))) (cond (!decide (x1=x8)) (cond x11 (cond x12 (cond (!(x10.getD x8.toNat (false,false)).2) (some ((false,()),())) (lL41 x0 x1 x2 x3 x4 x5 x6 x7 (IntKind.i64.wrap (x8+1)) x9 x10 x11 x12 x13 x14)) (some ((false,()),()))) (lL41 x0 x1 x2 x3 x4 x5 x6 x7 (IntKind.i64.wrap (x8+1)) x9 x10 x11 x12 x13 x14)) (lL41 x0 x1 x2 x3 x4 x5 x6 x7 (IntKind.i64.wrap (x8+1)) x9 x10 x11 x12 x13 x14)) none) none) (lL38 x0 x2 x3 x4 x5 (IntKind.i64.wrap (x6+1)) x9 x10 x13 x14)
noncomputable def zdp(n:Nat)(lL41:Int→Int→Li→Int→Int→Int→Int→Int→Int→(List ((Int×Int)×Option (List (Bool×Bool))))→(List (Bool×Bool))→Bool→Bool→(List (Int×Lb×Li))→(List (Int×Lb×Li))→Option R17)(lL32:Int→Li→Int→Int→(List ((Int×Int)×Option (List (Bool×Bool))))→(List (Int×Lb×Li))→(List (Int×Lb×Li))→Option R17)(x0:Int)(x1:Li)(x2 x3 x4 x5:Int)(x6:List ((Int×Int)×Option (List (Bool×Bool))))(x7:List (Bool×Bool))(x8 x9:List (Int×Lb×Li)):Option R17 :=
 cond (decide (x5<x4)) (cond (decide (0≤x5)) (cond (decide (x5<(↑x7.length:Int))) (lL41 x0 x5 x1 x2 x3 x4 x5 ((↑x7.length:Int)) (0:Int) x6 x7 ((x7.getD x5.toNat (false,false)).1) ((x7.getD x5.toNat (false,false)).2) x8 x9) none) none) (lL32 x0 x1 x2 (IntKind.i64.wrap (x3+1)) x6 x8 x9)
noncomputable def zdq(n:Nat)(lL38:Int→Li→Int→Int→Int→Int→(List ((Int×Int)×Option (List (Bool×Bool))))→(List (Bool×Bool))→(List (Int×Lb×Li))→(List (Int×Lb×Li))→Option R17)(lL29:(List ((Int×Int)×Option (List (Bool×Bool))))→(List (Int×Lb×Li))→(List (Int×Lb×Li))→Option R17)(x0:Int)(x1:Li)(x2 x3:Int)(x4:List ((Int×Int)×Option (List (Bool×Bool))))(x5 x6:List (Int×Lb×Li)):Option R17 :=
 cond (decide (x3<x2)) (cond (decide (0≤x3)) (cond (decide (x3<(↑x1.length:Int))) (cond (gok x4 x0 x3) (cond (!decide ((↑(gvl x4 x0 x3).length:Int)=x1.getD x3.toNat (0:Int))) (some ((false,()),())) (lL38 x0 x1 x2 x3 ((↑(gvl x4 x0 x3).length:Int)) (0:Int) (gol x4 x0 x3) (gvl x4 x0 x3) x5 x6)) none) none) none) (lL29 x4 x5 x6)
noncomputable def zdr(n:Nat)(lL32:Int→Li→Int→Int→(List ((Int×Int)×Option (List (Bool×Bool))))→(List (Int×Lb×Li))→(List (Int×Lb×Li))→Option R17)(x0:List ((Int×Int)×Option (List (Bool×Bool))))(x1 x2:List (Int×Lb×Li)):Option R17 :=
 cond (decide (x2.length=(0:Nat))) (some ((true,()),())) (allL (x2.length) (fun i27=>lL32 ((x2.getD i27 ((0:Int),[],[])).1) ((x2.getD i27 ((0:Int),[],[])).2.2) ((↑(List.length (x2.getD i27 ((0:Int),[],[])).2.2):Int)) (0:Int) x0 ([x2.getD i27 ((0:Int),[],[])]) (x2.eraseIdx i27)))
noncomputable def zhx(n:Nat)(lL5:(List (Br))→Int→Int→Lb→Li→Lb→Li→(List (Br))→Int→(List ((Int×Int)×Option (List (Bool×Bool))))→Option R17)(lL13:(List (Br))→Int→Int→Lq→Int→Int→Lb→Li→Lb→Li→(List (Br))→Int→(List ((Int×Int)×Option (List (Bool×Bool))))→Bool→Lq→Lq→Option R17)(lL29:(List ((Int×Int)×Option (List (Bool×Bool))))→(List (Int×Lb×Li))→(List (Int×Lb×Li))→Option R17)(x0:List (Br))(x1 x2:Int)(x3:Lb)(x4:Li)(x5:Lb)(x6:Li)(x7:List (Br))(x8:Int)(x9:List ((Int×Int)×Option (List (Bool×Bool)))):Option R17 :=
 cond (decide (x2<x1)) (cond (decide (0≤x2)) (cond (decide (x2<(↑x0.length:Int))) (cond (!(x0.getD x2.toNat (false,[],[])).1) (cond (decide ((0:Int)<(↑(List.length (x0.getD x2.toNat (false,[],[])).2.1):Int))) (some ((false,()),())) (cond (decide ((0:Int)<(↑(List.length (x0.getD x2.toNat (false,[],[])).2.2):Int))) (some ((false,()),())) (lL5 x0 x1 (IntKind.i64.wrap (x2+1)) x3 x4 x5 x6 x7 x8 x9))) ((q63 n ((x0.getD x2.toNat (false,[],[])).2.1,())).bind fun r4=>cond (!r4.1.1) (some ((false,()),())) (cond (!decide ((↑(List.length (x0.getD x2.toNat (false,[],[])).2.2):Int)=(16:Int))) (some ((false,()),())) (lL13 x0 x1 x2 ((x0.getD x2.toNat (false,[],[])).2.2) ((↑(List.length (x0.getD x2.toNat (false,[],[])).2.2):Int)) (0:Int) x3 x4 x5 x6 x7 x8 x9 ((x0.getD x2.toNat (false,[],[])).1) ((x0.getD x2.toNat (false,[],[])).2.1) ((x0.getD x2.toNat (false,[],[])).2.2))))) none) none) (lL29 x9 ([]) ([((1:Int),x3,x4)]++[((2:Int),x5,x6)]))
theorem e17_top(n:Nat)(a:Mm):runF TT G17 an17 Try.f17 c17 ps17 rs17 n (a,())=zjd n (fun x0 x1 x2 x3 x4 x5 x6 x7 x8 x9=>at17 n (.head 5) [n] (zey x0 x1 x2 x3 x4 x5 x6 x7 x8 x9)) a:=by kernel_rfl
theorem e17_L13_0(n:Nat)(m5:Nat)(x0:List (Br))(x1 x2:Int)(x3:Lq)(x4 x5:Int)(x6:Lb)(x7:Li)(x8:Lb)(x9:Li)(x10:List (Br))(x11:Int)(x12:List ((Int×Int)×Option (List (Bool×Bool))))(x13:Bool)(x14 x15:Lq):at17 n (.head 13) [m5,0] (zgk x0 x1 x2 x3 x4 x5 x6 x7 x8 x9 x10 x11 x12 x13 x14 x15)=none:=by kernel_rfl
theorem e17_L13(n:Nat)(m5:Nat)(m13:Nat)(x0:List (Br))(x1 x2:Int)(x3:Lq)(x4 x5:Int)(x6:Lb)(x7:Li)(x8:Lb)(x9:Li)(x10:List (Br))(x11:Int)(x12:List ((Int×Int)×Option (List (Bool×Bool))))(x13:Bool)(x14 x15:Lq):at17 n (.head 13) [m5,m13+1] (zgk x0 x1 x2 x3 x4 x5 x6 x7 x8 x9 x10 x11 x12 x13 x14 x15)=zay n (fun x0 x1 x2 x3 x4 x5 x6 x7 x8 x9 x10 x11 x12 x13 x14 x15=>at17 n (.head 13) [m5,m13] (zgk x0 x1 x2 x3 x4 x5 x6 x7 x8 x9 x10 x11 x12 x13 x14 x15)) (fun x0 x1 x2 x3 x4 x5 x6 x7 x8 x9=>at17 n (.head 5) [m5] (zey x0 x1 x2 x3 x4 x5 x6 x7 x8 x9)) x0 x1 x2 x3 x4 x5 x6 x7 x8 x9 x10 x11 x12 x13 x14 x15:=by kernel_rfl
theorem e17_L41_0(n:Nat)(m29:Nat)(m32:Nat)(m38:Nat)(x0 x1:Int)(x2:Li)(x3 x4 x5 x6 x7 x8:Int)(x9:List ((Int×Int)×Option (List (Bool×Bool))))(x10:List (Bool×Bool))(x11 x12:Bool)(x13 x14:List (Int×Lb×Li)):at17 n (.head 41) [m29,m32,m38,0] (zgj x0 x1 x2 x3 x4 x5 x6 x7 x8 x9 x10 x11 x12 x13 x14)=none:=by kernel_rfl
theorem e17_L41(n:Nat)(m29:Nat)(m32:Nat)(m38:Nat)(m41:Nat)(x0 x1:Int)(x2:Li)(x3 x4 x5 x6 x7 x8:Int)(x9:List ((Int×Int)×Option (List (Bool×Bool))))(x10:List (Bool×Bool))(x11 x12:Bool)(x13 x14:List (Int×Lb×Li)):at17 n (.head 41) [m29,m32,m38,m41+1] (zgj x0 x1 x2 x3 x4 x5 x6 x7 x8 x9 x10 x11 x12 x13 x14)=zdo n (fun x0 x1 x2 x3 x4 x5 x6 x7 x8 x9 x10 x11 x12 x13 x14=>at17 n (.head 41) [m29,m32,m38,m41] (zgj x0 x1 x2 x3 x4 x5 x6 x7 x8 x9 x10 x11 x12 x13 x14)) (fun x0 x1 x2 x3 x4 x5 x6 x7 x8 x9=>at17 n (.head 38) [m29,m32,m38] (zef x0 x1 x2 x3 x4 x5 x6 x7 x8 x9)) x0 x1 x2 x3 x4 x5 x6 x7 x8 x9 x10 x11 x12 x13 x14:=by kernel_rfl
theorem e17_L38_0(n:Nat)(m29:Nat)(m32:Nat)(x0:Int)(x1:Li)(x2 x3 x4 x5:Int)(x6:List ((Int×Int)×Option (List (Bool×Bool))))(x7:List (Bool×Bool))(x8 x9:List (Int×Lb×Li)):at17 n (.head 38) [m29,m32,0] (zef x0 x1 x2 x3 x4 x5 x6 x7 x8 x9)=none:=by kernel_rfl
theorem e17_L38(n:Nat)(m29:Nat)(m32:Nat)(m38:Nat)(x0:Int)(x1:Li)(x2 x3 x4 x5:Int)(x6:List ((Int×Int)×Option (List (Bool×Bool))))(x7:List (Bool×Bool))(x8 x9:List (Int×Lb×Li)):at17 n (.head 38) [m29,m32,m38+1] (zef x0 x1 x2 x3 x4 x5 x6 x7 x8 x9)=zdp n (fun x0 x1 x2 x3 x4 x5 x6 x7 x8 x9 x10 x11 x12 x13 x14=>at17 n (.head 41) [m29,m32,m38,n] (zgj x0 x1 x2 x3 x4 x5 x6 x7 x8 x9 x10 x11 x12 x13 x14)) (fun x0 x1 x2 x3 x4 x5 x6=>at17 n (.head 32) [m29,m32] (zcu x0 x1 x2 x3 x4 x5 x6)) x0 x1 x2 x3 x4 x5 x6 x7 x8 x9:=by kernel_rfl
theorem e17_L32_0(n:Nat)(m29:Nat)(x0:Int)(x1:Li)(x2 x3:Int)(x4:List ((Int×Int)×Option (List (Bool×Bool))))(x5 x6:List (Int×Lb×Li)):at17 n (.head 32) [m29,0] (zcu x0 x1 x2 x3 x4 x5 x6)=none:=by kernel_rfl
theorem e17_L32(n:Nat)(m29:Nat)(m32:Nat)(x0:Int)(x1:Li)(x2 x3:Int)(x4:List ((Int×Int)×Option (List (Bool×Bool))))(x5 x6:List (Int×Lb×Li)):at17 n (.head 32) [m29,m32+1] (zcu x0 x1 x2 x3 x4 x5 x6)=zdq n (fun x0 x1 x2 x3 x4 x5 x6 x7 x8 x9=>at17 n (.head 38) [m29,m32,n] (zef x0 x1 x2 x3 x4 x5 x6 x7 x8 x9)) (fun x0 x1 x2=>at17 n (.head 29) [m29] (zcb x0 x1 x2)) x0 x1 x2 x3 x4 x5 x6:=by kernel_rfl
theorem e17_L29_0(n:Nat)(x0:List ((Int×Int)×Option (List (Bool×Bool))))(x1 x2:List (Int×Lb×Li)):at17 n (.head 29) [0] (zcb x0 x1 x2)=none:=by kernel_rfl
theorem e17_L29(n:Nat)(m29:Nat)(x0:List ((Int×Int)×Option (List (Bool×Bool))))(x1 x2:List (Int×Lb×Li)):at17 n (.head 29) [m29+1] (zcb x0 x1 x2)=zdr n (fun x0 x1 x2 x3 x4 x5 x6=>at17 n (.head 32) [m29,n] (zcu x0 x1 x2 x3 x4 x5 x6)) x0 x1 x2:=by kernel_rfl
theorem e17_L5_0(n:Nat)(x0:List (Br))(x1 x2:Int)(x3:Lb)(x4:Li)(x5:Lb)(x6:Li)(x7:List (Br))(x8:Int)(x9:List ((Int×Int)×Option (List (Bool×Bool)))):at17 n (.head 5) [0] (zey x0 x1 x2 x3 x4 x5 x6 x7 x8 x9)=none:=by kernel_rfl
theorem e17_L5(n:Nat)(m5:Nat)(x0:List (Br))(x1 x2:Int)(x3:Lb)(x4:Li)(x5:Lb)(x6:Li)(x7:List (Br))(x8:Int)(x9:List ((Int×Int)×Option (List (Bool×Bool)))):at17 n (.head 5) [m5+1] (zey x0 x1 x2 x3 x4 x5 x6 x7 x8 x9)=zhx n (fun x0 x1 x2 x3 x4 x5 x6 x7 x8 x9=>at17 n (.head 5) [m5] (zey x0 x1 x2 x3 x4 x5 x6 x7 x8 x9)) (fun x0 x1 x2 x3 x4 x5 x6 x7 x8 x9 x10 x11 x12 x13 x14 x15=>at17 n (.head 13) [m5,n] (zgk x0 x1 x2 x3 x4 x5 x6 x7 x8 x9 x10 x11 x12 x13 x14 x15)) (fun x0 x1 x2=>at17 n (.head 29) [n] (zcb x0 x1 x2)) x0 x1 x2 x3 x4 x5 x6 x7 x8 x9:=by kernel_rfl
noncomputable def zaz(g5:(List (Br))→Int→Int→Lb→Li→Lb→Li→(List (Br))→Int→(List ((Int×Int)×Option (List (Bool×Bool))))→Option R17)(n:Nat):Nat→(List (Br))→Int→Int→Lq→Int→Int→Lb→Li→Lb→Li→(List (Br))→Int→(List ((Int×Int)×Option (List (Bool×Bool))))→Bool→Lq→Lq→Option R17
 | 0,_,_,_,_,_,_,_,_,_,_,_,_,_,_,_,_=>none
 | m+1,x0,x1,x2,x3,x4,x5,x6,x7,x8,x9,x10,x11,x12,x13,x14,x15=>zay n (zaz g5 n m) g5 x0 x1 x2 x3 x4 x5 x6 x7 x8 x9 x10 x11 x12 x13 x14 x15
noncomputable def zb4(g29:(List ((Int×Int)×Option (List (Bool×Bool))))→(List (Int×Lb×Li))→(List (Int×Lb×Li))→Option R17)(g32:Int→Li→Int→Int→(List ((Int×Int)×Option (List (Bool×Bool))))→(List (Int×Lb×Li))→(List (Int×Lb×Li))→Option R17)(g38:Int→Li→Int→Int→Int→Int→(List ((Int×Int)×Option (List (Bool×Bool))))→(List (Bool×Bool))→(List (Int×Lb×Li))→(List (Int×Lb×Li))→Option R17)(n:Nat):Nat→Int→Int→Li→Int→Int→Int→Int→Int→Int→(List ((Int×Int)×Option (List (Bool×Bool))))→(List (Bool×Bool))→Bool→Bool→(List (Int×Lb×Li))→(List (Int×Lb×Li))→Option R17
 | 0,_,_,_,_,_,_,_,_,_,_,_,_,_,_,_=>none
 | m+1,x0,x1,x2,x3,x4,x5,x6,x7,x8,x9,x10,x11,x12,x13,x14=>zdo n (zb4 g29 g32 g38 n m) g38 x0 x1 x2 x3 x4 x5 x6 x7 x8 x9 x10 x11 x12 x13 x14
noncomputable def zb5(g29:(List ((Int×Int)×Option (List (Bool×Bool))))→(List (Int×Lb×Li))→(List (Int×Lb×Li))→Option R17)(g32:Int→Li→Int→Int→(List ((Int×Int)×Option (List (Bool×Bool))))→(List (Int×Lb×Li))→(List (Int×Lb×Li))→Option R17)(n:Nat):Nat→Int→Li→Int→Int→Int→Int→(List ((Int×Int)×Option (List (Bool×Bool))))→(List (Bool×Bool))→(List (Int×Lb×Li))→(List (Int×Lb×Li))→Option R17
 | 0,_,_,_,_,_,_,_,_,_,_=>none
 | m+1,x0,x1,x2,x3,x4,x5,x6,x7,x8,x9=>zdp n (zb4 g29 g32 (zb5 g29 g32 n m) n n) g32 x0 x1 x2 x3 x4 x5 x6 x7 x8 x9
noncomputable def zcv(g29:(List ((Int×Int)×Option (List (Bool×Bool))))→(List (Int×Lb×Li))→(List (Int×Lb×Li))→Option R17)(n:Nat):Nat→Int→Li→Int→Int→(List ((Int×Int)×Option (List (Bool×Bool))))→(List (Int×Lb×Li))→(List (Int×Lb×Li))→Option R17
 | 0,_,_,_,_,_,_,_=>none
 | m+1,x0,x1,x2,x3,x4,x5,x6=>zdq n (zb5 g29 (zcv g29 n m) n n) g29 x0 x1 x2 x3 x4 x5 x6
noncomputable def ze2(n:Nat):Nat→(List ((Int×Int)×Option (List (Bool×Bool))))→(List (Int×Lb×Li))→(List (Int×Lb×Li))→Option R17
 | 0,_,_,_=>none
 | m+1,x0,x1,x2=>zdr n (zcv (ze2 n m) n n) x0 x1 x2
noncomputable def zc0(n:Nat):Nat→(List (Br))→Int→Int→Lb→Li→Lb→Li→(List (Br))→Int→(List ((Int×Int)×Option (List (Bool×Bool))))→Option R17
 | 0,_,_,_,_,_,_,_,_,_,_=>none
 | m+1,x0,x1,x2,x3,x4,x5,x6,x7,x8,x9=>zhx n (zc0 n m) (zaz (zc0 n m) n n) (ze2 n n) x0 x1 x2 x3 x4 x5 x6 x7 x8 x9
noncomputable def p17(n:Nat)(a:Mm):Option R17:=zjd n (zc0 n n) a
theorem t17_L13(n:Nat)(m5:Nat):∀ (m13:Nat) (x0:List (Br)) (x1 x2:Int) (x3:Lq) (x4 x5:Int) (x6:Lb) (x7:Li) (x8:Lb) (x9:Li) (x10:List (Br)) (x11:Int) (x12:List ((Int×Int)×Option (List (Bool×Bool)))) (x13:Bool) (x14 x15:Lq),at17 n (.head 13) [m5,m13] (zgk x0 x1 x2 x3 x4 x5 x6 x7 x8 x9 x10 x11 x12 x13 x14 x15)=zaz (fun x0 x1 x2 x3 x4 x5 x6 x7 x8 x9=>at17 n (.head 5) [m5] (zey x0 x1 x2 x3 x4 x5 x6 x7 x8 x9)) n m13 x0 x1 x2 x3 x4 x5 x6 x7 x8 x9 x10 x11 x12 x13 x14 x15:=by
 intro m
 induction m with
 | zero=>intros;rw[e17_L13_0];rfl
 | succ m ih =>
  intros
  rw[e17_L13]
  try simp only[ih]
  rfl
theorem t17_L41(n:Nat)(m29:Nat)(m32:Nat)(m38:Nat):∀ (m41:Nat) (x0 x1:Int) (x2:Li) (x3 x4 x5 x6 x7 x8:Int) (x9:List ((Int×Int)×Option (List (Bool×Bool)))) (x10:List (Bool×Bool)) (x11 x12:Bool) (x13 x14:List (Int×Lb×Li)),at17 n (.head 41) [m29,m32,m38,m41] (zgj x0 x1 x2 x3 x4 x5 x6 x7 x8 x9 x10 x11 x12 x13 x14)=zb4 (fun x0 x1 x2=>at17 n (.head 29) [m29] (zcb x0 x1 x2)) (fun x0 x1 x2 x3 x4 x5 x6=>at17 n (.head 32) [m29,m32] (zcu x0 x1 x2 x3 x4 x5 x6)) (fun x0 x1 x2 x3 x4 x5 x6 x7 x8 x9=>at17 n (.head 38) [m29,m32,m38] (zef x0 x1 x2 x3 x4 x5 x6 x7 x8 x9)) n m41 x0 x1 x2 x3 x4 x5 x6 x7 x8 x9 x10 x11 x12 x13 x14:=by
 intro m
 induction m with
 | zero=>intros;rw[e17_L41_0];rfl
 | succ m ih =>
  intros
  rw[e17_L41]
  try simp only[ih]
  rfl
theorem t17_L38(n:Nat)(m29:Nat)(m32:Nat):∀ (m38:Nat) (x0:Int) (x1:Li) (x2 x3 x4 x5:Int) (x6:List ((Int×Int)×Option (List (Bool×Bool)))) (x7:List (Bool×Bool)) (x8 x9:List (Int×Lb×Li)),at17 n (.head 38) [m29,m32,m38] (zef x0 x1 x2 x3 x4 x5 x6 x7 x8 x9)=zb5 (fun x0 x1 x2=>at17 n (.head 29) [m29] (zcb x0 x1 x2)) (fun x0 x1 x2 x3 x4 x5 x6=>at17 n (.head 32) [m29,m32] (zcu x0 x1 x2 x3 x4 x5 x6)) n m38 x0 x1 x2 x3 x4 x5 x6 x7 x8 x9:=by
 intro m
 induction m with
 | zero=>intros;rw[e17_L38_0];rfl
 | succ m ih =>
  intros
  rw[e17_L38]
  try simp only[t17_L41,ih]
  rfl
theorem t17_L32(n:Nat)(m29:Nat):∀ (m32:Nat) (x0:Int) (x1:Li) (x2 x3:Int) (x4:List ((Int×Int)×Option (List (Bool×Bool)))) (x5 x6:List (Int×Lb×Li)),at17 n (.head 32) [m29,m32] (zcu x0 x1 x2 x3 x4 x5 x6)=zcv (fun x0 x1 x2=>at17 n (.head 29) [m29] (zcb x0 x1 x2)) n m32 x0 x1 x2 x3 x4 x5 x6:=by
 intro m
 induction m with
 | zero=>intros;rw[e17_L32_0];rfl
 | succ m ih =>
  intros
  rw[e17_L32]
  try simp only[t17_L38,ih]
  rfl
theorem t17_L29(n:Nat):∀ (m29:Nat) (x0:List ((Int×Int)×Option (List (Bool×Bool)))) (x1 x2:List (Int×Lb×Li)),at17 n (.head 29) [m29] (zcb x0 x1 x2)=ze2 n m29 x0 x1 x2:=by
 intro m
 induction m with
 | zero=>intros;rw[e17_L29_0];rfl
 | succ m ih =>
  intros
  rw[e17_L29]
  try simp only[t17_L32,ih]
  rfl
theorem t17_L5(n:Nat):∀ (m5:Nat) (x0:List (Br)) (x1 x2:Int) (x3:Lb) (x4:Li) (x5:Lb) (x6:Li) (x7:List (Br)) (x8:Int) (x9:List ((Int×Int)×Option (List (Bool×Bool)))),at17 n (.head 5) [m5] (zey x0 x1 x2 x3 x4 x5 x6 x7 x8 x9)=zc0 n m5 x0 x1 x2 x3 x4 x5 x6 x7 x8 x9:=by
 intro m
 induction m with
 | zero=>intros;rw[e17_L5_0];rfl
 | succ m ih =>
  intros
  rw[e17_L5]
  try simp only[t17_L13,t17_L29,ih]
  rfl
noncomputable def q17(n:Nat)(x:argsD ps17):Option R17:=p17 n x.1
noncomputable def Sm17:Sm:=⟨ps17,rs17,false,q17⟩
theorem gam17:GamOK Try.prog G17:=by intro f s h;unfold G17 at h;split at h;exact gj h y59;exact gj h y60;exact gj h y62;exact gj h y63;exact gj h y64;exact gj h y65;cases h
theorem hh17:Hp 17 Sm17:=hOf (zac (an:=an17) (c:=c17) tt_ok gam17 mixed Try.func17 (by kernel_rfl) rfl (by decide +kernel)) fun n x=>(e17_top n x.1).trans (by simp only[t17_L5];try rfl)
theorem y17:Gk 17 Sm17:=⟨⟨Try.f17,c17,Try.func17,by kernel_rfl,by decide +kernel⟩,hh17⟩
noncomputable def c112:Code:=(Try.f112.body.getD .skip)
def an112:An:=⟨fun _=>⟨[],[]⟩,fun _ _=>none⟩
abbrev ps112:List PK:=[.val tPg true]
abbrev rs112:List RK:=[.own tPg true]
abbrev R112:=retsD rs112×outsD ps112
noncomputable def G112:Gam:=fun _=>none
noncomputable def zge(n:Nat)(a:Lb×Li):Option R112 :=
 cond (decide (((0:Nat)+List.length a.1)*(16:Nat)≤(140737488355328:Nat))) (cond (decide (((0:Nat)+List.length a.2)*(8:Nat)≤(140737488355328:Nat))) (some (((a.1,a.2),()),())) none) none
theorem e112_top(n:Nat)(a:Lb×Li):runF TT G112 an112 Try.f112 c112 ps112 rs112 n (a,())=zge n a:=by kernel_rfl
noncomputable def p112(n:Nat)(a:Lb×Li):Option R112:=zge n a
noncomputable def q112(n:Nat)(x:argsD ps112):Option R112:=p112 n x.1
noncomputable def Sm112:Sm:=⟨ps112,rs112,false,q112⟩
theorem gam112:GamOK Try.prog G112:=fun _ _ h=>by cases h
theorem hh112:Hp 112 Sm112:=hOf (zac (an:=an112) (c:=c112) tt_ok gam112 mixed Try.func112 (by kernel_rfl) rfl (by decide +kernel)) fun n x=>(e112_top n x.1).trans rfl
theorem y112:Gk 112 Sm112:=⟨⟨Try.f112,c112,Try.func112,by kernel_rfl,by decide +kernel⟩,hh112⟩
noncomputable def c113:Code:=(Try.f113.body.getD .skip)
abbrev ps113:List PK:=[.val (.row 80 tSl) false]
abbrev rs113:List RK:=[.own (.row 80 tSl) false]
abbrev R113:=retsD rs113×outsD ps113
noncomputable def p113(n:Nat)(a:Lq):Option R113:=cond (decide ((0+a.length)*(24:Nat)≤(140737488355328:Nat))) (some ((a,()),())) none
noncomputable def q113(n:Nat)(x:argsD ps113):Option R113:=p113 n x.1
noncomputable def Sm113:Sm:=⟨ps113,rs113,false,q113⟩
noncomputable def S0_113(n:Nat)(xs:Lq):St:=(initS Try.f113.ntmps ps113 (xs,())).put (some 2) (.one .nil)
noncomputable def S1_113(n:Nat)(xs:Lq):St:=(S0_113 n xs).put (some 3) (.one (.con ⟨80,tSl,xs⟩))
theorem gam0_113:GamOK Try.prog (fun _=>none):=fun f s h=>by cases h
theorem hh113:Holds Try.prog 113 Sm113:=by
 refine holds_nilq tt_ok gam0_113 mixed (an:=⟨fun _=>⟨[],[]⟩,fun _ _=>none⟩) Try.func113 (by rfl) rfl (by first | exact Try.underlying69 | kernel_rfl) (by decide +kernel) S0_113 (fun n xs=>by kernel_rfl) S1_113 (fun n xs=>by kernel_rfl) (fun n xs=>rfl) (fun n xs b=>by kernel_rfl) (fun n y h=>?_) (fun n xs y h=>?_)
 ·have h':some (([],()),())=some y:=h
  refine Eq.trans ?_ h'
  kernel_rfl
 ·have h':cond (decide ((0+xs.length)*(24:Nat)≤(140737488355328:Nat))) (some ((xs,()),())) none=some y:=h
  refine Eq.trans ?_ h'
  kernel_rfl
theorem y113:Gk 113 Sm113:=⟨⟨Try.f113,c113,Try.func113,by kernel_rfl,by decide +kernel⟩,hh113⟩
noncomputable def c50:Code:=(Try.f50.body.getD .skip)
def an50:An:=⟨fun r=>match r with | 3=>⟨[2,3,16,17,18],[(5003,71,tSp 116 80)]⟩ | _=>⟨[],[]⟩,fun _ _=>none⟩
abbrev ps50:List PK:=[.val tMem true]
abbrev rs50:List RK:=[.own tMem true]
abbrev R50:=retsD rs50×outsD ps50
noncomputable def G50:Gam:=fun f=>match f with | 87=>some Sm87 | 112=>some Sm112 | 113=>some Sm113 | _=>none
noncomputable def at50:Nat→Pt→List Nat→St→Option R50:=atF TT G50 an50 Try.f50 c50 _ _
def zj7(x0:List (Br))(x1 x2 x3 x4:Int)(x5:Lb)(x6:Li)(x7:Lb)(x8:Li)(x9:List (Br)):St:=(St.mk ([Uu,Uu,AV.one (SV.bptr 1000000 0),AV.one (SV.bptr 1000001 0),Uu,Uu,Uu,Uu,Uu,Uu,Uu,Uu,Uu,Uu,Uu,Uu,AV.one (SV.con (⟨71,ySp,x0⟩:Rw)),Ai x1,Ai x2]++Ur 19) [(1000000,(Ent.box [SV.nil,SV.nil,SV.nil,SV.nil,SV.nil,Si x3])),(1000001,(Ent.box [Sr 1000002,Sr 1000003,Sr 1000004,Sr 1000005,Sr 1000006,Si x4])),(1000002,Er ⟨9,Ty.str,x5⟩),(1000003,Er ⟨3,Ty.int .i64,x6⟩),(1000004,Er ⟨9,Ty.str,x7⟩),(1000005,Er ⟨3,Ty.int .i64,x8⟩),(1000006,Er ⟨71,ySp,x9⟩)])
noncomputable def zi3(n:Nat)(lL3:(List (Br))→Int→Int→Int→Int→Lb→Li→Lb→Li→(List (Br))→Option R50)(a:Mm):Option R50 :=
 (q112 n ((a.1.1,a.1.2),())).bind fun r0=>(q112 n ((a.2.1.1,a.2.1.2),())).bind fun r1=>lL3 a.2.2.1 ((↑(List.length a.2.2.1):Int)) (0:Int) (0:Int) a.2.2.2 r0.1.1.1 r0.1.1.2 r1.1.1.1 r1.1.1.2 ([])
noncomputable def zhv(n:Nat)(lL3:(List (Br))→Int→Int→Int→Int→Lb→Li→Lb→Li→(List (Br))→Option R50)(x0:List (Br))(x1 x2 x3 x4:Int)(x5:Lb)(x6:Li)(x7:Lb)(x8:Li)(x9:List (Br)):Option R50 :=
 cond (decide (x2<x1)) (cond (decide (0≤x2)) (cond (decide (x2<(↑x0.length:Int))) ((q87 n ((x0.getD x2.toNat (false,[],[])).2.1,())).bind fun r3=>(q113 n ((x0.getD x2.toNat (false,[],[])).2.2,())).bind fun r4=>cond (decide ((x9.length+[((x0.getD x2.toNat (false,[],[])).1,r3.1.1,r4.1.1)].length)*(56:Nat)≤(140737488355328:Nat))) (lL3 x0 x1 (IntKind.i64.wrap (x2+1)) x3 x4 x5 x6 x7 x8 (x9++[((x0.getD x2.toNat (false,[],[])).1,r3.1.1,r4.1.1)])) none) none) none) (some ((((x5,x6),((x7,x8),(x9,x4))),()),()))
theorem e50_top(n:Nat)(a:Mm):runF TT G50 an50 Try.f50 c50 ps50 rs50 n (a,())=zi3 n (fun x0 x1 x2 x3 x4 x5 x6 x7 x8 x9=>at50 n (.head 3) [n] (zj7 x0 x1 x2 x3 x4 x5 x6 x7 x8 x9)) a:=by kernel_rfl
theorem e50_L3_0(n:Nat)(x0:List (Br))(x1 x2 x3 x4:Int)(x5:Lb)(x6:Li)(x7:Lb)(x8:Li)(x9:List (Br)):at50 n (.head 3) [0] (zj7 x0 x1 x2 x3 x4 x5 x6 x7 x8 x9)=none:=by kernel_rfl
theorem e50_L3(n:Nat)(m3:Nat)(x0:List (Br))(x1 x2 x3 x4:Int)(x5:Lb)(x6:Li)(x7:Lb)(x8:Li)(x9:List (Br)):at50 n (.head 3) [m3+1] (zj7 x0 x1 x2 x3 x4 x5 x6 x7 x8 x9)=zhv n (fun x0 x1 x2 x3 x4 x5 x6 x7 x8 x9=>at50 n (.head 3) [m3] (zj7 x0 x1 x2 x3 x4 x5 x6 x7 x8 x9)) x0 x1 x2 x3 x4 x5 x6 x7 x8 x9:=by kernel_rfl
noncomputable def p50_L3(n:Nat):Nat→(List (Br))→Int→Int→Int→Int→Lb→Li→Lb→Li→(List (Br))→Option R50
 | 0,_,_,_,_,_,_,_,_,_,_=>none
 | m+1,x0,x1,x2,x3,x4,x5,x6,x7,x8,x9=>zhv n (p50_L3 n m) x0 x1 x2 x3 x4 x5 x6 x7 x8 x9
noncomputable def p50(n:Nat)(a:Mm):Option R50:=zi3 n (p50_L3 n n) a
theorem t50_L3(n:Nat):∀ (m3:Nat) (x0:List (Br)) (x1 x2 x3 x4:Int) (x5:Lb) (x6:Li) (x7:Lb) (x8:Li) (x9:List (Br)),at50 n (.head 3) [m3] (zj7 x0 x1 x2 x3 x4 x5 x6 x7 x8 x9)=p50_L3 n m3 x0 x1 x2 x3 x4 x5 x6 x7 x8 x9:=by
 intro m
 induction m with
 | zero=>intros;rw[e50_L3_0];rfl
 | succ m ih =>
  intros
  rw[e50_L3]
  try simp only[ih]
  rfl
noncomputable def q50(n:Nat)(x:argsD ps50):Option R50:=p50 n x.1
noncomputable def Sm50:Sm:=⟨ps50,rs50,false,q50⟩
theorem gam50:GamOK Try.prog G50:=by intro f s h;unfold G50 at h;split at h;exact gj h y87;exact gj h y112;exact gj h y113;cases h
theorem hh50:Hp 50 Sm50:=hOf (zac (an:=an50) (c:=c50) tt_ok gam50 mixed Try.func50 (by kernel_rfl) rfl (by decide +kernel)) fun n x=>(e50_top n x.1).trans (by simp only[t50_L3];try rfl)
theorem y50:Gk 50 Sm50:=⟨⟨Try.f50,c50,Try.func50,by kernel_rfl,by decide +kernel⟩,hh50⟩
noncomputable def c144:Code:=(Try.f144.body.getD .skip)
def an144:An:=⟨fun _=>⟨[],[]⟩,fun _ _=>none⟩
abbrev ps144:List PK:=[.val (tSp 116 80) true]
abbrev rs144:List RK:=[.val .bool false]
abbrev R144:=retsD rs144×outsD ps144
noncomputable def G144:Gam:=fun _=>none
noncomputable def st144_top(n:Nat)(a:Br):Option R144 :=
 some ((!a.1,()),())
theorem e144_top(n:Nat)(a:Br):runF TT G144 an144 Try.f144 c144 ps144 rs144 n (a,())=st144_top n a:=by kernel_rfl
noncomputable def p144(n:Nat)(a:Br):Option R144:=st144_top n a
noncomputable def q144(n:Nat)(x:argsD ps144):Option R144:=p144 n x.1
noncomputable def Sm144:Sm:=⟨ps144,rs144,false,q144⟩
theorem gam144:GamOK Try.prog G144:=fun _ _ h=>by cases h
theorem hh144:Hp 144 Sm144:=hOf (zac (an:=an144) (c:=c144) tt_ok gam144 mixed Try.func144 (by kernel_rfl) rfl (by decide +kernel)) fun n x=>(e144_top n x.1).trans rfl
theorem y144:Gk 144 Sm144:=⟨⟨Try.f144,c144,Try.func144,by kernel_rfl,by decide +kernel⟩,hh144⟩
noncomputable def c143:Code:=(Try.f143.body.getD .skip)
def an143:An:=⟨fun r=>match r with | 2=>⟨[0,1,7,8],[]⟩ | _=>⟨[],[]⟩,fun _ _=>none⟩
abbrev ps143:List PK:=[.val (.row 71 (tSp 116 80)) false,.fn 144 []]
abbrev rs143:List RK:=[.val i64 false]
abbrev R143:=retsD rs143×outsD ps143
noncomputable def G143:Gam:=fun f=>match f with | 144=>some Sm144 | _=>none
noncomputable def at143:Nat→Pt→List Nat→St→Option R143:=atF TT G143 an143 Try.f143 c143 _ _
def zgu(x0:List (Br))(x1 x2:Int):St:=(St.mk ([AV.one (SV.con (⟨71,ySp,x0⟩:Rw)),AV.fn 144 [],Uu,Uu,Uu,Uu,Uu,Ai x1,Ai x2]++Ur 10) [])
noncomputable def st143_top(n:Nat)(lL2:(List (Br))→Int→Int→Option R143)(a:List (Br))(b:Unit):Option R143 :=
 lL2 a ((↑a.length:Int)) (0:Int)
noncomputable def zd0(n:Nat)(lL2:(List (Br))→Int→Int→Option R143)(x0:List (Br))(x1 x2:Int):Option R143 :=
 cond (decide (x2<x1)) (cond (decide (0≤x2)) (cond (decide (x2<(↑x0.length:Int))) ((q144 n (((x0.getD x2.toNat (false,[],[])).1,(x0.getD x2.toNat (false,[],[])).2.1,(x0.getD x2.toNat (false,[],[])).2.2),())).bind fun r1=>cond r1.1.1 (some ((x2,()),())) (lL2 x0 x1 (IntKind.i64.wrap (x2+1)))) none) none) (some (((-1:Int),()),()))
theorem e143_top(n:Nat)(a:List (Br))(b:Unit):runF TT G143 an143 Try.f143 c143 ps143 rs143 n (a,b,())=st143_top n (fun x0 x1 x2=>at143 n (.head 2) [n] (zgu x0 x1 x2)) a b:=by kernel_rfl
theorem e143_L2_0(n:Nat)(x0:List (Br))(x1 x2:Int):at143 n (.head 2) [0] (zgu x0 x1 x2)=none:=by kernel_rfl
theorem e143_L2(n:Nat)(m2:Nat)(x0:List (Br))(x1 x2:Int):at143 n (.head 2) [m2+1] (zgu x0 x1 x2)=zd0 n (fun x0 x1 x2=>at143 n (.head 2) [m2] (zgu x0 x1 x2)) x0 x1 x2:=by kernel_rfl
noncomputable def p143_L2(n:Nat):Nat→(List (Br))→Int→Int→Option R143
 | 0,_,_,_=>none
 | m+1,x0,x1,x2=>zd0 n (p143_L2 n m) x0 x1 x2
noncomputable def p143(n:Nat)(a:List (Br))(b:Unit):Option R143:=st143_top n (p143_L2 n n) a b
theorem t143_L2(n:Nat):∀ (m2:Nat) (x0:List (Br)) (x1 x2:Int),at143 n (.head 2) [m2] (zgu x0 x1 x2)=p143_L2 n m2 x0 x1 x2:=by
 intro m
 induction m with
 | zero=>intros;rw[e143_L2_0];rfl
 | succ m ih =>
  intros
  rw[e143_L2]
  try simp only[ih]
  rfl
noncomputable def q143(n:Nat)(x:argsD ps143):Option R143:=p143 n x.1 x.2.1
noncomputable def Sm143:Sm:=⟨ps143,rs143,false,q143⟩
theorem gam143:GamOK Try.prog G143:=by intro f s h;unfold G143 at h;split at h;exact gj h y144;cases h
theorem hh143:Hp 143 Sm143:=hOf (zac (an:=an143) (c:=c143) tt_ok gam143 mixed Try.func143 (by kernel_rfl) rfl (by decide +kernel)) fun n x=>(e143_top n x.1 x.2.1).trans (by simp only[t143_L2];try rfl)
theorem y143:Gk 143 Sm143:=⟨⟨Try.f143,c143,Try.func143,by kernel_rfl,by decide +kernel⟩,hh143⟩
noncomputable def c96:Code:=(Try.f96.body.getD .skip)
def an96:An:=⟨fun _=>⟨[],[]⟩,fun _ _=>none⟩
abbrev ps96:List PK:=[.val tMem true]
abbrev rs96:List RK:=[.val i64 false]
abbrev R96:=retsD rs96×outsD ps96
noncomputable def G96:Gam:=fun f=>match f with | 143=>some Sm143 | 144=>some Sm144 | _=>none
noncomputable def ziq(n:Nat)(a:Mm):Option R96 :=
 (q143 n (a.2.2.1,(),())).bind fun r0=>some ((r0.1.1,()),())
theorem e96_top(n:Nat)(a:Mm):runF TT G96 an96 Try.f96 c96 ps96 rs96 n (a,())=ziq n a:=by kernel_rfl
noncomputable def p96(n:Nat)(a:Mm):Option R96:=ziq n a
noncomputable def q96(n:Nat)(x:argsD ps96):Option R96:=p96 n x.1
noncomputable def Sm96:Sm:=⟨ps96,rs96,false,q96⟩
theorem gam96:GamOK Try.prog G96:=by intro f s h;unfold G96 at h;split at h;exact gj h y143;exact gj h y144;cases h
theorem hh96:Hp 96 Sm96:=hOf (zac (an:=an96) (c:=c96) tt_ok gam96 mixed Try.func96 (by kernel_rfl) rfl (by decide +kernel)) fun n x=>(e96_top n x.1).trans rfl
theorem y96:Gk 96 Sm96:=⟨⟨Try.f96,c96,Try.func96,by kernel_rfl,by decide +kernel⟩,hh96⟩
noncomputable def c30:Code:=(Try.f30.body.getD .skip)
def an30:An:=⟨fun _=>⟨[],[]⟩,fun _ _=>none⟩
abbrev ps30:List PK:=[.val tMem true]
abbrev rs30:List RK:=[.own tMem true,.val i64 false,.val .bool false]
abbrev R30:=retsD rs30×outsD ps30
noncomputable def G30:Gam:=fun f=>match f with | 17=>some Sm17 | 50=>some Sm50 | 96=>some Sm96 | _=>none
noncomputable def zi_(n:Nat)(a:Mm):Option R30 :=
 (q17 n (((a.1.1,a.1.2),(a.2.1.1,a.2.1.2),a.2.2.1,a.2.2.2),())).bind fun r0=>cond (!r0.1.1) (some (((([],[]),(([],[]),([],(0:Int)))),((-1:Int),(false,()))),())) ((q96 n (((a.1.1,a.1.2),(a.2.1.1,a.2.1.2),a.2.2.1,a.2.2.2),())).bind fun r1=>cond (decide (r1.1.1<(0:Int))) (some (((([],[]),(([],[]),([],(0:Int)))),((-1:Int),(false,()))),())) ((q50 n (((a.1.1,a.1.2),(a.2.1.1,a.2.1.2),a.2.2.1,a.2.2.2),())).bind fun r2=>(q96 n (((a.1.1,a.1.2),(a.2.1.1,a.2.1.2),a.2.2.1,a.2.2.2),())).bind fun r3=>cond (decide ((0:Int)≤r3.1.1)) (cond (decide (r3.1.1<(↑(List.length r2.1.1.2.2.1):Int))) ((q96 n (((a.1.1,a.1.2),(a.2.1.1,a.2.1.2),a.2.2.1,a.2.2.2),())).bind fun r4=>some ((((r2.1.1.1.1,r2.1.1.1.2),((r2.1.1.2.1.1,r2.1.1.2.1.2),(List.set r2.1.1.2.2.1 (Int.toNat r3.1.1) (true,[],List.replicate (Int.toNat (16:Int)) ((0:Int),(0:Int),false,false)),r2.1.1.2.2.2))),(r4.1.1,(true,()))),())) none) none))
theorem e30_top(n:Nat)(a:Mm):runF TT G30 an30 Try.f30 c30 ps30 rs30 n (a,())=zi_ n a:=by kernel_rfl
noncomputable def p30(n:Nat)(a:Mm):Option R30:=zi_ n a
noncomputable def q30(n:Nat)(x:argsD ps30):Option R30:=p30 n x.1
noncomputable def Sm30:Sm:=⟨ps30,rs30,false,q30⟩
theorem gam30:GamOK Try.prog G30:=by intro f s h;unfold G30 at h;split at h;exact gj h y17;exact gj h y50;exact gj h y96;cases h
theorem hh30:Hp 30 Sm30:=hOf (zac (an:=an30) (c:=c30) tt_ok gam30 mixed Try.func30 (by kernel_rfl) rfl (by decide +kernel)) fun n x=>(e30_top n x.1).trans rfl
theorem y30:Gk 30 Sm30:=⟨⟨Try.f30,c30,Try.func30,by kernel_rfl,by decide +kernel⟩,hh30⟩
noncomputable def c49:Code:=(Try.f49.body.getD .skip)
def an49:An:=⟨fun _=>⟨[],[]⟩,fun _ _=>none⟩
abbrev ps49:List PK:=[.val tMem true,.val i64 false]
abbrev rs49:List RK:=[.val .bool false]
abbrev R49:=retsD rs49×outsD ps49
noncomputable def G49:Gam:=fun f=>match f with | 59=>some Sm59 | _=>none
noncomputable def zi4(n:Nat)(a:Mm)(b:Int):Option R49 :=
 (q59 n (b,(0:Int),IntKind.i64.wrap ((↑(List.length a.2.2.1):Int) - (1:Int)),())).bind fun r0=>cond r0.1.1 (cond (decide ((0:Int)≤b)) (cond (decide (b<(↑(List.length a.2.2.1):Int))) (some (((List.getD a.2.2.1 b.toNat (false,[],[])).1,()),())) none) none) (some ((false,()),()))
theorem e49_top(n:Nat)(a:Mm)(b:Int):runF TT G49 an49 Try.f49 c49 ps49 rs49 n (a,b,())=zi4 n a b:=by kernel_rfl
noncomputable def p49(n:Nat)(a:Mm)(b:Int):Option R49:=zi4 n a b
noncomputable def q49(n:Nat)(x:argsD ps49):Option R49:=p49 n x.1 x.2.1
noncomputable def Sm49:Sm:=⟨ps49,rs49,false,q49⟩
theorem gam49:GamOK Try.prog G49:=by intro f s h;unfold G49 at h;split at h;exact gj h y59;cases h
theorem hh49:Hp 49 Sm49:=hOf (zac (an:=an49) (c:=c49) tt_ok gam49 mixed Try.func49 (by kernel_rfl) rfl (by decide +kernel)) fun n x=>(e49_top n x.1 x.2.1).trans rfl
theorem y49:Gk 49 Sm49:=⟨⟨Try.f49,c49,Try.func49,by kernel_rfl,by decide +kernel⟩,hh49⟩
end Go.Proofs.Ytdkaagpkeomhmaa.Rx.S
namespace Go.Proofs.Ytdkaagpkeomhmaa.Rx.S
open Go Go.Proofs.Ytdkaagpkeomhmaa.Rx Go.RowKit Go.Lib Go.Proofs
set_option maxHeartbeats 4000000 in
set_option maxRecDepth 1000000 in
theorem give_nz(gp bp g b n c id:Nat)(x:Int)(w:World)(hp:w.cell? ⟨gp,bp+1,none⟩=some (.slice (some ⟨g,b,none⟩) n c))(hid:id<n)(hgp:gp≠g)
  (hc:w.cell? ⟨g,b+id,none⟩=some (.int .i64 x)) (hf:w.frozen? ⟨g,b+id,none⟩=false) (hz:(wrap64 (x - 1) == 0)=false) :
  Calls Try.prog 116 #[.pointer (some ⟨gp,bp,none⟩),.int .i64 id] w fun e w'=>e = .returned (.tuple #[]) ∧
   w'=w.setCell ⟨g,b+id,none⟩ (.int .i64 (wrap64 (x - 1))):=by
 have mixed:Try.prog.follows .mixedOrders=true:=by kernel_rfl
 have hp2:Hid (∀ v,(w.setCell ⟨g,b+id,none⟩ v).cell? ⟨gp,bp+1,none⟩=some (.slice (some ⟨g,b,none⟩) n c)):=fun v=>by
  rw[← hp];unfold World.cell? World.setCell;simp[Array.getElem?_modify,hgp,Ne.symm hgp]
 have hc2:Hid (∀ v,(w.setCell ⟨g,b+id,none⟩ v).cell? ⟨g,b+id,none⟩=some v):=fun v=>by
  exact World.cell?_setCell_same _ _ _ hc
 go_enter Try.func116,Try.ntmps116
 go_wp2
 go_end0
 exact⟨rfl,rfl⟩
set_option maxHeartbeats 4000000 in
set_option maxRecDepth 1000000 in
theorem give_z(gp bp g b n c gt bt nt ct id:Nat)(x:Int)(s:ByteArray)(w:World)(hp:w.cell? ⟨gp,bp+1,none⟩=some (.slice (some ⟨g,b,none⟩) n c))(hq:w.cell? ⟨gp,bp,none⟩=some (.slice (some ⟨gt,bt,none⟩) nt ct))(hid:id<n)(hidt:id<nt)(hgp:gp≠g)(hgt:gt≠g)
  (hc:w.cell? ⟨g,b+id,none⟩=some (.int .i64 x)) (hf:w.frozen? ⟨g,b+id,none⟩=false) (hct:w.cell? ⟨gt,bt+id,none⟩=some (.string s)) (hft:w.frozen? ⟨gt,bt+id,none⟩=false) (hz:(wrap64 (x - 1) == 0)=true) :
  Calls Try.prog 116 #[.pointer (some ⟨gp,bp,none⟩),.int .i64 id] w fun e w'=>e = .returned (.tuple #[]) ∧
   w'=(w.setCell ⟨g,b+id,none⟩ (.int .i64 (wrap64 (x - 1)))).setCell ⟨gt,bt+id,none⟩ (.string (ByteArray.mk #[])):=by
 have mixed:Try.prog.follows .mixedOrders=true:=by kernel_rfl
 have hp2:Hid (∀ v,(w.setCell ⟨g,b+id,none⟩ v).cell? ⟨gp,bp+1,none⟩=some (.slice (some ⟨g,b,none⟩) n c)):=fun v=>by
  rw[← hp];unfold World.cell? World.setCell;simp[Array.getElem?_modify,hgp,Ne.symm hgp]
 have hq2:Hid (∀ v,(w.setCell ⟨g,b+id,none⟩ v).cell? ⟨gp,bp,none⟩=some (.slice (some ⟨gt,bt,none⟩) nt ct)):=fun v=>by
  rw[← hq];unfold World.cell? World.setCell;simp[Array.getElem?_modify,hgp,Ne.symm hgp]
 have hc2:Hid (∀ v,(w.setCell ⟨g,b+id,none⟩ v).cell? ⟨g,b+id,none⟩=some v):=fun v=>by
  exact World.cell?_setCell_same _ _ _ hc
 have hct2:Hid (∀ v,(w.setCell ⟨g,b+id,none⟩ v).cell? ⟨gt,bt+id,none⟩=some (.string s)):=fun v=>by
  rw[← hct];unfold World.cell? World.setCell;simp[Array.getElem?_modify,hgt,Ne.symm hgt]
 have hft2:Hid (∀ v,(w.setCell ⟨g,b+id,none⟩ v).frozen? ⟨gt,bt+id,none⟩=false):=fun v=>by
  rw[← hft];unfold World.frozen? World.setCell;simp[Array.getElem?_modify,hgt,Ne.symm hgt]
 go_enter Try.func116,Try.ntmps116
 go_wp2
 go_end0
 exact⟨rfl,rfl⟩
end Go.Proofs.Ytdkaagpkeomhmaa.Rx.S
namespace Go.Proofs.Ytdkaagpkeomhmaa.Rx.S
open Go Go.Proofs.Ytdkaagpkeomhmaa.Rx Go.RowKit Go.Proofs
noncomputable def c4000116:Code:=(Try.f116.body.getD .skip)
abbrev zke:List PK:=[.io tPg true,.val i64 false]
abbrev rs4000116:List RK:=[]
abbrev zjp:=retsD rs4000116×outsD zke
def giveD(t:Lb)(r:Li)(at':Int):Option (Lb×Li) :=
 cond (decide (0≤at')) (cond (decide (at'<r.length)) (cond (decide (IntKind.i64.wrap (r.getD at'.toNat 0 - 1)=0))
  (cond (decide (at'<t.length)) (some (t.set at'.toNat (ByteArray.mk #[]),r.set at'.toNat (IntKind.i64.wrap (r.getD at'.toNat 0 - 1)))) none)
  (some (t,r.set at'.toNat (IntKind.i64.wrap (r.getD at'.toNat 0 - 1))))) none) none
def p4000116(n:Nat)(a:Lb×Li)(b:Int):Option zjp:=(giveD a.1 a.2 b).map fun r=>((),(r,()))
noncomputable def zjf(n:Nat)(x:argsD zke):Option zjp:=p4000116 n x.1 x.2.1
noncomputable def zdk:Sm:=⟨zke,rs4000116,false,zjf⟩
theorem zho(n:Int):wrap64 n=IntKind.i64.wrap n:=(IntWalk.i64_left n).symm
theorem RL_nil{α:Type}{R:Nat→α→List Value→List Nat→Prop}(hR:∀ i x c f,R i x c f→f=[]):∀ {xs:List α} {i:Nat} {cs:List Value} {F:List Nat},RL R i xs cs F→F=[]
 | [],_,_,_,h=>h.2
 | x::xs,i,cs,F,h=>by
  obtain⟨c1,c2,F1,F2,_,rfl,h1,h2⟩:=h
  rw[hR _ _ _ _ h1,RL_nil hR h2]
  rfl
theorem one_block{w:World}{e:TypeId}{t:Ty}{H:Path→Hd}{xs:List t.den}{v:Value}{F:List Nat}(hf:∀ (H:Nat→Path→Hd) c (x:t.den) cs f,Ow w t H c x cs f→f=[])(h:OwR w e t H xs v F)(hh:(H []).hole=false)(hc:xs≠[]):∃ g,F=[g]:=by
 unfold OwR OwRow at h
 rw[if_neg (by simp[hh])]at h
 obtain⟨hv,hl,hle,hmx,h5⟩:=h
 have:0<xs.length:=List.length_pos_iff.2 hc
 rw[if_neg (by omega)]at h5
 obtain⟨_,g,b,cells,F',_,rfl,_,_,hr⟩:=h5
 exact⟨g,by rw[RL_nil (fun i x c f h=>hf _ _ _ _ _ h) hr]⟩
theorem own_int{w:World}{H:Path→Hd}{xs:Li}{v:Value}{F:List Nat}{id:Nat}(h:OwR w 3 i64 H xs v F)(hh:(H []).hole=false)(hid:id<xs.length) :
  ∃ g b n c cells,v = .slice (some ⟨g,b,none⟩) n c∧id<n∧F=[g]∧HC w g cells 3∧cells[b+id]? = some (.int .i64 (xs.getD id 0)) ∧
   ∀ (y:Int) (w':World),HC w' g (cells.setIfInBounds (b+id) (.int .i64 y)) 3→OwR w' 3 i64 H (xs.set id y) v F:=by
 obtain⟨g1,hF1⟩:=one_block (by intro H c x cs f h;exact And.right h) h hh (by intro e;rw[e]at hid;simp at hid)
 have h0:=h
 unfold OwR OwRow at h0
 rw[if_neg (by simp[hh])]at h0
 obtain⟨hv,hl,hle,hmx,_⟩:=h0
 have hi:id<(H []).len:=by rw[← hl];exact hid
 obtain⟨g,b,u,Fa,Fs,Fb,cells,hA,hsz,hF,hg,hgc,hu,ho,hput⟩:=h.cell (b:=⟨i64,xs.getD id (0:Int)⟩) (c:=0) hh hi rfl
 obtain⟨hc,hFs⟩:=ho
 injection hc with hc _
 subst hc;subst hFs
 have s1:(i64).sz=1:=rfl
 rw[s1,Nat.mul_one,Nat.add_zero]at hu
 have hFa:Fa=[g1]∧Fb=[]:=by
  rw[hF]at hF1
  simp only[List.nil_append]at hF1
  cases Fa with
  | nil=>cases hg
  | cons a l =>
   simp only[List.cons_append,List.cons.injEq,List.append_eq_nil_iff]at hF1
   exact⟨by rw[hF1.1,hF1.2.1],hF1.2.2⟩
 obtain⟨rfl,rfl⟩:=hFa
 have hgg:g=g1:=by simpa using hg
 subst hgg
 refine⟨g,b,(H []).len,(H []).cap,cells,by rw[hv,hA],hi,hF1,hgc,hu,fun y w' hg'=>?_⟩
 have:=hput w' H y (.int .i64 y) [] y (fun b=>match b with | ⟨.int _,_⟩=>some y | _=>none) rfl rfl (fun k hk hne=>by
  have:k=g:=by simpa using hk
  exact(hne this).elim) (by rw[s1,Nat.mul_one,Nat.add_zero];exact hg') (by simp) (by simp) rfl (fun _ _ _ _=>rfl) ⟨rfl,rfl⟩
 rw[hF1]
 simpa using this
theorem own_str{w:World}{H:Path→Hd}{xs:Lb}{v:Value}{F:List Nat}{id:Nat}(h:OwR w 9 .str H xs v F)(hh:(H []).hole=false)(hid:id<xs.length) :
  ∃ g b n c cells,v = .slice (some ⟨g,b,none⟩) n c∧id<n∧F=[g]∧HC w g cells 9∧cells[b+id]? = some (.string (xs.getD id ByteArray.empty)) ∧
   ∀ (y:ByteArray) (w':World),HC w' g (cells.setIfInBounds (b+id) (.string y)) 9→OwR w' 9 .str H (xs.set id y) v F:=by
 obtain⟨g1,hF1⟩:=one_block (by intro H c x cs f h;exact And.right h) h hh (by intro e;rw[e]at hid;simp at hid)
 have h0:=h
 unfold OwR OwRow at h0
 rw[if_neg (by simp[hh])]at h0
 obtain⟨hv,hl,hle,hmx,_⟩:=h0
 have hi:id<(H []).len:=by rw[← hl];exact hid
 obtain⟨g,b,u,Fa,Fs,Fb,cells,hA,hsz,hF,hg,hgc,hu,ho,hput⟩:=h.cell (b:=⟨.str,xs.getD id ByteArray.empty⟩) (c:=0) hh hi rfl
 obtain⟨hc,hFs⟩:=ho
 injection hc with hc _
 subst hc;subst hFs
 have s1:(Ty.str).sz=1:=rfl
 rw[s1,Nat.mul_one,Nat.add_zero]at hu
 have hFa:Fa=[g1]∧Fb=[]:=by
  rw[hF]at hF1
  simp only[List.nil_append]at hF1
  cases Fa with
  | nil=>cases hg
  | cons a l =>
   simp only[List.cons_append,List.cons.injEq,List.append_eq_nil_iff]at hF1
   exact⟨by rw[hF1.1,hF1.2.1],hF1.2.2⟩
 obtain⟨rfl,rfl⟩:=hFa
 have hgg:g=g1:=by simpa using hg
 subst hgg
 refine⟨g,b,(H []).len,(H []).cap,cells,by rw[hv,hA],hi,hF1,hgc,hu,fun y w' hg'=>?_⟩
 have:=hput w' H y (.string y) [] y (fun b=>match b with | ⟨.str,_⟩=>some y | _=>none) rfl rfl (fun k hk hne=>by
  have:k=g:=by simpa using hk
  exact(hne this).elim) (by rw[s1,Nat.mul_one,Nat.add_zero];exact hg') (by simp) (by simp) rfl (fun _ _ _ _=>rfl) ⟨rfl,rfl⟩
 rw[hF1]
 simpa using this
theorem zh7{w:World}{g i:Nat}{cells:Array Value}{e:TypeId}{v:Value}(h:HC w g cells e):HC (w.setCell ⟨g,i,none⟩ v) g (cells.setIfInBounds i v) e:=by
 obtain⟨q,hq,hg⟩:=h
 rw[setCell_eq_setRow w g i cells e q v hg]
 exact HC.set (by simp) ⟨q,hq,hg⟩
theorem kp_setCell{w:World}{g i:Nat}{cells:Array Value}{e:TypeId}{v:Value}(h:HC w g cells e):Kp w (fun k=>k=g) (w.setCell ⟨g,i,none⟩ v):=by
 obtain⟨q,hq,hg⟩:=h
 rw[setCell_eq_setRow w g i cells e q v hg]
 exact zdl w g _
theorem core4000116:zex (CP Try.prog 116) zdk:=by
 rintro n w Z vs ⟨⟨tx,rf⟩,id,_⟩ Fs y hZ hlt hnd ha hF
 rcases vs with _ | ⟨v0,_ | ⟨v1,_ | ⟨v2,vs⟩⟩⟩ <;> rcases Fs with _ | ⟨F0,_ | ⟨F1,_ | ⟨F2,Fs⟩⟩⟩ <;> simp only[ArgsR,zdk,and_false]at ha
 obtain⟨⟨H,hH,arr,rfl,h0⟩,⟨rfl,_,hv1⟩,_⟩:=ha
 have hv1:[v1]=[.int .i64 id]:=hv1
 injection hv1 with hv1 _
 subst hv1
 obtain⟨c1,c2,Ft,Fr,hcs,rfl,⟨vt,rfl,ht⟩,⟨vr,rfl,hr⟩⟩:=h0
 have ht:OwR w 9 .str (H 0) tx vt Ft:=ht
 have hr:OwR w 3 i64 (H (0+(Ty.row 9 Ty.str).sz)) rf vr Fr:=hr
 have hnd0:(Ft++Fr).Nodup:=by simpa using hnd
 have hF:(giveD tx rf id).map (fun r=>(((),(r,())):zjp))=some y:=hF
 obtain⟨r,hr',rfl⟩:=Option.map_eq_some_iff.1 hF
 intro g0 b0 us vs' hvs hcell hg0 hgs
 injection hvs with hvs1 hvs2
 injection hvs1 with hvs1
 subst hvs2
 have hus:us=[vt,vr]:=by
  have:us.toArray.toList=arr.toList:=by rw[hvs1]
  rw[hcs]at this
  simpa using this
 subst hus
 have hp:=hcell 1 vr rfl
 have hq:=hcell 0 vt rfl
 rw[Nat.add_zero]at hq
 unfold giveD at hr'
 by_cases h1:0≤id
 ·by_cases h2:id<(rf.length:Int)
  ·rw[decide_eq_true h1,decide_eq_true h2]at hr'
   simp only[cond_true]at hr'
   obtain⟨i,rfl⟩:=Int.eq_ofNat_of_zero_le h1
   have hi:i<List.length (α:=Int) rf:=Int.ofNat_lt.1 h2
   simp only[Int.toNat_natCast]at hr'
   obtain⟨g,b,n',c,cells,rfl,hin,rfl,hgc,hcu,hput⟩:=own_int hr (hH _ []) hi
   have hgg:g0≠g:=by rintro rfl;exact hg0 (by simp)
   have hl:=(Array.getElem?_eq_some_iff.1 hcu).1
   have ec:w.cell? ⟨g,b+i,none⟩=some (.int .i64 (rf.getD i 0)):=by rw[hgc.cell];exact hcu
   have ef:=hgc.unfrozen hl
   have hKg:=kp_setCell (v:=.int .i64 (wrap64 (rf.getD i 0 - 1))) (i:=b+i) hgc
   have hog:=hput (IntKind.i64.wrap (rf.getD i 0 - 1)) _ (zh7 (v:=.int .i64 (IntKind.i64.wrap (rf.getD i 0 - 1))) hgc)
   have hgt':g∉Ft:=fun h=>(List.nodup_append.1 hnd0).2.2 g h g (by simp) rfl
   by_cases hz:IntKind.i64.wrap (rf.getD i 0 - 1)=0
   ·rw[decide_eq_true hz]at hr'
    simp only[cond_true]at hr'
    by_cases h3:((i:Nat):Int)<(tx.length:Int)
    ·rw[decide_eq_true h3]at hr'
     simp only[cond_true,Option.some.injEq]at hr'
     have hi3:i<List.length (α:=ByteArray) tx:=Int.ofNat_lt.1 h3
     obtain⟨gt,bt,nt,ct,cellst,rfl,hint,rfl,hgct,hcut,hputt⟩:=own_str ht (hH _ []) hi3
     have hgtg:gt≠g:=fun e=>hgt' (by rw[e];simp)
     have hlt':=(Array.getElem?_eq_some_iff.1 hcut).1
     have ect:w.cell? ⟨gt,bt+i,none⟩=some (.string (tx.getD i ByteArray.empty)):=by rw[hgct.cell];exact hcut
     have eft:=hgct.unfrozen hlt'
     have hgct1:HC (w.setCell ⟨g,b+i,none⟩ (.int .i64 (wrap64 (rf.getD i 0 - 1)))) gt cellst 9:=hgct.frame (hKg.block gt (by have:=hlt gt (by simp);exact this) hgtg)
     have hKt:=kp_setCell (v:=.string (ByteArray.mk #[])) (i:=bt+i) hgct1
     have hgc1:=zh7 (v:=.int .i64 (IntKind.i64.wrap (rf.getD i 0 - 1))) (i:=b+i) hgc
     rw[← zho]at hgc1
     have hgc2:HC ((w.setCell ⟨g,b+i,none⟩ (.int .i64 (wrap64 (rf.getD i 0 - 1)))).setCell ⟨gt,bt+i,none⟩ (.string (ByteArray.mk #[]))) g (cells.setIfInBounds (b+i) (.int .i64 (wrap64 (rf.getD i 0 - 1)))) 3 :=
      hgc1.frame (hKt.block g (Nat.lt_of_lt_of_le (hlt g (by simp)) hKg.size) (fun e=>hgtg e.symm))
     have hor:=hput (wrap64 (rf.getD i 0 - 1)) _ hgc2
     have hot:=hputt (ByteArray.mk #[]) _ (zh7 (v:=.string (ByteArray.mk #[])) (i:=bt+i) hgct1)
     refine(give_z g0 b0 g b n' c gt bt nt ct i _ _ w hp hq hin hint hgg hgtg ec ef ect eft (by rw[zho];simpa using hz)).mono ?_
     rintro e w' ⟨rfl,rfl⟩
     subst hr'
     refine⟨[],[],[[gt]++[g],[]],rfl,trivial,⟨⟨H,hH,_,rfl,?_⟩,rfl,trivial⟩,by simpa using hnd0,fun k hk=>?_,?_⟩
     ·refine⟨[_],[_],[gt],[g],hcs,rfl,⟨_,rfl,hot⟩,⟨_,rfl,?_⟩⟩
      rw[← zho]
      exact hor
     ·have hk:k=gt∨k=g:=by simpa using hk
      have hk':k<w.heap.size:=by rcases hk with rfl | rfl <;> exact hlt _ (by simp)
      exact⟨.inl (by rcases hk with rfl | rfl <;> simp),Nat.lt_of_lt_of_le hk' (Nat.le_trans hKg.size hKt.size)⟩
     ·refine⟨hKt.os.trans hKg.os,hKt.tape.trans hKg.tape,hKt.output.trans hKg.output,Nat.le_trans hKg.size hKt.size,fun k hk1 hk2=>?_⟩
      have hkg:k≠g:=fun e=>hk2 (by subst e;simp)
      have hkt:k≠gt:=fun e=>hk2 (by subst e;simp)
      exact(hKt.block k (Nat.lt_of_lt_of_le hk1 hKg.size) hkt).trans (hKg.block k hk1 hkg)
    ·rw[decide_eq_false h3]at hr';cases hr'
   ·rw[decide_eq_false hz]at hr'
    simp only[cond_false,Option.some.injEq]at hr'
    refine(give_nz g0 b0 g b n' c i _ w hp hin hgg ec ef (by rw[zho];simpa using hz)).mono ?_
    rintro e w' ⟨rfl,rfl⟩
    subst hr'
    refine⟨[],[],[Ft++[g],[]],rfl,trivial,⟨⟨H,hH,_,rfl,?_⟩,rfl,trivial⟩,by simpa using hnd0,fun k hk=>?_,?_⟩
    ·refine⟨[_],[_],Ft,[g],hcs,rfl,⟨_,rfl,?_⟩,⟨_,rfl,?_⟩⟩
     ·exact ht.frame (fun k hk=>hKg.block k (hlt k (by simp[hk])) (fun e=>hgt' (e ▸ hk)))
     ·rw[← zho]at hog
      rw[← zho]
      exact hog
    ·have hk:k∈Ft∨k=g:=by simpa using hk
     have hk':k<w.heap.size:=by rcases hk with hk | rfl;exact hlt _ (by simp[hk]);exact hlt _ (by simp)
     exact⟨.inl (by rcases hk with hk | rfl <;> simp[*]),Nat.lt_of_lt_of_le hk' hKg.size⟩
    ·refine⟨hKg.os,hKg.tape,hKg.output,hKg.size,fun k hk1 hk2=>hKg.block k hk1 (fun e=>hk2 (by subst e;simp))⟩
  ·rw[decide_eq_true h1,decide_eq_false h2]at hr';cases hr'
 ·rw[decide_eq_false h1]at hr';cases hr'
theorem hh4000116:zhn Try.prog 4000116 zdk:=core4000116
theorem y4000116:Gk 4000116 zdk:=⟨⟨Try.f116,c4000116,Try.func116,by kernel_rfl,by decide +kernel⟩,hh4000116⟩
end Go.Proofs.Ytdkaagpkeomhmaa.Rx.S
namespace Go.Proofs.Ytdkaagpkeomhmaa.Rx.S
open Go Go.RowKit Go.Proofs
set_option maxRecDepth 100000
noncomputable def c35:Code:=(Try.f35.body.getD .skip)
def an35:An:=⟨fun r=>match r with | 5=>⟨[1,4,6,26,27],[]⟩ | _=>⟨[],[]⟩,fun _ _=>none⟩
abbrev ps35:List PK:=[.val tMem true,.val i64 false]
abbrev rs35:List RK:=[.own tMem true,.val .bool false]
abbrev R35:=retsD rs35×outsD ps35
noncomputable def G35:Gam:=fun f=>match f with | 17=>some Sm17 | 49=>some Sm49 | 50=>some Sm50 | 4000116=>some zdk | _=>none
noncomputable def c35_52:Code:=(Try.f52.body.getD .skip)
noncomputable def il35:Inl:=fun f=>match f with | 52=>some (31,c35_52) | _=>none
theorem ilok35:InlOK Try.prog il35:=by
 intro f nt c h
 unfold il35 at h
 split at h
 ·injection h with h;injection h with h1 h2;subst h1;subst h2;exact⟨Try.f52,Try.func52,by kernel_rfl,by decide +kernel,by kernel_rfl,by decide +kernel⟩
 ·cases h
noncomputable def at35:Nat→Pt→List Nat→St→Option R35:=atI TT G35 il35 an35 Try.f35 c35 _ _
def zj8(x0 x1 x2 x3 x4:Int)(x5:Lb)(x6:Li)(x7:Lb)(x8:Li)(x9:List (Br)):St:=(St.mk ([Uu,Ai x0,Uu,Uu,AV.one (SV.bptr 1000000 0),Uu,AV.one (SV.bptr 1000001 0),Uu,Uu,Uu,Uu,Uu,Uu,Uu,Uu,Uu,Uu,Uu,Uu,Uu,Uu,Uu,Uu,Uu,Uu,Uu,Ai x1,Ai x2]++Ur 18) [(1000000,(Ent.box [SV.nil,SV.nil,SV.nil,SV.nil,SV.nil,Si x3])),(1000001,(Ent.box [Sr 1000002,Sr 1000003,Sr 1000004,Sr 1000005,Sr 1000006,Si x4])),(1000002,Er ⟨9,Ty.str,x5⟩),(1000003,Er ⟨3,Ty.int .i64,x6⟩),(1000004,Er ⟨9,Ty.str,x7⟩),(1000005,Er ⟨3,Ty.int .i64,x8⟩),(1000006,Er ⟨71,ySp,x9⟩)])
noncomputable def zi6(n:Nat)(lL5:Int→Int→Int→Int→Int→Lb→Li→Lb→Li→(List (Br))→Option R35)(a:Mm)(b:Int):Option R35 :=
 (q17 n (((a.1.1,a.1.2),(a.2.1.1,a.2.1.2),a.2.2.1,a.2.2.2),())).bind fun r0=>cond (!r0.1.1) (some (((([],[]),(([],[]),([],(0:Int)))),(false,())),())) ((q49 n (((a.1.1,a.1.2),(a.2.1.1,a.2.1.2),a.2.2.1,a.2.2.2),b,())).bind fun r1=>cond (!r1.1.1) (some (((([],[]),(([],[]),([],(0:Int)))),(false,())),())) ((q50 n (((a.1.1,a.1.2),(a.2.1.1,a.2.1.2),a.2.2.1,a.2.2.2),())).bind fun r2=>cond (decide ((0:Int)≤b)) (cond (decide (b<(↑(List.length r2.1.1.2.2.1):Int))) (lL5 b ((↑(List.length (List.getD r2.1.1.2.2.1 b.toNat (false,[],[])).2.2):Int)) (0:Int) (0:Int) r2.1.1.2.2.2 r2.1.1.1.1 r2.1.1.1.2 r2.1.1.2.1.1 r2.1.1.2.1.2 r2.1.1.2.2.1) none) none))
noncomputable def zhw(n:Nat)(lL5:Int→Int→Int→Int→Int→Lb→Li→Lb→Li→(List (Br))→Option R35)(x0 x1 x2 x3 x4:Int)(x5:Lb)(x6:Li)(x7:Lb)(x8:Li)(x9:List (Br)):Option R35 :=
 cond (decide (x2<x1)) (cond (decide (0≤x0)) (cond (decide (x0<(↑x9.length:Int))) (cond (decide (0≤x2)) (cond (decide (x2<(↑(List.length (x9.getD x0.toNat (false,[],[])).2.2):Int))) (cond (decide ((List.getD (x9.getD x0.toNat (false,[],[])).2.2 x2.toNat ((0:Int),(0:Int),false,false)).1=(1:Int))) ((zjf n ((x5,x6),(List.getD (x9.getD x0.toNat (false,[],[])).2.2 x2.toNat ((0:Int),(0:Int),false,false)).2.1,())).bind fun r4=>lL5 x0 x1 (IntKind.i64.wrap (x2+1)) x3 x4 r4.2.1.1 r4.2.1.2 x7 x8 (x9.set x0.toNat ((x9.getD x0.toNat (false,[],[])).1,(x9.getD x0.toNat (false,[],[])).2.1,List.set (x9.getD x0.toNat (false,[],[])).2.2 x2.toNat ((0:Int),(0:Int),false,false)))) (cond (decide ((List.getD (x9.getD x0.toNat (false,[],[])).2.2 x2.toNat ((0:Int),(0:Int),false,false)).1=(2:Int))) ((zjf n ((x7,x8),(List.getD (x9.getD x0.toNat (false,[],[])).2.2 x2.toNat ((0:Int),(0:Int),false,false)).2.1,())).bind fun r5=>lL5 x0 x1 (IntKind.i64.wrap (x2+1)) x3 x4 x5 x6 r5.2.1.1 r5.2.1.2 (x9.set x0.toNat ((x9.getD x0.toNat (false,[],[])).1,(x9.getD x0.toNat (false,[],[])).2.1,List.set (x9.getD x0.toNat (false,[],[])).2.2 x2.toNat ((0:Int),(0:Int),false,false)))) (lL5 x0 x1 (IntKind.i64.wrap (x2+1)) x3 x4 x5 x6 x7 x8 (x9.set x0.toNat ((x9.getD x0.toNat (false,[],[])).1,(x9.getD x0.toNat (false,[],[])).2.1,List.set (x9.getD x0.toNat (false,[],[])).2.2 x2.toNat ((0:Int),(0:Int),false,false)))))) none) none) none) none) (cond (decide (0≤x0)) (cond (decide (x0<(↑x9.length:Int))) (some ((((x5,x6),((x7,x8),(x9.set x0.toNat (false,[],[]),x4))),(true,())),())) none) none)
theorem e35_top(n:Nat)(a:Mm)(b:Int):runI TT G35 il35 an35 Try.f35 c35 ps35 rs35 n (a,b,())=zi6 n (fun x0 x1 x2 x3 x4 x5 x6 x7 x8 x9=>at35 n (.head 5) [n] (zj8 x0 x1 x2 x3 x4 x5 x6 x7 x8 x9)) a b:=by kernel_rfl
theorem e35_L5_0(n:Nat)(x0 x1 x2 x3 x4:Int)(x5:Lb)(x6:Li)(x7:Lb)(x8:Li)(x9:List (Br)):at35 n (.head 5) [0] (zj8 x0 x1 x2 x3 x4 x5 x6 x7 x8 x9)=none:=by kernel_rfl
theorem e35_L5(n:Nat)(m5:Nat)(x0 x1 x2 x3 x4:Int)(x5:Lb)(x6:Li)(x7:Lb)(x8:Li)(x9:List (Br)):at35 n (.head 5) [m5+1] (zj8 x0 x1 x2 x3 x4 x5 x6 x7 x8 x9)=zhw n (fun x0 x1 x2 x3 x4 x5 x6 x7 x8 x9=>at35 n (.head 5) [m5] (zj8 x0 x1 x2 x3 x4 x5 x6 x7 x8 x9)) x0 x1 x2 x3 x4 x5 x6 x7 x8 x9:=by kernel_rfl
noncomputable def p35_L5(n:Nat):Nat→Int→Int→Int→Int→Int→Lb→Li→Lb→Li→(List (Br))→Option R35
 | 0,_,_,_,_,_,_,_,_,_,_=>none
 | m+1,x0,x1,x2,x3,x4,x5,x6,x7,x8,x9=>zhw n (p35_L5 n m) x0 x1 x2 x3 x4 x5 x6 x7 x8 x9
noncomputable def p35(n:Nat)(a:Mm)(b:Int):Option R35:=zi6 n (p35_L5 n n) a b
theorem t35_L5(n:Nat):∀ (m5:Nat) (x0 x1 x2 x3 x4:Int) (x5:Lb) (x6:Li) (x7:Lb) (x8:Li) (x9:List (Br)),at35 n (.head 5) [m5] (zj8 x0 x1 x2 x3 x4 x5 x6 x7 x8 x9)=p35_L5 n m5 x0 x1 x2 x3 x4 x5 x6 x7 x8 x9:=by
 intro m
 induction m with
 | zero=>intros;rw[e35_L5_0];rfl
 | succ m ih =>
  intros
  rw[e35_L5]
  try simp only[ih]
  rfl
noncomputable def q35(n:Nat)(x:argsD ps35):Option R35:=p35 n x.1 x.2.1
noncomputable def Sm35:Sm:=⟨ps35,rs35,false,q35⟩
theorem gam35:GamOK Try.prog G35:=by intro f s h;unfold G35 at h;split at h;exact gj h y17;exact gj h y49;exact gj h y50;exact gj h y4000116;cases h
theorem hh35:Hp 35 Sm35:=hOf (holdsI_of (an:=an35) (c:=c35) tt_ok gam35 ilok35 mixed Try.func35 (by kernel_rfl) rfl (by decide +kernel)) fun n x=>(e35_top n x.1 x.2.1).trans (by simp only[t35_L5];try rfl)
theorem y35:Gk 35 Sm35:=⟨⟨Try.f35,c35,Try.func35,by kernel_rfl,by decide +kernel⟩,hh35⟩
noncomputable def c36:Code:=(Try.f36.body.getD .skip)
def an36:An:=⟨fun _=>⟨[],[]⟩,fun _ _=>none⟩
abbrev ps36:List PK:=[.val tMem true,.val i64 false]
abbrev rs36:List RK:=[.own tMem true,.val .bool false]
abbrev R36:=retsD rs36×outsD ps36
noncomputable def G36:Gam:=fun f=>match f with | 53=>some Sm53 | 54=>some Sm54 | 56=>some Sm56 | 103=>some Sm103 | _=>none
noncomputable def zi5(n:Nat)(a:Mm)(b:Int):Option R36 :=
 (q53 n (((a.1.1,a.1.2),(a.2.1.1,a.2.1.2),a.2.2.1,a.2.2.2),())).bind fun r0=>cond (!r0.1.1) (some (((([],[]),(([],[]),([],(0:Int)))),(false,())),())) ((q54 n (((a.1.1,a.1.2),(a.2.1.1,a.2.1.2),a.2.2.1,a.2.2.2),b,())).bind fun r1=>cond (!r1.1.1) (some (((([],[]),(([],[]),([],(0:Int)))),(false,())),())) ((q56 n (((a.1.1,a.1.2),(a.2.1.1,a.2.1.2),a.2.2.1,a.2.2.2),())).bind fun r2=>(q103 n (((r2.1.1.1.1,r2.1.1.1.2),(r2.1.1.2.1.1,r2.1.1.2.1.2),r2.1.1.2.2.1,r2.1.1.2.2.2),b,())).bind fun r3=>some ((((r3.1.1.1.1,r3.1.1.1.2),((r3.1.1.2.1.1,r3.1.1.2.1.2),(r3.1.1.2.2.1,r3.1.1.2.2.2))),(true,())),())))
theorem e36_top(n:Nat)(a:Mm)(b:Int):runF TT G36 an36 Try.f36 c36 ps36 rs36 n (a,b,())=zi5 n a b:=by kernel_rfl
noncomputable def p36(n:Nat)(a:Mm)(b:Int):Option R36:=zi5 n a b
noncomputable def q36(n:Nat)(x:argsD ps36):Option R36:=p36 n x.1 x.2.1
noncomputable def Sm36:Sm:=⟨ps36,rs36,false,q36⟩
theorem gam36:GamOK Try.prog G36:=by intro f s h;unfold G36 at h;split at h;exact gj h y53;exact gj h y54;exact gj h y56;exact gj h y103;cases h
theorem hh36:Hp 36 Sm36:=hOf (zac (an:=an36) (c:=c36) tt_ok gam36 mixed Try.func36 (by kernel_rfl) rfl (by decide +kernel)) fun n x=>(e36_top n x.1 x.2.1).trans rfl
theorem y36:Gk 36 Sm36:=⟨⟨Try.f36,c36,Try.func36,by kernel_rfl,by decide +kernel⟩,hh36⟩
noncomputable def c137:Code:=(Try.f137.body.getD .skip)
def an137:An:=⟨fun r=>match r with | 5=>⟨[0,1,5],[]⟩ | _=>⟨[],[]⟩,fun _ _=>none⟩
abbrev ps137:List PK:=[.val (.row 9 .str) false,.val i64 false]
abbrev rs137:List RK:=[.val i64 false]
abbrev R137:=retsD rs137×outsD ps137
noncomputable def G137:Gam:=fun _=>none
noncomputable def at137:Nat→Pt→List Nat→St→Option R137:=atF TT G137 an137 Try.f137 c137 _ _
def zgx(x0:Lb)(x1 x2:Int):St:=(St.mk ([AV.one (SV.con (⟨9,Ty.str,x0⟩:Rw)),Ai x1,Uu,Uu,Uu,Ai x2]++Ur 22) [])
noncomputable def zf_(n:Nat)(lL5:Lb→Int→Int→Option R137)(a:Lb)(b:Int):Option R137 :=
 cond (decide (IntKind.i64.wrap (b - (↑a.length:Int))<(0:Int))) (some (((-1:Int),()),())) (lL5 a (IntKind.i64.wrap (b - (↑a.length:Int))) (0:Int))
noncomputable def zd3(n:Nat)(lL5:Lb→Int→Int→Option R137)(x0:Lb)(x1 x2:Int):Option R137 :=
 cond (decide (x2<(↑x0.length:Int))) (cond (decide (0≤x2)) (cond (decide (x2<(↑x0.length:Int))) (cond (decide (IntKind.i64.wrap (x1 - (↑(ByteArray.size (x0.getD x2.toNat ByteArray.empty)):Int))<(0:Int))) (some (((-1:Int),()),())) (lL5 x0 (IntKind.i64.wrap (x1 - (↑(ByteArray.size (x0.getD x2.toNat ByteArray.empty)):Int))) (IntKind.i64.wrap (x2+1)))) none) none) (some ((x1,()),()))
theorem e137_top(n:Nat)(a:Lb)(b:Int):runF TT G137 an137 Try.f137 c137 ps137 rs137 n (a,b,())=zf_ n (fun x0 x1 x2=>at137 n (.head 5) [n] (zgx x0 x1 x2)) a b:=by kernel_rfl
theorem e137_L5_0(n:Nat)(x0:Lb)(x1 x2:Int):at137 n (.head 5) [0] (zgx x0 x1 x2)=none:=by kernel_rfl
theorem e137_L5(n:Nat)(m5:Nat)(x0:Lb)(x1 x2:Int):at137 n (.head 5) [m5+1] (zgx x0 x1 x2)=zd3 n (fun x0 x1 x2=>at137 n (.head 5) [m5] (zgx x0 x1 x2)) x0 x1 x2:=by kernel_rfl
noncomputable def zfc(n:Nat):Nat→Lb→Int→Int→Option R137
 | 0,_,_,_=>none
 | m+1,x0,x1,x2=>zd3 n (zfc n m) x0 x1 x2
noncomputable def p137(n:Nat)(a:Lb)(b:Int):Option R137:=zf_ n (zfc n n) a b
theorem t137_L5(n:Nat):∀ (m5:Nat) (x0:Lb) (x1 x2:Int),at137 n (.head 5) [m5] (zgx x0 x1 x2)=zfc n m5 x0 x1 x2:=by
 intro m
 induction m with
 | zero=>intros;rw[e137_L5_0];rfl
 | succ m ih =>
  intros
  rw[e137_L5]
  try simp only[ih]
  rfl
noncomputable def q137(n:Nat)(x:argsD ps137):Option R137:=p137 n x.1 x.2.1
noncomputable def Sm137:Sm:=⟨ps137,rs137,false,q137⟩
theorem gam137:GamOK Try.prog G137:=fun _ _ h=>by cases h
theorem hh137:Hp 137 Sm137:=hOf (zac (an:=an137) (c:=c137) tt_ok gam137 mixed Try.func137 (by kernel_rfl) rfl (by decide +kernel)) fun n x=>(e137_top n x.1 x.2.1).trans (by simp only[t137_L5];try rfl)
theorem y137:Gk 137 Sm137:=⟨⟨Try.f137,c137,Try.func137,by kernel_rfl,by decide +kernel⟩,hh137⟩
noncomputable def c138:Code:=(Try.f138.body.getD .skip)
def an138:An:=⟨fun _=>⟨[],[]⟩,fun _ _=>none⟩
abbrev ps138:List PK:=[.val (.row 3 i64) false,.val i64 false]
abbrev rs138:List RK:=[.val i64 false]
abbrev R138:=retsD rs138×outsD ps138
noncomputable def G138:Gam:=fun _=>none
noncomputable def zf9(n:Nat)(a:Li)(b:Int):Option R138 :=
 cond (decide (IntKind.i64.wrap (b - (↑a.length:Int))<(0:Int))) (some (((-1:Int),()),())) (some ((IntKind.i64.wrap (b - (↑a.length:Int)),()),()))
theorem e138_top(n:Nat)(a:Li)(b:Int):runF TT G138 an138 Try.f138 c138 ps138 rs138 n (a,b,())=zf9 n a b:=by kernel_rfl
noncomputable def p138(n:Nat)(a:Li)(b:Int):Option R138:=zf9 n a b
noncomputable def q138(n:Nat)(x:argsD ps138):Option R138:=p138 n x.1 x.2.1
noncomputable def Sm138:Sm:=⟨ps138,rs138,false,q138⟩
theorem gam138:GamOK Try.prog G138:=fun _ _ h=>by cases h
theorem hh138:Hp 138 Sm138:=hOf (zac (an:=an138) (c:=c138) tt_ok gam138 mixed Try.func138 (by kernel_rfl) rfl (by decide +kernel)) fun n x=>(e138_top n x.1 x.2.1).trans rfl
theorem y138:Gk 138 Sm138:=⟨⟨Try.f138,c138,Try.func138,by kernel_rfl,by decide +kernel⟩,hh138⟩
noncomputable def c91:Code:=(Try.f91.body.getD .skip)
def an91:An:=⟨fun _=>⟨[],[]⟩,fun _ _=>none⟩
abbrev ps91:List PK:=[.val tPg true,.val i64 false]
abbrev rs91:List RK:=[.val i64 false]
abbrev R91:=retsD rs91×outsD ps91
noncomputable def G91:Gam:=fun f=>match f with | 137=>some Sm137 | 138=>some Sm138 | _=>none
noncomputable def ziu(n:Nat)(a:Lb×Li)(b:Int):Option R91 :=
 (q137 n (a.1,b,())).bind fun r0=>cond (decide (r0.1.1<(0:Int))) (some (((-1:Int),()),())) ((q138 n (a.2,r0.1.1,())).bind fun r1=>cond (decide (r1.1.1<(0:Int))) (some (((-1:Int),()),())) (some ((r1.1.1,()),())))
theorem e91_top(n:Nat)(a:Lb×Li)(b:Int):runF TT G91 an91 Try.f91 c91 ps91 rs91 n (a,b,())=ziu n a b:=by kernel_rfl
noncomputable def p91(n:Nat)(a:Lb×Li)(b:Int):Option R91:=ziu n a b
noncomputable def q91(n:Nat)(x:argsD ps91):Option R91:=p91 n x.1 x.2.1
noncomputable def Sm91:Sm:=⟨ps91,rs91,false,q91⟩
theorem gam91:GamOK Try.prog G91:=by intro f s h;unfold G91 at h;split at h;exact gj h y137;exact gj h y138;cases h
theorem hh91:Hp 91 Sm91:=hOf (zac (an:=an91) (c:=c91) tt_ok gam91 mixed Try.func91 (by kernel_rfl) rfl (by decide +kernel)) fun n x=>(e91_top n x.1 x.2.1).trans rfl
theorem y91:Gk 91 Sm91:=⟨⟨Try.f91,c91,Try.func91,by kernel_rfl,by decide +kernel⟩,hh91⟩
noncomputable def c161:Code:=(Try.f161.body.getD .skip)
def an161:An:=⟨fun _=>⟨[],[]⟩,fun _ _=>none⟩
abbrev ps161:List PK:=[.val (.row 205 tAr) false,.val i64 false]
abbrev rs161:List RK:=[.val i64 false]
abbrev R161:=retsD rs161×outsD ps161
noncomputable def G161:Gam:=fun _=>none
noncomputable def zfz(n:Nat)(a:Lq)(b:Int):Option R161 :=
 cond (decide (IntKind.i64.wrap (b - (↑a.length:Int))<(0:Int))) (some (((-1:Int),()),())) (some ((IntKind.i64.wrap (b - (↑a.length:Int)),()),()))
theorem e161_top(n:Nat)(a:Lq)(b:Int):runF TT G161 an161 Try.f161 c161 ps161 rs161 n (a,b,())=zfz n a b:=by kernel_rfl
noncomputable def p161(n:Nat)(a:Lq)(b:Int):Option R161:=zfz n a b
noncomputable def q161(n:Nat)(x:argsD ps161):Option R161:=p161 n x.1 x.2.1
noncomputable def Sm161:Sm:=⟨ps161,rs161,false,q161⟩
theorem gam161:GamOK Try.prog G161:=fun _ _ h=>by cases h
theorem hh161:Hp 161 Sm161:=hOf (zac (an:=an161) (c:=c161) tt_ok gam161 mixed Try.func161 (by kernel_rfl) rfl (by decide +kernel)) fun n x=>(e161_top n x.1 x.2.1).trans rfl
theorem y161:Gk 161 Sm161:=⟨⟨Try.f161,c161,Try.func161,by kernel_rfl,by decide +kernel⟩,hh161⟩
noncomputable def c165:Code:=(Try.f165.body.getD .skip)
def an165:An:=⟨fun _=>⟨[],[]⟩,fun _ _=>none⟩
abbrev ps165:List PK:=[.val (.row 208 tSl) false,.val i64 false]
abbrev rs165:List RK:=[.val i64 false]
abbrev R165:=retsD rs165×outsD ps165
noncomputable def G165:Gam:=fun _=>none
noncomputable def zfv(n:Nat)(a:Lq)(b:Int):Option R165 :=
 cond (decide (IntKind.i64.wrap (b - (↑a.length:Int))<(0:Int))) (some (((-1:Int),()),())) (some ((IntKind.i64.wrap (b - (↑a.length:Int)),()),()))
theorem e165_top(n:Nat)(a:Lq)(b:Int):runF TT G165 an165 Try.f165 c165 ps165 rs165 n (a,b,())=zfv n a b:=by kernel_rfl
noncomputable def p165(n:Nat)(a:Lq)(b:Int):Option R165:=zfv n a b
noncomputable def q165(n:Nat)(x:argsD ps165):Option R165:=p165 n x.1 x.2.1
noncomputable def Sm165:Sm:=⟨ps165,rs165,false,q165⟩
theorem gam165:GamOK Try.prog G165:=fun _ _ h=>by cases h
theorem hh165:Hp 165 Sm165:=hOf (zac (an:=an165) (c:=c165) tt_ok gam165 mixed Try.func165 (by kernel_rfl) rfl (by decide +kernel)) fun n x=>(e165_top n x.1 x.2.1).trans rfl
theorem y165:Gk 165 Sm165:=⟨⟨Try.f165,c165,Try.func165,by kernel_rfl,by decide +kernel⟩,hh165⟩
noncomputable def c139:Code:=(Try.f139.body.getD .skip)
def an139:An:=⟨fun _=>⟨[],[]⟩,fun _ _=>none⟩
abbrev ps139:List PK:=[.val (tSp 205 208) true,.val i64 false]
abbrev rs139:List RK:=[.val i64 false]
abbrev R139:=retsD rs139×outsD ps139
noncomputable def G139:Gam:=fun f=>match f with | 161=>some Sm161 | 165=>some Sm165 | _=>none
noncomputable def zf8(n:Nat)(a:Br)(b:Int):Option R139 :=
 (q161 n (a.2.1,b,())).bind fun r0=>cond (decide (r0.1.1<(0:Int))) (some (((-1:Int),()),())) ((q165 n (a.2.2,r0.1.1,())).bind fun r1=>cond (decide (r1.1.1<(0:Int))) (some (((-1:Int),()),())) (some ((r1.1.1,()),())))
theorem e139_top(n:Nat)(a:Br)(b:Int):runF TT G139 an139 Try.f139 c139 ps139 rs139 n (a,b,())=zf8 n a b:=by kernel_rfl
noncomputable def p139(n:Nat)(a:Br)(b:Int):Option R139:=zf8 n a b
noncomputable def q139(n:Nat)(x:argsD ps139):Option R139:=p139 n x.1 x.2.1
noncomputable def Sm139:Sm:=⟨ps139,rs139,false,q139⟩
theorem gam139:GamOK Try.prog G139:=by intro f s h;unfold G139 at h;split at h;exact gj h y161;exact gj h y165;cases h
theorem hh139:Hp 139 Sm139:=hOf (zac (an:=an139) (c:=c139) tt_ok gam139 mixed Try.func139 (by kernel_rfl) rfl (by decide +kernel)) fun n x=>(e139_top n x.1 x.2.1).trans rfl
theorem y139:Gk 139 Sm139:=⟨⟨Try.f139,c139,Try.func139,by kernel_rfl,by decide +kernel⟩,hh139⟩
noncomputable def c92:Code:=(Try.f92.body.getD .skip)
def an92:An:=⟨fun r=>match r with | 5=>⟨[0,1,5],[]⟩ | _=>⟨[],[]⟩,fun _ _=>none⟩
abbrev ps92:List PK:=[.val (.row 174 (tSp 205 208)) false,.val i64 false]
abbrev rs92:List RK:=[.val i64 false]
abbrev R92:=retsD rs92×outsD ps92
noncomputable def G92:Gam:=fun f=>match f with | 139=>some Sm139 | _=>none
noncomputable def at92:Nat→Pt→List Nat→St→Option R92:=atF TT G92 an92 Try.f92 c92 _ _
def zj1(x0:List (Br))(x1 x2:Int):St:=(St.mk ([AV.one (SV.con (⟨174,Ty.bool.pair ((Ty.row (nat_lit 205) yAq).pair (Ty.row (nat_lit 208) yAq)),x0⟩:Rw)),Ai x1,Uu,Uu,Uu,Ai x2]++Ur 21) [])
noncomputable def zit(n:Nat)(lL5:(List (Br))→Int→Int→Option R92)(a:List (Br))(b:Int):Option R92 :=
 cond (decide (IntKind.i64.wrap (b - (↑a.length:Int))<(0:Int))) (some (((-1:Int),()),())) (lL5 a (IntKind.i64.wrap (b - (↑a.length:Int))) (0:Int))
noncomputable def zhs(n:Nat)(lL5:(List (Br))→Int→Int→Option R92)(x0:List (Br))(x1 x2:Int):Option R92 :=
 cond (decide (x2<(↑x0.length:Int))) (cond (decide (0≤x2)) (cond (decide (x2<(↑x0.length:Int))) ((q139 n (((x0.getD x2.toNat (false,[],[])).1,(x0.getD x2.toNat (false,[],[])).2.1,(x0.getD x2.toNat (false,[],[])).2.2),x1,())).bind fun r1=>cond (decide (r1.1.1<(0:Int))) (some (((-1:Int),()),())) (lL5 x0 r1.1.1 (IntKind.i64.wrap (x2+1)))) none) none) (some ((x1,()),()))
theorem e92_top(n:Nat)(a:List (Br))(b:Int):runF TT G92 an92 Try.f92 c92 ps92 rs92 n (a,b,())=zit n (fun x0 x1 x2=>at92 n (.head 5) [n] (zj1 x0 x1 x2)) a b:=by kernel_rfl
theorem e92_L5_0(n:Nat)(x0:List (Br))(x1 x2:Int):at92 n (.head 5) [0] (zj1 x0 x1 x2)=none:=by kernel_rfl
theorem e92_L5(n:Nat)(m5:Nat)(x0:List (Br))(x1 x2:Int):at92 n (.head 5) [m5+1] (zj1 x0 x1 x2)=zhs n (fun x0 x1 x2=>at92 n (.head 5) [m5] (zj1 x0 x1 x2)) x0 x1 x2:=by kernel_rfl
noncomputable def zkn(n:Nat):Nat→(List (Br))→Int→Int→Option R92
 | 0,_,_,_=>none
 | m+1,x0,x1,x2=>zhs n (zkn n m) x0 x1 x2
noncomputable def p92(n:Nat)(a:List (Br))(b:Int):Option R92:=zit n (zkn n n) a b
theorem t92_L5(n:Nat):∀ (m5:Nat) (x0:List (Br)) (x1 x2:Int),at92 n (.head 5) [m5] (zj1 x0 x1 x2)=zkn n m5 x0 x1 x2:=by
 intro m
 induction m with
 | zero=>intros;rw[e92_L5_0];rfl
 | succ m ih =>
  intros
  rw[e92_L5]
  try simp only[ih]
  rfl
noncomputable def q92(n:Nat)(x:argsD ps92):Option R92:=p92 n x.1 x.2.1
noncomputable def Sm92:Sm:=⟨ps92,rs92,false,q92⟩
theorem gam92:GamOK Try.prog G92:=by intro f s h;unfold G92 at h;split at h;exact gj h y139;cases h
theorem hh92:Hp 92 Sm92:=hOf (zac (an:=an92) (c:=c92) tt_ok gam92 mixed Try.func92 (by kernel_rfl) rfl (by decide +kernel)) fun n x=>(e92_top n x.1 x.2.1).trans (by simp only[t92_L5];try rfl)
theorem y92:Gk 92 Sm92:=⟨⟨Try.f92,c92,Try.func92,by kernel_rfl,by decide +kernel⟩,hh92⟩
noncomputable def c27:Code:=(Try.f27.body.getD .skip)
def an27:An:=⟨fun _=>⟨[],[]⟩,fun _ _=>none⟩
abbrev ps27:List PK:=[.val tLm true,.val i64 false]
abbrev rs27:List RK:=[.val i64 false]
abbrev R27:=retsD rs27×outsD ps27
noncomputable def G27:Gam:=fun f=>match f with | 91=>some Sm91 | 92=>some Sm92 | _=>none
noncomputable def zjc(n:Nat)(a:Mm)(b:Int):Option R27 :=
 (q91 n ((a.1.1,a.1.2),b,())).bind fun r0=>cond (decide (r0.1.1<(0:Int))) (some (((-1:Int),()),())) ((q91 n ((a.2.1.1,a.2.1.2),r0.1.1,())).bind fun r1=>cond (decide (r1.1.1<(0:Int))) (some (((-1:Int),()),())) ((q92 n (a.2.2.1,r1.1.1,())).bind fun r2=>cond (decide (r2.1.1<(0:Int))) (some (((-1:Int),()),())) (some ((r2.1.1,()),()))))
theorem e27_top(n:Nat)(a:Mm)(b:Int):runF TT G27 an27 Try.f27 c27 ps27 rs27 n (a,b,())=zjc n a b:=by kernel_rfl
noncomputable def p27(n:Nat)(a:Mm)(b:Int):Option R27:=zjc n a b
noncomputable def q27(n:Nat)(x:argsD ps27):Option R27:=p27 n x.1 x.2.1
noncomputable def Sm27:Sm:=⟨ps27,rs27,false,q27⟩
theorem gam27:GamOK Try.prog G27:=by intro f s h;unfold G27 at h;split at h;exact gj h y91;exact gj h y92;cases h
theorem hh27:Hp 27 Sm27:=hOf (zac (an:=an27) (c:=c27) tt_ok gam27 mixed Try.func27 (by kernel_rfl) rfl (by decide +kernel)) fun n x=>(e27_top n x.1 x.2.1).trans rfl
theorem y27:Gk 27 Sm27:=⟨⟨Try.f27,c27,Try.func27,by kernel_rfl,by decide +kernel⟩,hh27⟩
noncomputable def c140:Code:=(Try.f140.body.getD .skip)
def an140:An:=⟨fun r=>match r with | 3=>⟨[0,3,4],[]⟩ | _=>⟨[],[]⟩,fun _ _=>none⟩
abbrev ps140:List PK:=[.val (.row 9 .str) false]
abbrev rs140:List RK:=[.own (.row 9 .str) false]
abbrev R140:=retsD rs140×outsD ps140
noncomputable def G140:Gam:=fun _=>none
noncomputable def at140:Nat→Pt→List Nat→St→Option R140:=atF TT G140 an140 Try.f140 c140 _ _
def zgw(x0:Lb)(x1:Int)(x2:Lb):St:=(St.mk ([AV.one (SV.con (⟨9,Ty.str,x0⟩:Rw)),Uu,Uu,AV.one (Sr 1000000),Ai x1]++Ur 17) [(1000000,Er ⟨9,Ty.str,x2⟩)])
noncomputable def zf7(n:Nat)(lL3:Lb→Int→Lb→Option R140)(a:Lb):Option R140 :=
 cond (decide ((↑a.length:Int)*(↑(16:Nat):Int)≤(140737488355328:Int))) (lL3 a (0:Int) (List.replicate (↑a.length:Int).toNat ByteArray.empty)) none
noncomputable def zd2(n:Nat)(lL3:Lb→Int→Lb→Option R140)(x0:Lb)(x1:Int)(x2:Lb):Option R140 :=
 cond (decide (x1<(↑x0.length:Int))) (cond (decide (0≤x1)) (cond (decide (x1<(↑x0.length:Int))) (cond (decide (0≤x1)) (cond (decide (x1<(↑x2.length:Int))) (lL3 x0 (IntKind.i64.wrap (x1+1)) (x2.set x1.toNat (x0.getD x1.toNat ByteArray.empty))) none) none) none) none) (some ((x2,()),()))
theorem e140_top(n:Nat)(a:Lb):runF TT G140 an140 Try.f140 c140 ps140 rs140 n (a,())=zf7 n (fun x0 x1 x2=>at140 n (.head 3) [n] (zgw x0 x1 x2)) a:=by kernel_rfl
theorem e140_L3_0(n:Nat)(x0:Lb)(x1:Int)(x2:Lb):at140 n (.head 3) [0] (zgw x0 x1 x2)=none:=by kernel_rfl
theorem e140_L3(n:Nat)(m3:Nat)(x0:Lb)(x1:Int)(x2:Lb):at140 n (.head 3) [m3+1] (zgw x0 x1 x2)=zd2 n (fun x0 x1 x2=>at140 n (.head 3) [m3] (zgw x0 x1 x2)) x0 x1 x2:=by kernel_rfl
noncomputable def zfb(n:Nat):Nat→Lb→Int→Lb→Option R140
 | 0,_,_,_=>none
 | m+1,x0,x1,x2=>zd2 n (zfb n m) x0 x1 x2
noncomputable def p140(n:Nat)(a:Lb):Option R140:=zf7 n (zfb n n) a
theorem t140_L3(n:Nat):∀ (m3:Nat) (x0:Lb) (x1:Int) (x2:Lb),at140 n (.head 3) [m3] (zgw x0 x1 x2)=zfb n m3 x0 x1 x2:=by
 intro m
 induction m with
 | zero=>intros;rw[e140_L3_0];rfl
 | succ m ih =>
  intros
  rw[e140_L3]
  try simp only[ih]
  rfl
noncomputable def q140(n:Nat)(x:argsD ps140):Option R140:=p140 n x.1
noncomputable def Sm140:Sm:=⟨ps140,rs140,false,q140⟩
theorem gam140:GamOK Try.prog G140:=fun _ _ h=>by cases h
theorem hh140:Hp 140 Sm140:=hOf (zac (an:=an140) (c:=c140) tt_ok gam140 mixed Try.func140 (by kernel_rfl) rfl (by decide +kernel)) fun n x=>(e140_top n x.1).trans (by simp only[t140_L3];try rfl)
theorem y140:Gk 140 Sm140:=⟨⟨Try.f140,c140,Try.func140,by kernel_rfl,by decide +kernel⟩,hh140⟩
end Go.Proofs.Ytdkaagpkeomhmaa.Rx.S
