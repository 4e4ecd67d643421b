/- What the functions of this seat compute, each as a plain function on lists and numbers, with the proof that a call answers so. No condition. -/
import Derived.Test.YtdkaagpkeomhmaaProg
import Derived.KernelRfl
import Derived.Test.YtdkaagpkeomhmaaJK4
set_option linter.unusedVariables false
set_option linter.unusedSimpArgs false
namespace Go.Proofs.Ytdkaagpkeomhmaa.Rx
abbrev Aq:Type:=Int×Int×Bool×Bool
abbrev Lb:Type:=List ByteArray
abbrev Lq:Type:=List Aq
abbrev Uu:AV:=AV.undef
abbrev Li:Type:=List Int
abbrev Br:Type:=Bool×Lq×Lq
abbrev Ls:Type:=List Br
abbrev Mm:Type:=(Lb×Li)×(Lb×Li)×Ls×Int
abbrev Ur(k:Nat):List AV:=List.replicate k Uu
abbrev Ai(x:Int):AV:=.one (.int .i64 x)
abbrev Si(x:Int):SV:=.int .i64 x
abbrev Sr(o:Nat):SV:=.ref o 0 [] none
abbrev Er(r:Rw):Ent:=.row r 0 none
abbrev yAq:Ty:=.pair (.int .i64) (.pair (.int .i64) (.pair .bool .bool))
abbrev ySp:Ty:=.pair .bool (.pair (.row 116 yAq) (.row 80 yAq))
end Go.Proofs.Ytdkaagpkeomhmaa.Rx
namespace Go.Proofs.Ytdkaagpkeomhmaa.Rx.S
open Go Go.RowKit Go.Proofs
def tbl:List (TypeId×TI):=[
(2,⟨.int .i64,1,8,[.int .i64],some (.int .i64),false⟩),
(3,⟨.int .i64,1,8,[.int .i64],some (.int .i64),false⟩),
(4,⟨.bool,1,1,[.bool],some .bool,false⟩),
(5,⟨.int .u8,1,1,[.int .u8],some (.int .u8),false⟩),
(6,⟨.int .u8,1,1,[.int .u8],some (.int .u8),false⟩),
(7,⟨.struct [(0,1),(1,1),(2,1),(3,1)],4,24,[.int .i64,.int .i64,.bool,.int .u8],some (.pair (.int .i64) (.pair (.int .i64) (.pair .bool (.int .u8)))),true⟩),
(8,⟨.struct [(0,1),(1,1),(2,1),(3,1)],4,24,[.int .i64,.int .i64,.bool,.int .u8],some (.pair (.int .i64) (.pair (.int .i64) (.pair .bool (.int .u8)))),true⟩),
(9,⟨.str,1,16,[.str],some .str,false⟩),
(10,⟨.str,1,16,[.str],some .str,false⟩),
(11,⟨.str,1,16,[.str],some .str,false⟩),
(12,⟨.int .u64,1,8,[.int .u64],some (.int .u64),false⟩),
(13,⟨.struct [(0,1),(1,1)],2,24,[.str,.int .u64],some (.pair .str (.int .u64)),false⟩),
(14,⟨.struct [(0,1),(1,1)],2,24,[.str,.int .u64],some (.pair .str (.int .u64)),false⟩),
(15,⟨.ptr,1,8,[.ptr],none,false⟩),
(16,⟨.ptr,1,8,[.ptr],none,false⟩),
(17,⟨.ptr,1,8,[.ptr],none,false⟩),
(18,⟨.struct [(0,1)],1,8,[.ptr],none,false⟩),
(19,⟨.struct [(0,1)],1,8,[.ptr],none,false⟩),
(21,⟨.int .i32,1,4,[.int .i32],some (.int .i32),false⟩),
(22,⟨.slice 5,1,24,[.slice],some (.row 5 (.int .u8)),false⟩),
(23,⟨.slice 9,1,24,[.slice],some (.row 9 .str),false⟩),
(24,⟨.slice 3,1,24,[.slice],some (.row 3 (.int .i64)),false⟩),
(25,⟨.struct [(0,1),(1,1)],2,48,[.slice,.slice],some (.pair (.row 9 .str) (.row 3 (.int .i64))),false⟩),
(26,⟨.struct [(0,1),(1,1)],2,48,[.slice,.slice],some (.pair (.row 9 .str) (.row 3 (.int .i64))),false⟩),
(27,⟨.slice 71,1,24,[.slice],some (.row 71 (.pair .bool (.pair (.row 116 (.pair (.int .i64) (.pair (.int .i64) (.pair .bool .bool)))) (.row 80 (.pair (.int .i64) (.pair (.int .i64) (.pair .bool .bool))))))),false⟩),
(28,⟨.struct [(0,2),(2,2),(4,1),(5,1)],6,128,[.slice,.slice,.slice,.slice,.slice,.int .i64],some (.pair (.pair (.row 9 .str) (.row 3 (.int .i64))) (.pair (.pair (.row 9 .str) (.row 3 (.int .i64))) (.pair (.row 71 (.pair .bool (.pair (.row 116 (.pair (.int .i64) (.pair (.int .i64) (.pair .bool .bool)))) (.row 80 (.pair (.int .i64) (.pair (.int .i64) (.pair .bool .bool))))))) (.int .i64)))),false⟩),
(29,⟨.struct [(0,2),(2,2),(4,1),(5,1)],6,128,[.slice,.slice,.slice,.slice,.slice,.int .i64],some (.pair (.pair (.row 9 .str) (.row 3 (.int .i64))) (.pair (.pair (.row 9 .str) (.row 3 (.int .i64))) (.pair (.row 71 (.pair .bool (.pair (.row 116 (.pair (.int .i64) (.pair (.int .i64) (.pair .bool .bool)))) (.row 80 (.pair (.int .i64) (.pair (.int .i64) (.pair .bool .bool))))))) (.int .i64)))),false⟩),
(39,⟨.slice 165,1,24,[.slice],some (.row 165 (.pair .bool (.pair (.row 205 (.pair (.int .i64) (.pair (.int .i64) (.pair .bool .bool)))) (.pair (.row 3 (.int .i64)) (.row 9 .str))))),false⟩),
(40,⟨.struct [(0,1)],1,24,[.slice],some (.row 165 (.pair .bool (.pair (.row 205 (.pair (.int .i64) (.pair (.int .i64) (.pair .bool .bool)))) (.pair (.row 3 (.int .i64)) (.row 9 .str))))),false⟩),
(41,⟨.struct [(0,1)],1,24,[.slice],some (.row 165 (.pair .bool (.pair (.row 205 (.pair (.int .i64) (.pair (.int .i64) (.pair .bool .bool)))) (.pair (.row 3 (.int .i64)) (.row 9 .str))))),false⟩),
(43,⟨.slice 75,1,24,[.slice],some (.row 75 (.pair .bool (.pair (.row 116 (.pair (.int .i64) (.pair (.int .i64) (.pair .bool .bool)))) (.pair (.row 3 (.int .i64)) (.row 9 .str))))),false⟩),
(44,⟨.struct [(0,1)],1,24,[.slice],some (.row 75 (.pair .bool (.pair (.row 116 (.pair (.int .i64) (.pair (.int .i64) (.pair .bool .bool)))) (.pair (.row 3 (.int .i64)) (.row 9 .str))))),false⟩),
(45,⟨.struct [(0,1)],1,24,[.slice],some (.row 75 (.pair .bool (.pair (.row 116 (.pair (.int .i64) (.pair (.int .i64) (.pair .bool .bool)))) (.pair (.row 3 (.int .i64)) (.row 9 .str))))),false⟩),
(55,⟨.struct [(0,1),(1,1)],2,48,[.slice,.slice],some (.pair (.row 9 .str) (.row 3 (.int .i64))),false⟩),
(56,⟨.slice 174,1,24,[.slice],some (.row 174 (.pair .bool (.pair (.row 205 (.pair (.int .i64) (.pair (.int .i64) (.pair .bool .bool)))) (.row 208 (.pair (.int .i64) (.pair (.int .i64) (.pair .bool .bool))))))),false⟩),
(57,⟨.struct [(0,2),(2,2),(4,1),(5,1)],6,128,[.slice,.slice,.slice,.slice,.slice,.int .i64],some (.pair (.pair (.row 9 .str) (.row 3 (.int .i64))) (.pair (.pair (.row 9 .str) (.row 3 (.int .i64))) (.pair (.row 174 (.pair .bool (.pair (.row 205 (.pair (.int .i64) (.pair (.int .i64) (.pair .bool .bool)))) (.row 208 (.pair (.int .i64) (.pair (.int .i64) (.pair .bool .bool))))))) (.int .i64)))),false⟩),
(58,⟨.struct [(0,2),(2,2),(4,1),(5,1)],6,128,[.slice,.slice,.slice,.slice,.slice,.int .i64],some (.pair (.pair (.row 9 .str) (.row 3 (.int .i64))) (.pair (.pair (.row 9 .str) (.row 3 (.int .i64))) (.pair (.row 174 (.pair .bool (.pair (.row 205 (.pair (.int .i64) (.pair (.int .i64) (.pair .bool .bool)))) (.row 208 (.pair (.int .i64) (.pair (.int .i64) (.pair .bool .bool))))))) (.int .i64)))),false⟩),
(68,⟨.slice 116,1,24,[.slice],some (.row 116 (.pair (.int .i64) (.pair (.int .i64) (.pair .bool .bool)))),false⟩),
(69,⟨.slice 80,1,24,[.slice],some (.row 80 (.pair (.int .i64) (.pair (.int .i64) (.pair .bool .bool)))),false⟩),
(70,⟨.struct [(0,1),(1,1),(2,1)],3,56,[.bool,.slice,.slice],some (.pair .bool (.pair (.row 116 (.pair (.int .i64) (.pair (.int .i64) (.pair .bool .bool)))) (.row 80 (.pair (.int .i64) (.pair (.int .i64) (.pair .bool .bool)))))),false⟩),
(71,⟨.struct [(0,1),(1,1),(2,1)],3,56,[.bool,.slice,.slice],some (.pair .bool (.pair (.row 116 (.pair (.int .i64) (.pair (.int .i64) (.pair .bool .bool)))) (.row 80 (.pair (.int .i64) (.pair (.int .i64) (.pair .bool .bool)))))),false⟩),
(74,⟨.struct [(0,1),(1,1),(2,1),(3,1)],4,80,[.bool,.slice,.slice,.slice],some (.pair .bool (.pair (.row 116 (.pair (.int .i64) (.pair (.int .i64) (.pair .bool .bool)))) (.pair (.row 3 (.int .i64)) (.row 9 .str)))),false⟩),
(75,⟨.struct [(0,1),(1,1),(2,1),(3,1)],4,80,[.bool,.slice,.slice,.slice],some (.pair .bool (.pair (.row 116 (.pair (.int .i64) (.pair (.int .i64) (.pair .bool .bool)))) (.pair (.row 3 (.int .i64)) (.row 9 .str)))),false⟩),
(79,⟨.struct [(0,1),(1,1),(2,1),(3,1)],4,24,[.int .i64,.int .i64,.bool,.bool],some (.pair (.int .i64) (.pair (.int .i64) (.pair .bool .bool))),true⟩),
(80,⟨.struct [(0,1),(1,1),(2,1),(3,1)],4,24,[.int .i64,.int .i64,.bool,.bool],some (.pair (.int .i64) (.pair (.int .i64) (.pair .bool .bool))),true⟩),
(86,⟨.ptr,1,8,[.ptr],none,false⟩),
(96,⟨.ptr,1,8,[.ptr],none,false⟩),
(105,⟨.map 107 108,1,8,[.map],none,false⟩),
(107,⟨.arr 2 3,2,16,[.int .i64,.int .i64],none,false⟩),
(108,⟨.slice 110,1,24,[.slice],some (.row 110 (.pair .bool .bool)),false⟩),
(109,⟨.struct [(0,1),(1,1)],2,2,[.bool,.bool],some (.pair .bool .bool),true⟩),
(110,⟨.struct [(0,1),(1,1)],2,2,[.bool,.bool],some (.pair .bool .bool),true⟩),
(111,⟨.map 3 26,1,8,[.map],none,false⟩),
(115,⟨.struct [(0,1),(1,1),(2,1),(3,1)],4,24,[.int .i64,.int .i64,.bool,.bool],some (.pair (.int .i64) (.pair (.int .i64) (.pair .bool .bool))),true⟩),
(116,⟨.struct [(0,1),(1,1),(2,1),(3,1)],4,24,[.int .i64,.int .i64,.bool,.bool],some (.pair (.int .i64) (.pair (.int .i64) (.pair .bool .bool))),true⟩),
(120,⟨.ptr,1,8,[.ptr],none,false⟩),
(127,⟨.struct [(0,1),(1,1)],2,16,[.int .i64,.int .i64],some (.pair (.int .i64) (.int .i64)),true⟩),
(128,⟨.struct [(0,1),(1,1)],2,16,[.int .i64,.int .i64],some (.pair (.int .i64) (.int .i64)),true⟩),
(146,⟨.struct [(0,1),(1,1)],2,32,[.slice,.int .i64],some (.pair (.row 5 (.int .u8)) (.int .i64)),false⟩),
(147,⟨.struct [(0,1),(1,1)],2,32,[.slice,.int .i64],some (.pair (.row 5 (.int .u8)) (.int .i64)),false⟩),
(154,⟨.ptr,1,8,[.ptr],none,false⟩),
(163,⟨.slice 205,1,24,[.slice],some (.row 205 (.pair (.int .i64) (.pair (.int .i64) (.pair .bool .bool)))),false⟩),
(164,⟨.struct [(0,1),(1,1),(2,1),(3,1)],4,80,[.bool,.slice,.slice,.slice],some (.pair .bool (.pair (.row 205 (.pair (.int .i64) (.pair (.int .i64) (.pair .bool .bool)))) (.pair (.row 3 (.int .i64)) (.row 9 .str)))),false⟩),
(165,⟨.struct [(0,1),(1,1),(2,1),(3,1)],4,80,[.bool,.slice,.slice,.slice],some (.pair .bool (.pair (.row 205 (.pair (.int .i64) (.pair (.int .i64) (.pair .bool .bool)))) (.pair (.row 3 (.int .i64)) (.row 9 .str)))),false⟩),
(172,⟨.slice 208,1,24,[.slice],some (.row 208 (.pair (.int .i64) (.pair (.int .i64) (.pair .bool .bool)))),false⟩),
(173,⟨.struct [(0,1),(1,1),(2,1)],3,56,[.bool,.slice,.slice],some (.pair .bool (.pair (.row 205 (.pair (.int .i64) (.pair (.int .i64) (.pair .bool .bool)))) (.row 208 (.pair (.int .i64) (.pair (.int .i64) (.pair .bool .bool)))))),false⟩),
(174,⟨.struct [(0,1),(1,1),(2,1)],3,56,[.bool,.slice,.slice],some (.pair .bool (.pair (.row 205 (.pair (.int .i64) (.pair (.int .i64) (.pair .bool .bool)))) (.row 208 (.pair (.int .i64) (.pair (.int .i64) (.pair .bool .bool)))))),false⟩),
(186,⟨.ptr,1,8,[.ptr],none,false⟩),
(205,⟨.struct [(0,1),(1,1),(2,1),(3,1)],4,24,[.int .i64,.int .i64,.bool,.bool],some (.pair (.int .i64) (.pair (.int .i64) (.pair .bool .bool))),true⟩),
(208,⟨.struct [(0,1),(1,1),(2,1),(3,1)],4,24,[.int .i64,.int .i64,.bool,.bool],some (.pair (.int .i64) (.pair (.int .i64) (.pair .bool .bool))),true⟩),
(211,⟨.struct [(0,1),(1,1),(2,1),(3,1)],4,40,[.ptr,.ptr,.ptr,.str],none,false⟩),
(212,⟨.struct [(0,1),(1,1),(2,1),(3,1)],4,40,[.ptr,.ptr,.ptr,.str],none,false⟩),
(214,⟨.struct [(0,0)],0,0,[],none,false⟩),
(215,⟨.struct [(0,0)],0,0,[],none,false⟩),
(216,⟨.int .u32,1,4,[.int .u32],some (.int .u32),false⟩),
(217,⟨.int .u8,1,1,[.int .u8],some (.int .u8),false⟩),
(218,⟨.int .u8,1,1,[.int .u8],some (.int .u8),false⟩),
(220,⟨.ptr,1,8,[.ptr],none,false⟩),
(221,⟨.int .i32,1,4,[.int .i32],some (.int .i32),false⟩),
(222,⟨.int .i32,1,4,[.int .i32],some (.int .i32),false⟩),
(225,⟨.other,1,8,[.ptr],none,false⟩)]
def TT:TB:=tbOf tbl
theorem zax:TBok Try.prog TT:=tbOk (by decide +kernel)
abbrev i64:Ty:=.int .i64
abbrev tAr:Ty:=.pair i64 (.pair i64 (.pair .bool .bool))
abbrev tRd:Ty:=.pair (.row 5 (.int .u8)) i64
abbrev tSl:Ty:=.pair i64 (.pair i64 (.pair .bool .bool))
abbrev tPg:Ty:=.pair (.row 9 .str) (.row 3 i64)
abbrev tSp(a s:TypeId):Ty:=.pair .bool (.pair (.row a tAr) (.row s tSl))
abbrev tMem:Ty:=.pair tPg (.pair tPg (.pair (.row 71 (tSp 116 80)) i64))
theorem zaw:Try.prog.follows .mixedOrders=true:=by kernel_rfl
abbrev Hp(f:FuncId)(s:Sm):Prop:=zij Try.prog f s
theorem hOf{P:Program}{f:FuncId}{ps:List PK}{rs:List RK}{b:Bool}{F q:Nat→zap ps→Option (zam rs×zak ps)}(h:zij P f ⟨ps,rs,b,F⟩)(e:∀ n x,F n x=q n x):zij P f ⟨ps,rs,b,q⟩:=by
 have:F=q:=funext fun n=>funext (e n)
 subst this;exact h
def Gk (f:FuncId) (s:Sm):Prop:=(∃ fn c,Try.prog.funcs[f % 1000000]?=some fn ∧ fn.body=some c ∧ (fn.name == "runtime.NumGoroutine")=false) ∧ zek Try.prog f s
theorem gj {f:FuncId} {s t:Sm} (h:some s=some t) (y:Gk f s):(∃ fn c,Try.prog.funcs[f % 1000000]?=some fn ∧ fn.body=some c ∧ (fn.name == "runtime.NumGoroutine")=false) ∧ zek Try.prog f t:=by
 injection h with h;subst h;exact y
end Go.Proofs.Ytdkaagpkeomhmaa.Rx.S
namespace Go.Proofs.Ytdkaagpkeomhmaa.Rx.S
open Go Go.RowKit Go.Proofs
set_option maxRecDepth 100000
noncomputable def c69:Code:=(Try.f69.body.getD .skip)
def an69:An:=⟨fun _=>⟨[],[]⟩,fun _ _=>none⟩
abbrev ps69:List PK:=[.val i64 false,.val i64 false,.val i64 false]
abbrev rs69:List RK:=[.val .bool false]
abbrev R69:=zam rs69×zak ps69
noncomputable def G69:Gam:=fun _=>none
noncomputable def zi0(n:Nat)(a:Int)(b:Int)(c:Int):Option R69 :=
 cond (decide (b≤a)) (some ((decide (a≤c),()),())) (some ((false,()),()))
theorem yi2(n:Nat)(a:Int)(b:Int)(c:Int):runF TT G69 an69 Try.f69 c69 ps69 rs69 n (a,b,c,())=zi0 n a b c:=by kernel_rfl
noncomputable def p69(n:Nat)(a:Int)(b:Int)(c:Int):Option R69:=zi0 n a b c
noncomputable def q69(n:Nat)(x:zap ps69):Option R69:=p69 n x.1 x.2.1 x.2.2.1
noncomputable def Sm69:Sm:=⟨ps69,rs69,false,q69⟩
theorem gam69:GamOK Try.prog G69:=fun _ _ h=>by cases h
theorem hh69:Hp 69 Sm69:=hOf (zaf (an:=an69) (c:=c69) zax gam69 zaw Try.func69 (by kernel_rfl) rfl (by decide +kernel)) fun n x=>(yi2 n x.1 x.2.1 x.2.2.1).trans rfl
theorem y69:Gk 69 Sm69:=⟨⟨Try.f69,c69,Try.func69,by kernel_rfl,by decide +kernel⟩,hh69⟩
noncomputable def c117:Code:=(Try.f117.body.getD .skip)
def yk9:An:=⟨fun r=>match r with|4=>⟨[1,3],[]⟩|_=>⟨[],[]⟩,fun _ _=>none⟩
abbrev yb6:List PK:=[.val tPg true]
abbrev yhr:List RK:=[.val .bool false]
abbrev R117:=zam yhr×zak yb6
noncomputable def G117:Gam:=fun f=>match f with|69=>some Sm69|_=>none
noncomputable def zzo:Nat→Pt→List Nat→St→Option R117:=atF TT G117 yk9 Try.f117 c117 _ _
def zg7(x0:Int)(x1:Lb)(x2:Li):St:=(St.mk ([Uu,AV.one (SV.bptr 1000000 0),Uu,Ai x0]++Ur 45) [(1000000,(Ent.box [SV.con (⟨9,Ty.str,x1⟩:Rw),SV.con (⟨3,Ty.int .i64,x2⟩:Rw)]))])
noncomputable def zbr(n:Nat)(lL4:Int→Lb→Li→Option R117)(a:Lb×Li):Option R117 :=
 cond (!decide ((↑(List.length a.1):Int)=(↑(List.length a.2):Int))) (some ((false,()),())) ((q69 n ((↑(List.length a.1):Int),(1:Int),(12:Int),())).bind fun r0=>cond (!r0.1.1) (some ((false,()),())) (lL4 (0:Int) a.1 a.2))
noncomputable def zcf(n:Nat)(lL4:Int→Lb→Li→Option R117)(x0:Int)(x1:Lb)(x2:Li):Option R117 :=
 cond (decide (x0<(↑x1.length:Int))) (cond (decide (0≤x0)) (cond (decide (x0<(↑x2.length:Int))) (cond (decide (x2.getD x0.toNat (0:Int)=(0:Int))) (cond (decide (0≤x0)) (cond (decide (x0<(↑x2.length:Int))) ((q69 n (x2.getD x0.toNat (0:Int),(0:Int),(99:Int),())).bind fun r2=>cond (!r2.1.1) (some ((false,()),())) (cond (decide (0≤x0)) (cond (decide (x0<(↑x1.length:Int))) (cond (!decide ((↑(ByteArray.size (x1.getD x0.toNat ByteArray.empty)):Int)=(0:Int))) (some ((false,()),())) (lL4 (IntKind.i64.wrap (x0+1)) x1 x2)) none) none)) none) none) (cond (decide (0≤x0)) (cond (decide (x0<(↑x2.length:Int))) ((q69 n (x2.getD x0.toNat (0:Int),(0:Int),(99:Int),())).bind fun r3=>cond (!r3.1.1) (some ((false,()),())) (cond (decide (0≤x0)) (cond (decide (x0<(↑x1.length:Int))) (cond (!decide ((↑(ByteArray.size (x1.getD x0.toNat ByteArray.empty)):Int)=(4:Int))) (some ((false,()),())) (lL4 (IntKind.i64.wrap (x0+1)) x1 x2)) none) none)) none) none)) none) none) (some ((true,()),()))
theorem yeh(n:Nat)(a:Lb×Li):runF TT G117 yk9 Try.f117 c117 yb6 yhr n (a,())=zbr n (fun x0 x1 x2=>zzo n (.head 4) [n] (zg7 x0 x1 x2)) a:=by kernel_rfl
theorem zy2(n:Nat)(x0:Int)(x1:Lb)(x2:Li):zzo n (.head 4) [0] (zg7 x0 x1 x2)=none:=by kernel_rfl
theorem ykf(n:Nat)(m4:Nat)(x0:Int)(x1:Lb)(x2:Li):zzo n (.head 4) [m4+1] (zg7 x0 x1 x2)=zcf n (fun x0 x1 x2=>zzo n (.head 4) [m4] (zg7 x0 x1 x2)) x0 x1 x2:=by kernel_rfl
noncomputable def zdt(n:Nat):Nat→Int→Lb→Li→Option R117
 |0,_,_,_=>none
 |m+1,x0,x1,x2=>zcf n (zdt n m) x0 x1 x2
noncomputable def p117(n:Nat)(a:Lb×Li):Option R117:=zbr n (zdt n n) a
theorem ygs(n:Nat):∀ (m4:Nat) (x0:Int) (x1:Lb) (x2:Li),zzo n (.head 4) [m4] (zg7 x0 x1 x2)=zdt n m4 x0 x1 x2:=by
 intro m
 induction m with
 |zero=>intros;rw[zy2];rfl
 |succ m ih =>
  intros
  rw[ykf]
  try simp only[ih]
  rfl
noncomputable def q117(n:Nat)(x:zap yb6):Option R117:=p117 n x.1
noncomputable def ylw:Sm:=⟨yb6,yhr,false,q117⟩
theorem yof:GamOK Try.prog G117:=by intro f s h;unfold G117 at h;split at h;exact gj h y69;cases h
theorem hh117:Hp 117 ylw:=hOf (zaf (an:=yk9) (c:=c117) zax yof zaw Try.func117 (by kernel_rfl) rfl (by decide +kernel)) fun n x=>(yeh n x.1).trans (by simp only[ygs];try rfl)
theorem y117:Gk 117 ylw:=⟨⟨Try.f117,c117,Try.func117,by kernel_rfl,by decide +kernel⟩,hh117⟩
noncomputable def c71:Code:=(Try.f71.body.getD .skip)
def an71:An:=⟨fun r=>match r with|2=>⟨[0,1,5],[]⟩|_=>⟨[],[]⟩,fun _ _=>none⟩
abbrev ps71:List PK:=[.val (.row 116 tAr) false,.val i64 false]
abbrev rs71:List RK:=[.val i64 false]
abbrev R71:=zam rs71×zak ps71
noncomputable def G71:Gam:=fun f=>match f with|69=>some Sm69|_=>none
noncomputable def at71:Nat→Pt→List Nat→St→Option R71:=atF TT G71 an71 Try.f71 c71 _ _
def zka(x0:Lq)(x1 x2:Int):St:=(St.mk ([AV.one (SV.con (⟨116,yAq,x0⟩:Rw)),Ai x1,Uu,Uu,Uu,Ai x2]++Ur 26) [])
noncomputable def ztf(n:Nat)(lL2:Lq→Int→Int→Option R71)(a:Lq)(b:Int):Option R71 :=
 lL2 a b (0:Int)
noncomputable def zhq(n:Nat)(lL2:Lq→Int→Int→Option R71)(x0:Lq)(x1 x2:Int):Option R71 :=
 cond (decide (x2<(↑x0.length:Int))) (cond (decide (0≤x2)) (cond (decide (x2<(↑x0.length:Int))) (cond (decide (0≤x2)) (cond (decide (x2<(↑x0.length:Int))) (cond (decide (0≤x2)) (cond (decide (x2<(↑x0.length:Int))) ((q69 n (x1,(x0.getD x2.toNat ((0:Int),(0:Int),false,false)).1,IntKind.i64.wrap (IntKind.i64.wrap ((x0.getD x2.toNat ((0:Int),(0:Int),false,false)).1+(x0.getD x2.toNat ((0:Int),(0:Int),false,false)).2.1) - (1:Int)),())).bind fun r1=>cond r1.1.1 (some ((x2,()),())) (lL2 x0 x1 (IntKind.i64.wrap (x2+1)))) none) none) none) none) none) none) (some (((-1:Int),()),()))
theorem yi1(n:Nat)(a:Lq)(b:Int):runF TT G71 an71 Try.f71 c71 ps71 rs71 n (a,b,())=ztf n (fun x0 x1 x2=>at71 n (.head 2) [n] (zka x0 x1 x2)) a b:=by kernel_rfl
theorem yc9(n:Nat)(x0:Lq)(x1 x2:Int):at71 n (.head 2) [0] (zka x0 x1 x2)=none:=by kernel_rfl
theorem yot(n:Nat)(m2:Nat)(x0:Lq)(x1 x2:Int):at71 n (.head 2) [m2+1] (zka x0 x1 x2)=zhq n (fun x0 x1 x2=>at71 n (.head 2) [m2] (zka x0 x1 x2)) x0 x1 x2:=by kernel_rfl
noncomputable def zt1(n:Nat):Nat→Lq→Int→Int→Option R71
 |0,_,_,_=>none
 |m+1,x0,x1,x2=>zhq n (zt1 n m) x0 x1 x2
noncomputable def p71(n:Nat)(a:Lq)(b:Int):Option R71:=ztf n (zt1 n n) a b
theorem yma(n:Nat):∀ (m2:Nat) (x0:Lq) (x1 x2:Int),at71 n (.head 2) [m2] (zka x0 x1 x2)=zt1 n m2 x0 x1 x2:=by
 intro m
 induction m with
 |zero=>intros;rw[yc9];rfl
 |succ m ih =>
  intros
  rw[yot]
  try simp only[ih]
  rfl
noncomputable def q71(n:Nat)(x:zap ps71):Option R71:=p71 n x.1 x.2.1
noncomputable def Sm71:Sm:=⟨ps71,rs71,false,q71⟩
theorem gam71:GamOK Try.prog G71:=by intro f s h;unfold G71 at h;split at h;exact gj h y69;cases h
theorem hh71:Hp 71 Sm71:=hOf (zaf (an:=an71) (c:=c71) zax gam71 zaw Try.func71 (by kernel_rfl) rfl (by decide +kernel)) fun n x=>(yi1 n x.1 x.2.1).trans (by simp only[yma];try rfl)
theorem y71:Gk 71 Sm71:=⟨⟨Try.f71,c71,Try.func71,by kernel_rfl,by decide +kernel⟩,hh71⟩
noncomputable def c158:Code:=(Try.f158.body.getD .skip)
def ypg:An:=⟨fun _=>⟨[],[]⟩,fun _ _=>none⟩
abbrev ybn:List PK:=[.val tAr true]
abbrev yg9:List RK:=[.val .bool false]
abbrev R158:=zam yg9×zak ybn
noncomputable def G158:Gam:=fun f=>match f with|69=>some Sm69|_=>none
noncomputable def zdd(n:Nat)(a:Aq):Option R158 :=
 (q69 n (a.1,(0:Int),(15:Int),())).bind fun r0=>cond r0.1.1 ((q69 n (a.2.1,(1:Int),IntKind.i64.wrap ((16:Int) - a.1),())).bind fun r1=>some ((r1.1.1,()),())) (some ((false,()),()))
theorem ydy(n:Nat)(a:Aq):runF TT G158 ypg Try.f158 c158 ybn yg9 n (a,())=zdd n a:=by kernel_rfl
noncomputable def p158(n:Nat)(a:Aq):Option R158:=zdd n a
noncomputable def q158(n:Nat)(x:zap ybn):Option R158:=p158 n x.1
noncomputable def zz8:Sm:=⟨ybn,yg9,false,q158⟩
theorem ynx:GamOK Try.prog G158:=by intro f s h;unfold G158 at h;split at h;exact gj h y69;cases h
theorem hh158:Hp 158 zz8:=hOf (zaf (an:=ypg) (c:=c158) zax ynx zaw Try.func158 (by kernel_rfl) rfl (by decide +kernel)) fun n x=>(ydy n x.1).trans rfl
theorem y158:Gk 158 zz8:=⟨⟨Try.f158,c158,Try.func158,by kernel_rfl,by decide +kernel⟩,hh158⟩
noncomputable def c127:Code:=(Try.f127.body.getD .skip)
def yk4:An:=⟨fun r=>match r with|2=>⟨[0,3],[]⟩|_=>⟨[],[]⟩,fun _ _=>none⟩
abbrev ybx:List PK:=[.val (.row 116 tAr) false]
abbrev yhi:List RK:=[.val .bool false]
abbrev R127:=zam yhi×zak ybx
noncomputable def G127:Gam:=fun f=>match f with|158=>some zz8|_=>none
noncomputable def zzl:Nat→Pt→List Nat→St→Option R127:=atF TT G127 yk4 Try.f127 c127 _ _
def zg2(x0:Lq)(x1:Int):St:=(St.mk ([AV.one (SV.con (⟨116,yAq,x0⟩:Rw)),Uu,Uu,Ai x1]++Ur 40) [])
noncomputable def zp0(n:Nat)(lL2:Lq→Int→Option R127)(a:Lq):Option R127 :=
 lL2 a (0:Int)
noncomputable def zbb(n:Nat)(lL2:Lq→Int→Option R127)(x0:Lq)(x1:Int):Option R127 :=
 cond (decide (x1<(↑x0.length:Int))) (cond (decide (0≤x1)) (cond (decide (x1<(↑x0.length:Int))) ((q158 n (((x0.getD x1.toNat ((0:Int),(0:Int),false,false)).1,(x0.getD x1.toNat ((0:Int),(0:Int),false,false)).2.1,(x0.getD x1.toNat ((0:Int),(0:Int),false,false)).2.2.1,(x0.getD x1.toNat ((0:Int),(0:Int),false,false)).2.2.2),())).bind fun r1=>cond (!r1.1.1) (some ((false,()),())) (cond (decide (0<x1)) (cond (decide ((0:Int)≤IntKind.i64.wrap (x1 - 1))) (cond (decide (IntKind.i64.wrap (x1 - 1)<(↑x0.length:Int))) (cond (decide ((0:Int)≤IntKind.i64.wrap (x1 - 1))) (cond (decide (IntKind.i64.wrap (x1 - 1)<(↑x0.length:Int))) (cond (decide (0≤x1)) (cond (decide (x1<(↑x0.length:Int))) (cond (decide ((x0.getD x1.toNat ((0:Int),(0:Int),false,false)).1<IntKind.i64.wrap ((x0.getD (IntKind.i64.wrap (x1 - 1)).toNat ((0:Int),(0:Int),false,false)).1+(x0.getD (IntKind.i64.wrap (x1 - 1)).toNat ((0:Int),(0:Int),false,false)).2.1))) (some ((false,()),())) (lL2 x0 (IntKind.i64.wrap (x1+1)))) none) none) none) none) none) none) (lL2 x0 (IntKind.i64.wrap (x1+1))))) none) none) (some ((decide ((↑x0.length:Int)≤(6:Int)),()),()))
theorem yd9(n:Nat)(a:Lq):runF TT G127 yk4 Try.f127 c127 ybx yhi n (a,())=zp0 n (fun x0 x1=>zzl n (.head 2) [n] (zg2 x0 x1)) a:=by kernel_rfl
theorem zyv(n:Nat)(x0:Lq)(x1:Int):zzl n (.head 2) [0] (zg2 x0 x1)=none:=by kernel_rfl
theorem yj9(n:Nat)(m2:Nat)(x0:Lq)(x1:Int):zzl n (.head 2) [m2+1] (zg2 x0 x1)=zbb n (fun x0 x1=>zzl n (.head 2) [m2] (zg2 x0 x1)) x0 x1:=by kernel_rfl
noncomputable def zda(n:Nat):Nat→Lq→Int→Option R127
 |0,_,_=>none
 |m+1,x0,x1=>zbb n (zda n m) x0 x1
noncomputable def p127(n:Nat)(a:Lq):Option R127:=zp0 n (zda n n) a
theorem ygl(n:Nat):∀ (m2:Nat) (x0:Lq) (x1:Int),zzl n (.head 2) [m2] (zg2 x0 x1)=zda n m2 x0 x1:=by
 intro m
 induction m with
 |zero=>intros;rw[zyv];rfl
 |succ m ih =>
  intros
  rw[yj9]
  try simp only[ih]
  rfl
noncomputable def q127(n:Nat)(x:zap ybx):Option R127:=p127 n x.1
noncomputable def zz_:Sm:=⟨ybx,yhi,false,q127⟩
theorem yn7:GamOK Try.prog G127:=by intro f s h;unfold G127 at h;split at h;exact gj h y158;cases h
theorem hh127:Hp 127 zz_:=hOf (zaf (an:=yk4) (c:=c127) zax yn7 zaw Try.func127 (by kernel_rfl) rfl (by decide +kernel)) fun n x=>(yd9 n x.1).trans (by simp only[ygl];try rfl)
theorem y127:Gk 127 zz_:=⟨⟨Try.f127,c127,Try.func127,by kernel_rfl,by decide +kernel⟩,hh127⟩
noncomputable def c118:Code:=(Try.f118.body.getD .skip)
def yk8:An:=⟨fun r=>match r with|6=>⟨[1,3],[]⟩|_=>⟨[],[]⟩,fun _ _=>none⟩
abbrev yb5:List PK:=[.val (tSp 116 80) true]
abbrev yhq:List RK:=[.val .bool false]
abbrev R118:=zam yhq×zak yb5
noncomputable def G118:Gam:=fun f=>match f with|69=>some Sm69|71=>some Sm71|127=>some zz_|_=>none
noncomputable def zzn:Nat→Pt→List Nat→St→Option R118:=atF TT G118 yk8 Try.f118 c118 _ _
def zg6(x0:Int)(x1:Bool)(x2 x3:Lq):St:=(St.mk ([Uu,AV.one (SV.bptr 1000000 0),Uu,Ai x0]++Ur 66) [(1000000,(Ent.box [SV.bool x1,SV.con (⟨116,yAq,x2⟩:Rw),SV.con (⟨80,yAq,x3⟩:Rw)]))])
noncomputable def zdf(n:Nat)(lL6:Int→Bool→Lq→Lq→Option R118)(a:Br):Option R118 :=
 cond (!a.1) (cond (decide ((↑(List.length a.2.1):Int)=(0:Int))) (some ((decide ((↑(List.length a.2.2):Int)=(0:Int)),()),())) (some ((false,()),()))) ((q127 n (a.2.1,())).bind fun r0=>cond (!r0.1.1) (some ((false,()),())) (cond (!decide ((↑(List.length a.2.2):Int)=(16:Int))) (some ((false,()),())) (lL6 (0:Int) a.1 a.2.1 a.2.2)))
noncomputable def zb9(n:Nat)(lL6:Int→Bool→Lq→Lq→Option R118)(x0:Int)(x1:Bool)(x2 x3:Lq):Option R118 :=
 cond (decide (x0<16)) (cond (decide (0≤x0)) (cond (decide (x0<(↑x3.length:Int))) ((q71 n (x2,x0,())).bind fun r2=>cond (decide ((x3.getD x0.toNat ((0:Int),(0:Int),false,false)).1=(0:Int))) (cond (!(decide ((x3.getD x0.toNat ((0:Int),(0:Int),false,false)).1=(0:Int))&&(decide ((x3.getD x0.toNat ((0:Int),(0:Int),false,false)).2.1=(0:Int))&&((x3.getD x0.toNat ((0:Int),(0:Int),false,false)).2.2.1 == false&&((x3.getD x0.toNat ((0:Int),(0:Int),false,false)).2.2.2 == false&&true))))) (some ((false,()),())) (lL6 (IntKind.i64.wrap (x0+1)) x1 x2 x3)) (cond (decide (r2.1.1<(0:Int))) (some ((false,()),())) ((q69 n ((x3.getD x0.toNat ((0:Int),(0:Int),false,false)).1,(1:Int),(2:Int),())).bind fun r3=>cond (!r3.1.1) (some ((false,()),())) (cond (decide ((0:Int)≤r2.1.1)) (cond (decide (r2.1.1<(↑x2.length:Int))) (cond ((x2.getD (Int.toNat r2.1.1) ((0:Int),(0:Int),false,false)).2.2.2) (cond (!(x3.getD x0.toNat ((0:Int),(0:Int),false,false)).2.2.1) (some ((false,()),())) (lL6 (IntKind.i64.wrap (x0+1)) x1 x2 x3)) (lL6 (IntKind.i64.wrap (x0+1)) x1 x2 x3)) none) none)))) none) none) (some ((true,()),()))
theorem yeg(n:Nat)(a:Br):runF TT G118 yk8 Try.f118 c118 yb5 yhq n (a,())=zdf n (fun x0 x1 x2 x3=>zzn n (.head 6) [n] (zg6 x0 x1 x2 x3)) a:=by kernel_rfl
theorem zy1(n:Nat)(x0:Int)(x1:Bool)(x2 x3:Lq):zzn n (.head 6) [0] (zg6 x0 x1 x2 x3)=none:=by kernel_rfl
theorem yke(n:Nat)(m6:Nat)(x0:Int)(x1:Bool)(x2 x3:Lq):zzn n (.head 6) [m6+1] (zg6 x0 x1 x2 x3)=zb9 n (fun x0 x1 x2 x3=>zzn n (.head 6) [m6] (zg6 x0 x1 x2 x3)) x0 x1 x2 x3:=by kernel_rfl
noncomputable def zf2(n:Nat):Nat→Int→Bool→Lq→Lq→Option R118
 |0,_,_,_,_=>none
 |m+1,x0,x1,x2,x3=>zb9 n (zf2 n m) x0 x1 x2 x3
noncomputable def p118(n:Nat)(a:Br):Option R118:=zdf n (zf2 n n) a
theorem ygr(n:Nat):∀ (m6:Nat) (x0:Int) (x1:Bool) (x2 x3:Lq),zzn n (.head 6) [m6] (zg6 x0 x1 x2 x3)=zf2 n m6 x0 x1 x2 x3:=by
 intro m
 induction m with
 |zero=>intros;rw[zy1];rfl
 |succ m ih =>
  intros
  rw[yke]
  try simp only[ih]
  rfl
noncomputable def q118(n:Nat)(x:zap yb5):Option R118:=p118 n x.1
noncomputable def ylv:Sm:=⟨yb5,yhq,false,q118⟩
theorem yoe:GamOK Try.prog G118:=by intro f s h;unfold G118 at h;split at h;exact gj h y69;exact gj h y71;exact gj h y127;cases h
theorem hh118:Hp 118 ylv:=hOf (zaf (an:=yk8) (c:=c118) zax yoe zaw Try.func118 (by kernel_rfl) rfl (by decide +kernel)) fun n x=>(yeg n x.1).trans (by simp only[ygr];try rfl)
theorem y118:Gk 118 ylv:=⟨⟨Try.f118,c118,Try.func118,by kernel_rfl,by decide +kernel⟩,hh118⟩
noncomputable def c119:Code:=(Try.f119.body.getD .skip)
def yk7:An:=⟨fun r=>match r with|3=>⟨[1,2,3,7,8],[]⟩|6=>⟨[1,2,3,7,8,9],[]⟩|_=>⟨[],[]⟩,fun _ _=>none⟩
abbrev yb4:List PK:=[.val tMem true,.val i64 false,.val i64 false]
abbrev yhp:List RK:=[.val i64 false]
abbrev R119:=zam yhp×zak yb4
noncomputable def G119:Gam:=fun _=>none
noncomputable def zmb:Nat→Pt→List Nat→St→Option R119:=atF TT G119 yk7 Try.f119 c119 _ _
def zg5(x0 x1 x2 x3 x4:Int)(x5:Lb)(x6:Li)(x7:Lb)(x8:Li)(x9:List (Br))(x10:Int):St:=(St.mk ([Uu,Ai x0,Ai x1,AV.one (SV.bptr 1000000 0),Uu,Uu,Uu,Ai x2,Ai x3,Ai x4]++Ur 41) [(1000000,(Ent.box [SV.con (⟨9,Ty.str,x5⟩:Rw),SV.con (⟨3,Ty.int .i64,x6⟩:Rw),SV.con (⟨9,Ty.str,x7⟩:Rw),SV.con (⟨3,Ty.int .i64,x8⟩:Rw),SV.con (⟨71,ySp,x9⟩:Rw),Si x10]))])
def zfc(x0 x1 x2 x3:Int)(x4:Lb)(x5:Li)(x6:Lb)(x7:Li)(x8:List (Br))(x9:Int):St:=(St.mk ([Uu,Ai x0,Ai x1,AV.one (SV.bptr 1000000 0),Uu,Uu,Uu,Ai x2,Ai x3]++Ur 42) [(1000000,(Ent.box [SV.con (⟨9,Ty.str,x4⟩:Rw),SV.con (⟨3,Ty.int .i64,x5⟩:Rw),SV.con (⟨9,Ty.str,x6⟩:Rw),SV.con (⟨3,Ty.int .i64,x7⟩:Rw),SV.con (⟨71,ySp,x8⟩:Rw),Si x9]))])
noncomputable def zp3(n:Nat)(lL3:Int→Int→Int→Int→Lb→Li→Lb→Li→(List (Br))→Int→Option R119)(a:Mm)(b:Int)(c:Int):Option R119 :=
 lL3 b c (0:Int) (0:Int) a.1.1 a.1.2 a.2.1.1 a.2.1.2 a.2.2.1 a.2.2.2
noncomputable def ze5(n:Nat)(lL6:Int→Int→Int→Int→Int→Lb→Li→Lb→Li→(List (Br))→Int→Option R119)(lL3:Int→Int→Int→Int→Lb→Li→Lb→Li→(List (Br))→Int→Option R119)(x0 x1 x2 x3 x4:Int)(x5:Lb)(x6:Li)(x7:Lb)(x8:Li)(x9:List (Br))(x10:Int):Option R119 :=
 cond (decide (0≤x3)) (cond (decide (x3<(↑x9.length:Int))) (cond (decide (x4<(↑(List.length (x9.getD x3.toNat (false,[],[])).2.2):Int))) (cond (decide (0≤x3)) (cond (decide (x3<(↑x9.length:Int))) (cond (decide (0≤x4)) (cond (decide (x4<(↑(List.length (x9.getD x3.toNat (false,[],[])).2.2):Int))) (cond (decide ((List.getD (x9.getD x3.toNat (false,[],[])).2.2 x4.toNat ((0:Int),(0:Int),false,false)).1=x0)) (cond (decide ((List.getD (x9.getD x3.toNat (false,[],[])).2.2 x4.toNat ((0:Int),(0:Int),false,false)).2.1=x1)) (lL6 x0 x1 (IntKind.i64.wrap (x2+1)) x3 (IntKind.i64.wrap (x4+1)) x5 x6 x7 x8 x9 x10) (lL6 x0 x1 x2 x3 (IntKind.i64.wrap (x4+1)) x5 x6 x7 x8 x9 x10)) (lL6 x0 x1 x2 x3 (IntKind.i64.wrap (x4+1)) x5 x6 x7 x8 x9 x10)) none) none) none) none) (lL3 x0 x1 x2 (IntKind.i64.wrap (x3+1)) x5 x6 x7 x8 x9 x10)) none) none
noncomputable def ze6(n:Nat)(lL6:Int→Int→Int→Int→Int→Lb→Li→Lb→Li→(List (Br))→Int→Option R119)(x0 x1 x2 x3:Int)(x4:Lb)(x5:Li)(x6:Lb)(x7:Li)(x8:List (Br))(x9:Int):Option R119 :=
 cond (decide (x3<(↑x8.length:Int))) (lL6 x0 x1 x2 x3 (0:Int) x4 x5 x6 x7 x8 x9) (some ((x2,()),()))
theorem yef(n:Nat)(a:Mm)(b:Int)(c:Int):runF TT G119 yk7 Try.f119 c119 yb4 yhp n (a,b,c,())=zp3 n (fun x0 x1 x2 x3 x4 x5 x6 x7 x8 x9=>zmb n (.head 3) [n] (zfc x0 x1 x2 x3 x4 x5 x6 x7 x8 x9)) a b c:=by kernel_rfl
theorem zyz(n:Nat)(m3:Nat)(x0 x1 x2 x3 x4:Int)(x5:Lb)(x6:Li)(x7:Lb)(x8:Li)(x9:List (Br))(x10:Int):zmb n (.head 6) [m3,0] (zg5 x0 x1 x2 x3 x4 x5 x6 x7 x8 x9 x10)=none:=by kernel_rfl
theorem ykc(n:Nat)(m3:Nat)(m6:Nat)(x0 x1 x2 x3 x4:Int)(x5:Lb)(x6:Li)(x7:Lb)(x8:Li)(x9:List (Br))(x10:Int):zmb n (.head 6) [m3,m6+1] (zg5 x0 x1 x2 x3 x4 x5 x6 x7 x8 x9 x10)=ze5 n (fun x0 x1 x2 x3 x4 x5 x6 x7 x8 x9 x10=>zmb n (.head 6) [m3,m6] (zg5 x0 x1 x2 x3 x4 x5 x6 x7 x8 x9 x10)) (fun x0 x1 x2 x3 x4 x5 x6 x7 x8 x9=>zmb n (.head 3) [m3] (zfc x0 x1 x2 x3 x4 x5 x6 x7 x8 x9)) x0 x1 x2 x3 x4 x5 x6 x7 x8 x9 x10:=by kernel_rfl
theorem zy0(n:Nat)(x0 x1 x2 x3:Int)(x4:Lb)(x5:Li)(x6:Lb)(x7:Li)(x8:List (Br))(x9:Int):zmb n (.head 3) [0] (zfc x0 x1 x2 x3 x4 x5 x6 x7 x8 x9)=none:=by kernel_rfl
theorem ykd(n:Nat)(m3:Nat)(x0 x1 x2 x3:Int)(x4:Lb)(x5:Li)(x6:Lb)(x7:Li)(x8:List (Br))(x9:Int):zmb n (.head 3) [m3+1] (zfc x0 x1 x2 x3 x4 x5 x6 x7 x8 x9)=ze6 n (fun x0 x1 x2 x3 x4 x5 x6 x7 x8 x9 x10=>zmb n (.head 6) [m3,n] (zg5 x0 x1 x2 x3 x4 x5 x6 x7 x8 x9 x10)) x0 x1 x2 x3 x4 x5 x6 x7 x8 x9:=by kernel_rfl
noncomputable def zow(g3:Int→Int→Int→Int→Lb→Li→Lb→Li→(List (Br))→Int→Option R119)(n:Nat):Nat→Int→Int→Int→Int→Int→Lb→Li→Lb→Li→(List (Br))→Int→Option R119
 |0,_,_,_,_,_,_,_,_,_,_,_=>none
 |m+1,x0,x1,x2,x3,x4,x5,x6,x7,x8,x9,x10=>ze5 n (zow g3 n m) g3 x0 x1 x2 x3 x4 x5 x6 x7 x8 x9 x10
noncomputable def zlm(n:Nat):Nat→Int→Int→Int→Int→Lb→Li→Lb→Li→(List (Br))→Int→Option R119
 |0,_,_,_,_,_,_,_,_,_,_=>none
 |m+1,x0,x1,x2,x3,x4,x5,x6,x7,x8,x9=>ze6 n (zow (zlm n m) n n) x0 x1 x2 x3 x4 x5 x6 x7 x8 x9
noncomputable def p119(n:Nat)(a:Mm)(b:Int)(c:Int):Option R119:=zp3 n (zlm n n) a b c
theorem ygp(n:Nat)(m3:Nat):∀ (m6:Nat) (x0 x1 x2 x3 x4:Int) (x5:Lb) (x6:Li) (x7:Lb) (x8:Li) (x9:List (Br)) (x10:Int),zmb n (.head 6) [m3,m6] (zg5 x0 x1 x2 x3 x4 x5 x6 x7 x8 x9 x10)=zow (fun x0 x1 x2 x3 x4 x5 x6 x7 x8 x9=>zmb n (.head 3) [m3] (zfc x0 x1 x2 x3 x4 x5 x6 x7 x8 x9)) n m6 x0 x1 x2 x3 x4 x5 x6 x7 x8 x9 x10:=by
 intro m
 induction m with
 |zero=>intros;rw[zyz];rfl
 |succ m ih =>
  intros
  rw[ykc]
  try simp only[ih]
  rfl
theorem ygq(n:Nat):∀ (m3:Nat) (x0 x1 x2 x3:Int) (x4:Lb) (x5:Li) (x6:Lb) (x7:Li) (x8:List (Br)) (x9:Int),zmb n (.head 3) [m3] (zfc x0 x1 x2 x3 x4 x5 x6 x7 x8 x9)=zlm n m3 x0 x1 x2 x3 x4 x5 x6 x7 x8 x9:=by
 intro m
 induction m with
 |zero=>intros;rw[zy0];rfl
 |succ m ih =>
  intros
  rw[ykd]
  try simp only[ygp,ih]
  rfl
noncomputable def q119(n:Nat)(x:zap yb4):Option R119:=p119 n x.1 x.2.1 x.2.2.1
noncomputable def ylu:Sm:=⟨yb4,yhp,false,q119⟩
theorem yod:GamOK Try.prog G119:=fun _ _ h=>by cases h
theorem hh119:Hp 119 ylu:=hOf (zaf (an:=yk7) (c:=c119) zax yod zaw Try.func119 (by kernel_rfl) rfl (by decide +kernel)) fun n x=>(yef n x.1 x.2.1 x.2.2.1).trans (by simp only[ygq];try rfl)
theorem y119:Gk 119 ylu:=⟨⟨Try.f119,c119,Try.func119,by kernel_rfl,by decide +kernel⟩,hh119⟩
noncomputable def c157:Code:=(Try.f157.body.getD .skip)
def yph:An:=⟨fun _=>⟨[],[]⟩,fun _ _=>none⟩
abbrev ybo:List PK:=[.val (tSp 116 80) true,.val i64 false]
abbrev yg_:List RK:=[.val .bool false]
abbrev R157:=zam yg_×zak ybo
noncomputable def G157:Gam:=fun f=>match f with|71=>some Sm71|_=>none
noncomputable def zf8(n:Nat)(a:Br)(b:Int):Option R157 :=
 (q71 n (a.2.1,b,())).bind fun r0=>cond (decide ((0:Int)≤r0.1.1)) (cond (decide ((0:Int)≤r0.1.1)) (cond (decide (r0.1.1<(↑(List.length a.2.1):Int))) (some (((List.getD a.2.1 (Int.toNat r0.1.1) ((0:Int),(0:Int),false,false)).2.2.2,()),())) none) none) (some ((false,()),()))
theorem ydz(n:Nat)(a:Br)(b:Int):runF TT G157 yph Try.f157 c157 ybo yg_ n (a,b,())=zf8 n a b:=by kernel_rfl
noncomputable def p157(n:Nat)(a:Br)(b:Int):Option R157:=zf8 n a b
noncomputable def q157(n:Nat)(x:zap ybo):Option R157:=p157 n x.1 x.2.1
noncomputable def ye6:Sm:=⟨ybo,yg_,false,q157⟩
theorem yny:GamOK Try.prog G157:=by intro f s h;unfold G157 at h;split at h;exact gj h y71;cases h
theorem hh157:Hp 157 ye6:=hOf (zaf (an:=yph) (c:=c157) zax yny zaw Try.func157 (by kernel_rfl) rfl (by decide +kernel)) fun n x=>(ydz n x.1 x.2.1).trans rfl
theorem y157:Gk 157 ye6:=⟨⟨Try.f157,c157,Try.func157,by kernel_rfl,by decide +kernel⟩,hh157⟩
noncomputable def c120:Code:=(Try.f120.body.getD .skip)
def yk6:An:=⟨fun r=>match r with|5=>⟨[1,2,3,7,8,9,10],[]⟩|8=>⟨[1,2,3,7,8,9,10,11],[]⟩|_=>⟨[],[]⟩,fun _ _=>none⟩
abbrev yb3:List PK:=[.val tMem true,.val i64 false,.val i64 false]
abbrev yho:List RK:=[.val .bool false]
abbrev R120:=zam yho×zak yb3
noncomputable def G120:Gam:=fun f=>match f with|157=>some ye6|_=>none
noncomputable def zma:Nat→Pt→List Nat→St→Option R120:=atF TT G120 yk6 Try.f120 c120 _ _
def zg4(x0 x1 x2:Int)(x3 x4:Bool)(x5 x6:Int)(x7:Lb)(x8:Li)(x9:Lb)(x10:Li)(x11:List (Br))(x12:Int):St:=(St.mk ([Uu,Ai x0,Ai x1,AV.one (SV.bptr 1000000 0),Uu,Uu,Uu,Ai x2,AV.one (SV.bool x3),AV.one (SV.bool x4),Ai x5,Ai x6]++Ur 66) [(1000000,(Ent.box [SV.con (⟨9,Ty.str,x7⟩:Rw),SV.con (⟨3,Ty.int .i64,x8⟩:Rw),SV.con (⟨9,Ty.str,x9⟩:Rw),SV.con (⟨3,Ty.int .i64,x10⟩:Rw),SV.con (⟨71,ySp,x11⟩:Rw),Si x12]))])
def zfb(x0 x1 x2:Int)(x3 x4:Bool)(x5:Int)(x6:Lb)(x7:Li)(x8:Lb)(x9:Li)(x10:List (Br))(x11:Int):St:=(St.mk ([Uu,Ai x0,Ai x1,AV.one (SV.bptr 1000000 0),Uu,Uu,Uu,Ai x2,AV.one (SV.bool x3),AV.one (SV.bool x4),Ai x5]++Ur 67) [(1000000,(Ent.box [SV.con (⟨9,Ty.str,x6⟩:Rw),SV.con (⟨3,Ty.int .i64,x7⟩:Rw),SV.con (⟨9,Ty.str,x8⟩:Rw),SV.con (⟨3,Ty.int .i64,x9⟩:Rw),SV.con (⟨71,ySp,x10⟩:Rw),Si x11]))])
noncomputable def zp2(n:Nat)(lL5:Int→Int→Int→Bool→Bool→Int→Lb→Li→Lb→Li→(List (Br))→Int→Option R120)(a:Mm)(b:Int)(c:Int):Option R120 :=
 lL5 b c (0:Int) false false (0:Int) a.1.1 a.1.2 a.2.1.1 a.2.1.2 a.2.2.1 a.2.2.2
noncomputable def zb7(n:Nat)(lL8:Int→Int→Int→Bool→Bool→Int→Int→Lb→Li→Lb→Li→(List (Br))→Int→Option R120)(lL5:Int→Int→Int→Bool→Bool→Int→Lb→Li→Lb→Li→(List (Br))→Int→Option R120)(x0 x1 x2:Int)(x3 x4:Bool)(x5 x6:Int)(x7:Lb)(x8:Li)(x9:Lb)(x10:Li)(x11:List (Br))(x12:Int):Option R120 :=
 cond (decide (0≤x5)) (cond (decide (x5<(↑x11.length:Int))) (cond (decide (x6<(↑(List.length (x11.getD x5.toNat (false,[],[])).2.2):Int))) (cond (decide (0≤x5)) (cond (decide (x5<(↑x11.length:Int))) (cond (decide (0≤x6)) (cond (decide (x6<(↑(List.length (x11.getD x5.toNat (false,[],[])).2.2):Int))) (cond (decide ((List.getD (x11.getD x5.toNat (false,[],[])).2.2 x6.toNat ((0:Int),(0:Int),false,false)).1=x0)) (cond (decide ((List.getD (x11.getD x5.toNat (false,[],[])).2.2 x6.toNat ((0:Int),(0:Int),false,false)).2.1=x1)) (cond x3 (cond x4 (lL8 x0 x1 (IntKind.i64.wrap (x2+1)) true true x5 (IntKind.i64.wrap (x6+1)) x7 x8 x9 x10 x11 x12) (cond (decide (0≤x5)) (cond (decide (x5<(↑x11.length:Int))) ((q157 n (((x11.getD x5.toNat (false,[],[])).1,(x11.getD x5.toNat (false,[],[])).2.1,(x11.getD x5.toNat (false,[],[])).2.2),x6,())).bind fun r2=>lL8 x0 x1 (IntKind.i64.wrap (x2+1)) true (!r2.1.1) x5 (IntKind.i64.wrap (x6+1)) x7 x8 x9 x10 x11 x12) none) none)) (cond x4 (lL8 x0 x1 (IntKind.i64.wrap (x2+1)) ((List.getD (x11.getD x5.toNat (false,[],[])).2.2 x6.toNat ((0:Int),(0:Int),false,false)).2.2.1) true x5 (IntKind.i64.wrap (x6+1)) x7 x8 x9 x10 x11 x12) (cond (decide (0≤x5)) (cond (decide (x5<(↑x11.length:Int))) ((q157 n (((x11.getD x5.toNat (false,[],[])).1,(x11.getD x5.toNat (false,[],[])).2.1,(x11.getD x5.toNat (false,[],[])).2.2),x6,())).bind fun r3=>lL8 x0 x1 (IntKind.i64.wrap (x2+1)) ((List.getD (x11.getD x5.toNat (false,[],[])).2.2 x6.toNat ((0:Int),(0:Int),false,false)).2.2.1) (!r3.1.1) x5 (IntKind.i64.wrap (x6+1)) x7 x8 x9 x10 x11 x12) none) none))) (lL8 x0 x1 x2 x3 x4 x5 (IntKind.i64.wrap (x6+1)) x7 x8 x9 x10 x11 x12)) (lL8 x0 x1 x2 x3 x4 x5 (IntKind.i64.wrap (x6+1)) x7 x8 x9 x10 x11 x12)) none) none) none) none) (lL5 x0 x1 x2 x3 x4 (IntKind.i64.wrap (x5+1)) x7 x8 x9 x10 x11 x12)) none) none
noncomputable def zb8(n:Nat)(lL8:Int→Int→Int→Bool→Bool→Int→Int→Lb→Li→Lb→Li→(List (Br))→Int→Option R120)(x0 x1 x2:Int)(x3 x4:Bool)(x5:Int)(x6:Lb)(x7:Li)(x8:Lb)(x9:Li)(x10:List (Br))(x11:Int):Option R120 :=
 cond (decide (x5<(↑x10.length:Int))) (lL8 x0 x1 x2 x3 x4 x5 (0:Int) x6 x7 x8 x9 x10 x11) (cond (decide (x2<2)) (some ((true,()),())) (cond (!x3) (some ((true,()),())) (some ((!x4,()),()))))
theorem yee(n:Nat)(a:Mm)(b:Int)(c:Int):runF TT G120 yk6 Try.f120 c120 yb3 yho n (a,b,c,())=zp2 n (fun x0 x1 x2 x3 x4 x5 x6 x7 x8 x9 x10 x11=>zma n (.head 5) [n] (zfb x0 x1 x2 x3 x4 x5 x6 x7 x8 x9 x10 x11)) a b c:=by kernel_rfl
theorem zyx(n:Nat)(m5:Nat)(x0 x1 x2:Int)(x3 x4:Bool)(x5 x6:Int)(x7:Lb)(x8:Li)(x9:Lb)(x10:Li)(x11:List (Br))(x12:Int):zma n (.head 8) [m5,0] (zg4 x0 x1 x2 x3 x4 x5 x6 x7 x8 x9 x10 x11 x12)=none:=by kernel_rfl
theorem yka(n:Nat)(m5:Nat)(m8:Nat)(x0 x1 x2:Int)(x3 x4:Bool)(x5 x6:Int)(x7:Lb)(x8:Li)(x9:Lb)(x10:Li)(x11:List (Br))(x12:Int):zma n (.head 8) [m5,m8+1] (zg4 x0 x1 x2 x3 x4 x5 x6 x7 x8 x9 x10 x11 x12)=zb7 n (fun x0 x1 x2 x3 x4 x5 x6 x7 x8 x9 x10 x11 x12=>zma n (.head 8) [m5,m8] (zg4 x0 x1 x2 x3 x4 x5 x6 x7 x8 x9 x10 x11 x12)) (fun x0 x1 x2 x3 x4 x5 x6 x7 x8 x9 x10 x11=>zma n (.head 5) [m5] (zfb x0 x1 x2 x3 x4 x5 x6 x7 x8 x9 x10 x11)) x0 x1 x2 x3 x4 x5 x6 x7 x8 x9 x10 x11 x12:=by kernel_rfl
theorem zyy(n:Nat)(x0 x1 x2:Int)(x3 x4:Bool)(x5:Int)(x6:Lb)(x7:Li)(x8:Lb)(x9:Li)(x10:List (Br))(x11:Int):zma n (.head 5) [0] (zfb x0 x1 x2 x3 x4 x5 x6 x7 x8 x9 x10 x11)=none:=by kernel_rfl
theorem ykb(n:Nat)(m5:Nat)(x0 x1 x2:Int)(x3 x4:Bool)(x5:Int)(x6:Lb)(x7:Li)(x8:Lb)(x9:Li)(x10:List (Br))(x11:Int):zma n (.head 5) [m5+1] (zfb x0 x1 x2 x3 x4 x5 x6 x7 x8 x9 x10 x11)=zb8 n (fun x0 x1 x2 x3 x4 x5 x6 x7 x8 x9 x10 x11 x12=>zma n (.head 8) [m5,n] (zg4 x0 x1 x2 x3 x4 x5 x6 x7 x8 x9 x10 x11 x12)) x0 x1 x2 x3 x4 x5 x6 x7 x8 x9 x10 x11:=by kernel_rfl
noncomputable def zf0(g5:Int→Int→Int→Bool→Bool→Int→Lb→Li→Lb→Li→(List (Br))→Int→Option R120)(n:Nat):Nat→Int→Int→Int→Bool→Bool→Int→Int→Lb→Li→Lb→Li→(List (Br))→Int→Option R120
 |0,_,_,_,_,_,_,_,_,_,_,_,_,_=>none
 |m+1,x0,x1,x2,x3,x4,x5,x6,x7,x8,x9,x10,x11,x12=>zb7 n (zf0 g5 n m) g5 x0 x1 x2 x3 x4 x5 x6 x7 x8 x9 x10 x11 x12
noncomputable def zf1(n:Nat):Nat→Int→Int→Int→Bool→Bool→Int→Lb→Li→Lb→Li→(List (Br))→Int→Option R120
 |0,_,_,_,_,_,_,_,_,_,_,_,_=>none
 |m+1,x0,x1,x2,x3,x4,x5,x6,x7,x8,x9,x10,x11=>zb8 n (zf0 (zf1 n m) n n) x0 x1 x2 x3 x4 x5 x6 x7 x8 x9 x10 x11
noncomputable def p120(n:Nat)(a:Mm)(b:Int)(c:Int):Option R120:=zp2 n (zf1 n n) a b c
theorem ygn(n:Nat)(m5:Nat):∀ (m8:Nat) (x0 x1 x2:Int) (x3 x4:Bool) (x5 x6:Int) (x7:Lb) (x8:Li) (x9:Lb) (x10:Li) (x11:List (Br)) (x12:Int),zma n (.head 8) [m5,m8] (zg4 x0 x1 x2 x3 x4 x5 x6 x7 x8 x9 x10 x11 x12)=zf0 (fun x0 x1 x2 x3 x4 x5 x6 x7 x8 x9 x10 x11=>zma n (.head 5) [m5] (zfb x0 x1 x2 x3 x4 x5 x6 x7 x8 x9 x10 x11)) n m8 x0 x1 x2 x3 x4 x5 x6 x7 x8 x9 x10 x11 x12:=by
 intro m
 induction m with
 |zero=>intros;rw[zyx];rfl
 |succ m ih =>
  intros
  rw[yka]
  try simp only[ih]
  rfl
theorem ygo(n:Nat):∀ (m5:Nat) (x0 x1 x2:Int) (x3 x4:Bool) (x5:Int) (x6:Lb) (x7:Li) (x8:Lb) (x9:Li) (x10:List (Br)) (x11:Int),zma n (.head 5) [m5] (zfb x0 x1 x2 x3 x4 x5 x6 x7 x8 x9 x10 x11)=zf1 n m5 x0 x1 x2 x3 x4 x5 x6 x7 x8 x9 x10 x11:=by
 intro m
 induction m with
 |zero=>intros;rw[zyy];rfl
 |succ m ih =>
  intros
  rw[ykb]
  try simp only[ygn,ih]
  rfl
noncomputable def q120(n:Nat)(x:zap yb3):Option R120:=p120 n x.1 x.2.1 x.2.2.1
noncomputable def ylt:Sm:=⟨yb3,yho,false,q120⟩
theorem yoc:GamOK Try.prog G120:=by intro f s h;unfold G120 at h;split at h;exact gj h y157;cases h
theorem hh120:Hp 120 ylt:=hOf (zaf (an:=yk6) (c:=c120) zax yoc zaw Try.func120 (by kernel_rfl) rfl (by decide +kernel)) fun n x=>(yee n x.1 x.2.1 x.2.2.1).trans (by simp only[ygo];try rfl)
theorem y120:Gk 120 ylt:=⟨⟨Try.f120,c120,Try.func120,by kernel_rfl,by decide +kernel⟩,hh120⟩
noncomputable def c53:Code:=(Try.f53.body.getD .skip)
def an53:An:=⟨fun r=>match r with|4=>⟨[1,3],[]⟩|9=>⟨[1,3,4],[]⟩|18=>⟨[1,7],[]⟩|23=>⟨[1,8],[]⟩|_=>⟨[],[]⟩,fun _ _=>none⟩
abbrev ps53:List PK:=[.val tMem true]
abbrev rs53:List RK:=[.val .bool false]
abbrev R53:=zam rs53×zak ps53
noncomputable def G53:Gam:=fun f=>match f with|69=>some Sm69|117=>some ylw|118=>some ylv|119=>some ylu|120=>some ylt|_=>none
noncomputable def at53:Nat→Pt→List Nat→St→Option R53:=atF TT G53 an53 Try.f53 c53 _ _
def zkg(x0 x1:Int)(x2:Lb)(x3:Li)(x4:Lb)(x5:Li)(x6:List (Br))(x7:Int):St:=(St.mk ([Uu,AV.one (SV.bptr 1000000 0),Uu,Ai x0,Ai x1]++Ur 125) [(1000000,(Ent.box [SV.con (⟨9,Ty.str,x2⟩:Rw),SV.con (⟨3,Ty.int .i64,x3⟩:Rw),SV.con (⟨9,Ty.str,x4⟩:Rw),SV.con (⟨3,Ty.int .i64,x5⟩:Rw),SV.con (⟨71,ySp,x6⟩:Rw),Si x7]))])
def zgp(x0:Int)(x1:Lb)(x2:Li)(x3:Lb)(x4:Li)(x5:List (Br))(x6:Int):St:=(St.mk ([Uu,AV.one (SV.bptr 1000000 0),Uu,Uu,Uu,Uu,Uu,Uu,Ai x0]++Ur 121) [(1000000,(Ent.box [SV.con (⟨9,Ty.str,x1⟩:Rw),SV.con (⟨3,Ty.int .i64,x2⟩:Rw),SV.con (⟨9,Ty.str,x3⟩:Rw),SV.con (⟨3,Ty.int .i64,x4⟩:Rw),SV.con (⟨71,ySp,x5⟩:Rw),Si x6]))])
def zgq(x0:Int)(x1:Lb)(x2:Li)(x3:Lb)(x4:Li)(x5:List (Br))(x6:Int):St:=(St.mk ([Uu,AV.one (SV.bptr 1000000 0),Uu,Uu,Uu,Uu,Uu,Ai x0]++Ur 122) [(1000000,(Ent.box [SV.con (⟨9,Ty.str,x1⟩:Rw),SV.con (⟨3,Ty.int .i64,x2⟩:Rw),SV.con (⟨9,Ty.str,x3⟩:Rw),SV.con (⟨3,Ty.int .i64,x4⟩:Rw),SV.con (⟨71,ySp,x5⟩:Rw),Si x6]))])
def zh2(x0:Int)(x1:Lb)(x2:Li)(x3:Lb)(x4:Li)(x5:List (Br))(x6:Int):St:=(St.mk ([Uu,AV.one (SV.bptr 1000000 0),Uu,Ai x0]++Ur 126) [(1000000,(Ent.box [SV.con (⟨9,Ty.str,x1⟩:Rw),SV.con (⟨3,Ty.int .i64,x2⟩:Rw),SV.con (⟨9,Ty.str,x3⟩:Rw),SV.con (⟨3,Ty.int .i64,x4⟩:Rw),SV.con (⟨71,ySp,x5⟩:Rw),Si x6]))])
noncomputable def zeo(n:Nat)(lL4:Int→Lb→Li→Lb→Li→(List (Br))→Int→Option R53)(a:Mm):Option R53 :=
 (q117 n ((a.1.1,a.1.2),())).bind fun r0=>cond (!r0.1.1) (some ((false,()),())) ((q117 n ((a.2.1.1,a.2.1.2),())).bind fun r1=>cond (!r1.1.1) (some ((false,()),())) (cond (!decide ((↑(List.length a.1.2):Int)=(12:Int))) (some ((false,()),())) (cond (!decide ((↑(List.length a.2.1.2):Int)=(12:Int))) (some ((false,()),())) (cond (!decide ((↑(List.length a.2.2.1):Int)=(5:Int))) (some ((false,()),())) ((q69 n (a.2.2.2,(0:Int),(11:Int),())).bind fun r2=>cond (!r2.1.1) (some ((false,()),())) (lL4 (0:Int) a.1.1 a.1.2 a.2.1.1 a.2.1.2 a.2.2.1 a.2.2.2))))))
noncomputable def zc8(n:Nat)(lL9:Int→Int→Lb→Li→Lb→Li→(List (Br))→Int→Option R53)(lL4:Int→Lb→Li→Lb→Li→(List (Br))→Int→Option R53)(x0 x1:Int)(x2:Lb)(x3:Li)(x4:Lb)(x5:Li)(x6:List (Br))(x7:Int):Option R53 :=
 cond (decide (0≤x0)) (cond (decide (x0<(↑x6.length:Int))) (cond (decide (x1<(↑(List.length (x6.getD x0.toNat (false,[],[])).2.2):Int))) (cond (decide (0≤x0)) (cond (decide (x0<(↑x6.length:Int))) (cond (decide (0≤x1)) (cond (decide (x1<(↑(List.length (x6.getD x0.toNat (false,[],[])).2.2):Int))) (cond (decide ((List.getD (x6.getD x0.toNat (false,[],[])).2.2 x1.toNat ((0:Int),(0:Int),false,false)).1=(2:Int))) (cond (!decide ((List.getD (x6.getD x0.toNat (false,[],[])).2.2 x1.toNat ((0:Int),(0:Int),false,false)).1=(0:Int))) ((q69 n ((List.getD (x6.getD x0.toNat (false,[],[])).2.2 x1.toNat ((0:Int),(0:Int),false,false)).2.1,(0:Int),IntKind.i64.wrap ((12:Int) - (1:Int)),())).bind fun r6=>cond (!r6.1.1) (some ((false,()),())) (lL9 x0 (IntKind.i64.wrap (x1+1)) x2 x3 x4 x5 x6 x7)) (lL9 x0 (IntKind.i64.wrap (x1+1)) x2 x3 x4 x5 x6 x7)) (cond (!decide ((List.getD (x6.getD x0.toNat (false,[],[])).2.2 x1.toNat ((0:Int),(0:Int),false,false)).1=(0:Int))) ((q69 n ((List.getD (x6.getD x0.toNat (false,[],[])).2.2 x1.toNat ((0:Int),(0:Int),false,false)).2.1,(0:Int),IntKind.i64.wrap ((12:Int) - (1:Int)),())).bind fun r7=>cond (!r7.1.1) (some ((false,()),())) (lL9 x0 (IntKind.i64.wrap (x1+1)) x2 x3 x4 x5 x6 x7)) (lL9 x0 (IntKind.i64.wrap (x1+1)) x2 x3 x4 x5 x6 x7))) none) none) none) none) (lL4 (IntKind.i64.wrap (x0+1)) x2 x3 x4 x5 x6 x7)) none) none
noncomputable def zb5(n:Nat)(lL23:Int→Lb→Li→Lb→Li→(List (Br))→Int→Option R53)(x0:Int)(x1:Lb)(x2:Li)(x3:Lb)(x4:Li)(x5:List (Br))(x6:Int):Option R53 :=
 cond (decide (x0<12)) ((q119 n (((x1,x2),(x3,x4),x5,x6),(2:Int),x0,())).bind fun r12=>cond (decide (0≤x0)) (cond (decide (x0<(↑x4.length:Int))) (cond (!decide (r12.1.1=x4.getD x0.toNat (0:Int))) (some ((false,()),())) ((q120 n (((x1,x2),(x3,x4),x5,x6),(2:Int),x0,())).bind fun r13=>cond (!r13.1.1) (some ((false,()),())) (lL23 (IntKind.i64.wrap (x0+1)) x1 x2 x3 x4 x5 x6))) none) none) (some ((true,()),()))
noncomputable def zb6(n:Nat)(lL18:Int→Lb→Li→Lb→Li→(List (Br))→Int→Option R53)(lL23:Int→Lb→Li→Lb→Li→(List (Br))→Int→Option R53)(x0:Int)(x1:Lb)(x2:Li)(x3:Lb)(x4:Li)(x5:List (Br))(x6:Int):Option R53 :=
 cond (decide (x0<12)) ((q119 n (((x1,x2),(x3,x4),x5,x6),(1:Int),x0,())).bind fun r9=>cond (decide (0≤x0)) (cond (decide (x0<(↑x2.length:Int))) (cond (!decide (r9.1.1=x2.getD x0.toNat (0:Int))) (some ((false,()),())) ((q120 n (((x1,x2),(x3,x4),x5,x6),(1:Int),x0,())).bind fun r10=>cond (!r10.1.1) (some ((false,()),())) (lL18 (IntKind.i64.wrap (x0+1)) x1 x2 x3 x4 x5 x6))) none) none) (lL23 (0:Int) x1 x2 x3 x4 x5 x6)
noncomputable def zc9(n:Nat)(lL9:Int→Int→Lb→Li→Lb→Li→(List (Br))→Int→Option R53)(lL18:Int→Lb→Li→Lb→Li→(List (Br))→Int→Option R53)(x0:Int)(x1:Lb)(x2:Li)(x3:Lb)(x4:Li)(x5:List (Br))(x6:Int):Option R53 :=
 cond (decide (x0<5)) (cond (decide (0≤x0)) (cond (decide (x0<(↑x5.length:Int))) ((q118 n (((x5.getD x0.toNat (false,[],[])).1,(x5.getD x0.toNat (false,[],[])).2.1,(x5.getD x0.toNat (false,[],[])).2.2),())).bind fun r4=>cond (!r4.1.1) (some ((false,()),())) (lL9 x0 (0:Int) x1 x2 x3 x4 x5 x6)) none) none) (lL18 (0:Int) x1 x2 x3 x4 x5 x6)
theorem yjd(n:Nat)(a:Mm):runF TT G53 an53 Try.f53 c53 ps53 rs53 n (a,())=zeo n (fun x0 x1 x2 x3 x4 x5 x6=>at53 n (.head 4) [n] (zh2 x0 x1 x2 x3 x4 x5 x6)) a:=by kernel_rfl
theorem yde(n:Nat)(m4:Nat)(x0 x1:Int)(x2:Lb)(x3:Li)(x4:Lb)(x5:Li)(x6:List (Br))(x7:Int):at53 n (.head 9) [m4,0] (zkg x0 x1 x2 x3 x4 x5 x6 x7)=none:=by kernel_rfl
theorem yo0(n:Nat)(m4:Nat)(m9:Nat)(x0 x1:Int)(x2:Lb)(x3:Li)(x4:Lb)(x5:Li)(x6:List (Br))(x7:Int):at53 n (.head 9) [m4,m9+1] (zkg x0 x1 x2 x3 x4 x5 x6 x7)=zc8 n (fun x0 x1 x2 x3 x4 x5 x6 x7=>at53 n (.head 9) [m4,m9] (zkg x0 x1 x2 x3 x4 x5 x6 x7)) (fun x0 x1 x2 x3 x4 x5 x6=>at53 n (.head 4) [m4] (zh2 x0 x1 x2 x3 x4 x5 x6)) x0 x1 x2 x3 x4 x5 x6 x7:=by kernel_rfl
theorem zyd(n:Nat)(x0:Int)(x1:Lb)(x2:Li)(x3:Lb)(x4:Li)(x5:List (Br))(x6:Int):at53 n (.head 23) [0] (zgp x0 x1 x2 x3 x4 x5 x6)=none:=by kernel_rfl
theorem yje(n:Nat)(m23:Nat)(x0:Int)(x1:Lb)(x2:Li)(x3:Lb)(x4:Li)(x5:List (Br))(x6:Int):at53 n (.head 23) [m23+1] (zgp x0 x1 x2 x3 x4 x5 x6)=zb5 n (fun x0 x1 x2 x3 x4 x5 x6=>at53 n (.head 23) [m23] (zgp x0 x1 x2 x3 x4 x5 x6)) x0 x1 x2 x3 x4 x5 x6:=by kernel_rfl
theorem zye(n:Nat)(x0:Int)(x1:Lb)(x2:Li)(x3:Lb)(x4:Li)(x5:List (Br))(x6:Int):at53 n (.head 18) [0] (zgq x0 x1 x2 x3 x4 x5 x6)=none:=by kernel_rfl
theorem yjf(n:Nat)(m18:Nat)(x0:Int)(x1:Lb)(x2:Li)(x3:Lb)(x4:Li)(x5:List (Br))(x6:Int):at53 n (.head 18) [m18+1] (zgq x0 x1 x2 x3 x4 x5 x6)=zb6 n (fun x0 x1 x2 x3 x4 x5 x6=>at53 n (.head 18) [m18] (zgq x0 x1 x2 x3 x4 x5 x6)) (fun x0 x1 x2 x3 x4 x5 x6=>at53 n (.head 23) [n] (zgp x0 x1 x2 x3 x4 x5 x6)) x0 x1 x2 x3 x4 x5 x6:=by kernel_rfl
theorem ydf(n:Nat)(x0:Int)(x1:Lb)(x2:Li)(x3:Lb)(x4:Li)(x5:List (Br))(x6:Int):at53 n (.head 4) [0] (zh2 x0 x1 x2 x3 x4 x5 x6)=none:=by kernel_rfl
theorem yo1(n:Nat)(m4:Nat)(x0:Int)(x1:Lb)(x2:Li)(x3:Lb)(x4:Li)(x5:List (Br))(x6:Int):at53 n (.head 4) [m4+1] (zh2 x0 x1 x2 x3 x4 x5 x6)=zc9 n (fun x0 x1 x2 x3 x4 x5 x6 x7=>at53 n (.head 9) [m4,n] (zkg x0 x1 x2 x3 x4 x5 x6 x7)) (fun x0 x1 x2 x3 x4 x5 x6=>at53 n (.head 18) [n] (zgq x0 x1 x2 x3 x4 x5 x6)) x0 x1 x2 x3 x4 x5 x6:=by kernel_rfl
noncomputable def zcr(g4:Int→Lb→Li→Lb→Li→(List (Br))→Int→Option R53)(n:Nat):Nat→Int→Int→Lb→Li→Lb→Li→(List (Br))→Int→Option R53
 |0,_,_,_,_,_,_,_,_=>none
 |m+1,x0,x1,x2,x3,x4,x5,x6,x7=>zc8 n (zcr g4 n m) g4 x0 x1 x2 x3 x4 x5 x6 x7
noncomputable def zk6(n:Nat):Nat→Int→Lb→Li→Lb→Li→(List (Br))→Int→Option R53
 |0,_,_,_,_,_,_,_=>none
 |m+1,x0,x1,x2,x3,x4,x5,x6=>zb5 n (zk6 n m) x0 x1 x2 x3 x4 x5 x6
noncomputable def zk9(n:Nat):Nat→Int→Lb→Li→Lb→Li→(List (Br))→Int→Option R53
 |0,_,_,_,_,_,_,_=>none
 |m+1,x0,x1,x2,x3,x4,x5,x6=>zb6 n (zk9 n m) (zk6 n n) x0 x1 x2 x3 x4 x5 x6
noncomputable def zk3(n:Nat):Nat→Int→Lb→Li→Lb→Li→(List (Br))→Int→Option R53
 |0,_,_,_,_,_,_,_=>none
 |m+1,x0,x1,x2,x3,x4,x5,x6=>zc9 n (zcr (zk3 n m) n n) (zk9 n n) x0 x1 x2 x3 x4 x5 x6
noncomputable def p53(n:Nat)(a:Mm):Option R53:=zeo n (zk3 n n) a
theorem ymg(n:Nat)(m4:Nat):∀ (m9:Nat) (x0 x1:Int) (x2:Lb) (x3:Li) (x4:Lb) (x5:Li) (x6:List (Br)) (x7:Int),at53 n (.head 9) [m4,m9] (zkg x0 x1 x2 x3 x4 x5 x6 x7)=zcr (fun x0 x1 x2 x3 x4 x5 x6=>at53 n (.head 4) [m4] (zh2 x0 x1 x2 x3 x4 x5 x6)) n m9 x0 x1 x2 x3 x4 x5 x6 x7:=by
 intro m
 induction m with
 |zero=>intros;rw[yde];rfl
 |succ m ih =>
  intros
  rw[yo0]
  try simp only[ih]
  rfl
theorem yf4(n:Nat):∀ (m23:Nat) (x0:Int) (x1:Lb) (x2:Li) (x3:Lb) (x4:Li) (x5:List (Br)) (x6:Int),at53 n (.head 23) [m23] (zgp x0 x1 x2 x3 x4 x5 x6)=zk6 n m23 x0 x1 x2 x3 x4 x5 x6:=by
 intro m
 induction m with
 |zero=>intros;rw[zyd];rfl
 |succ m ih =>
  intros
  rw[yje]
  try simp only[ih]
  rfl
theorem yf5(n:Nat):∀ (m18:Nat) (x0:Int) (x1:Lb) (x2:Li) (x3:Lb) (x4:Li) (x5:List (Br)) (x6:Int),at53 n (.head 18) [m18] (zgq x0 x1 x2 x3 x4 x5 x6)=zk9 n m18 x0 x1 x2 x3 x4 x5 x6:=by
 intro m
 induction m with
 |zero=>intros;rw[zye];rfl
 |succ m ih =>
  intros
  rw[yjf]
  try simp only[yf4,ih]
  rfl
theorem ymh(n:Nat):∀ (m4:Nat) (x0:Int) (x1:Lb) (x2:Li) (x3:Lb) (x4:Li) (x5:List (Br)) (x6:Int),at53 n (.head 4) [m4] (zh2 x0 x1 x2 x3 x4 x5 x6)=zk3 n m4 x0 x1 x2 x3 x4 x5 x6:=by
 intro m
 induction m with
 |zero=>intros;rw[ydf];rfl
 |succ m ih =>
  intros
  rw[yo1]
  try simp only[ymg,yf5,ih]
  rfl
noncomputable def q53(n:Nat)(x:zap ps53):Option R53:=p53 n x.1
noncomputable def Sm53:Sm:=⟨ps53,rs53,false,q53⟩
theorem gam53:GamOK Try.prog G53:=by intro f s h;unfold G53 at h;split at h;exact gj h y69;exact gj h y117;exact gj h y118;exact gj h y119;exact gj h y120;cases h
theorem hh53:Hp 53 Sm53:=hOf (zaf (an:=an53) (c:=c53) zax gam53 zaw Try.func53 (by kernel_rfl) rfl (by decide +kernel)) fun n x=>(yjd n x.1).trans (by simp only[ymh];try rfl)
theorem y53:Gk 53 Sm53:=⟨⟨Try.f53,c53,Try.func53,by kernel_rfl,by decide +kernel⟩,hh53⟩
noncomputable def c123:Code:=(Try.f123.body.getD .skip)
def ypp:An:=⟨fun _=>⟨[],[]⟩,fun _ _=>none⟩
abbrev yb0:List PK:=[.val tPg true]
abbrev yhl:List RK:=[.own tPg true]
abbrev R123:=zam yhl×zak yb0
noncomputable def G123:Gam:=fun _=>none
noncomputable def zge(n:Nat)(a:Lb×Li):Option R123 :=
 cond (decide (((0:Nat)+List.length a.1)*(16:Nat)≤(140737488355328:Nat))) (cond (decide (((0:Nat)+List.length a.2)*(8:Nat)≤(140737488355328:Nat))) (some (((a.1,a.2),()),())) none) none
theorem yeb(n:Nat)(a:Lb×Li):runF TT G123 ypp Try.f123 c123 yb0 yhl n (a,())=zge n a:=by kernel_rfl
noncomputable def p123(n:Nat)(a:Lb×Li):Option R123:=zge n a
noncomputable def q123(n:Nat)(x:zap yb0):Option R123:=p123 n x.1
noncomputable def ylr:Sm:=⟨yb0,yhl,false,q123⟩
theorem yn_:GamOK Try.prog G123:=fun _ _ h=>by cases h
theorem hh123:Hp 123 ylr:=hOf (zaf (an:=ypp) (c:=c123) zax yn_ zaw Try.func123 (by kernel_rfl) rfl (by decide +kernel)) fun n x=>(yeb n x.1).trans rfl
theorem y123:Gk 123 ylr:=⟨⟨Try.f123,c123,Try.func123,by kernel_rfl,by decide +kernel⟩,hh123⟩
noncomputable def c56:Code:=(Try.f56.body.getD .skip)
def an56:An:=⟨fun r=>match r with|3=>⟨[1,2,3,4],[]⟩|_=>⟨[],[]⟩,fun _ _=>none⟩
abbrev ps56:List PK:=[.val tMem true]
abbrev rs56:List RK:=[.own tMem true]
abbrev R56:=zam rs56×zak ps56
noncomputable def G56:Gam:=fun f=>match f with|123=>some ylr|_=>none
noncomputable def at56:Nat→Pt→List Nat→St→Option R56:=atF TT G56 an56 Try.f56 c56 _ _
def zke(x0:Int)(x1:Lb)(x2:Li)(x3:Lb)(x4:Li)(x5:List (Br))(x6 x7 x8:Int)(x9:Lb)(x10:Li)(x11:Lb)(x12:Li)(x13:List (Br)):St:=(St.mk ([Uu,AV.one (SV.bptr 1000000 0),AV.one (SV.bptr 1000001 0),AV.one (SV.bptr 1000002 0),Ai x0]++Ur 40) [(1000000,(Ent.box [SV.con (⟨9,Ty.str,x1⟩:Rw),SV.con (⟨3,Ty.int .i64,x2⟩:Rw),SV.con (⟨9,Ty.str,x3⟩:Rw),SV.con (⟨3,Ty.int .i64,x4⟩:Rw),SV.con (⟨71,ySp,x5⟩:Rw),Si x6])),(1000001,(Ent.box [SV.nil,SV.nil,SV.nil,SV.nil,SV.nil,Si x7])),(1000002,(Ent.box [Sr 1000003,Sr 1000004,Sr 1000005,Sr 1000006,Sr 1000007,Si x8])),(1000003,Er ⟨9,Ty.str,x9⟩),(1000004,Er ⟨3,Ty.int .i64,x10⟩),(1000005,Er ⟨9,Ty.str,x11⟩),(1000006,Er ⟨3,Ty.int .i64,x12⟩),(1000007,Er ⟨71,ySp,x13⟩)])
noncomputable def zi8(n:Nat)(lL3:Int→Lb→Li→Lb→Li→(List (Br))→Int→Int→Int→Lb→Li→Lb→Li→(List (Br))→Option R56)(a:Mm):Option R56 :=
 (q123 n ((a.1.1,a.1.2),())).bind fun r0=>(q123 n ((a.2.1.1,a.2.1.2),())).bind fun r1=>lL3 (0:Int) a.1.1 a.1.2 a.2.1.1 a.2.1.2 a.2.2.1 a.2.2.2 (0:Int) a.2.2.2 r0.1.1.1 r0.1.1.2 r1.1.1.1 r1.1.1.2 ([])
noncomputable def zhs(n:Nat)(lL3:Int→Lb→Li→Lb→Li→(List (Br))→Int→Int→Int→Lb→Li→Lb→Li→(List (Br))→Option R56)(x0:Int)(x1:Lb)(x2:Li)(x3:Lb)(x4:Li)(x5:List (Br))(x6 x7 x8:Int)(x9:Lb)(x10:Li)(x11:Lb)(x12:Li)(x13:List (Br)):Option R56 :=
 cond (decide (x0<(↑x5.length:Int))) (cond (decide (0≤x0)) (cond (decide (x0<(↑x5.length:Int))) (cond (decide (((0:Nat)+List.length (x5.getD x0.toNat (false,[],[])).2.1)*(24:Nat)≤(140737488355328:Nat))) (cond (decide (((0:Nat)+List.length (x5.getD x0.toNat (false,[],[])).2.2)*(24:Nat)≤(140737488355328:Nat))) (cond (decide ((x13.length+[((x5.getD x0.toNat (false,[],[])).1,(x5.getD x0.toNat (false,[],[])).2.1,(x5.getD x0.toNat (false,[],[])).2.2)].length)*(56:Nat)≤(140737488355328:Nat))) (lL3 (IntKind.i64.wrap (x0+1)) x1 x2 x3 x4 x5 x6 x7 x8 x9 x10 x11 x12 (x13++[((x5.getD x0.toNat (false,[],[])).1,(x5.getD x0.toNat (false,[],[])).2.1,(x5.getD x0.toNat (false,[],[])).2.2)])) none) none) none) none) none) (some ((((x9,x10),((x11,x12),(x13,x8))),()),()))
theorem yja(n:Nat)(a:Mm):runF TT G56 an56 Try.f56 c56 ps56 rs56 n (a,())=zi8 n (fun x0 x1 x2 x3 x4 x5 x6 x7 x8 x9 x10 x11 x12 x13=>at56 n (.head 3) [n] (zke x0 x1 x2 x3 x4 x5 x6 x7 x8 x9 x10 x11 x12 x13)) a:=by kernel_rfl
theorem ydc(n:Nat)(x0:Int)(x1:Lb)(x2:Li)(x3:Lb)(x4:Li)(x5:List (Br))(x6 x7 x8:Int)(x9:Lb)(x10:Li)(x11:Lb)(x12:Li)(x13:List (Br)):at56 n (.head 3) [0] (zke x0 x1 x2 x3 x4 x5 x6 x7 x8 x9 x10 x11 x12 x13)=none:=by kernel_rfl
theorem yoy(n:Nat)(m3:Nat)(x0:Int)(x1:Lb)(x2:Li)(x3:Lb)(x4:Li)(x5:List (Br))(x6 x7 x8:Int)(x9:Lb)(x10:Li)(x11:Lb)(x12:Li)(x13:List (Br)):at56 n (.head 3) [m3+1] (zke x0 x1 x2 x3 x4 x5 x6 x7 x8 x9 x10 x11 x12 x13)=zhs n (fun x0 x1 x2 x3 x4 x5 x6 x7 x8 x9 x10 x11 x12 x13=>at56 n (.head 3) [m3] (zke x0 x1 x2 x3 x4 x5 x6 x7 x8 x9 x10 x11 x12 x13)) x0 x1 x2 x3 x4 x5 x6 x7 x8 x9 x10 x11 x12 x13:=by kernel_rfl
noncomputable def zqk(n:Nat):Nat→Int→Lb→Li→Lb→Li→(List (Br))→Int→Int→Int→Lb→Li→Lb→Li→(List (Br))→Option R56
 |0,_,_,_,_,_,_,_,_,_,_,_,_,_,_=>none
 |m+1,x0,x1,x2,x3,x4,x5,x6,x7,x8,x9,x10,x11,x12,x13=>zhs n (zqk n m) x0 x1 x2 x3 x4 x5 x6 x7 x8 x9 x10 x11 x12 x13
noncomputable def p56(n:Nat)(a:Mm):Option R56:=zi8 n (zqk n n) a
theorem yme(n:Nat):∀ (m3:Nat) (x0:Int) (x1:Lb) (x2:Li) (x3:Lb) (x4:Li) (x5:List (Br)) (x6 x7 x8:Int) (x9:Lb) (x10:Li) (x11:Lb) (x12:Li) (x13:List (Br)),at56 n (.head 3) [m3] (zke x0 x1 x2 x3 x4 x5 x6 x7 x8 x9 x10 x11 x12 x13)=zqk n m3 x0 x1 x2 x3 x4 x5 x6 x7 x8 x9 x10 x11 x12 x13:=by
 intro m
 induction m with
 |zero=>intros;rw[ydc];rfl
 |succ m ih =>
  intros
  rw[yoy]
  try simp only[ih]
  rfl
noncomputable def q56(n:Nat)(x:zap ps56):Option R56:=p56 n x.1
noncomputable def Sm56:Sm:=⟨ps56,rs56,false,q56⟩
theorem gam56:GamOK Try.prog G56:=by intro f s h;unfold G56 at h;split at h;exact gj h y123;cases h
theorem hh56:Hp 56 Sm56:=hOf (zaf (an:=an56) (c:=c56) zax gam56 zaw Try.func56 (by kernel_rfl) rfl (by decide +kernel)) fun n x=>(yja n x.1).trans (by simp only[yme];try rfl)
theorem y56:Gk 56 Sm56:=⟨⟨Try.f56,c56,Try.func56,by kernel_rfl,by decide +kernel⟩,hh56⟩
noncomputable def c93:Code:=(Try.f93.body.getD .skip)
def an93:An:=⟨fun r=>match r with|2=>⟨[1,3],[]⟩|_=>⟨[],[]⟩,fun _ _=>none⟩
abbrev ps93:List PK:=[.val tMem true]
abbrev rs93:List RK:=[.val i64 false]
abbrev R93:=zam rs93×zak ps93
noncomputable def G93:Gam:=fun _=>none
noncomputable def at93:Nat→Pt→List Nat→St→Option R93:=atF TT G93 an93 Try.f93 c93 _ _
def zj_(x0:Int)(x1:Lb)(x2:Li)(x3:Lb)(x4:Li)(x5:List (Br))(x6:Int):St:=(St.mk ([Uu,AV.one (SV.bptr 1000000 0),Uu,Ai x0]++Ur 15) [(1000000,(Ent.box [SV.con (⟨9,Ty.str,x1⟩:Rw),SV.con (⟨3,Ty.int .i64,x2⟩:Rw),SV.con (⟨9,Ty.str,x3⟩:Rw),SV.con (⟨3,Ty.int .i64,x4⟩:Rw),SV.con (⟨71,ySp,x5⟩:Rw),Si x6]))])
noncomputable def zte(n:Nat)(lL2:Int→Lb→Li→Lb→Li→(List (Br))→Int→Option R93)(a:Mm):Option R93 :=
 lL2 (0:Int) a.1.1 a.1.2 a.2.1.1 a.2.1.2 a.2.2.1 a.2.2.2
noncomputable def zhp(n:Nat)(lL2:Int→Lb→Li→Lb→Li→(List (Br))→Int→Option R93)(x0:Int)(x1:Lb)(x2:Li)(x3:Lb)(x4:Li)(x5:List (Br))(x6:Int):Option R93 :=
 cond (decide (x0<(↑x5.length:Int))) (cond (decide (0≤x0)) (cond (decide (x0<(↑x5.length:Int))) (cond (!(x5.getD x0.toNat (false,[],[])).1) (some ((x0,()),())) (lL2 (IntKind.i64.wrap (x0+1)) x1 x2 x3 x4 x5 x6)) none) none) (some (((-1:Int),()),()))
theorem yiz(n:Nat)(a:Mm):runF TT G93 an93 Try.f93 c93 ps93 rs93 n (a,())=zte n (fun x0 x1 x2 x3 x4 x5 x6=>at93 n (.head 2) [n] (zj_ x0 x1 x2 x3 x4 x5 x6)) a:=by kernel_rfl
theorem yc8(n:Nat)(x0:Int)(x1:Lb)(x2:Li)(x3:Lb)(x4:Li)(x5:List (Br))(x6:Int):at93 n (.head 2) [0] (zj_ x0 x1 x2 x3 x4 x5 x6)=none:=by kernel_rfl
theorem yor(n:Nat)(m2:Nat)(x0:Int)(x1:Lb)(x2:Li)(x3:Lb)(x4:Li)(x5:List (Br))(x6:Int):at93 n (.head 2) [m2+1] (zj_ x0 x1 x2 x3 x4 x5 x6)=zhp n (fun x0 x1 x2 x3 x4 x5 x6=>at93 n (.head 2) [m2] (zj_ x0 x1 x2 x3 x4 x5 x6)) x0 x1 x2 x3 x4 x5 x6:=by kernel_rfl
noncomputable def zt0(n:Nat):Nat→Int→Lb→Li→Lb→Li→(List (Br))→Int→Option R93
 |0,_,_,_,_,_,_,_=>none
 |m+1,x0,x1,x2,x3,x4,x5,x6=>zhp n (zt0 n m) x0 x1 x2 x3 x4 x5 x6
noncomputable def p93(n:Nat)(a:Mm):Option R93:=zte n (zt0 n n) a
theorem yl_(n:Nat):∀ (m2:Nat) (x0:Int) (x1:Lb) (x2:Li) (x3:Lb) (x4:Li) (x5:List (Br)) (x6:Int),at93 n (.head 2) [m2] (zj_ x0 x1 x2 x3 x4 x5 x6)=zt0 n m2 x0 x1 x2 x3 x4 x5 x6:=by
 intro m
 induction m with
 |zero=>intros;rw[yc8];rfl
 |succ m ih =>
  intros
  rw[yor]
  try simp only[ih]
  rfl
noncomputable def q93(n:Nat)(x:zap ps93):Option R93:=p93 n x.1
noncomputable def Sm93:Sm:=⟨ps93,rs93,false,q93⟩
theorem gam93:GamOK Try.prog G93:=fun _ _ h=>by cases h
theorem hh93:Hp 93 Sm93:=hOf (zaf (an:=an93) (c:=c93) zax gam93 zaw Try.func93 (by kernel_rfl) rfl (by decide +kernel)) fun n x=>(yiz n x.1).trans (by simp only[yl_];try rfl)
theorem y93:Gk 93 Sm93:=⟨⟨Try.f93,c93,Try.func93,by kernel_rfl,by decide +kernel⟩,hh93⟩
noncomputable def c28:Code:=(Try.f28.body.getD .skip)
def an28:An:=⟨fun _=>⟨[],[]⟩,fun _ _=>none⟩
abbrev ps28:List PK:=[.val tMem true]
abbrev rs28:List RK:=[.own tMem true,.val i64 false,.val .bool false]
abbrev R28:=zam rs28×zak ps28
noncomputable def G28:Gam:=fun f=>match f with|53=>some Sm53|56=>some Sm56|93=>some Sm93|_=>none
noncomputable def zep(n:Nat)(a:Mm):Option R28 :=
 (q53 n (((a.1.1,a.1.2),(a.2.1.1,a.2.1.2),a.2.2.1,a.2.2.2),())).bind fun r0=>cond (!r0.1.1) (some (((([],[]),(([],[]),([],(0:Int)))),((-1:Int),(false,()))),())) ((q93 n (((a.1.1,a.1.2),(a.2.1.1,a.2.1.2),a.2.2.1,a.2.2.2),())).bind fun r1=>cond (decide (r1.1.1<(0:Int))) (some (((([],[]),(([],[]),([],(0:Int)))),((-1:Int),(false,()))),())) ((q56 n (((a.1.1,a.1.2),(a.2.1.1,a.2.1.2),a.2.2.1,a.2.2.2),())).bind fun r2=>(q93 n (((a.1.1,a.1.2),(a.2.1.1,a.2.1.2),a.2.2.1,a.2.2.2),())).bind fun r3=>cond (decide ((0:Int)≤r3.1.1)) (cond (decide (r3.1.1<(↑(List.length r2.1.1.2.2.1):Int))) (some ((((r2.1.1.1.1,r2.1.1.1.2),((r2.1.1.2.1.1,r2.1.1.2.1.2),(List.set r2.1.1.2.2.1 (Int.toNat r3.1.1) (true,[],List.replicate (Int.toNat (16:Int)) ((0:Int),(0:Int),false,false)),r2.1.1.2.2.2))),(r3.1.1,(true,()))),())) none) none))
theorem yjq(n:Nat)(a:Mm):runF TT G28 an28 Try.f28 c28 ps28 rs28 n (a,())=zep n a:=by kernel_rfl
noncomputable def p28(n:Nat)(a:Mm):Option R28:=zep n a
noncomputable def q28(n:Nat)(x:zap ps28):Option R28:=p28 n x.1
noncomputable def Sm28:Sm:=⟨ps28,rs28,false,q28⟩
theorem gam28:GamOK Try.prog G28:=by intro f s h;unfold G28 at h;split at h;exact gj h y53;exact gj h y56;exact gj h y93;cases h
theorem hh28:Hp 28 Sm28:=hOf (zaf (an:=an28) (c:=c28) zax gam28 zaw Try.func28 (by kernel_rfl) rfl (by decide +kernel)) fun n x=>(yjq n x.1).trans rfl
theorem y28:Gk 28 Sm28:=⟨⟨Try.f28,c28,Try.func28,by kernel_rfl,by decide +kernel⟩,hh28⟩
noncomputable def c48:Code:=(Try.f48.body.getD .skip)
def an48:An:=⟨fun _=>⟨[],[]⟩,fun _ _=>none⟩
abbrev ps48:List PK:=[.bx tRd,.val i64 false]
abbrev rs48:List RK:=[.val i64 false]
abbrev R48:=zam rs48×zak ps48
noncomputable def G48:Gam:=fun _=>none
noncomputable def zjc(n:Nat)(a:Li×Int)(b:Int):Option R48 :=
 cond (decide (b<(1:Int))) (some (((0:Int),()),((a.1,IntKind.i64.wrap (a.2+(1:Int))),()))) (cond (decide ((↑(List.length a.1):Int)=(0:Int))) (some (((0:Int),()),((a.1,IntKind.i64.wrap (a.2+(1:Int))),()))) (cond (decide (IntKind.i64.wrap (IntKind.i64.wrap (a.2+(1:Int)) - (1:Int))<(↑(List.length a.1):Int))) (cond (decide ((0:Int)≤IntKind.i64.wrap (IntKind.i64.wrap (a.2+(1:Int)) - (1:Int)))) (cond (decide (IntKind.i64.wrap (IntKind.i64.wrap (a.2+(1:Int)) - (1:Int))<(↑(List.length a.1):Int))) (cond (!decide (b=(0:Int))) (some (((IntKind.i64.wrap (List.getD a.1 (IntKind.i64.wrap (IntKind.i64.wrap (a.2+(1:Int)) - (1:Int))).toNat (0:Int))).tmod b,()),((a.1,IntKind.i64.wrap (a.2+(1:Int))),()))) none) none) none) (cond (!decide ((↑(List.length a.1):Int)=(0:Int))) (cond (decide ((0:Int)≤(IntKind.i64.wrap (IntKind.i64.wrap (a.2+(1:Int)) - (1:Int))).tmod (↑(List.length a.1):Int))) (cond (decide ((IntKind.i64.wrap (IntKind.i64.wrap (a.2+(1:Int)) - (1:Int))).tmod (↑(List.length a.1):Int)<(↑(List.length a.1):Int))) (cond (!decide ((↑(List.length a.1):Int)=(0:Int))) (cond (decide ((0:Int)≤(IntKind.i64.wrap (IntKind.i64.wrap (IntKind.i64.wrap (IntKind.i64.wrap (a.2+(1:Int)) - (1:Int))*(7:Int))+(3:Int))).tmod (↑(List.length a.1):Int))) (cond (decide ((IntKind.i64.wrap (IntKind.i64.wrap (IntKind.i64.wrap (IntKind.i64.wrap (a.2+(1:Int)) - (1:Int))*(7:Int))+(3:Int))).tmod (↑(List.length a.1):Int)<(↑(List.length a.1):Int))) (cond (!decide ((↑(List.length a.1):Int)=(0:Int))) (cond (!decide (b=(0:Int))) (some (((IntKind.i64.wrap (↑(BitVec.ofInt IntKind.i64.bits (IntKind.i64.wrap (IntKind.i64.wrap (IntKind.i64.wrap (IntKind.i64.wrap (IntKind.i64.wrap (List.getD a.1 ((IntKind.i64.wrap (IntKind.i64.wrap (a.2+(1:Int)) - (1:Int))).tmod (↑(List.length a.1):Int)).toNat (0:Int))*(131:Int))+IntKind.i64.wrap (IntKind.i64.wrap (List.getD a.1 ((IntKind.i64.wrap (IntKind.i64.wrap (IntKind.i64.wrap (IntKind.i64.wrap (a.2+(1:Int)) - (1:Int))*(7:Int))+(3:Int))).tmod (↑(List.length a.1):Int)).toNat (0:Int))*(1117:Int)))+IntKind.i64.wrap (IntKind.i64.wrap (IntKind.i64.wrap (a.2+(1:Int)) - (1:Int))*(29:Int)))+IntKind.i64.wrap (IntKind.i64.wrap ((IntKind.i64.wrap (IntKind.i64.wrap (a.2+(1:Int)) - (1:Int))).tdiv (↑(List.length a.1):Int))*(53:Int)))) ^^^ BitVec.ofInt IntKind.i64.bits (IntKind.i64.wrap ((IntKind.i64.wrap (IntKind.i64.wrap (IntKind.i64.wrap (IntKind.i64.wrap (IntKind.i64.wrap (List.getD a.1 ((IntKind.i64.wrap (IntKind.i64.wrap (a.2+(1:Int)) - (1:Int))).tmod (↑(List.length a.1):Int)).toNat (0:Int))*(131:Int))+IntKind.i64.wrap (IntKind.i64.wrap (List.getD a.1 ((IntKind.i64.wrap (IntKind.i64.wrap (IntKind.i64.wrap (IntKind.i64.wrap (a.2+(1:Int)) - (1:Int))*(7:Int))+(3:Int))).tmod (↑(List.length a.1):Int)).toNat (0:Int))*(1117:Int)))+IntKind.i64.wrap (IntKind.i64.wrap (IntKind.i64.wrap (a.2+(1:Int)) - (1:Int))*(29:Int)))+IntKind.i64.wrap (IntKind.i64.wrap ((IntKind.i64.wrap (IntKind.i64.wrap (a.2+(1:Int)) - (1:Int))).tdiv (↑(List.length a.1):Int))*(53:Int)))).tdiv (64:Int)))).toNat:Int)).tmod b,()),((a.1,IntKind.i64.wrap (a.2+(1:Int))),()))) none) none) none) none) none) none) none) none)))
theorem yji(n:Nat)(a:Li×Int)(b:Int):runF TT G48 an48 Try.f48 c48 ps48 rs48 n (a,b,())=zjc n a b:=by kernel_rfl
noncomputable def p48(n:Nat)(a:Li×Int)(b:Int):Option R48:=zjc n a b
noncomputable def q48(n:Nat)(x:zap ps48):Option R48:=p48 n x.1 x.2.1
noncomputable def Sm48:Sm:=⟨ps48,rs48,true,q48⟩
theorem gam48:GamOK Try.prog G48:=fun _ _ h=>by cases h
theorem hh48:Hp 48 Sm48:=hOf (zaf (an:=an48) (c:=c48) zax gam48 zaw Try.func48 (by kernel_rfl) rfl (by decide +kernel)) fun n x=>(yji n x.1 x.2.1).trans rfl
theorem y48:Gk 48 Sm48:=⟨⟨Try.f48,c48,Try.func48,by kernel_rfl,by decide +kernel⟩,hh48⟩
noncomputable def c54:Code:=(Try.f54.body.getD .skip)
def an54:An:=⟨fun _=>⟨[],[]⟩,fun _ _=>none⟩
abbrev ps54:List PK:=[.val tMem true,.val i64 false]
abbrev rs54:List RK:=[.val .bool false]
abbrev R54:=zam rs54×zak ps54
noncomputable def G54:Gam:=fun f=>match f with|69=>some Sm69|_=>none
noncomputable def zi_(n:Nat)(a:Mm)(b:Int):Option R54 :=
 (q69 n (b,(0:Int),IntKind.i64.wrap ((↑(List.length a.2.2.1):Int) - (1:Int)),())).bind fun r0=>cond r0.1.1 (cond (decide ((0:Int)≤b)) (cond (decide (b<(↑(List.length a.2.2.1):Int))) (some (((List.getD a.2.2.1 b.toNat (false,[],[])).1,()),())) none) none) (some ((false,()),()))
theorem yjc(n:Nat)(a:Mm)(b:Int):runF TT G54 an54 Try.f54 c54 ps54 rs54 n (a,b,())=zi_ n a b:=by kernel_rfl
noncomputable def p54(n:Nat)(a:Mm)(b:Int):Option R54:=zi_ n a b
noncomputable def q54(n:Nat)(x:zap ps54):Option R54:=p54 n x.1 x.2.1
noncomputable def Sm54:Sm:=⟨ps54,rs54,false,q54⟩
theorem gam54:GamOK Try.prog G54:=by intro f s h;unfold G54 at h;split at h;exact gj h y69;cases h
theorem hh54:Hp 54 Sm54:=hOf (zaf (an:=an54) (c:=c54) zax gam54 zaw Try.func54 (by kernel_rfl) rfl (by decide +kernel)) fun n x=>(yjc n x.1 x.2.1).trans rfl
theorem y54:Gk 54 Sm54:=⟨⟨Try.f54,c54,Try.func54,by kernel_rfl,by decide +kernel⟩,hh54⟩
noncomputable def c175:Code:=(Try.f175.body.getD .skip)
def ypd:An:=⟨fun _=>⟨[],[]⟩,fun _ _=>none⟩
abbrev ybf:List PK:=[.val tAr true,.val i64 false,.val i64 false]
abbrev yg1:List RK:=[.val tAr true,.val .bool false]
abbrev R175:=zam yg1×zak ybf
noncomputable def G175:Gam:=fun _=>none
noncomputable def zf6(n:Nat)(a:Aq)(b:Int)(c:Int):Option R175 :=
 cond (decide ((if c<IntKind.i64.wrap (IntKind.i64.wrap (a.1+a.2.1) - (1:Int)) then c else IntKind.i64.wrap (IntKind.i64.wrap (a.1+a.2.1) - (1:Int)))<if b > a.1 then b else a.1)) (some ((((0:Int),((0:Int),(false,false))),(false,())),())) (some (((if b > a.1 then b else a.1,(IntKind.i64.wrap (IntKind.i64.wrap ((if c<IntKind.i64.wrap (IntKind.i64.wrap (a.1+a.2.1) - (1:Int)) then c else IntKind.i64.wrap (IntKind.i64.wrap (a.1+a.2.1) - (1:Int))) - if b > a.1 then b else a.1)+(1:Int)),(a.2.2.1,a.2.2.2))),(true,())),()))
theorem ydp(n:Nat)(a:Aq)(b:Int)(c:Int):runF TT G175 ypd Try.f175 c175 ybf yg1 n (a,b,c,())=zf6 n a b c:=by kernel_rfl
noncomputable def p175(n:Nat)(a:Aq)(b:Int)(c:Int):Option R175:=zf6 n a b c
noncomputable def q175(n:Nat)(x:zap ybf):Option R175:=p175 n x.1 x.2.1 x.2.2.1
noncomputable def ylf:Sm:=⟨ybf,yg1,false,q175⟩
theorem ynp:GamOK Try.prog G175:=fun _ _ h=>by cases h
theorem hh175:Hp 175 ylf:=hOf (zaf (an:=ypd) (c:=c175) zax ynp zaw Try.func175 (by kernel_rfl) rfl (by decide +kernel)) fun n x=>(ydp n x.1 x.2.1 x.2.2.1).trans rfl
theorem y175:Gk 175 ylf:=⟨⟨Try.f175,c175,Try.func175,by kernel_rfl,by decide +kernel⟩,hh175⟩
noncomputable def c159:Code:=(Try.f159.body.getD .skip)
def yk1:An:=⟨fun r=>match r with|3=>⟨[0,1,2,7,8],[]⟩|_=>⟨[],[]⟩,fun _ _=>none⟩
abbrev ybm:List PK:=[.val (.row 116 tAr) false,.val i64 false,.val i64 false]
abbrev yg8:List RK:=[.own (.row 116 tAr) false]
abbrev R159:=zam yg8×zak ybm
noncomputable def G159:Gam:=fun f=>match f with|175=>some ylf|_=>none
noncomputable def zzj:Nat→Pt→List Nat→St→Option R159:=atF TT G159 yk1 Try.f159 c159 _ _
def zgz(x0:Lq)(x1 x2 x3:Int)(x4:Lq):St:=(St.mk ([AV.one (SV.con (⟨116,yAq,x0⟩:Rw)),Ai x1,Ai x2,Uu,Uu,Uu,Uu,AV.one (Sr 1000000),Ai x3]++Ur 42) [(1000000,Er ⟨116,yAq,x4⟩)])
noncomputable def zpw(n:Nat)(lL3:Lq→Int→Int→Int→Lq→Option R159)(a:Lq)(b:Int)(c:Int):Option R159 :=
 lL3 a b c (0:Int) ([])
noncomputable def ze1(n:Nat)(lL3:Lq→Int→Int→Int→Lq→Option R159)(x0:Lq)(x1 x2 x3:Int)(x4:Lq):Option R159 :=
 cond (decide (x3<(↑x0.length:Int))) (cond (decide (0≤x3)) (cond (decide (x3<(↑x0.length:Int))) ((q175 n (((x0.getD x3.toNat ((0:Int),(0:Int),false,false)).1,(x0.getD x3.toNat ((0:Int),(0:Int),false,false)).2.1,(x0.getD x3.toNat ((0:Int),(0:Int),false,false)).2.2.1,(x0.getD x3.toNat ((0:Int),(0:Int),false,false)).2.2.2),(0:Int),IntKind.i64.wrap (x1 - 1),())).bind fun r1=>cond (decide (0≤x3)) (cond (decide (x3<(↑x0.length:Int))) ((q175 n (((x0.getD x3.toNat ((0:Int),(0:Int),false,false)).1,(x0.getD x3.toNat ((0:Int),(0:Int),false,false)).2.1,(x0.getD x3.toNat ((0:Int),(0:Int),false,false)).2.2.1,(x0.getD x3.toNat ((0:Int),(0:Int),false,false)).2.2.2),IntKind.i64.wrap (x2+1),(15:Int),())).bind fun r2=>cond r1.1.2.1 (cond (decide ((x4.length+[(r1.1.1.1,r1.1.1.2.1,r1.1.1.2.2.1,r1.1.1.2.2.2)].length)*(24:Nat)≤(140737488355328:Nat))) (cond r2.1.2.1 (cond (decide (((x4++[(r1.1.1.1,r1.1.1.2.1,r1.1.1.2.2.1,r1.1.1.2.2.2)]).length+[(r2.1.1.1,r2.1.1.2.1,r2.1.1.2.2.1,r2.1.1.2.2.2)].length)*(24:Nat)≤(140737488355328:Nat))) (lL3 x0 x1 x2 (IntKind.i64.wrap (x3+1)) (x4++[(r1.1.1.1,r1.1.1.2.1,r1.1.1.2.2.1,r1.1.1.2.2.2)]++[(r2.1.1.1,r2.1.1.2.1,r2.1.1.2.2.1,r2.1.1.2.2.2)])) none) (lL3 x0 x1 x2 (IntKind.i64.wrap (x3+1)) (x4++[(r1.1.1.1,r1.1.1.2.1,r1.1.1.2.2.1,r1.1.1.2.2.2)]))) none) (cond r2.1.2.1 (cond (decide ((x4.length+[(r2.1.1.1,r2.1.1.2.1,r2.1.1.2.2.1,r2.1.1.2.2.2)].length)*(24:Nat)≤(140737488355328:Nat))) (lL3 x0 x1 x2 (IntKind.i64.wrap (x3+1)) (x4++[(r2.1.1.1,r2.1.1.2.1,r2.1.1.2.2.1,r2.1.1.2.2.2)])) none) (lL3 x0 x1 x2 (IntKind.i64.wrap (x3+1)) x4))) none) none) none) none) (some ((x4,()),()))
theorem ydx(n:Nat)(a:Lq)(b:Int)(c:Int):runF TT G159 yk1 Try.f159 c159 ybm yg8 n (a,b,c,())=zpw n (fun x0 x1 x2 x3 x4=>zzj n (.head 3) [n] (zgz x0 x1 x2 x3 x4)) a b c:=by kernel_rfl
theorem zys(n:Nat)(x0:Lq)(x1 x2 x3:Int)(x4:Lq):zzj n (.head 3) [0] (zgz x0 x1 x2 x3 x4)=none:=by kernel_rfl
theorem yj6(n:Nat)(m3:Nat)(x0:Lq)(x1 x2 x3:Int)(x4:Lq):zzj n (.head 3) [m3+1] (zgz x0 x1 x2 x3 x4)=ze1 n (fun x0 x1 x2 x3 x4=>zzj n (.head 3) [m3] (zgz x0 x1 x2 x3 x4)) x0 x1 x2 x3 x4:=by kernel_rfl
noncomputable def zot(n:Nat):Nat→Lq→Int→Int→Int→Lq→Option R159
 |0,_,_,_,_,_=>none
 |m+1,x0,x1,x2,x3,x4=>ze1 n (zot n m) x0 x1 x2 x3 x4
noncomputable def p159(n:Nat)(a:Lq)(b:Int)(c:Int):Option R159:=zpw n (zot n n) a b c
theorem ygi(n:Nat):∀ (m3:Nat) (x0:Lq) (x1 x2 x3:Int) (x4:Lq),zzj n (.head 3) [m3] (zgz x0 x1 x2 x3 x4)=zot n m3 x0 x1 x2 x3 x4:=by
 intro m
 induction m with
 |zero=>intros;rw[zys];rfl
 |succ m ih =>
  intros
  rw[yj6]
  try simp only[ih]
  rfl
noncomputable def q159(n:Nat)(x:zap ybm):Option R159:=p159 n x.1 x.2.1 x.2.2.1
noncomputable def yli:Sm:=⟨ybm,yg8,false,q159⟩
theorem ynw:GamOK Try.prog G159:=by intro f s h;unfold G159 at h;split at h;exact gj h y175;cases h
theorem hh159:Hp 159 yli:=hOf (zaf (an:=yk1) (c:=c159) zax ynw zaw Try.func159 (by kernel_rfl) rfl (by decide +kernel)) fun n x=>(ydx n x.1 x.2.1 x.2.2.1).trans (by simp only[ygi];try rfl)
theorem y159:Gk 159 yli:=⟨⟨Try.f159,c159,Try.func159,by kernel_rfl,by decide +kernel⟩,hh159⟩
noncomputable def c121:Code:=(Try.f121.body.getD .skip)
def ypr:An:=⟨fun _=>⟨[],[]⟩,fun _ _=>none⟩
abbrev yb2:List PK:=[.val (.row 116 tAr) false,.val i64 false,.val i64 false]
abbrev yhn:List RK:=[.own (.row 116 tAr) false,.val .bool false]
abbrev R121:=zam yhn×zak yb2
noncomputable def G121:Gam:=fun f=>match f with|127=>some zz_|158=>some zz8|159=>some yli|_=>none
noncomputable def zgg(n:Nat)(a:Lq)(b:Int)(c:Int):Option R121 :=
 (q127 n (a,())).bind fun r0=>cond (!r0.1.1) (some (([],(false,())),())) ((q158 n ((b,c,false,false),())).bind fun r1=>cond (!r1.1.1) (some (([],(false,())),())) ((q159 n (a,b,IntKind.i64.wrap (IntKind.i64.wrap (b+c) - (1:Int)),())).bind fun r2=>(q127 n (r2.1.1,())).bind fun r3=>cond (!r3.1.1) (some (([],(false,())),())) (some ((r2.1.1,(true,())),()))))
theorem yed(n:Nat)(a:Lq)(b:Int)(c:Int):runF TT G121 ypr Try.f121 c121 yb2 yhn n (a,b,c,())=zgg n a b c:=by kernel_rfl
noncomputable def p121(n:Nat)(a:Lq)(b:Int)(c:Int):Option R121:=zgg n a b c
noncomputable def q121(n:Nat)(x:zap yb2):Option R121:=p121 n x.1 x.2.1 x.2.2.1
noncomputable def yls:Sm:=⟨yb2,yhn,false,q121⟩
theorem yob:GamOK Try.prog G121:=by intro f s h;unfold G121 at h;split at h;exact gj h y127;exact gj h y158;exact gj h y159;cases h
theorem hh121:Hp 121 yls:=hOf (zaf (an:=ypr) (c:=c121) zax yob zaw Try.func121 (by kernel_rfl) rfl (by decide +kernel)) fun n x=>(yed n x.1 x.2.1 x.2.2.1).trans rfl
theorem y121:Gk 121 yls:=⟨⟨Try.f121,c121,Try.func121,by kernel_rfl,by decide +kernel⟩,hh121⟩
noncomputable def c160:Code:=(Try.f160.body.getD .skip)
def ypf:An:=⟨fun _=>⟨[],[]⟩,fun _ _=>none⟩
abbrev ybl:List PK:=[.own tPg true,.val i64 false]
abbrev yg7:List RK:=[.own tPg true]
abbrev R160:=zam yg7×zak ybl
noncomputable def G160:Gam:=fun _=>none
noncomputable def zf7(n:Nat)(a:Lb×Li)(b:Int):Option R160 :=
 cond (decide ((0:Int)≤b)) (cond (decide (b<(↑(List.length a.2):Int))) (cond (decide ((0:Int)≤b)) (cond (decide (b<(↑(List.length a.2):Int))) (cond (decide ((0:Int)≤b)) (cond (decide (b<(↑(List.set a.2 b.toNat (IntKind.i64.wrap (List.getD a.2 b.toNat (0:Int) - (1:Int)))).length:Int))) (cond (decide ((List.set a.2 b.toNat (IntKind.i64.wrap (List.getD a.2 b.toNat (0:Int) - (1:Int)))).getD b.toNat (0:Int)=(0:Int))) (cond (decide ((0:Int)≤b)) (cond (decide (b<(↑(List.length a.1):Int))) (some (((List.set a.1 b.toNat (ByteArray.mk #[]),List.set a.2 b.toNat (IntKind.i64.wrap (List.getD a.2 b.toNat (0:Int) - (1:Int)))),()),())) none) none) (some (((a.1,List.set a.2 b.toNat (IntKind.i64.wrap (List.getD a.2 b.toNat (0:Int) - (1:Int)))),()),()))) none) none) none) none) none) none
theorem ydv(n:Nat)(a:Lb×Li)(b:Int):runF TT G160 ypf Try.f160 c160 ybl yg7 n (a,b,())=zf7 n a b:=by kernel_rfl
noncomputable def p160(n:Nat)(a:Lb×Li)(b:Int):Option R160:=zf7 n a b
noncomputable def q160(n:Nat)(x:zap ybl):Option R160:=p160 n x.1 x.2.1
noncomputable def ye5:Sm:=⟨ybl,yg7,false,q160⟩
theorem ynv:GamOK Try.prog G160:=fun _ _ h=>by cases h
theorem hh160:Hp 160 ye5:=hOf (zaf (an:=ypf) (c:=c160) zax ynv zaw Try.func160 (by kernel_rfl) rfl (by decide +kernel)) fun n x=>(ydv n x.1 x.2.1).trans rfl
theorem y160:Gk 160 ye5:=⟨⟨Try.f160,c160,Try.func160,by kernel_rfl,by decide +kernel⟩,hh160⟩
noncomputable def c122:Code:=(Try.f122.body.getD .skip)
def ypq:An:=⟨fun _=>⟨[],[]⟩,fun _ _=>none⟩
abbrev yb1:List PK:=[.own tMem true,.val i64 false,.val i64 false]
abbrev yhm:List RK:=[.own tMem true]
abbrev R122:=zam yhm×zak yb1
noncomputable def G122:Gam:=fun f=>match f with|160=>some ye5|_=>none
noncomputable def zgf(n:Nat)(a:Mm)(b:Int)(c:Int):Option R122 :=
 cond (decide ((0:Int)≤b)) (cond (decide (b<(↑(List.length a.2.2.1):Int))) (cond (decide ((0:Int)≤c)) (cond (decide (c<(↑(List.length (List.getD a.2.2.1 b.toNat (false,[],[])).2.2):Int))) (cond (decide ((List.getD (List.getD a.2.2.1 b.toNat (false,[],[])).2.2 c.toNat ((0:Int),(0:Int),false,false)).1=(1:Int))) ((q160 n ((a.1.1,a.1.2),(List.getD (List.getD a.2.2.1 b.toNat (false,[],[])).2.2 c.toNat ((0:Int),(0:Int),false,false)).2.1,())).bind fun r0=>cond (decide ((0:Int)≤b)) (cond (decide (b<(↑(List.length a.2.2.1):Int))) (cond (decide ((0:Int)≤c)) (cond (decide (c<(↑(List.length (List.getD a.2.2.1 b.toNat (false,[],[])).2.2):Int))) (some ((((r0.1.1.1,r0.1.1.2),((a.2.1.1,a.2.1.2),(List.set a.2.2.1 b.toNat ((List.getD a.2.2.1 b.toNat (false,[],[])).1,(List.getD a.2.2.1 b.toNat (false,[],[])).2.1,List.set (List.getD a.2.2.1 b.toNat (false,[],[])).2.2 c.toNat ((0:Int),(0:Int),false,false)),a.2.2.2))),()),())) none) none) none) none) (cond (decide ((List.getD (List.getD a.2.2.1 b.toNat (false,[],[])).2.2 c.toNat ((0:Int),(0:Int),false,false)).1=(2:Int))) ((q160 n ((a.2.1.1,a.2.1.2),(List.getD (List.getD a.2.2.1 b.toNat (false,[],[])).2.2 c.toNat ((0:Int),(0:Int),false,false)).2.1,())).bind fun r1=>cond (decide ((0:Int)≤b)) (cond (decide (b<(↑(List.length a.2.2.1):Int))) (cond (decide ((0:Int)≤c)) (cond (decide (c<(↑(List.length (List.getD a.2.2.1 b.toNat (false,[],[])).2.2):Int))) (some ((((a.1.1,a.1.2),((r1.1.1.1,r1.1.1.2),(List.set a.2.2.1 b.toNat ((List.getD a.2.2.1 b.toNat (false,[],[])).1,(List.getD a.2.2.1 b.toNat (false,[],[])).2.1,List.set (List.getD a.2.2.1 b.toNat (false,[],[])).2.2 c.toNat ((0:Int),(0:Int),false,false)),a.2.2.2))),()),())) none) none) none) none) (cond (decide ((0:Int)≤b)) (cond (decide (b<(↑(List.length a.2.2.1):Int))) (cond (decide ((0:Int)≤c)) (cond (decide (c<(↑(List.length (List.getD a.2.2.1 b.toNat (false,[],[])).2.2):Int))) (some ((((a.1.1,a.1.2),((a.2.1.1,a.2.1.2),(List.set a.2.2.1 b.toNat ((List.getD a.2.2.1 b.toNat (false,[],[])).1,(List.getD a.2.2.1 b.toNat (false,[],[])).2.1,List.set (List.getD a.2.2.1 b.toNat (false,[],[])).2.2 c.toNat ((0:Int),(0:Int),false,false)),a.2.2.2))),()),())) none) none) none) none))) none) none) none) none
theorem yec(n:Nat)(a:Mm)(b:Int)(c:Int):runF TT G122 ypq Try.f122 c122 yb1 yhm n (a,b,c,())=zgf n a b c:=by kernel_rfl
noncomputable def p122(n:Nat)(a:Mm)(b:Int)(c:Int):Option R122:=zgf n a b c
noncomputable def q122(n:Nat)(x:zap yb1):Option R122:=p122 n x.1 x.2.1 x.2.2.1
noncomputable def ye8:Sm:=⟨yb1,yhm,false,q122⟩
theorem yoa:GamOK Try.prog G122:=by intro f s h;unfold G122 at h;split at h;exact gj h y160;cases h
theorem hh122:Hp 122 ye8:=hOf (zaf (an:=ypq) (c:=c122) zax yoa zaw Try.func122 (by kernel_rfl) rfl (by decide +kernel)) fun n x=>(yec n x.1 x.2.1 x.2.2.1).trans rfl
theorem y122:Gk 122 ye8:=⟨⟨Try.f122,c122,Try.func122,by kernel_rfl,by decide +kernel⟩,hh122⟩
noncomputable def c55:Code:=(Try.f55.body.getD .skip)
def an55:An:=⟨fun r=>match r with|6=>⟨[1,2,3,4,8,12],[]⟩|_=>⟨[],[]⟩,fun _ _=>none⟩
abbrev ps55:List PK:=[.own tMem true,.val i64 false,.val i64 false,.val i64 false]
abbrev rs55:List RK:=[.own tMem true,.val i64 false]
abbrev R55:=zam rs55×zak ps55
noncomputable def G55:Gam:=fun f=>match f with|121=>some yls|122=>some ye8|_=>none
noncomputable def at55:Nat→Pt→List Nat→St→Option R55:=atF TT G55 an55 Try.f55 c55 _ _
def zkf(x0 x1 x2 x3 x4 x5:Int)(x6:Lb)(x7:Li)(x8:Lb)(x9:Li)(x10:List (Br)):St:=(St.mk ([Uu,Ai x0,Ai x1,Ai x2,AV.one (SV.bptr 1000000 0),Uu,Uu,Uu,AV.one (SV.bptr 1000001 0),Uu,Uu,Uu,Ai x3]++Ur 34) [(1000000,(Ent.box [Sr 1000002,Sr 1000003,Sr 1000004,Sr 1000005,Sr 1000006,Si x4])),(1000001,(Ent.box [SV.nil,SV.nil,SV.nil,SV.nil,SV.nil,Si x5])),(1000002,Er ⟨9,Ty.str,x6⟩),(1000003,Er ⟨3,Ty.int .i64,x7⟩),(1000004,Er ⟨9,Ty.str,x8⟩),(1000005,Er ⟨3,Ty.int .i64,x9⟩),(1000006,Er ⟨71,ySp,x10⟩)])
noncomputable def zi9(n:Nat)(lL6:Int→Int→Int→Int→Int→Int→Lb→Li→Lb→Li→(List (Br))→Option R55)(a:Mm)(b:Int)(c:Int)(d:Int):Option R55 :=
 cond (decide ((0:Int)≤b)) (cond (decide (b<(↑(List.length a.2.2.1):Int))) ((q121 n ((List.getD a.2.2.1 b.toNat (false,[],[])).2.1,c,d,())).bind fun r0=>cond (!r0.1.2.1) (some ((((a.1.1,a.1.2),((a.2.1.1,a.2.1.2),(a.2.2.1,a.2.2.2))),((4:Int),())),())) (cond (decide ((0:Int)≤b)) (cond (decide (b<(↑(List.length a.2.2.1):Int))) (lL6 b c d c a.2.2.2 (0:Int) a.1.1 a.1.2 a.2.1.1 a.2.1.2 (List.set a.2.2.1 b.toNat ((List.getD a.2.2.1 b.toNat (false,[],[])).1,r0.1.1,(List.getD a.2.2.1 b.toNat (false,[],[])).2.2))) none) none)) none) none
noncomputable def zht(n:Nat)(lL6:Int→Int→Int→Int→Int→Int→Lb→Li→Lb→Li→(List (Br))→Option R55)(x0 x1 x2 x3 x4 x5:Int)(x6:Lb)(x7:Li)(x8:Lb)(x9:Li)(x10:List (Br)):Option R55 :=
 cond (decide (x3<IntKind.i64.wrap (x1+x2))) ((q122 n (((x6,x7),(x8,x9),x10,x4),x0,x3,())).bind fun r2=>lL6 x0 x1 x2 (IntKind.i64.wrap (x3+1)) r2.1.1.2.2.2 x5 r2.1.1.1.1 r2.1.1.1.2 r2.1.1.2.1.1 r2.1.1.2.1.2 r2.1.1.2.2.1) (some ((((x6,x7),((x8,x9),(x10,x4))),((0:Int),())),()))
theorem yjb(n:Nat)(a:Mm)(b:Int)(c:Int)(d:Int):runF TT G55 an55 Try.f55 c55 ps55 rs55 n (a,b,c,d,())=zi9 n (fun x0 x1 x2 x3 x4 x5 x6 x7 x8 x9 x10=>at55 n (.head 6) [n] (zkf x0 x1 x2 x3 x4 x5 x6 x7 x8 x9 x10)) a b c d:=by kernel_rfl
theorem ydd(n:Nat)(x0 x1 x2 x3 x4 x5:Int)(x6:Lb)(x7:Li)(x8:Lb)(x9:Li)(x10:List (Br)):at55 n (.head 6) [0] (zkf x0 x1 x2 x3 x4 x5 x6 x7 x8 x9 x10)=none:=by kernel_rfl
theorem yoz(n:Nat)(m6:Nat)(x0 x1 x2 x3 x4 x5:Int)(x6:Lb)(x7:Li)(x8:Lb)(x9:Li)(x10:List (Br)):at55 n (.head 6) [m6+1] (zkf x0 x1 x2 x3 x4 x5 x6 x7 x8 x9 x10)=zht n (fun x0 x1 x2 x3 x4 x5 x6 x7 x8 x9 x10=>at55 n (.head 6) [m6] (zkf x0 x1 x2 x3 x4 x5 x6 x7 x8 x9 x10)) x0 x1 x2 x3 x4 x5 x6 x7 x8 x9 x10:=by kernel_rfl
noncomputable def zql(n:Nat):Nat→Int→Int→Int→Int→Int→Int→Lb→Li→Lb→Li→(List (Br))→Option R55
 |0,_,_,_,_,_,_,_,_,_,_,_=>none
 |m+1,x0,x1,x2,x3,x4,x5,x6,x7,x8,x9,x10=>zht n (zql n m) x0 x1 x2 x3 x4 x5 x6 x7 x8 x9 x10
noncomputable def p55(n:Nat)(a:Mm)(b:Int)(c:Int)(d:Int):Option R55:=zi9 n (zql n n) a b c d
theorem ymf(n:Nat):∀ (m6:Nat) (x0 x1 x2 x3 x4 x5:Int) (x6:Lb) (x7:Li) (x8:Lb) (x9:Li) (x10:List (Br)),at55 n (.head 6) [m6] (zkf x0 x1 x2 x3 x4 x5 x6 x7 x8 x9 x10)=zql n m6 x0 x1 x2 x3 x4 x5 x6 x7 x8 x9 x10:=by
 intro m
 induction m with
 |zero=>intros;rw[ydd];rfl
 |succ m ih =>
  intros
  rw[yoz]
  try simp only[ih]
  rfl
noncomputable def q55(n:Nat)(x:zap ps55):Option R55:=p55 n x.1 x.2.1 x.2.2.1 x.2.2.2.1
noncomputable def Sm55:Sm:=⟨ps55,rs55,false,q55⟩
theorem gam55:GamOK Try.prog G55:=by intro f s h;unfold G55 at h;split at h;exact gj h y121;exact gj h y122;cases h
theorem hh55:Hp 55 Sm55:=hOf (zaf (an:=an55) (c:=c55) zax gam55 zaw Try.func55 (by kernel_rfl) rfl (by decide +kernel)) fun n x=>(yjb n x.1 x.2.1 x.2.2.1 x.2.2.2.1).trans (by simp only[ymf];try rfl)
theorem y55:Gk 55 Sm55:=⟨⟨Try.f55,c55,Try.func55,by kernel_rfl,by decide +kernel⟩,hh55⟩
noncomputable def c103:Code:=(Try.f103.body.getD .skip)
def yla:An:=⟨fun r=>match r with|2=>⟨[1,2,4,5],[]⟩|_=>⟨[],[]⟩,fun _ _=>none⟩
abbrev ycg:List PK:=[.own tMem true,.val i64 false]
abbrev yh1:List RK:=[.own tMem true]
abbrev R103:=zam yh1×zak ycg
noncomputable def G103:Gam:=fun f=>match f with|122=>some ye8|_=>none
noncomputable def zzq:Nat→Pt→List Nat→St→Option R103:=atF TT G103 yla Try.f103 c103 _ _
def zg9(x0 x1 x2 x3:Int)(x4:Lb)(x5:Li)(x6:Lb)(x7:Li)(x8:List (Br)):St:=(St.mk ([Uu,Ai x0,AV.one (SV.bptr 1000000 0),Uu,AV.one (SV.bptr 1000001 0),Ai x1]++Ur 14) [(1000000,(Ent.box [Sr 1000002,Sr 1000003,Sr 1000004,Sr 1000005,Sr 1000006,Si x2])),(1000001,(Ent.box [SV.nil,SV.nil,SV.nil,SV.nil,SV.nil,Si x3])),(1000002,Er ⟨9,Ty.str,x4⟩),(1000003,Er ⟨3,Ty.int .i64,x5⟩),(1000004,Er ⟨9,Ty.str,x6⟩),(1000005,Er ⟨3,Ty.int .i64,x7⟩),(1000006,Er ⟨71,ySp,x8⟩)])
noncomputable def zp6(n:Nat)(lL2:Int→Int→Int→Int→Lb→Li→Lb→Li→(List (Br))→Option R103)(a:Mm)(b:Int):Option R103 :=
 lL2 b (0:Int) a.2.2.2 (0:Int) a.1.1 a.1.2 a.2.1.1 a.2.1.2 a.2.2.1
noncomputable def ze8(n:Nat)(lL2:Int→Int→Int→Int→Lb→Li→Lb→Li→(List (Br))→Option R103)(x0 x1 x2 x3:Int)(x4:Lb)(x5:Li)(x6:Lb)(x7:Li)(x8:List (Br)):Option R103 :=
 cond (decide (x1<16)) ((q122 n (((x4,x5),(x6,x7),x8,x2),x0,x1,())).bind fun r1=>lL2 x0 (IntKind.i64.wrap (x1+1)) r1.1.1.2.2.2 x3 r1.1.1.1.1 r1.1.1.1.2 r1.1.1.2.1.1 r1.1.1.2.1.2 r1.1.1.2.2.1) (cond (decide (0≤x0)) (cond (decide (x0<(↑x8.length:Int))) (some ((((x4,x5),((x6,x7),(x8.set x0.toNat (false,[],[]),x2))),()),())) none) none)
theorem yer(n:Nat)(a:Mm)(b:Int):runF TT G103 yla Try.f103 c103 ycg yh1 n (a,b,())=zp6 n (fun x0 x1 x2 x3 x4 x5 x6 x7 x8=>zzq n (.head 2) [n] (zg9 x0 x1 x2 x3 x4 x5 x6 x7 x8)) a b:=by kernel_rfl
theorem zy4(n:Nat)(x0 x1 x2 x3:Int)(x4:Lb)(x5:Li)(x6:Lb)(x7:Li)(x8:List (Br)):zzq n (.head 2) [0] (zg9 x0 x1 x2 x3 x4 x5 x6 x7 x8)=none:=by kernel_rfl
theorem ykh(n:Nat)(m2:Nat)(x0 x1 x2 x3:Int)(x4:Lb)(x5:Li)(x6:Lb)(x7:Li)(x8:List (Br)):zzq n (.head 2) [m2+1] (zg9 x0 x1 x2 x3 x4 x5 x6 x7 x8)=ze8 n (fun x0 x1 x2 x3 x4 x5 x6 x7 x8=>zzq n (.head 2) [m2] (zg9 x0 x1 x2 x3 x4 x5 x6 x7 x8)) x0 x1 x2 x3 x4 x5 x6 x7 x8:=by kernel_rfl
noncomputable def zoy(n:Nat):Nat→Int→Int→Int→Int→Lb→Li→Lb→Li→(List (Br))→Option R103
 |0,_,_,_,_,_,_,_,_,_=>none
 |m+1,x0,x1,x2,x3,x4,x5,x6,x7,x8=>ze8 n (zoy n m) x0 x1 x2 x3 x4 x5 x6 x7 x8
noncomputable def p103(n:Nat)(a:Mm)(b:Int):Option R103:=zp6 n (zoy n n) a b
theorem ygu(n:Nat):∀ (m2:Nat) (x0 x1 x2 x3:Int) (x4:Lb) (x5:Li) (x6:Lb) (x7:Li) (x8:List (Br)),zzq n (.head 2) [m2] (zg9 x0 x1 x2 x3 x4 x5 x6 x7 x8)=zoy n m2 x0 x1 x2 x3 x4 x5 x6 x7 x8:=by
 intro m
 induction m with
 |zero=>intros;rw[zy4];rfl
 |succ m ih =>
  intros
  rw[ykh]
  try simp only[ih]
  rfl
noncomputable def q103(n:Nat)(x:zap ycg):Option R103:=p103 n x.1 x.2.1
noncomputable def yl4:Sm:=⟨ycg,yh1,false,q103⟩
theorem yop:GamOK Try.prog G103:=by intro f s h;unfold G103 at h;split at h;exact gj h y122;cases h
theorem hh103:Hp 103 yl4:=hOf (zaf (an:=yla) (c:=c103) zax yop zaw Try.func103 (by kernel_rfl) rfl (by decide +kernel)) fun n x=>(yer n x.1 x.2.1).trans (by simp only[ygu];try rfl)
theorem y103:Gk 103 yl4:=⟨⟨Try.f103,c103,Try.func103,by kernel_rfl,by decide +kernel⟩,hh103⟩
noncomputable def c170:Code:=(Try.f170.body.getD .skip)
def yk0:An:=⟨fun r=>match r with|4=>⟨[0,3,5,6,7],[]⟩|_=>⟨[],[]⟩,fun _ _=>none⟩
abbrev ybk:List PK:=[.val (.row 116 tAr) false,.val tAr true]
abbrev yg6:List RK:=[.own (.row 116 tAr) false]
abbrev R170:=zam yg6×zak ybk
noncomputable def G170:Gam:=fun _=>none
noncomputable def zzi:Nat→Pt→List Nat→St→Option R170:=atF TT G170 yk0 Try.f170 c170 _ _
def zgy(x0:Lq)(x1:Bool)(x2 x3 x4:Int)(x5 x6:Bool)(x7:Lq):St:=(St.mk ([AV.one (SV.con (⟨116,yAq,x0⟩:Rw)),Uu,Uu,AV.one (SV.bptr 1000000 0),Uu,AV.one (Sr 1000001),AV.one (SV.bool x1),Ai x2]++Ur 37) [(1000000,(Ent.box [Si x3,Si x4,SV.bool x5,SV.bool x6])),(1000001,Er ⟨116,yAq,x7⟩)])
noncomputable def zpv(n:Nat)(lL4:Lq→Bool→Int→Int→Int→Bool→Bool→Lq→Option R170)(a:Lq)(b:Aq):Option R170 :=
 lL4 a false (0:Int) b.1 b.2.1 b.2.2.1 b.2.2.2 ([])
noncomputable def ze0(n:Nat)(lL4:Lq→Bool→Int→Int→Int→Bool→Bool→Lq→Option R170)(x0:Lq)(x1:Bool)(x2 x3 x4:Int)(x5 x6:Bool)(x7:Lq):Option R170 :=
 cond (decide (x2<(↑x0.length:Int))) (cond (!x1) (cond (decide (0≤x2)) (cond (decide (x2<(↑x0.length:Int))) (cond (decide (x3≤(x0.getD x2.toNat ((0:Int),(0:Int),false,false)).1)) (cond (decide ((x7.length+[(x3,x4,x5,x6)].length)*(24:Nat)≤(140737488355328:Nat))) (cond (decide (0≤x2)) (cond (decide (x2<(↑x0.length:Int))) (cond (decide (((x7++[(x3,x4,x5,x6)]).length+[((x0.getD x2.toNat ((0:Int),(0:Int),false,false)).1,(x0.getD x2.toNat ((0:Int),(0:Int),false,false)).2.1,(x0.getD x2.toNat ((0:Int),(0:Int),false,false)).2.2.1,(x0.getD x2.toNat ((0:Int),(0:Int),false,false)).2.2.2)].length)*(24:Nat)≤(140737488355328:Nat))) (lL4 x0 true (IntKind.i64.wrap (x2+1)) x3 x4 x5 x6 (x7++[(x3,x4,x5,x6)]++[((x0.getD x2.toNat ((0:Int),(0:Int),false,false)).1,(x0.getD x2.toNat ((0:Int),(0:Int),false,false)).2.1,(x0.getD x2.toNat ((0:Int),(0:Int),false,false)).2.2.1,(x0.getD x2.toNat ((0:Int),(0:Int),false,false)).2.2.2)])) none) none) none) none) (cond (decide (0≤x2)) (cond (decide (x2<(↑x0.length:Int))) (cond (decide ((x7.length+[((x0.getD x2.toNat ((0:Int),(0:Int),false,false)).1,(x0.getD x2.toNat ((0:Int),(0:Int),false,false)).2.1,(x0.getD x2.toNat ((0:Int),(0:Int),false,false)).2.2.1,(x0.getD x2.toNat ((0:Int),(0:Int),false,false)).2.2.2)].length)*(24:Nat)≤(140737488355328:Nat))) (lL4 x0 x1 (IntKind.i64.wrap (x2+1)) x3 x4 x5 x6 (x7++[((x0.getD x2.toNat ((0:Int),(0:Int),false,false)).1,(x0.getD x2.toNat ((0:Int),(0:Int),false,false)).2.1,(x0.getD x2.toNat ((0:Int),(0:Int),false,false)).2.2.1,(x0.getD x2.toNat ((0:Int),(0:Int),false,false)).2.2.2)])) none) none) none)) none) none) (cond (decide (0≤x2)) (cond (decide (x2<(↑x0.length:Int))) (cond (decide ((x7.length+[((x0.getD x2.toNat ((0:Int),(0:Int),false,false)).1,(x0.getD x2.toNat ((0:Int),(0:Int),false,false)).2.1,(x0.getD x2.toNat ((0:Int),(0:Int),false,false)).2.2.1,(x0.getD x2.toNat ((0:Int),(0:Int),false,false)).2.2.2)].length)*(24:Nat)≤(140737488355328:Nat))) (lL4 x0 x1 (IntKind.i64.wrap (x2+1)) x3 x4 x5 x6 (x7++[((x0.getD x2.toNat ((0:Int),(0:Int),false,false)).1,(x0.getD x2.toNat ((0:Int),(0:Int),false,false)).2.1,(x0.getD x2.toNat ((0:Int),(0:Int),false,false)).2.2.1,(x0.getD x2.toNat ((0:Int),(0:Int),false,false)).2.2.2)])) none) none) none)) (cond (!x1) (cond (decide ((x7.length+[(x3,x4,x5,x6)].length)*(24:Nat)≤(140737488355328:Nat))) (some ((x7++[(x3,x4,x5,x6)],()),())) none) (some ((x7,()),())))
theorem ydu(n:Nat)(a:Lq)(b:Aq):runF TT G170 yk0 Try.f170 c170 ybk yg6 n (a,b,())=zpv n (fun x0 x1 x2 x3 x4 x5 x6 x7=>zzi n (.head 4) [n] (zgy x0 x1 x2 x3 x4 x5 x6 x7)) a b:=by kernel_rfl
theorem zyr(n:Nat)(x0:Lq)(x1:Bool)(x2 x3 x4:Int)(x5 x6:Bool)(x7:Lq):zzi n (.head 4) [0] (zgy x0 x1 x2 x3 x4 x5 x6 x7)=none:=by kernel_rfl
theorem yj4(n:Nat)(m4:Nat)(x0:Lq)(x1:Bool)(x2 x3 x4:Int)(x5 x6:Bool)(x7:Lq):zzi n (.head 4) [m4+1] (zgy x0 x1 x2 x3 x4 x5 x6 x7)=ze0 n (fun x0 x1 x2 x3 x4 x5 x6 x7=>zzi n (.head 4) [m4] (zgy x0 x1 x2 x3 x4 x5 x6 x7)) x0 x1 x2 x3 x4 x5 x6 x7:=by kernel_rfl
noncomputable def zos(n:Nat):Nat→Lq→Bool→Int→Int→Int→Bool→Bool→Lq→Option R170
 |0,_,_,_,_,_,_,_,_=>none
 |m+1,x0,x1,x2,x3,x4,x5,x6,x7=>ze0 n (zos n m) x0 x1 x2 x3 x4 x5 x6 x7
noncomputable def p170(n:Nat)(a:Lq)(b:Aq):Option R170:=zpv n (zos n n) a b
theorem ygh(n:Nat):∀ (m4:Nat) (x0:Lq) (x1:Bool) (x2 x3 x4:Int) (x5 x6:Bool) (x7:Lq),zzi n (.head 4) [m4] (zgy x0 x1 x2 x3 x4 x5 x6 x7)=zos n m4 x0 x1 x2 x3 x4 x5 x6 x7:=by
 intro m
 induction m with
 |zero=>intros;rw[zyr];rfl
 |succ m ih =>
  intros
  rw[yj4]
  try simp only[ih]
  rfl
noncomputable def q170(n:Nat)(x:zap ybk):Option R170:=p170 n x.1 x.2.1
noncomputable def ylh:Sm:=⟨ybk,yg6,false,q170⟩
theorem ynu:GamOK Try.prog G170:=fun _ _ h=>by cases h
theorem hh170:Hp 170 ylh:=hOf (zaf (an:=yk0) (c:=c170) zax ynu zaw Try.func170 (by kernel_rfl) rfl (by decide +kernel)) fun n x=>(ydu n x.1 x.2.1).trans (by simp only[ygh];try rfl)
theorem y170:Gk 170 ylh:=⟨⟨Try.f170,c170,Try.func170,by kernel_rfl,by decide +kernel⟩,hh170⟩
noncomputable def c152:Code:=(Try.f152.body.getD .skip)
def ypl:An:=⟨fun _=>⟨[],[]⟩,fun _ _=>none⟩
abbrev ybt:List PK:=[.val (.row 116 tAr) false,.val tAr true]
abbrev yhe:List RK:=[.own (.row 116 tAr) false,.val .bool false]
abbrev R152:=zam yhe×zak ybt
noncomputable def G152:Gam:=fun f=>match f with|127=>some zz_|158=>some zz8|170=>some ylh|_=>none
noncomputable def zgc(n:Nat)(a:Lq)(b:Aq):Option R152 :=
 (q127 n (a,())).bind fun r0=>cond (!r0.1.1) (some (([],(false,())),())) ((q158 n ((b.1,b.2.1,b.2.2.1,b.2.2.2),())).bind fun r1=>cond (!r1.1.1) (some (([],(false,())),())) ((q170 n (a,(b.1,b.2.1,b.2.2.1,b.2.2.2),())).bind fun r2=>(q127 n (r2.1.1,())).bind fun r3=>cond (!r3.1.1) (some (([],(false,())),())) (some ((r2.1.1,(true,())),()))))
theorem yd5(n:Nat)(a:Lq)(b:Aq):runF TT G152 ypl Try.f152 c152 ybt yhe n (a,b,())=zgc n a b:=by kernel_rfl
noncomputable def p152(n:Nat)(a:Lq)(b:Aq):Option R152:=zgc n a b
noncomputable def q152(n:Nat)(x:zap ybt):Option R152:=p152 n x.1 x.2.1
noncomputable def ylm:Sm:=⟨ybt,yhe,false,q152⟩
theorem yn3:GamOK Try.prog G152:=by intro f s h;unfold G152 at h;split at h;exact gj h y127;exact gj h y158;exact gj h y170;cases h
theorem hh152:Hp 152 ylm:=hOf (zaf (an:=ypl) (c:=c152) zax yn3 zaw Try.func152 (by kernel_rfl) rfl (by decide +kernel)) fun n x=>(yd5 n x.1 x.2.1).trans rfl
theorem y152:Gk 152 ylm:=⟨⟨Try.f152,c152,Try.func152,by kernel_rfl,by decide +kernel⟩,hh152⟩
noncomputable def c108:Code:=(Try.f108.body.getD .skip)
def ypy:An:=⟨fun _=>⟨[],[]⟩,fun _ _=>none⟩
abbrev ycd:List PK:=[.own tMem true,.val i64 false,.val tAr true]
abbrev yhy:List RK:=[.own tMem true,.val i64 false]
abbrev R108:=zam yhy×zak ycd
noncomputable def G108:Gam:=fun f=>match f with|152=>some ylm|_=>none
noncomputable def zgm(n:Nat)(a:Mm)(b:Int)(c:Aq):Option R108 :=
 cond (decide ((0:Int)≤b)) (cond (decide (b<(↑(List.length a.2.2.1):Int))) ((q152 n ((List.getD a.2.2.1 b.toNat (false,[],[])).2.1,(c.1,c.2.1,c.2.2.1,c.2.2.2),())).bind fun r0=>cond (!r0.1.2.1) (some ((((a.1.1,a.1.2),((a.2.1.1,a.2.1.2),(a.2.2.1,a.2.2.2))),((4:Int),())),())) (cond (decide ((0:Int)≤b)) (cond (decide (b<(↑(List.length a.2.2.1):Int))) (some ((((a.1.1,a.1.2),((a.2.1.1,a.2.1.2),(List.set a.2.2.1 b.toNat ((List.getD a.2.2.1 b.toNat (false,[],[])).1,r0.1.1,(List.getD a.2.2.1 b.toNat (false,[],[])).2.2),a.2.2.2))),((0:Int),())),())) none) none)) none) none
theorem yeo(n:Nat)(a:Mm)(b:Int)(c:Aq):runF TT G108 ypy Try.f108 c108 ycd yhy n (a,b,c,())=zgm n a b c:=by kernel_rfl
noncomputable def p108(n:Nat)(a:Mm)(b:Int)(c:Aq):Option R108:=zgm n a b c
noncomputable def q108(n:Nat)(x:zap ycd):Option R108:=p108 n x.1 x.2.1 x.2.2.1
noncomputable def yfa:Sm:=⟨ycd,yhy,false,q108⟩
theorem yom:GamOK Try.prog G108:=by intro f s h;unfold G108 at h;split at h;exact gj h y152;cases h
theorem hh108:Hp 108 yfa:=hOf (zaf (an:=ypy) (c:=c108) zax yom zaw Try.func108 (by kernel_rfl) rfl (by decide +kernel)) fun n x=>(yeo n x.1 x.2.1 x.2.2.1).trans rfl
theorem y108:Gk 108 yfa:=⟨⟨Try.f108,c108,Try.func108,by kernel_rfl,by decide +kernel⟩,hh108⟩
noncomputable def c72:Code:=(Try.f72.body.getD .skip)
def an72:An:=⟨fun _=>⟨[],[]⟩,fun _ _=>none⟩
abbrev ps72:List PK:=[.val .str false,.val i64 false,.val i64 false]
abbrev rs72:List RK:=[.val .str false]
abbrev R72:=zam rs72×zak ps72
noncomputable def G72:Gam:=fun _=>none
noncomputable def ziz(n:Nat)(a:ByteArray)(b:Int)(c:Int):Option R72 :=
 cond (decide ((0:Int)≤b)) (cond (decide (b≤(↑a.size:Int))) (cond (decide ((a.extract (Int.toNat (0:Int)) b.toNat).size+(List.foldl (fun r n=>r.push (UInt8.ofNat n.toNat)) ByteArray.empty [IntKind.u8.wrap c]).size≤(9223372036854775807:Nat))) (cond (decide ((0:Int)≤IntKind.i64.wrap (b+(1:Int)))) (cond (decide (IntKind.i64.wrap (b+(1:Int))≤(↑a.size:Int))) (cond (decide ((a.extract (Int.toNat (0:Int)) b.toNat++List.foldl (fun r n=>r.push (UInt8.ofNat n.toNat)) ByteArray.empty [IntKind.u8.wrap c]).size+(a.extract (IntKind.i64.wrap (b+(1:Int))).toNat (↑a.size:Int).toNat).size≤(9223372036854775807:Nat))) (some ((a.extract (Int.toNat (0:Int)) b.toNat++List.foldl (fun r n=>r.push (UInt8.ofNat n.toNat)) ByteArray.empty [IntKind.u8.wrap c]++a.extract (IntKind.i64.wrap (b+(1:Int))).toNat (↑a.size:Int).toNat,()),())) none) none) none) none) none) none
theorem yi0(n:Nat)(a:ByteArray)(b:Int)(c:Int):runF TT G72 an72 Try.f72 c72 ps72 rs72 n (a,b,c,())=ziz n a b c:=by kernel_rfl
noncomputable def p72(n:Nat)(a:ByteArray)(b:Int)(c:Int):Option R72:=ziz n a b c
noncomputable def q72(n:Nat)(x:zap ps72):Option R72:=p72 n x.1 x.2.1 x.2.2.1
noncomputable def Sm72:Sm:=⟨ps72,rs72,false,q72⟩
theorem gam72:GamOK Try.prog G72:=fun _ _ h=>by cases h
theorem hh72:Hp 72 Sm72:=hOf (zaf (an:=an72) (c:=c72) zax gam72 zaw Try.func72 (by kernel_rfl) rfl (by decide +kernel)) fun n x=>(yi0 n x.1 x.2.1 x.2.2.1).trans rfl
theorem y72:Gk 72 Sm72:=⟨⟨Try.f72,c72,Try.func72,by kernel_rfl,by decide +kernel⟩,hh72⟩
noncomputable def c172:Code:=(Try.f172.body.getD .skip)
def yky:An:=⟨fun r=>match r with|2=>⟨[1,2,4,6],[]⟩|_=>⟨[],[]⟩,fun _ _=>none⟩
abbrev ybi:List PK:=[.own tPg true,.val .str false]
abbrev yg4:List RK:=[.own tPg true,.val i64 false]
abbrev R172:=zam yg4×zak ybi
noncomputable def G172:Gam:=fun _=>none
noncomputable def zzg:Nat→Pt→List Nat→St→Option R172:=atF TT G172 yky Try.f172 c172 _ _
def zgw(x0:ByteArray)(x1:Int)(x2:Lb)(x3:Li):St:=(St.mk ([Uu,AV.one (SV.str x0),AV.one (SV.bptr 1000000 0),Uu,AV.one (SV.bptr 1000001 0),Uu,Ai x1]++Ur 25) [(1000000,(Ent.box [Sr 1000002,Sr 1000003])),(1000001,(Ent.box [SV.nil,SV.nil])),(1000002,Er ⟨9,Ty.str,x2⟩),(1000003,Er ⟨3,Ty.int .i64,x3⟩)])
noncomputable def zpu(n:Nat)(lL2:ByteArray→Int→Lb→Li→Option R172)(a:Lb×Li)(b:ByteArray):Option R172 :=
 lL2 b (0:Int) a.1 a.2
noncomputable def zez(n:Nat)(lL2:ByteArray→Int→Lb→Li→Option R172)(x0:ByteArray)(x1:Int)(x2:Lb)(x3:Li):Option R172 :=
 cond (decide (x1<(↑x3.length:Int))) (cond (decide (0≤x1)) (cond (decide (x1<(↑x3.length:Int))) (cond (decide (x3.getD x1.toNat (0:Int)=(0:Int))) (cond (decide (0≤x1)) (cond (decide (x1<(↑x3.length:Int))) (cond (decide (0≤x1)) (cond (decide (x1<(↑x2.length:Int))) (some (((x2.set x1.toNat x0,x3.set x1.toNat (1:Int)),(x1,())),())) none) none) none) none) (lL2 x0 (IntKind.i64.wrap (x1+1)) x2 x3)) none) none) (some (((x2,x3),((-1:Int),())),()))
theorem yds(n:Nat)(a:Lb×Li)(b:ByteArray):runF TT G172 yky Try.f172 c172 ybi yg4 n (a,b,())=zpu n (fun x0 x1 x2 x3=>zzg n (.head 2) [n] (zgw x0 x1 x2 x3)) a b:=by kernel_rfl
theorem zyp(n:Nat)(x0:ByteArray)(x1:Int)(x2:Lb)(x3:Li):zzg n (.head 2) [0] (zgw x0 x1 x2 x3)=none:=by kernel_rfl
theorem yj2(n:Nat)(m2:Nat)(x0:ByteArray)(x1:Int)(x2:Lb)(x3:Li):zzg n (.head 2) [m2+1] (zgw x0 x1 x2 x3)=zez n (fun x0 x1 x2 x3=>zzg n (.head 2) [m2] (zgw x0 x1 x2 x3)) x0 x1 x2 x3:=by kernel_rfl
noncomputable def zor(n:Nat):Nat→ByteArray→Int→Lb→Li→Option R172
 |0,_,_,_,_=>none
 |m+1,x0,x1,x2,x3=>zez n (zor n m) x0 x1 x2 x3
noncomputable def p172(n:Nat)(a:Lb×Li)(b:ByteArray):Option R172:=zpu n (zor n n) a b
theorem ygf(n:Nat):∀ (m2:Nat) (x0:ByteArray) (x1:Int) (x2:Lb) (x3:Li),zzg n (.head 2) [m2] (zgw x0 x1 x2 x3)=zor n m2 x0 x1 x2 x3:=by
 intro m
 induction m with
 |zero=>intros;rw[zyp];rfl
 |succ m ih =>
  intros
  rw[yj2]
  try simp only[ih]
  rfl
noncomputable def q172(n:Nat)(x:zap ybi):Option R172:=p172 n x.1 x.2.1
noncomputable def zz6:Sm:=⟨ybi,yg4,false,q172⟩
theorem yns:GamOK Try.prog G172:=fun _ _ h=>by cases h
theorem hh172:Hp 172 zz6:=hOf (zaf (an:=yky) (c:=c172) zax yns zaw Try.func172 (by kernel_rfl) rfl (by decide +kernel)) fun n x=>(yds n x.1 x.2.1).trans (by simp only[ygf];try rfl)
theorem y172:Gk 172 zz6:=⟨⟨Try.f172,c172,Try.func172,by kernel_rfl,by decide +kernel⟩,hh172⟩
noncomputable def c174:Code:=(Try.f174.body.getD .skip)
def ykx:An:=⟨fun r=>match r with|2=>⟨[1,2,3,4,5,10,11],[]⟩|5=>⟨[1,2,3,4,5,10,11,12],[]⟩|_=>⟨[],[]⟩,fun _ _=>none⟩
abbrev ybg:List PK:=[.own tMem true,.val i64 false,.val i64 false,.val i64 false,.val i64 false]
abbrev yg2:List RK:=[.own tMem true]
abbrev R174:=zam yg2×zak ybg
noncomputable def G174:Gam:=fun _=>none
noncomputable def zl_:Nat→Pt→List Nat→St→Option R174:=atF TT G174 ykx Try.f174 c174 _ _
def zgv(x0 x1 x2 x3 x4 x5 x6 x7:Int)(x8:Lb)(x9:Li)(x10:Lb)(x11:Li)(x12:List (Br)):St:=(St.mk ([Uu,Ai x0,Ai x1,Ai x2,Ai x3,AV.one (SV.bptr 1000000 0),Uu,Uu,Uu,Uu,AV.one (SV.bptr 1000001 0),Ai x4,Ai x5]++Ur 52) [(1000000,(Ent.box [Sr 1000002,Sr 1000003,Sr 1000004,Sr 1000005,Sr 1000006,Si x6])),(1000001,(Ent.box [SV.nil,SV.nil,SV.nil,SV.nil,SV.nil,Si x7])),(1000002,Er ⟨9,Ty.str,x8⟩),(1000003,Er ⟨3,Ty.int .i64,x9⟩),(1000004,Er ⟨9,Ty.str,x10⟩),(1000005,Er ⟨3,Ty.int .i64,x11⟩),(1000006,Er ⟨71,ySp,x12⟩)])
def zfa(x0 x1 x2 x3 x4 x5 x6:Int)(x7:Lb)(x8:Li)(x9:Lb)(x10:Li)(x11:List (Br)):St:=(St.mk ([Uu,Ai x0,Ai x1,Ai x2,Ai x3,AV.one (SV.bptr 1000000 0),Uu,Uu,Uu,Uu,AV.one (SV.bptr 1000001 0),Ai x4]++Ur 53) [(1000000,(Ent.box [Sr 1000002,Sr 1000003,Sr 1000004,Sr 1000005,Sr 1000006,Si x5])),(1000001,(Ent.box [SV.nil,SV.nil,SV.nil,SV.nil,SV.nil,Si x6])),(1000002,Er ⟨9,Ty.str,x7⟩),(1000003,Er ⟨3,Ty.int .i64,x8⟩),(1000004,Er ⟨9,Ty.str,x9⟩),(1000005,Er ⟨3,Ty.int .i64,x10⟩),(1000006,Er ⟨71,ySp,x11⟩)])
noncomputable def zps(n:Nat)(lL2:Int→Int→Int→Int→Int→Int→Int→Lb→Li→Lb→Li→(List (Br))→Option R174)(a:Mm)(b:Int)(c:Int)(d:Int)(e:Int):Option R174 :=
 lL2 b c d e (0:Int) a.2.2.2 (0:Int) a.1.1 a.1.2 a.2.1.1 a.2.1.2 a.2.2.1
noncomputable def zex(n:Nat)(lL5:Int→Int→Int→Int→Int→Int→Int→Int→Lb→Li→Lb→Li→(List (Br))→Option R174)(lL2:Int→Int→Int→Int→Int→Int→Int→Lb→Li→Lb→Li→(List (Br))→Option R174)(x0 x1 x2 x3 x4 x5 x6 x7:Int)(x8:Lb)(x9:Li)(x10:Lb)(x11:Li)(x12:List (Br)):Option R174 :=
 cond (decide (0≤x4)) (cond (decide (x4<(↑x12.length:Int))) (cond (decide (x5<(↑(List.length (x12.getD x4.toNat (false,[],[])).2.2):Int))) (cond (decide (0≤x4)) (cond (decide (x4<(↑x12.length:Int))) (cond (decide (0≤x5)) (cond (decide (x5<(↑(List.length (x12.getD x4.toNat (false,[],[])).2.2):Int))) (cond (decide ((List.getD (x12.getD x4.toNat (false,[],[])).2.2 x5.toNat ((0:Int),(0:Int),false,false)).1=x0)) (cond (decide ((List.getD (x12.getD x4.toNat (false,[],[])).2.2 x5.toNat ((0:Int),(0:Int),false,false)).2.1=x1)) (cond (decide (0≤x4)) (cond (decide (x4<(↑x12.length:Int))) (cond (decide (0≤x5)) (cond (decide (x5<(↑(List.length (x12.getD x4.toNat (false,[],[])).2.2):Int))) (lL5 x0 x1 x2 x3 x4 (IntKind.i64.wrap (x5+1)) x6 x7 x8 x9 x10 x11 (x12.set x4.toNat ((x12.getD x4.toNat (false,[],[])).1,(x12.getD x4.toNat (false,[],[])).2.1,List.set (x12.getD x4.toNat (false,[],[])).2.2 x5.toNat (x2,x3,(List.getD (x12.getD x4.toNat (false,[],[])).2.2 x5.toNat ((0:Int),(0:Int),false,false)).2.2.1,(List.getD (x12.getD x4.toNat (false,[],[])).2.2 x5.toNat ((0:Int),(0:Int),false,false)).2.2.2)))) none) none) none) none) (lL5 x0 x1 x2 x3 x4 (IntKind.i64.wrap (x5+1)) x6 x7 x8 x9 x10 x11 x12)) (lL5 x0 x1 x2 x3 x4 (IntKind.i64.wrap (x5+1)) x6 x7 x8 x9 x10 x11 x12)) none) none) none) none) (lL2 x0 x1 x2 x3 (IntKind.i64.wrap (x4+1)) x6 x7 x8 x9 x10 x11 x12)) none) none
noncomputable def zey(n:Nat)(lL5:Int→Int→Int→Int→Int→Int→Int→Int→Lb→Li→Lb→Li→(List (Br))→Option R174)(x0 x1 x2 x3 x4 x5 x6:Int)(x7:Lb)(x8:Li)(x9:Lb)(x10:Li)(x11:List (Br)):Option R174 :=
 cond (decide (x4<(↑x11.length:Int))) (lL5 x0 x1 x2 x3 x4 (0:Int) x5 x6 x7 x8 x9 x10 x11) (some ((((x7,x8),((x9,x10),(x11,x5))),()),()))
theorem ydq(n:Nat)(a:Mm)(b:Int)(c:Int)(d:Int)(e:Int):runF TT G174 ykx Try.f174 c174 ybg yg2 n (a,b,c,d,e,())=zps n (fun x0 x1 x2 x3 x4 x5 x6 x7 x8 x9 x10 x11=>zl_ n (.head 2) [n] (zfa x0 x1 x2 x3 x4 x5 x6 x7 x8 x9 x10 x11)) a b c d e:=by kernel_rfl
theorem zyn(n:Nat)(m2:Nat)(x0 x1 x2 x3 x4 x5 x6 x7:Int)(x8:Lb)(x9:Li)(x10:Lb)(x11:Li)(x12:List (Br)):zl_ n (.head 5) [m2,0] (zgv x0 x1 x2 x3 x4 x5 x6 x7 x8 x9 x10 x11 x12)=none:=by kernel_rfl
theorem yj0(n:Nat)(m2:Nat)(m5:Nat)(x0 x1 x2 x3 x4 x5 x6 x7:Int)(x8:Lb)(x9:Li)(x10:Lb)(x11:Li)(x12:List (Br)):zl_ n (.head 5) [m2,m5+1] (zgv x0 x1 x2 x3 x4 x5 x6 x7 x8 x9 x10 x11 x12)=zex n (fun x0 x1 x2 x3 x4 x5 x6 x7 x8 x9 x10 x11 x12=>zl_ n (.head 5) [m2,m5] (zgv x0 x1 x2 x3 x4 x5 x6 x7 x8 x9 x10 x11 x12)) (fun x0 x1 x2 x3 x4 x5 x6 x7 x8 x9 x10 x11=>zl_ n (.head 2) [m2] (zfa x0 x1 x2 x3 x4 x5 x6 x7 x8 x9 x10 x11)) x0 x1 x2 x3 x4 x5 x6 x7 x8 x9 x10 x11 x12:=by kernel_rfl
theorem zyo(n:Nat)(x0 x1 x2 x3 x4 x5 x6:Int)(x7:Lb)(x8:Li)(x9:Lb)(x10:Li)(x11:List (Br)):zl_ n (.head 2) [0] (zfa x0 x1 x2 x3 x4 x5 x6 x7 x8 x9 x10 x11)=none:=by kernel_rfl
theorem yj1(n:Nat)(m2:Nat)(x0 x1 x2 x3 x4 x5 x6:Int)(x7:Lb)(x8:Li)(x9:Lb)(x10:Li)(x11:List (Br)):zl_ n (.head 2) [m2+1] (zfa x0 x1 x2 x3 x4 x5 x6 x7 x8 x9 x10 x11)=zey n (fun x0 x1 x2 x3 x4 x5 x6 x7 x8 x9 x10 x11 x12=>zl_ n (.head 5) [m2,n] (zgv x0 x1 x2 x3 x4 x5 x6 x7 x8 x9 x10 x11 x12)) x0 x1 x2 x3 x4 x5 x6 x7 x8 x9 x10 x11:=by kernel_rfl
noncomputable def zoq(g2:Int→Int→Int→Int→Int→Int→Int→Lb→Li→Lb→Li→(List (Br))→Option R174)(n:Nat):Nat→Int→Int→Int→Int→Int→Int→Int→Int→Lb→Li→Lb→Li→(List (Br))→Option R174
 |0,_,_,_,_,_,_,_,_,_,_,_,_,_=>none
 |m+1,x0,x1,x2,x3,x4,x5,x6,x7,x8,x9,x10,x11,x12=>zex n (zoq g2 n m) g2 x0 x1 x2 x3 x4 x5 x6 x7 x8 x9 x10 x11 x12
noncomputable def zld(n:Nat):Nat→Int→Int→Int→Int→Int→Int→Int→Lb→Li→Lb→Li→(List (Br))→Option R174
 |0,_,_,_,_,_,_,_,_,_,_,_,_=>none
 |m+1,x0,x1,x2,x3,x4,x5,x6,x7,x8,x9,x10,x11=>zey n (zoq (zld n m) n n) x0 x1 x2 x3 x4 x5 x6 x7 x8 x9 x10 x11
noncomputable def p174(n:Nat)(a:Mm)(b:Int)(c:Int)(d:Int)(e:Int):Option R174:=zps n (zld n n) a b c d e
theorem ygd(n:Nat)(m2:Nat):∀ (m5:Nat) (x0 x1 x2 x3 x4 x5 x6 x7:Int) (x8:Lb) (x9:Li) (x10:Lb) (x11:Li) (x12:List (Br)),zl_ n (.head 5) [m2,m5] (zgv x0 x1 x2 x3 x4 x5 x6 x7 x8 x9 x10 x11 x12)=zoq (fun x0 x1 x2 x3 x4 x5 x6 x7 x8 x9 x10 x11=>zl_ n (.head 2) [m2] (zfa x0 x1 x2 x3 x4 x5 x6 x7 x8 x9 x10 x11)) n m5 x0 x1 x2 x3 x4 x5 x6 x7 x8 x9 x10 x11 x12:=by
 intro m
 induction m with
 |zero=>intros;rw[zyn];rfl
 |succ m ih =>
  intros
  rw[yj0]
  try simp only[ih]
  rfl
theorem yge(n:Nat):∀ (m2:Nat) (x0 x1 x2 x3 x4 x5 x6:Int) (x7:Lb) (x8:Li) (x9:Lb) (x10:Li) (x11:List (Br)),zl_ n (.head 2) [m2] (zfa x0 x1 x2 x3 x4 x5 x6 x7 x8 x9 x10 x11)=zld n m2 x0 x1 x2 x3 x4 x5 x6 x7 x8 x9 x10 x11:=by
 intro m
 induction m with
 |zero=>intros;rw[zyo];rfl
 |succ m ih =>
  intros
  rw[yj1]
  try simp only[ygd,ih]
  rfl
noncomputable def q174(n:Nat)(x:zap ybg):Option R174:=p174 n x.1 x.2.1 x.2.2.1 x.2.2.2.1 x.2.2.2.2.1
noncomputable def ye4:Sm:=⟨ybg,yg2,false,q174⟩
theorem ynq:GamOK Try.prog G174:=fun _ _ h=>by cases h
theorem hh174:Hp 174 ye4:=hOf (zaf (an:=ykx) (c:=c174) zax ynq zaw Try.func174 (by kernel_rfl) rfl (by decide +kernel)) fun n x=>(ydq n x.1 x.2.1 x.2.2.1 x.2.2.2.1 x.2.2.2.2.1).trans (by simp only[yge];try rfl)
theorem y174:Gk 174 ye4:=⟨⟨Try.f174,c174,Try.func174,by kernel_rfl,by decide +kernel⟩,hh174⟩
noncomputable def c180:Code:=(Try.f180.body.getD .skip)
def ykw:An:=⟨fun r=>match r with|3=>⟨[1,3,4],[]⟩|_=>⟨[],[]⟩,fun _ _=>none⟩
abbrev ybe:List PK:=[.val tPg true]
abbrev yg0:List RK:=[.val i64 false]
abbrev R180:=zam yg0×zak ybe
noncomputable def G180:Gam:=fun _=>none
noncomputable def zzf:Nat→Pt→List Nat→St→Option R180:=atF TT G180 ykw Try.f180 c180 _ _
def zgs(x0 x1:Int)(x2:Lb)(x3:Li):St:=(St.mk ([Uu,AV.one (SV.bptr 1000000 0),Uu,Ai x0,Ai x1]++Ur 16) [(1000000,(Ent.box [SV.con (⟨9,Ty.str,x2⟩:Rw),SV.con (⟨3,Ty.int .i64,x3⟩:Rw)]))])
noncomputable def zpr(n:Nat)(lL3:Int→Int→Lb→Li→Option R180)(a:Lb×Li):Option R180 :=
 lL3 (0:Int) (0:Int) a.1 a.2
noncomputable def zes(n:Nat)(lL3:Int→Int→Lb→Li→Option R180)(x0 x1:Int)(x2:Lb)(x3:Li):Option R180 :=
 cond (decide (x1<(↑x3.length:Int))) (cond (decide (0≤x1)) (cond (decide (x1<(↑x3.length:Int))) (cond (decide (x3.getD x1.toNat (0:Int)=(0:Int))) (lL3 (IntKind.i64.wrap (x0+1)) (IntKind.i64.wrap (x1+1)) x2 x3) (lL3 x0 (IntKind.i64.wrap (x1+1)) x2 x3)) none) none) (some ((x0,()),()))
theorem ydn(n:Nat)(a:Lb×Li):runF TT G180 ykw Try.f180 c180 ybe yg0 n (a,())=zpr n (fun x0 x1 x2 x3=>zzf n (.head 3) [n] (zgs x0 x1 x2 x3)) a:=by kernel_rfl
theorem zyh(n:Nat)(x0 x1:Int)(x2:Lb)(x3:Li):zzf n (.head 3) [0] (zgs x0 x1 x2 x3)=none:=by kernel_rfl
theorem yjt(n:Nat)(m3:Nat)(x0 x1:Int)(x2:Lb)(x3:Li):zzf n (.head 3) [m3+1] (zgs x0 x1 x2 x3)=zes n (fun x0 x1 x2 x3=>zzf n (.head 3) [m3] (zgs x0 x1 x2 x3)) x0 x1 x2 x3:=by kernel_rfl
noncomputable def zop(n:Nat):Nat→Int→Int→Lb→Li→Option R180
 |0,_,_,_,_=>none
 |m+1,x0,x1,x2,x3=>zes n (zop n m) x0 x1 x2 x3
noncomputable def p180(n:Nat)(a:Lb×Li):Option R180:=zpr n (zop n n) a
theorem yf8(n:Nat):∀ (m3:Nat) (x0 x1:Int) (x2:Lb) (x3:Li),zzf n (.head 3) [m3] (zgs x0 x1 x2 x3)=zop n m3 x0 x1 x2 x3:=by
 intro m
 induction m with
 |zero=>intros;rw[zyh];rfl
 |succ m ih =>
  intros
  rw[yjt]
  try simp only[ih]
  rfl
noncomputable def q180(n:Nat)(x:zap ybe):Option R180:=p180 n x.1
noncomputable def ye3:Sm:=⟨ybe,yg0,false,q180⟩
theorem yno:GamOK Try.prog G180:=fun _ _ h=>by cases h
theorem hh180:Hp 180 ye3:=hOf (zaf (an:=ykw) (c:=c180) zax yno zaw Try.func180 (by kernel_rfl) rfl (by decide +kernel)) fun n x=>(ydn n x.1).trans (by simp only[yf8];try rfl)
theorem y180:Gk 180 ye3:=⟨⟨Try.f180,c180,Try.func180,by kernel_rfl,by decide +kernel⟩,hh180⟩
noncomputable def c181:Code:=(Try.f181.body.getD .skip)
def ykv:An:=⟨fun r=>match r with|3=>⟨[1,2,4,6,7],[]⟩|6=>⟨[1,2,4,6,7,8],[]⟩|_=>⟨[],[]⟩,fun _ _=>none⟩
abbrev ybd:List PK:=[.own tMem true,.val i64 false]
abbrev ygz:List RK:=[.own tMem true,.val .bool false]
abbrev R181:=zam ygz×zak ybd
noncomputable def G181:Gam:=fun _=>none
noncomputable def zl9:Nat→Pt→List Nat→St→Option R181:=atF TT G181 ykv Try.f181 c181 _ _
def zgr(x0:Int)(x1:Bool)(x2 x3 x4 x5:Int)(x6:Lb)(x7:Li)(x8:Lb)(x9:Li)(x10:List (Br)):St:=(St.mk ([Uu,Ai x0,AV.one (SV.bptr 1000000 0),Uu,AV.one (SV.bptr 1000001 0),Uu,AV.one (SV.bool x1),Ai x2,Ai x3]++Ur 53) [(1000000,(Ent.box [Sr 1000002,Sr 1000003,Sr 1000004,Sr 1000005,Sr 1000006,Si x4])),(1000001,(Ent.box [SV.nil,SV.nil,SV.nil,SV.nil,SV.nil,Si x5])),(1000002,Er ⟨9,Ty.str,x6⟩),(1000003,Er ⟨3,Ty.int .i64,x7⟩),(1000004,Er ⟨9,Ty.str,x8⟩),(1000005,Er ⟨3,Ty.int .i64,x9⟩),(1000006,Er ⟨71,ySp,x10⟩)])
def ze9(x0:Int)(x1:Bool)(x2 x3 x4:Int)(x5:Lb)(x6:Li)(x7:Lb)(x8:Li)(x9:List (Br)):St:=(St.mk ([Uu,Ai x0,AV.one (SV.bptr 1000000 0),Uu,AV.one (SV.bptr 1000001 0),Uu,AV.one (SV.bool x1),Ai x2]++Ur 54) [(1000000,(Ent.box [Sr 1000002,Sr 1000003,Sr 1000004,Sr 1000005,Sr 1000006,Si x3])),(1000001,(Ent.box [SV.nil,SV.nil,SV.nil,SV.nil,SV.nil,Si x4])),(1000002,Er ⟨9,Ty.str,x5⟩),(1000003,Er ⟨3,Ty.int .i64,x6⟩),(1000004,Er ⟨9,Ty.str,x7⟩),(1000005,Er ⟨3,Ty.int .i64,x8⟩),(1000006,Er ⟨71,ySp,x9⟩)])
noncomputable def zpq(n:Nat)(lL3:Int→Bool→Int→Int→Int→Lb→Li→Lb→Li→(List (Br))→Option R181)(a:Mm)(b:Int):Option R181 :=
 lL3 b false (0:Int) a.2.2.2 (0:Int) a.1.1 a.1.2 a.2.1.1 a.2.1.2 a.2.2.1
noncomputable def zeq(n:Nat)(lL6:Int→Bool→Int→Int→Int→Int→Lb→Li→Lb→Li→(List (Br))→Option R181)(lL3:Int→Bool→Int→Int→Int→Lb→Li→Lb→Li→(List (Br))→Option R181)(x0:Int)(x1:Bool)(x2 x3 x4 x5:Int)(x6:Lb)(x7:Li)(x8:Lb)(x9:Li)(x10:List (Br)):Option R181 :=
 cond (decide (0≤x2)) (cond (decide (x2<(↑x10.length:Int))) (cond (decide (x3<(↑(List.length (x10.getD x2.toNat (false,[],[])).2.2):Int))) (cond (decide (0≤x2)) (cond (decide (x2<(↑x10.length:Int))) (cond (decide (0≤x3)) (cond (decide (x3<(↑(List.length (x10.getD x2.toNat (false,[],[])).2.2):Int))) (cond (decide ((List.getD (x10.getD x2.toNat (false,[],[])).2.2 x3.toNat ((0:Int),(0:Int),false,false)).1=(1:Int))) (cond (decide ((List.getD (x10.getD x2.toNat (false,[],[])).2.2 x3.toNat ((0:Int),(0:Int),false,false)).2.1=x0)) (cond x1 (cond (decide (0≤x2)) (cond (decide (x2<(↑x10.length:Int))) (cond (decide (0≤x3)) (cond (decide (x3<(↑(List.length (x10.getD x2.toNat (false,[],[])).2.2):Int))) (lL6 x0 true x2 (IntKind.i64.wrap (x3+1)) x4 x5 x6 x7 x8 x9 (x10.set x2.toNat ((x10.getD x2.toNat (false,[],[])).1,(x10.getD x2.toNat (false,[],[])).2.1,List.set (x10.getD x2.toNat (false,[],[])).2.2 x3.toNat ((List.getD (x10.getD x2.toNat (false,[],[])).2.2 x3.toNat ((0:Int),(0:Int),false,false)).1,(List.getD (x10.getD x2.toNat (false,[],[])).2.2 x3.toNat ((0:Int),(0:Int),false,false)).2.1,(List.getD (x10.getD x2.toNat (false,[],[])).2.2 x3.toNat ((0:Int),(0:Int),false,false)).2.2.1,false)))) none) none) none) none) (cond (decide (0≤x2)) (cond (decide (x2<(↑x10.length:Int))) (cond (decide (0≤x3)) (cond (decide (x3<(↑(List.length (x10.getD x2.toNat (false,[],[])).2.2):Int))) (lL6 x0 ((List.getD (x10.getD x2.toNat (false,[],[])).2.2 x3.toNat ((0:Int),(0:Int),false,false)).2.2.2) x2 (IntKind.i64.wrap (x3+1)) x4 x5 x6 x7 x8 x9 (x10.set x2.toNat ((x10.getD x2.toNat (false,[],[])).1,(x10.getD x2.toNat (false,[],[])).2.1,List.set (x10.getD x2.toNat (false,[],[])).2.2 x3.toNat ((List.getD (x10.getD x2.toNat (false,[],[])).2.2 x3.toNat ((0:Int),(0:Int),false,false)).1,(List.getD (x10.getD x2.toNat (false,[],[])).2.2 x3.toNat ((0:Int),(0:Int),false,false)).2.1,(List.getD (x10.getD x2.toNat (false,[],[])).2.2 x3.toNat ((0:Int),(0:Int),false,false)).2.2.1,false)))) none) none) none) none)) (lL6 x0 x1 x2 (IntKind.i64.wrap (x3+1)) x4 x5 x6 x7 x8 x9 x10)) (lL6 x0 x1 x2 (IntKind.i64.wrap (x3+1)) x4 x5 x6 x7 x8 x9 x10)) none) none) none) none) (lL3 x0 x1 (IntKind.i64.wrap (x2+1)) x4 x5 x6 x7 x8 x9 x10)) none) none
noncomputable def zer(n:Nat)(lL6:Int→Bool→Int→Int→Int→Int→Lb→Li→Lb→Li→(List (Br))→Option R181)(x0:Int)(x1:Bool)(x2 x3 x4:Int)(x5:Lb)(x6:Li)(x7:Lb)(x8:Li)(x9:List (Br)):Option R181 :=
 cond (decide (x2<(↑x9.length:Int))) (lL6 x0 x1 x2 (0:Int) x3 x4 x5 x6 x7 x8 x9) (some ((((x5,x6),((x7,x8),(x9,x3))),(x1,())),()))
theorem ydm(n:Nat)(a:Mm)(b:Int):runF TT G181 ykv Try.f181 c181 ybd ygz n (a,b,())=zpq n (fun x0 x1 x2 x3 x4 x5 x6 x7 x8 x9=>zl9 n (.head 3) [n] (ze9 x0 x1 x2 x3 x4 x5 x6 x7 x8 x9)) a b:=by kernel_rfl
theorem zyf(n:Nat)(m3:Nat)(x0:Int)(x1:Bool)(x2 x3 x4 x5:Int)(x6:Lb)(x7:Li)(x8:Lb)(x9:Li)(x10:List (Br)):zl9 n (.head 6) [m3,0] (zgr x0 x1 x2 x3 x4 x5 x6 x7 x8 x9 x10)=none:=by kernel_rfl
theorem yjr(n:Nat)(m3:Nat)(m6:Nat)(x0:Int)(x1:Bool)(x2 x3 x4 x5:Int)(x6:Lb)(x7:Li)(x8:Lb)(x9:Li)(x10:List (Br)):zl9 n (.head 6) [m3,m6+1] (zgr x0 x1 x2 x3 x4 x5 x6 x7 x8 x9 x10)=zeq n (fun x0 x1 x2 x3 x4 x5 x6 x7 x8 x9 x10=>zl9 n (.head 6) [m3,m6] (zgr x0 x1 x2 x3 x4 x5 x6 x7 x8 x9 x10)) (fun x0 x1 x2 x3 x4 x5 x6 x7 x8 x9=>zl9 n (.head 3) [m3] (ze9 x0 x1 x2 x3 x4 x5 x6 x7 x8 x9)) x0 x1 x2 x3 x4 x5 x6 x7 x8 x9 x10:=by kernel_rfl
theorem zyg(n:Nat)(x0:Int)(x1:Bool)(x2 x3 x4:Int)(x5:Lb)(x6:Li)(x7:Lb)(x8:Li)(x9:List (Br)):zl9 n (.head 3) [0] (ze9 x0 x1 x2 x3 x4 x5 x6 x7 x8 x9)=none:=by kernel_rfl
theorem yjs(n:Nat)(m3:Nat)(x0:Int)(x1:Bool)(x2 x3 x4:Int)(x5:Lb)(x6:Li)(x7:Lb)(x8:Li)(x9:List (Br)):zl9 n (.head 3) [m3+1] (ze9 x0 x1 x2 x3 x4 x5 x6 x7 x8 x9)=zer n (fun x0 x1 x2 x3 x4 x5 x6 x7 x8 x9 x10=>zl9 n (.head 6) [m3,n] (zgr x0 x1 x2 x3 x4 x5 x6 x7 x8 x9 x10)) x0 x1 x2 x3 x4 x5 x6 x7 x8 x9:=by kernel_rfl
noncomputable def zoo(g3:Int→Bool→Int→Int→Int→Lb→Li→Lb→Li→(List (Br))→Option R181)(n:Nat):Nat→Int→Bool→Int→Int→Int→Int→Lb→Li→Lb→Li→(List (Br))→Option R181
 |0,_,_,_,_,_,_,_,_,_,_,_=>none
 |m+1,x0,x1,x2,x3,x4,x5,x6,x7,x8,x9,x10=>zeq n (zoo g3 n m) g3 x0 x1 x2 x3 x4 x5 x6 x7 x8 x9 x10
noncomputable def zk_(n:Nat):Nat→Int→Bool→Int→Int→Int→Lb→Li→Lb→Li→(List (Br))→Option R181
 |0,_,_,_,_,_,_,_,_,_,_=>none
 |m+1,x0,x1,x2,x3,x4,x5,x6,x7,x8,x9=>zer n (zoo (zk_ n m) n n) x0 x1 x2 x3 x4 x5 x6 x7 x8 x9
noncomputable def p181(n:Nat)(a:Mm)(b:Int):Option R181:=zpq n (zk_ n n) a b
theorem yf6(n:Nat)(m3:Nat):∀ (m6:Nat) (x0:Int) (x1:Bool) (x2 x3 x4 x5:Int) (x6:Lb) (x7:Li) (x8:Lb) (x9:Li) (x10:List (Br)),zl9 n (.head 6) [m3,m6] (zgr x0 x1 x2 x3 x4 x5 x6 x7 x8 x9 x10)=zoo (fun x0 x1 x2 x3 x4 x5 x6 x7 x8 x9=>zl9 n (.head 3) [m3] (ze9 x0 x1 x2 x3 x4 x5 x6 x7 x8 x9)) n m6 x0 x1 x2 x3 x4 x5 x6 x7 x8 x9 x10:=by
 intro m
 induction m with
 |zero=>intros;rw[zyf];rfl
 |succ m ih =>
  intros
  rw[yjr]
  try simp only[ih]
  rfl
theorem yf7(n:Nat):∀ (m3:Nat) (x0:Int) (x1:Bool) (x2 x3 x4:Int) (x5:Lb) (x6:Li) (x7:Lb) (x8:Li) (x9:List (Br)),zl9 n (.head 3) [m3] (ze9 x0 x1 x2 x3 x4 x5 x6 x7 x8 x9)=zk_ n m3 x0 x1 x2 x3 x4 x5 x6 x7 x8 x9:=by
 intro m
 induction m with
 |zero=>intros;rw[zyg];rfl
 |succ m ih =>
  intros
  rw[yjs]
  try simp only[yf6,ih]
  rfl
noncomputable def q181(n:Nat)(x:zap ybd):Option R181:=p181 n x.1 x.2.1
noncomputable def yle:Sm:=⟨ybd,ygz,false,q181⟩
theorem ynn:GamOK Try.prog G181:=fun _ _ h=>by cases h
theorem hh181:Hp 181 yle:=hOf (zaf (an:=ykv) (c:=c181) zax ynn zaw Try.func181 (by kernel_rfl) rfl (by decide +kernel)) fun n x=>(ydm n x.1 x.2.1).trans (by simp only[yf7];try rfl)
theorem y181:Gk 181 yle:=⟨⟨Try.f181,c181,Try.func181,by kernel_rfl,by decide +kernel⟩,hh181⟩
noncomputable def c171:Code:=(Try.f171.body.getD .skip)
def ykz:An:=⟨fun r=>match r with|5=>⟨[1,2,4],[]⟩|_=>⟨[],[]⟩,fun _ _=>none⟩
abbrev ybj:List PK:=[.own tMem true,.val i64 false]
abbrev yg5:List RK:=[.own tMem true,.val .bool false]
abbrev R171:=zam yg5×zak ybj
noncomputable def G171:Gam:=fun f=>match f with|172=>some zz6|174=>some ye4|180=>some ye3|181=>some yle|_=>none
noncomputable def zzh:Nat→Pt→List Nat→St→Option R171:=atF TT G171 ykz Try.f171 c171 _ _
def zgx(x0 x1 x2:Int)(x3:Lb)(x4:Li)(x5:Lb)(x6:Li)(x7:List (Br)):St:=(St.mk ([Uu,Ai x0,AV.one (SV.bptr 1000000 0),Uu,AV.one (SV.bptr 1000001 0)]++Ur 75) [(1000000,(Ent.box [Sr 1000002,Sr 1000003,Sr 1000004,Sr 1000005,Sr 1000006,Si x1])),(1000001,(Ent.box [SV.nil,SV.nil,SV.nil,SV.nil,SV.nil,Si x2])),(1000002,Er ⟨9,Ty.str,x3⟩),(1000003,Er ⟨3,Ty.int .i64,x4⟩),(1000004,Er ⟨9,Ty.str,x5⟩),(1000005,Er ⟨3,Ty.int .i64,x6⟩),(1000006,Er ⟨71,ySp,x7⟩)])
noncomputable def zdc(n:Nat)(lL5:Int→Int→Int→Lb→Li→Lb→Li→(List (Br))→Option R171)(a:Mm)(b:Int):Option R171 :=
 (q180 n ((a.1.1,a.1.2),())).bind fun r0=>cond (decide ((0:Int)<r0.1.1)) (some ((((a.1.1,a.1.2),((a.2.1.1,a.2.1.2),(a.2.2.1,a.2.2.2))),(true,())),())) ((q180 n ((a.2.1.1,a.2.1.2),())).bind fun r1=>cond (decide (r1.1.1=(0:Int))) (some ((((a.1.1,a.1.2),((a.2.1.1,a.2.1.2),(a.2.2.1,a.2.2.2))),(false,())),())) (lL5 b a.2.2.2 (0:Int) a.1.1 a.1.2 a.2.1.1 a.2.1.2 a.2.2.1))
noncomputable def zjl(n:Nat)(lL5:Int→Int→Int→Lb→Li→Lb→Li→(List (Br))→Option R171)(x0 x1 x2:Int)(x3:Lb)(x4:Li)(x5:Lb)(x6:Li)(x7:List (Br)):Option R171 :=
 cond (decide (x1=x0)) (lL5 x0 ((IntKind.i64.wrap (x1+1)).tmod (12:Int)) x2 x3 x4 x5 x6 x7) ((q181 n (((x3,x4),(x5,x6),x7,(IntKind.i64.wrap (x1+1)).tmod (12:Int)),x1,())).bind fun r3=>cond r3.1.2.1 (lL5 x0 r3.1.1.2.2.2 x2 r3.1.1.1.1 r3.1.1.1.2 r3.1.1.2.1.1 r3.1.1.2.1.2 r3.1.1.2.2.1) (cond (decide (0≤x1)) (cond (decide (x1<(↑(List.length r3.1.1.1.2):Int))) (cond (decide (0≤x1)) (cond (decide (x1<(↑(List.length r3.1.1.1.1):Int))) ((q172 n ((r3.1.1.2.1.1,r3.1.1.2.1.2),List.getD r3.1.1.1.1 x1.toNat ByteArray.empty,())).bind fun r4=>cond (decide ((0:Int)≤r4.1.2.1)) (cond (decide (r4.1.2.1<(↑(List.length r4.1.1.2):Int))) ((q174 n (((r3.1.1.1.1,r3.1.1.1.2),(r4.1.1.1,List.set r4.1.1.2 (Int.toNat r4.1.2.1) (List.getD r3.1.1.1.2 x1.toNat (0:Int))),r3.1.1.2.2.1,r3.1.1.2.2.2),(1:Int),x1,(2:Int),r4.1.2.1,())).bind fun r5=>cond (decide (0≤x1)) (cond (decide (x1<(↑(List.length r5.1.1.1.2):Int))) (cond (decide (0≤x1)) (cond (decide (x1<(↑(List.length r5.1.1.1.1):Int))) (some ((((List.set r5.1.1.1.1 x1.toNat (ByteArray.mk #[]),List.set r5.1.1.1.2 x1.toNat (0:Int)),((r5.1.1.2.1.1,r5.1.1.2.1.2),(r5.1.1.2.2.1,r5.1.1.2.2.2))),(true,())),())) none) none) none) none) none) none) none) none) none) none))
theorem ydt(n:Nat)(a:Mm)(b:Int):runF TT G171 ykz Try.f171 c171 ybj yg5 n (a,b,())=zdc n (fun x0 x1 x2 x3 x4 x5 x6 x7=>zzh n (.head 5) [n] (zgx x0 x1 x2 x3 x4 x5 x6 x7)) a b:=by kernel_rfl
theorem zyq(n:Nat)(x0 x1 x2:Int)(x3:Lb)(x4:Li)(x5:Lb)(x6:Li)(x7:List (Br)):zzh n (.head 5) [0] (zgx x0 x1 x2 x3 x4 x5 x6 x7)=none:=by kernel_rfl
theorem yj3(n:Nat)(m5:Nat)(x0 x1 x2:Int)(x3:Lb)(x4:Li)(x5:Lb)(x6:Li)(x7:List (Br)):zzh n (.head 5) [m5+1] (zgx x0 x1 x2 x3 x4 x5 x6 x7)=zjl n (fun x0 x1 x2 x3 x4 x5 x6 x7=>zzh n (.head 5) [m5] (zgx x0 x1 x2 x3 x4 x5 x6 x7)) x0 x1 x2 x3 x4 x5 x6 x7:=by kernel_rfl
noncomputable def zle(n:Nat):Nat→Int→Int→Int→Lb→Li→Lb→Li→(List (Br))→Option R171
 |0,_,_,_,_,_,_,_,_=>none
 |m+1,x0,x1,x2,x3,x4,x5,x6,x7=>zjl n (zle n m) x0 x1 x2 x3 x4 x5 x6 x7
noncomputable def p171(n:Nat)(a:Mm)(b:Int):Option R171:=zdc n (zle n n) a b
theorem ygg(n:Nat):∀ (m5:Nat) (x0 x1 x2:Int) (x3:Lb) (x4:Li) (x5:Lb) (x6:Li) (x7:List (Br)),zzh n (.head 5) [m5] (zgx x0 x1 x2 x3 x4 x5 x6 x7)=zle n m5 x0 x1 x2 x3 x4 x5 x6 x7:=by
 intro m
 induction m with
 |zero=>intros;rw[zyq];rfl
 |succ m ih =>
  intros
  rw[yj3]
  try simp only[ih]
  rfl
noncomputable def q171(n:Nat)(x:zap ybj):Option R171:=p171 n x.1 x.2.1
noncomputable def zz7:Sm:=⟨ybj,yg5,false,q171⟩
theorem ynt:GamOK Try.prog G171:=by intro f s h;unfold G171 at h;split at h;exact gj h y172;exact gj h y174;exact gj h y180;exact gj h y181;cases h
theorem hh171:Hp 171 zz7:=hOf (zaf (an:=ykz) (c:=c171) zax ynt zaw Try.func171 (by kernel_rfl) rfl (by decide +kernel)) fun n x=>(ydt n x.1 x.2.1).trans (by simp only[ygg];try rfl)
theorem y171:Gk 171 zz7:=⟨⟨Try.f171,c171,Try.func171,by kernel_rfl,by decide +kernel⟩,hh171⟩
noncomputable def zfn:Code:=(Try.f171.body.getD .skip)
def zeh:An:=⟨fun _=>⟨[],[]⟩,fun _ _=>none⟩
abbrev zb_:List PK:=[.io tMem true,.val i64 false]
abbrev zco:List RK:=[.val .bool false]
abbrev zdv:=zam zco×zak zb_
noncomputable def zck:Gam:=fun f=>match f with|180=>some ye3|_=>none
theorem zvt(hg:GamOK Try.prog zck):zrv Try.prog 171 ⟨zb_,zco,false,runB TT zck zeh Try.f171 zfn zb_ zco⟩:=zq9 zax hg zaw Try.func171 (by kernel_rfl) (by rfl) (by decide +kernel)
noncomputable def zhj:Nat→Pt→List Nat→St→Option zdv:=atB TT zck zeh Try.f171 zfn _ _
def zc0:St:=(St.mk ([Uu]++Ur 79) [])
noncomputable def zcd(n:Nat)(lL5:Option zdv)(a:Mm)(b:Int):Option zdv :=
 (q180 n ((a.1.1,a.1.2),())).bind fun r0=>cond (decide ((0:Int)<r0.1.1)) (cond (decide (a.2.2.2=a.2.2.2)) (some ((true,()),(((a.1.1,a.1.2),((a.2.1.1,a.2.1.2),(a.2.2.1,a.2.2.2))),()))) none) ((q180 n ((a.2.1.1,a.2.1.2),())).bind fun r1=>cond (decide (r1.1.1=(0:Int))) (cond (decide (a.2.2.2=a.2.2.2)) (some ((false,()),(((a.1.1,a.1.2),((a.2.1.1,a.2.1.2),(a.2.2.1,a.2.2.2))),()))) none) (lL5 ))
noncomputable def zik(n:Nat):Option zdv :=
 none
theorem zrg(n:Nat)(a:Mm)(b:Int):runB TT zck zeh Try.f171 zfn zb_ zco n (a,b,())=zcd n (zhj n (.head 5) [n] (zc0 )) a b:=by kernel_rfl
theorem zpd(n:Nat):zhj n (.head 5) [0] (zc0 )=none:=by kernel_rfl
theorem zsv(n:Nat)(m5:Nat):zhj n (.head 5) [m5+1] (zc0 )=zik n:=by kernel_rfl
noncomputable def zfv(n:Nat):Nat→Option zdv
 |0=>none
 |m+1=>zik n 
noncomputable def zt5(n:Nat)(a:Mm)(b:Int):Option zdv:=zcd n (zfv n n) a b
theorem zry(n:Nat):∀ (m5:Nat) ,zhj n (.head 5) [m5] (zc0 )=zfv n m5:=by
 intro m
 induction m with
 |zero=>intros;rw[zpd];rfl
 |succ m ih =>
  intros
  rw[zsv]
  try simp only[ih]
  rfl
theorem zs7(n:Nat)(a:Mm)(b:Int):runB TT zck zeh Try.f171 zfn zb_ zco n (a,b,())=zt5 n a b:=by
 rw[zrg]
 simp only[zry]
 try rfl
noncomputable def zdr(n:Nat)(x:zap zb_):Option zdv:=zt5 n x.1 x.2.1
noncomputable def zdo:Sm:=⟨zb_,zco,false,zdr⟩
theorem zq_(hg:GamOK Try.prog zck):zrv Try.prog 171 zdo:=by
 have:=zvt hg
 have e:(runB TT zck zeh Try.f171 zfn zb_ zco)=zdr:=by
  funext n x
  exact zs7 n x.1 x.2.1
 rw[e]at this
 exact this
theorem zvx:GamOK Try.prog zck:=by intro f s h;unfold zck at h;split at h;exact gj h y180;cases h
theorem zx4:zek Try.prog 3000171 zdo:=zq_ zvx
theorem zn2:Gk 3000171 zdo:=⟨⟨Try.f171,zfn,Try.func171,by kernel_rfl,by decide +kernel⟩,zx4⟩
noncomputable def c173:Code:=(Try.f173.body.getD .skip)
def ype:An:=⟨fun _=>⟨[],[]⟩,fun _ _=>none⟩
abbrev ybh:List PK:=[]
abbrev yg3:List RK:=[.val .str false]
abbrev R173:=zam yg3×zak ybh
noncomputable def G173:Gam:=fun _=>none
noncomputable def zpt(n:Nat):Option R173 :=
 some ((List.foldl (fun r n=>r.push (UInt8.ofNat n.toNat)) ByteArray.empty (List.replicate (Int.toNat (4:Int)) (0:Int)),()),())
theorem ydr(n:Nat):runF TT G173 ype Try.f173 c173 ybh yg3 n ()=zpt n:=by kernel_rfl
noncomputable def p173(n:Nat):Option R173:=zpt n 
noncomputable def q173(n:Nat)(x:zap ybh):Option R173:=p173 n 
noncomputable def ylg:Sm:=⟨ybh,yg3,false,q173⟩
theorem ynr:GamOK Try.prog G173:=fun _ _ h=>by cases h
theorem hh173:Hp 173 ylg:=hOf (zaf (an:=ype) (c:=c173) zax ynr zaw Try.func173 (by kernel_rfl) rfl (by decide +kernel)) fun n x=>(ydr n ).trans rfl
theorem y173:Gk 173 ylg:=⟨⟨Try.f173,c173,Try.func173,by kernel_rfl,by decide +kernel⟩,hh173⟩
noncomputable def c153:Code:=(Try.f153.body.getD .skip)
def ypk:An:=⟨fun _=>⟨[],[]⟩,fun _ _=>none⟩
abbrev ybs:List PK:=[.own tMem true,.val i64 false,.val i64 false]
abbrev yhd:List RK:=[.own tMem true,.val .bool false]
abbrev R153:=zam yhd×zak ybs
noncomputable def G153:Gam:=fun f=>match f with|171=>some zz7|3000171=>some zdo|172=>some zz6|173=>some ylg|174=>some ye4|_=>none
noncomputable def zgb(n:Nat)(a:Mm)(b:Int)(c:Int):Option R153 :=
 cond (decide ((0:Int)≤b)) (cond (decide (b<(↑(List.length a.2.2.1):Int))) (cond (decide ((0:Int)≤c)) (cond (decide (c<(↑(List.length (List.getD a.2.2.1 b.toNat (false,[],[])).2.2):Int))) (cond (!decide ((List.getD (List.getD a.2.2.1 b.toNat (false,[],[])).2.2 c.toNat ((0:Int),(0:Int),false,false)).1=(1:Int))) ((q171 n (((a.1.1,a.1.2),(a.2.1.1,a.2.1.2),a.2.2.1,a.2.2.2),(-1:Int),())).bind fun r0=>cond r0.1.2.1 ((q171 n (((a.1.1,a.1.2),(a.2.1.1,a.2.1.2),a.2.2.1,a.2.2.2),(-1:Int),())).bind fun r1=>cond (!r1.1.2.1) none (cond (decide ((List.getD (List.getD a.2.2.1 b.toNat (false,[],[])).2.2 c.toNat ((0:Int),(0:Int),false,false)).1=(0:Int))) ((q173 n ()).bind fun r2=>(q172 n ((r1.1.1.1.1,r1.1.1.1.2),r2.1.1,())).bind fun r3=>cond (decide ((0:Int)≤b)) (cond (decide (b<(↑(List.length r1.1.1.2.2.1):Int))) (cond (decide ((0:Int)≤c)) (cond (decide (c<(↑(List.length (List.getD r1.1.1.2.2.1 b.toNat (false,[],[])).2.2):Int))) (cond (decide ((0:Int)≤b)) (cond (decide (b<(↑(List.set r1.1.1.2.2.1 b.toNat ((List.getD r1.1.1.2.2.1 b.toNat (false,[],[])).1,(List.getD r1.1.1.2.2.1 b.toNat (false,[],[])).2.1,List.set (List.getD r1.1.1.2.2.1 b.toNat (false,[],[])).2.2 c.toNat ((1:Int),r3.1.2.1,true,false))).length:Int))) (cond (decide ((0:Int)≤c)) (cond (decide (c<(↑(List.length ((List.set r1.1.1.2.2.1 b.toNat ((List.getD r1.1.1.2.2.1 b.toNat (false,[],[])).1,(List.getD r1.1.1.2.2.1 b.toNat (false,[],[])).2.1,List.set (List.getD r1.1.1.2.2.1 b.toNat (false,[],[])).2.2 c.toNat ((1:Int),r3.1.2.1,true,false))).getD b.toNat (false,[],[])).2.2):Int))) (some ((((r3.1.1.1,r3.1.1.2),((r1.1.1.2.1.1,r1.1.1.2.1.2),((List.set r1.1.1.2.2.1 b.toNat ((List.getD r1.1.1.2.2.1 b.toNat (false,[],[])).1,(List.getD r1.1.1.2.2.1 b.toNat (false,[],[])).2.1,List.set (List.getD r1.1.1.2.2.1 b.toNat (false,[],[])).2.2 c.toNat ((1:Int),r3.1.2.1,true,false))).set b.toNat (((List.set r1.1.1.2.2.1 b.toNat ((List.getD r1.1.1.2.2.1 b.toNat (false,[],[])).1,(List.getD r1.1.1.2.2.1 b.toNat (false,[],[])).2.1,List.set (List.getD r1.1.1.2.2.1 b.toNat (false,[],[])).2.2 c.toNat ((1:Int),r3.1.2.1,true,false))).getD b.toNat (false,[],[])).1,((List.set r1.1.1.2.2.1 b.toNat ((List.getD r1.1.1.2.2.1 b.toNat (false,[],[])).1,(List.getD r1.1.1.2.2.1 b.toNat (false,[],[])).2.1,List.set (List.getD r1.1.1.2.2.1 b.toNat (false,[],[])).2.2 c.toNat ((1:Int),r3.1.2.1,true,false))).getD b.toNat (false,[],[])).2.1,List.set ((List.set r1.1.1.2.2.1 b.toNat ((List.getD r1.1.1.2.2.1 b.toNat (false,[],[])).1,(List.getD r1.1.1.2.2.1 b.toNat (false,[],[])).2.1,List.set (List.getD r1.1.1.2.2.1 b.toNat (false,[],[])).2.2 c.toNat ((1:Int),r3.1.2.1,true,false))).getD b.toNat (false,[],[])).2.2 c.toNat ((List.getD ((List.set r1.1.1.2.2.1 b.toNat ((List.getD r1.1.1.2.2.1 b.toNat (false,[],[])).1,(List.getD r1.1.1.2.2.1 b.toNat (false,[],[])).2.1,List.set (List.getD r1.1.1.2.2.1 b.toNat (false,[],[])).2.2 c.toNat ((1:Int),r3.1.2.1,true,false))).getD b.toNat (false,[],[])).2.2 c.toNat ((0:Int),(0:Int),false,false)).1,(List.getD ((List.set r1.1.1.2.2.1 b.toNat ((List.getD r1.1.1.2.2.1 b.toNat (false,[],[])).1,(List.getD r1.1.1.2.2.1 b.toNat (false,[],[])).2.1,List.set (List.getD r1.1.1.2.2.1 b.toNat (false,[],[])).2.2 c.toNat ((1:Int),r3.1.2.1,true,false))).getD b.toNat (false,[],[])).2.2 c.toNat ((0:Int),(0:Int),false,false)).2.1,(List.getD ((List.set r1.1.1.2.2.1 b.toNat ((List.getD r1.1.1.2.2.1 b.toNat (false,[],[])).1,(List.getD r1.1.1.2.2.1 b.toNat (false,[],[])).2.1,List.set (List.getD r1.1.1.2.2.1 b.toNat (false,[],[])).2.2 c.toNat ((1:Int),r3.1.2.1,true,false))).getD b.toNat (false,[],[])).2.2 c.toNat ((0:Int),(0:Int),false,false)).2.2.1,true)),r1.1.1.2.2.2))),(true,())),())) none) none) none) none) none) none) none) none) (cond (decide ((0:Int)≤(List.getD (List.getD a.2.2.1 b.toNat (false,[],[])).2.2 c.toNat ((0:Int),(0:Int),false,false)).2.1)) (cond (decide ((List.getD (List.getD a.2.2.1 b.toNat (false,[],[])).2.2 c.toNat ((0:Int),(0:Int),false,false)).2.1<(↑(List.length r1.1.1.2.1.1):Int))) ((q172 n ((r1.1.1.1.1,r1.1.1.1.2),List.getD r1.1.1.2.1.1 (Int.toNat (List.getD (List.getD a.2.2.1 b.toNat (false,[],[])).2.2 c.toNat ((0:Int),(0:Int),false,false)).2.1) ByteArray.empty,())).bind fun r4=>cond (decide ((0:Int)≤(List.getD (List.getD a.2.2.1 b.toNat (false,[],[])).2.2 c.toNat ((0:Int),(0:Int),false,false)).2.1)) (cond (decide ((List.getD (List.getD a.2.2.1 b.toNat (false,[],[])).2.2 c.toNat ((0:Int),(0:Int),false,false)).2.1<(↑(List.length r1.1.1.2.1.2):Int))) (cond (decide ((0:Int)≤r4.1.2.1)) (cond (decide (r4.1.2.1<(↑(List.length r4.1.1.2):Int))) ((q174 n (((r4.1.1.1,List.set r4.1.1.2 (Int.toNat r4.1.2.1) (List.getD r1.1.1.2.1.2 (Int.toNat (List.getD (List.getD a.2.2.1 b.toNat (false,[],[])).2.2 c.toNat ((0:Int),(0:Int),false,false)).2.1) (0:Int))),(r1.1.1.2.1.1,r1.1.1.2.1.2),r1.1.1.2.2.1,r1.1.1.2.2.2),(2:Int),(List.getD (List.getD a.2.2.1 b.toNat (false,[],[])).2.2 c.toNat ((0:Int),(0:Int),false,false)).2.1,(1:Int),r4.1.2.1,())).bind fun r5=>cond (decide ((0:Int)≤(List.getD (List.getD a.2.2.1 b.toNat (false,[],[])).2.2 c.toNat ((0:Int),(0:Int),false,false)).2.1)) (cond (decide ((List.getD (List.getD a.2.2.1 b.toNat (false,[],[])).2.2 c.toNat ((0:Int),(0:Int),false,false)).2.1<(↑(List.length r5.1.1.2.1.2):Int))) (cond (decide ((0:Int)≤(List.getD (List.getD a.2.2.1 b.toNat (false,[],[])).2.2 c.toNat ((0:Int),(0:Int),false,false)).2.1)) (cond (decide ((List.getD (List.getD a.2.2.1 b.toNat (false,[],[])).2.2 c.toNat ((0:Int),(0:Int),false,false)).2.1<(↑(List.length r5.1.1.2.1.1):Int))) (cond (decide ((0:Int)≤b)) (cond (decide (b<(↑(List.length r5.1.1.2.2.1):Int))) (cond (decide ((0:Int)≤c)) (cond (decide (c<(↑(List.length (List.getD r5.1.1.2.2.1 b.toNat (false,[],[])).2.2):Int))) (some ((((r5.1.1.1.1,r5.1.1.1.2),((List.set r5.1.1.2.1.1 (Int.toNat (List.getD (List.getD a.2.2.1 b.toNat (false,[],[])).2.2 c.toNat ((0:Int),(0:Int),false,false)).2.1) (ByteArray.mk #[]),List.set r5.1.1.2.1.2 (Int.toNat (List.getD (List.getD a.2.2.1 b.toNat (false,[],[])).2.2 c.toNat ((0:Int),(0:Int),false,false)).2.1) (0:Int)),(List.set r5.1.1.2.2.1 b.toNat ((List.getD r5.1.1.2.2.1 b.toNat (false,[],[])).1,(List.getD r5.1.1.2.2.1 b.toNat (false,[],[])).2.1,List.set (List.getD r5.1.1.2.2.1 b.toNat (false,[],[])).2.2 c.toNat ((List.getD (List.getD r5.1.1.2.2.1 b.toNat (false,[],[])).2.2 c.toNat ((0:Int),(0:Int),false,false)).1,(List.getD (List.getD r5.1.1.2.2.1 b.toNat (false,[],[])).2.2 c.toNat ((0:Int),(0:Int),false,false)).2.1,(List.getD (List.getD r5.1.1.2.2.1 b.toNat (false,[],[])).2.2 c.toNat ((0:Int),(0:Int),false,false)).2.2.1,true)),r5.1.1.2.2.2))),(true,())),())) none) none) none) none) none) none) none) none) none) none) none) none) none) none))) ((zdr n (((a.1.1,a.1.2),(a.2.1.1,a.2.1.2),a.2.2.1,a.2.2.2),(-1:Int),())).bind fun r6=>cond (!r6.1.1) (some ((((r6.2.1.1.1,r6.2.1.1.2),((r6.2.1.2.1.1,r6.2.1.2.1.2),(r6.2.1.2.2.1,a.2.2.2))),(false,())),())) none)) (cond (decide ((0:Int)≤b)) (cond (decide (b<(↑(List.length a.2.2.1):Int))) (cond (decide ((0:Int)≤c)) (cond (decide (c<(↑(List.length (List.getD a.2.2.1 b.toNat (false,[],[])).2.2):Int))) (some ((((a.1.1,a.1.2),((a.2.1.1,a.2.1.2),(List.set a.2.2.1 b.toNat ((List.getD a.2.2.1 b.toNat (false,[],[])).1,(List.getD a.2.2.1 b.toNat (false,[],[])).2.1,List.set (List.getD a.2.2.1 b.toNat (false,[],[])).2.2 c.toNat ((List.getD (List.getD a.2.2.1 b.toNat (false,[],[])).2.2 c.toNat ((0:Int),(0:Int),false,false)).1,(List.getD (List.getD a.2.2.1 b.toNat (false,[],[])).2.2 c.toNat ((0:Int),(0:Int),false,false)).2.1,(List.getD (List.getD a.2.2.1 b.toNat (false,[],[])).2.2 c.toNat ((0:Int),(0:Int),false,false)).2.2.1,true)),a.2.2.2))),(true,())),())) none) none) none) none)) none) none) none) none
theorem yd4(n:Nat)(a:Mm)(b:Int)(c:Int):runF TT G153 ypk Try.f153 c153 ybs yhd n (a,b,c,())=zgb n a b c:=by kernel_rfl
noncomputable def p153(n:Nat)(a:Mm)(b:Int)(c:Int):Option R153:=zgb n a b c
noncomputable def q153(n:Nat)(x:zap ybs):Option R153:=p153 n x.1 x.2.1 x.2.2.1
noncomputable def zz9:Sm:=⟨ybs,yhd,false,q153⟩
theorem yn2:GamOK Try.prog G153:=by intro f s h;unfold G153 at h;split at h;exact gj h y171;exact gj h zn2;exact gj h y172;exact gj h y173;exact gj h y174;cases h
theorem hh153:Hp 153 zz9:=hOf (zaf (an:=ypk) (c:=c153) zax yn2 zaw Try.func153 (by kernel_rfl) rfl (by decide +kernel)) fun n x=>(yd4 n x.1 x.2.1 x.2.2.1).trans rfl
theorem y153:Gk 153 zz9:=⟨⟨Try.f153,c153,Try.func153,by kernel_rfl,by decide +kernel⟩,hh153⟩
noncomputable def c154:Code:=(Try.f154.body.getD .skip)
def ypj:An:=⟨fun _=>⟨[],[]⟩,fun _ _=>none⟩
abbrev ybr:List PK:=[.own tMem true,.val i64 false,.val i64 false]
abbrev yhc:List RK:=[.own tMem true,.val .bool false]
abbrev R154:=zam yhc×zak ybr
noncomputable def G154:Gam:=fun f=>match f with|160=>some ye5|171=>some zz7|3000171=>some zdo|172=>some zz6|_=>none
noncomputable def zga(n:Nat)(a:Mm)(b:Int)(c:Int):Option R154 :=
 cond (decide ((0:Int)≤b)) (cond (decide (b<(↑(List.length a.2.2.1):Int))) (cond (decide ((0:Int)≤c)) (cond (decide (c<(↑(List.length (List.getD a.2.2.1 b.toNat (false,[],[])).2.2):Int))) (cond (!(List.getD (List.getD a.2.2.1 b.toNat (false,[],[])).2.2 c.toNat ((0:Int),(0:Int),false,false)).2.2.1) (cond (decide ((0:Int)≤(List.getD (List.getD a.2.2.1 b.toNat (false,[],[])).2.2 c.toNat ((0:Int),(0:Int),false,false)).2.1)) (cond (decide ((List.getD (List.getD a.2.2.1 b.toNat (false,[],[])).2.2 c.toNat ((0:Int),(0:Int),false,false)).2.1<(↑(List.length a.1.2):Int))) (cond (decide ((1:Int)<List.getD a.1.2 (Int.toNat (List.getD (List.getD a.2.2.1 b.toNat (false,[],[])).2.2 c.toNat ((0:Int),(0:Int),false,false)).2.1) (0:Int))) ((q171 n (((a.1.1,a.1.2),(a.2.1.1,a.2.1.2),a.2.2.1,a.2.2.2),(List.getD (List.getD a.2.2.1 b.toNat (false,[],[])).2.2 c.toNat ((0:Int),(0:Int),false,false)).2.1,())).bind fun r0=>cond r0.1.2.1 ((q171 n (((a.1.1,a.1.2),(a.2.1.1,a.2.1.2),a.2.2.1,a.2.2.2),(List.getD (List.getD a.2.2.1 b.toNat (false,[],[])).2.2 c.toNat ((0:Int),(0:Int),false,false)).2.1,())).bind fun r1=>cond (!r1.1.2.1) none (cond (decide ((0:Int)≤(List.getD (List.getD a.2.2.1 b.toNat (false,[],[])).2.2 c.toNat ((0:Int),(0:Int),false,false)).2.1)) (cond (decide ((List.getD (List.getD a.2.2.1 b.toNat (false,[],[])).2.2 c.toNat ((0:Int),(0:Int),false,false)).2.1<(↑(List.length r1.1.1.1.1):Int))) ((q172 n ((r1.1.1.1.1,r1.1.1.1.2),List.getD r1.1.1.1.1 (Int.toNat (List.getD (List.getD a.2.2.1 b.toNat (false,[],[])).2.2 c.toNat ((0:Int),(0:Int),false,false)).2.1) ByteArray.empty,())).bind fun r2=>(q160 n ((r2.1.1.1,r2.1.1.2),(List.getD (List.getD a.2.2.1 b.toNat (false,[],[])).2.2 c.toNat ((0:Int),(0:Int),false,false)).2.1,())).bind fun r3=>cond (decide ((0:Int)≤b)) (cond (decide (b<(↑(List.length r1.1.1.2.2.1):Int))) (cond (decide ((0:Int)≤c)) (cond (decide (c<(↑(List.length (List.getD r1.1.1.2.2.1 b.toNat (false,[],[])).2.2):Int))) (some ((((r3.1.1.1,r3.1.1.2),((r1.1.1.2.1.1,r1.1.1.2.1.2),(List.set r1.1.1.2.2.1 b.toNat ((List.getD r1.1.1.2.2.1 b.toNat (false,[],[])).1,(List.getD r1.1.1.2.2.1 b.toNat (false,[],[])).2.1,List.set (List.getD r1.1.1.2.2.1 b.toNat (false,[],[])).2.2 c.toNat ((List.getD (List.getD a.2.2.1 b.toNat (false,[],[])).2.2 c.toNat ((0:Int),(0:Int),false,false)).1,r2.1.2.1,true,(List.getD (List.getD a.2.2.1 b.toNat (false,[],[])).2.2 c.toNat ((0:Int),(0:Int),false,false)).2.2.2)),r1.1.1.2.2.2))),(true,())),())) none) none) none) none) none) none)) ((zdr n (((a.1.1,a.1.2),(a.2.1.1,a.2.1.2),a.2.2.1,a.2.2.2),(List.getD (List.getD a.2.2.1 b.toNat (false,[],[])).2.2 c.toNat ((0:Int),(0:Int),false,false)).2.1,())).bind fun r4=>cond (!r4.1.1) (some ((((r4.2.1.1.1,r4.2.1.1.2),((r4.2.1.2.1.1,r4.2.1.2.1.2),(r4.2.1.2.2.1,a.2.2.2))),(false,())),())) none)) (cond (decide ((0:Int)≤b)) (cond (decide (b<(↑(List.length a.2.2.1):Int))) (cond (decide ((0:Int)≤c)) (cond (decide (c<(↑(List.length (List.getD a.2.2.1 b.toNat (false,[],[])).2.2):Int))) (some ((((a.1.1,a.1.2),((a.2.1.1,a.2.1.2),(List.set a.2.2.1 b.toNat ((List.getD a.2.2.1 b.toNat (false,[],[])).1,(List.getD a.2.2.1 b.toNat (false,[],[])).2.1,List.set (List.getD a.2.2.1 b.toNat (false,[],[])).2.2 c.toNat ((List.getD (List.getD a.2.2.1 b.toNat (false,[],[])).2.2 c.toNat ((0:Int),(0:Int),false,false)).1,(List.getD (List.getD a.2.2.1 b.toNat (false,[],[])).2.2 c.toNat ((0:Int),(0:Int),false,false)).2.1,true,(List.getD (List.getD a.2.2.1 b.toNat (false,[],[])).2.2 c.toNat ((0:Int),(0:Int),false,false)).2.2.2)),a.2.2.2))),(true,())),())) none) none) none) none)) none) none) (cond (decide ((0:Int)≤b)) (cond (decide (b<(↑(List.length a.2.2.1):Int))) (cond (decide ((0:Int)≤c)) (cond (decide (c<(↑(List.length (List.getD a.2.2.1 b.toNat (false,[],[])).2.2):Int))) (some ((((a.1.1,a.1.2),((a.2.1.1,a.2.1.2),(List.set a.2.2.1 b.toNat ((List.getD a.2.2.1 b.toNat (false,[],[])).1,(List.getD a.2.2.1 b.toNat (false,[],[])).2.1,List.set (List.getD a.2.2.1 b.toNat (false,[],[])).2.2 c.toNat ((List.getD (List.getD a.2.2.1 b.toNat (false,[],[])).2.2 c.toNat ((0:Int),(0:Int),false,false)).1,(List.getD (List.getD a.2.2.1 b.toNat (false,[],[])).2.2 c.toNat ((0:Int),(0:Int),false,false)).2.1,true,(List.getD (List.getD a.2.2.1 b.toNat (false,[],[])).2.2 c.toNat ((0:Int),(0:Int),false,false)).2.2.2)),a.2.2.2))),(true,())),())) none) none) none) none)) none) none) none) none
theorem yd3(n:Nat)(a:Mm)(b:Int)(c:Int):runF TT G154 ypj Try.f154 c154 ybr yhc n (a,b,c,())=zga n a b c:=by kernel_rfl
noncomputable def p154(n:Nat)(a:Mm)(b:Int)(c:Int):Option R154:=zga n a b c
noncomputable def q154(n:Nat)(x:zap ybr):Option R154:=p154 n x.1 x.2.1 x.2.2.1
noncomputable def yll:Sm:=⟨ybr,yhc,false,q154⟩
theorem yn1:GamOK Try.prog G154:=by intro f s h;unfold G154 at h;split at h;exact gj h y160;exact gj h y171;exact gj h zn2;exact gj h y172;cases h
theorem hh154:Hp 154 yll:=hOf (zaf (an:=ypj) (c:=c154) zax yn1 zaw Try.func154 (by kernel_rfl) rfl (by decide +kernel)) fun n x=>(yd3 n x.1 x.2.1 x.2.2.1).trans rfl
theorem y154:Gk 154 yll:=⟨⟨Try.f154,c154,Try.func154,by kernel_rfl,by decide +kernel⟩,hh154⟩
noncomputable def c109:Code:=(Try.f109.body.getD .skip)
def ypx:An:=⟨fun _=>⟨[],[]⟩,fun _ _=>none⟩
abbrev ycc:List PK:=[.own tMem true,.val i64 false,.val i64 false,.val i64 false]
abbrev yhx:List RK:=[.own tMem true,.val i64 false]
abbrev R109:=zam yhx×zak ycc
noncomputable def G109:Gam:=fun f=>match f with|56=>some Sm56|71=>some Sm71|72=>some Sm72|153=>some zz9|154=>some yll|_=>none
noncomputable def zgl(n:Nat)(a:Mm)(b:Int)(c:Int)(d:Int):Option R109 :=
 cond (decide ((0:Int)≤b)) (cond (decide (b<(↑(List.length a.2.2.1):Int))) ((q71 n ((List.getD a.2.2.1 b.toNat (false,[],[])).2.1,IntKind.i64.wrap (c.tdiv (4:Int)),())).bind fun r0=>cond (decide (r0.1.1<(0:Int))) (some ((((a.1.1,a.1.2),((a.2.1.1,a.2.1.2),(a.2.2.1,a.2.2.2))),((2:Int),())),())) (cond (decide ((0:Int)≤b)) (cond (decide (b<(↑(List.length a.2.2.1):Int))) (cond (decide ((0:Int)≤r0.1.1)) (cond (decide (r0.1.1<(↑(List.length (List.getD a.2.2.1 b.toNat (false,[],[])).2.1):Int))) (cond (!(List.getD (List.getD a.2.2.1 b.toNat (false,[],[])).2.1 (Int.toNat r0.1.1) ((0:Int),(0:Int),false,false)).2.2.1) (some ((((a.1.1,a.1.2),((a.2.1.1,a.2.1.2),(a.2.2.1,a.2.2.2))),((3:Int),())),())) ((q56 n (((a.1.1,a.1.2),(a.2.1.1,a.2.1.2),a.2.2.1,a.2.2.2),())).bind fun r1=>(q153 n (((r1.1.1.1.1,r1.1.1.1.2),(r1.1.1.2.1.1,r1.1.1.2.1.2),r1.1.1.2.2.1,r1.1.1.2.2.2),b,IntKind.i64.wrap (c.tdiv (4:Int)),())).bind fun r2=>cond r2.1.2.1 ((q154 n (((r2.1.1.1.1,r2.1.1.1.2),(r2.1.1.2.1.1,r2.1.1.2.1.2),r2.1.1.2.2.1,r2.1.1.2.2.2),b,IntKind.i64.wrap (c.tdiv (4:Int)),())).bind fun r3=>cond (!r3.1.2.1) (some ((((a.1.1,a.1.2),((a.2.1.1,a.2.1.2),(a.2.2.1,a.2.2.2))),((4:Int),())),())) (cond (decide ((0:Int)≤b)) (cond (decide (b<(↑(List.length r3.1.1.2.2.1):Int))) (cond (decide ((0:Int)≤IntKind.i64.wrap (c.tdiv (4:Int)))) (cond (decide (IntKind.i64.wrap (c.tdiv (4:Int))<(↑(List.length (List.getD r3.1.1.2.2.1 b.toNat (false,[],[])).2.2):Int))) (cond (decide ((0:Int)≤(List.getD (List.getD r3.1.1.2.2.1 b.toNat (false,[],[])).2.2 (IntKind.i64.wrap (c.tdiv (4:Int))).toNat ((0:Int),(0:Int),false,false)).2.1)) (cond (decide ((List.getD (List.getD r3.1.1.2.2.1 b.toNat (false,[],[])).2.2 (IntKind.i64.wrap (c.tdiv (4:Int))).toNat ((0:Int),(0:Int),false,false)).2.1<(↑(List.length r3.1.1.1.1):Int))) ((q72 n (List.getD r3.1.1.1.1 (Int.toNat (List.getD (List.getD r3.1.1.2.2.1 b.toNat (false,[],[])).2.2 (IntKind.i64.wrap (c.tdiv (4:Int))).toNat ((0:Int),(0:Int),false,false)).2.1) ByteArray.empty,c.tmod (4:Int),d,())).bind fun r4=>cond (decide ((0:Int)≤(List.getD (List.getD r3.1.1.2.2.1 b.toNat (false,[],[])).2.2 (IntKind.i64.wrap (c.tdiv (4:Int))).toNat ((0:Int),(0:Int),false,false)).2.1)) (cond (decide ((List.getD (List.getD r3.1.1.2.2.1 b.toNat (false,[],[])).2.2 (IntKind.i64.wrap (c.tdiv (4:Int))).toNat ((0:Int),(0:Int),false,false)).2.1<(↑(List.length r3.1.1.1.1):Int))) (some ((((List.set r3.1.1.1.1 (Int.toNat (List.getD (List.getD r3.1.1.2.2.1 b.toNat (false,[],[])).2.2 (IntKind.i64.wrap (c.tdiv (4:Int))).toNat ((0:Int),(0:Int),false,false)).2.1) r4.1.1,r3.1.1.1.2),((r3.1.1.2.1.1,r3.1.1.2.1.2),(r3.1.1.2.2.1,r3.1.1.2.2.2))),((0:Int),())),())) none) none) none) none) none) none) none) none)) (cond (!r2.1.2.1) (some ((((a.1.1,a.1.2),((a.2.1.1,a.2.1.2),(a.2.2.1,a.2.2.2))),((4:Int),())),())) (cond (decide ((0:Int)≤b)) (cond (decide (b<(↑(List.length r2.1.1.2.2.1):Int))) (cond (decide ((0:Int)≤IntKind.i64.wrap (c.tdiv (4:Int)))) (cond (decide (IntKind.i64.wrap (c.tdiv (4:Int))<(↑(List.length (List.getD r2.1.1.2.2.1 b.toNat (false,[],[])).2.2):Int))) (cond (decide ((0:Int)≤(List.getD (List.getD r2.1.1.2.2.1 b.toNat (false,[],[])).2.2 (IntKind.i64.wrap (c.tdiv (4:Int))).toNat ((0:Int),(0:Int),false,false)).2.1)) (cond (decide ((List.getD (List.getD r2.1.1.2.2.1 b.toNat (false,[],[])).2.2 (IntKind.i64.wrap (c.tdiv (4:Int))).toNat ((0:Int),(0:Int),false,false)).2.1<(↑(List.length r2.1.1.1.1):Int))) ((q72 n (List.getD r2.1.1.1.1 (Int.toNat (List.getD (List.getD r2.1.1.2.2.1 b.toNat (false,[],[])).2.2 (IntKind.i64.wrap (c.tdiv (4:Int))).toNat ((0:Int),(0:Int),false,false)).2.1) ByteArray.empty,c.tmod (4:Int),d,())).bind fun r5=>cond (decide ((0:Int)≤(List.getD (List.getD r2.1.1.2.2.1 b.toNat (false,[],[])).2.2 (IntKind.i64.wrap (c.tdiv (4:Int))).toNat ((0:Int),(0:Int),false,false)).2.1)) (cond (decide ((List.getD (List.getD r2.1.1.2.2.1 b.toNat (false,[],[])).2.2 (IntKind.i64.wrap (c.tdiv (4:Int))).toNat ((0:Int),(0:Int),false,false)).2.1<(↑(List.length r2.1.1.1.1):Int))) (some ((((List.set r2.1.1.1.1 (Int.toNat (List.getD (List.getD r2.1.1.2.2.1 b.toNat (false,[],[])).2.2 (IntKind.i64.wrap (c.tdiv (4:Int))).toNat ((0:Int),(0:Int),false,false)).2.1) r5.1.1,r2.1.1.1.2),((r2.1.1.2.1.1,r2.1.1.2.1.2),(r2.1.1.2.2.1,r2.1.1.2.2.2))),((0:Int),())),())) none) none) none) none) none) none) none) none)))) none) none) none) none)) none) none
theorem yen(n:Nat)(a:Mm)(b:Int)(c:Int)(d:Int):runF TT G109 ypx Try.f109 c109 ycc yhx n (a,b,c,d,())=zgl n a b c d:=by kernel_rfl
noncomputable def p109(n:Nat)(a:Mm)(b:Int)(c:Int)(d:Int):Option R109:=zgl n a b c d
noncomputable def q109(n:Nat)(x:zap ycc):Option R109:=p109 n x.1 x.2.1 x.2.2.1 x.2.2.2.1
noncomputable def ye_:Sm:=⟨ycc,yhx,false,q109⟩
theorem yol:GamOK Try.prog G109:=by intro f s h;unfold G109 at h;split at h;exact gj h y56;exact gj h y71;exact gj h y72;exact gj h y153;exact gj h y154;cases h
theorem hh109:Hp 109 ye_:=hOf (zaf (an:=ypx) (c:=c109) zax yol zaw Try.func109 (by kernel_rfl) rfl (by decide +kernel)) fun n x=>(yen n x.1 x.2.1 x.2.2.1 x.2.2.2.1).trans rfl
theorem y109:Gk 109 ye_:=⟨⟨Try.f109,c109,Try.func109,by kernel_rfl,by decide +kernel⟩,hh109⟩
noncomputable def zhi:Code:=(Try.f153.body.getD .skip)
def zhk:An:=⟨fun _=>⟨[],[]⟩,fun _ _=>none⟩
abbrev zca:List PK:=[.io tMem true,.val i64 false,.val i64 false]
abbrev zcp:List RK:=[.val .bool false]
abbrev zpk:=zam zcp×zak zca
noncomputable def zc6:Gam:=fun f=>match f with|171=>some zz7|3000171=>some zdo|_=>none
theorem zvu(hg:GamOK Try.prog zc6):zrv Try.prog 153 ⟨zca,zcp,false,runB TT zc6 zhk Try.f153 zhi zca zcp⟩:=zq9 zax hg zaw Try.func153 (by kernel_rfl) (by rfl) (by decide +kernel)
noncomputable def zce(n:Nat)(a:Mm)(b:Int)(c:Int):Option zpk :=
 cond (decide ((0:Int)≤b)) (cond (decide (b<(↑(List.length a.2.2.1):Int))) (cond (decide ((0:Int)≤c)) (cond (decide (c<(↑(List.length (List.getD a.2.2.1 b.toNat (false,[],[])).2.2):Int))) (cond (!decide ((List.getD (List.getD a.2.2.1 b.toNat (false,[],[])).2.2 c.toNat ((0:Int),(0:Int),false,false)).1=(1:Int))) ((q171 n (((a.1.1,a.1.2),(a.2.1.1,a.2.1.2),a.2.2.1,a.2.2.2),(-1:Int),())).bind fun r0=>cond r0.1.2.1 ((q171 n (((a.1.1,a.1.2),(a.2.1.1,a.2.1.2),a.2.2.1,a.2.2.2),(-1:Int),())).bind fun r1=>cond (!r1.1.2.1) (cond (decide (a.2.2.2=a.2.2.2)) none none) (cond (decide ((List.getD (List.getD a.2.2.1 b.toNat (false,[],[])).2.2 c.toNat ((0:Int),(0:Int),false,false)).1=(0:Int))) none (cond (decide ((0:Int)≤(List.getD (List.getD a.2.2.1 b.toNat (false,[],[])).2.2 c.toNat ((0:Int),(0:Int),false,false)).2.1)) (cond (decide ((List.getD (List.getD a.2.2.1 b.toNat (false,[],[])).2.2 c.toNat ((0:Int),(0:Int),false,false)).2.1<(↑(List.length r1.1.1.2.1.1):Int))) none none) none))) ((zdr n (((a.1.1,a.1.2),(a.2.1.1,a.2.1.2),a.2.2.1,a.2.2.2),(-1:Int),())).bind fun r2=>cond (!r2.1.1) (cond (decide (a.2.2.2=a.2.2.2)) (some ((false,()),(((r2.2.1.1.1,r2.2.1.1.2),((r2.2.1.2.1.1,r2.2.1.2.1.2),(r2.2.1.2.2.1,a.2.2.2))),()))) none) none)) (cond (decide ((0:Int)≤b)) (cond (decide (b<(↑(List.length a.2.2.1):Int))) (cond (decide ((0:Int)≤c)) (cond (decide (c<(↑(List.length (List.getD a.2.2.1 b.toNat (false,[],[])).2.2):Int))) (cond (decide (a.2.2.2=a.2.2.2)) (some ((true,()),(((a.1.1,a.1.2),((a.2.1.1,a.2.1.2),(List.set a.2.2.1 b.toNat ((List.getD a.2.2.1 b.toNat (false,[],[])).1,(List.getD a.2.2.1 b.toNat (false,[],[])).2.1,List.set (List.getD a.2.2.1 b.toNat (false,[],[])).2.2 c.toNat ((List.getD (List.getD a.2.2.1 b.toNat (false,[],[])).2.2 c.toNat ((0:Int),(0:Int),false,false)).1,(List.getD (List.getD a.2.2.1 b.toNat (false,[],[])).2.2 c.toNat ((0:Int),(0:Int),false,false)).2.1,(List.getD (List.getD a.2.2.1 b.toNat (false,[],[])).2.2 c.toNat ((0:Int),(0:Int),false,false)).2.2.1,true)),a.2.2.2))),()))) none) none) none) none) none)) none) none) none) none
theorem zrh(n:Nat)(a:Mm)(b:Int)(c:Int):runB TT zc6 zhk Try.f153 zhi zca zcp n (a,b,c,())=zce n a b c:=by kernel_rfl
noncomputable def zt6(n:Nat)(a:Mm)(b:Int)(c:Int):Option zpk:=zce n a b c
theorem zs8(n:Nat)(a:Mm)(b:Int)(c:Int):runB TT zc6 zhk Try.f153 zhi zca zcp n (a,b,c,())=zt6 n a b c:=by
 rw[zrh]
 skip
 try rfl
noncomputable def zfg(n:Nat)(x:zap zca):Option zpk:=zt6 n x.1 x.2.1 x.2.2.1
noncomputable def zhn:Sm:=⟨zca,zcp,false,zfg⟩
theorem zra(hg:GamOK Try.prog zc6):zrv Try.prog 153 zhn:=by
 have:=zvu hg
 have e:(runB TT zc6 zhk Try.f153 zhi zca zcp)=zfg:=by
  funext n x
  exact zs8 n x.1 x.2.1 x.2.2.1
 rw[e]at this
 exact this
theorem zvy:GamOK Try.prog zc6:=by intro f s h;unfold zc6 at h;split at h;exact gj h y171;exact gj h zn2;cases h
theorem zx5:zek Try.prog 3000153 zhn:=zra zvy
theorem yaf:Gk 3000153 zhn:=⟨⟨Try.f153,zhi,Try.func153,by kernel_rfl,by decide +kernel⟩,zx5⟩
noncomputable def c155:Code:=(Try.f155.body.getD .skip)
def yk2:An:=⟨fun r=>match r with|5=>⟨[1,2,4,6,7],[]⟩|13=>⟨[1,2,4,6,10],[]⟩|_=>⟨[],[]⟩,fun _ _=>none⟩
abbrev ybq:List PK:=[.own tMem true,.val i64 false]
abbrev yhb:List RK:=[.own tMem true,.val i64 false]
abbrev R155:=zam yhb×zak ybq
noncomputable def G155:Gam:=fun f=>match f with|93=>some Sm93|153=>some zz9|3000153=>some zhn|157=>some ye6|_=>none
noncomputable def zmv:Nat→Pt→List Nat→St→Option R155:=atF TT G155 yk2 Try.f155 c155 _ _
def zd1(x0 x1 x2 x3 x4:Int)(x5:Lb)(x6:Li)(x7:Lb)(x8:Li)(x9:List (Br)):St:=(St.mk ([Uu,Ai x0,AV.one (SV.bptr 1000000 0),Uu,AV.one (SV.bptr 1000001 0),Uu,Ai x1,Uu,Uu,Uu,Ai x2]++Ur 127) [(1000000,(Ent.box [Sr 1000002,Sr 1000003,Sr 1000004,Sr 1000005,Sr 1000006,Si x3])),(1000001,(Ent.box [SV.nil,SV.nil,SV.nil,SV.nil,SV.nil,Si x4])),(1000002,Er ⟨9,Ty.str,x5⟩),(1000003,Er ⟨3,Ty.int .i64,x6⟩),(1000004,Er ⟨9,Ty.str,x7⟩),(1000005,Er ⟨3,Ty.int .i64,x8⟩),(1000006,Er ⟨71,ySp,x9⟩)])
def zg0(x0 x1 x2 x3 x4:Int)(x5:Lb)(x6:Li)(x7:Lb)(x8:Li)(x9:List (Br)):St:=(St.mk ([Uu,Ai x0,AV.one (SV.bptr 1000000 0),Uu,AV.one (SV.bptr 1000001 0),Uu,Ai x1,Ai x2]++Ur 130) [(1000000,(Ent.box [Sr 1000002,Sr 1000003,Sr 1000004,Sr 1000005,Sr 1000006,Si x3])),(1000001,(Ent.box [SV.nil,SV.nil,SV.nil,SV.nil,SV.nil,Si x4])),(1000002,Er ⟨9,Ty.str,x5⟩),(1000003,Er ⟨3,Ty.int .i64,x6⟩),(1000004,Er ⟨9,Ty.str,x7⟩),(1000005,Er ⟨3,Ty.int .i64,x8⟩),(1000006,Er ⟨71,ySp,x9⟩)])
noncomputable def zf_(n:Nat)(lL5:Int→Int→Int→Int→Int→Lb→Li→Lb→Li→(List (Br))→Option R155)(a:Mm)(b:Int):Option R155 :=
 (q93 n (((a.1.1,a.1.2),(a.2.1.1,a.2.1.2),a.2.2.1,a.2.2.2),())).bind fun r0=>cond (decide (r0.1.1<(0:Int))) (some ((((a.1.1,a.1.2),((a.2.1.1,a.2.1.2),(a.2.2.1,a.2.2.2))),((-1:Int),())),())) (lL5 b r0.1.1 (0:Int) a.2.2.2 (0:Int) a.1.1 a.1.2 a.2.1.1 a.2.1.2 a.2.2.1)
noncomputable def zde(n:Nat)(lL13:Int→Int→Int→Int→Int→Lb→Li→Lb→Li→(List (Br))→Option R155)(x0 x1 x2 x3 x4:Int)(x5:Lb)(x6:Li)(x7:Lb)(x8:Li)(x9:List (Br)):Option R155 :=
 cond (decide (x2<16)) (cond (decide (0≤x0)) (cond (decide (x0<(↑x9.length:Int))) (cond (decide (0≤x2)) (cond (decide (x2<(↑(List.length (x9.getD x0.toNat (false,[],[])).2.2):Int))) (cond (decide (0≤x0)) (cond (decide (x0<(↑x9.length:Int))) ((q157 n (((x9.getD x0.toNat (false,[],[])).1,(x9.getD x0.toNat (false,[],[])).2.1,(x9.getD x0.toNat (false,[],[])).2.2),x2,())).bind fun r7=>cond (!r7.1.1) (cond (decide (0≤x0)) (cond (decide (x0<(↑x9.length:Int))) (cond (decide (0≤x2)) (cond (decide (x2<(↑(List.length (x9.getD x0.toNat (false,[],[])).2.2):Int))) (cond (decide ((List.getD (x9.getD x0.toNat (false,[],[])).2.2 x2.toNat ((0:Int),(0:Int),false,false)).1=(1:Int))) (cond (decide ((0:Int)≤(List.getD (x9.getD x0.toNat (false,[],[])).2.2 x2.toNat ((0:Int),(0:Int),false,false)).2.1)) (cond (decide ((List.getD (x9.getD x0.toNat (false,[],[])).2.2 x2.toNat ((0:Int),(0:Int),false,false)).2.1<(↑x6.length:Int))) (cond (decide ((0:Int)≤(List.getD (x9.getD x0.toNat (false,[],[])).2.2 x2.toNat ((0:Int),(0:Int),false,false)).2.1)) (cond (decide ((List.getD (x9.getD x0.toNat (false,[],[])).2.2 x2.toNat ((0:Int),(0:Int),false,false)).2.1<(↑x6.length:Int))) (lL13 x0 x1 (IntKind.i64.wrap (x2+1)) x3 x4 x5 (x6.set (Int.toNat (List.getD (x9.getD x0.toNat (false,[],[])).2.2 x2.toNat ((0:Int),(0:Int),false,false)).2.1) (IntKind.i64.wrap (x6.getD (Int.toNat (List.getD (x9.getD x0.toNat (false,[],[])).2.2 x2.toNat ((0:Int),(0:Int),false,false)).2.1) (0:Int)+(1:Int)))) x7 x8 (x9.set x0.toNat ((x9.getD x0.toNat (false,[],[])).1,(x9.getD x0.toNat (false,[],[])).2.1,List.set (x9.getD x0.toNat (false,[],[])).2.2 x2.toNat ((List.getD (x9.getD x0.toNat (false,[],[])).2.2 x2.toNat ((0:Int),(0:Int),false,false)).1,(List.getD (x9.getD x0.toNat (false,[],[])).2.2 x2.toNat ((0:Int),(0:Int),false,false)).2.1,false,(List.getD (x9.getD x0.toNat (false,[],[])).2.2 x2.toNat ((0:Int),(0:Int),false,false)).2.2.2)))) none) none) none) none) (cond (decide ((List.getD (x9.getD x0.toNat (false,[],[])).2.2 x2.toNat ((0:Int),(0:Int),false,false)).1=(2:Int))) (cond (decide ((0:Int)≤(List.getD (x9.getD x0.toNat (false,[],[])).2.2 x2.toNat ((0:Int),(0:Int),false,false)).2.1)) (cond (decide ((List.getD (x9.getD x0.toNat (false,[],[])).2.2 x2.toNat ((0:Int),(0:Int),false,false)).2.1<(↑x8.length:Int))) (cond (decide ((0:Int)≤(List.getD (x9.getD x0.toNat (false,[],[])).2.2 x2.toNat ((0:Int),(0:Int),false,false)).2.1)) (cond (decide ((List.getD (x9.getD x0.toNat (false,[],[])).2.2 x2.toNat ((0:Int),(0:Int),false,false)).2.1<(↑x8.length:Int))) (lL13 x0 x1 (IntKind.i64.wrap (x2+1)) x3 x4 x5 x6 x7 (x8.set (Int.toNat (List.getD (x9.getD x0.toNat (false,[],[])).2.2 x2.toNat ((0:Int),(0:Int),false,false)).2.1) (IntKind.i64.wrap (x8.getD (Int.toNat (List.getD (x9.getD x0.toNat (false,[],[])).2.2 x2.toNat ((0:Int),(0:Int),false,false)).2.1) (0:Int)+(1:Int)))) (x9.set x0.toNat ((x9.getD x0.toNat (false,[],[])).1,(x9.getD x0.toNat (false,[],[])).2.1,List.set (x9.getD x0.toNat (false,[],[])).2.2 x2.toNat ((List.getD (x9.getD x0.toNat (false,[],[])).2.2 x2.toNat ((0:Int),(0:Int),false,false)).1,(List.getD (x9.getD x0.toNat (false,[],[])).2.2 x2.toNat ((0:Int),(0:Int),false,false)).2.1,false,(List.getD (x9.getD x0.toNat (false,[],[])).2.2 x2.toNat ((0:Int),(0:Int),false,false)).2.2.2)))) none) none) none) none) (lL13 x0 x1 (IntKind.i64.wrap (x2+1)) x3 x4 x5 x6 x7 x8 (x9.set x0.toNat ((x9.getD x0.toNat (false,[],[])).1,(x9.getD x0.toNat (false,[],[])).2.1,List.set (x9.getD x0.toNat (false,[],[])).2.2 x2.toNat ((List.getD (x9.getD x0.toNat (false,[],[])).2.2 x2.toNat ((0:Int),(0:Int),false,false)).1,(List.getD (x9.getD x0.toNat (false,[],[])).2.2 x2.toNat ((0:Int),(0:Int),false,false)).2.1,false,(List.getD (x9.getD x0.toNat (false,[],[])).2.2 x2.toNat ((0:Int),(0:Int),false,false)).2.2.2)))))) none) none) none) none) (cond (decide (0≤x0)) (cond (decide (x0<(↑x9.length:Int))) (cond (decide (0≤x2)) (cond (decide (x2<(↑(List.length (x9.getD x0.toNat (false,[],[])).2.2):Int))) (cond (decide ((List.getD (x9.getD x0.toNat (false,[],[])).2.2 x2.toNat ((0:Int),(0:Int),false,false)).1=(1:Int))) (cond (decide ((0:Int)≤(List.getD (x9.getD x0.toNat (false,[],[])).2.2 x2.toNat ((0:Int),(0:Int),false,false)).2.1)) (cond (decide ((List.getD (x9.getD x0.toNat (false,[],[])).2.2 x2.toNat ((0:Int),(0:Int),false,false)).2.1<(↑x6.length:Int))) (cond (decide ((0:Int)≤(List.getD (x9.getD x0.toNat (false,[],[])).2.2 x2.toNat ((0:Int),(0:Int),false,false)).2.1)) (cond (decide ((List.getD (x9.getD x0.toNat (false,[],[])).2.2 x2.toNat ((0:Int),(0:Int),false,false)).2.1<(↑x6.length:Int))) (lL13 x0 x1 (IntKind.i64.wrap (x2+1)) x3 x4 x5 (x6.set (Int.toNat (List.getD (x9.getD x0.toNat (false,[],[])).2.2 x2.toNat ((0:Int),(0:Int),false,false)).2.1) (IntKind.i64.wrap (x6.getD (Int.toNat (List.getD (x9.getD x0.toNat (false,[],[])).2.2 x2.toNat ((0:Int),(0:Int),false,false)).2.1) (0:Int)+(1:Int)))) x7 x8 (x9.set x0.toNat ((x9.getD x0.toNat (false,[],[])).1,(x9.getD x0.toNat (false,[],[])).2.1,List.set (x9.getD x0.toNat (false,[],[])).2.2 x2.toNat ((List.getD (x9.getD x0.toNat (false,[],[])).2.2 x2.toNat ((0:Int),(0:Int),false,false)).1,(List.getD (x9.getD x0.toNat (false,[],[])).2.2 x2.toNat ((0:Int),(0:Int),false,false)).2.1,(List.getD (x9.getD x0.toNat (false,[],[])).2.2 x2.toNat ((0:Int),(0:Int),false,false)).2.2.1,(List.getD (x9.getD x0.toNat (false,[],[])).2.2 x2.toNat ((0:Int),(0:Int),false,false)).2.2.2)))) none) none) none) none) (cond (decide ((List.getD (x9.getD x0.toNat (false,[],[])).2.2 x2.toNat ((0:Int),(0:Int),false,false)).1=(2:Int))) (cond (decide ((0:Int)≤(List.getD (x9.getD x0.toNat (false,[],[])).2.2 x2.toNat ((0:Int),(0:Int),false,false)).2.1)) (cond (decide ((List.getD (x9.getD x0.toNat (false,[],[])).2.2 x2.toNat ((0:Int),(0:Int),false,false)).2.1<(↑x8.length:Int))) (cond (decide ((0:Int)≤(List.getD (x9.getD x0.toNat (false,[],[])).2.2 x2.toNat ((0:Int),(0:Int),false,false)).2.1)) (cond (decide ((List.getD (x9.getD x0.toNat (false,[],[])).2.2 x2.toNat ((0:Int),(0:Int),false,false)).2.1<(↑x8.length:Int))) (lL13 x0 x1 (IntKind.i64.wrap (x2+1)) x3 x4 x5 x6 x7 (x8.set (Int.toNat (List.getD (x9.getD x0.toNat (false,[],[])).2.2 x2.toNat ((0:Int),(0:Int),false,false)).2.1) (IntKind.i64.wrap (x8.getD (Int.toNat (List.getD (x9.getD x0.toNat (false,[],[])).2.2 x2.toNat ((0:Int),(0:Int),false,false)).2.1) (0:Int)+(1:Int)))) (x9.set x0.toNat ((x9.getD x0.toNat (false,[],[])).1,(x9.getD x0.toNat (false,[],[])).2.1,List.set (x9.getD x0.toNat (false,[],[])).2.2 x2.toNat ((List.getD (x9.getD x0.toNat (false,[],[])).2.2 x2.toNat ((0:Int),(0:Int),false,false)).1,(List.getD (x9.getD x0.toNat (false,[],[])).2.2 x2.toNat ((0:Int),(0:Int),false,false)).2.1,(List.getD (x9.getD x0.toNat (false,[],[])).2.2 x2.toNat ((0:Int),(0:Int),false,false)).2.2.1,(List.getD (x9.getD x0.toNat (false,[],[])).2.2 x2.toNat ((0:Int),(0:Int),false,false)).2.2.2)))) none) none) none) none) (lL13 x0 x1 (IntKind.i64.wrap (x2+1)) x3 x4 x5 x6 x7 x8 (x9.set x0.toNat ((x9.getD x0.toNat (false,[],[])).1,(x9.getD x0.toNat (false,[],[])).2.1,List.set (x9.getD x0.toNat (false,[],[])).2.2 x2.toNat ((List.getD (x9.getD x0.toNat (false,[],[])).2.2 x2.toNat ((0:Int),(0:Int),false,false)).1,(List.getD (x9.getD x0.toNat (false,[],[])).2.2 x2.toNat ((0:Int),(0:Int),false,false)).2.1,(List.getD (x9.getD x0.toNat (false,[],[])).2.2 x2.toNat ((0:Int),(0:Int),false,false)).2.2.1,(List.getD (x9.getD x0.toNat (false,[],[])).2.2 x2.toNat ((0:Int),(0:Int),false,false)).2.2.2)))))) none) none) none) none)) none) none) none) none) none) none) (cond (decide (0≤x0)) (cond (decide (x0<(↑x9.length:Int))) (cond (decide (((0:Nat)+List.length (x9.getD x0.toNat (false,[],[])).2.1)*(24:Nat)≤(140737488355328:Nat))) (cond (decide (((0:Nat)+List.length (x9.getD x0.toNat (false,[],[])).2.2)*(24:Nat)≤(140737488355328:Nat))) (cond (decide (0≤x1)) (cond (decide (x1<(↑x9.length:Int))) (some ((((x5,x6),((x7,x8),(x9.set x1.toNat (true,(x9.getD x0.toNat (false,[],[])).2.1,(x9.getD x0.toNat (false,[],[])).2.2),x3))),(x1,())),())) none) none) none) none) none) none)
noncomputable def ze2(n:Nat)(lL5:Int→Int→Int→Int→Int→Lb→Li→Lb→Li→(List (Br))→Option R155)(lL13:Int→Int→Int→Int→Int→Lb→Li→Lb→Li→(List (Br))→Option R155)(x0 x1 x2 x3 x4:Int)(x5:Lb)(x6:Li)(x7:Lb)(x8:Li)(x9:List (Br)):Option R155 :=
 cond (decide (x2<16)) (cond (decide (0≤x0)) (cond (decide (x0<(↑x9.length:Int))) ((q157 n (((x9.getD x0.toNat (false,[],[])).1,(x9.getD x0.toNat (false,[],[])).2.1,(x9.getD x0.toNat (false,[],[])).2.2),x2,())).bind fun r2=>cond r2.1.1 (cond (decide (0≤x0)) (cond (decide (x0<(↑x9.length:Int))) (cond (decide (0≤x2)) (cond (decide (x2<(↑(List.length (x9.getD x0.toNat (false,[],[])).2.2):Int))) (cond (decide ((List.getD (x9.getD x0.toNat (false,[],[])).2.2 x2.toNat ((0:Int),(0:Int),false,false)).1=(0:Int))) ((q153 n (((x5,x6),(x7,x8),x9,x3),x0,x2,())).bind fun r3=>cond r3.1.2.1 ((q153 n (((x5,x6),(x7,x8),x9,x3),x0,x2,())).bind fun r4=>cond (!r4.1.2.1) none (lL5 x0 x1 (IntKind.i64.wrap (x2+1)) r4.1.1.2.2.2 x4 r4.1.1.1.1 r4.1.1.1.2 r4.1.1.2.1.1 r4.1.1.2.1.2 r4.1.1.2.2.1)) ((zfg n (((x5,x6),(x7,x8),x9,x3),x0,x2,())).bind fun r5=>cond (!r5.1.1) (some ((((r5.2.1.1.1,r5.2.1.1.2),((r5.2.1.2.1.1,r5.2.1.2.1.2),(r5.2.1.2.2.1,x3))),((-1:Int),())),())) none)) (lL5 x0 x1 (IntKind.i64.wrap (x2+1)) x3 x4 x5 x6 x7 x8 x9)) none) none) none) none) (lL5 x0 x1 (IntKind.i64.wrap (x2+1)) x3 x4 x5 x6 x7 x8 x9)) none) none) (lL13 x0 x1 (0:Int) x3 x4 x5 x6 x7 x8 x9)
theorem yd1(n:Nat)(a:Mm)(b:Int):runF TT G155 yk2 Try.f155 c155 ybq yhb n (a,b,())=zf_ n (fun x0 x1 x2 x3 x4 x5 x6 x7 x8 x9=>zmv n (.head 5) [n] (zg0 x0 x1 x2 x3 x4 x5 x6 x7 x8 x9)) a b:=by kernel_rfl
theorem zvz(n:Nat)(x0 x1 x2 x3 x4:Int)(x5:Lb)(x6:Li)(x7:Lb)(x8:Li)(x9:List (Br)):zmv n (.head 13) [0] (zd1 x0 x1 x2 x3 x4 x5 x6 x7 x8 x9)=none:=by kernel_rfl
theorem yd2(n:Nat)(m13:Nat)(x0 x1 x2 x3 x4:Int)(x5:Lb)(x6:Li)(x7:Lb)(x8:Li)(x9:List (Br)):zmv n (.head 13) [m13+1] (zd1 x0 x1 x2 x3 x4 x5 x6 x7 x8 x9)=zde n (fun x0 x1 x2 x3 x4 x5 x6 x7 x8 x9=>zmv n (.head 13) [m13] (zd1 x0 x1 x2 x3 x4 x5 x6 x7 x8 x9)) x0 x1 x2 x3 x4 x5 x6 x7 x8 x9:=by kernel_rfl
theorem zyt(n:Nat)(x0 x1 x2 x3 x4:Int)(x5:Lb)(x6:Li)(x7:Lb)(x8:Li)(x9:List (Br)):zmv n (.head 5) [0] (zg0 x0 x1 x2 x3 x4 x5 x6 x7 x8 x9)=none:=by kernel_rfl
theorem yj7(n:Nat)(m5:Nat)(x0 x1 x2 x3 x4:Int)(x5:Lb)(x6:Li)(x7:Lb)(x8:Li)(x9:List (Br)):zmv n (.head 5) [m5+1] (zg0 x0 x1 x2 x3 x4 x5 x6 x7 x8 x9)=ze2 n (fun x0 x1 x2 x3 x4 x5 x6 x7 x8 x9=>zmv n (.head 5) [m5] (zg0 x0 x1 x2 x3 x4 x5 x6 x7 x8 x9)) (fun x0 x1 x2 x3 x4 x5 x6 x7 x8 x9=>zmv n (.head 13) [n] (zd1 x0 x1 x2 x3 x4 x5 x6 x7 x8 x9)) x0 x1 x2 x3 x4 x5 x6 x7 x8 x9:=by kernel_rfl
noncomputable def zjr(n:Nat):Nat→Int→Int→Int→Int→Int→Lb→Li→Lb→Li→(List (Br))→Option R155
 |0,_,_,_,_,_,_,_,_,_,_=>none
 |m+1,x0,x1,x2,x3,x4,x5,x6,x7,x8,x9=>zde n (zjr n m) x0 x1 x2 x3 x4 x5 x6 x7 x8 x9
noncomputable def zli(n:Nat):Nat→Int→Int→Int→Int→Int→Lb→Li→Lb→Li→(List (Br))→Option R155
 |0,_,_,_,_,_,_,_,_,_,_=>none
 |m+1,x0,x1,x2,x3,x4,x5,x6,x7,x8,x9=>ze2 n (zli n m) (zjr n n) x0 x1 x2 x3 x4 x5 x6 x7 x8 x9
noncomputable def p155(n:Nat)(a:Mm)(b:Int):Option R155:=zf_ n (zli n n) a b
theorem yal(n:Nat):∀ (m13:Nat) (x0 x1 x2 x3 x4:Int) (x5:Lb) (x6:Li) (x7:Lb) (x8:Li) (x9:List (Br)),zmv n (.head 13) [m13] (zd1 x0 x1 x2 x3 x4 x5 x6 x7 x8 x9)=zjr n m13 x0 x1 x2 x3 x4 x5 x6 x7 x8 x9:=by
 intro m
 induction m with
 |zero=>intros;rw[zvz];rfl
 |succ m ih =>
  intros
  rw[yd2]
  try simp only[ih]
  rfl
theorem ygj(n:Nat):∀ (m5:Nat) (x0 x1 x2 x3 x4:Int) (x5:Lb) (x6:Li) (x7:Lb) (x8:Li) (x9:List (Br)),zmv n (.head 5) [m5] (zg0 x0 x1 x2 x3 x4 x5 x6 x7 x8 x9)=zli n m5 x0 x1 x2 x3 x4 x5 x6 x7 x8 x9:=by
 intro m
 induction m with
 |zero=>intros;rw[zyt];rfl
 |succ m ih =>
  intros
  rw[yj7]
  try simp only[yal,ih]
  rfl
noncomputable def q155(n:Nat)(x:zap ybq):Option R155:=p155 n x.1 x.2.1
noncomputable def ylk:Sm:=⟨ybq,yhb,false,q155⟩
theorem yn0:GamOK Try.prog G155:=by intro f s h;unfold G155 at h;split at h;exact gj h y93;exact gj h y153;exact gj h yaf;exact gj h y157;cases h
theorem hh155:Hp 155 ylk:=hOf (zaf (an:=yk2) (c:=c155) zax yn0 zaw Try.func155 (by kernel_rfl) rfl (by decide +kernel)) fun n x=>(yd1 n x.1 x.2.1).trans (by simp only[ygj];try rfl)
theorem y155:Gk 155 ylk:=⟨⟨Try.f155,c155,Try.func155,by kernel_rfl,by decide +kernel⟩,hh155⟩
noncomputable def c156:Code:=(Try.f156.body.getD .skip)
def ypi:An:=⟨fun _=>⟨[],[]⟩,fun _ _=>none⟩
abbrev ybp:List PK:=[.own tMem true,.val i64 false,.val i64 false]
abbrev yha:List RK:=[.own tMem true,.val i64 false,.val i64 false]
abbrev R156:=zam yha×zak ybp
noncomputable def G156:Gam:=fun f=>match f with|56=>some Sm56|71=>some Sm71|153=>some zz9|_=>none
noncomputable def zf9(n:Nat)(a:Mm)(b:Int)(c:Int):Option R156 :=
 cond (decide ((0:Int)≤b)) (cond (decide (b<(↑(List.length a.2.2.1):Int))) ((q71 n ((List.getD a.2.2.1 b.toNat (false,[],[])).2.1,IntKind.i64.wrap (c.tdiv (4:Int)),())).bind fun r0=>cond (decide (r0.1.1<(0:Int))) (some ((((a.1.1,a.1.2),((a.2.1.1,a.2.1.2),(a.2.2.1,a.2.2.2))),((-1:Int),((2:Int),()))),())) ((q56 n (((a.1.1,a.1.2),(a.2.1.1,a.2.1.2),a.2.2.1,a.2.2.2),())).bind fun r1=>(q153 n (((r1.1.1.1.1,r1.1.1.1.2),(r1.1.1.2.1.1,r1.1.1.2.1.2),r1.1.1.2.2.1,r1.1.1.2.2.2),b,IntKind.i64.wrap (c.tdiv (4:Int)),())).bind fun r2=>cond (!r2.1.2.1) (some ((((a.1.1,a.1.2),((a.2.1.1,a.2.1.2),(a.2.2.1,a.2.2.2))),((-1:Int),((4:Int),()))),())) (cond (decide ((0:Int)≤b)) (cond (decide (b<(↑(List.length r2.1.1.2.2.1):Int))) (cond (decide ((0:Int)≤IntKind.i64.wrap (c.tdiv (4:Int)))) (cond (decide (IntKind.i64.wrap (c.tdiv (4:Int))<(↑(List.length (List.getD r2.1.1.2.2.1 b.toNat (false,[],[])).2.2):Int))) (cond (decide ((0:Int)≤(List.getD (List.getD r2.1.1.2.2.1 b.toNat (false,[],[])).2.2 (IntKind.i64.wrap (c.tdiv (4:Int))).toNat ((0:Int),(0:Int),false,false)).2.1)) (cond (decide ((List.getD (List.getD r2.1.1.2.2.1 b.toNat (false,[],[])).2.2 (IntKind.i64.wrap (c.tdiv (4:Int))).toNat ((0:Int),(0:Int),false,false)).2.1<(↑(List.length r2.1.1.1.1):Int))) (cond (decide ((0:Int)≤c.tmod (4:Int))) (cond (decide (c.tmod (4:Int)<(↑(ByteArray.size (List.getD r2.1.1.1.1 (Int.toNat (List.getD (List.getD r2.1.1.2.2.1 b.toNat (false,[],[])).2.2 (IntKind.i64.wrap (c.tdiv (4:Int))).toNat ((0:Int),(0:Int),false,false)).2.1) ByteArray.empty)):Int))) (some ((((r2.1.1.1.1,r2.1.1.1.2),((r2.1.1.2.1.1,r2.1.1.2.1.2),(r2.1.1.2.2.1,r2.1.1.2.2.2))),(IntKind.i64.wrap (↑((List.getD r2.1.1.1.1 (Int.toNat (List.getD (List.getD r2.1.1.2.2.1 b.toNat (false,[],[])).2.2 (IntKind.i64.wrap (c.tdiv (4:Int))).toNat ((0:Int),(0:Int),false,false)).2.1) ByteArray.empty).data.toList.getD (c.tmod (4:Int)).toNat (0:UInt8)).toNat:Int),((0:Int),()))),())) none) none) none) none) none) none) none) none))) none) none
theorem yd0(n:Nat)(a:Mm)(b:Int)(c:Int):runF TT G156 ypi Try.f156 c156 ybp yha n (a,b,c,())=zf9 n a b c:=by kernel_rfl
noncomputable def p156(n:Nat)(a:Mm)(b:Int)(c:Int):Option R156:=zf9 n a b c
noncomputable def q156(n:Nat)(x:zap ybp):Option R156:=p156 n x.1 x.2.1 x.2.2.1
noncomputable def ylj:Sm:=⟨ybp,yha,false,q156⟩
theorem ynz:GamOK Try.prog G156:=by intro f s h;unfold G156 at h;split at h;exact gj h y56;exact gj h y71;exact gj h y153;cases h
theorem hh156:Hp 156 ylj:=hOf (zaf (an:=ypi) (c:=c156) zax ynz zaw Try.func156 (by kernel_rfl) rfl (by decide +kernel)) fun n x=>(yd0 n x.1 x.2.1 x.2.2.1).trans rfl
theorem y156:Gk 156 ylj:=⟨⟨Try.f156,c156,Try.func156,by kernel_rfl,by decide +kernel⟩,hh156⟩
noncomputable def c110:Code:=(Try.f110.body.getD .skip)
def ypw:An:=⟨fun _=>⟨[],[]⟩,fun _ _=>none⟩
abbrev ycb:List PK:=[.bx tRd,.own tMem true]
abbrev yhw:List RK:=[.own tMem true]
abbrev R110:=zam yhw×zak ycb
noncomputable def G110:Gam:=fun f=>match f with|28=>some Sm28|48=>some Sm48|54=>some Sm54|55=>some Sm55|56=>some Sm56|103=>some yl4|108=>some yfa|109=>some ye_|155=>some ylk|156=>some ylj|_=>none
noncomputable def zgk(n:Nat)(a:Li×Int)(b:Mm):Option R110 :=
 (q48 n ((a.1,a.2),(5:Int),())).bind fun r0=>(q54 n (((b.1.1,b.1.2),(b.2.1.1,b.2.1.2),b.2.2.1,b.2.2.2),r0.1.1,())).bind fun r1=>cond (!r1.1.1) ((q54 n (((b.1.1,b.1.2),(b.2.1.1,b.2.1.2),b.2.2.1,b.2.2.2),(0:Int),())).bind fun r2=>cond (!r2.1.1) ((q28 n (((b.1.1,b.1.2),(b.2.1.1,b.2.1.2),b.2.2.1,b.2.2.2),())).bind fun r3=>cond r3.1.2.2.1 (some ((((r3.1.1.1.1,r3.1.1.1.2),((r3.1.1.2.1.1,r3.1.1.2.1.2),(r3.1.1.2.2.1,r3.1.1.2.2.2))),()),((r0.2.1.1,r0.2.1.2),()))) (some ((((b.1.1,b.1.2),((b.2.1.1,b.2.1.2),(b.2.2.1,b.2.2.2))),()),((r0.2.1.1,r0.2.1.2),())))) ((q48 n ((r0.2.1.1,r0.2.1.2),(64:Int),())).bind fun r4=>(q48 n ((r4.2.1.1,r4.2.1.2),(14:Int),())).bind fun r5=>cond (decide (r5.1.1=(0:Int))) ((q56 n (((b.1.1,b.1.2),(b.2.1.1,b.2.1.2),b.2.2.1,b.2.2.2),())).bind fun r6=>(q155 n (((r6.1.1.1.1,r6.1.1.1.2),(r6.1.1.2.1.1,r6.1.1.2.1.2),r6.1.1.2.2.1,r6.1.1.2.2.2),(0:Int),())).bind fun r7=>cond (decide ((0:Int)≤r7.1.2.1)) (some ((((r7.1.1.1.1,r7.1.1.1.2),((r7.1.1.2.1.1,r7.1.1.2.1.2),(r7.1.1.2.2.1,r7.1.1.2.2.2))),()),((r5.2.1.1,r5.2.1.2),()))) (some ((((b.1.1,b.1.2),((b.2.1.1,b.2.1.2),(b.2.2.1,b.2.2.2))),()),((r5.2.1.1,r5.2.1.2),())))) (cond (decide (r5.1.1=(1:Int))) ((q56 n (((b.1.1,b.1.2),(b.2.1.1,b.2.1.2),b.2.2.1,b.2.2.2),())).bind fun r8=>(q48 n ((r5.2.1.1,r5.2.1.2),(12:Int),())).bind fun r9=>(q48 n ((r9.2.1.1,r9.2.1.2),(4:Int),())).bind fun r10=>(q55 n (((r8.1.1.1.1,r8.1.1.1.2),(r8.1.1.2.1.1,r8.1.1.2.1.2),r8.1.1.2.2.1,r8.1.1.2.2.2),(0:Int),r9.1.1,IntKind.i64.wrap ((1:Int)+r10.1.1),())).bind fun r11=>some ((((r11.1.1.1.1,r11.1.1.1.2),((r11.1.1.2.1.1,r11.1.1.2.1.2),(r11.1.1.2.2.1,r11.1.1.2.2.2))),()),((r10.2.1.1,r10.2.1.2),()))) (cond (decide (r5.1.1=(2:Int))) ((q56 n (((b.1.1,b.1.2),(b.2.1.1,b.2.1.2),b.2.2.1,b.2.2.2),())).bind fun r12=>(q48 n ((r5.2.1.1,r5.2.1.2),(12:Int),())).bind fun r13=>(q48 n ((r13.2.1.1,r13.2.1.2),(4:Int),())).bind fun r14=>(q48 n ((r14.2.1.1,r14.2.1.2),(5:Int),())).bind fun r15=>(q48 n ((r15.2.1.1,r15.2.1.2),(3:Int),())).bind fun r16=>(q108 n (((r12.1.1.1.1,r12.1.1.1.2),(r12.1.1.2.1.1,r12.1.1.2.1.2),r12.1.1.2.2.1,r12.1.1.2.2.2),(0:Int),(r13.1.1,IntKind.i64.wrap ((1:Int)+r14.1.1),decide ((0:Int)<r15.1.1),decide (r16.1.1=(0:Int))),())).bind fun r17=>some ((((r17.1.1.1.1,r17.1.1.1.2),((r17.1.1.2.1.1,r17.1.1.2.1.2),(r17.1.1.2.2.1,r17.1.1.2.2.2))),()),((r16.2.1.1,r16.2.1.2),()))) (cond (decide (r5.1.1=(3:Int))) ((q56 n (((b.1.1,b.1.2),(b.2.1.1,b.2.1.2),b.2.2.1,b.2.2.2),())).bind fun r18=>(q48 n ((r5.2.1.1,r5.2.1.2),(12:Int),())).bind fun r19=>(q48 n ((r19.2.1.1,r19.2.1.2),(4:Int),())).bind fun r20=>(q48 n ((r20.2.1.1,r20.2.1.2),(5:Int),())).bind fun r21=>(q48 n ((r21.2.1.1,r21.2.1.2),(3:Int),())).bind fun r22=>(q108 n (((r18.1.1.1.1,r18.1.1.1.2),(r18.1.1.2.1.1,r18.1.1.2.1.2),r18.1.1.2.2.1,r18.1.1.2.2.2),(0:Int),(r19.1.1,IntKind.i64.wrap ((1:Int)+r20.1.1),decide ((0:Int)<r21.1.1),decide (r22.1.1=(0:Int))),())).bind fun r23=>some ((((r23.1.1.1.1,r23.1.1.1.2),((r23.1.1.2.1.1,r23.1.1.2.1.2),(r23.1.1.2.2.1,r23.1.1.2.2.2))),()),((r22.2.1.1,r22.2.1.2),()))) (cond (decide (r5.1.1=(4:Int))) ((q56 n (((b.1.1,b.1.2),(b.2.1.1,b.2.1.2),b.2.2.1,b.2.2.2),())).bind fun r24=>(q48 n ((r5.2.1.1,r5.2.1.2),(12:Int),())).bind fun r25=>(q48 n ((r25.2.1.1,r25.2.1.2),(4:Int),())).bind fun r26=>(q48 n ((r26.2.1.1,r26.2.1.2),(5:Int),())).bind fun r27=>(q48 n ((r27.2.1.1,r27.2.1.2),(3:Int),())).bind fun r28=>(q108 n (((r24.1.1.1.1,r24.1.1.1.2),(r24.1.1.2.1.1,r24.1.1.2.1.2),r24.1.1.2.2.1,r24.1.1.2.2.2),(0:Int),(r25.1.1,IntKind.i64.wrap ((1:Int)+r26.1.1),decide ((0:Int)<r27.1.1),decide (r28.1.1=(0:Int))),())).bind fun r29=>some ((((r29.1.1.1.1,r29.1.1.1.2),((r29.1.1.2.1.1,r29.1.1.2.1.2),(r29.1.1.2.2.1,r29.1.1.2.2.2))),()),((r28.2.1.1,r28.2.1.2),()))) (cond (decide (r5.1.1=(5:Int))) ((q48 n ((r5.2.1.1,r5.2.1.2),(4:Int),())).bind fun r30=>cond (decide (r30.1.1=(0:Int))) ((q56 n (((b.1.1,b.1.2),(b.2.1.1,b.2.1.2),b.2.2.1,b.2.2.2),())).bind fun r31=>(q103 n (((r31.1.1.1.1,r31.1.1.1.2),(r31.1.1.2.1.1,r31.1.1.2.1.2),r31.1.1.2.2.1,r31.1.1.2.2.2),(0:Int),())).bind fun r32=>some ((((r32.1.1.1.1,r32.1.1.1.2),((r32.1.1.2.1.1,r32.1.1.2.1.2),(r32.1.1.2.2.1,r32.1.1.2.2.2))),()),((r30.2.1.1,r30.2.1.2),()))) (some ((((b.1.1,b.1.2),((b.2.1.1,b.2.1.2),(b.2.2.1,b.2.2.2))),()),((r30.2.1.1,r30.2.1.2),())))) (cond (decide (r5.1.1=(6:Int))) ((q156 n (((b.1.1,b.1.2),(b.2.1.1,b.2.1.2),b.2.2.1,b.2.2.2),(0:Int),r4.1.1,())).bind fun r33=>some ((((r33.1.1.1.1,r33.1.1.1.2),((r33.1.1.2.1.1,r33.1.1.2.1.2),(r33.1.1.2.2.1,r33.1.1.2.2.2))),()),((r5.2.1.1,r5.2.1.2),()))) (cond (decide (r5.1.1=(7:Int))) ((q156 n (((b.1.1,b.1.2),(b.2.1.1,b.2.1.2),b.2.2.1,b.2.2.2),(0:Int),r4.1.1,())).bind fun r34=>some ((((r34.1.1.1.1,r34.1.1.1.2),((r34.1.1.2.1.1,r34.1.1.2.1.2),(r34.1.1.2.2.1,r34.1.1.2.2.2))),()),((r5.2.1.1,r5.2.1.2),()))) (cond (decide (r5.1.1=(8:Int))) ((q156 n (((b.1.1,b.1.2),(b.2.1.1,b.2.1.2),b.2.2.1,b.2.2.2),(0:Int),r4.1.1,())).bind fun r35=>some ((((r35.1.1.1.1,r35.1.1.1.2),((r35.1.1.2.1.1,r35.1.1.2.1.2),(r35.1.1.2.2.1,r35.1.1.2.2.2))),()),((r5.2.1.1,r5.2.1.2),()))) ((q48 n ((r5.2.1.1,r5.2.1.2),(256:Int),())).bind fun r36=>(q109 n (((b.1.1,b.1.2),(b.2.1.1,b.2.1.2),b.2.2.1,b.2.2.2),(0:Int),r4.1.1,r36.1.1,())).bind fun r37=>some ((((r37.1.1.1.1,r37.1.1.1.2),((r37.1.1.2.1.1,r37.1.1.2.1.2),(r37.1.1.2.2.1,r37.1.1.2.2.2))),()),((r36.2.1.1,r36.2.1.2),()))))))))))))) ((q54 n (((b.1.1,b.1.2),(b.2.1.1,b.2.1.2),b.2.2.1,b.2.2.2),r0.1.1,())).bind fun r38=>cond (!r38.1.1) ((q28 n (((b.1.1,b.1.2),(b.2.1.1,b.2.1.2),b.2.2.1,b.2.2.2),())).bind fun r39=>cond r39.1.2.2.1 (some ((((r39.1.1.1.1,r39.1.1.1.2),((r39.1.1.2.1.1,r39.1.1.2.1.2),(r39.1.1.2.2.1,r39.1.1.2.2.2))),()),((r0.2.1.1,r0.2.1.2),()))) (some ((((b.1.1,b.1.2),((b.2.1.1,b.2.1.2),(b.2.2.1,b.2.2.2))),()),((r0.2.1.1,r0.2.1.2),())))) ((q48 n ((r0.2.1.1,r0.2.1.2),(64:Int),())).bind fun r40=>(q48 n ((r40.2.1.1,r40.2.1.2),(14:Int),())).bind fun r41=>cond (decide (r41.1.1=(0:Int))) ((q56 n (((b.1.1,b.1.2),(b.2.1.1,b.2.1.2),b.2.2.1,b.2.2.2),())).bind fun r42=>(q155 n (((r42.1.1.1.1,r42.1.1.1.2),(r42.1.1.2.1.1,r42.1.1.2.1.2),r42.1.1.2.2.1,r42.1.1.2.2.2),r0.1.1,())).bind fun r43=>cond (decide ((0:Int)≤r43.1.2.1)) (some ((((r43.1.1.1.1,r43.1.1.1.2),((r43.1.1.2.1.1,r43.1.1.2.1.2),(r43.1.1.2.2.1,r43.1.1.2.2.2))),()),((r41.2.1.1,r41.2.1.2),()))) (some ((((b.1.1,b.1.2),((b.2.1.1,b.2.1.2),(b.2.2.1,b.2.2.2))),()),((r41.2.1.1,r41.2.1.2),())))) (cond (decide (r41.1.1=(1:Int))) ((q56 n (((b.1.1,b.1.2),(b.2.1.1,b.2.1.2),b.2.2.1,b.2.2.2),())).bind fun r44=>(q48 n ((r41.2.1.1,r41.2.1.2),(12:Int),())).bind fun r45=>(q48 n ((r45.2.1.1,r45.2.1.2),(4:Int),())).bind fun r46=>(q55 n (((r44.1.1.1.1,r44.1.1.1.2),(r44.1.1.2.1.1,r44.1.1.2.1.2),r44.1.1.2.2.1,r44.1.1.2.2.2),r0.1.1,r45.1.1,IntKind.i64.wrap ((1:Int)+r46.1.1),())).bind fun r47=>some ((((r47.1.1.1.1,r47.1.1.1.2),((r47.1.1.2.1.1,r47.1.1.2.1.2),(r47.1.1.2.2.1,r47.1.1.2.2.2))),()),((r46.2.1.1,r46.2.1.2),()))) (cond (decide (r41.1.1=(2:Int))) ((q56 n (((b.1.1,b.1.2),(b.2.1.1,b.2.1.2),b.2.2.1,b.2.2.2),())).bind fun r48=>(q48 n ((r41.2.1.1,r41.2.1.2),(12:Int),())).bind fun r49=>(q48 n ((r49.2.1.1,r49.2.1.2),(4:Int),())).bind fun r50=>(q48 n ((r50.2.1.1,r50.2.1.2),(5:Int),())).bind fun r51=>(q48 n ((r51.2.1.1,r51.2.1.2),(3:Int),())).bind fun r52=>(q108 n (((r48.1.1.1.1,r48.1.1.1.2),(r48.1.1.2.1.1,r48.1.1.2.1.2),r48.1.1.2.2.1,r48.1.1.2.2.2),r0.1.1,(r49.1.1,IntKind.i64.wrap ((1:Int)+r50.1.1),decide ((0:Int)<r51.1.1),decide (r52.1.1=(0:Int))),())).bind fun r53=>some ((((r53.1.1.1.1,r53.1.1.1.2),((r53.1.1.2.1.1,r53.1.1.2.1.2),(r53.1.1.2.2.1,r53.1.1.2.2.2))),()),((r52.2.1.1,r52.2.1.2),()))) (cond (decide (r41.1.1=(3:Int))) ((q56 n (((b.1.1,b.1.2),(b.2.1.1,b.2.1.2),b.2.2.1,b.2.2.2),())).bind fun r54=>(q48 n ((r41.2.1.1,r41.2.1.2),(12:Int),())).bind fun r55=>(q48 n ((r55.2.1.1,r55.2.1.2),(4:Int),())).bind fun r56=>(q48 n ((r56.2.1.1,r56.2.1.2),(5:Int),())).bind fun r57=>(q48 n ((r57.2.1.1,r57.2.1.2),(3:Int),())).bind fun r58=>(q108 n (((r54.1.1.1.1,r54.1.1.1.2),(r54.1.1.2.1.1,r54.1.1.2.1.2),r54.1.1.2.2.1,r54.1.1.2.2.2),r0.1.1,(r55.1.1,IntKind.i64.wrap ((1:Int)+r56.1.1),decide ((0:Int)<r57.1.1),decide (r58.1.1=(0:Int))),())).bind fun r59=>some ((((r59.1.1.1.1,r59.1.1.1.2),((r59.1.1.2.1.1,r59.1.1.2.1.2),(r59.1.1.2.2.1,r59.1.1.2.2.2))),()),((r58.2.1.1,r58.2.1.2),()))) (cond (decide (r41.1.1=(4:Int))) ((q56 n (((b.1.1,b.1.2),(b.2.1.1,b.2.1.2),b.2.2.1,b.2.2.2),())).bind fun r60=>(q48 n ((r41.2.1.1,r41.2.1.2),(12:Int),())).bind fun r61=>(q48 n ((r61.2.1.1,r61.2.1.2),(4:Int),())).bind fun r62=>(q48 n ((r62.2.1.1,r62.2.1.2),(5:Int),())).bind fun r63=>(q48 n ((r63.2.1.1,r63.2.1.2),(3:Int),())).bind fun r64=>(q108 n (((r60.1.1.1.1,r60.1.1.1.2),(r60.1.1.2.1.1,r60.1.1.2.1.2),r60.1.1.2.2.1,r60.1.1.2.2.2),r0.1.1,(r61.1.1,IntKind.i64.wrap ((1:Int)+r62.1.1),decide ((0:Int)<r63.1.1),decide (r64.1.1=(0:Int))),())).bind fun r65=>some ((((r65.1.1.1.1,r65.1.1.1.2),((r65.1.1.2.1.1,r65.1.1.2.1.2),(r65.1.1.2.2.1,r65.1.1.2.2.2))),()),((r64.2.1.1,r64.2.1.2),()))) (cond (decide (r41.1.1=(5:Int))) ((q48 n ((r41.2.1.1,r41.2.1.2),(4:Int),())).bind fun r66=>cond (decide (r66.1.1=(0:Int))) ((q56 n (((b.1.1,b.1.2),(b.2.1.1,b.2.1.2),b.2.2.1,b.2.2.2),())).bind fun r67=>(q103 n (((r67.1.1.1.1,r67.1.1.1.2),(r67.1.1.2.1.1,r67.1.1.2.1.2),r67.1.1.2.2.1,r67.1.1.2.2.2),r0.1.1,())).bind fun r68=>some ((((r68.1.1.1.1,r68.1.1.1.2),((r68.1.1.2.1.1,r68.1.1.2.1.2),(r68.1.1.2.2.1,r68.1.1.2.2.2))),()),((r66.2.1.1,r66.2.1.2),()))) (some ((((b.1.1,b.1.2),((b.2.1.1,b.2.1.2),(b.2.2.1,b.2.2.2))),()),((r66.2.1.1,r66.2.1.2),())))) (cond (decide (r41.1.1=(6:Int))) ((q156 n (((b.1.1,b.1.2),(b.2.1.1,b.2.1.2),b.2.2.1,b.2.2.2),r0.1.1,r40.1.1,())).bind fun r69=>some ((((r69.1.1.1.1,r69.1.1.1.2),((r69.1.1.2.1.1,r69.1.1.2.1.2),(r69.1.1.2.2.1,r69.1.1.2.2.2))),()),((r41.2.1.1,r41.2.1.2),()))) (cond (decide (r41.1.1=(7:Int))) ((q156 n (((b.1.1,b.1.2),(b.2.1.1,b.2.1.2),b.2.2.1,b.2.2.2),r0.1.1,r40.1.1,())).bind fun r70=>some ((((r70.1.1.1.1,r70.1.1.1.2),((r70.1.1.2.1.1,r70.1.1.2.1.2),(r70.1.1.2.2.1,r70.1.1.2.2.2))),()),((r41.2.1.1,r41.2.1.2),()))) (cond (decide (r41.1.1=(8:Int))) ((q156 n (((b.1.1,b.1.2),(b.2.1.1,b.2.1.2),b.2.2.1,b.2.2.2),r0.1.1,r40.1.1,())).bind fun r71=>some ((((r71.1.1.1.1,r71.1.1.1.2),((r71.1.1.2.1.1,r71.1.1.2.1.2),(r71.1.1.2.2.1,r71.1.1.2.2.2))),()),((r41.2.1.1,r41.2.1.2),()))) ((q48 n ((r41.2.1.1,r41.2.1.2),(256:Int),())).bind fun r72=>(q109 n (((b.1.1,b.1.2),(b.2.1.1,b.2.1.2),b.2.2.1,b.2.2.2),r0.1.1,r40.1.1,r72.1.1,())).bind fun r73=>some ((((r73.1.1.1.1,r73.1.1.1.2),((r73.1.1.2.1.1,r73.1.1.2.1.2),(r73.1.1.2.2.1,r73.1.1.2.2.2))),()),((r72.2.1.1,r72.2.1.2),())))))))))))))
theorem yem(n:Nat)(a:Li×Int)(b:Mm):runF TT G110 ypw Try.f110 c110 ycb yhw n (a,b,())=zgk n a b:=by kernel_rfl
noncomputable def p110(n:Nat)(a:Li×Int)(b:Mm):Option R110:=zgk n a b
noncomputable def q110(n:Nat)(x:zap ycb):Option R110:=p110 n x.1 x.2.1
noncomputable def yl1:Sm:=⟨ycb,yhw,true,q110⟩
theorem yok:GamOK Try.prog G110:=by intro f s h;unfold G110 at h;split at h;exact gj h y28;exact gj h y48;exact gj h y54;exact gj h y55;exact gj h y56;exact gj h y103;exact gj h y108;exact gj h y109;exact gj h y155;exact gj h y156;cases h
theorem hh110:Hp 110 yl1:=hOf (zaf (an:=ypw) (c:=c110) zax yok zaw Try.func110 (by kernel_rfl) rfl (by decide +kernel)) fun n x=>(yem n x.1 x.2.1).trans rfl
theorem y110:Gk 110 yl1:=⟨⟨Try.f110,c110,Try.func110,by kernel_rfl,by decide +kernel⟩,hh110⟩
noncomputable def c45:Code:=(Try.f45.body.getD .skip)
def an45:An:=⟨fun _=>⟨[],[]⟩,fun _ _=>none⟩
abbrev ps45:List PK:=[.val (.row 5 (.int .u8)) false]
abbrev rs45:List RK:=[.bx tRd]
abbrev R45:=zam rs45×zak ps45
noncomputable def G45:Gam:=fun _=>none
noncomputable def zje(n:Nat)(a:Li):Option R45 :=
 cond (decide ((2000:Int)<(↑a.length:Int))) (cond (decide ((2000:Int)≤(↑a.length:Int))) (some (((List.take (Int.toNat (2000:Int)) a,(0:Int)),()),())) none) (some (((a,(0:Int)),()),()))
theorem yjk(n:Nat)(a:Li):runF TT G45 an45 Try.f45 c45 ps45 rs45 n (a,())=zje n a:=by kernel_rfl
noncomputable def p45(n:Nat)(a:Li):Option R45:=zje n a
noncomputable def q45(n:Nat)(x:zap ps45):Option R45:=p45 n x.1
noncomputable def Sm45:Sm:=⟨ps45,rs45,true,q45⟩
theorem gam45:GamOK Try.prog G45:=fun _ _ h=>by cases h
theorem hh45:Hp 45 Sm45:=hOf (zaf (an:=an45) (c:=c45) zax gam45 zaw Try.func45 (by kernel_rfl) rfl (by decide +kernel)) fun n x=>(yjk n x.1).trans rfl
theorem y45:Gk 45 Sm45:=⟨⟨Try.f45,c45,Try.func45,by kernel_rfl,by decide +kernel⟩,hh45⟩
noncomputable def c151:Code:=(Try.f151.body.getD .skip)
def ypm:An:=⟨fun _=>⟨[],[]⟩,fun _ _=>none⟩
abbrev ybu:List PK:=[.val i64 false]
abbrev yhf:List RK:=[.own tPg true,.val .bool false]
abbrev R151:=zam yhf×zak ybu
noncomputable def G151:Gam:=fun f=>match f with|69=>some Sm69|_=>none
noncomputable def zpx(n:Nat)(a:Int):Option R151 :=
 (q69 n (a,(1:Int),(12:Int),())).bind fun r0=>cond (!r0.1.1) (some ((([],[]),(false,())),())) (cond (decide ((0:Int)≤a)) (cond (decide (a*(↑(16:Nat):Int)≤(140737488355328:Int))) (cond (decide ((0:Int)≤a)) (cond (decide (a*(↑(8:Nat):Int)≤(140737488355328:Int))) (some (((List.replicate a.toNat ByteArray.empty,List.replicate a.toNat (0:Int)),(true,())),())) none) none) none) none)
theorem yd6(n:Nat)(a:Int):runF TT G151 ypm Try.f151 c151 ybu yhf n (a,())=zpx n a:=by kernel_rfl
noncomputable def p151(n:Nat)(a:Int):Option R151:=zpx n a
noncomputable def q151(n:Nat)(x:zap ybu):Option R151:=p151 n x.1
noncomputable def yln:Sm:=⟨ybu,yhf,false,q151⟩
theorem yn4:GamOK Try.prog G151:=by intro f s h;unfold G151 at h;split at h;exact gj h y69;cases h
theorem hh151:Hp 151 yln:=hOf (zaf (an:=ypm) (c:=c151) zax yn4 zaw Try.func151 (by kernel_rfl) rfl (by decide +kernel)) fun n x=>(yd6 n x.1).trans rfl
theorem y151:Gk 151 yln:=⟨⟨Try.f151,c151,Try.func151,by kernel_rfl,by decide +kernel⟩,hh151⟩
noncomputable def c107:Code:=(Try.f107.body.getD .skip)
def ypz:An:=⟨fun _=>⟨[],[]⟩,fun _ _=>none⟩
abbrev yce:List PK:=[]
abbrev yhz:List RK:=[.own tMem true]
abbrev R107:=zam yhz×zak yce
noncomputable def G107:Gam:=fun f=>match f with|151=>some yln|_=>none
noncomputable def zp5(n:Nat):Option R107 :=
 (q151 n ((12:Int),())).bind fun r0=>(q151 n ((12:Int),())).bind fun r1=>some ((((r0.1.1.1,r0.1.1.2),((r1.1.1.1,r1.1.1.2),(List.replicate (Int.toNat (5:Int)) (false,[],[]),(0:Int)))),()),())
theorem yep(n:Nat):runF TT G107 ypz Try.f107 c107 yce yhz n ()=zp5 n:=by kernel_rfl
noncomputable def p107(n:Nat):Option R107:=zp5 n 
noncomputable def q107(n:Nat)(x:zap yce):Option R107:=p107 n 
noncomputable def yl2:Sm:=⟨yce,yhz,false,q107⟩
theorem yon:GamOK Try.prog G107:=by intro f s h;unfold G107 at h;split at h;exact gj h y151;cases h
theorem hh107:Hp 107 yl2:=hOf (zaf (an:=ypz) (c:=c107) zax yon zaw Try.func107 (by kernel_rfl) rfl (by decide +kernel)) fun n x=>(yep n ).trans rfl
theorem y107:Gk 107 yl2:=⟨⟨Try.f107,c107,Try.func107,by kernel_rfl,by decide +kernel⟩,hh107⟩
end Go.Proofs.Ytdkaagpkeomhmaa.Rx.S
