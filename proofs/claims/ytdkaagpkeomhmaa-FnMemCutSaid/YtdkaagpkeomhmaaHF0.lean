/- What the functions of this seat compute, each as a plain function on lists and numbers, with the proof that a call answers so. No condition. -/
import Derived.Test.YtdkaagpkeomhmaaProg
import Derived.KernelRfl
import Derived.Test.YtdkaagpkeomhmaaHK4
set_option linter.unusedVariables false
set_option linter.unusedSimpArgs false
namespace Go.Proofs.Ytdkaagpkeomhmaa.Rx
abbrev Aq:Type:=Int×Int×Bool×Bool
abbrev Lb:Type:=List ByteArray
abbrev Lq:Type:=List Aq
abbrev Uu:AV:=AV.undef
abbrev Li:Type:=List Int
abbrev Br:Type:=Bool×Lq×Lq
abbrev Ls:Type:=List Br
abbrev Mm:Type:=(Lb×Li)×(Lb×Li)×Ls×Int
abbrev Ur(k:Nat):List AV:=List.replicate k Uu
abbrev Ai(x:Int):AV:=.one (.int .i64 x)
abbrev Si(x:Int):SV:=.int .i64 x
abbrev Sr(o:Nat):SV:=.ref o 0 [] none
abbrev Er(r:Rw):Ent:=.row r 0 none
abbrev yAq:Ty:=.pair (.int .i64) (.pair (.int .i64) (.pair .bool .bool))
abbrev ySp:Ty:=.pair .bool (.pair (.row 116 yAq) (.row 80 yAq))
end Go.Proofs.Ytdkaagpkeomhmaa.Rx
namespace Go.Proofs.Ytdkaagpkeomhmaa.Rx.S
open Go Go.RowKit Go.Proofs
def tbl:List (TypeId×TI):=[
(2,⟨.int .i64,1,8,[.int .i64],some (.int .i64),false⟩),
(3,⟨.int .i64,1,8,[.int .i64],some (.int .i64),false⟩),
(4,⟨.bool,1,1,[.bool],some .bool,false⟩),
(5,⟨.int .u8,1,1,[.int .u8],some (.int .u8),false⟩),
(6,⟨.int .u8,1,1,[.int .u8],some (.int .u8),false⟩),
(7,⟨.struct [(0,1),(1,1),(2,1),(3,1)],4,24,[.int .i64,.int .i64,.bool,.int .u8],some (.pair (.int .i64) (.pair (.int .i64) (.pair .bool (.int .u8)))),true⟩),
(8,⟨.struct [(0,1),(1,1),(2,1),(3,1)],4,24,[.int .i64,.int .i64,.bool,.int .u8],some (.pair (.int .i64) (.pair (.int .i64) (.pair .bool (.int .u8)))),true⟩),
(9,⟨.str,1,16,[.str],some .str,false⟩),
(10,⟨.str,1,16,[.str],some .str,false⟩),
(11,⟨.str,1,16,[.str],some .str,false⟩),
(12,⟨.int .u64,1,8,[.int .u64],some (.int .u64),false⟩),
(13,⟨.struct [(0,1),(1,1)],2,24,[.str,.int .u64],some (.pair .str (.int .u64)),false⟩),
(14,⟨.struct [(0,1),(1,1)],2,24,[.str,.int .u64],some (.pair .str (.int .u64)),false⟩),
(15,⟨.ptr,1,8,[.ptr],none,false⟩),
(16,⟨.ptr,1,8,[.ptr],none,false⟩),
(17,⟨.ptr,1,8,[.ptr],none,false⟩),
(18,⟨.struct [(0,1)],1,8,[.ptr],none,false⟩),
(19,⟨.struct [(0,1)],1,8,[.ptr],none,false⟩),
(21,⟨.int .i32,1,4,[.int .i32],some (.int .i32),false⟩),
(22,⟨.slice 5,1,24,[.slice],some (.row 5 (.int .u8)),false⟩),
(23,⟨.slice 9,1,24,[.slice],some (.row 9 .str),false⟩),
(24,⟨.slice 3,1,24,[.slice],some (.row 3 (.int .i64)),false⟩),
(25,⟨.struct [(0,1),(1,1)],2,48,[.slice,.slice],some (.pair (.row 9 .str) (.row 3 (.int .i64))),false⟩),
(26,⟨.struct [(0,1),(1,1)],2,48,[.slice,.slice],some (.pair (.row 9 .str) (.row 3 (.int .i64))),false⟩),
(27,⟨.slice 71,1,24,[.slice],some (.row 71 (.pair .bool (.pair (.row 116 (.pair (.int .i64) (.pair (.int .i64) (.pair .bool .bool)))) (.row 80 (.pair (.int .i64) (.pair (.int .i64) (.pair .bool .bool))))))),false⟩),
(28,⟨.struct [(0,2),(2,2),(4,1),(5,1)],6,128,[.slice,.slice,.slice,.slice,.slice,.int .i64],some (.pair (.pair (.row 9 .str) (.row 3 (.int .i64))) (.pair (.pair (.row 9 .str) (.row 3 (.int .i64))) (.pair (.row 71 (.pair .bool (.pair (.row 116 (.pair (.int .i64) (.pair (.int .i64) (.pair .bool .bool)))) (.row 80 (.pair (.int .i64) (.pair (.int .i64) (.pair .bool .bool))))))) (.int .i64)))),false⟩),
(29,⟨.struct [(0,2),(2,2),(4,1),(5,1)],6,128,[.slice,.slice,.slice,.slice,.slice,.int .i64],some (.pair (.pair (.row 9 .str) (.row 3 (.int .i64))) (.pair (.pair (.row 9 .str) (.row 3 (.int .i64))) (.pair (.row 71 (.pair .bool (.pair (.row 116 (.pair (.int .i64) (.pair (.int .i64) (.pair .bool .bool)))) (.row 80 (.pair (.int .i64) (.pair (.int .i64) (.pair .bool .bool))))))) (.int .i64)))),false⟩),
(39,⟨.slice 165,1,24,[.slice],some (.row 165 (.pair .bool (.pair (.row 205 (.pair (.int .i64) (.pair (.int .i64) (.pair .bool .bool)))) (.pair (.row 3 (.int .i64)) (.row 9 .str))))),false⟩),
(40,⟨.struct [(0,1)],1,24,[.slice],some (.row 165 (.pair .bool (.pair (.row 205 (.pair (.int .i64) (.pair (.int .i64) (.pair .bool .bool)))) (.pair (.row 3 (.int .i64)) (.row 9 .str))))),false⟩),
(41,⟨.struct [(0,1)],1,24,[.slice],some (.row 165 (.pair .bool (.pair (.row 205 (.pair (.int .i64) (.pair (.int .i64) (.pair .bool .bool)))) (.pair (.row 3 (.int .i64)) (.row 9 .str))))),false⟩),
(43,⟨.slice 75,1,24,[.slice],some (.row 75 (.pair .bool (.pair (.row 116 (.pair (.int .i64) (.pair (.int .i64) (.pair .bool .bool)))) (.pair (.row 3 (.int .i64)) (.row 9 .str))))),false⟩),
(44,⟨.struct [(0,1)],1,24,[.slice],some (.row 75 (.pair .bool (.pair (.row 116 (.pair (.int .i64) (.pair (.int .i64) (.pair .bool .bool)))) (.pair (.row 3 (.int .i64)) (.row 9 .str))))),false⟩),
(45,⟨.struct [(0,1)],1,24,[.slice],some (.row 75 (.pair .bool (.pair (.row 116 (.pair (.int .i64) (.pair (.int .i64) (.pair .bool .bool)))) (.pair (.row 3 (.int .i64)) (.row 9 .str))))),false⟩),
(55,⟨.struct [(0,1),(1,1)],2,48,[.slice,.slice],some (.pair (.row 9 .str) (.row 3 (.int .i64))),false⟩),
(56,⟨.slice 174,1,24,[.slice],some (.row 174 (.pair .bool (.pair (.row 205 (.pair (.int .i64) (.pair (.int .i64) (.pair .bool .bool)))) (.row 208 (.pair (.int .i64) (.pair (.int .i64) (.pair .bool .bool))))))),false⟩),
(57,⟨.struct [(0,2),(2,2),(4,1),(5,1)],6,128,[.slice,.slice,.slice,.slice,.slice,.int .i64],some (.pair (.pair (.row 9 .str) (.row 3 (.int .i64))) (.pair (.pair (.row 9 .str) (.row 3 (.int .i64))) (.pair (.row 174 (.pair .bool (.pair (.row 205 (.pair (.int .i64) (.pair (.int .i64) (.pair .bool .bool)))) (.row 208 (.pair (.int .i64) (.pair (.int .i64) (.pair .bool .bool))))))) (.int .i64)))),false⟩),
(58,⟨.struct [(0,2),(2,2),(4,1),(5,1)],6,128,[.slice,.slice,.slice,.slice,.slice,.int .i64],some (.pair (.pair (.row 9 .str) (.row 3 (.int .i64))) (.pair (.pair (.row 9 .str) (.row 3 (.int .i64))) (.pair (.row 174 (.pair .bool (.pair (.row 205 (.pair (.int .i64) (.pair (.int .i64) (.pair .bool .bool)))) (.row 208 (.pair (.int .i64) (.pair (.int .i64) (.pair .bool .bool))))))) (.int .i64)))),false⟩),
(68,⟨.slice 116,1,24,[.slice],some (.row 116 (.pair (.int .i64) (.pair (.int .i64) (.pair .bool .bool)))),false⟩),
(69,⟨.slice 80,1,24,[.slice],some (.row 80 (.pair (.int .i64) (.pair (.int .i64) (.pair .bool .bool)))),false⟩),
(70,⟨.struct [(0,1),(1,1),(2,1)],3,56,[.bool,.slice,.slice],some (.pair .bool (.pair (.row 116 (.pair (.int .i64) (.pair (.int .i64) (.pair .bool .bool)))) (.row 80 (.pair (.int .i64) (.pair (.int .i64) (.pair .bool .bool)))))),false⟩),
(71,⟨.struct [(0,1),(1,1),(2,1)],3,56,[.bool,.slice,.slice],some (.pair .bool (.pair (.row 116 (.pair (.int .i64) (.pair (.int .i64) (.pair .bool .bool)))) (.row 80 (.pair (.int .i64) (.pair (.int .i64) (.pair .bool .bool)))))),false⟩),
(74,⟨.struct [(0,1),(1,1),(2,1),(3,1)],4,80,[.bool,.slice,.slice,.slice],some (.pair .bool (.pair (.row 116 (.pair (.int .i64) (.pair (.int .i64) (.pair .bool .bool)))) (.pair (.row 3 (.int .i64)) (.row 9 .str)))),false⟩),
(75,⟨.struct [(0,1),(1,1),(2,1),(3,1)],4,80,[.bool,.slice,.slice,.slice],some (.pair .bool (.pair (.row 116 (.pair (.int .i64) (.pair (.int .i64) (.pair .bool .bool)))) (.pair (.row 3 (.int .i64)) (.row 9 .str)))),false⟩),
(79,⟨.struct [(0,1),(1,1),(2,1),(3,1)],4,24,[.int .i64,.int .i64,.bool,.bool],some (.pair (.int .i64) (.pair (.int .i64) (.pair .bool .bool))),true⟩),
(80,⟨.struct [(0,1),(1,1),(2,1),(3,1)],4,24,[.int .i64,.int .i64,.bool,.bool],some (.pair (.int .i64) (.pair (.int .i64) (.pair .bool .bool))),true⟩),
(86,⟨.ptr,1,8,[.ptr],none,false⟩),
(96,⟨.ptr,1,8,[.ptr],none,false⟩),
(105,⟨.map 107 108,1,8,[.map],none,false⟩),
(107,⟨.arr 2 3,2,16,[.int .i64,.int .i64],none,false⟩),
(108,⟨.slice 110,1,24,[.slice],some (.row 110 (.pair .bool .bool)),false⟩),
(109,⟨.struct [(0,1),(1,1)],2,2,[.bool,.bool],some (.pair .bool .bool),true⟩),
(110,⟨.struct [(0,1),(1,1)],2,2,[.bool,.bool],some (.pair .bool .bool),true⟩),
(111,⟨.map 3 26,1,8,[.map],none,false⟩),
(115,⟨.struct [(0,1),(1,1),(2,1),(3,1)],4,24,[.int .i64,.int .i64,.bool,.bool],some (.pair (.int .i64) (.pair (.int .i64) (.pair .bool .bool))),true⟩),
(116,⟨.struct [(0,1),(1,1),(2,1),(3,1)],4,24,[.int .i64,.int .i64,.bool,.bool],some (.pair (.int .i64) (.pair (.int .i64) (.pair .bool .bool))),true⟩),
(120,⟨.ptr,1,8,[.ptr],none,false⟩),
(127,⟨.struct [(0,1),(1,1)],2,16,[.int .i64,.int .i64],some (.pair (.int .i64) (.int .i64)),true⟩),
(128,⟨.struct [(0,1),(1,1)],2,16,[.int .i64,.int .i64],some (.pair (.int .i64) (.int .i64)),true⟩),
(146,⟨.struct [(0,1),(1,1)],2,32,[.slice,.int .i64],some (.pair (.row 5 (.int .u8)) (.int .i64)),false⟩),
(147,⟨.struct [(0,1),(1,1)],2,32,[.slice,.int .i64],some (.pair (.row 5 (.int .u8)) (.int .i64)),false⟩),
(154,⟨.ptr,1,8,[.ptr],none,false⟩),
(163,⟨.slice 205,1,24,[.slice],some (.row 205 (.pair (.int .i64) (.pair (.int .i64) (.pair .bool .bool)))),false⟩),
(164,⟨.struct [(0,1),(1,1),(2,1),(3,1)],4,80,[.bool,.slice,.slice,.slice],some (.pair .bool (.pair (.row 205 (.pair (.int .i64) (.pair (.int .i64) (.pair .bool .bool)))) (.pair (.row 3 (.int .i64)) (.row 9 .str)))),false⟩),
(165,⟨.struct [(0,1),(1,1),(2,1),(3,1)],4,80,[.bool,.slice,.slice,.slice],some (.pair .bool (.pair (.row 205 (.pair (.int .i64) (.pair (.int .i64) (.pair .bool .bool)))) (.pair (.row 3 (.int .i64)) (.row 9 .str)))),false⟩),
(172,⟨.slice 208,1,24,[.slice],some (.row 208 (.pair (.int .i64) (.pair (.int .i64) (.pair .bool .bool)))),false⟩),
(173,⟨.struct [(0,1),(1,1),(2,1)],3,56,[.bool,.slice,.slice],some (.pair .bool (.pair (.row 205 (.pair (.int .i64) (.pair (.int .i64) (.pair .bool .bool)))) (.row 208 (.pair (.int .i64) (.pair (.int .i64) (.pair .bool .bool)))))),false⟩),
(174,⟨.struct [(0,1),(1,1),(2,1)],3,56,[.bool,.slice,.slice],some (.pair .bool (.pair (.row 205 (.pair (.int .i64) (.pair (.int .i64) (.pair .bool .bool)))) (.row 208 (.pair (.int .i64) (.pair (.int .i64) (.pair .bool .bool)))))),false⟩),
(186,⟨.ptr,1,8,[.ptr],none,false⟩),
(205,⟨.struct [(0,1),(1,1),(2,1),(3,1)],4,24,[.int .i64,.int .i64,.bool,.bool],some (.pair (.int .i64) (.pair (.int .i64) (.pair .bool .bool))),true⟩),
(208,⟨.struct [(0,1),(1,1),(2,1),(3,1)],4,24,[.int .i64,.int .i64,.bool,.bool],some (.pair (.int .i64) (.pair (.int .i64) (.pair .bool .bool))),true⟩),
(211,⟨.struct [(0,1),(1,1),(2,1),(3,1)],4,40,[.ptr,.ptr,.ptr,.str],none,false⟩),
(212,⟨.struct [(0,1),(1,1),(2,1),(3,1)],4,40,[.ptr,.ptr,.ptr,.str],none,false⟩),
(214,⟨.struct [(0,0)],0,0,[],none,false⟩),
(215,⟨.struct [(0,0)],0,0,[],none,false⟩),
(216,⟨.int .u32,1,4,[.int .u32],some (.int .u32),false⟩),
(217,⟨.int .u8,1,1,[.int .u8],some (.int .u8),false⟩),
(218,⟨.int .u8,1,1,[.int .u8],some (.int .u8),false⟩),
(220,⟨.ptr,1,8,[.ptr],none,false⟩),
(221,⟨.int .i32,1,4,[.int .i32],some (.int .i32),false⟩),
(222,⟨.int .i32,1,4,[.int .i32],some (.int .i32),false⟩),
(225,⟨.other,1,8,[.ptr],none,false⟩)]
def TT:TB:=tbOf tbl
theorem zax:TBok Try.prog TT:=tbOk (by decide +kernel)
abbrev i64:Ty:=.int .i64
abbrev tAr:Ty:=.pair i64 (.pair i64 (.pair .bool .bool))
abbrev tRd:Ty:=.pair (.row 5 (.int .u8)) i64
abbrev tSl:Ty:=.pair i64 (.pair i64 (.pair .bool .bool))
abbrev tPg:Ty:=.pair (.row 9 .str) (.row 3 i64)
abbrev tSp(a s:TypeId):Ty:=.pair .bool (.pair (.row a tAr) (.row s tSl))
abbrev tMem:Ty:=.pair tPg (.pair tPg (.pair (.row 71 (tSp 116 80)) i64))
theorem zaw:Try.prog.follows .mixedOrders=true:=by kernel_rfl
abbrev Hp(f:FuncId)(s:Sm):Prop:=ziw Try.prog f s
theorem hOf{P:Program}{f:FuncId}{ps:List PK}{rs:List RK}{b:Bool}{F q:Nat→zan ps→Option (zak rs×zaj ps)}(h:ziw P f ⟨ps,rs,b,F⟩)(e:∀ n x,F n x=q n x):ziw P f ⟨ps,rs,b,q⟩:=by
 have:F=q:=funext fun n=>funext (e n);subst this;exact h
def Gk (f:FuncId) (s:Sm):Prop:=(∃ fn c,Try.prog.funcs[f % 1000000]?=some fn ∧ fn.body=some c ∧ (fn.name == "runtime.NumGoroutine")=false) ∧ zep Try.prog f s
theorem gj {f:FuncId} {s t:Sm} (h:some s=some t) (y:Gk f s):(∃ fn c,Try.prog.funcs[f % 1000000]?=some fn ∧ fn.body=some c ∧ (fn.name == "runtime.NumGoroutine")=false) ∧ zep Try.prog f t:=by
 injection h with h;subst h;exact y
end Go.Proofs.Ytdkaagpkeomhmaa.Rx.S
namespace Go.Proofs.Ytdkaagpkeomhmaa.Rx.S
open Go Go.RowKit Go.Proofs
set_option maxRecDepth 100000
noncomputable def c69:Code:=(Try.f69.body.getD .skip)
def an69:An:=⟨fun _=>⟨[],[]⟩,fun _ _=>none⟩
abbrev ps69:List PK:=[.val i64 false,.val i64 false,.val i64 false]
abbrev rs69:List RK:=[.val .bool false]
abbrev R69:=zak rs69×zaj ps69
noncomputable def G69:Gam:=fun _=>none
noncomputable def zjb(n:Nat)(a b c:Int):Option R69 :=
 cond (decide (b≤a)) (some ((decide (a≤c),()),())) (some ((false,()),()))
theorem ykv(n:Nat)(a b c:Int):runF TT G69 an69 Try.f69 c69 ps69 rs69 n (a,b,c,())=zjb n a b c:=by kernel_rfl
noncomputable def p69(n:Nat)(a b c:Int):Option R69:=zjb n a b c
noncomputable def q69(n:Nat)(x:zan ps69):Option R69:=p69 n x.1 x.2.1 x.2.2.1
noncomputable def Sm69:Sm:=⟨ps69,rs69,false,q69⟩
theorem gam69:GamOK Try.prog G69:=fun _ _ h=>by cases h
theorem hh69:Hp 69 Sm69:=hOf (zaf (an:=an69) (c:=c69) zax gam69 zaw Try.func69 (by kernel_rfl) rfl (by decide +kernel)) fun n x=>(ykv n x.1 x.2.1 x.2.2.1).trans rfl
theorem y69:Gk 69 Sm69:=⟨⟨Try.f69,c69,Try.func69,by kernel_rfl,by decide +kernel⟩,hh69⟩
noncomputable def c117:Code:=(Try.f117.body.getD .skip)
def ym3:An:=⟨fun r=>match r with|4=>⟨[1,3],[]⟩|_=>⟨[],[]⟩,fun _ _=>none⟩
abbrev ydj:List PK:=[.val tPg true]
abbrev yjh:List RK:=[.val .bool false]
abbrev R117:=zak yjh×zaj ydj
noncomputable def G117:Gam:=fun f=>match f with|69=>some Sm69|_=>none
noncomputable def yaw:Nat→Pt→List Nat→St→Option R117:=atF TT G117 ym3 Try.f117 c117 _ _
def zhe(x0:Int)(x1:Lb)(x2:Li):St:=(St.mk ([Uu,AV.one (SV.bptr 1000000 0),Uu,Ai x0]++Ur 45) [(1000000,(Ent.box [SV.con (⟨9,Ty.str,x1⟩:Rw),SV.con (⟨3,Ty.int .i64,x2⟩:Rw)]))])
noncomputable def zbb(n:Nat)(lL4:Int→Lb→Li→Option R117)(a:Lb×Li):Option R117 :=
 cond (!decide ((↑(List.length a.1):Int)=(↑(List.length a.2):Int))) (some ((false,()),())) ((q69 n ((↑(List.length a.1):Int),(1:Int),(12:Int),())).bind fun r0=>cond (!r0.1.1) (some ((false,()),())) (lL4 (0:Int) a.1 a.2))
noncomputable def zbr(n:Nat)(lL4:Int→Lb→Li→Option R117)(x0:Int)(x1:Lb)(x2:Li):Option R117 :=
 cond (decide (x0<(↑x1.length:Int))) (cond (decide (0≤x0)) (cond (decide (x0<(↑x2.length:Int))) (cond (decide (x2.getD x0.toNat (0:Int)=(0:Int))) (cond (decide (0≤x0)) (cond (decide (x0<(↑x2.length:Int))) ((q69 n (x2.getD x0.toNat (0:Int),(0:Int),(99:Int),())).bind fun r2=>cond (!r2.1.1) (some ((false,()),())) (cond (decide (0≤x0)) (cond (decide (x0<(↑x1.length:Int))) (cond (!decide ((↑(ByteArray.size (x1.getD x0.toNat ByteArray.empty)):Int)=(0:Int))) (some ((false,()),())) (lL4 (IntKind.i64.wrap (x0+1)) x1 x2)) none) none)) none) none) (cond (decide (0≤x0)) (cond (decide (x0<(↑x2.length:Int))) ((q69 n (x2.getD x0.toNat (0:Int),(0:Int),(99:Int),())).bind fun r3=>cond (!r3.1.1) (some ((false,()),())) (cond (decide (0≤x0)) (cond (decide (x0<(↑x1.length:Int))) (cond (!decide ((↑(ByteArray.size (x1.getD x0.toNat ByteArray.empty)):Int)=(4:Int))) (some ((false,()),())) (lL4 (IntKind.i64.wrap (x0+1)) x1 x2)) none) none)) none) none)) none) none) (some ((true,()),()))
theorem yf0(n:Nat)(a:Lb×Li):runF TT G117 ym3 Try.f117 c117 ydj yjh n (a,())=zbb n (fun x0 x1 x2=>yaw n (.head 4) [n] (zhe x0 x1 x2)) a:=by kernel_rfl
theorem zz_(n:Nat)(x0:Int)(x1:Lb)(x2:Li):yaw n (.head 4) [0] (zhe x0 x1 x2)=none:=by kernel_rfl
theorem ymb(n m4:Nat)(x0:Int)(x1:Lb)(x2:Li):yaw n (.head 4) [m4+1] (zhe x0 x1 x2)=zbr n (fun x0 x1 x2=>yaw n (.head 4) [m4] (zhe x0 x1 x2)) x0 x1 x2:=by kernel_rfl
noncomputable def zb4(n:Nat):Nat→Int→Lb→Li→Option R117
 |0,_,_,_=>none
 |m+1,x0,x1,x2=>zbr n (zb4 n m) x0 x1 x2
noncomputable def p117(n:Nat)(a:Lb×Li):Option R117:=zbb n (zb4 n n) a
theorem yii(n:Nat):∀ (m4:Nat) (x0:Int) (x1:Lb) (x2:Li),yaw n (.head 4) [m4] (zhe x0 x1 x2)=zb4 n m4 x0 x1 x2:=by
 intro m
 induction m with
 |zero=>intros;rw[zz_];rfl
 |succ m ih =>
  intros;rw[ymb]
  try simp only[ih]
  rfl
noncomputable def q117(n:Nat)(x:zan ydj):Option R117:=p117 n x.1
noncomputable def ynp:Sm:=⟨ydj,yjh,false,q117⟩
theorem yqi:GamOK Try.prog G117:=by intro f s h;unfold G117 at h;split at h;exact gj h y69;cases h
theorem hh117:Hp 117 ynp:=hOf (zaf (an:=ym3) (c:=c117) zax yqi zaw Try.func117 (by kernel_rfl) rfl (by decide +kernel)) fun n x=>(yf0 n x.1).trans (by simp only[yii];try rfl)
theorem y117:Gk 117 ynp:=⟨⟨Try.f117,c117,Try.func117,by kernel_rfl,by decide +kernel⟩,hh117⟩
noncomputable def c71:Code:=(Try.f71.body.getD .skip)
def an71:An:=⟨fun r=>match r with|2=>⟨[0,1,5],[]⟩|_=>⟨[],[]⟩,fun _ _=>none⟩
abbrev ps71:List PK:=[.val (.row 116 tAr) false,.val i64 false]
abbrev rs71:List RK:=[.val i64 false]
abbrev R71:=zak rs71×zaj ps71
noncomputable def G71:Gam:=fun f=>match f with|69=>some Sm69|_=>none
noncomputable def at71:Nat→Pt→List Nat→St→Option R71:=atF TT G71 an71 Try.f71 c71 _ _
def zkp(x0:Lq)(x1 x2:Int):St:=(St.mk ([AV.one (SV.con (⟨116,yAq,x0⟩:Rw)),Ai x1,Uu,Uu,Uu,Ai x2]++Ur 26) [])
noncomputable def zuc(n:Nat)(lL2:Lq→Int→Int→Option R71)(a:Lq)(b:Int):Option R71 :=
 lL2 a b (0:Int)
noncomputable def zhz(n:Nat)(lL2:Lq→Int→Int→Option R71)(x0:Lq)(x1 x2:Int):Option R71 :=
 cond (decide (x2<(↑x0.length:Int))) (cond (decide (0≤x2)) (cond (decide (x2<(↑x0.length:Int))) (cond (decide (0≤x2)) (cond (decide (x2<(↑x0.length:Int))) (cond (decide (0≤x2)) (cond (decide (x2<(↑x0.length:Int))) ((q69 n (x1,(x0.getD x2.toNat ((0:Int),(0:Int),false,false)).1,IntKind.i64.wrap (IntKind.i64.wrap ((x0.getD x2.toNat ((0:Int),(0:Int),false,false)).1+(x0.getD x2.toNat ((0:Int),(0:Int),false,false)).2.1) - (1:Int)),())).bind fun r1=>cond r1.1.1 (some ((x2,()),())) (lL2 x0 x1 (IntKind.i64.wrap (x2+1)))) none) none) none) none) none) none) (some (((-1:Int),()),()))
theorem yku(n:Nat)(a:Lq)(b:Int):runF TT G71 an71 Try.f71 c71 ps71 rs71 n (a,b,())=zuc n (fun x0 x1 x2=>at71 n (.head 2) [n] (zkp x0 x1 x2)) a b:=by kernel_rfl
theorem yeo(n:Nat)(x0:Lq)(x1 x2:Int):at71 n (.head 2) [0] (zkp x0 x1 x2)=none:=by kernel_rfl
theorem yqv(n m2:Nat)(x0:Lq)(x1 x2:Int):at71 n (.head 2) [m2+1] (zkp x0 x1 x2)=zhz n (fun x0 x1 x2=>at71 n (.head 2) [m2] (zkp x0 x1 x2)) x0 x1 x2:=by kernel_rfl
noncomputable def zuy(n:Nat):Nat→Lq→Int→Int→Option R71
 |0,_,_,_=>none
 |m+1,x0,x1,x2=>zhz n (zuy n m) x0 x1 x2
noncomputable def p71(n:Nat)(a:Lq)(b:Int):Option R71:=zuc n (zuy n n) a b
theorem yn4(n:Nat):∀ (m2:Nat) (x0:Lq) (x1 x2:Int),at71 n (.head 2) [m2] (zkp x0 x1 x2)=zuy n m2 x0 x1 x2:=by
 intro m
 induction m with
 |zero=>intros;rw[yeo];rfl
 |succ m ih =>
  intros;rw[yqv]
  try simp only[ih]
  rfl
noncomputable def q71(n:Nat)(x:zan ps71):Option R71:=p71 n x.1 x.2.1
noncomputable def Sm71:Sm:=⟨ps71,rs71,false,q71⟩
theorem gam71:GamOK Try.prog G71:=by intro f s h;unfold G71 at h;split at h;exact gj h y69;cases h
theorem hh71:Hp 71 Sm71:=hOf (zaf (an:=an71) (c:=c71) zax gam71 zaw Try.func71 (by kernel_rfl) rfl (by decide +kernel)) fun n x=>(yku n x.1 x.2.1).trans (by simp only[yn4];try rfl)
theorem y71:Gk 71 Sm71:=⟨⟨Try.f71,c71,Try.func71,by kernel_rfl,by decide +kernel⟩,hh71⟩
noncomputable def c158:Code:=(Try.f158.body.getD .skip)
def yrm:An:=⟨fun _=>⟨[],[]⟩,fun _ _=>none⟩
abbrev yc3:List PK:=[.val tAr true]
abbrev yi1:List RK:=[.val .bool false]
abbrev R158:=zak yi1×zaj yc3
noncomputable def G158:Gam:=fun f=>match f with|69=>some Sm69|_=>none
noncomputable def zdi(n:Nat)(a:Aq):Option R158 :=
 (q69 n (a.1,(0:Int),(15:Int),())).bind fun r0=>cond r0.1.1 ((q69 n (a.2.1,(1:Int),IntKind.i64.wrap ((16:Int) - a.1),())).bind fun r1=>some ((r1.1.1,()),())) (some ((false,()),()))
theorem yfh(n:Nat)(a:Aq):runF TT G158 yrm Try.f158 c158 yc3 yi1 n (a,())=zdi n a:=by kernel_rfl
noncomputable def p158(n:Nat)(a:Aq):Option R158:=zdi n a
noncomputable def q158(n:Nat)(x:zan yc3):Option R158:=p158 n x.1
noncomputable def ybg:Sm:=⟨yc3,yi1,false,q158⟩
theorem yp2:GamOK Try.prog G158:=by intro f s h;unfold G158 at h;split at h;exact gj h y69;cases h
theorem hh158:Hp 158 ybg:=hOf (zaf (an:=yrm) (c:=c158) zax yp2 zaw Try.func158 (by kernel_rfl) rfl (by decide +kernel)) fun n x=>(yfh n x.1).trans rfl
theorem y158:Gk 158 ybg:=⟨⟨Try.f158,c158,Try.func158,by kernel_rfl,by decide +kernel⟩,hh158⟩
noncomputable def c127:Code:=(Try.f127.body.getD .skip)
def ymy:An:=⟨fun r=>match r with|2=>⟨[0,3],[]⟩|_=>⟨[],[]⟩,fun _ _=>none⟩
abbrev yda:List PK:=[.val (.row 116 tAr) false]
abbrev yi9:List RK:=[.val .bool false]
abbrev R127:=zak yi9×zaj yda
noncomputable def G127:Gam:=fun f=>match f with|158=>some ybg|_=>none
noncomputable def yat:Nat→Pt→List Nat→St→Option R127:=atF TT G127 ymy Try.f127 c127 _ _
def zg_(x0:Lq)(x1:Int):St:=(St.mk ([AV.one (SV.con (⟨116,yAq,x0⟩:Rw)),Uu,Uu,Ai x1]++Ur 40) [])
noncomputable def zqk(n:Nat)(lL2:Lq→Int→Option R127)(a:Lq):Option R127 :=
 lL2 a (0:Int)
noncomputable def za5(n:Nat)(lL2:Lq→Int→Option R127)(x0:Lq)(x1:Int):Option R127 :=
 cond (decide (x1<(↑x0.length:Int))) (cond (decide (0≤x1)) (cond (decide (x1<(↑x0.length:Int))) ((q158 n (((x0.getD x1.toNat ((0:Int),(0:Int),false,false)).1,(x0.getD x1.toNat ((0:Int),(0:Int),false,false)).2.1,(x0.getD x1.toNat ((0:Int),(0:Int),false,false)).2.2.1,(x0.getD x1.toNat ((0:Int),(0:Int),false,false)).2.2.2),())).bind fun r1=>cond (!r1.1.1) (some ((false,()),())) (cond (decide (0<x1)) (cond (decide ((0:Int)≤IntKind.i64.wrap (x1 - 1))) (cond (decide (IntKind.i64.wrap (x1 - 1)<(↑x0.length:Int))) (cond (decide ((0:Int)≤IntKind.i64.wrap (x1 - 1))) (cond (decide (IntKind.i64.wrap (x1 - 1)<(↑x0.length:Int))) (cond (decide (0≤x1)) (cond (decide (x1<(↑x0.length:Int))) (cond (decide ((x0.getD x1.toNat ((0:Int),(0:Int),false,false)).1<IntKind.i64.wrap ((x0.getD (IntKind.i64.wrap (x1 - 1)).toNat ((0:Int),(0:Int),false,false)).1+(x0.getD (IntKind.i64.wrap (x1 - 1)).toNat ((0:Int),(0:Int),false,false)).2.1))) (some ((false,()),())) (lL2 x0 (IntKind.i64.wrap (x1+1)))) none) none) none) none) none) none) (lL2 x0 (IntKind.i64.wrap (x1+1))))) none) none) (some ((decide ((↑x0.length:Int)≤(6:Int)),()),()))
theorem yfr(n:Nat)(a:Lq):runF TT G127 ymy Try.f127 c127 yda yi9 n (a,())=zqk n (fun x0 x1=>yat n (.head 2) [n] (zg_ x0 x1)) a:=by kernel_rfl
theorem zz3(n:Nat)(x0:Lq)(x1:Int):yat n (.head 2) [0] (zg_ x0 x1)=none:=by kernel_rfl
theorem yl5(n m2:Nat)(x0:Lq)(x1:Int):yat n (.head 2) [m2+1] (zg_ x0 x1)=za5 n (fun x0 x1=>yat n (.head 2) [m2] (zg_ x0 x1)) x0 x1:=by kernel_rfl
noncomputable def zc0(n:Nat):Nat→Lq→Int→Option R127
 |0,_,_=>none
 |m+1,x0,x1=>za5 n (zc0 n m) x0 x1
noncomputable def p127(n:Nat)(a:Lq):Option R127:=zqk n (zc0 n n) a
theorem yib(n:Nat):∀ (m2:Nat) (x0:Lq) (x1:Int),yat n (.head 2) [m2] (zg_ x0 x1)=zc0 n m2 x0 x1:=by
 intro m
 induction m with
 |zero=>intros;rw[zz3];rfl
 |succ m ih =>
  intros;rw[yl5]
  try simp only[ih]
  rfl
noncomputable def q127(n:Nat)(x:zan yda):Option R127:=p127 n x.1
noncomputable def ybi:Sm:=⟨yda,yi9,false,q127⟩
theorem yp_:GamOK Try.prog G127:=by intro f s h;unfold G127 at h;split at h;exact gj h y158;cases h
theorem hh127:Hp 127 ybi:=hOf (zaf (an:=ymy) (c:=c127) zax yp_ zaw Try.func127 (by kernel_rfl) rfl (by decide +kernel)) fun n x=>(yfr n x.1).trans (by simp only[yib];try rfl)
theorem y127:Gk 127 ybi:=⟨⟨Try.f127,c127,Try.func127,by kernel_rfl,by decide +kernel⟩,hh127⟩
noncomputable def c118:Code:=(Try.f118.body.getD .skip)
def ym2:An:=⟨fun r=>match r with|6=>⟨[1,3],[]⟩|_=>⟨[],[]⟩,fun _ _=>none⟩
abbrev ydi:List PK:=[.val (tSp 116 80) true]
abbrev yjg:List RK:=[.val .bool false]
abbrev R118:=zak yjg×zaj ydi
noncomputable def G118:Gam:=fun f=>match f with|69=>some Sm69|71=>some Sm71|127=>some ybi|_=>none
noncomputable def yav:Nat→Pt→List Nat→St→Option R118:=atF TT G118 ym2 Try.f118 c118 _ _
def zhd(x0:Int)(x1:Bool)(x2 x3:Lq):St:=(St.mk ([Uu,AV.one (SV.bptr 1000000 0),Uu,Ai x0]++Ur 66) [(1000000,(Ent.box [SV.bool x1,SV.con (⟨116,yAq,x2⟩:Rw),SV.con (⟨80,yAq,x3⟩:Rw)]))])
noncomputable def zdl(n:Nat)(lL6:Int→Bool→Lq→Lq→Option R118)(a:Br):Option R118 :=
 cond (!a.1) (cond (decide ((↑(List.length a.2.1):Int)=(0:Int))) (some ((decide ((↑(List.length a.2.2):Int)=(0:Int)),()),())) (some ((false,()),()))) ((q127 n (a.2.1,())).bind fun r0=>cond (!r0.1.1) (some ((false,()),())) (cond (!decide ((↑(List.length a.2.2):Int)=(16:Int))) (some ((false,()),())) (lL6 (0:Int) a.1 a.2.1 a.2.2)))
noncomputable def zcd(n:Nat)(lL6:Int→Bool→Lq→Lq→Option R118)(x0:Int)(x1:Bool)(x2 x3:Lq):Option R118 :=
 cond (decide (x0<16)) (cond (decide (0≤x0)) (cond (decide (x0<(↑x3.length:Int))) ((q71 n (x2,x0,())).bind fun r2=>cond (decide ((x3.getD x0.toNat ((0:Int),(0:Int),false,false)).1=(0:Int))) (cond (!(decide ((x3.getD x0.toNat ((0:Int),(0:Int),false,false)).1=(0:Int))&&(decide ((x3.getD x0.toNat ((0:Int),(0:Int),false,false)).2.1=(0:Int))&&((x3.getD x0.toNat ((0:Int),(0:Int),false,false)).2.2.1 == false&&((x3.getD x0.toNat ((0:Int),(0:Int),false,false)).2.2.2 == false&&true))))) (some ((false,()),())) (lL6 (IntKind.i64.wrap (x0+1)) x1 x2 x3)) (cond (decide (r2.1.1<(0:Int))) (some ((false,()),())) ((q69 n ((x3.getD x0.toNat ((0:Int),(0:Int),false,false)).1,(1:Int),(2:Int),())).bind fun r3=>cond (!r3.1.1) (some ((false,()),())) (cond (decide ((0:Int)≤r2.1.1)) (cond (decide (r2.1.1<(↑x2.length:Int))) (cond ((x2.getD (Int.toNat r2.1.1) ((0:Int),(0:Int),false,false)).2.2.2) (cond (!(x3.getD x0.toNat ((0:Int),(0:Int),false,false)).2.2.1) (some ((false,()),())) (lL6 (IntKind.i64.wrap (x0+1)) x1 x2 x3)) (lL6 (IntKind.i64.wrap (x0+1)) x1 x2 x3)) none) none)))) none) none) (some ((true,()),()))
theorem yfz(n:Nat)(a:Br):runF TT G118 ym2 Try.f118 c118 ydi yjg n (a,())=zdl n (fun x0 x1 x2 x3=>yav n (.head 6) [n] (zhd x0 x1 x2 x3)) a:=by kernel_rfl
theorem zz9(n:Nat)(x0:Int)(x1:Bool)(x2 x3:Lq):yav n (.head 6) [0] (zhd x0 x1 x2 x3)=none:=by kernel_rfl
theorem yma(n m6:Nat)(x0:Int)(x1:Bool)(x2 x3:Lq):yav n (.head 6) [m6+1] (zhd x0 x1 x2 x3)=zcd n (fun x0 x1 x2 x3=>yav n (.head 6) [m6] (zhd x0 x1 x2 x3)) x0 x1 x2 x3:=by kernel_rfl
noncomputable def zf_(n:Nat):Nat→Int→Bool→Lq→Lq→Option R118
 |0,_,_,_,_=>none
 |m+1,x0,x1,x2,x3=>zcd n (zf_ n m) x0 x1 x2 x3
noncomputable def p118(n:Nat)(a:Br):Option R118:=zdl n (zf_ n n) a
theorem yih(n:Nat):∀ (m6:Nat) (x0:Int) (x1:Bool) (x2 x3:Lq),yav n (.head 6) [m6] (zhd x0 x1 x2 x3)=zf_ n m6 x0 x1 x2 x3:=by
 intro m
 induction m with
 |zero=>intros;rw[zz9];rfl
 |succ m ih =>
  intros;rw[yma]
  try simp only[ih]
  rfl
noncomputable def q118(n:Nat)(x:zan ydi):Option R118:=p118 n x.1
noncomputable def yno:Sm:=⟨ydi,yjg,false,q118⟩
theorem yqh:GamOK Try.prog G118:=by intro f s h;unfold G118 at h;split at h;exact gj h y69;exact gj h y71;exact gj h y127;cases h
theorem hh118:Hp 118 yno:=hOf (zaf (an:=ym2) (c:=c118) zax yqh zaw Try.func118 (by kernel_rfl) rfl (by decide +kernel)) fun n x=>(yfz n x.1).trans (by simp only[yih];try rfl)
theorem y118:Gk 118 yno:=⟨⟨Try.f118,c118,Try.func118,by kernel_rfl,by decide +kernel⟩,hh118⟩
noncomputable def c119:Code:=(Try.f119.body.getD .skip)
def ym1:An:=⟨fun r=>match r with|3=>⟨[1,2,3,7,8],[]⟩|6=>⟨[1,2,3,7,8,9],[]⟩|_=>⟨[],[]⟩,fun _ _=>none⟩
abbrev ydh:List PK:=[.val tMem true,.val i64 false,.val i64 false]
abbrev yjf:List RK:=[.val i64 false]
abbrev R119:=zak yjf×zaj ydh
noncomputable def G119:Gam:=fun _=>none
noncomputable def zmw:Nat→Pt→List Nat→St→Option R119:=atF TT G119 ym1 Try.f119 c119 _ _
def zhc(x0 x1 x2 x3 x4:Int)(x5:Lb)(x6:Li)(x7:Lb)(x8:Li)(x9:List (Br))(x10:Int):St:=(St.mk ([Uu,Ai x0,Ai x1,AV.one (SV.bptr 1000000 0),Uu,Uu,Uu,Ai x2,Ai x3,Ai x4]++Ur 41) [(1000000,(Ent.box [SV.con (⟨9,Ty.str,x5⟩:Rw),SV.con (⟨3,Ty.int .i64,x6⟩:Rw),SV.con (⟨9,Ty.str,x7⟩:Rw),SV.con (⟨3,Ty.int .i64,x8⟩:Rw),SV.con (⟨71,ySp,x9⟩:Rw),Si x10]))])
def zfg(x0 x1 x2 x3:Int)(x4:Lb)(x5:Li)(x6:Lb)(x7:Li)(x8:List (Br))(x9:Int):St:=(St.mk ([Uu,Ai x0,Ai x1,AV.one (SV.bptr 1000000 0),Uu,Uu,Uu,Ai x2,Ai x3]++Ur 42) [(1000000,(Ent.box [SV.con (⟨9,Ty.str,x4⟩:Rw),SV.con (⟨3,Ty.int .i64,x5⟩:Rw),SV.con (⟨9,Ty.str,x6⟩:Rw),SV.con (⟨3,Ty.int .i64,x7⟩:Rw),SV.con (⟨71,ySp,x8⟩:Rw),Si x9]))])
noncomputable def zqn(n:Nat)(lL3:Int→Int→Int→Int→Lb→Li→Lb→Li→(List (Br))→Int→Option R119)(a:Mm)(b c:Int):Option R119 :=
 lL3 b c (0:Int) (0:Int) a.1.1 a.1.2 a.2.1.1 a.2.1.2 a.2.2.1 a.2.2.2
noncomputable def ze9(n:Nat)(lL6:Int→Int→Int→Int→Int→Lb→Li→Lb→Li→(List (Br))→Int→Option R119)(lL3:Int→Int→Int→Int→Lb→Li→Lb→Li→(List (Br))→Int→Option R119)(x0 x1 x2 x3 x4:Int)(x5:Lb)(x6:Li)(x7:Lb)(x8:Li)(x9:List (Br))(x10:Int):Option R119 :=
 cond (decide (0≤x3)) (cond (decide (x3<(↑x9.length:Int))) (cond (decide (x4<(↑(List.length (x9.getD x3.toNat (false,[],[])).2.2):Int))) (cond (decide (0≤x3)) (cond (decide (x3<(↑x9.length:Int))) (cond (decide (0≤x4)) (cond (decide (x4<(↑(List.length (x9.getD x3.toNat (false,[],[])).2.2):Int))) (cond (decide ((List.getD (x9.getD x3.toNat (false,[],[])).2.2 x4.toNat (0,0,false,false)).1=x0)) (cond (decide ((List.getD (x9.getD x3.toNat (false,[],[])).2.2 x4.toNat (0,0,false,false)).2.1=x1)) (lL6 x0 x1 (IntKind.i64.wrap (x2+1)) x3 (IntKind.i64.wrap (x4+1)) x5 x6 x7 x8 x9 x10) (lL6 x0 x1 x2 x3 (IntKind.i64.wrap (x4+1)) x5 x6 x7 x8 x9 x10)) (lL6 x0 x1 x2 x3 (IntKind.i64.wrap (x4+1)) x5 x6 x7 x8 x9 x10)) none) none) none) none) (lL3 x0 x1 x2 (IntKind.i64.wrap (x3+1)) x5 x6 x7 x8 x9 x10)) none) none
noncomputable def ze_(n:Nat)(lL6:Int→Int→Int→Int→Int→Lb→Li→Lb→Li→(List (Br))→Int→Option R119)(x0 x1 x2 x3:Int)(x4:Lb)(x5:Li)(x6:Lb)(x7:Li)(x8:List (Br))(x9:Int):Option R119 :=
 cond (decide (x3<(↑x8.length:Int))) (lL6 x0 x1 x2 x3 (0:Int) x4 x5 x6 x7 x8 x9) (some ((x2,()),()))
theorem yfy(n:Nat)(a:Mm)(b c:Int):runF TT G119 ym1 Try.f119 c119 ydh yjf n (a,b,c,())=zqn n (fun x0 x1 x2 x3 x4 x5 x6 x7 x8 x9=>zmw n (.head 3) [n] (zfg x0 x1 x2 x3 x4 x5 x6 x7 x8 x9)) a b c:=by kernel_rfl
theorem zz7(n m3:Nat)(x0 x1 x2 x3 x4:Int)(x5:Lb)(x6:Li)(x7:Lb)(x8:Li)(x9:List (Br))(x10:Int):zmw n (.head 6) [m3,0] (zhc x0 x1 x2 x3 x4 x5 x6 x7 x8 x9 x10)=none:=by kernel_rfl
theorem yl9(n m3 m6:Nat)(x0 x1 x2 x3 x4:Int)(x5:Lb)(x6:Li)(x7:Lb)(x8:Li)(x9:List (Br))(x10:Int):zmw n (.head 6) [m3,m6+1] (zhc x0 x1 x2 x3 x4 x5 x6 x7 x8 x9 x10)=ze9 n (fun x0 x1 x2 x3 x4 x5 x6 x7 x8 x9 x10=>zmw n (.head 6) [m3,m6] (zhc x0 x1 x2 x3 x4 x5 x6 x7 x8 x9 x10)) (fun x0 x1 x2 x3 x4 x5 x6 x7 x8 x9=>zmw n (.head 3) [m3] (zfg x0 x1 x2 x3 x4 x5 x6 x7 x8 x9)) x0 x1 x2 x3 x4 x5 x6 x7 x8 x9 x10:=by kernel_rfl
theorem zz8(n:Nat)(x0 x1 x2 x3:Int)(x4:Lb)(x5:Li)(x6:Lb)(x7:Li)(x8:List (Br))(x9:Int):zmw n (.head 3) [0] (zfg x0 x1 x2 x3 x4 x5 x6 x7 x8 x9)=none:=by kernel_rfl
theorem yl_(n m3:Nat)(x0 x1 x2 x3:Int)(x4:Lb)(x5:Li)(x6:Lb)(x7:Li)(x8:List (Br))(x9:Int):zmw n (.head 3) [m3+1] (zfg x0 x1 x2 x3 x4 x5 x6 x7 x8 x9)=ze_ n (fun x0 x1 x2 x3 x4 x5 x6 x7 x8 x9 x10=>zmw n (.head 6) [m3,n] (zhc x0 x1 x2 x3 x4 x5 x6 x7 x8 x9 x10)) x0 x1 x2 x3 x4 x5 x6 x7 x8 x9:=by kernel_rfl
noncomputable def zph(g3:Int→Int→Int→Int→Lb→Li→Lb→Li→(List (Br))→Int→Option R119)(n:Nat):Nat→Int→Int→Int→Int→Int→Lb→Li→Lb→Li→(List (Br))→Int→Option R119
 |0,_,_,_,_,_,_,_,_,_,_,_=>none
 |m+1,x0,x1,x2,x3,x4,x5,x6,x7,x8,x9,x10=>ze9 n (zph g3 n m) g3 x0 x1 x2 x3 x4 x5 x6 x7 x8 x9 x10
noncomputable def zl9(n:Nat):Nat→Int→Int→Int→Int→Lb→Li→Lb→Li→(List (Br))→Int→Option R119
 |0,_,_,_,_,_,_,_,_,_,_=>none
 |m+1,x0,x1,x2,x3,x4,x5,x6,x7,x8,x9=>ze_ n (zph (zl9 n m) n n) x0 x1 x2 x3 x4 x5 x6 x7 x8 x9
noncomputable def p119(n:Nat)(a:Mm)(b c:Int):Option R119:=zqn n (zl9 n n) a b c
theorem yif(n m3:Nat):∀ (m6:Nat) (x0 x1 x2 x3 x4:Int) (x5:Lb) (x6:Li) (x7:Lb) (x8:Li) (x9:List (Br)) (x10:Int),zmw n (.head 6) [m3,m6] (zhc x0 x1 x2 x3 x4 x5 x6 x7 x8 x9 x10)=zph (fun x0 x1 x2 x3 x4 x5 x6 x7 x8 x9=>zmw n (.head 3) [m3] (zfg x0 x1 x2 x3 x4 x5 x6 x7 x8 x9)) n m6 x0 x1 x2 x3 x4 x5 x6 x7 x8 x9 x10:=by
 intro m
 induction m with
 |zero=>intros;rw[zz7];rfl
 |succ m ih =>
  intros;rw[yl9]
  try simp only[ih]
  rfl
theorem yig(n:Nat):∀ (m3:Nat) (x0 x1 x2 x3:Int) (x4:Lb) (x5:Li) (x6:Lb) (x7:Li) (x8:List (Br)) (x9:Int),zmw n (.head 3) [m3] (zfg x0 x1 x2 x3 x4 x5 x6 x7 x8 x9)=zl9 n m3 x0 x1 x2 x3 x4 x5 x6 x7 x8 x9:=by
 intro m
 induction m with
 |zero=>intros;rw[zz8];rfl
 |succ m ih =>
  intros;rw[yl_]
  try simp only[yif,ih]
  rfl
noncomputable def q119(n:Nat)(x:zan ydh):Option R119:=p119 n x.1 x.2.1 x.2.2.1
noncomputable def ynn:Sm:=⟨ydh,yjf,false,q119⟩
theorem yqg:GamOK Try.prog G119:=fun _ _ h=>by cases h
theorem hh119:Hp 119 ynn:=hOf (zaf (an:=ym1) (c:=c119) zax yqg zaw Try.func119 (by kernel_rfl) rfl (by decide +kernel)) fun n x=>(yfy n x.1 x.2.1 x.2.2.1).trans (by simp only[yig];try rfl)
theorem y119:Gk 119 ynn:=⟨⟨Try.f119,c119,Try.func119,by kernel_rfl,by decide +kernel⟩,hh119⟩
noncomputable def c157:Code:=(Try.f157.body.getD .skip)
def yrn:An:=⟨fun _=>⟨[],[]⟩,fun _ _=>none⟩
abbrev yc4:List PK:=[.val (tSp 116 80) true,.val i64 false]
abbrev yi2:List RK:=[.val .bool false]
abbrev R157:=zak yi2×zaj yc4
noncomputable def G157:Gam:=fun f=>match f with|71=>some Sm71|_=>none
noncomputable def zgh(n:Nat)(a:Br)(b:Int):Option R157 :=
 (q71 n (a.2.1,b,())).bind fun r0=>cond (decide ((0:Int)≤r0.1.1)) (cond (decide ((0:Int)≤r0.1.1)) (cond (decide (r0.1.1<(↑(List.length a.2.1):Int))) (some (((List.getD a.2.1 (Int.toNat r0.1.1) (0,0,false,false)).2.2.2,()),())) none) none) (some ((false,()),()))
theorem yfi(n:Nat)(a:Br)(b:Int):runF TT G157 yrn Try.f157 c157 yc4 yi2 n (a,b,())=zgh n a b:=by kernel_rfl
noncomputable def p157(n:Nat)(a:Br)(b:Int):Option R157:=zgh n a b
noncomputable def q157(n:Nat)(x:zan yc4):Option R157:=p157 n x.1 x.2.1
noncomputable def ygq:Sm:=⟨yc4,yi2,false,q157⟩
theorem yp3:GamOK Try.prog G157:=by intro f s h;unfold G157 at h;split at h;exact gj h y71;cases h
theorem hh157:Hp 157 ygq:=hOf (zaf (an:=yrn) (c:=c157) zax yp3 zaw Try.func157 (by kernel_rfl) rfl (by decide +kernel)) fun n x=>(yfi n x.1 x.2.1).trans rfl
theorem y157:Gk 157 ygq:=⟨⟨Try.f157,c157,Try.func157,by kernel_rfl,by decide +kernel⟩,hh157⟩
noncomputable def c120:Code:=(Try.f120.body.getD .skip)
def ym0:An:=⟨fun r=>match r with|5=>⟨[1,2,3,7,8,9,10],[]⟩|8=>⟨[1,2,3,7,8,9,10,11],[]⟩|_=>⟨[],[]⟩,fun _ _=>none⟩
abbrev ydg:List PK:=[.val tMem true,.val i64 false,.val i64 false]
abbrev yje:List RK:=[.val .bool false]
abbrev R120:=zak yje×zaj ydg
noncomputable def G120:Gam:=fun f=>match f with|157=>some ygq|_=>none
noncomputable def zmv:Nat→Pt→List Nat→St→Option R120:=atF TT G120 ym0 Try.f120 c120 _ _
def zhb(x0 x1 x2:Int)(x3 x4:Bool)(x5 x6:Int)(x7:Lb)(x8:Li)(x9:Lb)(x10:Li)(x11:List (Br))(x12:Int):St:=(St.mk ([Uu,Ai x0,Ai x1,AV.one (SV.bptr 1000000 0),Uu,Uu,Uu,Ai x2,AV.one (SV.bool x3),AV.one (SV.bool x4),Ai x5,Ai x6]++Ur 66) [(1000000,(Ent.box [SV.con (⟨9,Ty.str,x7⟩:Rw),SV.con (⟨3,Ty.int .i64,x8⟩:Rw),SV.con (⟨9,Ty.str,x9⟩:Rw),SV.con (⟨3,Ty.int .i64,x10⟩:Rw),SV.con (⟨71,ySp,x11⟩:Rw),Si x12]))])
def zff(x0 x1 x2:Int)(x3 x4:Bool)(x5:Int)(x6:Lb)(x7:Li)(x8:Lb)(x9:Li)(x10:List (Br))(x11:Int):St:=(St.mk ([Uu,Ai x0,Ai x1,AV.one (SV.bptr 1000000 0),Uu,Uu,Uu,Ai x2,AV.one (SV.bool x3),AV.one (SV.bool x4),Ai x5]++Ur 67) [(1000000,(Ent.box [SV.con (⟨9,Ty.str,x6⟩:Rw),SV.con (⟨3,Ty.int .i64,x7⟩:Rw),SV.con (⟨9,Ty.str,x8⟩:Rw),SV.con (⟨3,Ty.int .i64,x9⟩:Rw),SV.con (⟨71,ySp,x10⟩:Rw),Si x11]))])
noncomputable def zqm(n:Nat)(lL5:Int→Int→Int→Bool→Bool→Int→Lb→Li→Lb→Li→(List (Br))→Int→Option R120)(a:Mm)(b c:Int):Option R120 :=
 lL5 b c (0:Int) false false (0:Int) a.1.1 a.1.2 a.2.1.1 a.2.1.2 a.2.2.1 a.2.2.2
noncomputable def zcb(n:Nat)(lL8:Int→Int→Int→Bool→Bool→Int→Int→Lb→Li→Lb→Li→(List (Br))→Int→Option R120)(lL5:Int→Int→Int→Bool→Bool→Int→Lb→Li→Lb→Li→(List (Br))→Int→Option R120)(x0 x1 x2:Int)(x3 x4:Bool)(x5 x6:Int)(x7:Lb)(x8:Li)(x9:Lb)(x10:Li)(x11:List (Br))(x12:Int):Option R120 :=
 cond (decide (0≤x5)) (cond (decide (x5<(↑x11.length:Int))) (cond (decide (x6<(↑(List.length (x11.getD x5.toNat (false,[],[])).2.2):Int))) (cond (decide (0≤x5)) (cond (decide (x5<(↑x11.length:Int))) (cond (decide (0≤x6)) (cond (decide (x6<(↑(List.length (x11.getD x5.toNat (false,[],[])).2.2):Int))) (cond (decide ((List.getD (x11.getD x5.toNat (false,[],[])).2.2 x6.toNat (0,0,false,false)).1=x0)) (cond (decide ((List.getD (x11.getD x5.toNat (false,[],[])).2.2 x6.toNat (0,0,false,false)).2.1=x1)) (cond x3 (cond x4 (lL8 x0 x1 (IntKind.i64.wrap (x2+1)) true true x5 (IntKind.i64.wrap (x6+1)) x7 x8 x9 x10 x11 x12) (cond (decide (0≤x5)) (cond (decide (x5<(↑x11.length:Int))) ((q157 n (((x11.getD x5.toNat (false,[],[])).1,(x11.getD x5.toNat (false,[],[])).2.1,(x11.getD x5.toNat (false,[],[])).2.2),x6,())).bind fun r2=>lL8 x0 x1 (IntKind.i64.wrap (x2+1)) true (!r2.1.1) x5 (IntKind.i64.wrap (x6+1)) x7 x8 x9 x10 x11 x12) none) none)) (cond x4 (lL8 x0 x1 (IntKind.i64.wrap (x2+1)) ((List.getD (x11.getD x5.toNat (false,[],[])).2.2 x6.toNat (0,0,false,false)).2.2.1) true x5 (IntKind.i64.wrap (x6+1)) x7 x8 x9 x10 x11 x12) (cond (decide (0≤x5)) (cond (decide (x5<(↑x11.length:Int))) ((q157 n (((x11.getD x5.toNat (false,[],[])).1,(x11.getD x5.toNat (false,[],[])).2.1,(x11.getD x5.toNat (false,[],[])).2.2),x6,())).bind fun r3=>lL8 x0 x1 (IntKind.i64.wrap (x2+1)) ((List.getD (x11.getD x5.toNat (false,[],[])).2.2 x6.toNat (0,0,false,false)).2.2.1) (!r3.1.1) x5 (IntKind.i64.wrap (x6+1)) x7 x8 x9 x10 x11 x12) none) none))) (lL8 x0 x1 x2 x3 x4 x5 (IntKind.i64.wrap (x6+1)) x7 x8 x9 x10 x11 x12)) (lL8 x0 x1 x2 x3 x4 x5 (IntKind.i64.wrap (x6+1)) x7 x8 x9 x10 x11 x12)) none) none) none) none) (lL5 x0 x1 x2 x3 x4 (IntKind.i64.wrap (x5+1)) x7 x8 x9 x10 x11 x12)) none) none
noncomputable def zcc(n:Nat)(lL8:Int→Int→Int→Bool→Bool→Int→Int→Lb→Li→Lb→Li→(List (Br))→Int→Option R120)(x0 x1 x2:Int)(x3 x4:Bool)(x5:Int)(x6:Lb)(x7:Li)(x8:Lb)(x9:Li)(x10:List (Br))(x11:Int):Option R120 :=
 cond (decide (x5<(↑x10.length:Int))) (lL8 x0 x1 x2 x3 x4 x5 (0:Int) x6 x7 x8 x9 x10 x11) (cond (decide (x2<2)) (some ((true,()),())) (cond (!x3) (some ((true,()),())) (some ((!x4,()),()))))
theorem yfx(n:Nat)(a:Mm)(b c:Int):runF TT G120 ym0 Try.f120 c120 ydg yje n (a,b,c,())=zqm n (fun x0 x1 x2 x3 x4 x5 x6 x7 x8 x9 x10 x11=>zmv n (.head 5) [n] (zff x0 x1 x2 x3 x4 x5 x6 x7 x8 x9 x10 x11)) a b c:=by kernel_rfl
theorem zz5(n m5:Nat)(x0 x1 x2:Int)(x3 x4:Bool)(x5 x6:Int)(x7:Lb)(x8:Li)(x9:Lb)(x10:Li)(x11:List (Br))(x12:Int):zmv n (.head 8) [m5,0] (zhb x0 x1 x2 x3 x4 x5 x6 x7 x8 x9 x10 x11 x12)=none:=by kernel_rfl
theorem yl7(n m5 m8:Nat)(x0 x1 x2:Int)(x3 x4:Bool)(x5 x6:Int)(x7:Lb)(x8:Li)(x9:Lb)(x10:Li)(x11:List (Br))(x12:Int):zmv n (.head 8) [m5,m8+1] (zhb x0 x1 x2 x3 x4 x5 x6 x7 x8 x9 x10 x11 x12)=zcb n (fun x0 x1 x2 x3 x4 x5 x6 x7 x8 x9 x10 x11 x12=>zmv n (.head 8) [m5,m8] (zhb x0 x1 x2 x3 x4 x5 x6 x7 x8 x9 x10 x11 x12)) (fun x0 x1 x2 x3 x4 x5 x6 x7 x8 x9 x10 x11=>zmv n (.head 5) [m5] (zff x0 x1 x2 x3 x4 x5 x6 x7 x8 x9 x10 x11)) x0 x1 x2 x3 x4 x5 x6 x7 x8 x9 x10 x11 x12:=by kernel_rfl
theorem zz6(n:Nat)(x0 x1 x2:Int)(x3 x4:Bool)(x5:Int)(x6:Lb)(x7:Li)(x8:Lb)(x9:Li)(x10:List (Br))(x11:Int):zmv n (.head 5) [0] (zff x0 x1 x2 x3 x4 x5 x6 x7 x8 x9 x10 x11)=none:=by kernel_rfl
theorem yl8(n m5:Nat)(x0 x1 x2:Int)(x3 x4:Bool)(x5:Int)(x6:Lb)(x7:Li)(x8:Lb)(x9:Li)(x10:List (Br))(x11:Int):zmv n (.head 5) [m5+1] (zff x0 x1 x2 x3 x4 x5 x6 x7 x8 x9 x10 x11)=zcc n (fun x0 x1 x2 x3 x4 x5 x6 x7 x8 x9 x10 x11 x12=>zmv n (.head 8) [m5,n] (zhb x0 x1 x2 x3 x4 x5 x6 x7 x8 x9 x10 x11 x12)) x0 x1 x2 x3 x4 x5 x6 x7 x8 x9 x10 x11:=by kernel_rfl
noncomputable def zf8(g5:Int→Int→Int→Bool→Bool→Int→Lb→Li→Lb→Li→(List (Br))→Int→Option R120)(n:Nat):Nat→Int→Int→Int→Bool→Bool→Int→Int→Lb→Li→Lb→Li→(List (Br))→Int→Option R120
 |0,_,_,_,_,_,_,_,_,_,_,_,_,_=>none
 |m+1,x0,x1,x2,x3,x4,x5,x6,x7,x8,x9,x10,x11,x12=>zcb n (zf8 g5 n m) g5 x0 x1 x2 x3 x4 x5 x6 x7 x8 x9 x10 x11 x12
noncomputable def zf9(n:Nat):Nat→Int→Int→Int→Bool→Bool→Int→Lb→Li→Lb→Li→(List (Br))→Int→Option R120
 |0,_,_,_,_,_,_,_,_,_,_,_,_=>none
 |m+1,x0,x1,x2,x3,x4,x5,x6,x7,x8,x9,x10,x11=>zcc n (zf8 (zf9 n m) n n) x0 x1 x2 x3 x4 x5 x6 x7 x8 x9 x10 x11
noncomputable def p120(n:Nat)(a:Mm)(b c:Int):Option R120:=zqm n (zf9 n n) a b c
theorem yid(n m5:Nat):∀ (m8:Nat) (x0 x1 x2:Int) (x3 x4:Bool) (x5 x6:Int) (x7:Lb) (x8:Li) (x9:Lb) (x10:Li) (x11:List (Br)) (x12:Int),zmv n (.head 8) [m5,m8] (zhb x0 x1 x2 x3 x4 x5 x6 x7 x8 x9 x10 x11 x12)=zf8 (fun x0 x1 x2 x3 x4 x5 x6 x7 x8 x9 x10 x11=>zmv n (.head 5) [m5] (zff x0 x1 x2 x3 x4 x5 x6 x7 x8 x9 x10 x11)) n m8 x0 x1 x2 x3 x4 x5 x6 x7 x8 x9 x10 x11 x12:=by
 intro m
 induction m with
 |zero=>intros;rw[zz5];rfl
 |succ m ih =>
  intros;rw[yl7]
  try simp only[ih]
  rfl
theorem yie(n:Nat):∀ (m5:Nat) (x0 x1 x2:Int) (x3 x4:Bool) (x5:Int) (x6:Lb) (x7:Li) (x8:Lb) (x9:Li) (x10:List (Br)) (x11:Int),zmv n (.head 5) [m5] (zff x0 x1 x2 x3 x4 x5 x6 x7 x8 x9 x10 x11)=zf9 n m5 x0 x1 x2 x3 x4 x5 x6 x7 x8 x9 x10 x11:=by
 intro m
 induction m with
 |zero=>intros;rw[zz6];rfl
 |succ m ih =>
  intros;rw[yl8]
  try simp only[yid,ih]
  rfl
noncomputable def q120(n:Nat)(x:zan ydg):Option R120:=p120 n x.1 x.2.1 x.2.2.1
noncomputable def ynm:Sm:=⟨ydg,yje,false,q120⟩
theorem yqf:GamOK Try.prog G120:=by intro f s h;unfold G120 at h;split at h;exact gj h y157;cases h
theorem hh120:Hp 120 ynm:=hOf (zaf (an:=ym0) (c:=c120) zax yqf zaw Try.func120 (by kernel_rfl) rfl (by decide +kernel)) fun n x=>(yfx n x.1 x.2.1 x.2.2.1).trans (by simp only[yie];try rfl)
theorem y120:Gk 120 ynm:=⟨⟨Try.f120,c120,Try.func120,by kernel_rfl,by decide +kernel⟩,hh120⟩
noncomputable def c53:Code:=(Try.f53.body.getD .skip)
def an53:An:=⟨fun r=>match r with|4=>⟨[1,3],[]⟩|9=>⟨[1,3,4],[]⟩|18=>⟨[1,7],[]⟩|23=>⟨[1,8],[]⟩|_=>⟨[],[]⟩,fun _ _=>none⟩
abbrev ps53:List PK:=[.val tMem true]
abbrev rs53:List RK:=[.val .bool false]
abbrev R53:=zak rs53×zaj ps53
noncomputable def G53:Gam:=fun f=>match f with|69=>some Sm69|117=>some ynp|118=>some yno|119=>some ynn|120=>some ynm|_=>none
noncomputable def at53:Nat→Pt→List Nat→St→Option R53:=atF TT G53 an53 Try.f53 c53 _ _
def zkw(x0 x1:Int)(x2:Lb)(x3:Li)(x4:Lb)(x5:Li)(x6:List (Br))(x7:Int):St:=(St.mk ([Uu,AV.one (SV.bptr 1000000 0),Uu,Ai x0,Ai x1]++Ur 125) [(1000000,(Ent.box [SV.con (⟨9,Ty.str,x2⟩:Rw),SV.con (⟨3,Ty.int .i64,x3⟩:Rw),SV.con (⟨9,Ty.str,x4⟩:Rw),SV.con (⟨3,Ty.int .i64,x5⟩:Rw),SV.con (⟨71,ySp,x6⟩:Rw),Si x7]))])
def zgy(x0:Int)(x1:Lb)(x2:Li)(x3:Lb)(x4:Li)(x5:List (Br))(x6:Int):St:=(St.mk ([Uu,AV.one (SV.bptr 1000000 0),Uu,Uu,Uu,Uu,Uu,Uu,Ai x0]++Ur 121) [(1000000,(Ent.box [SV.con (⟨9,Ty.str,x1⟩:Rw),SV.con (⟨3,Ty.int .i64,x2⟩:Rw),SV.con (⟨9,Ty.str,x3⟩:Rw),SV.con (⟨3,Ty.int .i64,x4⟩:Rw),SV.con (⟨71,ySp,x5⟩:Rw),Si x6]))])
def zgz(x0:Int)(x1:Lb)(x2:Li)(x3:Lb)(x4:Li)(x5:List (Br))(x6:Int):St:=(St.mk ([Uu,AV.one (SV.bptr 1000000 0),Uu,Uu,Uu,Uu,Uu,Ai x0]++Ur 122) [(1000000,(Ent.box [SV.con (⟨9,Ty.str,x1⟩:Rw),SV.con (⟨3,Ty.int .i64,x2⟩:Rw),SV.con (⟨9,Ty.str,x3⟩:Rw),SV.con (⟨3,Ty.int .i64,x4⟩:Rw),SV.con (⟨71,ySp,x5⟩:Rw),Si x6]))])
def zid(x0:Int)(x1:Lb)(x2:Li)(x3:Lb)(x4:Li)(x5:List (Br))(x6:Int):St:=(St.mk ([Uu,AV.one (SV.bptr 1000000 0),Uu,Ai x0]++Ur 126) [(1000000,(Ent.box [SV.con (⟨9,Ty.str,x1⟩:Rw),SV.con (⟨3,Ty.int .i64,x2⟩:Rw),SV.con (⟨9,Ty.str,x3⟩:Rw),SV.con (⟨3,Ty.int .i64,x4⟩:Rw),SV.con (⟨71,ySp,x5⟩:Rw),Si x6]))])
noncomputable def zev(n:Nat)(lL4:Int→Lb→Li→Lb→Li→(List (Br))→Int→Option R53)(a:Mm):Option R53 :=
 (q117 n ((a.1.1,a.1.2),())).bind fun r0=>cond (!r0.1.1) (some ((false,()),())) ((q117 n ((a.2.1.1,a.2.1.2),())).bind fun r1=>cond (!r1.1.1) (some ((false,()),())) (cond (!decide ((↑(List.length a.1.2):Int)=(12:Int))) (some ((false,()),())) (cond (!decide ((↑(List.length a.2.1.2):Int)=(12:Int))) (some ((false,()),())) (cond (!decide ((↑(List.length a.2.2.1):Int)=(5:Int))) (some ((false,()),())) ((q69 n (a.2.2.2,(0:Int),(11:Int),())).bind fun r2=>cond (!r2.1.1) (some ((false,()),())) (lL4 (0:Int) a.1.1 a.1.2 a.2.1.1 a.2.1.2 a.2.2.1 a.2.2.2))))))
noncomputable def zde(n:Nat)(lL9:Int→Int→Lb→Li→Lb→Li→(List (Br))→Int→Option R53)(lL4:Int→Lb→Li→Lb→Li→(List (Br))→Int→Option R53)(x0 x1:Int)(x2:Lb)(x3:Li)(x4:Lb)(x5:Li)(x6:List (Br))(x7:Int):Option R53 :=
 cond (decide (0≤x0)) (cond (decide (x0<(↑x6.length:Int))) (cond (decide (x1<(↑(List.length (x6.getD x0.toNat (false,[],[])).2.2):Int))) (cond (decide (0≤x0)) (cond (decide (x0<(↑x6.length:Int))) (cond (decide (0≤x1)) (cond (decide (x1<(↑(List.length (x6.getD x0.toNat (false,[],[])).2.2):Int))) (cond (decide ((List.getD (x6.getD x0.toNat (false,[],[])).2.2 x1.toNat (0,0,false,false)).1=(2:Int))) (cond (!decide ((List.getD (x6.getD x0.toNat (false,[],[])).2.2 x1.toNat (0,0,false,false)).1=(0:Int))) ((q69 n ((List.getD (x6.getD x0.toNat (false,[],[])).2.2 x1.toNat (0,0,false,false)).2.1,(0:Int),IntKind.i64.wrap ((12:Int) - (1:Int)),())).bind fun r6=>cond (!r6.1.1) (some ((false,()),())) (lL9 x0 (IntKind.i64.wrap (x1+1)) x2 x3 x4 x5 x6 x7)) (lL9 x0 (IntKind.i64.wrap (x1+1)) x2 x3 x4 x5 x6 x7)) (cond (!decide ((List.getD (x6.getD x0.toNat (false,[],[])).2.2 x1.toNat (0,0,false,false)).1=(0:Int))) ((q69 n ((List.getD (x6.getD x0.toNat (false,[],[])).2.2 x1.toNat (0,0,false,false)).2.1,(0:Int),IntKind.i64.wrap ((12:Int) - (1:Int)),())).bind fun r7=>cond (!r7.1.1) (some ((false,()),())) (lL9 x0 (IntKind.i64.wrap (x1+1)) x2 x3 x4 x5 x6 x7)) (lL9 x0 (IntKind.i64.wrap (x1+1)) x2 x3 x4 x5 x6 x7))) none) none) none) none) (lL4 (IntKind.i64.wrap (x0+1)) x2 x3 x4 x5 x6 x7)) none) none
noncomputable def zb9(n:Nat)(lL23:Int→Lb→Li→Lb→Li→(List (Br))→Int→Option R53)(x0:Int)(x1:Lb)(x2:Li)(x3:Lb)(x4:Li)(x5:List (Br))(x6:Int):Option R53 :=
 cond (decide (x0<12)) ((q119 n (((x1,x2),(x3,x4),x5,x6),(2:Int),x0,())).bind fun r12=>cond (decide (0≤x0)) (cond (decide (x0<(↑x4.length:Int))) (cond (!decide (r12.1.1=x4.getD x0.toNat (0:Int))) (some ((false,()),())) ((q120 n (((x1,x2),(x3,x4),x5,x6),(2:Int),x0,())).bind fun r13=>cond (!r13.1.1) (some ((false,()),())) (lL23 (IntKind.i64.wrap (x0+1)) x1 x2 x3 x4 x5 x6))) none) none) (some ((true,()),()))
noncomputable def zb_(n:Nat)(lL18:Int→Lb→Li→Lb→Li→(List (Br))→Int→Option R53)(lL23:Int→Lb→Li→Lb→Li→(List (Br))→Int→Option R53)(x0:Int)(x1:Lb)(x2:Li)(x3:Lb)(x4:Li)(x5:List (Br))(x6:Int):Option R53 :=
 cond (decide (x0<12)) ((q119 n (((x1,x2),(x3,x4),x5,x6),(1:Int),x0,())).bind fun r9=>cond (decide (0≤x0)) (cond (decide (x0<(↑x2.length:Int))) (cond (!decide (r9.1.1=x2.getD x0.toNat (0:Int))) (some ((false,()),())) ((q120 n (((x1,x2),(x3,x4),x5,x6),(1:Int),x0,())).bind fun r10=>cond (!r10.1.1) (some ((false,()),())) (lL18 (IntKind.i64.wrap (x0+1)) x1 x2 x3 x4 x5 x6))) none) none) (lL23 (0:Int) x1 x2 x3 x4 x5 x6)
noncomputable def zdf(n:Nat)(lL9:Int→Int→Lb→Li→Lb→Li→(List (Br))→Int→Option R53)(lL18:Int→Lb→Li→Lb→Li→(List (Br))→Int→Option R53)(x0:Int)(x1:Lb)(x2:Li)(x3:Lb)(x4:Li)(x5:List (Br))(x6:Int):Option R53 :=
 cond (decide (x0<5)) (cond (decide (0≤x0)) (cond (decide (x0<(↑x5.length:Int))) ((q118 n (((x5.getD x0.toNat (false,[],[])).1,(x5.getD x0.toNat (false,[],[])).2.1,(x5.getD x0.toNat (false,[],[])).2.2),())).bind fun r4=>cond (!r4.1.1) (some ((false,()),())) (lL9 x0 (0:Int) x1 x2 x3 x4 x5 x6)) none) none) (lL18 (0:Int) x1 x2 x3 x4 x5 x6)
theorem yk8(n:Nat)(a:Mm):runF TT G53 an53 Try.f53 c53 ps53 rs53 n (a,())=zev n (fun x0 x1 x2 x3 x4 x5 x6=>at53 n (.head 4) [n] (zid x0 x1 x2 x3 x4 x5 x6)) a:=by kernel_rfl
theorem yev(n m4:Nat)(x0 x1:Int)(x2:Lb)(x3:Li)(x4:Lb)(x5:Li)(x6:List (Br))(x7:Int):at53 n (.head 9) [m4,0] (zkw x0 x1 x2 x3 x4 x5 x6 x7)=none:=by kernel_rfl
theorem yq1(n m4 m9:Nat)(x0 x1:Int)(x2:Lb)(x3:Li)(x4:Lb)(x5:Li)(x6:List (Br))(x7:Int):at53 n (.head 9) [m4,m9+1] (zkw x0 x1 x2 x3 x4 x5 x6 x7)=zde n (fun x0 x1 x2 x3 x4 x5 x6 x7=>at53 n (.head 9) [m4,m9] (zkw x0 x1 x2 x3 x4 x5 x6 x7)) (fun x0 x1 x2 x3 x4 x5 x6=>at53 n (.head 4) [m4] (zid x0 x1 x2 x3 x4 x5 x6)) x0 x1 x2 x3 x4 x5 x6 x7:=by kernel_rfl
theorem zzm(n:Nat)(x0:Int)(x1:Lb)(x2:Li)(x3:Lb)(x4:Li)(x5:List (Br))(x6:Int):at53 n (.head 23) [0] (zgy x0 x1 x2 x3 x4 x5 x6)=none:=by kernel_rfl
theorem yk9(n m23:Nat)(x0:Int)(x1:Lb)(x2:Li)(x3:Lb)(x4:Li)(x5:List (Br))(x6:Int):at53 n (.head 23) [m23+1] (zgy x0 x1 x2 x3 x4 x5 x6)=zb9 n (fun x0 x1 x2 x3 x4 x5 x6=>at53 n (.head 23) [m23] (zgy x0 x1 x2 x3 x4 x5 x6)) x0 x1 x2 x3 x4 x5 x6:=by kernel_rfl
theorem zzn(n:Nat)(x0:Int)(x1:Lb)(x2:Li)(x3:Lb)(x4:Li)(x5:List (Br))(x6:Int):at53 n (.head 18) [0] (zgz x0 x1 x2 x3 x4 x5 x6)=none:=by kernel_rfl
theorem yk_(n m18:Nat)(x0:Int)(x1:Lb)(x2:Li)(x3:Lb)(x4:Li)(x5:List (Br))(x6:Int):at53 n (.head 18) [m18+1] (zgz x0 x1 x2 x3 x4 x5 x6)=zb_ n (fun x0 x1 x2 x3 x4 x5 x6=>at53 n (.head 18) [m18] (zgz x0 x1 x2 x3 x4 x5 x6)) (fun x0 x1 x2 x3 x4 x5 x6=>at53 n (.head 23) [n] (zgy x0 x1 x2 x3 x4 x5 x6)) x0 x1 x2 x3 x4 x5 x6:=by kernel_rfl
theorem yew(n:Nat)(x0:Int)(x1:Lb)(x2:Li)(x3:Lb)(x4:Li)(x5:List (Br))(x6:Int):at53 n (.head 4) [0] (zid x0 x1 x2 x3 x4 x5 x6)=none:=by kernel_rfl
theorem yq2(n m4:Nat)(x0:Int)(x1:Lb)(x2:Li)(x3:Lb)(x4:Li)(x5:List (Br))(x6:Int):at53 n (.head 4) [m4+1] (zid x0 x1 x2 x3 x4 x5 x6)=zdf n (fun x0 x1 x2 x3 x4 x5 x6 x7=>at53 n (.head 9) [m4,n] (zkw x0 x1 x2 x3 x4 x5 x6 x7)) (fun x0 x1 x2 x3 x4 x5 x6=>at53 n (.head 18) [n] (zgz x0 x1 x2 x3 x4 x5 x6)) x0 x1 x2 x3 x4 x5 x6:=by kernel_rfl
noncomputable def zcx(g4:Int→Lb→Li→Lb→Li→(List (Br))→Int→Option R53)(n:Nat):Nat→Int→Int→Lb→Li→Lb→Li→(List (Br))→Int→Option R53
 |0,_,_,_,_,_,_,_,_=>none
 |m+1,x0,x1,x2,x3,x4,x5,x6,x7=>zde n (zcx g4 n m) g4 x0 x1 x2 x3 x4 x5 x6 x7
noncomputable def zlq(n:Nat):Nat→Int→Lb→Li→Lb→Li→(List (Br))→Int→Option R53
 |0,_,_,_,_,_,_,_=>none
 |m+1,x0,x1,x2,x3,x4,x5,x6=>zb9 n (zlq n m) x0 x1 x2 x3 x4 x5 x6
noncomputable def zlt(n:Nat):Nat→Int→Lb→Li→Lb→Li→(List (Br))→Int→Option R53
 |0,_,_,_,_,_,_,_=>none
 |m+1,x0,x1,x2,x3,x4,x5,x6=>zb_ n (zlt n m) (zlq n n) x0 x1 x2 x3 x4 x5 x6
noncomputable def zln(n:Nat):Nat→Int→Lb→Li→Lb→Li→(List (Br))→Int→Option R53
 |0,_,_,_,_,_,_,_=>none
 |m+1,x0,x1,x2,x3,x4,x5,x6=>zdf n (zcx (zln n m) n n) (zlt n n) x0 x1 x2 x3 x4 x5 x6
noncomputable def p53(n:Nat)(a:Mm):Option R53:=zev n (zln n n) a
theorem yn_(n m4:Nat):∀ (m9:Nat) (x0 x1:Int) (x2:Lb) (x3:Li) (x4:Lb) (x5:Li) (x6:List (Br)) (x7:Int),at53 n (.head 9) [m4,m9] (zkw x0 x1 x2 x3 x4 x5 x6 x7)=zcx (fun x0 x1 x2 x3 x4 x5 x6=>at53 n (.head 4) [m4] (zid x0 x1 x2 x3 x4 x5 x6)) n m9 x0 x1 x2 x3 x4 x5 x6 x7:=by
 intro m
 induction m with
 |zero=>intros;rw[yev];rfl
 |succ m ih =>
  intros;rw[yq1]
  try simp only[ih]
  rfl
theorem yhv(n:Nat):∀ (m23:Nat) (x0:Int) (x1:Lb) (x2:Li) (x3:Lb) (x4:Li) (x5:List (Br)) (x6:Int),at53 n (.head 23) [m23] (zgy x0 x1 x2 x3 x4 x5 x6)=zlq n m23 x0 x1 x2 x3 x4 x5 x6:=by
 intro m
 induction m with
 |zero=>intros;rw[zzm];rfl
 |succ m ih =>
  intros;rw[yk9]
  try simp only[ih]
  rfl
theorem yhw(n:Nat):∀ (m18:Nat) (x0:Int) (x1:Lb) (x2:Li) (x3:Lb) (x4:Li) (x5:List (Br)) (x6:Int),at53 n (.head 18) [m18] (zgz x0 x1 x2 x3 x4 x5 x6)=zlt n m18 x0 x1 x2 x3 x4 x5 x6:=by
 intro m
 induction m with
 |zero=>intros;rw[zzn];rfl
 |succ m ih =>
  intros;rw[yk_]
  try simp only[yhv,ih]
  rfl
theorem yoa(n:Nat):∀ (m4:Nat) (x0:Int) (x1:Lb) (x2:Li) (x3:Lb) (x4:Li) (x5:List (Br)) (x6:Int),at53 n (.head 4) [m4] (zid x0 x1 x2 x3 x4 x5 x6)=zln n m4 x0 x1 x2 x3 x4 x5 x6:=by
 intro m
 induction m with
 |zero=>intros;rw[yew];rfl
 |succ m ih =>
  intros;rw[yq2]
  try simp only[yn_,yhw,ih]
  rfl
noncomputable def q53(n:Nat)(x:zan ps53):Option R53:=p53 n x.1
noncomputable def Sm53:Sm:=⟨ps53,rs53,false,q53⟩
theorem gam53:GamOK Try.prog G53:=by intro f s h;unfold G53 at h;split at h;exact gj h y69;exact gj h y117;exact gj h y118;exact gj h y119;exact gj h y120;cases h
theorem hh53:Hp 53 Sm53:=hOf (zaf (an:=an53) (c:=c53) zax gam53 zaw Try.func53 (by kernel_rfl) rfl (by decide +kernel)) fun n x=>(yk8 n x.1).trans (by simp only[yoa];try rfl)
theorem y53:Gk 53 Sm53:=⟨⟨Try.f53,c53,Try.func53,by kernel_rfl,by decide +kernel⟩,hh53⟩
noncomputable def c123:Code:=(Try.f123.body.getD .skip)
def yru:An:=⟨fun _=>⟨[],[]⟩,fun _ _=>none⟩
abbrev ydd:List PK:=[.val tPg true]
abbrev yjb:List RK:=[.own tPg true]
abbrev R123:=zak yjb×zaj ydd
noncomputable def G123:Gam:=fun _=>none
noncomputable def zgo(n:Nat)(a:Lb×Li):Option R123 :=
 cond (decide (((0:Nat)+List.length a.1)*(16:Nat)≤(140737488355328:Nat))) (cond (decide (((0:Nat)+List.length a.2)*(8:Nat)≤(140737488355328:Nat))) (some (((a.1,a.2),()),())) none) none
theorem yfu(n:Nat)(a:Lb×Li):runF TT G123 yru Try.f123 c123 ydd yjb n (a,())=zgo n a:=by kernel_rfl
noncomputable def p123(n:Nat)(a:Lb×Li):Option R123:=zgo n a
noncomputable def q123(n:Nat)(x:zan ydd):Option R123:=p123 n x.1
noncomputable def ynk:Sm:=⟨ydd,yjb,false,q123⟩
theorem yqc:GamOK Try.prog G123:=fun _ _ h=>by cases h
theorem hh123:Hp 123 ynk:=hOf (zaf (an:=yru) (c:=c123) zax yqc zaw Try.func123 (by kernel_rfl) rfl (by decide +kernel)) fun n x=>(yfu n x.1).trans rfl
theorem y123:Gk 123 ynk:=⟨⟨Try.f123,c123,Try.func123,by kernel_rfl,by decide +kernel⟩,hh123⟩
noncomputable def c56:Code:=(Try.f56.body.getD .skip)
def an56:An:=⟨fun r=>match r with|3=>⟨[1,2,3,4],[]⟩|_=>⟨[],[]⟩,fun _ _=>none⟩
abbrev ps56:List PK:=[.val tMem true]
abbrev rs56:List RK:=[.own tMem true]
abbrev R56:=zak rs56×zaj ps56
noncomputable def G56:Gam:=fun f=>match f with|123=>some ynk|_=>none
noncomputable def at56:Nat→Pt→List Nat→St→Option R56:=atF TT G56 an56 Try.f56 c56 _ _
def zku(x0:Int)(x1:Lb)(x2:Li)(x3:Lb)(x4:Li)(x5:List (Br))(x6 x7 x8:Int)(x9:Lb)(x10:Li)(x11:Lb)(x12:Li)(x13:List (Br)):St:=(St.mk ([Uu,AV.one (SV.bptr 1000000 0),AV.one (SV.bptr 1000001 0),AV.one (SV.bptr 1000002 0),Ai x0]++Ur 40) [(1000000,(Ent.box [SV.con (⟨9,Ty.str,x1⟩:Rw),SV.con (⟨3,Ty.int .i64,x2⟩:Rw),SV.con (⟨9,Ty.str,x3⟩:Rw),SV.con (⟨3,Ty.int .i64,x4⟩:Rw),SV.con (⟨71,ySp,x5⟩:Rw),Si x6])),(1000001,(Ent.box [SV.nil,SV.nil,SV.nil,SV.nil,SV.nil,Si x7])),(1000002,(Ent.box [Sr 1000003,Sr 1000004,Sr 1000005,Sr 1000006,Sr 1000007,Si x8])),(1000003,Er ⟨9,Ty.str,x9⟩),(1000004,Er ⟨3,Ty.int .i64,x10⟩),(1000005,Er ⟨9,Ty.str,x11⟩),(1000006,Er ⟨3,Ty.int .i64,x12⟩),(1000007,Er ⟨71,ySp,x13⟩)])
noncomputable def zjk(n:Nat)(lL3:Int→Lb→Li→Lb→Li→(List (Br))→Int→Int→Int→Lb→Li→Lb→Li→(List (Br))→Option R56)(a:Mm):Option R56 :=
 (q123 n ((a.1.1,a.1.2),())).bind fun r0=>(q123 n ((a.2.1.1,a.2.1.2),())).bind fun r1=>lL3 (0:Int) a.1.1 a.1.2 a.2.1.1 a.2.1.2 a.2.2.1 a.2.2.2 (0:Int) a.2.2.2 r0.1.1.1 r0.1.1.2 r1.1.1.1 r1.1.1.2 ([])
noncomputable def zh1(n:Nat)(lL3:Int→Lb→Li→Lb→Li→(List (Br))→Int→Int→Int→Lb→Li→Lb→Li→(List (Br))→Option R56)(x0:Int)(x1:Lb)(x2:Li)(x3:Lb)(x4:Li)(x5:List (Br))(x6 x7 x8:Int)(x9:Lb)(x10:Li)(x11:Lb)(x12:Li)(x13:List (Br)):Option R56 :=
 cond (decide (x0<(↑x5.length:Int))) (cond (decide (0≤x0)) (cond (decide (x0<(↑x5.length:Int))) (cond (decide (((0:Nat)+List.length (x5.getD x0.toNat (false,[],[])).2.1)*(24:Nat)≤(140737488355328:Nat))) (cond (decide (((0:Nat)+List.length (x5.getD x0.toNat (false,[],[])).2.2)*(24:Nat)≤(140737488355328:Nat))) (cond (decide ((x13.length+[((x5.getD x0.toNat (false,[],[])).1,(x5.getD x0.toNat (false,[],[])).2.1,(x5.getD x0.toNat (false,[],[])).2.2)].length)*(56:Nat)≤(140737488355328:Nat))) (lL3 (IntKind.i64.wrap (x0+1)) x1 x2 x3 x4 x5 x6 x7 x8 x9 x10 x11 x12 (x13++[((x5.getD x0.toNat (false,[],[])).1,(x5.getD x0.toNat (false,[],[])).2.1,(x5.getD x0.toNat (false,[],[])).2.2)])) none) none) none) none) none) (some ((((x9,x10),((x11,x12),(x13,x8))),()),()))
theorem yk5(n:Nat)(a:Mm):runF TT G56 an56 Try.f56 c56 ps56 rs56 n (a,())=zjk n (fun x0 x1 x2 x3 x4 x5 x6 x7 x8 x9 x10 x11 x12 x13=>at56 n (.head 3) [n] (zku x0 x1 x2 x3 x4 x5 x6 x7 x8 x9 x10 x11 x12 x13)) a:=by kernel_rfl
theorem yet(n:Nat)(x0:Int)(x1:Lb)(x2:Li)(x3:Lb)(x4:Li)(x5:List (Br))(x6 x7 x8:Int)(x9:Lb)(x10:Li)(x11:Lb)(x12:Li)(x13:List (Br)):at56 n (.head 3) [0] (zku x0 x1 x2 x3 x4 x5 x6 x7 x8 x9 x10 x11 x12 x13)=none:=by kernel_rfl
theorem yqz(n m3:Nat)(x0:Int)(x1:Lb)(x2:Li)(x3:Lb)(x4:Li)(x5:List (Br))(x6 x7 x8:Int)(x9:Lb)(x10:Li)(x11:Lb)(x12:Li)(x13:List (Br)):at56 n (.head 3) [m3+1] (zku x0 x1 x2 x3 x4 x5 x6 x7 x8 x9 x10 x11 x12 x13)=zh1 n (fun x0 x1 x2 x3 x4 x5 x6 x7 x8 x9 x10 x11 x12 x13=>at56 n (.head 3) [m3] (zku x0 x1 x2 x3 x4 x5 x6 x7 x8 x9 x10 x11 x12 x13)) x0 x1 x2 x3 x4 x5 x6 x7 x8 x9 x10 x11 x12 x13:=by kernel_rfl
noncomputable def zq6(n:Nat):Nat→Int→Lb→Li→Lb→Li→(List (Br))→Int→Int→Int→Lb→Li→Lb→Li→(List (Br))→Option R56
 |0,_,_,_,_,_,_,_,_,_,_,_,_,_,_=>none
 |m+1,x0,x1,x2,x3,x4,x5,x6,x7,x8,x9,x10,x11,x12,x13=>zh1 n (zq6 n m) x0 x1 x2 x3 x4 x5 x6 x7 x8 x9 x10 x11 x12 x13
noncomputable def p56(n:Nat)(a:Mm):Option R56:=zjk n (zq6 n n) a
theorem yn8(n:Nat):∀ (m3:Nat) (x0:Int) (x1:Lb) (x2:Li) (x3:Lb) (x4:Li) (x5:List (Br)) (x6 x7 x8:Int) (x9:Lb) (x10:Li) (x11:Lb) (x12:Li) (x13:List (Br)),at56 n (.head 3) [m3] (zku x0 x1 x2 x3 x4 x5 x6 x7 x8 x9 x10 x11 x12 x13)=zq6 n m3 x0 x1 x2 x3 x4 x5 x6 x7 x8 x9 x10 x11 x12 x13:=by
 intro m
 induction m with
 |zero=>intros;rw[yet];rfl
 |succ m ih =>
  intros;rw[yqz]
  try simp only[ih]
  rfl
noncomputable def q56(n:Nat)(x:zan ps56):Option R56:=p56 n x.1
noncomputable def Sm56:Sm:=⟨ps56,rs56,false,q56⟩
theorem gam56:GamOK Try.prog G56:=by intro f s h;unfold G56 at h;split at h;exact gj h y123;cases h
theorem hh56:Hp 56 Sm56:=hOf (zaf (an:=an56) (c:=c56) zax gam56 zaw Try.func56 (by kernel_rfl) rfl (by decide +kernel)) fun n x=>(yk5 n x.1).trans (by simp only[yn8];try rfl)
theorem y56:Gk 56 Sm56:=⟨⟨Try.f56,c56,Try.func56,by kernel_rfl,by decide +kernel⟩,hh56⟩
noncomputable def c93:Code:=(Try.f93.body.getD .skip)
def an93:An:=⟨fun r=>match r with|2=>⟨[1,3],[]⟩|_=>⟨[],[]⟩,fun _ _=>none⟩
abbrev ps93:List PK:=[.val tMem true]
abbrev rs93:List RK:=[.val i64 false]
abbrev R93:=zak rs93×zaj ps93
noncomputable def G93:Gam:=fun _=>none
noncomputable def at93:Nat→Pt→List Nat→St→Option R93:=atF TT G93 an93 Try.f93 c93 _ _
def zko(x0:Int)(x1:Lb)(x2:Li)(x3:Lb)(x4:Li)(x5:List (Br))(x6:Int):St:=(St.mk ([Uu,AV.one (SV.bptr 1000000 0),Uu,Ai x0]++Ur 15) [(1000000,(Ent.box [SV.con (⟨9,Ty.str,x1⟩:Rw),SV.con (⟨3,Ty.int .i64,x2⟩:Rw),SV.con (⟨9,Ty.str,x3⟩:Rw),SV.con (⟨3,Ty.int .i64,x4⟩:Rw),SV.con (⟨71,ySp,x5⟩:Rw),Si x6]))])
noncomputable def zub(n:Nat)(lL2:Int→Lb→Li→Lb→Li→(List (Br))→Int→Option R93)(a:Mm):Option R93 :=
 lL2 (0:Int) a.1.1 a.1.2 a.2.1.1 a.2.1.2 a.2.2.1 a.2.2.2
noncomputable def zhy(n:Nat)(lL2:Int→Lb→Li→Lb→Li→(List (Br))→Int→Option R93)(x0:Int)(x1:Lb)(x2:Li)(x3:Lb)(x4:Li)(x5:List (Br))(x6:Int):Option R93 :=
 cond (decide (x0<(↑x5.length:Int))) (cond (decide (0≤x0)) (cond (decide (x0<(↑x5.length:Int))) (cond (!(x5.getD x0.toNat (false,[],[])).1) (some ((x0,()),())) (lL2 (IntKind.i64.wrap (x0+1)) x1 x2 x3 x4 x5 x6)) none) none) (some (((-1:Int),()),()))
theorem yks(n:Nat)(a:Mm):runF TT G93 an93 Try.f93 c93 ps93 rs93 n (a,())=zub n (fun x0 x1 x2 x3 x4 x5 x6=>at93 n (.head 2) [n] (zko x0 x1 x2 x3 x4 x5 x6)) a:=by kernel_rfl
theorem yen(n:Nat)(x0:Int)(x1:Lb)(x2:Li)(x3:Lb)(x4:Li)(x5:List (Br))(x6:Int):at93 n (.head 2) [0] (zko x0 x1 x2 x3 x4 x5 x6)=none:=by kernel_rfl
theorem yqu(n m2:Nat)(x0:Int)(x1:Lb)(x2:Li)(x3:Lb)(x4:Li)(x5:List (Br))(x6:Int):at93 n (.head 2) [m2+1] (zko x0 x1 x2 x3 x4 x5 x6)=zhy n (fun x0 x1 x2 x3 x4 x5 x6=>at93 n (.head 2) [m2] (zko x0 x1 x2 x3 x4 x5 x6)) x0 x1 x2 x3 x4 x5 x6:=by kernel_rfl
noncomputable def zux(n:Nat):Nat→Int→Lb→Li→Lb→Li→(List (Br))→Int→Option R93
 |0,_,_,_,_,_,_,_=>none
 |m+1,x0,x1,x2,x3,x4,x5,x6=>zhy n (zux n m) x0 x1 x2 x3 x4 x5 x6
noncomputable def p93(n:Nat)(a:Mm):Option R93:=zub n (zux n n) a
theorem yn3(n:Nat):∀ (m2:Nat) (x0:Int) (x1:Lb) (x2:Li) (x3:Lb) (x4:Li) (x5:List (Br)) (x6:Int),at93 n (.head 2) [m2] (zko x0 x1 x2 x3 x4 x5 x6)=zux n m2 x0 x1 x2 x3 x4 x5 x6:=by
 intro m
 induction m with
 |zero=>intros;rw[yen];rfl
 |succ m ih =>
  intros;rw[yqu]
  try simp only[ih]
  rfl
noncomputable def q93(n:Nat)(x:zan ps93):Option R93:=p93 n x.1
noncomputable def Sm93:Sm:=⟨ps93,rs93,false,q93⟩
theorem gam93:GamOK Try.prog G93:=fun _ _ h=>by cases h
theorem hh93:Hp 93 Sm93:=hOf (zaf (an:=an93) (c:=c93) zax gam93 zaw Try.func93 (by kernel_rfl) rfl (by decide +kernel)) fun n x=>(yks n x.1).trans (by simp only[yn3];try rfl)
theorem y93:Gk 93 Sm93:=⟨⟨Try.f93,c93,Try.func93,by kernel_rfl,by decide +kernel⟩,hh93⟩
noncomputable def c28:Code:=(Try.f28.body.getD .skip)
def an28:An:=⟨fun _=>⟨[],[]⟩,fun _ _=>none⟩
abbrev ps28:List PK:=[.val tMem true]
abbrev rs28:List RK:=[.own tMem true,.val i64 false,.val .bool false]
abbrev R28:=zak rs28×zaj ps28
noncomputable def G28:Gam:=fun f=>match f with|53=>some Sm53|56=>some Sm56|93=>some Sm93|_=>none
noncomputable def zjt(n:Nat)(a:Mm):Option R28 :=
 (q53 n (((a.1.1,a.1.2),(a.2.1.1,a.2.1.2),a.2.2.1,a.2.2.2),())).bind fun r0=>cond (!r0.1.1) (some (((([],[]),(([],[]),([],(0:Int)))),((-1:Int),(false,()))),())) ((q93 n (((a.1.1,a.1.2),(a.2.1.1,a.2.1.2),a.2.2.1,a.2.2.2),())).bind fun r1=>cond (decide (r1.1.1<(0:Int))) (some (((([],[]),(([],[]),([],(0:Int)))),((-1:Int),(false,()))),())) ((q56 n (((a.1.1,a.1.2),(a.2.1.1,a.2.1.2),a.2.2.1,a.2.2.2),())).bind fun r2=>(q93 n (((a.1.1,a.1.2),(a.2.1.1,a.2.1.2),a.2.2.1,a.2.2.2),())).bind fun r3=>cond (decide ((0:Int)≤r3.1.1)) (cond (decide (r3.1.1<(↑(List.length r2.1.1.2.2.1):Int))) (some ((((r2.1.1.1.1,r2.1.1.1.2),((r2.1.1.2.1.1,r2.1.1.2.1.2),(List.set r2.1.1.2.2.1 (Int.toNat r3.1.1) (true,[],List.replicate (Int.toNat (16:Int)) ((0:Int),(0:Int),false,false)),r2.1.1.2.2.2))),(r3.1.1,(true,()))),())) none) none))
theorem ylj(n:Nat)(a:Mm):runF TT G28 an28 Try.f28 c28 ps28 rs28 n (a,())=zjt n a:=by kernel_rfl
noncomputable def p28(n:Nat)(a:Mm):Option R28:=zjt n a
noncomputable def q28(n:Nat)(x:zan ps28):Option R28:=p28 n x.1
noncomputable def Sm28:Sm:=⟨ps28,rs28,false,q28⟩
theorem gam28:GamOK Try.prog G28:=by intro f s h;unfold G28 at h;split at h;exact gj h y53;exact gj h y56;exact gj h y93;cases h
theorem hh28:Hp 28 Sm28:=hOf (zaf (an:=an28) (c:=c28) zax gam28 zaw Try.func28 (by kernel_rfl) rfl (by decide +kernel)) fun n x=>(ylj n x.1).trans rfl
theorem y28:Gk 28 Sm28:=⟨⟨Try.f28,c28,Try.func28,by kernel_rfl,by decide +kernel⟩,hh28⟩
noncomputable def c48:Code:=(Try.f48.body.getD .skip)
def an48:An:=⟨fun _=>⟨[],[]⟩,fun _ _=>none⟩
abbrev ps48:List PK:=[.bx tRd,.val i64 false]
abbrev rs48:List RK:=[.val i64 false]
abbrev R48:=zak rs48×zaj ps48
noncomputable def G48:Gam:=fun _=>none
noncomputable def zjo(n:Nat)(a:Li×Int)(b:Int):Option R48 :=
 cond (decide (b<(1:Int))) (some (((0:Int),()),((a.1,IntKind.i64.wrap (a.2+(1:Int))),()))) (cond (decide ((↑(List.length a.1):Int)=(0:Int))) (some (((0:Int),()),((a.1,IntKind.i64.wrap (a.2+(1:Int))),()))) (cond (decide (IntKind.i64.wrap (IntKind.i64.wrap (a.2+(1:Int)) - (1:Int))<(↑(List.length a.1):Int))) (cond (decide ((0:Int)≤IntKind.i64.wrap (IntKind.i64.wrap (a.2+(1:Int)) - (1:Int)))) (cond (decide (IntKind.i64.wrap (IntKind.i64.wrap (a.2+(1:Int)) - (1:Int))<(↑(List.length a.1):Int))) (cond (!decide (b=(0:Int))) (some (((IntKind.i64.wrap (List.getD a.1 (IntKind.i64.wrap (IntKind.i64.wrap (a.2+(1:Int)) - (1:Int))).toNat (0:Int))).tmod b,()),((a.1,IntKind.i64.wrap (a.2+(1:Int))),()))) none) none) none) (cond (!decide ((↑(List.length a.1):Int)=(0:Int))) (cond (decide ((0:Int)≤(IntKind.i64.wrap (IntKind.i64.wrap (a.2+(1:Int)) - (1:Int))).tmod (↑(List.length a.1):Int))) (cond (decide ((IntKind.i64.wrap (IntKind.i64.wrap (a.2+(1:Int)) - (1:Int))).tmod (↑(List.length a.1):Int)<(↑(List.length a.1):Int))) (cond (!decide ((↑(List.length a.1):Int)=(0:Int))) (cond (decide ((0:Int)≤(IntKind.i64.wrap (IntKind.i64.wrap (IntKind.i64.wrap (IntKind.i64.wrap (a.2+(1:Int)) - (1:Int))*(7:Int))+(3:Int))).tmod (↑(List.length a.1):Int))) (cond (decide ((IntKind.i64.wrap (IntKind.i64.wrap (IntKind.i64.wrap (IntKind.i64.wrap (a.2+(1:Int)) - (1:Int))*(7:Int))+(3:Int))).tmod (↑(List.length a.1):Int)<(↑(List.length a.1):Int))) (cond (!decide ((↑(List.length a.1):Int)=(0:Int))) (cond (!decide (b=(0:Int))) (some (((IntKind.i64.wrap (↑(BitVec.ofInt IntKind.i64.bits (IntKind.i64.wrap (IntKind.i64.wrap (IntKind.i64.wrap (IntKind.i64.wrap (IntKind.i64.wrap (List.getD a.1 ((IntKind.i64.wrap (IntKind.i64.wrap (a.2+(1:Int)) - (1:Int))).tmod (↑(List.length a.1):Int)).toNat (0:Int))*(131:Int))+IntKind.i64.wrap (IntKind.i64.wrap (List.getD a.1 ((IntKind.i64.wrap (IntKind.i64.wrap (IntKind.i64.wrap (IntKind.i64.wrap (a.2+(1:Int)) - (1:Int))*(7:Int))+(3:Int))).tmod (↑(List.length a.1):Int)).toNat (0:Int))*(1117:Int)))+IntKind.i64.wrap (IntKind.i64.wrap (IntKind.i64.wrap (a.2+(1:Int)) - (1:Int))*(29:Int)))+IntKind.i64.wrap (IntKind.i64.wrap ((IntKind.i64.wrap (IntKind.i64.wrap (a.2+(1:Int)) - (1:Int))).tdiv (↑(List.length a.1):Int))*(53:Int)))) ^^^ BitVec.ofInt IntKind.i64.bits (IntKind.i64.wrap ((IntKind.i64.wrap (IntKind.i64.wrap (IntKind.i64.wrap (IntKind.i64.wrap (IntKind.i64.wrap (List.getD a.1 ((IntKind.i64.wrap (IntKind.i64.wrap (a.2+(1:Int)) - (1:Int))).tmod (↑(List.length a.1):Int)).toNat (0:Int))*(131:Int))+IntKind.i64.wrap (IntKind.i64.wrap (List.getD a.1 ((IntKind.i64.wrap (IntKind.i64.wrap (IntKind.i64.wrap (IntKind.i64.wrap (a.2+(1:Int)) - (1:Int))*(7:Int))+(3:Int))).tmod (↑(List.length a.1):Int)).toNat (0:Int))*(1117:Int)))+IntKind.i64.wrap (IntKind.i64.wrap (IntKind.i64.wrap (a.2+(1:Int)) - (1:Int))*(29:Int)))+IntKind.i64.wrap (IntKind.i64.wrap ((IntKind.i64.wrap (IntKind.i64.wrap (a.2+(1:Int)) - (1:Int))).tdiv (↑(List.length a.1):Int))*(53:Int)))).tdiv (64:Int)))).toNat:Int)).tmod b,()),((a.1,IntKind.i64.wrap (a.2+(1:Int))),()))) none) none) none) none) none) none) none) none)))
theorem yld(n:Nat)(a:Li×Int)(b:Int):runF TT G48 an48 Try.f48 c48 ps48 rs48 n (a,b,())=zjo n a b:=by kernel_rfl
noncomputable def p48(n:Nat)(a:Li×Int)(b:Int):Option R48:=zjo n a b
noncomputable def q48(n:Nat)(x:zan ps48):Option R48:=p48 n x.1 x.2.1
noncomputable def Sm48:Sm:=⟨ps48,rs48,true,q48⟩
theorem gam48:GamOK Try.prog G48:=fun _ _ h=>by cases h
theorem hh48:Hp 48 Sm48:=hOf (zaf (an:=an48) (c:=c48) zax gam48 zaw Try.func48 (by kernel_rfl) rfl (by decide +kernel)) fun n x=>(yld n x.1 x.2.1).trans rfl
theorem y48:Gk 48 Sm48:=⟨⟨Try.f48,c48,Try.func48,by kernel_rfl,by decide +kernel⟩,hh48⟩
noncomputable def c54:Code:=(Try.f54.body.getD .skip)
def an54:An:=⟨fun _=>⟨[],[]⟩,fun _ _=>none⟩
abbrev ps54:List PK:=[.val tMem true,.val i64 false]
abbrev rs54:List RK:=[.val .bool false]
abbrev R54:=zak rs54×zaj ps54
noncomputable def G54:Gam:=fun f=>match f with|69=>some Sm69|_=>none
noncomputable def zeu(n:Nat)(a:Mm)(b:Int):Option R54 :=
 (q69 n (b,(0:Int),IntKind.i64.wrap ((↑(List.length a.2.2.1):Int) - (1:Int)),())).bind fun r0=>cond r0.1.1 (cond (decide ((0:Int)≤b)) (cond (decide (b<(↑(List.length a.2.2.1):Int))) (some (((List.getD a.2.2.1 b.toNat (false,[],[])).1,()),())) none) none) (some ((false,()),()))
theorem yk7(n:Nat)(a:Mm)(b:Int):runF TT G54 an54 Try.f54 c54 ps54 rs54 n (a,b,())=zeu n a b:=by kernel_rfl
noncomputable def p54(n:Nat)(a:Mm)(b:Int):Option R54:=zeu n a b
noncomputable def q54(n:Nat)(x:zan ps54):Option R54:=p54 n x.1 x.2.1
noncomputable def Sm54:Sm:=⟨ps54,rs54,false,q54⟩
theorem gam54:GamOK Try.prog G54:=by intro f s h;unfold G54 at h;split at h;exact gj h y69;cases h
theorem hh54:Hp 54 Sm54:=hOf (zaf (an:=an54) (c:=c54) zax gam54 zaw Try.func54 (by kernel_rfl) rfl (by decide +kernel)) fun n x=>(yk7 n x.1 x.2.1).trans rfl
theorem y54:Gk 54 Sm54:=⟨⟨Try.f54,c54,Try.func54,by kernel_rfl,by decide +kernel⟩,hh54⟩
noncomputable def c175:Code:=(Try.f175.body.getD .skip)
def yrj:An:=⟨fun _=>⟨[],[]⟩,fun _ _=>none⟩
abbrev ycv:List PK:=[.val tAr true,.val i64 false,.val i64 false]
abbrev yit:List RK:=[.val tAr true,.val .bool false]
abbrev R175:=zak yit×zaj ycv
noncomputable def G175:Gam:=fun _=>none
noncomputable def zce(n:Nat)(a:Aq)(b c:Int):Option R175 :=
 cond (decide ((if c<IntKind.i64.wrap (IntKind.i64.wrap (a.1+a.2.1) - (1:Int)) then c else IntKind.i64.wrap (IntKind.i64.wrap (a.1+a.2.1) - (1:Int)))<if b > a.1 then b else a.1)) (some ((((0:Int),((0:Int),(false,false))),(false,())),())) (some (((if b > a.1 then b else a.1,(IntKind.i64.wrap (IntKind.i64.wrap ((if c<IntKind.i64.wrap (IntKind.i64.wrap (a.1+a.2.1) - (1:Int)) then c else IntKind.i64.wrap (IntKind.i64.wrap (a.1+a.2.1) - (1:Int))) - if b > a.1 then b else a.1)+(1:Int)),(a.2.2.1,a.2.2.2))),(true,())),()))
theorem ye9(n:Nat)(a:Aq)(b c:Int):runF TT G175 yrj Try.f175 c175 ycv yit n (a,b,c,())=zce n a b c:=by kernel_rfl
noncomputable def p175(n:Nat)(a:Aq)(b c:Int):Option R175:=zce n a b c
noncomputable def q175(n:Nat)(x:zan ycv):Option R175:=p175 n x.1 x.2.1 x.2.2.1
noncomputable def ym_:Sm:=⟨ycv,yit,false,q175⟩
theorem ypu:GamOK Try.prog G175:=fun _ _ h=>by cases h
theorem hh175:Hp 175 ym_:=hOf (zaf (an:=yrj) (c:=c175) zax ypu zaw Try.func175 (by kernel_rfl) rfl (by decide +kernel)) fun n x=>(ye9 n x.1 x.2.1 x.2.2.1).trans rfl
theorem y175:Gk 175 ym_:=⟨⟨Try.f175,c175,Try.func175,by kernel_rfl,by decide +kernel⟩,hh175⟩
noncomputable def c159:Code:=(Try.f159.body.getD .skip)
def ymw:An:=⟨fun r=>match r with|3=>⟨[0,1,2,7,8],[]⟩|_=>⟨[],[]⟩,fun _ _=>none⟩
abbrev yc2:List PK:=[.val (.row 116 tAr) false,.val i64 false,.val i64 false]
abbrev yi0:List RK:=[.own (.row 116 tAr) false]
abbrev R159:=zak yi0×zaj yc2
noncomputable def G159:Gam:=fun f=>match f with|175=>some ym_|_=>none
noncomputable def yas:Nat→Pt→List Nat→St→Option R159:=atF TT G159 ymw Try.f159 c159 _ _
def zg8(x0:Lq)(x1 x2 x3:Int)(x4:Lq):St:=(St.mk ([AV.one (SV.con (⟨116,yAq,x0⟩:Rw)),Ai x1,Ai x2,Uu,Uu,Uu,Uu,AV.one (Sr 1000000),Ai x3]++Ur 42) [(1000000,Er ⟨116,yAq,x4⟩)])
noncomputable def zqi(n:Nat)(lL3:Lq→Int→Int→Int→Lq→Option R159)(a:Lq)(b c:Int):Option R159 :=
 lL3 a b c (0:Int) ([])
noncomputable def zca(n:Nat)(lL3:Lq→Int→Int→Int→Lq→Option R159)(x0:Lq)(x1 x2 x3:Int)(x4:Lq):Option R159 :=
 cond (decide (x3<(↑x0.length:Int))) (cond (decide (0≤x3)) (cond (decide (x3<(↑x0.length:Int))) ((q175 n (((x0.getD x3.toNat ((0:Int),(0:Int),false,false)).1,(x0.getD x3.toNat ((0:Int),(0:Int),false,false)).2.1,(x0.getD x3.toNat ((0:Int),(0:Int),false,false)).2.2.1,(x0.getD x3.toNat ((0:Int),(0:Int),false,false)).2.2.2),(0:Int),IntKind.i64.wrap (x1 - 1),())).bind fun r1=>cond (decide (0≤x3)) (cond (decide (x3<(↑x0.length:Int))) ((q175 n (((x0.getD x3.toNat ((0:Int),(0:Int),false,false)).1,(x0.getD x3.toNat ((0:Int),(0:Int),false,false)).2.1,(x0.getD x3.toNat ((0:Int),(0:Int),false,false)).2.2.1,(x0.getD x3.toNat ((0:Int),(0:Int),false,false)).2.2.2),IntKind.i64.wrap (x2+1),(15:Int),())).bind fun r2=>cond r1.1.2.1 (cond (decide ((x4.length+[(r1.1.1.1,r1.1.1.2.1,r1.1.1.2.2.1,r1.1.1.2.2.2)].length)*(24:Nat)≤(140737488355328:Nat))) (cond r2.1.2.1 (cond (decide (((x4++[(r1.1.1.1,r1.1.1.2.1,r1.1.1.2.2.1,r1.1.1.2.2.2)]).length+[(r2.1.1.1,r2.1.1.2.1,r2.1.1.2.2.1,r2.1.1.2.2.2)].length)*(24:Nat)≤(140737488355328:Nat))) (lL3 x0 x1 x2 (IntKind.i64.wrap (x3+1)) (x4++[(r1.1.1.1,r1.1.1.2.1,r1.1.1.2.2.1,r1.1.1.2.2.2)]++[(r2.1.1.1,r2.1.1.2.1,r2.1.1.2.2.1,r2.1.1.2.2.2)])) none) (lL3 x0 x1 x2 (IntKind.i64.wrap (x3+1)) (x4++[(r1.1.1.1,r1.1.1.2.1,r1.1.1.2.2.1,r1.1.1.2.2.2)]))) none) (cond r2.1.2.1 (cond (decide ((x4.length+[(r2.1.1.1,r2.1.1.2.1,r2.1.1.2.2.1,r2.1.1.2.2.2)].length)*(24:Nat)≤(140737488355328:Nat))) (lL3 x0 x1 x2 (IntKind.i64.wrap (x3+1)) (x4++[(r2.1.1.1,r2.1.1.2.1,r2.1.1.2.2.1,r2.1.1.2.2.2)])) none) (lL3 x0 x1 x2 (IntKind.i64.wrap (x3+1)) x4))) none) none) none) none) (some ((x4,()),()))
theorem yfg(n:Nat)(a:Lq)(b c:Int):runF TT G159 ymw Try.f159 c159 yc2 yi0 n (a,b,c,())=zqi n (fun x0 x1 x2 x3 x4=>yas n (.head 3) [n] (zg8 x0 x1 x2 x3 x4)) a b c:=by kernel_rfl
theorem zz1(n:Nat)(x0:Lq)(x1 x2 x3:Int)(x4:Lq):yas n (.head 3) [0] (zg8 x0 x1 x2 x3 x4)=none:=by kernel_rfl
theorem yl0(n m3:Nat)(x0:Lq)(x1 x2 x3:Int)(x4:Lq):yas n (.head 3) [m3+1] (zg8 x0 x1 x2 x3 x4)=zca n (fun x0 x1 x2 x3 x4=>yas n (.head 3) [m3] (zg8 x0 x1 x2 x3 x4)) x0 x1 x2 x3 x4:=by kernel_rfl
noncomputable def zl4(n:Nat):Nat→Lq→Int→Int→Int→Lq→Option R159
 |0,_,_,_,_,_=>none
 |m+1,x0,x1,x2,x3,x4=>zca n (zl4 n m) x0 x1 x2 x3 x4
noncomputable def p159(n:Nat)(a:Lq)(b c:Int):Option R159:=zqi n (zl4 n n) a b c
theorem yh_(n:Nat):∀ (m3:Nat) (x0:Lq) (x1 x2 x3:Int) (x4:Lq),yas n (.head 3) [m3] (zg8 x0 x1 x2 x3 x4)=zl4 n m3 x0 x1 x2 x3 x4:=by
 intro m
 induction m with
 |zero=>intros;rw[zz1];rfl
 |succ m ih =>
  intros;rw[yl0]
  try simp only[ih]
  rfl
noncomputable def q159(n:Nat)(x:zan yc2):Option R159:=p159 n x.1 x.2.1 x.2.2.1
noncomputable def ync:Sm:=⟨yc2,yi0,false,q159⟩
theorem yp1:GamOK Try.prog G159:=by intro f s h;unfold G159 at h;split at h;exact gj h y175;cases h
theorem hh159:Hp 159 ync:=hOf (zaf (an:=ymw) (c:=c159) zax yp1 zaw Try.func159 (by kernel_rfl) rfl (by decide +kernel)) fun n x=>(yfg n x.1 x.2.1 x.2.2.1).trans (by simp only[yh_];try rfl)
theorem y159:Gk 159 ync:=⟨⟨Try.f159,c159,Try.func159,by kernel_rfl,by decide +kernel⟩,hh159⟩
noncomputable def c121:Code:=(Try.f121.body.getD .skip)
def yrw:An:=⟨fun _=>⟨[],[]⟩,fun _ _=>none⟩
abbrev ydf:List PK:=[.val (.row 116 tAr) false,.val i64 false,.val i64 false]
abbrev yjd:List RK:=[.own (.row 116 tAr) false,.val .bool false]
abbrev R121:=zak yjd×zaj ydf
noncomputable def G121:Gam:=fun f=>match f with|127=>some ybi|158=>some ybg|159=>some ync|_=>none
noncomputable def zdk(n:Nat)(a:Lq)(b c:Int):Option R121 :=
 (q127 n (a,())).bind fun r0=>cond (!r0.1.1) (some (([],(false,())),())) ((q158 n ((b,c,false,false),())).bind fun r1=>cond (!r1.1.1) (some (([],(false,())),())) ((q159 n (a,b,IntKind.i64.wrap (IntKind.i64.wrap (b+c) - (1:Int)),())).bind fun r2=>(q127 n (r2.1.1,())).bind fun r3=>cond (!r3.1.1) (some (([],(false,())),())) (some ((r2.1.1,(true,())),()))))
theorem yfw(n:Nat)(a:Lq)(b c:Int):runF TT G121 yrw Try.f121 c121 ydf yjd n (a,b,c,())=zdk n a b c:=by kernel_rfl
noncomputable def p121(n:Nat)(a:Lq)(b c:Int):Option R121:=zdk n a b c
noncomputable def q121(n:Nat)(x:zan ydf):Option R121:=p121 n x.1 x.2.1 x.2.2.1
noncomputable def ynl:Sm:=⟨ydf,yjd,false,q121⟩
theorem yqe:GamOK Try.prog G121:=by intro f s h;unfold G121 at h;split at h;exact gj h y127;exact gj h y158;exact gj h y159;cases h
theorem hh121:Hp 121 ynl:=hOf (zaf (an:=yrw) (c:=c121) zax yqe zaw Try.func121 (by kernel_rfl) rfl (by decide +kernel)) fun n x=>(yfw n x.1 x.2.1 x.2.2.1).trans rfl
theorem y121:Gk 121 ynl:=⟨⟨Try.f121,c121,Try.func121,by kernel_rfl,by decide +kernel⟩,hh121⟩
noncomputable def c160:Code:=(Try.f160.body.getD .skip)
def yrl:An:=⟨fun _=>⟨[],[]⟩,fun _ _=>none⟩
abbrev yc1:List PK:=[.own tPg true,.val i64 false]
abbrev yiz:List RK:=[.own tPg true]
abbrev R160:=zak yiz×zaj yc1
noncomputable def G160:Gam:=fun _=>none
noncomputable def zgg(n:Nat)(a:Lb×Li)(b:Int):Option R160 :=
 cond (decide ((0:Int)≤b)) (cond (decide (b<(↑(List.length a.2):Int))) (cond (decide ((0:Int)≤b)) (cond (decide (b<(↑(List.length a.2):Int))) (cond (decide ((0:Int)≤b)) (cond (decide (b<(↑(List.set a.2 b.toNat (IntKind.i64.wrap (List.getD a.2 b.toNat (0:Int) - (1:Int)))).length:Int))) (cond (decide ((List.set a.2 b.toNat (IntKind.i64.wrap (List.getD a.2 b.toNat (0:Int) - (1:Int)))).getD b.toNat (0:Int)=(0:Int))) (cond (decide ((0:Int)≤b)) (cond (decide (b<(↑(List.length a.1):Int))) (some (((List.set a.1 b.toNat (ByteArray.mk #[]),List.set a.2 b.toNat (IntKind.i64.wrap (List.getD a.2 b.toNat (0:Int) - (1:Int)))),()),())) none) none) (some (((a.1,List.set a.2 b.toNat (IntKind.i64.wrap (List.getD a.2 b.toNat (0:Int) - (1:Int)))),()),()))) none) none) none) none) none) none
theorem yfe(n:Nat)(a:Lb×Li)(b:Int):runF TT G160 yrl Try.f160 c160 yc1 yiz n (a,b,())=zgg n a b:=by kernel_rfl
noncomputable def p160(n:Nat)(a:Lb×Li)(b:Int):Option R160:=zgg n a b
noncomputable def q160(n:Nat)(x:zan yc1):Option R160:=p160 n x.1 x.2.1
noncomputable def ygp:Sm:=⟨yc1,yiz,false,q160⟩
theorem yp0:GamOK Try.prog G160:=fun _ _ h=>by cases h
theorem hh160:Hp 160 ygp:=hOf (zaf (an:=yrl) (c:=c160) zax yp0 zaw Try.func160 (by kernel_rfl) rfl (by decide +kernel)) fun n x=>(yfe n x.1 x.2.1).trans rfl
theorem y160:Gk 160 ygp:=⟨⟨Try.f160,c160,Try.func160,by kernel_rfl,by decide +kernel⟩,hh160⟩
noncomputable def c122:Code:=(Try.f122.body.getD .skip)
def yrv:An:=⟨fun _=>⟨[],[]⟩,fun _ _=>none⟩
abbrev yde:List PK:=[.own tMem true,.val i64 false,.val i64 false]
abbrev yjc:List RK:=[.own tMem true]
abbrev R122:=zak yjc×zaj yde
noncomputable def G122:Gam:=fun f=>match f with|160=>some ygp|_=>none
noncomputable def zgp(n:Nat)(a:Mm)(b c:Int):Option R122 :=
 cond (decide ((0:Int)≤b)) (cond (decide (b<(↑(List.length a.2.2.1):Int))) (cond (decide ((0:Int)≤c)) (cond (decide (c<(↑(List.length (List.getD a.2.2.1 b.toNat (false,[],[])).2.2):Int))) (cond (decide ((List.getD (List.getD a.2.2.1 b.toNat (false,[],[])).2.2 c.toNat (0,0,false,false)).1=(1:Int))) ((q160 n ((a.1.1,a.1.2),(List.getD (List.getD a.2.2.1 b.toNat (false,[],[])).2.2 c.toNat (0,0,false,false)).2.1,())).bind fun r0=>cond (decide ((0:Int)≤b)) (cond (decide (b<(↑(List.length a.2.2.1):Int))) (cond (decide ((0:Int)≤c)) (cond (decide (c<(↑(List.length (List.getD a.2.2.1 b.toNat (false,[],[])).2.2):Int))) (some ((((r0.1.1.1,r0.1.1.2),((a.2.1.1,a.2.1.2),(List.set a.2.2.1 b.toNat ((List.getD a.2.2.1 b.toNat (false,[],[])).1,(List.getD a.2.2.1 b.toNat (false,[],[])).2.1,List.set (List.getD a.2.2.1 b.toNat (false,[],[])).2.2 c.toNat ((0:Int),(0:Int),false,false)),a.2.2.2))),()),())) none) none) none) none) (cond (decide ((List.getD (List.getD a.2.2.1 b.toNat (false,[],[])).2.2 c.toNat (0,0,false,false)).1=(2:Int))) ((q160 n ((a.2.1.1,a.2.1.2),(List.getD (List.getD a.2.2.1 b.toNat (false,[],[])).2.2 c.toNat (0,0,false,false)).2.1,())).bind fun r1=>cond (decide ((0:Int)≤b)) (cond (decide (b<(↑(List.length a.2.2.1):Int))) (cond (decide ((0:Int)≤c)) (cond (decide (c<(↑(List.length (List.getD a.2.2.1 b.toNat (false,[],[])).2.2):Int))) (some ((((a.1.1,a.1.2),((r1.1.1.1,r1.1.1.2),(List.set a.2.2.1 b.toNat ((List.getD a.2.2.1 b.toNat (false,[],[])).1,(List.getD a.2.2.1 b.toNat (false,[],[])).2.1,List.set (List.getD a.2.2.1 b.toNat (false,[],[])).2.2 c.toNat ((0:Int),(0:Int),false,false)),a.2.2.2))),()),())) none) none) none) none) (cond (decide ((0:Int)≤b)) (cond (decide (b<(↑(List.length a.2.2.1):Int))) (cond (decide ((0:Int)≤c)) (cond (decide (c<(↑(List.length (List.getD a.2.2.1 b.toNat (false,[],[])).2.2):Int))) (some ((((a.1.1,a.1.2),((a.2.1.1,a.2.1.2),(List.set a.2.2.1 b.toNat ((List.getD a.2.2.1 b.toNat (false,[],[])).1,(List.getD a.2.2.1 b.toNat (false,[],[])).2.1,List.set (List.getD a.2.2.1 b.toNat (false,[],[])).2.2 c.toNat ((0:Int),(0:Int),false,false)),a.2.2.2))),()),())) none) none) none) none))) none) none) none) none
theorem yfv(n:Nat)(a:Mm)(b c:Int):runF TT G122 yrv Try.f122 c122 yde yjc n (a,b,c,())=zgp n a b c:=by kernel_rfl
noncomputable def p122(n:Nat)(a:Mm)(b c:Int):Option R122:=zgp n a b c
noncomputable def q122(n:Nat)(x:zan yde):Option R122:=p122 n x.1 x.2.1 x.2.2.1
noncomputable def ygr:Sm:=⟨yde,yjc,false,q122⟩
theorem yqd:GamOK Try.prog G122:=by intro f s h;unfold G122 at h;split at h;exact gj h y160;cases h
theorem hh122:Hp 122 ygr:=hOf (zaf (an:=yrv) (c:=c122) zax yqd zaw Try.func122 (by kernel_rfl) rfl (by decide +kernel)) fun n x=>(yfv n x.1 x.2.1 x.2.2.1).trans rfl
theorem y122:Gk 122 ygr:=⟨⟨Try.f122,c122,Try.func122,by kernel_rfl,by decide +kernel⟩,hh122⟩
noncomputable def c55:Code:=(Try.f55.body.getD .skip)
def an55:An:=⟨fun r=>match r with|6=>⟨[1,2,3,4,8,12],[]⟩|_=>⟨[],[]⟩,fun _ _=>none⟩
abbrev ps55:List PK:=[.own tMem true,.val i64 false,.val i64 false,.val i64 false]
abbrev rs55:List RK:=[.own tMem true,.val i64 false]
abbrev R55:=zak rs55×zaj ps55
noncomputable def G55:Gam:=fun f=>match f with|121=>some ynl|122=>some ygr|_=>none
noncomputable def at55:Nat→Pt→List Nat→St→Option R55:=atF TT G55 an55 Try.f55 c55 _ _
def zkv(x0 x1 x2 x3 x4 x5:Int)(x6:Lb)(x7:Li)(x8:Lb)(x9:Li)(x10:List (Br)):St:=(St.mk ([Uu,Ai x0,Ai x1,Ai x2,AV.one (SV.bptr 1000000 0),Uu,Uu,Uu,AV.one (SV.bptr 1000001 0),Uu,Uu,Uu,Ai x3]++Ur 34) [(1000000,(Ent.box [Sr 1000002,Sr 1000003,Sr 1000004,Sr 1000005,Sr 1000006,Si x4])),(1000001,(Ent.box [SV.nil,SV.nil,SV.nil,SV.nil,SV.nil,Si x5])),(1000002,Er ⟨9,Ty.str,x6⟩),(1000003,Er ⟨3,Ty.int .i64,x7⟩),(1000004,Er ⟨9,Ty.str,x8⟩),(1000005,Er ⟨3,Ty.int .i64,x9⟩),(1000006,Er ⟨71,ySp,x10⟩)])
noncomputable def zet(n:Nat)(lL6:Int→Int→Int→Int→Int→Int→Lb→Li→Lb→Li→(List (Br))→Option R55)(a:Mm)(b c d:Int):Option R55 :=
 cond (decide ((0:Int)≤b)) (cond (decide (b<(↑(List.length a.2.2.1):Int))) ((q121 n ((List.getD a.2.2.1 b.toNat (false,[],[])).2.1,c,d,())).bind fun r0=>cond (!r0.1.2.1) (some ((((a.1.1,a.1.2),((a.2.1.1,a.2.1.2),(a.2.2.1,a.2.2.2))),((4:Int),())),())) (cond (decide ((0:Int)≤b)) (cond (decide (b<(↑(List.length a.2.2.1):Int))) (lL6 b c d c a.2.2.2 (0:Int) a.1.1 a.1.2 a.2.1.1 a.2.1.2 (List.set a.2.2.1 b.toNat ((List.getD a.2.2.1 b.toNat (false,[],[])).1,r0.1.1,(List.getD a.2.2.1 b.toNat (false,[],[])).2.2))) none) none)) none) none
noncomputable def zdd(n:Nat)(lL6:Int→Int→Int→Int→Int→Int→Lb→Li→Lb→Li→(List (Br))→Option R55)(x0 x1 x2 x3 x4 x5:Int)(x6:Lb)(x7:Li)(x8:Lb)(x9:Li)(x10:List (Br)):Option R55 :=
 cond (decide (x3<IntKind.i64.wrap (x1+x2))) ((q122 n (((x6,x7),(x8,x9),x10,x4),x0,x3,())).bind fun r2=>lL6 x0 x1 x2 (IntKind.i64.wrap (x3+1)) r2.1.1.2.2.2 x5 r2.1.1.1.1 r2.1.1.1.2 r2.1.1.2.1.1 r2.1.1.2.1.2 r2.1.1.2.2.1) (some ((((x6,x7),((x8,x9),(x10,x4))),((0:Int),())),()))
theorem yk6(n:Nat)(a:Mm)(b c d:Int):runF TT G55 an55 Try.f55 c55 ps55 rs55 n (a,b,c,d,())=zet n (fun x0 x1 x2 x3 x4 x5 x6 x7 x8 x9 x10=>at55 n (.head 6) [n] (zkv x0 x1 x2 x3 x4 x5 x6 x7 x8 x9 x10)) a b c d:=by kernel_rfl
theorem yeu(n:Nat)(x0 x1 x2 x3 x4 x5:Int)(x6:Lb)(x7:Li)(x8:Lb)(x9:Li)(x10:List (Br)):at55 n (.head 6) [0] (zkv x0 x1 x2 x3 x4 x5 x6 x7 x8 x9 x10)=none:=by kernel_rfl
theorem yq0(n m6:Nat)(x0 x1 x2 x3 x4 x5:Int)(x6:Lb)(x7:Li)(x8:Lb)(x9:Li)(x10:List (Br)):at55 n (.head 6) [m6+1] (zkv x0 x1 x2 x3 x4 x5 x6 x7 x8 x9 x10)=zdd n (fun x0 x1 x2 x3 x4 x5 x6 x7 x8 x9 x10=>at55 n (.head 6) [m6] (zkv x0 x1 x2 x3 x4 x5 x6 x7 x8 x9 x10)) x0 x1 x2 x3 x4 x5 x6 x7 x8 x9 x10:=by kernel_rfl
noncomputable def zlm(n:Nat):Nat→Int→Int→Int→Int→Int→Int→Lb→Li→Lb→Li→(List (Br))→Option R55
 |0,_,_,_,_,_,_,_,_,_,_,_=>none
 |m+1,x0,x1,x2,x3,x4,x5,x6,x7,x8,x9,x10=>zdd n (zlm n m) x0 x1 x2 x3 x4 x5 x6 x7 x8 x9 x10
noncomputable def p55(n:Nat)(a:Mm)(b c d:Int):Option R55:=zet n (zlm n n) a b c d
theorem yn9(n:Nat):∀ (m6:Nat) (x0 x1 x2 x3 x4 x5:Int) (x6:Lb) (x7:Li) (x8:Lb) (x9:Li) (x10:List (Br)),at55 n (.head 6) [m6] (zkv x0 x1 x2 x3 x4 x5 x6 x7 x8 x9 x10)=zlm n m6 x0 x1 x2 x3 x4 x5 x6 x7 x8 x9 x10:=by
 intro m
 induction m with
 |zero=>intros;rw[yeu];rfl
 |succ m ih =>
  intros;rw[yq0]
  try simp only[ih]
  rfl
noncomputable def q55(n:Nat)(x:zan ps55):Option R55:=p55 n x.1 x.2.1 x.2.2.1 x.2.2.2.1
noncomputable def Sm55:Sm:=⟨ps55,rs55,false,q55⟩
theorem gam55:GamOK Try.prog G55:=by intro f s h;unfold G55 at h;split at h;exact gj h y121;exact gj h y122;cases h
theorem hh55:Hp 55 Sm55:=hOf (zaf (an:=an55) (c:=c55) zax gam55 zaw Try.func55 (by kernel_rfl) rfl (by decide +kernel)) fun n x=>(yk6 n x.1 x.2.1 x.2.2.1 x.2.2.2.1).trans (by simp only[yn9];try rfl)
theorem y55:Gk 55 Sm55:=⟨⟨Try.f55,c55,Try.func55,by kernel_rfl,by decide +kernel⟩,hh55⟩
noncomputable def c103:Code:=(Try.f103.body.getD .skip)
def ym5:An:=⟨fun r=>match r with|2=>⟨[1,2,4,5],[]⟩|_=>⟨[],[]⟩,fun _ _=>none⟩
abbrev ydu:List PK:=[.own tMem true,.val i64 false]
abbrev yjr:List RK:=[.own tMem true]
abbrev R103:=zak yjr×zaj ydu
noncomputable def G103:Gam:=fun f=>match f with|122=>some ygr|_=>none
noncomputable def yay:Nat→Pt→List Nat→St→Option R103:=atF TT G103 ym5 Try.f103 c103 _ _
def zhg(x0 x1 x2 x3:Int)(x4:Lb)(x5:Li)(x6:Lb)(x7:Li)(x8:List (Br)):St:=(St.mk ([Uu,Ai x0,AV.one (SV.bptr 1000000 0),Uu,AV.one (SV.bptr 1000001 0),Ai x1]++Ur 14) [(1000000,(Ent.box [Sr 1000002,Sr 1000003,Sr 1000004,Sr 1000005,Sr 1000006,Si x2])),(1000001,(Ent.box [SV.nil,SV.nil,SV.nil,SV.nil,SV.nil,Si x3])),(1000002,Er ⟨9,Ty.str,x4⟩),(1000003,Er ⟨3,Ty.int .i64,x5⟩),(1000004,Er ⟨9,Ty.str,x6⟩),(1000005,Er ⟨3,Ty.int .i64,x7⟩),(1000006,Er ⟨71,ySp,x8⟩)])
noncomputable def zqq(n:Nat)(lL2:Int→Int→Int→Int→Lb→Li→Lb→Li→(List (Br))→Option R103)(a:Mm)(b:Int):Option R103 :=
 lL2 b (0:Int) a.2.2.2 (0:Int) a.1.1 a.1.2 a.2.1.1 a.2.1.2 a.2.2.1
noncomputable def zfb(n:Nat)(lL2:Int→Int→Int→Int→Lb→Li→Lb→Li→(List (Br))→Option R103)(x0 x1 x2 x3:Int)(x4:Lb)(x5:Li)(x6:Lb)(x7:Li)(x8:List (Br)):Option R103 :=
 cond (decide (x1<16)) ((q122 n (((x4,x5),(x6,x7),x8,x2),x0,x1,())).bind fun r1=>lL2 x0 (IntKind.i64.wrap (x1+1)) r1.1.1.2.2.2 x3 r1.1.1.1.1 r1.1.1.1.2 r1.1.1.2.1.1 r1.1.1.2.1.2 r1.1.1.2.2.1) (cond (decide (0≤x0)) (cond (decide (x0<(↑x8.length:Int))) (some ((((x4,x5),((x6,x7),(x8.set x0.toNat (false,[],[]),x2))),()),())) none) none)
theorem yf_(n:Nat)(a:Mm)(b:Int):runF TT G103 ym5 Try.f103 c103 ydu yjr n (a,b,())=zqq n (fun x0 x1 x2 x3 x4 x5 x6 x7 x8=>yay n (.head 2) [n] (zhg x0 x1 x2 x3 x4 x5 x6 x7 x8)) a b:=by kernel_rfl
theorem yab(n:Nat)(x0 x1 x2 x3:Int)(x4:Lb)(x5:Li)(x6:Lb)(x7:Li)(x8:List (Br)):yay n (.head 2) [0] (zhg x0 x1 x2 x3 x4 x5 x6 x7 x8)=none:=by kernel_rfl
theorem ymd(n m2:Nat)(x0 x1 x2 x3:Int)(x4:Lb)(x5:Li)(x6:Lb)(x7:Li)(x8:List (Br)):yay n (.head 2) [m2+1] (zhg x0 x1 x2 x3 x4 x5 x6 x7 x8)=zfb n (fun x0 x1 x2 x3 x4 x5 x6 x7 x8=>yay n (.head 2) [m2] (zhg x0 x1 x2 x3 x4 x5 x6 x7 x8)) x0 x1 x2 x3 x4 x5 x6 x7 x8:=by kernel_rfl
noncomputable def zpj(n:Nat):Nat→Int→Int→Int→Int→Lb→Li→Lb→Li→(List (Br))→Option R103
 |0,_,_,_,_,_,_,_,_,_=>none
 |m+1,x0,x1,x2,x3,x4,x5,x6,x7,x8=>zfb n (zpj n m) x0 x1 x2 x3 x4 x5 x6 x7 x8
noncomputable def p103(n:Nat)(a:Mm)(b:Int):Option R103:=zqq n (zpj n n) a b
theorem yik(n:Nat):∀ (m2:Nat) (x0 x1 x2 x3:Int) (x4:Lb) (x5:Li) (x6:Lb) (x7:Li) (x8:List (Br)),yay n (.head 2) [m2] (zhg x0 x1 x2 x3 x4 x5 x6 x7 x8)=zpj n m2 x0 x1 x2 x3 x4 x5 x6 x7 x8:=by
 intro m
 induction m with
 |zero=>intros;rw[yab];rfl
 |succ m ih =>
  intros;rw[ymd]
  try simp only[ih]
  rfl
noncomputable def q103(n:Nat)(x:zan ydu):Option R103:=p103 n x.1 x.2.1
noncomputable def ynw:Sm:=⟨ydu,yjr,false,q103⟩
theorem yqs:GamOK Try.prog G103:=by intro f s h;unfold G103 at h;split at h;exact gj h y122;cases h
theorem hh103:Hp 103 ynw:=hOf (zaf (an:=ym5) (c:=c103) zax yqs zaw Try.func103 (by kernel_rfl) rfl (by decide +kernel)) fun n x=>(yf_ n x.1 x.2.1).trans (by simp only[yik];try rfl)
theorem y103:Gk 103 ynw:=⟨⟨Try.f103,c103,Try.func103,by kernel_rfl,by decide +kernel⟩,hh103⟩
noncomputable def c170:Code:=(Try.f170.body.getD .skip)
def ymv:An:=⟨fun r=>match r with|4=>⟨[0,3,5,6,7],[]⟩|_=>⟨[],[]⟩,fun _ _=>none⟩
abbrev yc0:List PK:=[.val (.row 116 tAr) false,.val tAr true]
abbrev yiy:List RK:=[.own (.row 116 tAr) false]
abbrev R170:=zak yiy×zaj yc0
noncomputable def G170:Gam:=fun _=>none
noncomputable def yar:Nat→Pt→List Nat→St→Option R170:=atF TT G170 ymv Try.f170 c170 _ _
def zg7(x0:Lq)(x1:Bool)(x2 x3 x4:Int)(x5 x6:Bool)(x7:Lq):St:=(St.mk ([AV.one (SV.con (⟨116,yAq,x0⟩:Rw)),Uu,Uu,AV.one (SV.bptr 1000000 0),Uu,AV.one (Sr 1000001),AV.one (SV.bool x1),Ai x2]++Ur 37) [(1000000,(Ent.box [Si x3,Si x4,SV.bool x5,SV.bool x6])),(1000001,Er ⟨116,yAq,x7⟩)])
noncomputable def zqh(n:Nat)(lL4:Lq→Bool→Int→Int→Int→Bool→Bool→Lq→Option R170)(a:Lq)(b:Aq):Option R170 :=
 lL4 a false (0:Int) b.1 b.2.1 b.2.2.1 b.2.2.2 ([])
noncomputable def ze6(n:Nat)(lL4:Lq→Bool→Int→Int→Int→Bool→Bool→Lq→Option R170)(x0:Lq)(x1:Bool)(x2 x3 x4:Int)(x5 x6:Bool)(x7:Lq):Option R170 :=
 cond (decide (x2<(↑x0.length:Int))) (cond (!x1) (cond (decide (0≤x2)) (cond (decide (x2<(↑x0.length:Int))) (cond (decide (x3≤(x0.getD x2.toNat ((0:Int),(0:Int),false,false)).1)) (cond (decide ((x7.length+[(x3,x4,x5,x6)].length)*(24:Nat)≤(140737488355328:Nat))) (cond (decide (0≤x2)) (cond (decide (x2<(↑x0.length:Int))) (cond (decide (((x7++[(x3,x4,x5,x6)]).length+[((x0.getD x2.toNat ((0:Int),(0:Int),false,false)).1,(x0.getD x2.toNat ((0:Int),(0:Int),false,false)).2.1,(x0.getD x2.toNat ((0:Int),(0:Int),false,false)).2.2.1,(x0.getD x2.toNat ((0:Int),(0:Int),false,false)).2.2.2)].length)*(24:Nat)≤(140737488355328:Nat))) (lL4 x0 true (IntKind.i64.wrap (x2+1)) x3 x4 x5 x6 (x7++[(x3,x4,x5,x6)]++[((x0.getD x2.toNat ((0:Int),(0:Int),false,false)).1,(x0.getD x2.toNat ((0:Int),(0:Int),false,false)).2.1,(x0.getD x2.toNat ((0:Int),(0:Int),false,false)).2.2.1,(x0.getD x2.toNat ((0:Int),(0:Int),false,false)).2.2.2)])) none) none) none) none) (cond (decide (0≤x2)) (cond (decide (x2<(↑x0.length:Int))) (cond (decide ((x7.length+[((x0.getD x2.toNat ((0:Int),(0:Int),false,false)).1,(x0.getD x2.toNat ((0:Int),(0:Int),false,false)).2.1,(x0.getD x2.toNat ((0:Int),(0:Int),false,false)).2.2.1,(x0.getD x2.toNat ((0:Int),(0:Int),false,false)).2.2.2)].length)*(24:Nat)≤(140737488355328:Nat))) (lL4 x0 x1 (IntKind.i64.wrap (x2+1)) x3 x4 x5 x6 (x7++[((x0.getD x2.toNat ((0:Int),(0:Int),false,false)).1,(x0.getD x2.toNat ((0:Int),(0:Int),false,false)).2.1,(x0.getD x2.toNat ((0:Int),(0:Int),false,false)).2.2.1,(x0.getD x2.toNat ((0:Int),(0:Int),false,false)).2.2.2)])) none) none) none)) none) none) (cond (decide (0≤x2)) (cond (decide (x2<(↑x0.length:Int))) (cond (decide ((x7.length+[((x0.getD x2.toNat ((0:Int),(0:Int),false,false)).1,(x0.getD x2.toNat ((0:Int),(0:Int),false,false)).2.1,(x0.getD x2.toNat ((0:Int),(0:Int),false,false)).2.2.1,(x0.getD x2.toNat ((0:Int),(0:Int),false,false)).2.2.2)].length)*(24:Nat)≤(140737488355328:Nat))) (lL4 x0 x1 (IntKind.i64.wrap (x2+1)) x3 x4 x5 x6 (x7++[((x0.getD x2.toNat ((0:Int),(0:Int),false,false)).1,(x0.getD x2.toNat ((0:Int),(0:Int),false,false)).2.1,(x0.getD x2.toNat ((0:Int),(0:Int),false,false)).2.2.1,(x0.getD x2.toNat ((0:Int),(0:Int),false,false)).2.2.2)])) none) none) none)) (cond (!x1) (cond (decide ((x7.length+[(x3,x4,x5,x6)].length)*(24:Nat)≤(140737488355328:Nat))) (some ((x7++[(x3,x4,x5,x6)],()),())) none) (some ((x7,()),())))
theorem yfd(n:Nat)(a:Lq)(b:Aq):runF TT G170 ymv Try.f170 c170 yc0 yiy n (a,b,())=zqh n (fun x0 x1 x2 x3 x4 x5 x6 x7=>yar n (.head 4) [n] (zg7 x0 x1 x2 x3 x4 x5 x6 x7)) a b:=by kernel_rfl
theorem zz0(n:Nat)(x0:Lq)(x1:Bool)(x2 x3 x4:Int)(x5 x6:Bool)(x7:Lq):yar n (.head 4) [0] (zg7 x0 x1 x2 x3 x4 x5 x6 x7)=none:=by kernel_rfl
theorem ylx(n m4:Nat)(x0:Lq)(x1:Bool)(x2 x3 x4:Int)(x5 x6:Bool)(x7:Lq):yar n (.head 4) [m4+1] (zg7 x0 x1 x2 x3 x4 x5 x6 x7)=ze6 n (fun x0 x1 x2 x3 x4 x5 x6 x7=>yar n (.head 4) [m4] (zg7 x0 x1 x2 x3 x4 x5 x6 x7)) x0 x1 x2 x3 x4 x5 x6 x7:=by kernel_rfl
noncomputable def zpf(n:Nat):Nat→Lq→Bool→Int→Int→Int→Bool→Bool→Lq→Option R170
 |0,_,_,_,_,_,_,_,_=>none
 |m+1,x0,x1,x2,x3,x4,x5,x6,x7=>ze6 n (zpf n m) x0 x1 x2 x3 x4 x5 x6 x7
noncomputable def p170(n:Nat)(a:Lq)(b:Aq):Option R170:=zqh n (zpf n n) a b
theorem yh9(n:Nat):∀ (m4:Nat) (x0:Lq) (x1:Bool) (x2 x3 x4:Int) (x5 x6:Bool) (x7:Lq),yar n (.head 4) [m4] (zg7 x0 x1 x2 x3 x4 x5 x6 x7)=zpf n m4 x0 x1 x2 x3 x4 x5 x6 x7:=by
 intro m
 induction m with
 |zero=>intros;rw[zz0];rfl
 |succ m ih =>
  intros;rw[ylx]
  try simp only[ih]
  rfl
noncomputable def q170(n:Nat)(x:zan yc0):Option R170:=p170 n x.1 x.2.1
noncomputable def ynb:Sm:=⟨yc0,yiy,false,q170⟩
theorem ypz:GamOK Try.prog G170:=fun _ _ h=>by cases h
theorem hh170:Hp 170 ynb:=hOf (zaf (an:=ymv) (c:=c170) zax ypz zaw Try.func170 (by kernel_rfl) rfl (by decide +kernel)) fun n x=>(yfd n x.1 x.2.1).trans (by simp only[yh9];try rfl)
theorem y170:Gk 170 ynb:=⟨⟨Try.f170,c170,Try.func170,by kernel_rfl,by decide +kernel⟩,hh170⟩
noncomputable def c152:Code:=(Try.f152.body.getD .skip)
def yrr:An:=⟨fun _=>⟨[],[]⟩,fun _ _=>none⟩
abbrev yc9:List PK:=[.val (.row 116 tAr) false,.val tAr true]
abbrev yi7:List RK:=[.own (.row 116 tAr) false,.val .bool false]
abbrev R152:=zak yi7×zaj yc9
noncomputable def G152:Gam:=fun f=>match f with|127=>some ybi|158=>some ybg|170=>some ynb|_=>none
noncomputable def zgm(n:Nat)(a:Lq)(b:Aq):Option R152 :=
 (q127 n (a,())).bind fun r0=>cond (!r0.1.1) (some (([],(false,())),())) ((q158 n ((b.1,b.2.1,b.2.2.1,b.2.2.2),())).bind fun r1=>cond (!r1.1.1) (some (([],(false,())),())) ((q170 n (a,(b.1,b.2.1,b.2.2.1,b.2.2.2),())).bind fun r2=>(q127 n (r2.1.1,())).bind fun r3=>cond (!r3.1.1) (some (([],(false,())),())) (some ((r2.1.1,(true,())),()))))
theorem yfo(n:Nat)(a:Lq)(b:Aq):runF TT G152 yrr Try.f152 c152 yc9 yi7 n (a,b,())=zgm n a b:=by kernel_rfl
noncomputable def p152(n:Nat)(a:Lq)(b:Aq):Option R152:=zgm n a b
noncomputable def q152(n:Nat)(x:zan yc9):Option R152:=p152 n x.1 x.2.1
noncomputable def yng:Sm:=⟨yc9,yi7,false,q152⟩
theorem yp8:GamOK Try.prog G152:=by intro f s h;unfold G152 at h;split at h;exact gj h y127;exact gj h y158;exact gj h y170;cases h
theorem hh152:Hp 152 yng:=hOf (zaf (an:=yrr) (c:=c152) zax yp8 zaw Try.func152 (by kernel_rfl) rfl (by decide +kernel)) fun n x=>(yfo n x.1 x.2.1).trans rfl
theorem y152:Gk 152 yng:=⟨⟨Try.f152,c152,Try.func152,by kernel_rfl,by decide +kernel⟩,hh152⟩
noncomputable def c108:Code:=(Try.f108.body.getD .skip)
def yr3:An:=⟨fun _=>⟨[],[]⟩,fun _ _=>none⟩
abbrev ydr:List PK:=[.own tMem true,.val i64 false,.val tAr true]
abbrev yjo:List RK:=[.own tMem true,.val i64 false]
abbrev R108:=zak yjo×zaj ydr
noncomputable def G108:Gam:=fun f=>match f with|152=>some yng|_=>none
noncomputable def zgv(n:Nat)(a:Mm)(b:Int)(c:Aq):Option R108 :=
 cond (decide ((0:Int)≤b)) (cond (decide (b<(↑(List.length a.2.2.1):Int))) ((q152 n ((List.getD a.2.2.1 b.toNat (false,[],[])).2.1,(c.1,c.2.1,c.2.2.1,c.2.2.2),())).bind fun r0=>cond (!r0.1.2.1) (some ((((a.1.1,a.1.2),((a.2.1.1,a.2.1.2),(a.2.2.1,a.2.2.2))),((4:Int),())),())) (cond (decide ((0:Int)≤b)) (cond (decide (b<(↑(List.length a.2.2.1):Int))) (some ((((a.1.1,a.1.2),((a.2.1.1,a.2.1.2),(List.set a.2.2.1 b.toNat ((List.getD a.2.2.1 b.toNat (false,[],[])).1,r0.1.1,(List.getD a.2.2.1 b.toNat (false,[],[])).2.2),a.2.2.2))),((0:Int),())),())) none) none)) none) none
theorem yf7(n:Nat)(a:Mm)(b:Int)(c:Aq):runF TT G108 yr3 Try.f108 c108 ydr yjo n (a,b,c,())=zgv n a b c:=by kernel_rfl
noncomputable def p108(n:Nat)(a:Mm)(b:Int)(c:Aq):Option R108:=zgv n a b c
noncomputable def q108(n:Nat)(x:zan ydr):Option R108:=p108 n x.1 x.2.1 x.2.2.1
noncomputable def ygu:Sm:=⟨ydr,yjo,false,q108⟩
theorem yqp:GamOK Try.prog G108:=by intro f s h;unfold G108 at h;split at h;exact gj h y152;cases h
theorem hh108:Hp 108 ygu:=hOf (zaf (an:=yr3) (c:=c108) zax yqp zaw Try.func108 (by kernel_rfl) rfl (by decide +kernel)) fun n x=>(yf7 n x.1 x.2.1 x.2.2.1).trans rfl
theorem y108:Gk 108 ygu:=⟨⟨Try.f108,c108,Try.func108,by kernel_rfl,by decide +kernel⟩,hh108⟩
noncomputable def c72:Code:=(Try.f72.body.getD .skip)
def an72:An:=⟨fun _=>⟨[],[]⟩,fun _ _=>none⟩
abbrev ps72:List PK:=[.val .str false,.val i64 false,.val i64 false]
abbrev rs72:List RK:=[.val .str false]
abbrev R72:=zak rs72×zaj ps72
noncomputable def G72:Gam:=fun _=>none
noncomputable def zja(n:Nat)(a:ByteArray)(b c:Int):Option R72 :=
 cond (decide ((0:Int)≤b)) (cond (decide (b≤(↑a.size:Int))) (cond (decide ((a.extract (Int.toNat (0:Int)) b.toNat).size+(List.foldl (fun r n=>r.push (UInt8.ofNat n.toNat)) ByteArray.empty [IntKind.u8.wrap c]).size≤(9223372036854775807:Nat))) (cond (decide ((0:Int)≤IntKind.i64.wrap (b+(1:Int)))) (cond (decide (IntKind.i64.wrap (b+(1:Int))≤(↑a.size:Int))) (cond (decide ((a.extract (Int.toNat (0:Int)) b.toNat++List.foldl (fun r n=>r.push (UInt8.ofNat n.toNat)) ByteArray.empty [IntKind.u8.wrap c]).size+(a.extract (IntKind.i64.wrap (b+(1:Int))).toNat (↑a.size:Int).toNat).size≤(9223372036854775807:Nat))) (some ((a.extract (Int.toNat (0:Int)) b.toNat++List.foldl (fun r n=>r.push (UInt8.ofNat n.toNat)) ByteArray.empty [IntKind.u8.wrap c]++a.extract (IntKind.i64.wrap (b+(1:Int))).toNat (↑a.size:Int).toNat,()),())) none) none) none) none) none) none
theorem ykt(n:Nat)(a:ByteArray)(b c:Int):runF TT G72 an72 Try.f72 c72 ps72 rs72 n (a,b,c,())=zja n a b c:=by kernel_rfl
noncomputable def p72(n:Nat)(a:ByteArray)(b c:Int):Option R72:=zja n a b c
noncomputable def q72(n:Nat)(x:zan ps72):Option R72:=p72 n x.1 x.2.1 x.2.2.1
noncomputable def Sm72:Sm:=⟨ps72,rs72,false,q72⟩
theorem gam72:GamOK Try.prog G72:=fun _ _ h=>by cases h
theorem hh72:Hp 72 Sm72:=hOf (zaf (an:=an72) (c:=c72) zax gam72 zaw Try.func72 (by kernel_rfl) rfl (by decide +kernel)) fun n x=>(ykt n x.1 x.2.1 x.2.2.1).trans rfl
theorem y72:Gk 72 Sm72:=⟨⟨Try.f72,c72,Try.func72,by kernel_rfl,by decide +kernel⟩,hh72⟩
noncomputable def c172:Code:=(Try.f172.body.getD .skip)
def ymt:An:=⟨fun r=>match r with|2=>⟨[1,2,4,6],[]⟩|_=>⟨[],[]⟩,fun _ _=>none⟩
abbrev ycy:List PK:=[.own tPg true,.val .str false]
abbrev yiw:List RK:=[.own tPg true,.val i64 false]
abbrev R172:=zak yiw×zaj ycy
noncomputable def G172:Gam:=fun _=>none
noncomputable def yap:Nat→Pt→List Nat→St→Option R172:=atF TT G172 ymt Try.f172 c172 _ _
def zg5(x0:ByteArray)(x1:Int)(x2:Lb)(x3:Li):St:=(St.mk ([Uu,AV.one (SV.str x0),AV.one (SV.bptr 1000000 0),Uu,AV.one (SV.bptr 1000001 0),Uu,Ai x1]++Ur 25) [(1000000,(Ent.box [Sr 1000002,Sr 1000003])),(1000001,(Ent.box [SV.nil,SV.nil])),(1000002,Er ⟨9,Ty.str,x2⟩),(1000003,Er ⟨3,Ty.int .i64,x3⟩)])
noncomputable def zqg(n:Nat)(lL2:ByteArray→Int→Lb→Li→Option R172)(a:Lb×Li)(b:ByteArray):Option R172 :=
 lL2 b (0:Int) a.1 a.2
noncomputable def ze5(n:Nat)(lL2:ByteArray→Int→Lb→Li→Option R172)(x0:ByteArray)(x1:Int)(x2:Lb)(x3:Li):Option R172 :=
 cond (decide (x1<(↑x3.length:Int))) (cond (decide (0≤x1)) (cond (decide (x1<(↑x3.length:Int))) (cond (decide (x3.getD x1.toNat (0:Int)=(0:Int))) (cond (decide (0≤x1)) (cond (decide (x1<(↑x3.length:Int))) (cond (decide (0≤x1)) (cond (decide (x1<(↑x2.length:Int))) (some (((x2.set x1.toNat x0,x3.set x1.toNat (1:Int)),(x1,())),())) none) none) none) none) (lL2 x0 (IntKind.i64.wrap (x1+1)) x2 x3)) none) none) (some (((x2,x3),((-1:Int),())),()))
theorem yfb(n:Nat)(a:Lb×Li)(b:ByteArray):runF TT G172 ymt Try.f172 c172 ycy yiw n (a,b,())=zqg n (fun x0 x1 x2 x3=>yap n (.head 2) [n] (zg5 x0 x1 x2 x3)) a b:=by kernel_rfl
theorem zzy(n:Nat)(x0:ByteArray)(x1:Int)(x2:Lb)(x3:Li):yap n (.head 2) [0] (zg5 x0 x1 x2 x3)=none:=by kernel_rfl
theorem ylv(n m2:Nat)(x0:ByteArray)(x1:Int)(x2:Lb)(x3:Li):yap n (.head 2) [m2+1] (zg5 x0 x1 x2 x3)=ze5 n (fun x0 x1 x2 x3=>yap n (.head 2) [m2] (zg5 x0 x1 x2 x3)) x0 x1 x2 x3:=by kernel_rfl
noncomputable def zpe(n:Nat):Nat→ByteArray→Int→Lb→Li→Option R172
 |0,_,_,_,_=>none
 |m+1,x0,x1,x2,x3=>ze5 n (zpe n m) x0 x1 x2 x3
noncomputable def p172(n:Nat)(a:Lb×Li)(b:ByteArray):Option R172:=zqg n (zpe n n) a b
theorem yh7(n:Nat):∀ (m2:Nat) (x0:ByteArray) (x1:Int) (x2:Lb) (x3:Li),yap n (.head 2) [m2] (zg5 x0 x1 x2 x3)=zpe n m2 x0 x1 x2 x3:=by
 intro m
 induction m with
 |zero=>intros;rw[zzy];rfl
 |succ m ih =>
  intros;rw[ylv]
  try simp only[ih]
  rfl
noncomputable def q172(n:Nat)(x:zan ycy):Option R172:=p172 n x.1 x.2.1
noncomputable def ybe:Sm:=⟨ycy,yiw,false,q172⟩
theorem ypx:GamOK Try.prog G172:=fun _ _ h=>by cases h
theorem hh172:Hp 172 ybe:=hOf (zaf (an:=ymt) (c:=c172) zax ypx zaw Try.func172 (by kernel_rfl) rfl (by decide +kernel)) fun n x=>(yfb n x.1 x.2.1).trans (by simp only[yh7];try rfl)
theorem y172:Gk 172 ybe:=⟨⟨Try.f172,c172,Try.func172,by kernel_rfl,by decide +kernel⟩,hh172⟩
noncomputable def c174:Code:=(Try.f174.body.getD .skip)
def yms:An:=⟨fun r=>match r with|2=>⟨[1,2,3,4,5,10,11],[]⟩|5=>⟨[1,2,3,4,5,10,11,12],[]⟩|_=>⟨[],[]⟩,fun _ _=>none⟩
abbrev ycw:List PK:=[.own tMem true,.val i64 false,.val i64 false,.val i64 false,.val i64 false]
abbrev yiu:List RK:=[.own tMem true]
abbrev R174:=zak yiu×zaj ycw
noncomputable def G174:Gam:=fun _=>none
noncomputable def zmu:Nat→Pt→List Nat→St→Option R174:=atF TT G174 yms Try.f174 c174 _ _
def zg4(x0 x1 x2 x3 x4 x5 x6 x7:Int)(x8:Lb)(x9:Li)(x10:Lb)(x11:Li)(x12:List (Br)):St:=(St.mk ([Uu,Ai x0,Ai x1,Ai x2,Ai x3,AV.one (SV.bptr 1000000 0),Uu,Uu,Uu,Uu,AV.one (SV.bptr 1000001 0),Ai x4,Ai x5]++Ur 52) [(1000000,(Ent.box [Sr 1000002,Sr 1000003,Sr 1000004,Sr 1000005,Sr 1000006,Si x6])),(1000001,(Ent.box [SV.nil,SV.nil,SV.nil,SV.nil,SV.nil,Si x7])),(1000002,Er ⟨9,Ty.str,x8⟩),(1000003,Er ⟨3,Ty.int .i64,x9⟩),(1000004,Er ⟨9,Ty.str,x10⟩),(1000005,Er ⟨3,Ty.int .i64,x11⟩),(1000006,Er ⟨71,ySp,x12⟩)])
def zfe(x0 x1 x2 x3 x4 x5 x6:Int)(x7:Lb)(x8:Li)(x9:Lb)(x10:Li)(x11:List (Br)):St:=(St.mk ([Uu,Ai x0,Ai x1,Ai x2,Ai x3,AV.one (SV.bptr 1000000 0),Uu,Uu,Uu,Uu,AV.one (SV.bptr 1000001 0),Ai x4]++Ur 53) [(1000000,(Ent.box [Sr 1000002,Sr 1000003,Sr 1000004,Sr 1000005,Sr 1000006,Si x5])),(1000001,(Ent.box [SV.nil,SV.nil,SV.nil,SV.nil,SV.nil,Si x6])),(1000002,Er ⟨9,Ty.str,x7⟩),(1000003,Er ⟨3,Ty.int .i64,x8⟩),(1000004,Er ⟨9,Ty.str,x9⟩),(1000005,Er ⟨3,Ty.int .i64,x10⟩),(1000006,Er ⟨71,ySp,x11⟩)])
noncomputable def zqe(n:Nat)(lL2:Int→Int→Int→Int→Int→Int→Int→Lb→Li→Lb→Li→(List (Br))→Option R174)(a:Mm)(b c d e:Int):Option R174 :=
 lL2 b c d e (0:Int) a.2.2.2 (0:Int) a.1.1 a.1.2 a.2.1.1 a.2.1.2 a.2.2.1
noncomputable def ze3(n:Nat)(lL5:Int→Int→Int→Int→Int→Int→Int→Int→Lb→Li→Lb→Li→(List (Br))→Option R174)(lL2:Int→Int→Int→Int→Int→Int→Int→Lb→Li→Lb→Li→(List (Br))→Option R174)(x0 x1 x2 x3 x4 x5 x6 x7:Int)(x8:Lb)(x9:Li)(x10:Lb)(x11:Li)(x12:List (Br)):Option R174 :=
 cond (decide (0≤x4)) (cond (decide (x4<(↑x12.length:Int))) (cond (decide (x5<(↑(List.length (x12.getD x4.toNat (false,[],[])).2.2):Int))) (cond (decide (0≤x4)) (cond (decide (x4<(↑x12.length:Int))) (cond (decide (0≤x5)) (cond (decide (x5<(↑(List.length (x12.getD x4.toNat (false,[],[])).2.2):Int))) (cond (decide ((List.getD (x12.getD x4.toNat (false,[],[])).2.2 x5.toNat (0,0,false,false)).1=x0)) (cond (decide ((List.getD (x12.getD x4.toNat (false,[],[])).2.2 x5.toNat (0,0,false,false)).2.1=x1)) (cond (decide (0≤x4)) (cond (decide (x4<(↑x12.length:Int))) (cond (decide (0≤x5)) (cond (decide (x5<(↑(List.length (x12.getD x4.toNat (false,[],[])).2.2):Int))) (lL5 x0 x1 x2 x3 x4 (IntKind.i64.wrap (x5+1)) x6 x7 x8 x9 x10 x11 (x12.set x4.toNat ((x12.getD x4.toNat (false,[],[])).1,(x12.getD x4.toNat (false,[],[])).2.1,List.set (x12.getD x4.toNat (false,[],[])).2.2 x5.toNat (x2,x3,(List.getD (x12.getD x4.toNat (false,[],[])).2.2 x5.toNat (0,0,false,false)).2.2.1,(List.getD (x12.getD x4.toNat (false,[],[])).2.2 x5.toNat (0,0,false,false)).2.2.2)))) none) none) none) none) (lL5 x0 x1 x2 x3 x4 (IntKind.i64.wrap (x5+1)) x6 x7 x8 x9 x10 x11 x12)) (lL5 x0 x1 x2 x3 x4 (IntKind.i64.wrap (x5+1)) x6 x7 x8 x9 x10 x11 x12)) none) none) none) none) (lL2 x0 x1 x2 x3 (IntKind.i64.wrap (x4+1)) x6 x7 x8 x9 x10 x11 x12)) none) none
noncomputable def ze4(n:Nat)(lL5:Int→Int→Int→Int→Int→Int→Int→Int→Lb→Li→Lb→Li→(List (Br))→Option R174)(x0 x1 x2 x3 x4 x5 x6:Int)(x7:Lb)(x8:Li)(x9:Lb)(x10:Li)(x11:List (Br)):Option R174 :=
 cond (decide (x4<(↑x11.length:Int))) (lL5 x0 x1 x2 x3 x4 (0:Int) x5 x6 x7 x8 x9 x10 x11) (some ((((x7,x8),((x9,x10),(x11,x5))),()),()))
theorem ye_(n:Nat)(a:Mm)(b c d e:Int):runF TT G174 yms Try.f174 c174 ycw yiu n (a,b,c,d,e,())=zqe n (fun x0 x1 x2 x3 x4 x5 x6 x7 x8 x9 x10 x11=>zmu n (.head 2) [n] (zfe x0 x1 x2 x3 x4 x5 x6 x7 x8 x9 x10 x11)) a b c d e:=by kernel_rfl
theorem zzw(n m2:Nat)(x0 x1 x2 x3 x4 x5 x6 x7:Int)(x8:Lb)(x9:Li)(x10:Lb)(x11:Li)(x12:List (Br)):zmu n (.head 5) [m2,0] (zg4 x0 x1 x2 x3 x4 x5 x6 x7 x8 x9 x10 x11 x12)=none:=by kernel_rfl
theorem ylt(n m2 m5:Nat)(x0 x1 x2 x3 x4 x5 x6 x7:Int)(x8:Lb)(x9:Li)(x10:Lb)(x11:Li)(x12:List (Br)):zmu n (.head 5) [m2,m5+1] (zg4 x0 x1 x2 x3 x4 x5 x6 x7 x8 x9 x10 x11 x12)=ze3 n (fun x0 x1 x2 x3 x4 x5 x6 x7 x8 x9 x10 x11 x12=>zmu n (.head 5) [m2,m5] (zg4 x0 x1 x2 x3 x4 x5 x6 x7 x8 x9 x10 x11 x12)) (fun x0 x1 x2 x3 x4 x5 x6 x7 x8 x9 x10 x11=>zmu n (.head 2) [m2] (zfe x0 x1 x2 x3 x4 x5 x6 x7 x8 x9 x10 x11)) x0 x1 x2 x3 x4 x5 x6 x7 x8 x9 x10 x11 x12:=by kernel_rfl
theorem zzx(n:Nat)(x0 x1 x2 x3 x4 x5 x6:Int)(x7:Lb)(x8:Li)(x9:Lb)(x10:Li)(x11:List (Br)):zmu n (.head 2) [0] (zfe x0 x1 x2 x3 x4 x5 x6 x7 x8 x9 x10 x11)=none:=by kernel_rfl
theorem ylu(n m2:Nat)(x0 x1 x2 x3 x4 x5 x6:Int)(x7:Lb)(x8:Li)(x9:Lb)(x10:Li)(x11:List (Br)):zmu n (.head 2) [m2+1] (zfe x0 x1 x2 x3 x4 x5 x6 x7 x8 x9 x10 x11)=ze4 n (fun x0 x1 x2 x3 x4 x5 x6 x7 x8 x9 x10 x11 x12=>zmu n (.head 5) [m2,n] (zg4 x0 x1 x2 x3 x4 x5 x6 x7 x8 x9 x10 x11 x12)) x0 x1 x2 x3 x4 x5 x6 x7 x8 x9 x10 x11:=by kernel_rfl
noncomputable def zpd(g2:Int→Int→Int→Int→Int→Int→Int→Lb→Li→Lb→Li→(List (Br))→Option R174)(n:Nat):Nat→Int→Int→Int→Int→Int→Int→Int→Int→Lb→Li→Lb→Li→(List (Br))→Option R174
 |0,_,_,_,_,_,_,_,_,_,_,_,_,_=>none
 |m+1,x0,x1,x2,x3,x4,x5,x6,x7,x8,x9,x10,x11,x12=>ze3 n (zpd g2 n m) g2 x0 x1 x2 x3 x4 x5 x6 x7 x8 x9 x10 x11 x12
noncomputable def zlz(n:Nat):Nat→Int→Int→Int→Int→Int→Int→Int→Lb→Li→Lb→Li→(List (Br))→Option R174
 |0,_,_,_,_,_,_,_,_,_,_,_,_=>none
 |m+1,x0,x1,x2,x3,x4,x5,x6,x7,x8,x9,x10,x11=>ze4 n (zpd (zlz n m) n n) x0 x1 x2 x3 x4 x5 x6 x7 x8 x9 x10 x11
noncomputable def p174(n:Nat)(a:Mm)(b c d e:Int):Option R174:=zqe n (zlz n n) a b c d e
theorem yh5(n m2:Nat):∀ (m5:Nat) (x0 x1 x2 x3 x4 x5 x6 x7:Int) (x8:Lb) (x9:Li) (x10:Lb) (x11:Li) (x12:List (Br)),zmu n (.head 5) [m2,m5] (zg4 x0 x1 x2 x3 x4 x5 x6 x7 x8 x9 x10 x11 x12)=zpd (fun x0 x1 x2 x3 x4 x5 x6 x7 x8 x9 x10 x11=>zmu n (.head 2) [m2] (zfe x0 x1 x2 x3 x4 x5 x6 x7 x8 x9 x10 x11)) n m5 x0 x1 x2 x3 x4 x5 x6 x7 x8 x9 x10 x11 x12:=by
 intro m
 induction m with
 |zero=>intros;rw[zzw];rfl
 |succ m ih =>
  intros;rw[ylt]
  try simp only[ih]
  rfl
theorem yh6(n:Nat):∀ (m2:Nat) (x0 x1 x2 x3 x4 x5 x6:Int) (x7:Lb) (x8:Li) (x9:Lb) (x10:Li) (x11:List (Br)),zmu n (.head 2) [m2] (zfe x0 x1 x2 x3 x4 x5 x6 x7 x8 x9 x10 x11)=zlz n m2 x0 x1 x2 x3 x4 x5 x6 x7 x8 x9 x10 x11:=by
 intro m
 induction m with
 |zero=>intros;rw[zzx];rfl
 |succ m ih =>
  intros;rw[ylu]
  try simp only[yh5,ih]
  rfl
noncomputable def q174(n:Nat)(x:zan ycw):Option R174:=p174 n x.1 x.2.1 x.2.2.1 x.2.2.2.1 x.2.2.2.2.1
noncomputable def ygo:Sm:=⟨ycw,yiu,false,q174⟩
theorem ypv:GamOK Try.prog G174:=fun _ _ h=>by cases h
theorem hh174:Hp 174 ygo:=hOf (zaf (an:=yms) (c:=c174) zax ypv zaw Try.func174 (by kernel_rfl) rfl (by decide +kernel)) fun n x=>(ye_ n x.1 x.2.1 x.2.2.1 x.2.2.2.1 x.2.2.2.2.1).trans (by simp only[yh6];try rfl)
theorem y174:Gk 174 ygo:=⟨⟨Try.f174,c174,Try.func174,by kernel_rfl,by decide +kernel⟩,hh174⟩
noncomputable def c180:Code:=(Try.f180.body.getD .skip)
def ymr:An:=⟨fun r=>match r with|3=>⟨[1,3,4],[]⟩|_=>⟨[],[]⟩,fun _ _=>none⟩
abbrev ycu:List PK:=[.val tPg true]
abbrev yis:List RK:=[.val i64 false]
abbrev R180:=zak yis×zaj ycu
noncomputable def G180:Gam:=fun _=>none
noncomputable def yao:Nat→Pt→List Nat→St→Option R180:=atF TT G180 ymr Try.f180 c180 _ _
def zg1(x0 x1:Int)(x2:Lb)(x3:Li):St:=(St.mk ([Uu,AV.one (SV.bptr 1000000 0),Uu,Ai x0,Ai x1]++Ur 16) [(1000000,(Ent.box [SV.con (⟨9,Ty.str,x2⟩:Rw),SV.con (⟨3,Ty.int .i64,x3⟩:Rw)]))])
noncomputable def zqd(n:Nat)(lL3:Int→Int→Lb→Li→Option R180)(a:Lb×Li):Option R180 :=
 lL3 (0:Int) (0:Int) a.1 a.2
noncomputable def zey(n:Nat)(lL3:Int→Int→Lb→Li→Option R180)(x0 x1:Int)(x2:Lb)(x3:Li):Option R180 :=
 cond (decide (x1<(↑x3.length:Int))) (cond (decide (0≤x1)) (cond (decide (x1<(↑x3.length:Int))) (cond (decide (x3.getD x1.toNat (0:Int)=(0:Int))) (lL3 (IntKind.i64.wrap (x0+1)) (IntKind.i64.wrap (x1+1)) x2 x3) (lL3 x0 (IntKind.i64.wrap (x1+1)) x2 x3)) none) none) (some ((x0,()),()))
theorem ye7(n:Nat)(a:Lb×Li):runF TT G180 ymr Try.f180 c180 ycu yis n (a,())=zqd n (fun x0 x1 x2 x3=>yao n (.head 3) [n] (zg1 x0 x1 x2 x3)) a:=by kernel_rfl
theorem zzq(n:Nat)(x0 x1:Int)(x2:Lb)(x3:Li):yao n (.head 3) [0] (zg1 x0 x1 x2 x3)=none:=by kernel_rfl
theorem ylm(n m3:Nat)(x0 x1:Int)(x2:Lb)(x3:Li):yao n (.head 3) [m3+1] (zg1 x0 x1 x2 x3)=zey n (fun x0 x1 x2 x3=>yao n (.head 3) [m3] (zg1 x0 x1 x2 x3)) x0 x1 x2 x3:=by kernel_rfl
noncomputable def zpc(n:Nat):Nat→Int→Int→Lb→Li→Option R180
 |0,_,_,_,_=>none
 |m+1,x0,x1,x2,x3=>zey n (zpc n m) x0 x1 x2 x3
noncomputable def p180(n:Nat)(a:Lb×Li):Option R180:=zqd n (zpc n n) a
theorem yhz(n:Nat):∀ (m3:Nat) (x0 x1:Int) (x2:Lb) (x3:Li),yao n (.head 3) [m3] (zg1 x0 x1 x2 x3)=zpc n m3 x0 x1 x2 x3:=by
 intro m
 induction m with
 |zero=>intros;rw[zzq];rfl
 |succ m ih =>
  intros;rw[ylm]
  try simp only[ih]
  rfl
noncomputable def q180(n:Nat)(x:zan ycu):Option R180:=p180 n x.1
noncomputable def ygn:Sm:=⟨ycu,yis,false,q180⟩
theorem ypt:GamOK Try.prog G180:=fun _ _ h=>by cases h
theorem hh180:Hp 180 ygn:=hOf (zaf (an:=ymr) (c:=c180) zax ypt zaw Try.func180 (by kernel_rfl) rfl (by decide +kernel)) fun n x=>(ye7 n x.1).trans (by simp only[yhz];try rfl)
theorem y180:Gk 180 ygn:=⟨⟨Try.f180,c180,Try.func180,by kernel_rfl,by decide +kernel⟩,hh180⟩
noncomputable def c181:Code:=(Try.f181.body.getD .skip)
def ymq:An:=⟨fun r=>match r with|3=>⟨[1,2,4,6,7],[]⟩|6=>⟨[1,2,4,6,7,8],[]⟩|_=>⟨[],[]⟩,fun _ _=>none⟩
abbrev yct:List PK:=[.own tMem true,.val i64 false]
abbrev yir:List RK:=[.own tMem true,.val .bool false]
abbrev R181:=zak yir×zaj yct
noncomputable def G181:Gam:=fun _=>none
noncomputable def zmt:Nat→Pt→List Nat→St→Option R181:=atF TT G181 ymq Try.f181 c181 _ _
def zg0(x0:Int)(x1:Bool)(x2 x3 x4 x5:Int)(x6:Lb)(x7:Li)(x8:Lb)(x9:Li)(x10:List (Br)):St:=(St.mk ([Uu,Ai x0,AV.one (SV.bptr 1000000 0),Uu,AV.one (SV.bptr 1000001 0),Uu,AV.one (SV.bool x1),Ai x2,Ai x3]++Ur 53) [(1000000,(Ent.box [Sr 1000002,Sr 1000003,Sr 1000004,Sr 1000005,Sr 1000006,Si x4])),(1000001,(Ent.box [SV.nil,SV.nil,SV.nil,SV.nil,SV.nil,Si x5])),(1000002,Er ⟨9,Ty.str,x6⟩),(1000003,Er ⟨3,Ty.int .i64,x7⟩),(1000004,Er ⟨9,Ty.str,x8⟩),(1000005,Er ⟨3,Ty.int .i64,x9⟩),(1000006,Er ⟨71,ySp,x10⟩)])
def zfc(x0:Int)(x1:Bool)(x2 x3 x4:Int)(x5:Lb)(x6:Li)(x7:Lb)(x8:Li)(x9:List (Br)):St:=(St.mk ([Uu,Ai x0,AV.one (SV.bptr 1000000 0),Uu,AV.one (SV.bptr 1000001 0),Uu,AV.one (SV.bool x1),Ai x2]++Ur 54) [(1000000,(Ent.box [Sr 1000002,Sr 1000003,Sr 1000004,Sr 1000005,Sr 1000006,Si x3])),(1000001,(Ent.box [SV.nil,SV.nil,SV.nil,SV.nil,SV.nil,Si x4])),(1000002,Er ⟨9,Ty.str,x5⟩),(1000003,Er ⟨3,Ty.int .i64,x6⟩),(1000004,Er ⟨9,Ty.str,x7⟩),(1000005,Er ⟨3,Ty.int .i64,x8⟩),(1000006,Er ⟨71,ySp,x9⟩)])
noncomputable def zqc(n:Nat)(lL3:Int→Bool→Int→Int→Int→Lb→Li→Lb→Li→(List (Br))→Option R181)(a:Mm)(b:Int):Option R181 :=
 lL3 b false (0:Int) a.2.2.2 (0:Int) a.1.1 a.1.2 a.2.1.1 a.2.1.2 a.2.2.1
noncomputable def zew(n:Nat)(lL6:Int→Bool→Int→Int→Int→Int→Lb→Li→Lb→Li→(List (Br))→Option R181)(lL3:Int→Bool→Int→Int→Int→Lb→Li→Lb→Li→(List (Br))→Option R181)(x0:Int)(x1:Bool)(x2 x3 x4 x5:Int)(x6:Lb)(x7:Li)(x8:Lb)(x9:Li)(x10:List (Br)):Option R181 :=
 cond (decide (0≤x2)) (cond (decide (x2<(↑x10.length:Int))) (cond (decide (x3<(↑(List.length (x10.getD x2.toNat (false,[],[])).2.2):Int))) (cond (decide (0≤x2)) (cond (decide (x2<(↑x10.length:Int))) (cond (decide (0≤x3)) (cond (decide (x3<(↑(List.length (x10.getD x2.toNat (false,[],[])).2.2):Int))) (cond (decide ((List.getD (x10.getD x2.toNat (false,[],[])).2.2 x3.toNat (0,0,false,false)).1=(1:Int))) (cond (decide ((List.getD (x10.getD x2.toNat (false,[],[])).2.2 x3.toNat (0,0,false,false)).2.1=x0)) (cond x1 (cond (decide (0≤x2)) (cond (decide (x2<(↑x10.length:Int))) (cond (decide (0≤x3)) (cond (decide (x3<(↑(List.length (x10.getD x2.toNat (false,[],[])).2.2):Int))) (lL6 x0 true x2 (IntKind.i64.wrap (x3+1)) x4 x5 x6 x7 x8 x9 (x10.set x2.toNat ((x10.getD x2.toNat (false,[],[])).1,(x10.getD x2.toNat (false,[],[])).2.1,List.set (x10.getD x2.toNat (false,[],[])).2.2 x3.toNat ((List.getD (x10.getD x2.toNat (false,[],[])).2.2 x3.toNat (0,0,false,false)).1,(List.getD (x10.getD x2.toNat (false,[],[])).2.2 x3.toNat (0,0,false,false)).2.1,(List.getD (x10.getD x2.toNat (false,[],[])).2.2 x3.toNat (0,0,false,false)).2.2.1,false)))) none) none) none) none) (cond (decide (0≤x2)) (cond (decide (x2<(↑x10.length:Int))) (cond (decide (0≤x3)) (cond (decide (x3<(↑(List.length (x10.getD x2.toNat (false,[],[])).2.2):Int))) (lL6 x0 ((List.getD (x10.getD x2.toNat (false,[],[])).2.2 x3.toNat (0,0,false,false)).2.2.2) x2 (IntKind.i64.wrap (x3+1)) x4 x5 x6 x7 x8 x9 (x10.set x2.toNat ((x10.getD x2.toNat (false,[],[])).1,(x10.getD x2.toNat (false,[],[])).2.1,List.set (x10.getD x2.toNat (false,[],[])).2.2 x3.toNat ((List.getD (x10.getD x2.toNat (false,[],[])).2.2 x3.toNat (0,0,false,false)).1,(List.getD (x10.getD x2.toNat (false,[],[])).2.2 x3.toNat (0,0,false,false)).2.1,(List.getD (x10.getD x2.toNat (false,[],[])).2.2 x3.toNat (0,0,false,false)).2.2.1,false)))) none) none) none) none)) (lL6 x0 x1 x2 (IntKind.i64.wrap (x3+1)) x4 x5 x6 x7 x8 x9 x10)) (lL6 x0 x1 x2 (IntKind.i64.wrap (x3+1)) x4 x5 x6 x7 x8 x9 x10)) none) none) none) none) (lL3 x0 x1 (IntKind.i64.wrap (x2+1)) x4 x5 x6 x7 x8 x9 x10)) none) none
noncomputable def zex(n:Nat)(lL6:Int→Bool→Int→Int→Int→Int→Lb→Li→Lb→Li→(List (Br))→Option R181)(x0:Int)(x1:Bool)(x2 x3 x4:Int)(x5:Lb)(x6:Li)(x7:Lb)(x8:Li)(x9:List (Br)):Option R181 :=
 cond (decide (x2<(↑x9.length:Int))) (lL6 x0 x1 x2 (0:Int) x3 x4 x5 x6 x7 x8 x9) (some ((((x5,x6),((x7,x8),(x9,x3))),(x1,())),()))
theorem ye6(n:Nat)(a:Mm)(b:Int):runF TT G181 ymq Try.f181 c181 yct yir n (a,b,())=zqc n (fun x0 x1 x2 x3 x4 x5 x6 x7 x8 x9=>zmt n (.head 3) [n] (zfc x0 x1 x2 x3 x4 x5 x6 x7 x8 x9)) a b:=by kernel_rfl
theorem zzo(n m3:Nat)(x0:Int)(x1:Bool)(x2 x3 x4 x5:Int)(x6:Lb)(x7:Li)(x8:Lb)(x9:Li)(x10:List (Br)):zmt n (.head 6) [m3,0] (zg0 x0 x1 x2 x3 x4 x5 x6 x7 x8 x9 x10)=none:=by kernel_rfl
theorem ylk(n m3 m6:Nat)(x0:Int)(x1:Bool)(x2 x3 x4 x5:Int)(x6:Lb)(x7:Li)(x8:Lb)(x9:Li)(x10:List (Br)):zmt n (.head 6) [m3,m6+1] (zg0 x0 x1 x2 x3 x4 x5 x6 x7 x8 x9 x10)=zew n (fun x0 x1 x2 x3 x4 x5 x6 x7 x8 x9 x10=>zmt n (.head 6) [m3,m6] (zg0 x0 x1 x2 x3 x4 x5 x6 x7 x8 x9 x10)) (fun x0 x1 x2 x3 x4 x5 x6 x7 x8 x9=>zmt n (.head 3) [m3] (zfc x0 x1 x2 x3 x4 x5 x6 x7 x8 x9)) x0 x1 x2 x3 x4 x5 x6 x7 x8 x9 x10:=by kernel_rfl
theorem zzp(n:Nat)(x0:Int)(x1:Bool)(x2 x3 x4:Int)(x5:Lb)(x6:Li)(x7:Lb)(x8:Li)(x9:List (Br)):zmt n (.head 3) [0] (zfc x0 x1 x2 x3 x4 x5 x6 x7 x8 x9)=none:=by kernel_rfl
theorem yll(n m3:Nat)(x0:Int)(x1:Bool)(x2 x3 x4:Int)(x5:Lb)(x6:Li)(x7:Lb)(x8:Li)(x9:List (Br)):zmt n (.head 3) [m3+1] (zfc x0 x1 x2 x3 x4 x5 x6 x7 x8 x9)=zex n (fun x0 x1 x2 x3 x4 x5 x6 x7 x8 x9 x10=>zmt n (.head 6) [m3,n] (zg0 x0 x1 x2 x3 x4 x5 x6 x7 x8 x9 x10)) x0 x1 x2 x3 x4 x5 x6 x7 x8 x9:=by kernel_rfl
noncomputable def zpb(g3:Int→Bool→Int→Int→Int→Lb→Li→Lb→Li→(List (Br))→Option R181)(n:Nat):Nat→Int→Bool→Int→Int→Int→Int→Lb→Li→Lb→Li→(List (Br))→Option R181
 |0,_,_,_,_,_,_,_,_,_,_,_=>none
 |m+1,x0,x1,x2,x3,x4,x5,x6,x7,x8,x9,x10=>zew n (zpb g3 n m) g3 x0 x1 x2 x3 x4 x5 x6 x7 x8 x9 x10
noncomputable def zlv(n:Nat):Nat→Int→Bool→Int→Int→Int→Lb→Li→Lb→Li→(List (Br))→Option R181
 |0,_,_,_,_,_,_,_,_,_,_=>none
 |m+1,x0,x1,x2,x3,x4,x5,x6,x7,x8,x9=>zex n (zpb (zlv n m) n n) x0 x1 x2 x3 x4 x5 x6 x7 x8 x9
noncomputable def p181(n:Nat)(a:Mm)(b:Int):Option R181:=zqc n (zlv n n) a b
theorem yhx(n m3:Nat):∀ (m6:Nat) (x0:Int) (x1:Bool) (x2 x3 x4 x5:Int) (x6:Lb) (x7:Li) (x8:Lb) (x9:Li) (x10:List (Br)),zmt n (.head 6) [m3,m6] (zg0 x0 x1 x2 x3 x4 x5 x6 x7 x8 x9 x10)=zpb (fun x0 x1 x2 x3 x4 x5 x6 x7 x8 x9=>zmt n (.head 3) [m3] (zfc x0 x1 x2 x3 x4 x5 x6 x7 x8 x9)) n m6 x0 x1 x2 x3 x4 x5 x6 x7 x8 x9 x10:=by
 intro m
 induction m with
 |zero=>intros;rw[zzo];rfl
 |succ m ih =>
  intros;rw[ylk]
  try simp only[ih]
  rfl
theorem yhy(n:Nat):∀ (m3:Nat) (x0:Int) (x1:Bool) (x2 x3 x4:Int) (x5:Lb) (x6:Li) (x7:Lb) (x8:Li) (x9:List (Br)),zmt n (.head 3) [m3] (zfc x0 x1 x2 x3 x4 x5 x6 x7 x8 x9)=zlv n m3 x0 x1 x2 x3 x4 x5 x6 x7 x8 x9:=by
 intro m
 induction m with
 |zero=>intros;rw[zzp];rfl
 |succ m ih =>
  intros;rw[yll]
  try simp only[yhx,ih]
  rfl
noncomputable def q181(n:Nat)(x:zan yct):Option R181:=p181 n x.1 x.2.1
noncomputable def ym9:Sm:=⟨yct,yir,false,q181⟩
theorem yps:GamOK Try.prog G181:=fun _ _ h=>by cases h
theorem hh181:Hp 181 ym9:=hOf (zaf (an:=ymq) (c:=c181) zax yps zaw Try.func181 (by kernel_rfl) rfl (by decide +kernel)) fun n x=>(ye6 n x.1 x.2.1).trans (by simp only[yhy];try rfl)
theorem y181:Gk 181 ym9:=⟨⟨Try.f181,c181,Try.func181,by kernel_rfl,by decide +kernel⟩,hh181⟩
noncomputable def c171:Code:=(Try.f171.body.getD .skip)
def ymu:An:=⟨fun r=>match r with|5=>⟨[1,2,4],[]⟩|_=>⟨[],[]⟩,fun _ _=>none⟩
abbrev ycz:List PK:=[.own tMem true,.val i64 false]
abbrev yix:List RK:=[.own tMem true,.val .bool false]
abbrev R171:=zak yix×zaj ycz
noncomputable def G171:Gam:=fun f=>match f with|172=>some ybe|174=>some ygo|180=>some ygn|181=>some ym9|_=>none
noncomputable def yaq:Nat→Pt→List Nat→St→Option R171:=atF TT G171 ymu Try.f171 c171 _ _
def zg6(x0 x1 x2:Int)(x3:Lb)(x4:Li)(x5:Lb)(x6:Li)(x7:List (Br)):St:=(St.mk ([Uu,Ai x0,AV.one (SV.bptr 1000000 0),Uu,AV.one (SV.bptr 1000001 0)]++Ur 75) [(1000000,(Ent.box [Sr 1000002,Sr 1000003,Sr 1000004,Sr 1000005,Sr 1000006,Si x1])),(1000001,(Ent.box [SV.nil,SV.nil,SV.nil,SV.nil,SV.nil,Si x2])),(1000002,Er ⟨9,Ty.str,x3⟩),(1000003,Er ⟨3,Ty.int .i64,x4⟩),(1000004,Er ⟨9,Ty.str,x5⟩),(1000005,Er ⟨3,Ty.int .i64,x6⟩),(1000006,Er ⟨71,ySp,x7⟩)])
noncomputable def zdh(n:Nat)(lL5:Int→Int→Int→Lb→Li→Lb→Li→(List (Br))→Option R171)(a:Mm)(b:Int):Option R171 :=
 (q180 n ((a.1.1,a.1.2),())).bind fun r0=>cond (decide ((0:Int)<r0.1.1)) (some ((((a.1.1,a.1.2),((a.2.1.1,a.2.1.2),(a.2.2.1,a.2.2.2))),(true,())),())) ((q180 n ((a.2.1.1,a.2.1.2),())).bind fun r1=>cond (decide (r1.1.1=(0:Int))) (some ((((a.1.1,a.1.2),((a.2.1.1,a.2.1.2),(a.2.2.1,a.2.2.2))),(false,())),())) (lL5 b a.2.2.2 (0:Int) a.1.1 a.1.2 a.2.1.1 a.2.1.2 a.2.2.1))
noncomputable def zjv(n:Nat)(lL5:Int→Int→Int→Lb→Li→Lb→Li→(List (Br))→Option R171)(x0 x1 x2:Int)(x3:Lb)(x4:Li)(x5:Lb)(x6:Li)(x7:List (Br)):Option R171 :=
 cond (decide (x1=x0)) (lL5 x0 ((IntKind.i64.wrap (x1+1)).tmod (12:Int)) x2 x3 x4 x5 x6 x7) ((q181 n (((x3,x4),(x5,x6),x7,(IntKind.i64.wrap (x1+1)).tmod (12:Int)),x1,())).bind fun r3=>cond r3.1.2.1 (lL5 x0 r3.1.1.2.2.2 x2 r3.1.1.1.1 r3.1.1.1.2 r3.1.1.2.1.1 r3.1.1.2.1.2 r3.1.1.2.2.1) (cond (decide (0≤x1)) (cond (decide (x1<(↑(List.length r3.1.1.1.2):Int))) (cond (decide (0≤x1)) (cond (decide (x1<(↑(List.length r3.1.1.1.1):Int))) ((q172 n ((r3.1.1.2.1.1,r3.1.1.2.1.2),List.getD r3.1.1.1.1 x1.toNat ByteArray.empty,())).bind fun r4=>cond (decide ((0:Int)≤r4.1.2.1)) (cond (decide (r4.1.2.1<(↑(List.length r4.1.1.2):Int))) ((q174 n (((r3.1.1.1.1,r3.1.1.1.2),(r4.1.1.1,List.set r4.1.1.2 (Int.toNat r4.1.2.1) (List.getD r3.1.1.1.2 x1.toNat (0:Int))),r3.1.1.2.2.1,r3.1.1.2.2.2),(1:Int),x1,(2:Int),r4.1.2.1,())).bind fun r5=>cond (decide (0≤x1)) (cond (decide (x1<(↑(List.length r5.1.1.1.2):Int))) (cond (decide (0≤x1)) (cond (decide (x1<(↑(List.length r5.1.1.1.1):Int))) (some ((((List.set r5.1.1.1.1 x1.toNat (ByteArray.mk #[]),List.set r5.1.1.1.2 x1.toNat (0:Int)),((r5.1.1.2.1.1,r5.1.1.2.1.2),(r5.1.1.2.2.1,r5.1.1.2.2.2))),(true,())),())) none) none) none) none) none) none) none) none) none) none))
theorem yfc(n:Nat)(a:Mm)(b:Int):runF TT G171 ymu Try.f171 c171 ycz yix n (a,b,())=zdh n (fun x0 x1 x2 x3 x4 x5 x6 x7=>yaq n (.head 5) [n] (zg6 x0 x1 x2 x3 x4 x5 x6 x7)) a b:=by kernel_rfl
theorem zzz(n:Nat)(x0 x1 x2:Int)(x3:Lb)(x4:Li)(x5:Lb)(x6:Li)(x7:List (Br)):yaq n (.head 5) [0] (zg6 x0 x1 x2 x3 x4 x5 x6 x7)=none:=by kernel_rfl
theorem ylw(n m5:Nat)(x0 x1 x2:Int)(x3:Lb)(x4:Li)(x5:Lb)(x6:Li)(x7:List (Br)):yaq n (.head 5) [m5+1] (zg6 x0 x1 x2 x3 x4 x5 x6 x7)=zjv n (fun x0 x1 x2 x3 x4 x5 x6 x7=>yaq n (.head 5) [m5] (zg6 x0 x1 x2 x3 x4 x5 x6 x7)) x0 x1 x2 x3 x4 x5 x6 x7:=by kernel_rfl
noncomputable def zl0(n:Nat):Nat→Int→Int→Int→Lb→Li→Lb→Li→(List (Br))→Option R171
 |0,_,_,_,_,_,_,_,_=>none
 |m+1,x0,x1,x2,x3,x4,x5,x6,x7=>zjv n (zl0 n m) x0 x1 x2 x3 x4 x5 x6 x7
noncomputable def p171(n:Nat)(a:Mm)(b:Int):Option R171:=zdh n (zl0 n n) a b
theorem yh8(n:Nat):∀ (m5:Nat) (x0 x1 x2:Int) (x3:Lb) (x4:Li) (x5:Lb) (x6:Li) (x7:List (Br)),yaq n (.head 5) [m5] (zg6 x0 x1 x2 x3 x4 x5 x6 x7)=zl0 n m5 x0 x1 x2 x3 x4 x5 x6 x7:=by
 intro m
 induction m with
 |zero=>intros;rw[zzz];rfl
 |succ m ih =>
  intros;rw[ylw]
  try simp only[ih]
  rfl
noncomputable def q171(n:Nat)(x:zan ycz):Option R171:=p171 n x.1 x.2.1
noncomputable def ybf:Sm:=⟨ycz,yix,false,q171⟩
theorem ypy:GamOK Try.prog G171:=by intro f s h;unfold G171 at h;split at h;exact gj h y172;exact gj h y174;exact gj h y180;exact gj h y181;cases h
theorem hh171:Hp 171 ybf:=hOf (zaf (an:=ymu) (c:=c171) zax ypy zaw Try.func171 (by kernel_rfl) rfl (by decide +kernel)) fun n x=>(yfc n x.1 x.2.1).trans (by simp only[yh8];try rfl)
theorem y171:Gk 171 ybf:=⟨⟨Try.f171,c171,Try.func171,by kernel_rfl,by decide +kernel⟩,hh171⟩
noncomputable def zfs:Code:=(Try.f171.body.getD .skip)
def zem:An:=⟨fun _=>⟨[],[]⟩,fun _ _=>none⟩
abbrev zcf:List PK:=[.io tMem true,.val i64 false]
abbrev zcu:List RK:=[.val .bool false]
abbrev zd1:=zak zcu×zaj zcf
noncomputable def zcq:Gam:=fun f=>match f with|180=>some ygn|_=>none
theorem zww(hg:GamOK Try.prog zcq):zsn Try.prog 171 ⟨zcf,zcu,false,runB TT zcq zem Try.f171 zfs zcf zcu⟩:=zrz zax hg zaw Try.func171 (by kernel_rfl) (by rfl) (by decide +kernel)
noncomputable def zhs:Nat→Pt→List Nat→St→Option zd1:=atB TT zcq zem Try.f171 zfs _ _
def zc6:St:=(St.mk ([Uu]++Ur 79) [])
noncomputable def zck(n:Nat)(lL5:Option zd1)(a:Mm)(b:Int):Option zd1 :=
 (q180 n ((a.1.1,a.1.2),())).bind fun r0=>cond (decide ((0:Int)<r0.1.1)) (cond (decide (a.2.2.2=a.2.2.2)) (some ((true,()),(((a.1.1,a.1.2),((a.2.1.1,a.2.1.2),(a.2.2.1,a.2.2.2))),()))) none) ((q180 n ((a.2.1.1,a.2.1.2),())).bind fun r1=>cond (decide (r1.1.1=(0:Int))) (cond (decide (a.2.2.2=a.2.2.2)) (some ((false,()),(((a.1.1,a.1.2),((a.2.1.1,a.2.1.2),(a.2.2.1,a.2.2.2))),()))) none) (lL5 ))
noncomputable def zix(n:Nat):Option zd1 :=
 none
theorem zr8(n:Nat)(a:Mm)(b:Int):runB TT zcq zem Try.f171 zfs zcf zcu n (a,b,())=zck n (zhs n (.head 5) [n] (zc6 )) a b:=by kernel_rfl
theorem zpz(n:Nat):zhs n (.head 5) [0] (zc6 )=none:=by kernel_rfl
theorem ztr(n m5:Nat):zhs n (.head 5) [m5+1] (zc6 )=zix n:=by kernel_rfl
noncomputable def zf3(n:Nat):Nat→Option zd1
 |0=>none
 |m+1=>zix n 
noncomputable def zu2(n:Nat)(a:Mm)(b:Int):Option zd1:=zck n (zf3 n n) a b
theorem zsq(n:Nat):∀ (m5:Nat) ,zhs n (.head 5) [m5] (zc6 )=zf3 n m5:=by
 intro m
 induction m with
 |zero=>intros;rw[zpz];rfl
 |succ m ih =>
  intros;rw[ztr]
  try simp only[ih]
  rfl
theorem zt4(n:Nat)(a:Mm)(b:Int):runB TT zcq zem Try.f171 zfs zcf zcu n (a,b,())=zu2 n a b:=by
 rw[zr8];simp only[zsq]
 try rfl
noncomputable def zdy(n:Nat)(x:zan zcf):Option zd1:=zu2 n x.1 x.2.1
noncomputable def zdv:Sm:=⟨zcf,zcu,false,zdy⟩
theorem zr0(hg:GamOK Try.prog zcq):zsn Try.prog 171 zdv:=by
 have:=zww hg
 have e:(runB TT zcq zem Try.f171 zfs zcf zcu)=zdy:=by
  funext n x;exact zt4 n x.1 x.2.1
 rw[e]at this;exact this
theorem zw0:GamOK Try.prog zcq:=by intro f s h;unfold zcq at h;split at h;exact gj h y180;cases h
theorem zzc:zep Try.prog 3000171 zdv:=zr0 zw0
theorem zom:Gk 3000171 zdv:=⟨⟨Try.f171,zfs,Try.func171,by kernel_rfl,by decide +kernel⟩,zzc⟩
noncomputable def c173:Code:=(Try.f173.body.getD .skip)
def yrk:An:=⟨fun _=>⟨[],[]⟩,fun _ _=>none⟩
abbrev ycx:List PK:=[]
abbrev yiv:List RK:=[.val .str false]
abbrev R173:=zak yiv×zaj ycx
noncomputable def G173:Gam:=fun _=>none
noncomputable def zqf(n:Nat):Option R173 :=
 some ((List.foldl (fun r n=>r.push (UInt8.ofNat n.toNat)) ByteArray.empty (List.replicate (Int.toNat (4:Int)) (0:Int)),()),())
theorem yfa(n:Nat):runF TT G173 yrk Try.f173 c173 ycx yiv n ()=zqf n:=by kernel_rfl
noncomputable def p173(n:Nat):Option R173:=zqf n 
noncomputable def q173(n:Nat)(x:zan ycx):Option R173:=p173 n 
noncomputable def yna:Sm:=⟨ycx,yiv,false,q173⟩
theorem ypw:GamOK Try.prog G173:=fun _ _ h=>by cases h
theorem hh173:Hp 173 yna:=hOf (zaf (an:=yrk) (c:=c173) zax ypw zaw Try.func173 (by kernel_rfl) rfl (by decide +kernel)) fun n x=>(yfa n ).trans rfl
theorem y173:Gk 173 yna:=⟨⟨Try.f173,c173,Try.func173,by kernel_rfl,by decide +kernel⟩,hh173⟩
noncomputable def c153:Code:=(Try.f153.body.getD .skip)
def yrq:An:=⟨fun _=>⟨[],[]⟩,fun _ _=>none⟩
abbrev yc8:List PK:=[.own tMem true,.val i64 false,.val i64 false]
abbrev yi6:List RK:=[.own tMem true,.val .bool false]
abbrev R153:=zak yi6×zaj yc8
noncomputable def G153:Gam:=fun f=>match f with|171=>some ybf|3000171=>some zdv|172=>some ybe|173=>some yna|174=>some ygo|_=>none
noncomputable def zgl(n:Nat)(a:Mm)(b c:Int):Option R153 :=
 cond (decide ((0:Int)≤b)) (cond (decide (b<(↑(List.length a.2.2.1):Int))) (cond (decide ((0:Int)≤c)) (cond (decide (c<(↑(List.length (List.getD a.2.2.1 b.toNat (false,[],[])).2.2):Int))) (cond (!decide ((List.getD (List.getD a.2.2.1 b.toNat (false,[],[])).2.2 c.toNat (0,0,false,false)).1=(1:Int))) ((q171 n (((a.1.1,a.1.2),(a.2.1.1,a.2.1.2),a.2.2.1,a.2.2.2),(-1:Int),())).bind fun r0=>cond r0.1.2.1 ((q171 n (((a.1.1,a.1.2),(a.2.1.1,a.2.1.2),a.2.2.1,a.2.2.2),(-1:Int),())).bind fun r1=>cond (!r1.1.2.1) none (cond (decide ((List.getD (List.getD a.2.2.1 b.toNat (false,[],[])).2.2 c.toNat (0,0,false,false)).1=(0:Int))) ((q173 n ()).bind fun r2=>(q172 n ((r1.1.1.1.1,r1.1.1.1.2),r2.1.1,())).bind fun r3=>cond (decide ((0:Int)≤b)) (cond (decide (b<(↑(List.length r1.1.1.2.2.1):Int))) (cond (decide ((0:Int)≤c)) (cond (decide (c<(↑(List.length (List.getD r1.1.1.2.2.1 b.toNat (false,[],[])).2.2):Int))) (cond (decide ((0:Int)≤b)) (cond (decide (b<(↑(List.set r1.1.1.2.2.1 b.toNat ((List.getD r1.1.1.2.2.1 b.toNat (false,[],[])).1,(List.getD r1.1.1.2.2.1 b.toNat (false,[],[])).2.1,List.set (List.getD r1.1.1.2.2.1 b.toNat (false,[],[])).2.2 c.toNat ((1:Int),r3.1.2.1,true,false))).length:Int))) (cond (decide ((0:Int)≤c)) (cond (decide (c<(↑(List.length ((List.set r1.1.1.2.2.1 b.toNat ((List.getD r1.1.1.2.2.1 b.toNat (false,[],[])).1,(List.getD r1.1.1.2.2.1 b.toNat (false,[],[])).2.1,List.set (List.getD r1.1.1.2.2.1 b.toNat (false,[],[])).2.2 c.toNat ((1:Int),r3.1.2.1,true,false))).getD b.toNat (false,[],[])).2.2):Int))) (some ((((r3.1.1.1,r3.1.1.2),((r1.1.1.2.1.1,r1.1.1.2.1.2),((List.set r1.1.1.2.2.1 b.toNat ((List.getD r1.1.1.2.2.1 b.toNat (false,[],[])).1,(List.getD r1.1.1.2.2.1 b.toNat (false,[],[])).2.1,List.set (List.getD r1.1.1.2.2.1 b.toNat (false,[],[])).2.2 c.toNat ((1:Int),r3.1.2.1,true,false))).set b.toNat (((List.set r1.1.1.2.2.1 b.toNat ((List.getD r1.1.1.2.2.1 b.toNat (false,[],[])).1,(List.getD r1.1.1.2.2.1 b.toNat (false,[],[])).2.1,List.set (List.getD r1.1.1.2.2.1 b.toNat (false,[],[])).2.2 c.toNat ((1:Int),r3.1.2.1,true,false))).getD b.toNat (false,[],[])).1,((List.set r1.1.1.2.2.1 b.toNat ((List.getD r1.1.1.2.2.1 b.toNat (false,[],[])).1,(List.getD r1.1.1.2.2.1 b.toNat (false,[],[])).2.1,List.set (List.getD r1.1.1.2.2.1 b.toNat (false,[],[])).2.2 c.toNat ((1:Int),r3.1.2.1,true,false))).getD b.toNat (false,[],[])).2.1,List.set ((List.set r1.1.1.2.2.1 b.toNat ((List.getD r1.1.1.2.2.1 b.toNat (false,[],[])).1,(List.getD r1.1.1.2.2.1 b.toNat (false,[],[])).2.1,List.set (List.getD r1.1.1.2.2.1 b.toNat (false,[],[])).2.2 c.toNat ((1:Int),r3.1.2.1,true,false))).getD b.toNat (false,[],[])).2.2 c.toNat ((List.getD ((List.set r1.1.1.2.2.1 b.toNat ((List.getD r1.1.1.2.2.1 b.toNat (false,[],[])).1,(List.getD r1.1.1.2.2.1 b.toNat (false,[],[])).2.1,List.set (List.getD r1.1.1.2.2.1 b.toNat (false,[],[])).2.2 c.toNat ((1:Int),r3.1.2.1,true,false))).getD b.toNat (false,[],[])).2.2 c.toNat ((0:Int),(0:Int),false,false)).1,(List.getD ((List.set r1.1.1.2.2.1 b.toNat ((List.getD r1.1.1.2.2.1 b.toNat (false,[],[])).1,(List.getD r1.1.1.2.2.1 b.toNat (false,[],[])).2.1,List.set (List.getD r1.1.1.2.2.1 b.toNat (false,[],[])).2.2 c.toNat ((1:Int),r3.1.2.1,true,false))).getD b.toNat (false,[],[])).2.2 c.toNat ((0:Int),(0:Int),false,false)).2.1,(List.getD ((List.set r1.1.1.2.2.1 b.toNat ((List.getD r1.1.1.2.2.1 b.toNat (false,[],[])).1,(List.getD r1.1.1.2.2.1 b.toNat (false,[],[])).2.1,List.set (List.getD r1.1.1.2.2.1 b.toNat (false,[],[])).2.2 c.toNat ((1:Int),r3.1.2.1,true,false))).getD b.toNat (false,[],[])).2.2 c.toNat ((0:Int),(0:Int),false,false)).2.2.1,true)),r1.1.1.2.2.2))),(true,())),())) none) none) none) none) none) none) none) none) (cond (decide ((0:Int)≤(List.getD (List.getD a.2.2.1 b.toNat (false,[],[])).2.2 c.toNat (0,0,false,false)).2.1)) (cond (decide ((List.getD (List.getD a.2.2.1 b.toNat (false,[],[])).2.2 c.toNat (0,0,false,false)).2.1<(↑(List.length r1.1.1.2.1.1):Int))) ((q172 n ((r1.1.1.1.1,r1.1.1.1.2),List.getD r1.1.1.2.1.1 (Int.toNat (List.getD (List.getD a.2.2.1 b.toNat (false,[],[])).2.2 c.toNat (0,0,false,false)).2.1) ByteArray.empty,())).bind fun r4=>cond (decide ((0:Int)≤(List.getD (List.getD a.2.2.1 b.toNat (false,[],[])).2.2 c.toNat (0,0,false,false)).2.1)) (cond (decide ((List.getD (List.getD a.2.2.1 b.toNat (false,[],[])).2.2 c.toNat (0,0,false,false)).2.1<(↑(List.length r1.1.1.2.1.2):Int))) (cond (decide ((0:Int)≤r4.1.2.1)) (cond (decide (r4.1.2.1<(↑(List.length r4.1.1.2):Int))) ((q174 n (((r4.1.1.1,List.set r4.1.1.2 (Int.toNat r4.1.2.1) (List.getD r1.1.1.2.1.2 (Int.toNat (List.getD (List.getD a.2.2.1 b.toNat (false,[],[])).2.2 c.toNat (0,0,false,false)).2.1) (0:Int))),(r1.1.1.2.1.1,r1.1.1.2.1.2),r1.1.1.2.2.1,r1.1.1.2.2.2),(2:Int),(List.getD (List.getD a.2.2.1 b.toNat (false,[],[])).2.2 c.toNat (0,0,false,false)).2.1,(1:Int),r4.1.2.1,())).bind fun r5=>cond (decide ((0:Int)≤(List.getD (List.getD a.2.2.1 b.toNat (false,[],[])).2.2 c.toNat (0,0,false,false)).2.1)) (cond (decide ((List.getD (List.getD a.2.2.1 b.toNat (false,[],[])).2.2 c.toNat (0,0,false,false)).2.1<(↑(List.length r5.1.1.2.1.2):Int))) (cond (decide ((0:Int)≤(List.getD (List.getD a.2.2.1 b.toNat (false,[],[])).2.2 c.toNat (0,0,false,false)).2.1)) (cond (decide ((List.getD (List.getD a.2.2.1 b.toNat (false,[],[])).2.2 c.toNat (0,0,false,false)).2.1<(↑(List.length r5.1.1.2.1.1):Int))) (cond (decide ((0:Int)≤b)) (cond (decide (b<(↑(List.length r5.1.1.2.2.1):Int))) (cond (decide ((0:Int)≤c)) (cond (decide (c<(↑(List.length (List.getD r5.1.1.2.2.1 b.toNat (false,[],[])).2.2):Int))) (some ((((r5.1.1.1.1,r5.1.1.1.2),((List.set r5.1.1.2.1.1 (Int.toNat (List.getD (List.getD a.2.2.1 b.toNat (false,[],[])).2.2 c.toNat (0,0,false,false)).2.1) (ByteArray.mk #[]),List.set r5.1.1.2.1.2 (Int.toNat (List.getD (List.getD a.2.2.1 b.toNat (false,[],[])).2.2 c.toNat (0,0,false,false)).2.1) (0:Int)),(List.set r5.1.1.2.2.1 b.toNat ((List.getD r5.1.1.2.2.1 b.toNat (false,[],[])).1,(List.getD r5.1.1.2.2.1 b.toNat (false,[],[])).2.1,List.set (List.getD r5.1.1.2.2.1 b.toNat (false,[],[])).2.2 c.toNat ((List.getD (List.getD r5.1.1.2.2.1 b.toNat (false,[],[])).2.2 c.toNat (0,0,false,false)).1,(List.getD (List.getD r5.1.1.2.2.1 b.toNat (false,[],[])).2.2 c.toNat (0,0,false,false)).2.1,(List.getD (List.getD r5.1.1.2.2.1 b.toNat (false,[],[])).2.2 c.toNat (0,0,false,false)).2.2.1,true)),r5.1.1.2.2.2))),(true,())),())) none) none) none) none) none) none) none) none) none) none) none) none) none) none))) ((zdy n (((a.1.1,a.1.2),(a.2.1.1,a.2.1.2),a.2.2.1,a.2.2.2),(-1:Int),())).bind fun r6=>cond (!r6.1.1) (some ((((r6.2.1.1.1,r6.2.1.1.2),((r6.2.1.2.1.1,r6.2.1.2.1.2),(r6.2.1.2.2.1,a.2.2.2))),(false,())),())) none)) (cond (decide ((0:Int)≤b)) (cond (decide (b<(↑(List.length a.2.2.1):Int))) (cond (decide ((0:Int)≤c)) (cond (decide (c<(↑(List.length (List.getD a.2.2.1 b.toNat (false,[],[])).2.2):Int))) (some ((((a.1.1,a.1.2),((a.2.1.1,a.2.1.2),(List.set a.2.2.1 b.toNat ((List.getD a.2.2.1 b.toNat (false,[],[])).1,(List.getD a.2.2.1 b.toNat (false,[],[])).2.1,List.set (List.getD a.2.2.1 b.toNat (false,[],[])).2.2 c.toNat ((List.getD (List.getD a.2.2.1 b.toNat (false,[],[])).2.2 c.toNat (0,0,false,false)).1,(List.getD (List.getD a.2.2.1 b.toNat (false,[],[])).2.2 c.toNat (0,0,false,false)).2.1,(List.getD (List.getD a.2.2.1 b.toNat (false,[],[])).2.2 c.toNat (0,0,false,false)).2.2.1,true)),a.2.2.2))),(true,())),())) none) none) none) none)) none) none) none) none
theorem yfn(n:Nat)(a:Mm)(b c:Int):runF TT G153 yrq Try.f153 c153 yc8 yi6 n (a,b,c,())=zgl n a b c:=by kernel_rfl
noncomputable def p153(n:Nat)(a:Mm)(b c:Int):Option R153:=zgl n a b c
noncomputable def q153(n:Nat)(x:zan yc8):Option R153:=p153 n x.1 x.2.1 x.2.2.1
noncomputable def ybh:Sm:=⟨yc8,yi6,false,q153⟩
theorem yp7:GamOK Try.prog G153:=by intro f s h;unfold G153 at h;split at h;exact gj h y171;exact gj h zom;exact gj h y172;exact gj h y173;exact gj h y174;cases h
theorem hh153:Hp 153 ybh:=hOf (zaf (an:=yrq) (c:=c153) zax yp7 zaw Try.func153 (by kernel_rfl) rfl (by decide +kernel)) fun n x=>(yfn n x.1 x.2.1 x.2.2.1).trans rfl
theorem y153:Gk 153 ybh:=⟨⟨Try.f153,c153,Try.func153,by kernel_rfl,by decide +kernel⟩,hh153⟩
noncomputable def c154:Code:=(Try.f154.body.getD .skip)
def yrp:An:=⟨fun _=>⟨[],[]⟩,fun _ _=>none⟩
abbrev yc7:List PK:=[.own tMem true,.val i64 false,.val i64 false]
abbrev yi5:List RK:=[.own tMem true,.val .bool false]
abbrev R154:=zak yi5×zaj yc7
noncomputable def G154:Gam:=fun f=>match f with|160=>some ygp|171=>some ybf|3000171=>some zdv|172=>some ybe|_=>none
noncomputable def zgk(n:Nat)(a:Mm)(b c:Int):Option R154 :=
 cond (decide ((0:Int)≤b)) (cond (decide (b<(↑(List.length a.2.2.1):Int))) (cond (decide ((0:Int)≤c)) (cond (decide (c<(↑(List.length (List.getD a.2.2.1 b.toNat (false,[],[])).2.2):Int))) (cond (!(List.getD (List.getD a.2.2.1 b.toNat (false,[],[])).2.2 c.toNat (0,0,false,false)).2.2.1) (cond (decide ((0:Int)≤(List.getD (List.getD a.2.2.1 b.toNat (false,[],[])).2.2 c.toNat (0,0,false,false)).2.1)) (cond (decide ((List.getD (List.getD a.2.2.1 b.toNat (false,[],[])).2.2 c.toNat (0,0,false,false)).2.1<(↑(List.length a.1.2):Int))) (cond (decide ((1:Int)<List.getD a.1.2 (Int.toNat (List.getD (List.getD a.2.2.1 b.toNat (false,[],[])).2.2 c.toNat (0,0,false,false)).2.1) (0:Int))) ((q171 n (((a.1.1,a.1.2),(a.2.1.1,a.2.1.2),a.2.2.1,a.2.2.2),(List.getD (List.getD a.2.2.1 b.toNat (false,[],[])).2.2 c.toNat (0,0,false,false)).2.1,())).bind fun r0=>cond r0.1.2.1 ((q171 n (((a.1.1,a.1.2),(a.2.1.1,a.2.1.2),a.2.2.1,a.2.2.2),(List.getD (List.getD a.2.2.1 b.toNat (false,[],[])).2.2 c.toNat (0,0,false,false)).2.1,())).bind fun r1=>cond (!r1.1.2.1) none (cond (decide ((0:Int)≤(List.getD (List.getD a.2.2.1 b.toNat (false,[],[])).2.2 c.toNat (0,0,false,false)).2.1)) (cond (decide ((List.getD (List.getD a.2.2.1 b.toNat (false,[],[])).2.2 c.toNat (0,0,false,false)).2.1<(↑(List.length r1.1.1.1.1):Int))) ((q172 n ((r1.1.1.1.1,r1.1.1.1.2),List.getD r1.1.1.1.1 (Int.toNat (List.getD (List.getD a.2.2.1 b.toNat (false,[],[])).2.2 c.toNat (0,0,false,false)).2.1) ByteArray.empty,())).bind fun r2=>(q160 n ((r2.1.1.1,r2.1.1.2),(List.getD (List.getD a.2.2.1 b.toNat (false,[],[])).2.2 c.toNat (0,0,false,false)).2.1,())).bind fun r3=>cond (decide ((0:Int)≤b)) (cond (decide (b<(↑(List.length r1.1.1.2.2.1):Int))) (cond (decide ((0:Int)≤c)) (cond (decide (c<(↑(List.length (List.getD r1.1.1.2.2.1 b.toNat (false,[],[])).2.2):Int))) (some ((((r3.1.1.1,r3.1.1.2),((r1.1.1.2.1.1,r1.1.1.2.1.2),(List.set r1.1.1.2.2.1 b.toNat ((List.getD r1.1.1.2.2.1 b.toNat (false,[],[])).1,(List.getD r1.1.1.2.2.1 b.toNat (false,[],[])).2.1,List.set (List.getD r1.1.1.2.2.1 b.toNat (false,[],[])).2.2 c.toNat ((List.getD (List.getD a.2.2.1 b.toNat (false,[],[])).2.2 c.toNat (0,0,false,false)).1,r2.1.2.1,true,(List.getD (List.getD a.2.2.1 b.toNat (false,[],[])).2.2 c.toNat (0,0,false,false)).2.2.2)),r1.1.1.2.2.2))),(true,())),())) none) none) none) none) none) none)) ((zdy n (((a.1.1,a.1.2),(a.2.1.1,a.2.1.2),a.2.2.1,a.2.2.2),(List.getD (List.getD a.2.2.1 b.toNat (false,[],[])).2.2 c.toNat (0,0,false,false)).2.1,())).bind fun r4=>cond (!r4.1.1) (some ((((r4.2.1.1.1,r4.2.1.1.2),((r4.2.1.2.1.1,r4.2.1.2.1.2),(r4.2.1.2.2.1,a.2.2.2))),(false,())),())) none)) (cond (decide ((0:Int)≤b)) (cond (decide (b<(↑(List.length a.2.2.1):Int))) (cond (decide ((0:Int)≤c)) (cond (decide (c<(↑(List.length (List.getD a.2.2.1 b.toNat (false,[],[])).2.2):Int))) (some ((((a.1.1,a.1.2),((a.2.1.1,a.2.1.2),(List.set a.2.2.1 b.toNat ((List.getD a.2.2.1 b.toNat (false,[],[])).1,(List.getD a.2.2.1 b.toNat (false,[],[])).2.1,List.set (List.getD a.2.2.1 b.toNat (false,[],[])).2.2 c.toNat ((List.getD (List.getD a.2.2.1 b.toNat (false,[],[])).2.2 c.toNat (0,0,false,false)).1,(List.getD (List.getD a.2.2.1 b.toNat (false,[],[])).2.2 c.toNat (0,0,false,false)).2.1,true,(List.getD (List.getD a.2.2.1 b.toNat (false,[],[])).2.2 c.toNat (0,0,false,false)).2.2.2)),a.2.2.2))),(true,())),())) none) none) none) none)) none) none) (cond (decide ((0:Int)≤b)) (cond (decide (b<(↑(List.length a.2.2.1):Int))) (cond (decide ((0:Int)≤c)) (cond (decide (c<(↑(List.length (List.getD a.2.2.1 b.toNat (false,[],[])).2.2):Int))) (some ((((a.1.1,a.1.2),((a.2.1.1,a.2.1.2),(List.set a.2.2.1 b.toNat ((List.getD a.2.2.1 b.toNat (false,[],[])).1,(List.getD a.2.2.1 b.toNat (false,[],[])).2.1,List.set (List.getD a.2.2.1 b.toNat (false,[],[])).2.2 c.toNat ((List.getD (List.getD a.2.2.1 b.toNat (false,[],[])).2.2 c.toNat (0,0,false,false)).1,(List.getD (List.getD a.2.2.1 b.toNat (false,[],[])).2.2 c.toNat (0,0,false,false)).2.1,true,(List.getD (List.getD a.2.2.1 b.toNat (false,[],[])).2.2 c.toNat (0,0,false,false)).2.2.2)),a.2.2.2))),(true,())),())) none) none) none) none)) none) none) none) none
theorem yfm(n:Nat)(a:Mm)(b c:Int):runF TT G154 yrp Try.f154 c154 yc7 yi5 n (a,b,c,())=zgk n a b c:=by kernel_rfl
noncomputable def p154(n:Nat)(a:Mm)(b c:Int):Option R154:=zgk n a b c
noncomputable def q154(n:Nat)(x:zan yc7):Option R154:=p154 n x.1 x.2.1 x.2.2.1
noncomputable def ynf:Sm:=⟨yc7,yi5,false,q154⟩
theorem yp6:GamOK Try.prog G154:=by intro f s h;unfold G154 at h;split at h;exact gj h y160;exact gj h y171;exact gj h zom;exact gj h y172;cases h
theorem hh154:Hp 154 ynf:=hOf (zaf (an:=yrp) (c:=c154) zax yp6 zaw Try.func154 (by kernel_rfl) rfl (by decide +kernel)) fun n x=>(yfm n x.1 x.2.1 x.2.2.1).trans rfl
theorem y154:Gk 154 ynf:=⟨⟨Try.f154,c154,Try.func154,by kernel_rfl,by decide +kernel⟩,hh154⟩
noncomputable def c109:Code:=(Try.f109.body.getD .skip)
def yr2:An:=⟨fun _=>⟨[],[]⟩,fun _ _=>none⟩
abbrev ydq:List PK:=[.own tMem true,.val i64 false,.val i64 false,.val i64 false]
abbrev yjn:List RK:=[.own tMem true,.val i64 false]
abbrev R109:=zak yjn×zaj ydq
noncomputable def G109:Gam:=fun f=>match f with|56=>some Sm56|71=>some Sm71|72=>some Sm72|153=>some ybh|154=>some ynf|_=>none
noncomputable def zgu(n:Nat)(a:Mm)(b c d:Int):Option R109 :=
 cond (decide ((0:Int)≤b)) (cond (decide (b<(↑(List.length a.2.2.1):Int))) ((q71 n ((List.getD a.2.2.1 b.toNat (false,[],[])).2.1,IntKind.i64.wrap (c.tdiv (4:Int)),())).bind fun r0=>cond (decide (r0.1.1<(0:Int))) (some ((((a.1.1,a.1.2),((a.2.1.1,a.2.1.2),(a.2.2.1,a.2.2.2))),((2:Int),())),())) (cond (decide ((0:Int)≤b)) (cond (decide (b<(↑(List.length a.2.2.1):Int))) (cond (decide ((0:Int)≤r0.1.1)) (cond (decide (r0.1.1<(↑(List.length (List.getD a.2.2.1 b.toNat (false,[],[])).2.1):Int))) (cond (!(List.getD (List.getD a.2.2.1 b.toNat (false,[],[])).2.1 (Int.toNat r0.1.1) (0,0,false,false)).2.2.1) (some ((((a.1.1,a.1.2),((a.2.1.1,a.2.1.2),(a.2.2.1,a.2.2.2))),((3:Int),())),())) ((q56 n (((a.1.1,a.1.2),(a.2.1.1,a.2.1.2),a.2.2.1,a.2.2.2),())).bind fun r1=>(q153 n (((r1.1.1.1.1,r1.1.1.1.2),(r1.1.1.2.1.1,r1.1.1.2.1.2),r1.1.1.2.2.1,r1.1.1.2.2.2),b,IntKind.i64.wrap (c.tdiv (4:Int)),())).bind fun r2=>cond r2.1.2.1 ((q154 n (((r2.1.1.1.1,r2.1.1.1.2),(r2.1.1.2.1.1,r2.1.1.2.1.2),r2.1.1.2.2.1,r2.1.1.2.2.2),b,IntKind.i64.wrap (c.tdiv (4:Int)),())).bind fun r3=>cond (!r3.1.2.1) (some ((((a.1.1,a.1.2),((a.2.1.1,a.2.1.2),(a.2.2.1,a.2.2.2))),((4:Int),())),())) (cond (decide ((0:Int)≤b)) (cond (decide (b<(↑(List.length r3.1.1.2.2.1):Int))) (cond (decide ((0:Int)≤IntKind.i64.wrap (c.tdiv (4:Int)))) (cond (decide (IntKind.i64.wrap (c.tdiv (4:Int))<(↑(List.length (List.getD r3.1.1.2.2.1 b.toNat (false,[],[])).2.2):Int))) (cond (decide ((0:Int)≤(List.getD (List.getD r3.1.1.2.2.1 b.toNat (false,[],[])).2.2 (IntKind.i64.wrap (c.tdiv (4:Int))).toNat ((0:Int),(0:Int),false,false)).2.1)) (cond (decide ((List.getD (List.getD r3.1.1.2.2.1 b.toNat (false,[],[])).2.2 (IntKind.i64.wrap (c.tdiv (4:Int))).toNat ((0:Int),(0:Int),false,false)).2.1<(↑(List.length r3.1.1.1.1):Int))) ((q72 n (List.getD r3.1.1.1.1 (Int.toNat (List.getD (List.getD r3.1.1.2.2.1 b.toNat (false,[],[])).2.2 (IntKind.i64.wrap (c.tdiv (4:Int))).toNat ((0:Int),(0:Int),false,false)).2.1) ByteArray.empty,c.tmod (4:Int),d,())).bind fun r4=>cond (decide ((0:Int)≤(List.getD (List.getD r3.1.1.2.2.1 b.toNat (false,[],[])).2.2 (IntKind.i64.wrap (c.tdiv (4:Int))).toNat ((0:Int),(0:Int),false,false)).2.1)) (cond (decide ((List.getD (List.getD r3.1.1.2.2.1 b.toNat (false,[],[])).2.2 (IntKind.i64.wrap (c.tdiv (4:Int))).toNat ((0:Int),(0:Int),false,false)).2.1<(↑(List.length r3.1.1.1.1):Int))) (some ((((List.set r3.1.1.1.1 (Int.toNat (List.getD (List.getD r3.1.1.2.2.1 b.toNat (false,[],[])).2.2 (IntKind.i64.wrap (c.tdiv (4:Int))).toNat ((0:Int),(0:Int),false,false)).2.1) r4.1.1,r3.1.1.1.2),((r3.1.1.2.1.1,r3.1.1.2.1.2),(r3.1.1.2.2.1,r3.1.1.2.2.2))),((0:Int),())),())) none) none) none) none) none) none) none) none)) (cond (!r2.1.2.1) (some ((((a.1.1,a.1.2),((a.2.1.1,a.2.1.2),(a.2.2.1,a.2.2.2))),((4:Int),())),())) (cond (decide ((0:Int)≤b)) (cond (decide (b<(↑(List.length r2.1.1.2.2.1):Int))) (cond (decide ((0:Int)≤IntKind.i64.wrap (c.tdiv (4:Int)))) (cond (decide (IntKind.i64.wrap (c.tdiv (4:Int))<(↑(List.length (List.getD r2.1.1.2.2.1 b.toNat (false,[],[])).2.2):Int))) (cond (decide ((0:Int)≤(List.getD (List.getD r2.1.1.2.2.1 b.toNat (false,[],[])).2.2 (IntKind.i64.wrap (c.tdiv (4:Int))).toNat ((0:Int),(0:Int),false,false)).2.1)) (cond (decide ((List.getD (List.getD r2.1.1.2.2.1 b.toNat (false,[],[])).2.2 (IntKind.i64.wrap (c.tdiv (4:Int))).toNat ((0:Int),(0:Int),false,false)).2.1<(↑(List.length r2.1.1.1.1):Int))) ((q72 n (List.getD r2.1.1.1.1 (Int.toNat (List.getD (List.getD r2.1.1.2.2.1 b.toNat (false,[],[])).2.2 (IntKind.i64.wrap (c.tdiv (4:Int))).toNat ((0:Int),(0:Int),false,false)).2.1) ByteArray.empty,c.tmod (4:Int),d,())).bind fun r5=>cond (decide ((0:Int)≤(List.getD (List.getD r2.1.1.2.2.1 b.toNat (false,[],[])).2.2 (IntKind.i64.wrap (c.tdiv (4:Int))).toNat ((0:Int),(0:Int),false,false)).2.1)) (cond (decide ((List.getD (List.getD r2.1.1.2.2.1 b.toNat (false,[],[])).2.2 (IntKind.i64.wrap (c.tdiv (4:Int))).toNat ((0:Int),(0:Int),false,false)).2.1<(↑(List.length r2.1.1.1.1):Int))) (some ((((List.set r2.1.1.1.1 (Int.toNat (List.getD (List.getD r2.1.1.2.2.1 b.toNat (false,[],[])).2.2 (IntKind.i64.wrap (c.tdiv (4:Int))).toNat ((0:Int),(0:Int),false,false)).2.1) r5.1.1,r2.1.1.1.2),((r2.1.1.2.1.1,r2.1.1.2.1.2),(r2.1.1.2.2.1,r2.1.1.2.2.2))),((0:Int),())),())) none) none) none) none) none) none) none) none)))) none) none) none) none)) none) none
theorem yf6(n:Nat)(a:Mm)(b c d:Int):runF TT G109 yr2 Try.f109 c109 ydq yjn n (a,b,c,d,())=zgu n a b c d:=by kernel_rfl
noncomputable def p109(n:Nat)(a:Mm)(b c d:Int):Option R109:=zgu n a b c d
noncomputable def q109(n:Nat)(x:zan ydq):Option R109:=p109 n x.1 x.2.1 x.2.2.1 x.2.2.2.1
noncomputable def ygt:Sm:=⟨ydq,yjn,false,q109⟩
theorem yqo:GamOK Try.prog G109:=by intro f s h;unfold G109 at h;split at h;exact gj h y56;exact gj h y71;exact gj h y72;exact gj h y153;exact gj h y154;cases h
theorem hh109:Hp 109 ygt:=hOf (zaf (an:=yr2) (c:=c109) zax yqo zaw Try.func109 (by kernel_rfl) rfl (by decide +kernel)) fun n x=>(yf6 n x.1 x.2.1 x.2.2.1 x.2.2.2.1).trans rfl
theorem y109:Gk 109 ygt:=⟨⟨Try.f109,c109,Try.func109,by kernel_rfl,by decide +kernel⟩,hh109⟩
noncomputable def zhr:Code:=(Try.f153.body.getD .skip)
def zht:An:=⟨fun _=>⟨[],[]⟩,fun _ _=>none⟩
abbrev zcg:List PK:=[.io tMem true,.val i64 false,.val i64 false]
abbrev zcv:List RK:=[.val .bool false]
abbrev zp7:=zak zcv×zaj zcg
noncomputable def zdb:Gam:=fun f=>match f with|171=>some ybf|3000171=>some zdv|_=>none
theorem zwx(hg:GamOK Try.prog zdb):zsn Try.prog 153 ⟨zcg,zcv,false,runB TT zdb zht Try.f153 zhr zcg zcv⟩:=zrz zax hg zaw Try.func153 (by kernel_rfl) (by rfl) (by decide +kernel)
noncomputable def zcl(n:Nat)(a:Mm)(b c:Int):Option zp7 :=
 cond (decide ((0:Int)≤b)) (cond (decide (b<(↑(List.length a.2.2.1):Int))) (cond (decide ((0:Int)≤c)) (cond (decide (c<(↑(List.length (List.getD a.2.2.1 b.toNat (false,[],[])).2.2):Int))) (cond (!decide ((List.getD (List.getD a.2.2.1 b.toNat (false,[],[])).2.2 c.toNat (0,0,false,false)).1=(1:Int))) ((q171 n (((a.1.1,a.1.2),(a.2.1.1,a.2.1.2),a.2.2.1,a.2.2.2),(-1:Int),())).bind fun r0=>cond r0.1.2.1 ((q171 n (((a.1.1,a.1.2),(a.2.1.1,a.2.1.2),a.2.2.1,a.2.2.2),(-1:Int),())).bind fun r1=>cond (!r1.1.2.1) (cond (decide (a.2.2.2=a.2.2.2)) none none) (cond (decide ((List.getD (List.getD a.2.2.1 b.toNat (false,[],[])).2.2 c.toNat (0,0,false,false)).1=(0:Int))) none (cond (decide ((0:Int)≤(List.getD (List.getD a.2.2.1 b.toNat (false,[],[])).2.2 c.toNat (0,0,false,false)).2.1)) (cond (decide ((List.getD (List.getD a.2.2.1 b.toNat (false,[],[])).2.2 c.toNat (0,0,false,false)).2.1<(↑(List.length r1.1.1.2.1.1):Int))) none none) none))) ((zdy n (((a.1.1,a.1.2),(a.2.1.1,a.2.1.2),a.2.2.1,a.2.2.2),(-1:Int),())).bind fun r2=>cond (!r2.1.1) (cond (decide (a.2.2.2=a.2.2.2)) (some ((false,()),(((r2.2.1.1.1,r2.2.1.1.2),((r2.2.1.2.1.1,r2.2.1.2.1.2),(r2.2.1.2.2.1,a.2.2.2))),()))) none) none)) (cond (decide ((0:Int)≤b)) (cond (decide (b<(↑(List.length a.2.2.1):Int))) (cond (decide ((0:Int)≤c)) (cond (decide (c<(↑(List.length (List.getD a.2.2.1 b.toNat (false,[],[])).2.2):Int))) (cond (decide (a.2.2.2=a.2.2.2)) (some ((true,()),(((a.1.1,a.1.2),((a.2.1.1,a.2.1.2),(List.set a.2.2.1 b.toNat ((List.getD a.2.2.1 b.toNat (false,[],[])).1,(List.getD a.2.2.1 b.toNat (false,[],[])).2.1,List.set (List.getD a.2.2.1 b.toNat (false,[],[])).2.2 c.toNat ((List.getD (List.getD a.2.2.1 b.toNat (false,[],[])).2.2 c.toNat (0,0,false,false)).1,(List.getD (List.getD a.2.2.1 b.toNat (false,[],[])).2.2 c.toNat (0,0,false,false)).2.1,(List.getD (List.getD a.2.2.1 b.toNat (false,[],[])).2.2 c.toNat (0,0,false,false)).2.2.1,true)),a.2.2.2))),()))) none) none) none) none) none)) none) none) none) none
theorem zr9(n:Nat)(a:Mm)(b c:Int):runB TT zdb zht Try.f153 zhr zcg zcv n (a,b,c,())=zcl n a b c:=by kernel_rfl
noncomputable def zu3(n:Nat)(a:Mm)(b c:Int):Option zp7:=zcl n a b c
theorem zt5(n:Nat)(a:Mm)(b c:Int):runB TT zdb zht Try.f153 zhr zcg zcv n (a,b,c,())=zu3 n a b c:=by
 rw[zr9]
 skip
 try rfl
noncomputable def zfl(n:Nat)(x:zan zcg):Option zp7:=zu3 n x.1 x.2.1 x.2.2.1
noncomputable def zhw:Sm:=⟨zcg,zcv,false,zfl⟩
theorem zr1(hg:GamOK Try.prog zdb):zsn Try.prog 153 zhw:=by
 have:=zwx hg
 have e:(runB TT zdb zht Try.f153 zhr zcg zcv)=zfl:=by
  funext n x;exact zt5 n x.1 x.2.1 x.2.2.1
 rw[e]at this;exact this
theorem zw1:GamOK Try.prog zdb:=by intro f s h;unfold zdb at h;split at h;exact gj h y171;exact gj h zom;cases h
theorem zzd:zep Try.prog 3000153 zhw:=zr1 zw1
theorem ybp:Gk 3000153 zhw:=⟨⟨Try.f153,zhr,Try.func153,by kernel_rfl,by decide +kernel⟩,zzd⟩
noncomputable def c155:Code:=(Try.f155.body.getD .skip)
def ymx:An:=⟨fun r=>match r with|5=>⟨[1,2,4,6,7],[]⟩|13=>⟨[1,2,4,6,10],[]⟩|_=>⟨[],[]⟩,fun _ _=>none⟩
abbrev yc6:List PK:=[.own tMem true,.val i64 false]
abbrev yi4:List RK:=[.own tMem true,.val i64 false]
abbrev R155:=zak yi4×zaj yc6
noncomputable def G155:Gam:=fun f=>match f with|93=>some Sm93|153=>some ybh|3000153=>some zhw|157=>some ygq|_=>none
noncomputable def zne:Nat→Pt→List Nat→St→Option R155:=atF TT G155 ymx Try.f155 c155 _ _
def zd6(x0 x1 x2 x3 x4:Int)(x5:Lb)(x6:Li)(x7:Lb)(x8:Li)(x9:List (Br)):St:=(St.mk ([Uu,Ai x0,AV.one (SV.bptr 1000000 0),Uu,AV.one (SV.bptr 1000001 0),Uu,Ai x1,Uu,Uu,Uu,Ai x2]++Ur 127) [(1000000,(Ent.box [Sr 1000002,Sr 1000003,Sr 1000004,Sr 1000005,Sr 1000006,Si x3])),(1000001,(Ent.box [SV.nil,SV.nil,SV.nil,SV.nil,SV.nil,Si x4])),(1000002,Er ⟨9,Ty.str,x5⟩),(1000003,Er ⟨3,Ty.int .i64,x6⟩),(1000004,Er ⟨9,Ty.str,x7⟩),(1000005,Er ⟨3,Ty.int .i64,x8⟩),(1000006,Er ⟨71,ySp,x9⟩)])
def zg9(x0 x1 x2 x3 x4:Int)(x5:Lb)(x6:Li)(x7:Lb)(x8:Li)(x9:List (Br)):St:=(St.mk ([Uu,Ai x0,AV.one (SV.bptr 1000000 0),Uu,AV.one (SV.bptr 1000001 0),Uu,Ai x1,Ai x2]++Ur 130) [(1000000,(Ent.box [Sr 1000002,Sr 1000003,Sr 1000004,Sr 1000005,Sr 1000006,Si x3])),(1000001,(Ent.box [SV.nil,SV.nil,SV.nil,SV.nil,SV.nil,Si x4])),(1000002,Er ⟨9,Ty.str,x5⟩),(1000003,Er ⟨3,Ty.int .i64,x6⟩),(1000004,Er ⟨9,Ty.str,x7⟩),(1000005,Er ⟨3,Ty.int .i64,x8⟩),(1000006,Er ⟨71,ySp,x9⟩)])
noncomputable def zgj(n:Nat)(lL5:Int→Int→Int→Int→Int→Lb→Li→Lb→Li→(List (Br))→Option R155)(a:Mm)(b:Int):Option R155 :=
 (q93 n (((a.1.1,a.1.2),(a.2.1.1,a.2.1.2),a.2.2.1,a.2.2.2),())).bind fun r0=>cond (decide (r0.1.1<(0:Int))) (some ((((a.1.1,a.1.2),((a.2.1.1,a.2.1.2),(a.2.2.1,a.2.2.2))),((-1:Int),())),())) (lL5 b r0.1.1 (0:Int) a.2.2.2 (0:Int) a.1.1 a.1.2 a.2.1.1 a.2.1.2 a.2.2.1)
noncomputable def zdj(n:Nat)(lL13:Int→Int→Int→Int→Int→Lb→Li→Lb→Li→(List (Br))→Option R155)(x0 x1 x2 x3 x4:Int)(x5:Lb)(x6:Li)(x7:Lb)(x8:Li)(x9:List (Br)):Option R155 :=
 cond (decide (x2<16)) (cond (decide (0≤x0)) (cond (decide (x0<(↑x9.length:Int))) (cond (decide (0≤x2)) (cond (decide (x2<(↑(List.length (x9.getD x0.toNat (false,[],[])).2.2):Int))) (cond (decide (0≤x0)) (cond (decide (x0<(↑x9.length:Int))) ((q157 n (((x9.getD x0.toNat (false,[],[])).1,(x9.getD x0.toNat (false,[],[])).2.1,(x9.getD x0.toNat (false,[],[])).2.2),x2,())).bind fun r7=>cond (!r7.1.1) (cond (decide (0≤x0)) (cond (decide (x0<(↑x9.length:Int))) (cond (decide (0≤x2)) (cond (decide (x2<(↑(List.length (x9.getD x0.toNat (false,[],[])).2.2):Int))) (cond (decide ((List.getD (x9.getD x0.toNat (false,[],[])).2.2 x2.toNat (0,0,false,false)).1=(1:Int))) (cond (decide ((0:Int)≤(List.getD (x9.getD x0.toNat (false,[],[])).2.2 x2.toNat (0,0,false,false)).2.1)) (cond (decide ((List.getD (x9.getD x0.toNat (false,[],[])).2.2 x2.toNat (0,0,false,false)).2.1<(↑x6.length:Int))) (cond (decide ((0:Int)≤(List.getD (x9.getD x0.toNat (false,[],[])).2.2 x2.toNat (0,0,false,false)).2.1)) (cond (decide ((List.getD (x9.getD x0.toNat (false,[],[])).2.2 x2.toNat (0,0,false,false)).2.1<(↑x6.length:Int))) (lL13 x0 x1 (IntKind.i64.wrap (x2+1)) x3 x4 x5 (x6.set (Int.toNat (List.getD (x9.getD x0.toNat (false,[],[])).2.2 x2.toNat (0,0,false,false)).2.1) (IntKind.i64.wrap (x6.getD (Int.toNat (List.getD (x9.getD x0.toNat (false,[],[])).2.2 x2.toNat (0,0,false,false)).2.1) (0:Int)+(1:Int)))) x7 x8 (x9.set x0.toNat ((x9.getD x0.toNat (false,[],[])).1,(x9.getD x0.toNat (false,[],[])).2.1,List.set (x9.getD x0.toNat (false,[],[])).2.2 x2.toNat ((List.getD (x9.getD x0.toNat (false,[],[])).2.2 x2.toNat (0,0,false,false)).1,(List.getD (x9.getD x0.toNat (false,[],[])).2.2 x2.toNat (0,0,false,false)).2.1,false,(List.getD (x9.getD x0.toNat (false,[],[])).2.2 x2.toNat (0,0,false,false)).2.2.2)))) none) none) none) none) (cond (decide ((List.getD (x9.getD x0.toNat (false,[],[])).2.2 x2.toNat (0,0,false,false)).1=(2:Int))) (cond (decide ((0:Int)≤(List.getD (x9.getD x0.toNat (false,[],[])).2.2 x2.toNat (0,0,false,false)).2.1)) (cond (decide ((List.getD (x9.getD x0.toNat (false,[],[])).2.2 x2.toNat (0,0,false,false)).2.1<(↑x8.length:Int))) (cond (decide ((0:Int)≤(List.getD (x9.getD x0.toNat (false,[],[])).2.2 x2.toNat (0,0,false,false)).2.1)) (cond (decide ((List.getD (x9.getD x0.toNat (false,[],[])).2.2 x2.toNat (0,0,false,false)).2.1<(↑x8.length:Int))) (lL13 x0 x1 (IntKind.i64.wrap (x2+1)) x3 x4 x5 x6 x7 (x8.set (Int.toNat (List.getD (x9.getD x0.toNat (false,[],[])).2.2 x2.toNat (0,0,false,false)).2.1) (IntKind.i64.wrap (x8.getD (Int.toNat (List.getD (x9.getD x0.toNat (false,[],[])).2.2 x2.toNat (0,0,false,false)).2.1) (0:Int)+(1:Int)))) (x9.set x0.toNat ((x9.getD x0.toNat (false,[],[])).1,(x9.getD x0.toNat (false,[],[])).2.1,List.set (x9.getD x0.toNat (false,[],[])).2.2 x2.toNat ((List.getD (x9.getD x0.toNat (false,[],[])).2.2 x2.toNat (0,0,false,false)).1,(List.getD (x9.getD x0.toNat (false,[],[])).2.2 x2.toNat (0,0,false,false)).2.1,false,(List.getD (x9.getD x0.toNat (false,[],[])).2.2 x2.toNat (0,0,false,false)).2.2.2)))) none) none) none) none) (lL13 x0 x1 (IntKind.i64.wrap (x2+1)) x3 x4 x5 x6 x7 x8 (x9.set x0.toNat ((x9.getD x0.toNat (false,[],[])).1,(x9.getD x0.toNat (false,[],[])).2.1,List.set (x9.getD x0.toNat (false,[],[])).2.2 x2.toNat ((List.getD (x9.getD x0.toNat (false,[],[])).2.2 x2.toNat (0,0,false,false)).1,(List.getD (x9.getD x0.toNat (false,[],[])).2.2 x2.toNat (0,0,false,false)).2.1,false,(List.getD (x9.getD x0.toNat (false,[],[])).2.2 x2.toNat (0,0,false,false)).2.2.2)))))) none) none) none) none) (cond (decide (0≤x0)) (cond (decide (x0<(↑x9.length:Int))) (cond (decide (0≤x2)) (cond (decide (x2<(↑(List.length (x9.getD x0.toNat (false,[],[])).2.2):Int))) (cond (decide ((List.getD (x9.getD x0.toNat (false,[],[])).2.2 x2.toNat (0,0,false,false)).1=(1:Int))) (cond (decide ((0:Int)≤(List.getD (x9.getD x0.toNat (false,[],[])).2.2 x2.toNat (0,0,false,false)).2.1)) (cond (decide ((List.getD (x9.getD x0.toNat (false,[],[])).2.2 x2.toNat (0,0,false,false)).2.1<(↑x6.length:Int))) (cond (decide ((0:Int)≤(List.getD (x9.getD x0.toNat (false,[],[])).2.2 x2.toNat (0,0,false,false)).2.1)) (cond (decide ((List.getD (x9.getD x0.toNat (false,[],[])).2.2 x2.toNat (0,0,false,false)).2.1<(↑x6.length:Int))) (lL13 x0 x1 (IntKind.i64.wrap (x2+1)) x3 x4 x5 (x6.set (Int.toNat (List.getD (x9.getD x0.toNat (false,[],[])).2.2 x2.toNat (0,0,false,false)).2.1) (IntKind.i64.wrap (x6.getD (Int.toNat (List.getD (x9.getD x0.toNat (false,[],[])).2.2 x2.toNat (0,0,false,false)).2.1) (0:Int)+(1:Int)))) x7 x8 (x9.set x0.toNat ((x9.getD x0.toNat (false,[],[])).1,(x9.getD x0.toNat (false,[],[])).2.1,List.set (x9.getD x0.toNat (false,[],[])).2.2 x2.toNat ((List.getD (x9.getD x0.toNat (false,[],[])).2.2 x2.toNat (0,0,false,false)).1,(List.getD (x9.getD x0.toNat (false,[],[])).2.2 x2.toNat (0,0,false,false)).2.1,(List.getD (x9.getD x0.toNat (false,[],[])).2.2 x2.toNat (0,0,false,false)).2.2.1,(List.getD (x9.getD x0.toNat (false,[],[])).2.2 x2.toNat (0,0,false,false)).2.2.2)))) none) none) none) none) (cond (decide ((List.getD (x9.getD x0.toNat (false,[],[])).2.2 x2.toNat (0,0,false,false)).1=(2:Int))) (cond (decide ((0:Int)≤(List.getD (x9.getD x0.toNat (false,[],[])).2.2 x2.toNat (0,0,false,false)).2.1)) (cond (decide ((List.getD (x9.getD x0.toNat (false,[],[])).2.2 x2.toNat (0,0,false,false)).2.1<(↑x8.length:Int))) (cond (decide ((0:Int)≤(List.getD (x9.getD x0.toNat (false,[],[])).2.2 x2.toNat (0,0,false,false)).2.1)) (cond (decide ((List.getD (x9.getD x0.toNat (false,[],[])).2.2 x2.toNat (0,0,false,false)).2.1<(↑x8.length:Int))) (lL13 x0 x1 (IntKind.i64.wrap (x2+1)) x3 x4 x5 x6 x7 (x8.set (Int.toNat (List.getD (x9.getD x0.toNat (false,[],[])).2.2 x2.toNat (0,0,false,false)).2.1) (IntKind.i64.wrap (x8.getD (Int.toNat (List.getD (x9.getD x0.toNat (false,[],[])).2.2 x2.toNat (0,0,false,false)).2.1) (0:Int)+(1:Int)))) (x9.set x0.toNat ((x9.getD x0.toNat (false,[],[])).1,(x9.getD x0.toNat (false,[],[])).2.1,List.set (x9.getD x0.toNat (false,[],[])).2.2 x2.toNat ((List.getD (x9.getD x0.toNat (false,[],[])).2.2 x2.toNat (0,0,false,false)).1,(List.getD (x9.getD x0.toNat (false,[],[])).2.2 x2.toNat (0,0,false,false)).2.1,(List.getD (x9.getD x0.toNat (false,[],[])).2.2 x2.toNat (0,0,false,false)).2.2.1,(List.getD (x9.getD x0.toNat (false,[],[])).2.2 x2.toNat (0,0,false,false)).2.2.2)))) none) none) none) none) (lL13 x0 x1 (IntKind.i64.wrap (x2+1)) x3 x4 x5 x6 x7 x8 (x9.set x0.toNat ((x9.getD x0.toNat (false,[],[])).1,(x9.getD x0.toNat (false,[],[])).2.1,List.set (x9.getD x0.toNat (false,[],[])).2.2 x2.toNat ((List.getD (x9.getD x0.toNat (false,[],[])).2.2 x2.toNat (0,0,false,false)).1,(List.getD (x9.getD x0.toNat (false,[],[])).2.2 x2.toNat (0,0,false,false)).2.1,(List.getD (x9.getD x0.toNat (false,[],[])).2.2 x2.toNat (0,0,false,false)).2.2.1,(List.getD (x9.getD x0.toNat (false,[],[])).2.2 x2.toNat (0,0,false,false)).2.2.2)))))) none) none) none) none)) none) none) none) none) none) none) (cond (decide (0≤x0)) (cond (decide (x0<(↑x9.length:Int))) (cond (decide (((0:Nat)+List.length (x9.getD x0.toNat (false,[],[])).2.1)*(24:Nat)≤(140737488355328:Nat))) (cond (decide (((0:Nat)+List.length (x9.getD x0.toNat (false,[],[])).2.2)*(24:Nat)≤(140737488355328:Nat))) (cond (decide (0≤x1)) (cond (decide (x1<(↑x9.length:Int))) (some ((((x5,x6),((x7,x8),(x9.set x1.toNat (true,(x9.getD x0.toNat (false,[],[])).2.1,(x9.getD x0.toNat (false,[],[])).2.2),x3))),(x1,())),())) none) none) none) none) none) none)
noncomputable def ze7(n:Nat)(lL5:Int→Int→Int→Int→Int→Lb→Li→Lb→Li→(List (Br))→Option R155)(lL13:Int→Int→Int→Int→Int→Lb→Li→Lb→Li→(List (Br))→Option R155)(x0 x1 x2 x3 x4:Int)(x5:Lb)(x6:Li)(x7:Lb)(x8:Li)(x9:List (Br)):Option R155 :=
 cond (decide (x2<16)) (cond (decide (0≤x0)) (cond (decide (x0<(↑x9.length:Int))) ((q157 n (((x9.getD x0.toNat (false,[],[])).1,(x9.getD x0.toNat (false,[],[])).2.1,(x9.getD x0.toNat (false,[],[])).2.2),x2,())).bind fun r2=>cond r2.1.1 (cond (decide (0≤x0)) (cond (decide (x0<(↑x9.length:Int))) (cond (decide (0≤x2)) (cond (decide (x2<(↑(List.length (x9.getD x0.toNat (false,[],[])).2.2):Int))) (cond (decide ((List.getD (x9.getD x0.toNat (false,[],[])).2.2 x2.toNat (0,0,false,false)).1=(0:Int))) ((q153 n (((x5,x6),(x7,x8),x9,x3),x0,x2,())).bind fun r3=>cond r3.1.2.1 ((q153 n (((x5,x6),(x7,x8),x9,x3),x0,x2,())).bind fun r4=>cond (!r4.1.2.1) none (lL5 x0 x1 (IntKind.i64.wrap (x2+1)) r4.1.1.2.2.2 x4 r4.1.1.1.1 r4.1.1.1.2 r4.1.1.2.1.1 r4.1.1.2.1.2 r4.1.1.2.2.1)) ((zfl n (((x5,x6),(x7,x8),x9,x3),x0,x2,())).bind fun r5=>cond (!r5.1.1) (some ((((r5.2.1.1.1,r5.2.1.1.2),((r5.2.1.2.1.1,r5.2.1.2.1.2),(r5.2.1.2.2.1,x3))),((-1:Int),())),())) none)) (lL5 x0 x1 (IntKind.i64.wrap (x2+1)) x3 x4 x5 x6 x7 x8 x9)) none) none) none) none) (lL5 x0 x1 (IntKind.i64.wrap (x2+1)) x3 x4 x5 x6 x7 x8 x9)) none) none) (lL13 x0 x1 (0:Int) x3 x4 x5 x6 x7 x8 x9)
theorem yfk(n:Nat)(a:Mm)(b:Int):runF TT G155 ymx Try.f155 c155 yc6 yi4 n (a,b,())=zgj n (fun x0 x1 x2 x3 x4 x5 x6 x7 x8 x9=>zne n (.head 5) [n] (zg9 x0 x1 x2 x3 x4 x5 x6 x7 x8 x9)) a b:=by kernel_rfl
theorem zw3(n:Nat)(x0 x1 x2 x3 x4:Int)(x5:Lb)(x6:Li)(x7:Lb)(x8:Li)(x9:List (Br)):zne n (.head 13) [0] (zd6 x0 x1 x2 x3 x4 x5 x6 x7 x8 x9)=none:=by kernel_rfl
theorem yfl(n m13:Nat)(x0 x1 x2 x3 x4:Int)(x5:Lb)(x6:Li)(x7:Lb)(x8:Li)(x9:List (Br)):zne n (.head 13) [m13+1] (zd6 x0 x1 x2 x3 x4 x5 x6 x7 x8 x9)=zdj n (fun x0 x1 x2 x3 x4 x5 x6 x7 x8 x9=>zne n (.head 13) [m13] (zd6 x0 x1 x2 x3 x4 x5 x6 x7 x8 x9)) x0 x1 x2 x3 x4 x5 x6 x7 x8 x9:=by kernel_rfl
theorem zz2(n:Nat)(x0 x1 x2 x3 x4:Int)(x5:Lb)(x6:Li)(x7:Lb)(x8:Li)(x9:List (Br)):zne n (.head 5) [0] (zg9 x0 x1 x2 x3 x4 x5 x6 x7 x8 x9)=none:=by kernel_rfl
theorem yl1(n m5:Nat)(x0 x1 x2 x3 x4:Int)(x5:Lb)(x6:Li)(x7:Lb)(x8:Li)(x9:List (Br)):zne n (.head 5) [m5+1] (zg9 x0 x1 x2 x3 x4 x5 x6 x7 x8 x9)=ze7 n (fun x0 x1 x2 x3 x4 x5 x6 x7 x8 x9=>zne n (.head 5) [m5] (zg9 x0 x1 x2 x3 x4 x5 x6 x7 x8 x9)) (fun x0 x1 x2 x3 x4 x5 x6 x7 x8 x9=>zne n (.head 13) [n] (zd6 x0 x1 x2 x3 x4 x5 x6 x7 x8 x9)) x0 x1 x2 x3 x4 x5 x6 x7 x8 x9:=by kernel_rfl
noncomputable def zj5(n:Nat):Nat→Int→Int→Int→Int→Int→Lb→Li→Lb→Li→(List (Br))→Option R155
 |0,_,_,_,_,_,_,_,_,_,_=>none
 |m+1,x0,x1,x2,x3,x4,x5,x6,x7,x8,x9=>zdj n (zj5 n m) x0 x1 x2 x3 x4 x5 x6 x7 x8 x9
noncomputable def zl5(n:Nat):Nat→Int→Int→Int→Int→Int→Lb→Li→Lb→Li→(List (Br))→Option R155
 |0,_,_,_,_,_,_,_,_,_,_=>none
 |m+1,x0,x1,x2,x3,x4,x5,x6,x7,x8,x9=>ze7 n (zl5 n m) (zj5 n n) x0 x1 x2 x3 x4 x5 x6 x7 x8 x9
noncomputable def p155(n:Nat)(a:Mm)(b:Int):Option R155:=zgj n (zl5 n n) a b
theorem ybv(n:Nat):∀ (m13:Nat) (x0 x1 x2 x3 x4:Int) (x5:Lb) (x6:Li) (x7:Lb) (x8:Li) (x9:List (Br)),zne n (.head 13) [m13] (zd6 x0 x1 x2 x3 x4 x5 x6 x7 x8 x9)=zj5 n m13 x0 x1 x2 x3 x4 x5 x6 x7 x8 x9:=by
 intro m
 induction m with
 |zero=>intros;rw[zw3];rfl
 |succ m ih =>
  intros;rw[yfl]
  try simp only[ih]
  rfl
theorem yia(n:Nat):∀ (m5:Nat) (x0 x1 x2 x3 x4:Int) (x5:Lb) (x6:Li) (x7:Lb) (x8:Li) (x9:List (Br)),zne n (.head 5) [m5] (zg9 x0 x1 x2 x3 x4 x5 x6 x7 x8 x9)=zl5 n m5 x0 x1 x2 x3 x4 x5 x6 x7 x8 x9:=by
 intro m
 induction m with
 |zero=>intros;rw[zz2];rfl
 |succ m ih =>
  intros;rw[yl1]
  try simp only[ybv,ih]
  rfl
noncomputable def q155(n:Nat)(x:zan yc6):Option R155:=p155 n x.1 x.2.1
noncomputable def yne:Sm:=⟨yc6,yi4,false,q155⟩
theorem yp5:GamOK Try.prog G155:=by intro f s h;unfold G155 at h;split at h;exact gj h y93;exact gj h y153;exact gj h ybp;exact gj h y157;cases h
theorem hh155:Hp 155 yne:=hOf (zaf (an:=ymx) (c:=c155) zax yp5 zaw Try.func155 (by kernel_rfl) rfl (by decide +kernel)) fun n x=>(yfk n x.1 x.2.1).trans (by simp only[yia];try rfl)
theorem y155:Gk 155 yne:=⟨⟨Try.f155,c155,Try.func155,by kernel_rfl,by decide +kernel⟩,hh155⟩
noncomputable def c156:Code:=(Try.f156.body.getD .skip)
def yro:An:=⟨fun _=>⟨[],[]⟩,fun _ _=>none⟩
abbrev yc5:List PK:=[.own tMem true,.val i64 false,.val i64 false]
abbrev yi3:List RK:=[.own tMem true,.val i64 false,.val i64 false]
abbrev R156:=zak yi3×zaj yc5
noncomputable def G156:Gam:=fun f=>match f with|56=>some Sm56|71=>some Sm71|153=>some ybh|_=>none
noncomputable def zgi(n:Nat)(a:Mm)(b c:Int):Option R156 :=
 cond (decide ((0:Int)≤b)) (cond (decide (b<(↑(List.length a.2.2.1):Int))) ((q71 n ((List.getD a.2.2.1 b.toNat (false,[],[])).2.1,IntKind.i64.wrap (c.tdiv (4:Int)),())).bind fun r0=>cond (decide (r0.1.1<(0:Int))) (some ((((a.1.1,a.1.2),((a.2.1.1,a.2.1.2),(a.2.2.1,a.2.2.2))),((-1:Int),((2:Int),()))),())) ((q56 n (((a.1.1,a.1.2),(a.2.1.1,a.2.1.2),a.2.2.1,a.2.2.2),())).bind fun r1=>(q153 n (((r1.1.1.1.1,r1.1.1.1.2),(r1.1.1.2.1.1,r1.1.1.2.1.2),r1.1.1.2.2.1,r1.1.1.2.2.2),b,IntKind.i64.wrap (c.tdiv (4:Int)),())).bind fun r2=>cond (!r2.1.2.1) (some ((((a.1.1,a.1.2),((a.2.1.1,a.2.1.2),(a.2.2.1,a.2.2.2))),((-1:Int),((4:Int),()))),())) (cond (decide ((0:Int)≤b)) (cond (decide (b<(↑(List.length r2.1.1.2.2.1):Int))) (cond (decide ((0:Int)≤IntKind.i64.wrap (c.tdiv (4:Int)))) (cond (decide (IntKind.i64.wrap (c.tdiv (4:Int))<(↑(List.length (List.getD r2.1.1.2.2.1 b.toNat (false,[],[])).2.2):Int))) (cond (decide ((0:Int)≤(List.getD (List.getD r2.1.1.2.2.1 b.toNat (false,[],[])).2.2 (IntKind.i64.wrap (c.tdiv (4:Int))).toNat ((0:Int),(0:Int),false,false)).2.1)) (cond (decide ((List.getD (List.getD r2.1.1.2.2.1 b.toNat (false,[],[])).2.2 (IntKind.i64.wrap (c.tdiv (4:Int))).toNat ((0:Int),(0:Int),false,false)).2.1<(↑(List.length r2.1.1.1.1):Int))) (cond (decide ((0:Int)≤c.tmod (4:Int))) (cond (decide (c.tmod (4:Int)<(↑(ByteArray.size (List.getD r2.1.1.1.1 (Int.toNat (List.getD (List.getD r2.1.1.2.2.1 b.toNat (false,[],[])).2.2 (IntKind.i64.wrap (c.tdiv (4:Int))).toNat ((0:Int),(0:Int),false,false)).2.1) ByteArray.empty)):Int))) (some ((((r2.1.1.1.1,r2.1.1.1.2),((r2.1.1.2.1.1,r2.1.1.2.1.2),(r2.1.1.2.2.1,r2.1.1.2.2.2))),(IntKind.i64.wrap (↑((List.getD r2.1.1.1.1 (Int.toNat (List.getD (List.getD r2.1.1.2.2.1 b.toNat (false,[],[])).2.2 (IntKind.i64.wrap (c.tdiv (4:Int))).toNat ((0:Int),(0:Int),false,false)).2.1) ByteArray.empty).data.toList.getD (c.tmod (4:Int)).toNat (0:UInt8)).toNat:Int),((0:Int),()))),())) none) none) none) none) none) none) none) none))) none) none
theorem yfj(n:Nat)(a:Mm)(b c:Int):runF TT G156 yro Try.f156 c156 yc5 yi3 n (a,b,c,())=zgi n a b c:=by kernel_rfl
noncomputable def p156(n:Nat)(a:Mm)(b c:Int):Option R156:=zgi n a b c
noncomputable def q156(n:Nat)(x:zan yc5):Option R156:=p156 n x.1 x.2.1 x.2.2.1
noncomputable def ynd:Sm:=⟨yc5,yi3,false,q156⟩
theorem yp4:GamOK Try.prog G156:=by intro f s h;unfold G156 at h;split at h;exact gj h y56;exact gj h y71;exact gj h y153;cases h
theorem hh156:Hp 156 ynd:=hOf (zaf (an:=yro) (c:=c156) zax yp4 zaw Try.func156 (by kernel_rfl) rfl (by decide +kernel)) fun n x=>(yfj n x.1 x.2.1 x.2.2.1).trans rfl
theorem y156:Gk 156 ynd:=⟨⟨Try.f156,c156,Try.func156,by kernel_rfl,by decide +kernel⟩,hh156⟩
noncomputable def c110:Code:=(Try.f110.body.getD .skip)
def yr1:An:=⟨fun _=>⟨[],[]⟩,fun _ _=>none⟩
abbrev ydp:List PK:=[.bx tRd,.own tMem true]
abbrev yjm:List RK:=[.own tMem true]
abbrev R110:=zak yjm×zaj ydp
noncomputable def G110:Gam:=fun f=>match f with|28=>some Sm28|48=>some Sm48|54=>some Sm54|55=>some Sm55|56=>some Sm56|103=>some ynw|108=>some ygu|109=>some ygt|155=>some yne|156=>some ynd|_=>none
noncomputable def zgt(n:Nat)(a:Li×Int)(b:Mm):Option R110 :=
 (q48 n ((a.1,a.2),(5:Int),())).bind fun r0=>(q54 n (((b.1.1,b.1.2),(b.2.1.1,b.2.1.2),b.2.2.1,b.2.2.2),r0.1.1,())).bind fun r1=>cond (!r1.1.1) ((q54 n (((b.1.1,b.1.2),(b.2.1.1,b.2.1.2),b.2.2.1,b.2.2.2),(0:Int),())).bind fun r2=>cond (!r2.1.1) ((q28 n (((b.1.1,b.1.2),(b.2.1.1,b.2.1.2),b.2.2.1,b.2.2.2),())).bind fun r3=>cond r3.1.2.2.1 (some ((((r3.1.1.1.1,r3.1.1.1.2),((r3.1.1.2.1.1,r3.1.1.2.1.2),(r3.1.1.2.2.1,r3.1.1.2.2.2))),()),((r0.2.1.1,r0.2.1.2),()))) (some ((((b.1.1,b.1.2),((b.2.1.1,b.2.1.2),(b.2.2.1,b.2.2.2))),()),((r0.2.1.1,r0.2.1.2),())))) ((q48 n ((r0.2.1.1,r0.2.1.2),(64:Int),())).bind fun r4=>(q48 n ((r4.2.1.1,r4.2.1.2),(14:Int),())).bind fun r5=>cond (decide (r5.1.1=(0:Int))) ((q56 n (((b.1.1,b.1.2),(b.2.1.1,b.2.1.2),b.2.2.1,b.2.2.2),())).bind fun r6=>(q155 n (((r6.1.1.1.1,r6.1.1.1.2),(r6.1.1.2.1.1,r6.1.1.2.1.2),r6.1.1.2.2.1,r6.1.1.2.2.2),(0:Int),())).bind fun r7=>cond (decide ((0:Int)≤r7.1.2.1)) (some ((((r7.1.1.1.1,r7.1.1.1.2),((r7.1.1.2.1.1,r7.1.1.2.1.2),(r7.1.1.2.2.1,r7.1.1.2.2.2))),()),((r5.2.1.1,r5.2.1.2),()))) (some ((((b.1.1,b.1.2),((b.2.1.1,b.2.1.2),(b.2.2.1,b.2.2.2))),()),((r5.2.1.1,r5.2.1.2),())))) (cond (decide (r5.1.1=(1:Int))) ((q56 n (((b.1.1,b.1.2),(b.2.1.1,b.2.1.2),b.2.2.1,b.2.2.2),())).bind fun r8=>(q48 n ((r5.2.1.1,r5.2.1.2),(12:Int),())).bind fun r9=>(q48 n ((r9.2.1.1,r9.2.1.2),(4:Int),())).bind fun r10=>(q55 n (((r8.1.1.1.1,r8.1.1.1.2),(r8.1.1.2.1.1,r8.1.1.2.1.2),r8.1.1.2.2.1,r8.1.1.2.2.2),(0:Int),r9.1.1,IntKind.i64.wrap ((1:Int)+r10.1.1),())).bind fun r11=>some ((((r11.1.1.1.1,r11.1.1.1.2),((r11.1.1.2.1.1,r11.1.1.2.1.2),(r11.1.1.2.2.1,r11.1.1.2.2.2))),()),((r10.2.1.1,r10.2.1.2),()))) (cond (decide (r5.1.1=(2:Int))) ((q56 n (((b.1.1,b.1.2),(b.2.1.1,b.2.1.2),b.2.2.1,b.2.2.2),())).bind fun r12=>(q48 n ((r5.2.1.1,r5.2.1.2),(12:Int),())).bind fun r13=>(q48 n ((r13.2.1.1,r13.2.1.2),(4:Int),())).bind fun r14=>(q48 n ((r14.2.1.1,r14.2.1.2),(5:Int),())).bind fun r15=>(q48 n ((r15.2.1.1,r15.2.1.2),(3:Int),())).bind fun r16=>(q108 n (((r12.1.1.1.1,r12.1.1.1.2),(r12.1.1.2.1.1,r12.1.1.2.1.2),r12.1.1.2.2.1,r12.1.1.2.2.2),(0:Int),(r13.1.1,IntKind.i64.wrap ((1:Int)+r14.1.1),decide ((0:Int)<r15.1.1),decide (r16.1.1=(0:Int))),())).bind fun r17=>some ((((r17.1.1.1.1,r17.1.1.1.2),((r17.1.1.2.1.1,r17.1.1.2.1.2),(r17.1.1.2.2.1,r17.1.1.2.2.2))),()),((r16.2.1.1,r16.2.1.2),()))) (cond (decide (r5.1.1=(3:Int))) ((q56 n (((b.1.1,b.1.2),(b.2.1.1,b.2.1.2),b.2.2.1,b.2.2.2),())).bind fun r18=>(q48 n ((r5.2.1.1,r5.2.1.2),(12:Int),())).bind fun r19=>(q48 n ((r19.2.1.1,r19.2.1.2),(4:Int),())).bind fun r20=>(q48 n ((r20.2.1.1,r20.2.1.2),(5:Int),())).bind fun r21=>(q48 n ((r21.2.1.1,r21.2.1.2),(3:Int),())).bind fun r22=>(q108 n (((r18.1.1.1.1,r18.1.1.1.2),(r18.1.1.2.1.1,r18.1.1.2.1.2),r18.1.1.2.2.1,r18.1.1.2.2.2),(0:Int),(r19.1.1,IntKind.i64.wrap ((1:Int)+r20.1.1),decide ((0:Int)<r21.1.1),decide (r22.1.1=(0:Int))),())).bind fun r23=>some ((((r23.1.1.1.1,r23.1.1.1.2),((r23.1.1.2.1.1,r23.1.1.2.1.2),(r23.1.1.2.2.1,r23.1.1.2.2.2))),()),((r22.2.1.1,r22.2.1.2),()))) (cond (decide (r5.1.1=(4:Int))) ((q56 n (((b.1.1,b.1.2),(b.2.1.1,b.2.1.2),b.2.2.1,b.2.2.2),())).bind fun r24=>(q48 n ((r5.2.1.1,r5.2.1.2),(12:Int),())).bind fun r25=>(q48 n ((r25.2.1.1,r25.2.1.2),(4:Int),())).bind fun r26=>(q48 n ((r26.2.1.1,r26.2.1.2),(5:Int),())).bind fun r27=>(q48 n ((r27.2.1.1,r27.2.1.2),(3:Int),())).bind fun r28=>(q108 n (((r24.1.1.1.1,r24.1.1.1.2),(r24.1.1.2.1.1,r24.1.1.2.1.2),r24.1.1.2.2.1,r24.1.1.2.2.2),(0:Int),(r25.1.1,IntKind.i64.wrap ((1:Int)+r26.1.1),decide ((0:Int)<r27.1.1),decide (r28.1.1=(0:Int))),())).bind fun r29=>some ((((r29.1.1.1.1,r29.1.1.1.2),((r29.1.1.2.1.1,r29.1.1.2.1.2),(r29.1.1.2.2.1,r29.1.1.2.2.2))),()),((r28.2.1.1,r28.2.1.2),()))) (cond (decide (r5.1.1=(5:Int))) ((q48 n ((r5.2.1.1,r5.2.1.2),(4:Int),())).bind fun r30=>cond (decide (r30.1.1=(0:Int))) ((q56 n (((b.1.1,b.1.2),(b.2.1.1,b.2.1.2),b.2.2.1,b.2.2.2),())).bind fun r31=>(q103 n (((r31.1.1.1.1,r31.1.1.1.2),(r31.1.1.2.1.1,r31.1.1.2.1.2),r31.1.1.2.2.1,r31.1.1.2.2.2),(0:Int),())).bind fun r32=>some ((((r32.1.1.1.1,r32.1.1.1.2),((r32.1.1.2.1.1,r32.1.1.2.1.2),(r32.1.1.2.2.1,r32.1.1.2.2.2))),()),((r30.2.1.1,r30.2.1.2),()))) (some ((((b.1.1,b.1.2),((b.2.1.1,b.2.1.2),(b.2.2.1,b.2.2.2))),()),((r30.2.1.1,r30.2.1.2),())))) (cond (decide (r5.1.1=(6:Int))) ((q156 n (((b.1.1,b.1.2),(b.2.1.1,b.2.1.2),b.2.2.1,b.2.2.2),(0:Int),r4.1.1,())).bind fun r33=>some ((((r33.1.1.1.1,r33.1.1.1.2),((r33.1.1.2.1.1,r33.1.1.2.1.2),(r33.1.1.2.2.1,r33.1.1.2.2.2))),()),((r5.2.1.1,r5.2.1.2),()))) (cond (decide (r5.1.1=(7:Int))) ((q156 n (((b.1.1,b.1.2),(b.2.1.1,b.2.1.2),b.2.2.1,b.2.2.2),(0:Int),r4.1.1,())).bind fun r34=>some ((((r34.1.1.1.1,r34.1.1.1.2),((r34.1.1.2.1.1,r34.1.1.2.1.2),(r34.1.1.2.2.1,r34.1.1.2.2.2))),()),((r5.2.1.1,r5.2.1.2),()))) (cond (decide (r5.1.1=(8:Int))) ((q156 n (((b.1.1,b.1.2),(b.2.1.1,b.2.1.2),b.2.2.1,b.2.2.2),(0:Int),r4.1.1,())).bind fun r35=>some ((((r35.1.1.1.1,r35.1.1.1.2),((r35.1.1.2.1.1,r35.1.1.2.1.2),(r35.1.1.2.2.1,r35.1.1.2.2.2))),()),((r5.2.1.1,r5.2.1.2),()))) ((q48 n ((r5.2.1.1,r5.2.1.2),(256:Int),())).bind fun r36=>(q109 n (((b.1.1,b.1.2),(b.2.1.1,b.2.1.2),b.2.2.1,b.2.2.2),(0:Int),r4.1.1,r36.1.1,())).bind fun r37=>some ((((r37.1.1.1.1,r37.1.1.1.2),((r37.1.1.2.1.1,r37.1.1.2.1.2),(r37.1.1.2.2.1,r37.1.1.2.2.2))),()),((r36.2.1.1,r36.2.1.2),()))))))))))))) ((q54 n (((b.1.1,b.1.2),(b.2.1.1,b.2.1.2),b.2.2.1,b.2.2.2),r0.1.1,())).bind fun r38=>cond (!r38.1.1) ((q28 n (((b.1.1,b.1.2),(b.2.1.1,b.2.1.2),b.2.2.1,b.2.2.2),())).bind fun r39=>cond r39.1.2.2.1 (some ((((r39.1.1.1.1,r39.1.1.1.2),((r39.1.1.2.1.1,r39.1.1.2.1.2),(r39.1.1.2.2.1,r39.1.1.2.2.2))),()),((r0.2.1.1,r0.2.1.2),()))) (some ((((b.1.1,b.1.2),((b.2.1.1,b.2.1.2),(b.2.2.1,b.2.2.2))),()),((r0.2.1.1,r0.2.1.2),())))) ((q48 n ((r0.2.1.1,r0.2.1.2),(64:Int),())).bind fun r40=>(q48 n ((r40.2.1.1,r40.2.1.2),(14:Int),())).bind fun r41=>cond (decide (r41.1.1=(0:Int))) ((q56 n (((b.1.1,b.1.2),(b.2.1.1,b.2.1.2),b.2.2.1,b.2.2.2),())).bind fun r42=>(q155 n (((r42.1.1.1.1,r42.1.1.1.2),(r42.1.1.2.1.1,r42.1.1.2.1.2),r42.1.1.2.2.1,r42.1.1.2.2.2),r0.1.1,())).bind fun r43=>cond (decide ((0:Int)≤r43.1.2.1)) (some ((((r43.1.1.1.1,r43.1.1.1.2),((r43.1.1.2.1.1,r43.1.1.2.1.2),(r43.1.1.2.2.1,r43.1.1.2.2.2))),()),((r41.2.1.1,r41.2.1.2),()))) (some ((((b.1.1,b.1.2),((b.2.1.1,b.2.1.2),(b.2.2.1,b.2.2.2))),()),((r41.2.1.1,r41.2.1.2),())))) (cond (decide (r41.1.1=(1:Int))) ((q56 n (((b.1.1,b.1.2),(b.2.1.1,b.2.1.2),b.2.2.1,b.2.2.2),())).bind fun r44=>(q48 n ((r41.2.1.1,r41.2.1.2),(12:Int),())).bind fun r45=>(q48 n ((r45.2.1.1,r45.2.1.2),(4:Int),())).bind fun r46=>(q55 n (((r44.1.1.1.1,r44.1.1.1.2),(r44.1.1.2.1.1,r44.1.1.2.1.2),r44.1.1.2.2.1,r44.1.1.2.2.2),r0.1.1,r45.1.1,IntKind.i64.wrap ((1:Int)+r46.1.1),())).bind fun r47=>some ((((r47.1.1.1.1,r47.1.1.1.2),((r47.1.1.2.1.1,r47.1.1.2.1.2),(r47.1.1.2.2.1,r47.1.1.2.2.2))),()),((r46.2.1.1,r46.2.1.2),()))) (cond (decide (r41.1.1=(2:Int))) ((q56 n (((b.1.1,b.1.2),(b.2.1.1,b.2.1.2),b.2.2.1,b.2.2.2),())).bind fun r48=>(q48 n ((r41.2.1.1,r41.2.1.2),(12:Int),())).bind fun r49=>(q48 n ((r49.2.1.1,r49.2.1.2),(4:Int),())).bind fun r50=>(q48 n ((r50.2.1.1,r50.2.1.2),(5:Int),())).bind fun r51=>(q48 n ((r51.2.1.1,r51.2.1.2),(3:Int),())).bind fun r52=>(q108 n (((r48.1.1.1.1,r48.1.1.1.2),(r48.1.1.2.1.1,r48.1.1.2.1.2),r48.1.1.2.2.1,r48.1.1.2.2.2),r0.1.1,(r49.1.1,IntKind.i64.wrap ((1:Int)+r50.1.1),decide ((0:Int)<r51.1.1),decide (r52.1.1=(0:Int))),())).bind fun r53=>some ((((r53.1.1.1.1,r53.1.1.1.2),((r53.1.1.2.1.1,r53.1.1.2.1.2),(r53.1.1.2.2.1,r53.1.1.2.2.2))),()),((r52.2.1.1,r52.2.1.2),()))) (cond (decide (r41.1.1=(3:Int))) ((q56 n (((b.1.1,b.1.2),(b.2.1.1,b.2.1.2),b.2.2.1,b.2.2.2),())).bind fun r54=>(q48 n ((r41.2.1.1,r41.2.1.2),(12:Int),())).bind fun r55=>(q48 n ((r55.2.1.1,r55.2.1.2),(4:Int),())).bind fun r56=>(q48 n ((r56.2.1.1,r56.2.1.2),(5:Int),())).bind fun r57=>(q48 n ((r57.2.1.1,r57.2.1.2),(3:Int),())).bind fun r58=>(q108 n (((r54.1.1.1.1,r54.1.1.1.2),(r54.1.1.2.1.1,r54.1.1.2.1.2),r54.1.1.2.2.1,r54.1.1.2.2.2),r0.1.1,(r55.1.1,IntKind.i64.wrap ((1:Int)+r56.1.1),decide ((0:Int)<r57.1.1),decide (r58.1.1=(0:Int))),())).bind fun r59=>some ((((r59.1.1.1.1,r59.1.1.1.2),((r59.1.1.2.1.1,r59.1.1.2.1.2),(r59.1.1.2.2.1,r59.1.1.2.2.2))),()),((r58.2.1.1,r58.2.1.2),()))) (cond (decide (r41.1.1=(4:Int))) ((q56 n (((b.1.1,b.1.2),(b.2.1.1,b.2.1.2),b.2.2.1,b.2.2.2),())).bind fun r60=>(q48 n ((r41.2.1.1,r41.2.1.2),(12:Int),())).bind fun r61=>(q48 n ((r61.2.1.1,r61.2.1.2),(4:Int),())).bind fun r62=>(q48 n ((r62.2.1.1,r62.2.1.2),(5:Int),())).bind fun r63=>(q48 n ((r63.2.1.1,r63.2.1.2),(3:Int),())).bind fun r64=>(q108 n (((r60.1.1.1.1,r60.1.1.1.2),(r60.1.1.2.1.1,r60.1.1.2.1.2),r60.1.1.2.2.1,r60.1.1.2.2.2),r0.1.1,(r61.1.1,IntKind.i64.wrap ((1:Int)+r62.1.1),decide ((0:Int)<r63.1.1),decide (r64.1.1=(0:Int))),())).bind fun r65=>some ((((r65.1.1.1.1,r65.1.1.1.2),((r65.1.1.2.1.1,r65.1.1.2.1.2),(r65.1.1.2.2.1,r65.1.1.2.2.2))),()),((r64.2.1.1,r64.2.1.2),()))) (cond (decide (r41.1.1=(5:Int))) ((q48 n ((r41.2.1.1,r41.2.1.2),(4:Int),())).bind fun r66=>cond (decide (r66.1.1=(0:Int))) ((q56 n (((b.1.1,b.1.2),(b.2.1.1,b.2.1.2),b.2.2.1,b.2.2.2),())).bind fun r67=>(q103 n (((r67.1.1.1.1,r67.1.1.1.2),(r67.1.1.2.1.1,r67.1.1.2.1.2),r67.1.1.2.2.1,r67.1.1.2.2.2),r0.1.1,())).bind fun r68=>some ((((r68.1.1.1.1,r68.1.1.1.2),((r68.1.1.2.1.1,r68.1.1.2.1.2),(r68.1.1.2.2.1,r68.1.1.2.2.2))),()),((r66.2.1.1,r66.2.1.2),()))) (some ((((b.1.1,b.1.2),((b.2.1.1,b.2.1.2),(b.2.2.1,b.2.2.2))),()),((r66.2.1.1,r66.2.1.2),())))) (cond (decide (r41.1.1=(6:Int))) ((q156 n (((b.1.1,b.1.2),(b.2.1.1,b.2.1.2),b.2.2.1,b.2.2.2),r0.1.1,r40.1.1,())).bind fun r69=>some ((((r69.1.1.1.1,r69.1.1.1.2),((r69.1.1.2.1.1,r69.1.1.2.1.2),(r69.1.1.2.2.1,r69.1.1.2.2.2))),()),((r41.2.1.1,r41.2.1.2),()))) (cond (decide (r41.1.1=(7:Int))) ((q156 n (((b.1.1,b.1.2),(b.2.1.1,b.2.1.2),b.2.2.1,b.2.2.2),r0.1.1,r40.1.1,())).bind fun r70=>some ((((r70.1.1.1.1,r70.1.1.1.2),((r70.1.1.2.1.1,r70.1.1.2.1.2),(r70.1.1.2.2.1,r70.1.1.2.2.2))),()),((r41.2.1.1,r41.2.1.2),()))) (cond (decide (r41.1.1=(8:Int))) ((q156 n (((b.1.1,b.1.2),(b.2.1.1,b.2.1.2),b.2.2.1,b.2.2.2),r0.1.1,r40.1.1,())).bind fun r71=>some ((((r71.1.1.1.1,r71.1.1.1.2),((r71.1.1.2.1.1,r71.1.1.2.1.2),(r71.1.1.2.2.1,r71.1.1.2.2.2))),()),((r41.2.1.1,r41.2.1.2),()))) ((q48 n ((r41.2.1.1,r41.2.1.2),(256:Int),())).bind fun r72=>(q109 n (((b.1.1,b.1.2),(b.2.1.1,b.2.1.2),b.2.2.1,b.2.2.2),r0.1.1,r40.1.1,r72.1.1,())).bind fun r73=>some ((((r73.1.1.1.1,r73.1.1.1.2),((r73.1.1.2.1.1,r73.1.1.2.1.2),(r73.1.1.2.2.1,r73.1.1.2.2.2))),()),((r72.2.1.1,r72.2.1.2),())))))))))))))
theorem yf5(n:Nat)(a:Li×Int)(b:Mm):runF TT G110 yr1 Try.f110 c110 ydp yjm n (a,b,())=zgt n a b:=by kernel_rfl
noncomputable def p110(n:Nat)(a:Li×Int)(b:Mm):Option R110:=zgt n a b
noncomputable def q110(n:Nat)(x:zan ydp):Option R110:=p110 n x.1 x.2.1
noncomputable def ynt:Sm:=⟨ydp,yjm,true,q110⟩
theorem yqn:GamOK Try.prog G110:=by intro f s h;unfold G110 at h;split at h;exact gj h y28;exact gj h y48;exact gj h y54;exact gj h y55;exact gj h y56;exact gj h y103;exact gj h y108;exact gj h y109;exact gj h y155;exact gj h y156;cases h
theorem hh110:Hp 110 ynt:=hOf (zaf (an:=yr1) (c:=c110) zax yqn zaw Try.func110 (by kernel_rfl) rfl (by decide +kernel)) fun n x=>(yf5 n x.1 x.2.1).trans rfl
theorem y110:Gk 110 ynt:=⟨⟨Try.f110,c110,Try.func110,by kernel_rfl,by decide +kernel⟩,hh110⟩
noncomputable def c45:Code:=(Try.f45.body.getD .skip)
def an45:An:=⟨fun _=>⟨[],[]⟩,fun _ _=>none⟩
abbrev ps45:List PK:=[.val (.row 5 (.int .u8)) false]
abbrev rs45:List RK:=[.bx tRd]
abbrev R45:=zak rs45×zaj ps45
noncomputable def G45:Gam:=fun _=>none
noncomputable def zjq(n:Nat)(a:Li):Option R45 :=
 cond (decide ((2000:Int)<(↑a.length:Int))) (cond (decide ((2000:Int)≤(↑a.length:Int))) (some (((List.take (Int.toNat (2000:Int)) a,(0:Int)),()),())) none) (some (((a,(0:Int)),()),()))
theorem ylg(n:Nat)(a:Li):runF TT G45 an45 Try.f45 c45 ps45 rs45 n (a,())=zjq n a:=by kernel_rfl
noncomputable def p45(n:Nat)(a:Li):Option R45:=zjq n a
noncomputable def q45(n:Nat)(x:zan ps45):Option R45:=p45 n x.1
noncomputable def Sm45:Sm:=⟨ps45,rs45,true,q45⟩
theorem gam45:GamOK Try.prog G45:=fun _ _ h=>by cases h
theorem hh45:Hp 45 Sm45:=hOf (zaf (an:=an45) (c:=c45) zax gam45 zaw Try.func45 (by kernel_rfl) rfl (by decide +kernel)) fun n x=>(ylg n x.1).trans rfl
theorem y45:Gk 45 Sm45:=⟨⟨Try.f45,c45,Try.func45,by kernel_rfl,by decide +kernel⟩,hh45⟩
noncomputable def c151:Code:=(Try.f151.body.getD .skip)
def yrs:An:=⟨fun _=>⟨[],[]⟩,fun _ _=>none⟩
abbrev yc_:List PK:=[.val i64 false]
abbrev yi8:List RK:=[.own tPg true,.val .bool false]
abbrev R151:=zak yi8×zaj yc_
noncomputable def G151:Gam:=fun f=>match f with|69=>some Sm69|_=>none
noncomputable def zqj(n:Nat)(a:Int):Option R151 :=
 (q69 n (a,(1:Int),(12:Int),())).bind fun r0=>cond (!r0.1.1) (some ((([],[]),(false,())),())) (cond (decide ((0:Int)≤a)) (cond (decide (a*(↑(16:Nat):Int)≤(140737488355328:Int))) (cond (decide ((0:Int)≤a)) (cond (decide (a*(↑(8:Nat):Int)≤(140737488355328:Int))) (some (((List.replicate a.toNat ByteArray.empty,List.replicate a.toNat (0:Int)),(true,())),())) none) none) none) none)
theorem yfp(n:Nat)(a:Int):runF TT G151 yrs Try.f151 c151 yc_ yi8 n (a,())=zqj n a:=by kernel_rfl
noncomputable def p151(n:Nat)(a:Int):Option R151:=zqj n a
noncomputable def q151(n:Nat)(x:zan yc_):Option R151:=p151 n x.1
noncomputable def ynh:Sm:=⟨yc_,yi8,false,q151⟩
theorem yp9:GamOK Try.prog G151:=by intro f s h;unfold G151 at h;split at h;exact gj h y69;cases h
theorem hh151:Hp 151 ynh:=hOf (zaf (an:=yrs) (c:=c151) zax yp9 zaw Try.func151 (by kernel_rfl) rfl (by decide +kernel)) fun n x=>(yfp n x.1).trans rfl
theorem y151:Gk 151 ynh:=⟨⟨Try.f151,c151,Try.func151,by kernel_rfl,by decide +kernel⟩,hh151⟩
noncomputable def c107:Code:=(Try.f107.body.getD .skip)
def yr4:An:=⟨fun _=>⟨[],[]⟩,fun _ _=>none⟩
abbrev yds:List PK:=[]
abbrev yjp:List RK:=[.own tMem true]
abbrev R107:=zak yjp×zaj yds
noncomputable def G107:Gam:=fun f=>match f with|151=>some ynh|_=>none
noncomputable def zqp(n:Nat):Option R107 :=
 (q151 n ((12:Int),())).bind fun r0=>(q151 n ((12:Int),())).bind fun r1=>some ((((r0.1.1.1,r0.1.1.2),((r1.1.1.1,r1.1.1.2),(List.replicate (Int.toNat (5:Int)) (false,[],[]),(0:Int)))),()),())
theorem yf8(n:Nat):runF TT G107 yr4 Try.f107 c107 yds yjp n ()=zqp n:=by kernel_rfl
noncomputable def p107(n:Nat):Option R107:=zqp n 
noncomputable def q107(n:Nat)(x:zan yds):Option R107:=p107 n 
noncomputable def ynu:Sm:=⟨yds,yjp,false,q107⟩
theorem yqq:GamOK Try.prog G107:=by intro f s h;unfold G107 at h;split at h;exact gj h y151;cases h
theorem hh107:Hp 107 ynu:=hOf (zaf (an:=yr4) (c:=c107) zax yqq zaw Try.func107 (by kernel_rfl) rfl (by decide +kernel)) fun n x=>(yf8 n ).trans rfl
theorem y107:Gk 107 ynu:=⟨⟨Try.f107,c107,Try.func107,by kernel_rfl,by decide +kernel⟩,hh107⟩
noncomputable def c111:Code:=(Try.f111.body.getD .skip)
def yr0:An:=⟨fun _=>⟨[],[]⟩,fun _ _=>none⟩
abbrev ydo:List PK:=[.bx tRd]
abbrev yjl:List RK:=[.val tAr true]
abbrev R111:=zak yjl×zaj ydo
noncomputable def G111:Gam:=fun f=>match f with|48=>some Sm48|_=>none
noncomputable def zgs(n:Nat)(a:Li×Int):Option R111 :=
 (q48 n ((a.1,a.2),(16:Int),())).bind fun r0=>(q48 n ((r0.2.1.1,r0.2.1.2),(5:Int),())).bind fun r1=>(q48 n ((r1.2.1.1,r1.2.1.2),(4:Int),())).bind fun r2=>(q48 n ((r2.2.1.1,r2.2.1.2),(3:Int),())).bind fun r3=>(q48 n ((r3.2.1.1,r3.2.1.2),(20:Int),())).bind fun r4=>cond (decide (r4.1.1=(0:Int))) ((q48 n ((r4.2.1.1,r4.2.1.2),(4:Int),())).bind fun r5=>cond (decide ((0:Int)≤r5.1.1)) (cond (decide (r5.1.1<(↑[(0:Int),(-1:Int),(16:Int),(17:Int)].length:Int))) (some (((r0.1.1,([(0:Int),(-1:Int),(16:Int),(17:Int)].getD (Int.toNat r5.1.1) (0:Int),(decide ((0:Int)<r2.1.1),decide (r3.1.1=(0:Int))))),()),((r5.2.1.1,r5.2.1.2),()))) none) none) (some (((r0.1.1,(IntKind.i64.wrap ((1:Int)+r1.1.1),(decide ((0:Int)<r2.1.1),decide (r3.1.1=(0:Int))))),()),((r4.2.1.1,r4.2.1.2),())))
theorem yf4(n:Nat)(a:Li×Int):runF TT G111 yr0 Try.f111 c111 ydo yjl n (a,())=zgs n a:=by kernel_rfl
noncomputable def p111(n:Nat)(a:Li×Int):Option R111:=zgs n a
noncomputable def q111(n:Nat)(x:zan ydo):Option R111:=p111 n x.1
noncomputable def yns:Sm:=⟨ydo,yjl,true,q111⟩
theorem yqm:GamOK Try.prog G111:=by intro f s h;unfold G111 at h;split at h;exact gj h y48;cases h
theorem hh111:Hp 111 yns:=hOf (zaf (an:=yr0) (c:=c111) zax yqm zaw Try.func111 (by kernel_rfl) rfl (by decide +kernel)) fun n x=>(yf4 n x.1).trans rfl
theorem y111:Gk 111 yns:=⟨⟨Try.f111,c111,Try.func111,by kernel_rfl,by decide +kernel⟩,hh111⟩
end Go.Proofs.Ytdkaagpkeomhmaa.Rx.S
