/- What the functions of this seat compute, each as a plain function on lists and numbers, with the proof that a call answers so. No condition. -/
import Derived.Test.YtdkaagpkeomhmaaEF0
set_option linter.unusedVariables false
set_option linter.unusedSimpArgs false
namespace Go.Proofs.Ytdkaagpkeomhmaa.Rx.S
open Go Go.RowKit Go.Proofs
set_option maxRecDepth 100000
noncomputable def c141:Code:=(Try.f141.body.getD .skip)
def an141:An:=⟨fun r=>match r with | 3=>⟨[0,3,4],[]⟩ | _=>⟨[],[]⟩,fun _ _=>none⟩
abbrev ps141:List PK:=[.val (.row 3 i64) false]
abbrev rs141:List RK:=[.own (.row 3 i64) false]
abbrev R141:=retsD rs141×outsD ps141
noncomputable def G141:Gam:=fun _=>none
noncomputable def at141:Nat→Pt→List Nat→St→Option R141:=atF TT G141 an141 Try.f141 c141 _ _
def zgv(x0:Li)(x1:Int)(x2:Li):St:=(St.mk ([AV.one (SV.con (⟨3,Ty.int .i64,x0⟩:Rw)),Uu,Uu,AV.one (Sr 1000000),Ai x1]++Ur 17) [(1000000,Er ⟨3,Ty.int .i64,x2⟩)])
noncomputable def zf6(n:Nat)(lL3:Li→Int→Li→Option R141)(a:Li):Option R141 :=
 cond (decide ((↑a.length:Int)*(↑(8:Nat):Int)≤(140737488355328:Int))) (lL3 a (0:Int) (List.replicate (↑a.length:Int).toNat (0:Int))) none
noncomputable def zd1(n:Nat)(lL3:Li→Int→Li→Option R141)(x0:Li)(x1:Int)(x2:Li):Option R141 :=
 cond (decide (x1<(↑x0.length:Int))) (cond (decide (0≤x1)) (cond (decide (x1<(↑x0.length:Int))) (cond (decide (0≤x1)) (cond (decide (x1<(↑x2.length:Int))) (lL3 x0 (IntKind.i64.wrap (x1+1)) (x2.set x1.toNat (x0.getD x1.toNat (0:Int)))) none) none) none) none) (some ((x2,()),()))
theorem e141_top(n:Nat)(a:Li):runF TT G141 an141 Try.f141 c141 ps141 rs141 n (a,())=zf6 n (fun x0 x1 x2=>at141 n (.head 3) [n] (zgv x0 x1 x2)) a:=by kernel_rfl
theorem e141_L3_0(n:Nat)(x0:Li)(x1:Int)(x2:Li):at141 n (.head 3) [0] (zgv x0 x1 x2)=none:=by kernel_rfl
theorem e141_L3(n:Nat)(m3:Nat)(x0:Li)(x1:Int)(x2:Li):at141 n (.head 3) [m3+1] (zgv x0 x1 x2)=zd1 n (fun x0 x1 x2=>at141 n (.head 3) [m3] (zgv x0 x1 x2)) x0 x1 x2:=by kernel_rfl
noncomputable def zfa(n:Nat):Nat→Li→Int→Li→Option R141
 | 0,_,_,_=>none
 | m+1,x0,x1,x2=>zd1 n (zfa n m) x0 x1 x2
noncomputable def p141(n:Nat)(a:Li):Option R141:=zf6 n (zfa n n) a
theorem t141_L3(n:Nat):∀ (m3:Nat) (x0:Li) (x1:Int) (x2:Li),at141 n (.head 3) [m3] (zgv x0 x1 x2)=zfa n m3 x0 x1 x2:=by
 intro m
 induction m with
 | zero=>intros;rw[e141_L3_0];rfl
 | succ m ih =>
  intros
  rw[e141_L3]
  try simp only[ih]
  rfl
noncomputable def q141(n:Nat)(x:argsD ps141):Option R141:=p141 n x.1
noncomputable def Sm141:Sm:=⟨ps141,rs141,false,q141⟩
theorem gam141:GamOK Try.prog G141:=fun _ _ h=>by cases h
theorem hh141:Hp 141 Sm141:=hOf (zac (an:=an141) (c:=c141) tt_ok gam141 mixed Try.func141 (by kernel_rfl) rfl (by decide +kernel)) fun n x=>(e141_top n x.1).trans (by simp only[t141_L3];try rfl)
theorem y141:Gk 141 Sm141:=⟨⟨Try.f141,c141,Try.func141,by kernel_rfl,by decide +kernel⟩,hh141⟩
noncomputable def c94:Code:=(Try.f94.body.getD .skip)
def an94:An:=⟨fun _=>⟨[],[]⟩,fun _ _=>none⟩
abbrev ps94:List PK:=[.val tPg true]
abbrev rs94:List RK:=[.own tPg true]
abbrev R94:=retsD rs94×outsD ps94
noncomputable def G94:Gam:=fun f=>match f with | 140=>some Sm140 | 141=>some Sm141 | _=>none
noncomputable def zis(n:Nat)(a:Lb×Li):Option R94 :=
 (q140 n (a.1,())).bind fun r0=>(q141 n (a.2,())).bind fun r1=>some (((r0.1.1,r1.1.1),()),())
theorem e94_top(n:Nat)(a:Lb×Li):runF TT G94 an94 Try.f94 c94 ps94 rs94 n (a,())=zis n a:=by kernel_rfl
noncomputable def p94(n:Nat)(a:Lb×Li):Option R94:=zis n a
noncomputable def q94(n:Nat)(x:argsD ps94):Option R94:=p94 n x.1
noncomputable def Sm94:Sm:=⟨ps94,rs94,false,q94⟩
theorem gam94:GamOK Try.prog G94:=by intro f s h;unfold G94 at h;split at h;exact gj h y140;exact gj h y141;cases h
theorem hh94:Hp 94 Sm94:=hOf (zac (an:=an94) (c:=c94) tt_ok gam94 mixed Try.func94 (by kernel_rfl) rfl (by decide +kernel)) fun n x=>(e94_top n x.1).trans rfl
theorem y94:Gk 94 Sm94:=⟨⟨Try.f94,c94,Try.func94,by kernel_rfl,by decide +kernel⟩,hh94⟩
noncomputable def c176:Code:=(Try.f176.body.getD .skip)
def an176:An:=⟨fun _=>⟨[],[]⟩,fun _ _=>none⟩
abbrev ps176:List PK:=[.val tAr true]
abbrev rs176:List RK:=[.val tAr true]
abbrev R176:=retsD rs176×outsD ps176
noncomputable def G176:Gam:=fun _=>none
noncomputable def st176_top(n:Nat)(a:Aq):Option R176 :=
 some (((a.1,(a.2.1,(a.2.2.1,a.2.2.2))),()),())
theorem e176_top(n:Nat)(a:Aq):runF TT G176 an176 Try.f176 c176 ps176 rs176 n (a,())=st176_top n a:=by kernel_rfl
noncomputable def p176(n:Nat)(a:Aq):Option R176:=st176_top n a
noncomputable def q176(n:Nat)(x:argsD ps176):Option R176:=p176 n x.1
noncomputable def Sm176:Sm:=⟨ps176,rs176,false,q176⟩
theorem gam176:GamOK Try.prog G176:=fun _ _ h=>by cases h
theorem hh176:Hp 176 Sm176:=hOf (zac (an:=an176) (c:=c176) tt_ok gam176 mixed Try.func176 (by kernel_rfl) rfl (by decide +kernel)) fun n x=>(e176_top n x.1).trans rfl
theorem y176:Gk 176 Sm176:=⟨⟨Try.f176,c176,Try.func176,by kernel_rfl,by decide +kernel⟩,hh176⟩
noncomputable def c162:Code:=(Try.f162.body.getD .skip)
def an162:An:=⟨fun r=>match r with | 3=>⟨[0,3,4],[]⟩ | _=>⟨[],[]⟩,fun _ _=>none⟩
abbrev ps162:List PK:=[.val (.row 205 tAr) false]
abbrev rs162:List RK:=[.own (.row 116 tAr) false]
abbrev R162:=retsD rs162×outsD ps162
noncomputable def G162:Gam:=fun f=>match f with | 176=>some Sm176 | _=>none
noncomputable def at162:Nat→Pt→List Nat→St→Option R162:=atF TT G162 an162 Try.f162 c162 _ _
def zgp(x0:Lq)(x1:Int)(x2:Lq):St:=(St.mk ([AV.one (SV.con (⟨205,yAq,x0⟩:Rw)),Uu,Uu,AV.one (Sr 1000000),Ai x1]++Ur 18) [(1000000,Er ⟨116,yAq,x2⟩)])
noncomputable def zfy(n:Nat)(lL3:Lq→Int→Lq→Option R162)(a:Lq):Option R162 :=
 cond (decide ((↑a.length:Int)*(↑(24:Nat):Int)≤(140737488355328:Int))) (lL3 a (0:Int) (List.replicate (↑a.length:Int).toNat ((0:Int),(0:Int),false,false))) none
noncomputable def zdv(n:Nat)(lL3:Lq→Int→Lq→Option R162)(x0:Lq)(x1:Int)(x2:Lq):Option R162 :=
 cond (decide (x1<(↑x0.length:Int))) (cond (decide (0≤x1)) (cond (decide (x1<(↑x0.length:Int))) ((q176 n (((x0.getD x1.toNat ((0:Int),(0:Int),false,false)).1,(x0.getD x1.toNat ((0:Int),(0:Int),false,false)).2.1,(x0.getD x1.toNat ((0:Int),(0:Int),false,false)).2.2.1,(x0.getD x1.toNat ((0:Int),(0:Int),false,false)).2.2.2),())).bind fun r1=>cond (decide (0≤x1)) (cond (decide (x1<(↑x2.length:Int))) (lL3 x0 (IntKind.i64.wrap (x1+1)) (x2.set x1.toNat (r1.1.1.1,r1.1.1.2.1,r1.1.1.2.2.1,r1.1.1.2.2.2))) none) none) none) none) (some ((x2,()),()))
theorem e162_top(n:Nat)(a:Lq):runF TT G162 an162 Try.f162 c162 ps162 rs162 n (a,())=zfy n (fun x0 x1 x2=>at162 n (.head 3) [n] (zgp x0 x1 x2)) a:=by kernel_rfl
theorem e162_L3_0(n:Nat)(x0:Lq)(x1:Int)(x2:Lq):at162 n (.head 3) [0] (zgp x0 x1 x2)=none:=by kernel_rfl
theorem e162_L3(n:Nat)(m3:Nat)(x0:Lq)(x1:Int)(x2:Lq):at162 n (.head 3) [m3+1] (zgp x0 x1 x2)=zdv n (fun x0 x1 x2=>at162 n (.head 3) [m3] (zgp x0 x1 x2)) x0 x1 x2:=by kernel_rfl
noncomputable def ze6(n:Nat):Nat→Lq→Int→Lq→Option R162
 | 0,_,_,_=>none
 | m+1,x0,x1,x2=>zdv n (ze6 n m) x0 x1 x2
noncomputable def p162(n:Nat)(a:Lq):Option R162:=zfy n (ze6 n n) a
theorem t162_L3(n:Nat):∀ (m3:Nat) (x0:Lq) (x1:Int) (x2:Lq),at162 n (.head 3) [m3] (zgp x0 x1 x2)=ze6 n m3 x0 x1 x2:=by
 intro m
 induction m with
 | zero=>intros;rw[e162_L3_0];rfl
 | succ m ih =>
  intros
  rw[e162_L3]
  try simp only[ih]
  rfl
noncomputable def q162(n:Nat)(x:argsD ps162):Option R162:=p162 n x.1
noncomputable def Sm162:Sm:=⟨ps162,rs162,false,q162⟩
theorem gam162:GamOK Try.prog G162:=by intro f s h;unfold G162 at h;split at h;exact gj h y176;cases h
theorem hh162:Hp 162 Sm162:=hOf (zac (an:=an162) (c:=c162) tt_ok gam162 mixed Try.func162 (by kernel_rfl) rfl (by decide +kernel)) fun n x=>(e162_top n x.1).trans (by simp only[t162_L3];try rfl)
theorem y162:Gk 162 Sm162:=⟨⟨Try.f162,c162,Try.func162,by kernel_rfl,by decide +kernel⟩,hh162⟩
noncomputable def c178:Code:=(Try.f178.body.getD .skip)
def an178:An:=⟨fun _=>⟨[],[]⟩,fun _ _=>none⟩
abbrev ps178:List PK:=[.val tSl true]
abbrev rs178:List RK:=[.val tSl true]
abbrev R178:=retsD rs178×outsD ps178
noncomputable def G178:Gam:=fun _=>none
noncomputable def st178_top(n:Nat)(a:Aq):Option R178 :=
 some (((a.1,(a.2.1,(a.2.2.1,a.2.2.2))),()),())
theorem e178_top(n:Nat)(a:Aq):runF TT G178 an178 Try.f178 c178 ps178 rs178 n (a,())=st178_top n a:=by kernel_rfl
noncomputable def p178(n:Nat)(a:Aq):Option R178:=st178_top n a
noncomputable def q178(n:Nat)(x:argsD ps178):Option R178:=p178 n x.1
noncomputable def Sm178:Sm:=⟨ps178,rs178,false,q178⟩
theorem gam178:GamOK Try.prog G178:=fun _ _ h=>by cases h
theorem hh178:Hp 178 Sm178:=hOf (zac (an:=an178) (c:=c178) tt_ok gam178 mixed Try.func178 (by kernel_rfl) rfl (by decide +kernel)) fun n x=>(e178_top n x.1).trans rfl
theorem y178:Gk 178 Sm178:=⟨⟨Try.f178,c178,Try.func178,by kernel_rfl,by decide +kernel⟩,hh178⟩
noncomputable def c166:Code:=(Try.f166.body.getD .skip)
def an166:An:=⟨fun r=>match r with | 3=>⟨[0,3,4],[]⟩ | _=>⟨[],[]⟩,fun _ _=>none⟩
abbrev ps166:List PK:=[.val (.row 208 tSl) false]
abbrev rs166:List RK:=[.own (.row 80 tSl) false]
abbrev R166:=retsD rs166×outsD ps166
noncomputable def G166:Gam:=fun f=>match f with | 178=>some Sm178 | _=>none
noncomputable def at166:Nat→Pt→List Nat→St→Option R166:=atF TT G166 an166 Try.f166 c166 _ _
def zgm(x0:Lq)(x1:Int)(x2:Lq):St:=(St.mk ([AV.one (SV.con (⟨208,yAq,x0⟩:Rw)),Uu,Uu,AV.one (Sr 1000000),Ai x1]++Ur 18) [(1000000,Er ⟨80,yAq,x2⟩)])
noncomputable def zfu(n:Nat)(lL3:Lq→Int→Lq→Option R166)(a:Lq):Option R166 :=
 cond (decide ((↑a.length:Int)*(↑(24:Nat):Int)≤(140737488355328:Int))) (lL3 a (0:Int) (List.replicate (↑a.length:Int).toNat ((0:Int),(0:Int),false,false))) none
noncomputable def zdt(n:Nat)(lL3:Lq→Int→Lq→Option R166)(x0:Lq)(x1:Int)(x2:Lq):Option R166 :=
 cond (decide (x1<(↑x0.length:Int))) (cond (decide (0≤x1)) (cond (decide (x1<(↑x0.length:Int))) ((q178 n (((x0.getD x1.toNat ((0:Int),(0:Int),false,false)).1,(x0.getD x1.toNat ((0:Int),(0:Int),false,false)).2.1,(x0.getD x1.toNat ((0:Int),(0:Int),false,false)).2.2.1,(x0.getD x1.toNat ((0:Int),(0:Int),false,false)).2.2.2),())).bind fun r1=>cond (decide (0≤x1)) (cond (decide (x1<(↑x2.length:Int))) (lL3 x0 (IntKind.i64.wrap (x1+1)) (x2.set x1.toNat (r1.1.1.1,r1.1.1.2.1,r1.1.1.2.2.1,r1.1.1.2.2.2))) none) none) none) none) (some ((x2,()),()))
theorem e166_top(n:Nat)(a:Lq):runF TT G166 an166 Try.f166 c166 ps166 rs166 n (a,())=zfu n (fun x0 x1 x2=>at166 n (.head 3) [n] (zgm x0 x1 x2)) a:=by kernel_rfl
theorem e166_L3_0(n:Nat)(x0:Lq)(x1:Int)(x2:Lq):at166 n (.head 3) [0] (zgm x0 x1 x2)=none:=by kernel_rfl
theorem e166_L3(n:Nat)(m3:Nat)(x0:Lq)(x1:Int)(x2:Lq):at166 n (.head 3) [m3+1] (zgm x0 x1 x2)=zdt n (fun x0 x1 x2=>at166 n (.head 3) [m3] (zgm x0 x1 x2)) x0 x1 x2:=by kernel_rfl
noncomputable def ze4(n:Nat):Nat→Lq→Int→Lq→Option R166
 | 0,_,_,_=>none
 | m+1,x0,x1,x2=>zdt n (ze4 n m) x0 x1 x2
noncomputable def p166(n:Nat)(a:Lq):Option R166:=zfu n (ze4 n n) a
theorem t166_L3(n:Nat):∀ (m3:Nat) (x0:Lq) (x1:Int) (x2:Lq),at166 n (.head 3) [m3] (zgm x0 x1 x2)=ze4 n m3 x0 x1 x2:=by
 intro m
 induction m with
 | zero=>intros;rw[e166_L3_0];rfl
 | succ m ih =>
  intros
  rw[e166_L3]
  try simp only[ih]
  rfl
noncomputable def q166(n:Nat)(x:argsD ps166):Option R166:=p166 n x.1
noncomputable def Sm166:Sm:=⟨ps166,rs166,false,q166⟩
theorem gam166:GamOK Try.prog G166:=by intro f s h;unfold G166 at h;split at h;exact gj h y178;cases h
theorem hh166:Hp 166 Sm166:=hOf (zac (an:=an166) (c:=c166) tt_ok gam166 mixed Try.func166 (by kernel_rfl) rfl (by decide +kernel)) fun n x=>(e166_top n x.1).trans (by simp only[t166_L3];try rfl)
theorem y166:Gk 166 Sm166:=⟨⟨Try.f166,c166,Try.func166,by kernel_rfl,by decide +kernel⟩,hh166⟩
noncomputable def c142:Code:=(Try.f142.body.getD .skip)
def an142:An:=⟨fun _=>⟨[],[]⟩,fun _ _=>none⟩
abbrev ps142:List PK:=[.val (tSp 205 208) true]
abbrev rs142:List RK:=[.own (tSp 116 80) true]
abbrev R142:=retsD rs142×outsD ps142
noncomputable def G142:Gam:=fun f=>match f with | 162=>some Sm162 | 166=>some Sm166 | _=>none
noncomputable def zf5(n:Nat)(a:Br):Option R142 :=
 (q162 n (a.2.1,())).bind fun r0=>(q166 n (a.2.2,())).bind fun r1=>some (((a.1,(r0.1.1,r1.1.1)),()),())
theorem e142_top(n:Nat)(a:Br):runF TT G142 an142 Try.f142 c142 ps142 rs142 n (a,())=zf5 n a:=by kernel_rfl
noncomputable def p142(n:Nat)(a:Br):Option R142:=zf5 n a
noncomputable def q142(n:Nat)(x:argsD ps142):Option R142:=p142 n x.1
noncomputable def Sm142:Sm:=⟨ps142,rs142,false,q142⟩
theorem gam142:GamOK Try.prog G142:=by intro f s h;unfold G142 at h;split at h;exact gj h y162;exact gj h y166;cases h
theorem hh142:Hp 142 Sm142:=hOf (zac (an:=an142) (c:=c142) tt_ok gam142 mixed Try.func142 (by kernel_rfl) rfl (by decide +kernel)) fun n x=>(e142_top n x.1).trans rfl
theorem y142:Gk 142 Sm142:=⟨⟨Try.f142,c142,Try.func142,by kernel_rfl,by decide +kernel⟩,hh142⟩
noncomputable def c95:Code:=(Try.f95.body.getD .skip)
def an95:An:=⟨fun r=>match r with | 3=>⟨[0,3,4],[]⟩ | _=>⟨[],[]⟩,fun _ _=>none⟩
abbrev ps95:List PK:=[.val (.row 174 (tSp 205 208)) false]
abbrev rs95:List RK:=[.own (.row 71 (tSp 116 80)) false]
abbrev R95:=retsD rs95×outsD ps95
noncomputable def G95:Gam:=fun f=>match f with | 142=>some Sm142 | _=>none
noncomputable def at95:Nat→Pt→List Nat→St→Option R95:=atF TT G95 an95 Try.f95 c95 _ _
def zjz(x0:List (Br))(x1:Int)(x2:List (Br)):St:=(St.mk ([AV.one (SV.con (⟨174,Ty.bool.pair ((Ty.row (nat_lit 205) yAq).pair (Ty.row (nat_lit 208) yAq)),x0⟩:Rw)),Uu,Uu,AV.one (Sr 1000000),Ai x1]++Ur 18) [(1000000,Er ⟨71,ySp,x2⟩)])
noncomputable def zir(n:Nat)(lL3:(List (Br))→Int→(List (Br))→Option R95)(a:List (Br)):Option R95 :=
 cond (decide ((↑a.length:Int)*(↑(56:Nat):Int)≤(140737488355328:Int))) (lL3 a (0:Int) (List.replicate (↑a.length:Int).toNat (false,[],[]))) none
noncomputable def zhq(n:Nat)(lL3:(List (Br))→Int→(List (Br))→Option R95)(x0:List (Br))(x1:Int)(x2:List (Br)):Option R95 :=
 cond (decide (x1<(↑x0.length:Int))) (cond (decide (0≤x1)) (cond (decide (x1<(↑x0.length:Int))) ((q142 n (((x0.getD x1.toNat (false,[],[])).1,(x0.getD x1.toNat (false,[],[])).2.1,(x0.getD x1.toNat (false,[],[])).2.2),())).bind fun r1=>cond (decide (0≤x1)) (cond (decide (x1<(↑x2.length:Int))) (lL3 x0 (IntKind.i64.wrap (x1+1)) (x2.set x1.toNat (r1.1.1.1,r1.1.1.2.1,r1.1.1.2.2))) none) none) none) none) (some ((x2,()),()))
theorem e95_top(n:Nat)(a:List (Br)):runF TT G95 an95 Try.f95 c95 ps95 rs95 n (a,())=zir n (fun x0 x1 x2=>at95 n (.head 3) [n] (zjz x0 x1 x2)) a:=by kernel_rfl
theorem e95_L3_0(n:Nat)(x0:List (Br))(x1:Int)(x2:List (Br)):at95 n (.head 3) [0] (zjz x0 x1 x2)=none:=by kernel_rfl
theorem e95_L3(n:Nat)(m3:Nat)(x0:List (Br))(x1:Int)(x2:List (Br)):at95 n (.head 3) [m3+1] (zjz x0 x1 x2)=zhq n (fun x0 x1 x2=>at95 n (.head 3) [m3] (zjz x0 x1 x2)) x0 x1 x2:=by kernel_rfl
noncomputable def zkm(n:Nat):Nat→(List (Br))→Int→(List (Br))→Option R95
 | 0,_,_,_=>none
 | m+1,x0,x1,x2=>zhq n (zkm n m) x0 x1 x2
noncomputable def p95(n:Nat)(a:List (Br)):Option R95:=zir n (zkm n n) a
theorem t95_L3(n:Nat):∀ (m3:Nat) (x0:List (Br)) (x1:Int) (x2:List (Br)),at95 n (.head 3) [m3] (zjz x0 x1 x2)=zkm n m3 x0 x1 x2:=by
 intro m
 induction m with
 | zero=>intros;rw[e95_L3_0];rfl
 | succ m ih =>
  intros
  rw[e95_L3]
  try simp only[ih]
  rfl
noncomputable def q95(n:Nat)(x:argsD ps95):Option R95:=p95 n x.1
noncomputable def Sm95:Sm:=⟨ps95,rs95,false,q95⟩
theorem gam95:GamOK Try.prog G95:=by intro f s h;unfold G95 at h;split at h;exact gj h y142;cases h
theorem hh95:Hp 95 Sm95:=hOf (zac (an:=an95) (c:=c95) tt_ok gam95 mixed Try.func95 (by kernel_rfl) rfl (by decide +kernel)) fun n x=>(e95_top n x.1).trans (by simp only[t95_L3];try rfl)
theorem y95:Gk 95 Sm95:=⟨⟨Try.f95,c95,Try.func95,by kernel_rfl,by decide +kernel⟩,hh95⟩
noncomputable def c29:Code:=(Try.f29.body.getD .skip)
def an29:An:=⟨fun _=>⟨[],[]⟩,fun _ _=>none⟩
abbrev ps29:List PK:=[.val tLm true]
abbrev rs29:List RK:=[.own tMem true]
abbrev R29:=retsD rs29×outsD ps29
noncomputable def G29:Gam:=fun f=>match f with | 94=>some Sm94 | 95=>some Sm95 | _=>none
noncomputable def zja(n:Nat)(a:Mm):Option R29 :=
 (q94 n ((a.1.1,a.1.2),())).bind fun r0=>(q94 n ((a.2.1.1,a.2.1.2),())).bind fun r1=>(q95 n (a.2.2.1,())).bind fun r2=>some ((((r0.1.1.1,r0.1.1.2),((r1.1.1.1,r1.1.1.2),(r2.1.1,a.2.2.2))),()),())
theorem e29_top(n:Nat)(a:Mm):runF TT G29 an29 Try.f29 c29 ps29 rs29 n (a,())=zja n a:=by kernel_rfl
noncomputable def p29(n:Nat)(a:Mm):Option R29:=zja n a
noncomputable def q29(n:Nat)(x:argsD ps29):Option R29:=p29 n x.1
noncomputable def Sm29:Sm:=⟨ps29,rs29,false,q29⟩
theorem gam29:GamOK Try.prog G29:=by intro f s h;unfold G29 at h;split at h;exact gj h y94;exact gj h y95;cases h
theorem hh29:Hp 29 Sm29:=hOf (zac (an:=an29) (c:=c29) tt_ok gam29 mixed Try.func29 (by kernel_rfl) rfl (by decide +kernel)) fun n x=>(e29_top n x.1).trans rfl
theorem y29:Gk 29 Sm29:=⟨⟨Try.f29,c29,Try.func29,by kernel_rfl,by decide +kernel⟩,hh29⟩
noncomputable def c145:Code:=(Try.f145.body.getD .skip)
def an145:An:=⟨fun r=>match r with | 4=>⟨[0,1,5],[]⟩ | _=>⟨[],[]⟩,fun _ _=>none⟩
abbrev ps145:List PK:=[.val (.row 9 .str) false,.val (.row 9 .str) false]
abbrev rs145:List RK:=[.val .bool false]
abbrev R145:=retsD rs145×outsD ps145
noncomputable def G145:Gam:=fun _=>none
noncomputable def at145:Nat→Pt→List Nat→St→Option R145:=atF TT G145 an145 Try.f145 c145 _ _
def zgt(x0 x1:Lb)(x2:Int):St:=(St.mk ([AV.one (SV.con (⟨9,Ty.str,x0⟩:Rw)),AV.one (SV.con (⟨9,Ty.str,x1⟩:Rw)),Uu,Uu,Uu,Ai x2]++Ur 20) [])
noncomputable def zf4(n:Nat)(lL4:Lb→Lb→Int→Option R145)(a:Lb)(b:Lb):Option R145 :=
 cond (!decide ((↑a.length:Int)=(↑b.length:Int))) (some ((false,()),())) (lL4 a b (0:Int))
noncomputable def zdz(n:Nat)(lL4:Lb→Lb→Int→Option R145)(x0 x1:Lb)(x2:Int):Option R145 :=
 cond (decide (x2<(↑x0.length:Int))) (cond (decide (0≤x2)) (cond (decide (x2<(↑x0.length:Int))) (cond (decide (0≤x2)) (cond (decide (x2<(↑x1.length:Int))) (cond (!ByteArray.toList (x0.getD x2.toNat ByteArray.empty) == ByteArray.toList (x1.getD x2.toNat ByteArray.empty)) (some ((false,()),())) (lL4 x0 x1 (IntKind.i64.wrap (x2+1)))) none) none) none) none) (some ((true,()),()))
theorem e145_top(n:Nat)(a:Lb)(b:Lb):runF TT G145 an145 Try.f145 c145 ps145 rs145 n (a,b,())=zf4 n (fun x0 x1 x2=>at145 n (.head 4) [n] (zgt x0 x1 x2)) a b:=by kernel_rfl
theorem e145_L4_0(n:Nat)(x0 x1:Lb)(x2:Int):at145 n (.head 4) [0] (zgt x0 x1 x2)=none:=by kernel_rfl
theorem e145_L4(n:Nat)(m4:Nat)(x0 x1:Lb)(x2:Int):at145 n (.head 4) [m4+1] (zgt x0 x1 x2)=zdz n (fun x0 x1 x2=>at145 n (.head 4) [m4] (zgt x0 x1 x2)) x0 x1 x2:=by kernel_rfl
noncomputable def ze_(n:Nat):Nat→Lb→Lb→Int→Option R145
 | 0,_,_,_=>none
 | m+1,x0,x1,x2=>zdz n (ze_ n m) x0 x1 x2
noncomputable def p145(n:Nat)(a:Lb)(b:Lb):Option R145:=zf4 n (ze_ n n) a b
theorem t145_L4(n:Nat):∀ (m4:Nat) (x0 x1:Lb) (x2:Int),at145 n (.head 4) [m4] (zgt x0 x1 x2)=ze_ n m4 x0 x1 x2:=by
 intro m
 induction m with
 | zero=>intros;rw[e145_L4_0];rfl
 | succ m ih =>
  intros
  rw[e145_L4]
  try simp only[ih]
  rfl
noncomputable def q145(n:Nat)(x:argsD ps145):Option R145:=p145 n x.1 x.2.1
noncomputable def Sm145:Sm:=⟨ps145,rs145,false,q145⟩
theorem gam145:GamOK Try.prog G145:=fun _ _ h=>by cases h
theorem hh145:Hp 145 Sm145:=hOf (zac (an:=an145) (c:=c145) tt_ok gam145 mixed Try.func145 (by kernel_rfl) rfl (by decide +kernel)) fun n x=>(e145_top n x.1 x.2.1).trans (by simp only[t145_L4];try rfl)
theorem y145:Gk 145 Sm145:=⟨⟨Try.f145,c145,Try.func145,by kernel_rfl,by decide +kernel⟩,hh145⟩
noncomputable def c146:Code:=(Try.f146.body.getD .skip)
def an146:An:=⟨fun r=>match r with | 4=>⟨[0,1,5],[]⟩ | _=>⟨[],[]⟩,fun _ _=>none⟩
abbrev ps146:List PK:=[.val (.row 3 i64) false,.val (.row 3 i64) false]
abbrev rs146:List RK:=[.val .bool false]
abbrev R146:=retsD rs146×outsD ps146
noncomputable def G146:Gam:=fun _=>none
noncomputable def at146:Nat→Pt→List Nat→St→Option R146:=atF TT G146 an146 Try.f146 c146 _ _
def zgs(x0 x1:Li)(x2:Int):St:=(St.mk ([AV.one (SV.con (⟨3,Ty.int .i64,x0⟩:Rw)),AV.one (SV.con (⟨3,Ty.int .i64,x1⟩:Rw)),Uu,Uu,Uu,Ai x2]++Ur 20) [])
noncomputable def zf3(n:Nat)(lL4:Li→Li→Int→Option R146)(a:Li)(b:Li):Option R146 :=
 cond (!decide ((↑a.length:Int)=(↑b.length:Int))) (some ((false,()),())) (lL4 a b (0:Int))
noncomputable def zdy(n:Nat)(lL4:Li→Li→Int→Option R146)(x0 x1:Li)(x2:Int):Option R146 :=
 cond (decide (x2<(↑x0.length:Int))) (cond (decide (0≤x2)) (cond (decide (x2<(↑x0.length:Int))) (cond (decide (0≤x2)) (cond (decide (x2<(↑x1.length:Int))) (cond (!decide (x0.getD x2.toNat (0:Int)=x1.getD x2.toNat (0:Int))) (some ((false,()),())) (lL4 x0 x1 (IntKind.i64.wrap (x2+1)))) none) none) none) none) (some ((true,()),()))
theorem e146_top(n:Nat)(a:Li)(b:Li):runF TT G146 an146 Try.f146 c146 ps146 rs146 n (a,b,())=zf3 n (fun x0 x1 x2=>at146 n (.head 4) [n] (zgs x0 x1 x2)) a b:=by kernel_rfl
theorem e146_L4_0(n:Nat)(x0 x1:Li)(x2:Int):at146 n (.head 4) [0] (zgs x0 x1 x2)=none:=by kernel_rfl
theorem e146_L4(n:Nat)(m4:Nat)(x0 x1:Li)(x2:Int):at146 n (.head 4) [m4+1] (zgs x0 x1 x2)=zdy n (fun x0 x1 x2=>at146 n (.head 4) [m4] (zgs x0 x1 x2)) x0 x1 x2:=by kernel_rfl
noncomputable def ze9(n:Nat):Nat→Li→Li→Int→Option R146
 | 0,_,_,_=>none
 | m+1,x0,x1,x2=>zdy n (ze9 n m) x0 x1 x2
noncomputable def p146(n:Nat)(a:Li)(b:Li):Option R146:=zf3 n (ze9 n n) a b
theorem t146_L4(n:Nat):∀ (m4:Nat) (x0 x1:Li) (x2:Int),at146 n (.head 4) [m4] (zgs x0 x1 x2)=ze9 n m4 x0 x1 x2:=by
 intro m
 induction m with
 | zero=>intros;rw[e146_L4_0];rfl
 | succ m ih =>
  intros
  rw[e146_L4]
  try simp only[ih]
  rfl
noncomputable def q146(n:Nat)(x:argsD ps146):Option R146:=p146 n x.1 x.2.1
noncomputable def Sm146:Sm:=⟨ps146,rs146,false,q146⟩
theorem gam146:GamOK Try.prog G146:=fun _ _ h=>by cases h
theorem hh146:Hp 146 Sm146:=hOf (zac (an:=an146) (c:=c146) tt_ok gam146 mixed Try.func146 (by kernel_rfl) rfl (by decide +kernel)) fun n x=>(e146_top n x.1 x.2.1).trans (by simp only[t146_L4];try rfl)
theorem y146:Gk 146 Sm146:=⟨⟨Try.f146,c146,Try.func146,by kernel_rfl,by decide +kernel⟩,hh146⟩
noncomputable def c97:Code:=(Try.f97.body.getD .skip)
def an97:An:=⟨fun _=>⟨[],[]⟩,fun _ _=>none⟩
abbrev ps97:List PK:=[.val tPg true,.val tPg true]
abbrev rs97:List RK:=[.val .bool false]
abbrev R97:=retsD rs97×outsD ps97
noncomputable def G97:Gam:=fun f=>match f with | 145=>some Sm145 | 146=>some Sm146 | _=>none
noncomputable def zip(n:Nat)(a:Lb×Li)(b:Lb×Li):Option R97 :=
 (q145 n (a.1,b.1,())).bind fun r0=>cond (!r0.1.1) (some ((false,()),())) ((q146 n (a.2,b.2,())).bind fun r1=>cond (!r1.1.1) (some ((false,()),())) (some ((true,()),())))
theorem e97_top(n:Nat)(a:Lb×Li)(b:Lb×Li):runF TT G97 an97 Try.f97 c97 ps97 rs97 n (a,b,())=zip n a b:=by kernel_rfl
noncomputable def p97(n:Nat)(a:Lb×Li)(b:Lb×Li):Option R97:=zip n a b
noncomputable def q97(n:Nat)(x:argsD ps97):Option R97:=p97 n x.1 x.2.1
noncomputable def Sm97:Sm:=⟨ps97,rs97,false,q97⟩
theorem gam97:GamOK Try.prog G97:=by intro f s h;unfold G97 at h;split at h;exact gj h y145;exact gj h y146;cases h
theorem hh97:Hp 97 Sm97:=hOf (zac (an:=an97) (c:=c97) tt_ok gam97 mixed Try.func97 (by kernel_rfl) rfl (by decide +kernel)) fun n x=>(e97_top n x.1 x.2.1).trans rfl
theorem y97:Gk 97 Sm97:=⟨⟨Try.f97,c97,Try.func97,by kernel_rfl,by decide +kernel⟩,hh97⟩
noncomputable def c177:Code:=(Try.f177.body.getD .skip)
def an177:An:=⟨fun _=>⟨[],[]⟩,fun _ _=>none⟩
abbrev ps177:List PK:=[.val tAr true,.val tAr true]
abbrev rs177:List RK:=[.val .bool false]
abbrev R177:=retsD rs177×outsD ps177
noncomputable def G177:Gam:=fun _=>none
noncomputable def zfs(n:Nat)(a:Aq)(b:Aq):Option R177 :=
 cond (!decide (a.1=b.1)) (some ((false,()),())) (cond (!decide (a.2.1=b.2.1)) (some ((false,()),())) (cond (!a.2.2.1 == b.2.2.1) (some ((false,()),())) (cond (!a.2.2.2 == b.2.2.2) (some ((false,()),())) (some ((true,()),())))))
theorem e177_top(n:Nat)(a:Aq)(b:Aq):runF TT G177 an177 Try.f177 c177 ps177 rs177 n (a,b,())=zfs n a b:=by kernel_rfl
noncomputable def p177(n:Nat)(a:Aq)(b:Aq):Option R177:=zfs n a b
noncomputable def q177(n:Nat)(x:argsD ps177):Option R177:=p177 n x.1 x.2.1
noncomputable def Sm177:Sm:=⟨ps177,rs177,false,q177⟩
theorem gam177:GamOK Try.prog G177:=fun _ _ h=>by cases h
theorem hh177:Hp 177 Sm177:=hOf (zac (an:=an177) (c:=c177) tt_ok gam177 mixed Try.func177 (by kernel_rfl) rfl (by decide +kernel)) fun n x=>(e177_top n x.1 x.2.1).trans rfl
theorem y177:Gk 177 Sm177:=⟨⟨Try.f177,c177,Try.func177,by kernel_rfl,by decide +kernel⟩,hh177⟩
noncomputable def c163:Code:=(Try.f163.body.getD .skip)
def an163:An:=⟨fun r=>match r with | 4=>⟨[0,1,5],[]⟩ | _=>⟨[],[]⟩,fun _ _=>none⟩
abbrev ps163:List PK:=[.val (.row 116 tAr) false,.val (.row 116 tAr) false]
abbrev rs163:List RK:=[.val .bool false]
abbrev R163:=retsD rs163×outsD ps163
noncomputable def G163:Gam:=fun f=>match f with | 177=>some Sm177 | _=>none
noncomputable def at163:Nat→Pt→List Nat→St→Option R163:=atF TT G163 an163 Try.f163 c163 _ _
def zgo(x0 x1:Lq)(x2:Int):St:=(St.mk ([AV.one (SV.con (⟨116,yAq,x0⟩:Rw)),AV.one (SV.con (⟨116,yAq,x1⟩:Rw)),Uu,Uu,Uu,Ai x2]++Ur 21) [])
noncomputable def zfx(n:Nat)(lL4:Lq→Lq→Int→Option R163)(a:Lq)(b:Lq):Option R163 :=
 cond (!decide ((↑a.length:Int)=(↑b.length:Int))) (some ((false,()),())) (lL4 a b (0:Int))
noncomputable def zdu(n:Nat)(lL4:Lq→Lq→Int→Option R163)(x0 x1:Lq)(x2:Int):Option R163 :=
 cond (decide (x2<(↑x0.length:Int))) (cond (decide (0≤x2)) (cond (decide (x2<(↑x0.length:Int))) (cond (decide (0≤x2)) (cond (decide (x2<(↑x1.length:Int))) ((q177 n (((x0.getD x2.toNat ((0:Int),(0:Int),false,false)).1,(x0.getD x2.toNat ((0:Int),(0:Int),false,false)).2.1,(x0.getD x2.toNat ((0:Int),(0:Int),false,false)).2.2.1,(x0.getD x2.toNat ((0:Int),(0:Int),false,false)).2.2.2),((x1.getD x2.toNat ((0:Int),(0:Int),false,false)).1,(x1.getD x2.toNat ((0:Int),(0:Int),false,false)).2.1,(x1.getD x2.toNat ((0:Int),(0:Int),false,false)).2.2.1,(x1.getD x2.toNat ((0:Int),(0:Int),false,false)).2.2.2),())).bind fun r1=>cond (!r1.1.1) (some ((false,()),())) (lL4 x0 x1 (IntKind.i64.wrap (x2+1)))) none) none) none) none) (some ((true,()),()))
theorem e163_top(n:Nat)(a:Lq)(b:Lq):runF TT G163 an163 Try.f163 c163 ps163 rs163 n (a,b,())=zfx n (fun x0 x1 x2=>at163 n (.head 4) [n] (zgo x0 x1 x2)) a b:=by kernel_rfl
theorem e163_L4_0(n:Nat)(x0 x1:Lq)(x2:Int):at163 n (.head 4) [0] (zgo x0 x1 x2)=none:=by kernel_rfl
theorem e163_L4(n:Nat)(m4:Nat)(x0 x1:Lq)(x2:Int):at163 n (.head 4) [m4+1] (zgo x0 x1 x2)=zdu n (fun x0 x1 x2=>at163 n (.head 4) [m4] (zgo x0 x1 x2)) x0 x1 x2:=by kernel_rfl
noncomputable def ze5(n:Nat):Nat→Lq→Lq→Int→Option R163
 | 0,_,_,_=>none
 | m+1,x0,x1,x2=>zdu n (ze5 n m) x0 x1 x2
noncomputable def p163(n:Nat)(a:Lq)(b:Lq):Option R163:=zfx n (ze5 n n) a b
theorem t163_L4(n:Nat):∀ (m4:Nat) (x0 x1:Lq) (x2:Int),at163 n (.head 4) [m4] (zgo x0 x1 x2)=ze5 n m4 x0 x1 x2:=by
 intro m
 induction m with
 | zero=>intros;rw[e163_L4_0];rfl
 | succ m ih =>
  intros
  rw[e163_L4]
  try simp only[ih]
  rfl
noncomputable def q163(n:Nat)(x:argsD ps163):Option R163:=p163 n x.1 x.2.1
noncomputable def Sm163:Sm:=⟨ps163,rs163,false,q163⟩
theorem gam163:GamOK Try.prog G163:=by intro f s h;unfold G163 at h;split at h;exact gj h y177;cases h
theorem hh163:Hp 163 Sm163:=hOf (zac (an:=an163) (c:=c163) tt_ok gam163 mixed Try.func163 (by kernel_rfl) rfl (by decide +kernel)) fun n x=>(e163_top n x.1 x.2.1).trans (by simp only[t163_L4];try rfl)
theorem y163:Gk 163 Sm163:=⟨⟨Try.f163,c163,Try.func163,by kernel_rfl,by decide +kernel⟩,hh163⟩
noncomputable def c179:Code:=(Try.f179.body.getD .skip)
def an179:An:=⟨fun _=>⟨[],[]⟩,fun _ _=>none⟩
abbrev ps179:List PK:=[.val tSl true,.val tSl true]
abbrev rs179:List RK:=[.val .bool false]
abbrev R179:=retsD rs179×outsD ps179
noncomputable def G179:Gam:=fun _=>none
noncomputable def zfr(n:Nat)(a:Aq)(b:Aq):Option R179 :=
 cond (!decide (a.1=b.1)) (some ((false,()),())) (cond (!decide (a.2.1=b.2.1)) (some ((false,()),())) (cond (!a.2.2.1 == b.2.2.1) (some ((false,()),())) (cond (!a.2.2.2 == b.2.2.2) (some ((false,()),())) (some ((true,()),())))))
theorem e179_top(n:Nat)(a:Aq)(b:Aq):runF TT G179 an179 Try.f179 c179 ps179 rs179 n (a,b,())=zfr n a b:=by kernel_rfl
noncomputable def p179(n:Nat)(a:Aq)(b:Aq):Option R179:=zfr n a b
noncomputable def q179(n:Nat)(x:argsD ps179):Option R179:=p179 n x.1 x.2.1
noncomputable def Sm179:Sm:=⟨ps179,rs179,false,q179⟩
theorem gam179:GamOK Try.prog G179:=fun _ _ h=>by cases h
theorem hh179:Hp 179 Sm179:=hOf (zac (an:=an179) (c:=c179) tt_ok gam179 mixed Try.func179 (by kernel_rfl) rfl (by decide +kernel)) fun n x=>(e179_top n x.1 x.2.1).trans rfl
theorem y179:Gk 179 Sm179:=⟨⟨Try.f179,c179,Try.func179,by kernel_rfl,by decide +kernel⟩,hh179⟩
noncomputable def c167:Code:=(Try.f167.body.getD .skip)
def an167:An:=⟨fun r=>match r with | 4=>⟨[0,1,5],[]⟩ | _=>⟨[],[]⟩,fun _ _=>none⟩
abbrev ps167:List PK:=[.val (.row 80 tSl) false,.val (.row 80 tSl) false]
abbrev rs167:List RK:=[.val .bool false]
abbrev R167:=retsD rs167×outsD ps167
noncomputable def G167:Gam:=fun f=>match f with | 179=>some Sm179 | _=>none
noncomputable def at167:Nat→Pt→List Nat→St→Option R167:=atF TT G167 an167 Try.f167 c167 _ _
def zgl(x0 x1:Lq)(x2:Int):St:=(St.mk ([AV.one (SV.con (⟨80,yAq,x0⟩:Rw)),AV.one (SV.con (⟨80,yAq,x1⟩:Rw)),Uu,Uu,Uu,Ai x2]++Ur 21) [])
noncomputable def zft(n:Nat)(lL4:Lq→Lq→Int→Option R167)(a:Lq)(b:Lq):Option R167 :=
 cond (!decide ((↑a.length:Int)=(↑b.length:Int))) (some ((false,()),())) (lL4 a b (0:Int))
noncomputable def zds(n:Nat)(lL4:Lq→Lq→Int→Option R167)(x0 x1:Lq)(x2:Int):Option R167 :=
 cond (decide (x2<(↑x0.length:Int))) (cond (decide (0≤x2)) (cond (decide (x2<(↑x0.length:Int))) (cond (decide (0≤x2)) (cond (decide (x2<(↑x1.length:Int))) ((q179 n (((x0.getD x2.toNat ((0:Int),(0:Int),false,false)).1,(x0.getD x2.toNat ((0:Int),(0:Int),false,false)).2.1,(x0.getD x2.toNat ((0:Int),(0:Int),false,false)).2.2.1,(x0.getD x2.toNat ((0:Int),(0:Int),false,false)).2.2.2),((x1.getD x2.toNat ((0:Int),(0:Int),false,false)).1,(x1.getD x2.toNat ((0:Int),(0:Int),false,false)).2.1,(x1.getD x2.toNat ((0:Int),(0:Int),false,false)).2.2.1,(x1.getD x2.toNat ((0:Int),(0:Int),false,false)).2.2.2),())).bind fun r1=>cond (!r1.1.1) (some ((false,()),())) (lL4 x0 x1 (IntKind.i64.wrap (x2+1)))) none) none) none) none) (some ((true,()),()))
theorem e167_top(n:Nat)(a:Lq)(b:Lq):runF TT G167 an167 Try.f167 c167 ps167 rs167 n (a,b,())=zft n (fun x0 x1 x2=>at167 n (.head 4) [n] (zgl x0 x1 x2)) a b:=by kernel_rfl
theorem e167_L4_0(n:Nat)(x0 x1:Lq)(x2:Int):at167 n (.head 4) [0] (zgl x0 x1 x2)=none:=by kernel_rfl
theorem e167_L4(n:Nat)(m4:Nat)(x0 x1:Lq)(x2:Int):at167 n (.head 4) [m4+1] (zgl x0 x1 x2)=zds n (fun x0 x1 x2=>at167 n (.head 4) [m4] (zgl x0 x1 x2)) x0 x1 x2:=by kernel_rfl
noncomputable def ze3(n:Nat):Nat→Lq→Lq→Int→Option R167
 | 0,_,_,_=>none
 | m+1,x0,x1,x2=>zds n (ze3 n m) x0 x1 x2
noncomputable def p167(n:Nat)(a:Lq)(b:Lq):Option R167:=zft n (ze3 n n) a b
theorem t167_L4(n:Nat):∀ (m4:Nat) (x0 x1:Lq) (x2:Int),at167 n (.head 4) [m4] (zgl x0 x1 x2)=ze3 n m4 x0 x1 x2:=by
 intro m
 induction m with
 | zero=>intros;rw[e167_L4_0];rfl
 | succ m ih =>
  intros
  rw[e167_L4]
  try simp only[ih]
  rfl
noncomputable def q167(n:Nat)(x:argsD ps167):Option R167:=p167 n x.1 x.2.1
noncomputable def Sm167:Sm:=⟨ps167,rs167,false,q167⟩
theorem gam167:GamOK Try.prog G167:=by intro f s h;unfold G167 at h;split at h;exact gj h y179;cases h
theorem hh167:Hp 167 Sm167:=hOf (zac (an:=an167) (c:=c167) tt_ok gam167 mixed Try.func167 (by kernel_rfl) rfl (by decide +kernel)) fun n x=>(e167_top n x.1 x.2.1).trans (by simp only[t167_L4];try rfl)
theorem y167:Gk 167 Sm167:=⟨⟨Try.f167,c167,Try.func167,by kernel_rfl,by decide +kernel⟩,hh167⟩
noncomputable def c147:Code:=(Try.f147.body.getD .skip)
def an147:An:=⟨fun _=>⟨[],[]⟩,fun _ _=>none⟩
abbrev ps147:List PK:=[.val (tSp 116 80) true,.val (tSp 116 80) true]
abbrev rs147:List RK:=[.val .bool false]
abbrev R147:=retsD rs147×outsD ps147
noncomputable def G147:Gam:=fun f=>match f with | 163=>some Sm163 | 167=>some Sm167 | _=>none
noncomputable def zf2(n:Nat)(a:Br)(b:Br):Option R147 :=
 cond (!a.1 == b.1) (some ((false,()),())) ((q163 n (a.2.1,b.2.1,())).bind fun r0=>cond (!r0.1.1) (some ((false,()),())) ((q167 n (a.2.2,b.2.2,())).bind fun r1=>cond (!r1.1.1) (some ((false,()),())) (some ((true,()),()))))
theorem e147_top(n:Nat)(a:Br)(b:Br):runF TT G147 an147 Try.f147 c147 ps147 rs147 n (a,b,())=zf2 n a b:=by kernel_rfl
noncomputable def p147(n:Nat)(a:Br)(b:Br):Option R147:=zf2 n a b
noncomputable def q147(n:Nat)(x:argsD ps147):Option R147:=p147 n x.1 x.2.1
noncomputable def Sm147:Sm:=⟨ps147,rs147,false,q147⟩
theorem gam147:GamOK Try.prog G147:=by intro f s h;unfold G147 at h;split at h;exact gj h y163;exact gj h y167;cases h
theorem hh147:Hp 147 Sm147:=hOf (zac (an:=an147) (c:=c147) tt_ok gam147 mixed Try.func147 (by kernel_rfl) rfl (by decide +kernel)) fun n x=>(e147_top n x.1 x.2.1).trans rfl
theorem y147:Gk 147 Sm147:=⟨⟨Try.f147,c147,Try.func147,by kernel_rfl,by decide +kernel⟩,hh147⟩
noncomputable def c98:Code:=(Try.f98.body.getD .skip)
def an98:An:=⟨fun r=>match r with | 4=>⟨[0,1,5],[]⟩ | _=>⟨[],[]⟩,fun _ _=>none⟩
abbrev ps98:List PK:=[.val (.row 71 (tSp 116 80)) false,.val (.row 71 (tSp 116 80)) false]
abbrev rs98:List RK:=[.val .bool false]
abbrev R98:=retsD rs98×outsD ps98
noncomputable def G98:Gam:=fun f=>match f with | 147=>some Sm147 | _=>none
noncomputable def at98:Nat→Pt→List Nat→St→Option R98:=atF TT G98 an98 Try.f98 c98 _ _
def zjy(x0 x1:List (Br))(x2:Int):St:=(St.mk ([AV.one (SV.con (⟨71,ySp,x0⟩:Rw)),AV.one (SV.con (⟨71,ySp,x1⟩:Rw)),Uu,Uu,Uu,Ai x2]++Ur 21) [])
noncomputable def zio(n:Nat)(lL4:(List (Br))→(List (Br))→Int→Option R98)(a:List (Br))(b:List (Br)):Option R98 :=
 cond (!decide ((↑a.length:Int)=(↑b.length:Int))) (some ((false,()),())) (lL4 a b (0:Int))
noncomputable def zhp(n:Nat)(lL4:(List (Br))→(List (Br))→Int→Option R98)(x0 x1:List (Br))(x2:Int):Option R98 :=
 cond (decide (x2<(↑x0.length:Int))) (cond (decide (0≤x2)) (cond (decide (x2<(↑x0.length:Int))) (cond (decide (0≤x2)) (cond (decide (x2<(↑x1.length:Int))) ((q147 n (((x0.getD x2.toNat (false,[],[])).1,(x0.getD x2.toNat (false,[],[])).2.1,(x0.getD x2.toNat (false,[],[])).2.2),((x1.getD x2.toNat (false,[],[])).1,(x1.getD x2.toNat (false,[],[])).2.1,(x1.getD x2.toNat (false,[],[])).2.2),())).bind fun r1=>cond (!r1.1.1) (some ((false,()),())) (lL4 x0 x1 (IntKind.i64.wrap (x2+1)))) none) none) none) none) (some ((true,()),()))
theorem e98_top(n:Nat)(a:List (Br))(b:List (Br)):runF TT G98 an98 Try.f98 c98 ps98 rs98 n (a,b,())=zio n (fun x0 x1 x2=>at98 n (.head 4) [n] (zjy x0 x1 x2)) a b:=by kernel_rfl
theorem e98_L4_0(n:Nat)(x0 x1:List (Br))(x2:Int):at98 n (.head 4) [0] (zjy x0 x1 x2)=none:=by kernel_rfl
theorem e98_L4(n:Nat)(m4:Nat)(x0 x1:List (Br))(x2:Int):at98 n (.head 4) [m4+1] (zjy x0 x1 x2)=zhp n (fun x0 x1 x2=>at98 n (.head 4) [m4] (zjy x0 x1 x2)) x0 x1 x2:=by kernel_rfl
noncomputable def zkl(n:Nat):Nat→(List (Br))→(List (Br))→Int→Option R98
 | 0,_,_,_=>none
 | m+1,x0,x1,x2=>zhp n (zkl n m) x0 x1 x2
noncomputable def p98(n:Nat)(a:List (Br))(b:List (Br)):Option R98:=zio n (zkl n n) a b
theorem t98_L4(n:Nat):∀ (m4:Nat) (x0 x1:List (Br)) (x2:Int),at98 n (.head 4) [m4] (zjy x0 x1 x2)=zkl n m4 x0 x1 x2:=by
 intro m
 induction m with
 | zero=>intros;rw[e98_L4_0];rfl
 | succ m ih =>
  intros
  rw[e98_L4]
  try simp only[ih]
  rfl
noncomputable def q98(n:Nat)(x:argsD ps98):Option R98:=p98 n x.1 x.2.1
noncomputable def Sm98:Sm:=⟨ps98,rs98,false,q98⟩
theorem gam98:GamOK Try.prog G98:=by intro f s h;unfold G98 at h;split at h;exact gj h y147;cases h
theorem hh98:Hp 98 Sm98:=hOf (zac (an:=an98) (c:=c98) tt_ok gam98 mixed Try.func98 (by kernel_rfl) rfl (by decide +kernel)) fun n x=>(e98_top n x.1 x.2.1).trans (by simp only[t98_L4];try rfl)
theorem y98:Gk 98 Sm98:=⟨⟨Try.f98,c98,Try.func98,by kernel_rfl,by decide +kernel⟩,hh98⟩
noncomputable def c31:Code:=(Try.f31.body.getD .skip)
def an31:An:=⟨fun _=>⟨[],[]⟩,fun _ _=>none⟩
abbrev ps31:List PK:=[.val tMem true,.val tMem true]
abbrev rs31:List RK:=[.val .bool false]
abbrev R31:=retsD rs31×outsD ps31
noncomputable def G31:Gam:=fun f=>match f with | 97=>some Sm97 | 98=>some Sm98 | _=>none
noncomputable def zi9(n:Nat)(a:Mm)(b:Mm):Option R31 :=
 (q97 n ((a.1.1,a.1.2),(b.1.1,b.1.2),())).bind fun r0=>cond (!r0.1.1) (some ((false,()),())) ((q97 n ((a.2.1.1,a.2.1.2),(b.2.1.1,b.2.1.2),())).bind fun r1=>cond (!r1.1.1) (some ((false,()),())) ((q98 n (a.2.2.1,b.2.2.1,())).bind fun r2=>cond (!r2.1.1) (some ((false,()),())) (cond (!decide (a.2.2.2=b.2.2.2)) (some ((false,()),())) (some ((true,()),())))))
theorem e31_top(n:Nat)(a:Mm)(b:Mm):runF TT G31 an31 Try.f31 c31 ps31 rs31 n (a,b,())=zi9 n a b:=by kernel_rfl
noncomputable def p31(n:Nat)(a:Mm)(b:Mm):Option R31:=zi9 n a b
noncomputable def q31(n:Nat)(x:argsD ps31):Option R31:=p31 n x.1 x.2.1
noncomputable def Sm31:Sm:=⟨ps31,rs31,false,q31⟩
theorem gam31:GamOK Try.prog G31:=by intro f s h;unfold G31 at h;split at h;exact gj h y97;exact gj h y98;cases h
theorem hh31:Hp 31 Sm31:=hOf (zac (an:=an31) (c:=c31) tt_ok gam31 mixed Try.func31 (by kernel_rfl) rfl (by decide +kernel)) fun n x=>(e31_top n x.1 x.2.1).trans rfl
theorem y31:Gk 31 Sm31:=⟨⟨Try.f31,c31,Try.func31,by kernel_rfl,by decide +kernel⟩,hh31⟩
noncomputable def c132:Code:=(Try.f132.body.getD .skip)
def an132:An:=⟨fun r=>match r with | 2=>⟨[0,1,5],[]⟩ | _=>⟨[],[]⟩,fun _ _=>none⟩
abbrev ps132:List PK:=[.io (.row 3 i64) false,.val i64 false]
abbrev rs132:List RK:=[.val i64 false]
abbrev R132:=retsD rs132×outsD ps132
noncomputable def G132:Gam:=fun _=>none
noncomputable def at132:Nat→Pt→List Nat→St→Option R132:=atF TT G132 an132 Try.f132 c132 _ _
def zg2(x0 x1:Int)(x2:Li):St:=(St.mk ([AV.par 0 false [Sr 1000000],Ai x0,Uu,Uu,Uu,Ai x1]++Ur 13) [(1000000,Er ⟨3,Ty.int .i64,x2⟩)])
noncomputable def st132_top(n:Nat)(lL2:Int→Int→Li→Option R132)(a:Li)(b:Int):Option R132 :=
 lL2 b (0:Int) a
noncomputable def zd8(n:Nat)(lL2:Int→Int→Li→Option R132)(x0 x1:Int)(x2:Li):Option R132 :=
 cond (decide (x1<(↑x2.length:Int))) (cond (decide (0≤x1)) (cond (decide (x1<(↑x2.length:Int))) (lL2 (IntKind.i64.wrap (x0+1)) (IntKind.i64.wrap (x1+1)) (x2.set x1.toNat x0)) none) none) (some ((x0,()),(x2,())))
theorem e132_top(n:Nat)(a:Li)(b:Int):runF TT G132 an132 Try.f132 c132 ps132 rs132 n (a,b,())=st132_top n (fun x0 x1 x2=>at132 n (.head 2) [n] (zg2 x0 x1 x2)) a b:=by kernel_rfl
theorem e132_L2_0(n:Nat)(x0 x1:Int)(x2:Li):at132 n (.head 2) [0] (zg2 x0 x1 x2)=none:=by kernel_rfl
theorem e132_L2(n:Nat)(m2:Nat)(x0 x1:Int)(x2:Li):at132 n (.head 2) [m2+1] (zg2 x0 x1 x2)=zd8 n (fun x0 x1 x2=>at132 n (.head 2) [m2] (zg2 x0 x1 x2)) x0 x1 x2:=by kernel_rfl
noncomputable def zfh(n:Nat):Nat→Int→Int→Li→Option R132
 | 0,_,_,_=>none
 | m+1,x0,x1,x2=>zd8 n (zfh n m) x0 x1 x2
noncomputable def p132(n:Nat)(a:Li)(b:Int):Option R132:=st132_top n (zfh n n) a b
theorem t132_L2(n:Nat):∀ (m2:Nat) (x0 x1:Int) (x2:Li),at132 n (.head 2) [m2] (zg2 x0 x1 x2)=zfh n m2 x0 x1 x2:=by
 intro m
 induction m with
 | zero=>intros;rw[e132_L2_0];rfl
 | succ m ih =>
  intros
  rw[e132_L2]
  try simp only[ih]
  rfl
noncomputable def q132(n:Nat)(x:argsD ps132):Option R132:=p132 n x.1 x.2.1
noncomputable def Sm132:Sm:=⟨ps132,rs132,false,q132⟩
theorem gam132:GamOK Try.prog G132:=fun _ _ h=>by cases h
theorem hh132:Hp 132 Sm132:=hOf (zac (an:=an132) (c:=c132) tt_ok gam132 mixed Try.func132 (by kernel_rfl) rfl (by decide +kernel)) fun n x=>(e132_top n x.1 x.2.1).trans (by simp only[t132_L2];try rfl)
theorem y132:Gk 132 Sm132:=⟨⟨Try.f132,c132,Try.func132,by kernel_rfl,by decide +kernel⟩,hh132⟩
noncomputable def c164:Code:=(Try.f164.body.getD .skip)
def an164:An:=⟨fun r=>match r with | 4=>⟨[0,3],[]⟩ | _=>⟨[],[]⟩,fun _ _=>none⟩
abbrev ps164:List PK:=[.val i64 false]
abbrev rs164:List RK:=[.val .str false]
abbrev R164:=retsD rs164×outsD ps164
noncomputable def G164:Gam:=fun _=>none
noncomputable def at164:Nat→Pt→List Nat→St→Option R164:=atF TT G164 an164 Try.f164 c164 _ _
def zgn(x0:Int)(x1:ByteArray):St:=(St.mk ([Ai x0,Uu,Uu,AV.one (SV.str x1)]++Ur 16) [])
noncomputable def zfw(n:Nat)(lL4:Int→ByteArray→Option R164)(a:Int):Option R164 :=
 cond (decide (a≤(0:Int))) (some ((ByteArray.mk #[(109:UInt8),(48:UInt8)],()),())) (lL4 a (ByteArray.mk #[]))
noncomputable def zct(n:Nat)(lL4:Int→ByteArray→Option R164)(x0:Int)(x1:ByteArray):Option R164 :=
 cond (decide (0<x0)) (cond (decide ((List.foldl (fun r n=>r.push (UInt8.ofNat n.toNat)) ByteArray.empty [IntKind.u8.wrap (IntKind.i64.wrap ((48:Int)+x0.tmod (10:Int)))]).size+x1.size≤(9223372036854775807:Nat))) (lL4 (IntKind.i64.wrap (x0.tdiv (10:Int))) (List.foldl (fun r n=>r.push (UInt8.ofNat n.toNat)) ByteArray.empty [IntKind.u8.wrap (IntKind.i64.wrap ((48:Int)+x0.tmod (10:Int)))]++x1)) none) (cond (decide ((ByteArray.mk #[(109:UInt8)]).size+x1.size≤(9223372036854775807:Nat))) (some ((ByteArray.mk #[(109:UInt8)]++x1,()),())) none)
theorem e164_top(n:Nat)(a:Int):runF TT G164 an164 Try.f164 c164 ps164 rs164 n (a,())=zfw n (fun x0 x1=>at164 n (.head 4) [n] (zgn x0 x1)) a:=by kernel_rfl
theorem e164_L4_0(n:Nat)(x0:Int)(x1:ByteArray):at164 n (.head 4) [0] (zgn x0 x1)=none:=by kernel_rfl
theorem e164_L4(n:Nat)(m4:Nat)(x0:Int)(x1:ByteArray):at164 n (.head 4) [m4+1] (zgn x0 x1)=zct n (fun x0 x1=>at164 n (.head 4) [m4] (zgn x0 x1)) x0 x1:=by kernel_rfl
noncomputable def zh1(n:Nat):Nat→Int→ByteArray→Option R164
 | 0,_,_=>none
 | m+1,x0,x1=>zct n (zh1 n m) x0 x1
noncomputable def p164(n:Nat)(a:Int):Option R164:=zfw n (zh1 n n) a
theorem t164_L4(n:Nat):∀ (m4:Nat) (x0:Int) (x1:ByteArray),at164 n (.head 4) [m4] (zgn x0 x1)=zh1 n m4 x0 x1:=by
 intro m
 induction m with
 | zero=>intros;rw[e164_L4_0];rfl
 | succ m ih =>
  intros
  rw[e164_L4]
  try simp only[ih]
  rfl
noncomputable def q164(n:Nat)(x:argsD ps164):Option R164:=p164 n x.1
noncomputable def Sm164:Sm:=⟨ps164,rs164,false,q164⟩
theorem gam164:GamOK Try.prog G164:=fun _ _ h=>by cases h
theorem hh164:Hp 164 Sm164:=hOf (zac (an:=an164) (c:=c164) tt_ok gam164 mixed Try.func164 (by kernel_rfl) rfl (by decide +kernel)) fun n x=>(e164_top n x.1).trans (by simp only[t164_L4];try rfl)
theorem y164:Gk 164 Sm164:=⟨⟨Try.f164,c164,Try.func164,by kernel_rfl,by decide +kernel⟩,hh164⟩
noncomputable def c133:Code:=(Try.f133.body.getD .skip)
def an133:An:=⟨fun r=>match r with | 2=>⟨[0,1,5],[]⟩ | _=>⟨[],[]⟩,fun _ _=>none⟩
abbrev ps133:List PK:=[.io (.row 9 .str) false,.val i64 false]
abbrev rs133:List RK:=[.val i64 false]
abbrev R133:=retsD rs133×outsD ps133
noncomputable def G133:Gam:=fun f=>match f with | 164=>some Sm164 | _=>none
noncomputable def at133:Nat→Pt→List Nat→St→Option R133:=atF TT G133 an133 Try.f133 c133 _ _
def zg1(x0 x1:Int)(x2:Lb):St:=(St.mk ([AV.par 0 false [Sr 1000000],Ai x0,Uu,Uu,Uu,Ai x1]++Ur 14) [(1000000,Er ⟨9,Ty.str,x2⟩)])
noncomputable def st133_top(n:Nat)(lL2:Int→Int→Lb→Option R133)(a:Lb)(b:Int):Option R133 :=
 lL2 b (0:Int) a
noncomputable def zd7(n:Nat)(lL2:Int→Int→Lb→Option R133)(x0 x1:Int)(x2:Lb):Option R133 :=
 cond (decide (x1<(↑x2.length:Int))) ((q164 n (x0,())).bind fun r1=>cond (decide (0≤x1)) (cond (decide (x1<(↑x2.length:Int))) (lL2 (IntKind.i64.wrap (x0+1)) (IntKind.i64.wrap (x1+1)) (x2.set x1.toNat r1.1.1)) none) none) (some ((x0,()),(x2,())))
theorem e133_top(n:Nat)(a:Lb)(b:Int):runF TT G133 an133 Try.f133 c133 ps133 rs133 n (a,b,())=st133_top n (fun x0 x1 x2=>at133 n (.head 2) [n] (zg1 x0 x1 x2)) a b:=by kernel_rfl
theorem e133_L2_0(n:Nat)(x0 x1:Int)(x2:Lb):at133 n (.head 2) [0] (zg1 x0 x1 x2)=none:=by kernel_rfl
theorem e133_L2(n:Nat)(m2:Nat)(x0 x1:Int)(x2:Lb):at133 n (.head 2) [m2+1] (zg1 x0 x1 x2)=zd7 n (fun x0 x1 x2=>at133 n (.head 2) [m2] (zg1 x0 x1 x2)) x0 x1 x2:=by kernel_rfl
noncomputable def zfg(n:Nat):Nat→Int→Int→Lb→Option R133
 | 0,_,_,_=>none
 | m+1,x0,x1,x2=>zd7 n (zfg n m) x0 x1 x2
noncomputable def p133(n:Nat)(a:Lb)(b:Int):Option R133:=st133_top n (zfg n n) a b
theorem t133_L2(n:Nat):∀ (m2:Nat) (x0 x1:Int) (x2:Lb),at133 n (.head 2) [m2] (zg1 x0 x1 x2)=zfg n m2 x0 x1 x2:=by
 intro m
 induction m with
 | zero=>intros;rw[e133_L2_0];rfl
 | succ m ih =>
  intros
  rw[e133_L2]
  try simp only[ih]
  rfl
noncomputable def q133(n:Nat)(x:argsD ps133):Option R133:=p133 n x.1 x.2.1
noncomputable def Sm133:Sm:=⟨ps133,rs133,false,q133⟩
theorem gam133:GamOK Try.prog G133:=by intro f s h;unfold G133 at h;split at h;exact gj h y164;cases h
theorem hh133:Hp 133 Sm133:=hOf (zac (an:=an133) (c:=c133) tt_ok gam133 mixed Try.func133 (by kernel_rfl) rfl (by decide +kernel)) fun n x=>(e133_top n x.1 x.2.1).trans (by simp only[t133_L2];try rfl)
theorem y133:Gk 133 Sm133:=⟨⟨Try.f133,c133,Try.func133,by kernel_rfl,by decide +kernel⟩,hh133⟩
noncomputable def c99:Code:=(Try.f99.body.getD .skip)
def an99:An:=⟨fun _=>⟨[],[]⟩,fun _ _=>none⟩
abbrev ps99:List PK:=[.io tPg true,.val i64 false]
abbrev rs99:List RK:=[.val i64 false]
abbrev R99:=retsD rs99×outsD ps99
noncomputable def G99:Gam:=fun f=>match f with | 132=>some Sm132 | 133=>some Sm133 | _=>none
noncomputable def zin(n:Nat)(a:Lb×Li)(b:Int):Option R99 :=
 (q133 n (a.1,b,())).bind fun r0=>(q132 n (a.2,r0.1.1,())).bind fun r1=>some ((r1.1.1,()),((r0.2.1,r1.2.1),()))
theorem e99_top(n:Nat)(a:Lb×Li)(b:Int):runF TT G99 an99 Try.f99 c99 ps99 rs99 n (a,b,())=zin n a b:=by kernel_rfl
noncomputable def p99(n:Nat)(a:Lb×Li)(b:Int):Option R99:=zin n a b
noncomputable def q99(n:Nat)(x:argsD ps99):Option R99:=p99 n x.1 x.2.1
noncomputable def Sm99:Sm:=⟨ps99,rs99,false,q99⟩
theorem gam99:GamOK Try.prog G99:=by intro f s h;unfold G99 at h;split at h;exact gj h y132;exact gj h y133;cases h
theorem hh99:Hp 99 Sm99:=hOf (zac (an:=an99) (c:=c99) tt_ok gam99 mixed Try.func99 (by kernel_rfl) rfl (by decide +kernel)) fun n x=>(e99_top n x.1 x.2.1).trans rfl
theorem y99:Gk 99 Sm99:=⟨⟨Try.f99,c99,Try.func99,by kernel_rfl,by decide +kernel⟩,hh99⟩
noncomputable def c131:Code:=(Try.f131.body.getD .skip)
def an131:An:=⟨fun r=>match r with | 2=>⟨[0,1,5],[]⟩ | _=>⟨[],[]⟩,fun _ _=>none⟩
abbrev ps131:List PK:=[.io (.row 116 tAr) false,.val i64 false]
abbrev rs131:List RK:=[.val i64 false]
abbrev R131:=retsD rs131×outsD ps131
noncomputable def G131:Gam:=fun _=>none
noncomputable def at131:Nat→Pt→List Nat→St→Option R131:=atF TT G131 an131 Try.f131 c131 _ _
def zg3(x0 x1:Int)(x2:Lq):St:=(St.mk ([AV.par 0 false [Sr 1000000],Ai x0,Uu,Uu,Uu,Ai x1]++Ur 39) [(1000000,Er ⟨116,yAq,x2⟩)])
noncomputable def st131_top(n:Nat)(lL2:Int→Int→Lq→Option R131)(a:Lq)(b:Int):Option R131 :=
 lL2 b (0:Int) a
noncomputable def zd9(n:Nat)(lL2:Int→Int→Lq→Option R131)(x0 x1:Int)(x2:Lq):Option R131 :=
 cond (decide (x1<(↑x2.length:Int))) (cond (decide (0≤x1)) (cond (decide (x1<(↑x2.length:Int))) (cond (decide (0≤x1)) (cond (decide (x1<(↑(x2.set x1.toNat (x0,(x2.getD x1.toNat ((0:Int),(0:Int),false,false)).2)).length:Int))) (cond (decide (0≤x1)) (cond (decide (x1<(↑((x2.set x1.toNat (x0,(x2.getD x1.toNat ((0:Int),(0:Int),false,false)).2)).set x1.toNat (((x2.set x1.toNat (x0,(x2.getD x1.toNat ((0:Int),(0:Int),false,false)).2)).getD x1.toNat ((0:Int),(0:Int),false,false)).1,IntKind.i64.wrap (x0+1),((x2.set x1.toNat (x0,(x2.getD x1.toNat ((0:Int),(0:Int),false,false)).2)).getD x1.toNat ((0:Int),(0:Int),false,false)).2.2)).length:Int))) (cond (decide (0≤x1)) (cond (decide (x1<(↑(((x2.set x1.toNat (x0,(x2.getD x1.toNat ((0:Int),(0:Int),false,false)).2)).set x1.toNat (((x2.set x1.toNat (x0,(x2.getD x1.toNat ((0:Int),(0:Int),false,false)).2)).getD x1.toNat ((0:Int),(0:Int),false,false)).1,IntKind.i64.wrap (x0+1),((x2.set x1.toNat (x0,(x2.getD x1.toNat ((0:Int),(0:Int),false,false)).2)).getD x1.toNat ((0:Int),(0:Int),false,false)).2.2)).set x1.toNat ((((x2.set x1.toNat (x0,(x2.getD x1.toNat ((0:Int),(0:Int),false,false)).2)).set x1.toNat (((x2.set x1.toNat (x0,(x2.getD x1.toNat ((0:Int),(0:Int),false,false)).2)).getD x1.toNat ((0:Int),(0:Int),false,false)).1,IntKind.i64.wrap (x0+1),((x2.set x1.toNat (x0,(x2.getD x1.toNat ((0:Int),(0:Int),false,false)).2)).getD x1.toNat ((0:Int),(0:Int),false,false)).2.2)).getD x1.toNat ((0:Int),(0:Int),false,false)).1,(((x2.set x1.toNat (x0,(x2.getD x1.toNat ((0:Int),(0:Int),false,false)).2)).set x1.toNat (((x2.set x1.toNat (x0,(x2.getD x1.toNat ((0:Int),(0:Int),false,false)).2)).getD x1.toNat ((0:Int),(0:Int),false,false)).1,IntKind.i64.wrap (x0+1),((x2.set x1.toNat (x0,(x2.getD x1.toNat ((0:Int),(0:Int),false,false)).2)).getD x1.toNat ((0:Int),(0:Int),false,false)).2.2)).getD x1.toNat ((0:Int),(0:Int),false,false)).2.1,decide ((IntKind.i64.wrap (IntKind.i64.wrap (x0+1)+(1:Int))).tmod (3:Int)=(0:Int)),(((x2.set x1.toNat (x0,(x2.getD x1.toNat ((0:Int),(0:Int),false,false)).2)).set x1.toNat (((x2.set x1.toNat (x0,(x2.getD x1.toNat ((0:Int),(0:Int),false,false)).2)).getD x1.toNat ((0:Int),(0:Int),false,false)).1,IntKind.i64.wrap (x0+1),((x2.set x1.toNat (x0,(x2.getD x1.toNat ((0:Int),(0:Int),false,false)).2)).getD x1.toNat ((0:Int),(0:Int),false,false)).2.2)).getD x1.toNat ((0:Int),(0:Int),false,false)).2.2.2)).length:Int))) (lL2 (IntKind.i64.wrap (IntKind.i64.wrap (IntKind.i64.wrap (IntKind.i64.wrap (x0+1)+(1:Int))+(1:Int))+(1:Int))) (IntKind.i64.wrap (x1+1)) ((((x2.set x1.toNat (x0,(x2.getD x1.toNat ((0:Int),(0:Int),false,false)).2)).set x1.toNat (((x2.set x1.toNat (x0,(x2.getD x1.toNat ((0:Int),(0:Int),false,false)).2)).getD x1.toNat ((0:Int),(0:Int),false,false)).1,IntKind.i64.wrap (x0+1),((x2.set x1.toNat (x0,(x2.getD x1.toNat ((0:Int),(0:Int),false,false)).2)).getD x1.toNat ((0:Int),(0:Int),false,false)).2.2)).set x1.toNat ((((x2.set x1.toNat (x0,(x2.getD x1.toNat ((0:Int),(0:Int),false,false)).2)).set x1.toNat (((x2.set x1.toNat (x0,(x2.getD x1.toNat ((0:Int),(0:Int),false,false)).2)).getD x1.toNat ((0:Int),(0:Int),false,false)).1,IntKind.i64.wrap (x0+1),((x2.set x1.toNat (x0,(x2.getD x1.toNat ((0:Int),(0:Int),false,false)).2)).getD x1.toNat ((0:Int),(0:Int),false,false)).2.2)).getD x1.toNat ((0:Int),(0:Int),false,false)).1,(((x2.set x1.toNat (x0,(x2.getD x1.toNat ((0:Int),(0:Int),false,false)).2)).set x1.toNat (((x2.set x1.toNat (x0,(x2.getD x1.toNat ((0:Int),(0:Int),false,false)).2)).getD x1.toNat ((0:Int),(0:Int),false,false)).1,IntKind.i64.wrap (x0+1),((x2.set x1.toNat (x0,(x2.getD x1.toNat ((0:Int),(0:Int),false,false)).2)).getD x1.toNat ((0:Int),(0:Int),false,false)).2.2)).getD x1.toNat ((0:Int),(0:Int),false,false)).2.1,decide ((IntKind.i64.wrap (IntKind.i64.wrap (x0+1)+(1:Int))).tmod (3:Int)=(0:Int)),(((x2.set x1.toNat (x0,(x2.getD x1.toNat ((0:Int),(0:Int),false,false)).2)).set x1.toNat (((x2.set x1.toNat (x0,(x2.getD x1.toNat ((0:Int),(0:Int),false,false)).2)).getD x1.toNat ((0:Int),(0:Int),false,false)).1,IntKind.i64.wrap (x0+1),((x2.set x1.toNat (x0,(x2.getD x1.toNat ((0:Int),(0:Int),false,false)).2)).getD x1.toNat ((0:Int),(0:Int),false,false)).2.2)).getD x1.toNat ((0:Int),(0:Int),false,false)).2.2.2)).set x1.toNat (((((x2.set x1.toNat (x0,(x2.getD x1.toNat ((0:Int),(0:Int),false,false)).2)).set x1.toNat (((x2.set x1.toNat (x0,(x2.getD x1.toNat ((0:Int),(0:Int),false,false)).2)).getD x1.toNat ((0:Int),(0:Int),false,false)).1,IntKind.i64.wrap (x0+1),((x2.set x1.toNat (x0,(x2.getD x1.toNat ((0:Int),(0:Int),false,false)).2)).getD x1.toNat ((0:Int),(0:Int),false,false)).2.2)).set x1.toNat ((((x2.set x1.toNat (x0,(x2.getD x1.toNat ((0:Int),(0:Int),false,false)).2)).set x1.toNat (((x2.set x1.toNat (x0,(x2.getD x1.toNat ((0:Int),(0:Int),false,false)).2)).getD x1.toNat ((0:Int),(0:Int),false,false)).1,IntKind.i64.wrap (x0+1),((x2.set x1.toNat (x0,(x2.getD x1.toNat ((0:Int),(0:Int),false,false)).2)).getD x1.toNat ((0:Int),(0:Int),false,false)).2.2)).getD x1.toNat ((0:Int),(0:Int),false,false)).1,(((x2.set x1.toNat (x0,(x2.getD x1.toNat ((0:Int),(0:Int),false,false)).2)).set x1.toNat (((x2.set x1.toNat (x0,(x2.getD x1.toNat ((0:Int),(0:Int),false,false)).2)).getD x1.toNat ((0:Int),(0:Int),false,false)).1,IntKind.i64.wrap (x0+1),((x2.set x1.toNat (x0,(x2.getD x1.toNat ((0:Int),(0:Int),false,false)).2)).getD x1.toNat ((0:Int),(0:Int),false,false)).2.2)).getD x1.toNat ((0:Int),(0:Int),false,false)).2.1,decide ((IntKind.i64.wrap (IntKind.i64.wrap (x0+1)+(1:Int))).tmod (3:Int)=(0:Int)),(((x2.set x1.toNat (x0,(x2.getD x1.toNat ((0:Int),(0:Int),false,false)).2)).set x1.toNat (((x2.set x1.toNat (x0,(x2.getD x1.toNat ((0:Int),(0:Int),false,false)).2)).getD x1.toNat ((0:Int),(0:Int),false,false)).1,IntKind.i64.wrap (x0+1),((x2.set x1.toNat (x0,(x2.getD x1.toNat ((0:Int),(0:Int),false,false)).2)).getD x1.toNat ((0:Int),(0:Int),false,false)).2.2)).getD x1.toNat ((0:Int),(0:Int),false,false)).2.2.2)).getD x1.toNat ((0:Int),(0:Int),false,false)).1,((((x2.set x1.toNat (x0,(x2.getD x1.toNat ((0:Int),(0:Int),false,false)).2)).set x1.toNat (((x2.set x1.toNat (x0,(x2.getD x1.toNat ((0:Int),(0:Int),false,false)).2)).getD x1.toNat ((0:Int),(0:Int),false,false)).1,IntKind.i64.wrap (x0+1),((x2.set x1.toNat (x0,(x2.getD x1.toNat ((0:Int),(0:Int),false,false)).2)).getD x1.toNat ((0:Int),(0:Int),false,false)).2.2)).set x1.toNat ((((x2.set x1.toNat (x0,(x2.getD x1.toNat ((0:Int),(0:Int),false,false)).2)).set x1.toNat (((x2.set x1.toNat (x0,(x2.getD x1.toNat ((0:Int),(0:Int),false,false)).2)).getD x1.toNat ((0:Int),(0:Int),false,false)).1,IntKind.i64.wrap (x0+1),((x2.set x1.toNat (x0,(x2.getD x1.toNat ((0:Int),(0:Int),false,false)).2)).getD x1.toNat ((0:Int),(0:Int),false,false)).2.2)).getD x1.toNat ((0:Int),(0:Int),false,false)).1,(((x2.set x1.toNat (x0,(x2.getD x1.toNat ((0:Int),(0:Int),false,false)).2)).set x1.toNat (((x2.set x1.toNat (x0,(x2.getD x1.toNat ((0:Int),(0:Int),false,false)).2)).getD x1.toNat ((0:Int),(0:Int),false,false)).1,IntKind.i64.wrap (x0+1),((x2.set x1.toNat (x0,(x2.getD x1.toNat ((0:Int),(0:Int),false,false)).2)).getD x1.toNat ((0:Int),(0:Int),false,false)).2.2)).getD x1.toNat ((0:Int),(0:Int),false,false)).2.1,decide ((IntKind.i64.wrap (IntKind.i64.wrap (x0+1)+(1:Int))).tmod (3:Int)=(0:Int)),(((x2.set x1.toNat (x0,(x2.getD x1.toNat ((0:Int),(0:Int),false,false)).2)).set x1.toNat (((x2.set x1.toNat (x0,(x2.getD x1.toNat ((0:Int),(0:Int),false,false)).2)).getD x1.toNat ((0:Int),(0:Int),false,false)).1,IntKind.i64.wrap (x0+1),((x2.set x1.toNat (x0,(x2.getD x1.toNat ((0:Int),(0:Int),false,false)).2)).getD x1.toNat ((0:Int),(0:Int),false,false)).2.2)).getD x1.toNat ((0:Int),(0:Int),false,false)).2.2.2)).getD x1.toNat ((0:Int),(0:Int),false,false)).2.1,((((x2.set x1.toNat (x0,(x2.getD x1.toNat ((0:Int),(0:Int),false,false)).2)).set x1.toNat (((x2.set x1.toNat (x0,(x2.getD x1.toNat ((0:Int),(0:Int),false,false)).2)).getD x1.toNat ((0:Int),(0:Int),false,false)).1,IntKind.i64.wrap (x0+1),((x2.set x1.toNat (x0,(x2.getD x1.toNat ((0:Int),(0:Int),false,false)).2)).getD x1.toNat ((0:Int),(0:Int),false,false)).2.2)).set x1.toNat ((((x2.set x1.toNat (x0,(x2.getD x1.toNat ((0:Int),(0:Int),false,false)).2)).set x1.toNat (((x2.set x1.toNat (x0,(x2.getD x1.toNat ((0:Int),(0:Int),false,false)).2)).getD x1.toNat ((0:Int),(0:Int),false,false)).1,IntKind.i64.wrap (x0+1),((x2.set x1.toNat (x0,(x2.getD x1.toNat ((0:Int),(0:Int),false,false)).2)).getD x1.toNat ((0:Int),(0:Int),false,false)).2.2)).getD x1.toNat ((0:Int),(0:Int),false,false)).1,(((x2.set x1.toNat (x0,(x2.getD x1.toNat ((0:Int),(0:Int),false,false)).2)).set x1.toNat (((x2.set x1.toNat (x0,(x2.getD x1.toNat ((0:Int),(0:Int),false,false)).2)).getD x1.toNat ((0:Int),(0:Int),false,false)).1,IntKind.i64.wrap (x0+1),((x2.set x1.toNat (x0,(x2.getD x1.toNat ((0:Int),(0:Int),false,false)).2)).getD x1.toNat ((0:Int),(0:Int),false,false)).2.2)).getD x1.toNat ((0:Int),(0:Int),false,false)).2.1,decide ((IntKind.i64.wrap (IntKind.i64.wrap (x0+1)+(1:Int))).tmod (3:Int)=(0:Int)),(((x2.set x1.toNat (x0,(x2.getD x1.toNat ((0:Int),(0:Int),false,false)).2)).set x1.toNat (((x2.set x1.toNat (x0,(x2.getD x1.toNat ((0:Int),(0:Int),false,false)).2)).getD x1.toNat ((0:Int),(0:Int),false,false)).1,IntKind.i64.wrap (x0+1),((x2.set x1.toNat (x0,(x2.getD x1.toNat ((0:Int),(0:Int),false,false)).2)).getD x1.toNat ((0:Int),(0:Int),false,false)).2.2)).getD x1.toNat ((0:Int),(0:Int),false,false)).2.2.2)).getD x1.toNat ((0:Int),(0:Int),false,false)).2.2.1,decide ((IntKind.i64.wrap (IntKind.i64.wrap (IntKind.i64.wrap (x0+1)+(1:Int))+(1:Int))).tmod (3:Int)=(0:Int))))) none) none) none) none) none) none) none) none) (some ((x0,()),(x2,())))
theorem e131_top(n:Nat)(a:Lq)(b:Int):runF TT G131 an131 Try.f131 c131 ps131 rs131 n (a,b,())=st131_top n (fun x0 x1 x2=>at131 n (.head 2) [n] (zg3 x0 x1 x2)) a b:=by kernel_rfl
theorem e131_L2_0(n:Nat)(x0 x1:Int)(x2:Lq):at131 n (.head 2) [0] (zg3 x0 x1 x2)=none:=by kernel_rfl
theorem e131_L2(n:Nat)(m2:Nat)(x0 x1:Int)(x2:Lq):at131 n (.head 2) [m2+1] (zg3 x0 x1 x2)=zd9 n (fun x0 x1 x2=>at131 n (.head 2) [m2] (zg3 x0 x1 x2)) x0 x1 x2:=by kernel_rfl
noncomputable def zfi(n:Nat):Nat→Int→Int→Lq→Option R131
 | 0,_,_,_=>none
 | m+1,x0,x1,x2=>zd9 n (zfi n m) x0 x1 x2
noncomputable def p131(n:Nat)(a:Lq)(b:Int):Option R131:=st131_top n (zfi n n) a b
theorem t131_L2(n:Nat):∀ (m2:Nat) (x0 x1:Int) (x2:Lq),at131 n (.head 2) [m2] (zg3 x0 x1 x2)=zfi n m2 x0 x1 x2:=by
 intro m
 induction m with
 | zero=>intros;rw[e131_L2_0];rfl
 | succ m ih =>
  intros
  rw[e131_L2]
  try simp only[ih]
  rfl
noncomputable def q131(n:Nat)(x:argsD ps131):Option R131:=p131 n x.1 x.2.1
noncomputable def Sm131:Sm:=⟨ps131,rs131,false,q131⟩
theorem gam131:GamOK Try.prog G131:=fun _ _ h=>by cases h
theorem hh131:Hp 131 Sm131:=hOf (zac (an:=an131) (c:=c131) tt_ok gam131 mixed Try.func131 (by kernel_rfl) rfl (by decide +kernel)) fun n x=>(e131_top n x.1 x.2.1).trans (by simp only[t131_L2];try rfl)
theorem y131:Gk 131 Sm131:=⟨⟨Try.f131,c131,Try.func131,by kernel_rfl,by decide +kernel⟩,hh131⟩
noncomputable def c148:Code:=(Try.f148.body.getD .skip)
def an148:An:=⟨fun r=>match r with | 2=>⟨[0,1,5],[]⟩ | _=>⟨[],[]⟩,fun _ _=>none⟩
abbrev ps148:List PK:=[.io (.row 80 tSl) false,.val i64 false]
abbrev rs148:List RK:=[.val i64 false]
abbrev R148:=retsD rs148×outsD ps148
noncomputable def G148:Gam:=fun _=>none
noncomputable def at148:Nat→Pt→List Nat→St→Option R148:=atF TT G148 an148 Try.f148 c148 _ _
def zgr(x0 x1:Int)(x2:Lq):St:=(St.mk ([AV.par 0 false [Sr 1000000],Ai x0,Uu,Uu,Uu,Ai x1]++Ur 39) [(1000000,Er ⟨80,yAq,x2⟩)])
noncomputable def st148_top(n:Nat)(lL2:Int→Int→Lq→Option R148)(a:Lq)(b:Int):Option R148 :=
 lL2 b (0:Int) a
noncomputable def zdx(n:Nat)(lL2:Int→Int→Lq→Option R148)(x0 x1:Int)(x2:Lq):Option R148 :=
 cond (decide (x1<(↑x2.length:Int))) (cond (decide (0≤x1)) (cond (decide (x1<(↑x2.length:Int))) (cond (decide (0≤x1)) (cond (decide (x1<(↑(x2.set x1.toNat (x0,(x2.getD x1.toNat ((0:Int),(0:Int),false,false)).2)).length:Int))) (cond (decide (0≤x1)) (cond (decide (x1<(↑((x2.set x1.toNat (x0,(x2.getD x1.toNat ((0:Int),(0:Int),false,false)).2)).set x1.toNat (((x2.set x1.toNat (x0,(x2.getD x1.toNat ((0:Int),(0:Int),false,false)).2)).getD x1.toNat ((0:Int),(0:Int),false,false)).1,IntKind.i64.wrap (x0+1),((x2.set x1.toNat (x0,(x2.getD x1.toNat ((0:Int),(0:Int),false,false)).2)).getD x1.toNat ((0:Int),(0:Int),false,false)).2.2)).length:Int))) (cond (decide (0≤x1)) (cond (decide (x1<(↑(((x2.set x1.toNat (x0,(x2.getD x1.toNat ((0:Int),(0:Int),false,false)).2)).set x1.toNat (((x2.set x1.toNat (x0,(x2.getD x1.toNat ((0:Int),(0:Int),false,false)).2)).getD x1.toNat ((0:Int),(0:Int),false,false)).1,IntKind.i64.wrap (x0+1),((x2.set x1.toNat (x0,(x2.getD x1.toNat ((0:Int),(0:Int),false,false)).2)).getD x1.toNat ((0:Int),(0:Int),false,false)).2.2)).set x1.toNat ((((x2.set x1.toNat (x0,(x2.getD x1.toNat ((0:Int),(0:Int),false,false)).2)).set x1.toNat (((x2.set x1.toNat (x0,(x2.getD x1.toNat ((0:Int),(0:Int),false,false)).2)).getD x1.toNat ((0:Int),(0:Int),false,false)).1,IntKind.i64.wrap (x0+1),((x2.set x1.toNat (x0,(x2.getD x1.toNat ((0:Int),(0:Int),false,false)).2)).getD x1.toNat ((0:Int),(0:Int),false,false)).2.2)).getD x1.toNat ((0:Int),(0:Int),false,false)).1,(((x2.set x1.toNat (x0,(x2.getD x1.toNat ((0:Int),(0:Int),false,false)).2)).set x1.toNat (((x2.set x1.toNat (x0,(x2.getD x1.toNat ((0:Int),(0:Int),false,false)).2)).getD x1.toNat ((0:Int),(0:Int),false,false)).1,IntKind.i64.wrap (x0+1),((x2.set x1.toNat (x0,(x2.getD x1.toNat ((0:Int),(0:Int),false,false)).2)).getD x1.toNat ((0:Int),(0:Int),false,false)).2.2)).getD x1.toNat ((0:Int),(0:Int),false,false)).2.1,decide ((IntKind.i64.wrap (IntKind.i64.wrap (x0+1)+(1:Int))).tmod (3:Int)=(0:Int)),(((x2.set x1.toNat (x0,(x2.getD x1.toNat ((0:Int),(0:Int),false,false)).2)).set x1.toNat (((x2.set x1.toNat (x0,(x2.getD x1.toNat ((0:Int),(0:Int),false,false)).2)).getD x1.toNat ((0:Int),(0:Int),false,false)).1,IntKind.i64.wrap (x0+1),((x2.set x1.toNat (x0,(x2.getD x1.toNat ((0:Int),(0:Int),false,false)).2)).getD x1.toNat ((0:Int),(0:Int),false,false)).2.2)).getD x1.toNat ((0:Int),(0:Int),false,false)).2.2.2)).length:Int))) (lL2 (IntKind.i64.wrap (IntKind.i64.wrap (IntKind.i64.wrap (IntKind.i64.wrap (x0+1)+(1:Int))+(1:Int))+(1:Int))) (IntKind.i64.wrap (x1+1)) ((((x2.set x1.toNat (x0,(x2.getD x1.toNat ((0:Int),(0:Int),false,false)).2)).set x1.toNat (((x2.set x1.toNat (x0,(x2.getD x1.toNat ((0:Int),(0:Int),false,false)).2)).getD x1.toNat ((0:Int),(0:Int),false,false)).1,IntKind.i64.wrap (x0+1),((x2.set x1.toNat (x0,(x2.getD x1.toNat ((0:Int),(0:Int),false,false)).2)).getD x1.toNat ((0:Int),(0:Int),false,false)).2.2)).set x1.toNat ((((x2.set x1.toNat (x0,(x2.getD x1.toNat ((0:Int),(0:Int),false,false)).2)).set x1.toNat (((x2.set x1.toNat (x0,(x2.getD x1.toNat ((0:Int),(0:Int),false,false)).2)).getD x1.toNat ((0:Int),(0:Int),false,false)).1,IntKind.i64.wrap (x0+1),((x2.set x1.toNat (x0,(x2.getD x1.toNat ((0:Int),(0:Int),false,false)).2)).getD x1.toNat ((0:Int),(0:Int),false,false)).2.2)).getD x1.toNat ((0:Int),(0:Int),false,false)).1,(((x2.set x1.toNat (x0,(x2.getD x1.toNat ((0:Int),(0:Int),false,false)).2)).set x1.toNat (((x2.set x1.toNat (x0,(x2.getD x1.toNat ((0:Int),(0:Int),false,false)).2)).getD x1.toNat ((0:Int),(0:Int),false,false)).1,IntKind.i64.wrap (x0+1),((x2.set x1.toNat (x0,(x2.getD x1.toNat ((0:Int),(0:Int),false,false)).2)).getD x1.toNat ((0:Int),(0:Int),false,false)).2.2)).getD x1.toNat ((0:Int),(0:Int),false,false)).2.1,decide ((IntKind.i64.wrap (IntKind.i64.wrap (x0+1)+(1:Int))).tmod (3:Int)=(0:Int)),(((x2.set x1.toNat (x0,(x2.getD x1.toNat ((0:Int),(0:Int),false,false)).2)).set x1.toNat (((x2.set x1.toNat (x0,(x2.getD x1.toNat ((0:Int),(0:Int),false,false)).2)).getD x1.toNat ((0:Int),(0:Int),false,false)).1,IntKind.i64.wrap (x0+1),((x2.set x1.toNat (x0,(x2.getD x1.toNat ((0:Int),(0:Int),false,false)).2)).getD x1.toNat ((0:Int),(0:Int),false,false)).2.2)).getD x1.toNat ((0:Int),(0:Int),false,false)).2.2.2)).set x1.toNat (((((x2.set x1.toNat (x0,(x2.getD x1.toNat ((0:Int),(0:Int),false,false)).2)).set x1.toNat (((x2.set x1.toNat (x0,(x2.getD x1.toNat ((0:Int),(0:Int),false,false)).2)).getD x1.toNat ((0:Int),(0:Int),false,false)).1,IntKind.i64.wrap (x0+1),((x2.set x1.toNat (x0,(x2.getD x1.toNat ((0:Int),(0:Int),false,false)).2)).getD x1.toNat ((0:Int),(0:Int),false,false)).2.2)).set x1.toNat ((((x2.set x1.toNat (x0,(x2.getD x1.toNat ((0:Int),(0:Int),false,false)).2)).set x1.toNat (((x2.set x1.toNat (x0,(x2.getD x1.toNat ((0:Int),(0:Int),false,false)).2)).getD x1.toNat ((0:Int),(0:Int),false,false)).1,IntKind.i64.wrap (x0+1),((x2.set x1.toNat (x0,(x2.getD x1.toNat ((0:Int),(0:Int),false,false)).2)).getD x1.toNat ((0:Int),(0:Int),false,false)).2.2)).getD x1.toNat ((0:Int),(0:Int),false,false)).1,(((x2.set x1.toNat (x0,(x2.getD x1.toNat ((0:Int),(0:Int),false,false)).2)).set x1.toNat (((x2.set x1.toNat (x0,(x2.getD x1.toNat ((0:Int),(0:Int),false,false)).2)).getD x1.toNat ((0:Int),(0:Int),false,false)).1,IntKind.i64.wrap (x0+1),((x2.set x1.toNat (x0,(x2.getD x1.toNat ((0:Int),(0:Int),false,false)).2)).getD x1.toNat ((0:Int),(0:Int),false,false)).2.2)).getD x1.toNat ((0:Int),(0:Int),false,false)).2.1,decide ((IntKind.i64.wrap (IntKind.i64.wrap (x0+1)+(1:Int))).tmod (3:Int)=(0:Int)),(((x2.set x1.toNat (x0,(x2.getD x1.toNat ((0:Int),(0:Int),false,false)).2)).set x1.toNat (((x2.set x1.toNat (x0,(x2.getD x1.toNat ((0:Int),(0:Int),false,false)).2)).getD x1.toNat ((0:Int),(0:Int),false,false)).1,IntKind.i64.wrap (x0+1),((x2.set x1.toNat (x0,(x2.getD x1.toNat ((0:Int),(0:Int),false,false)).2)).getD x1.toNat ((0:Int),(0:Int),false,false)).2.2)).getD x1.toNat ((0:Int),(0:Int),false,false)).2.2.2)).getD x1.toNat ((0:Int),(0:Int),false,false)).1,((((x2.set x1.toNat (x0,(x2.getD x1.toNat ((0:Int),(0:Int),false,false)).2)).set x1.toNat (((x2.set x1.toNat (x0,(x2.getD x1.toNat ((0:Int),(0:Int),false,false)).2)).getD x1.toNat ((0:Int),(0:Int),false,false)).1,IntKind.i64.wrap (x0+1),((x2.set x1.toNat (x0,(x2.getD x1.toNat ((0:Int),(0:Int),false,false)).2)).getD x1.toNat ((0:Int),(0:Int),false,false)).2.2)).set x1.toNat ((((x2.set x1.toNat (x0,(x2.getD x1.toNat ((0:Int),(0:Int),false,false)).2)).set x1.toNat (((x2.set x1.toNat (x0,(x2.getD x1.toNat ((0:Int),(0:Int),false,false)).2)).getD x1.toNat ((0:Int),(0:Int),false,false)).1,IntKind.i64.wrap (x0+1),((x2.set x1.toNat (x0,(x2.getD x1.toNat ((0:Int),(0:Int),false,false)).2)).getD x1.toNat ((0:Int),(0:Int),false,false)).2.2)).getD x1.toNat ((0:Int),(0:Int),false,false)).1,(((x2.set x1.toNat (x0,(x2.getD x1.toNat ((0:Int),(0:Int),false,false)).2)).set x1.toNat (((x2.set x1.toNat (x0,(x2.getD x1.toNat ((0:Int),(0:Int),false,false)).2)).getD x1.toNat ((0:Int),(0:Int),false,false)).1,IntKind.i64.wrap (x0+1),((x2.set x1.toNat (x0,(x2.getD x1.toNat ((0:Int),(0:Int),false,false)).2)).getD x1.toNat ((0:Int),(0:Int),false,false)).2.2)).getD x1.toNat ((0:Int),(0:Int),false,false)).2.1,decide ((IntKind.i64.wrap (IntKind.i64.wrap (x0+1)+(1:Int))).tmod (3:Int)=(0:Int)),(((x2.set x1.toNat (x0,(x2.getD x1.toNat ((0:Int),(0:Int),false,false)).2)).set x1.toNat (((x2.set x1.toNat (x0,(x2.getD x1.toNat ((0:Int),(0:Int),false,false)).2)).getD x1.toNat ((0:Int),(0:Int),false,false)).1,IntKind.i64.wrap (x0+1),((x2.set x1.toNat (x0,(x2.getD x1.toNat ((0:Int),(0:Int),false,false)).2)).getD x1.toNat ((0:Int),(0:Int),false,false)).2.2)).getD x1.toNat ((0:Int),(0:Int),false,false)).2.2.2)).getD x1.toNat ((0:Int),(0:Int),false,false)).2.1,((((x2.set x1.toNat (x0,(x2.getD x1.toNat ((0:Int),(0:Int),false,false)).2)).set x1.toNat (((x2.set x1.toNat (x0,(x2.getD x1.toNat ((0:Int),(0:Int),false,false)).2)).getD x1.toNat ((0:Int),(0:Int),false,false)).1,IntKind.i64.wrap (x0+1),((x2.set x1.toNat (x0,(x2.getD x1.toNat ((0:Int),(0:Int),false,false)).2)).getD x1.toNat ((0:Int),(0:Int),false,false)).2.2)).set x1.toNat ((((x2.set x1.toNat (x0,(x2.getD x1.toNat ((0:Int),(0:Int),false,false)).2)).set x1.toNat (((x2.set x1.toNat (x0,(x2.getD x1.toNat ((0:Int),(0:Int),false,false)).2)).getD x1.toNat ((0:Int),(0:Int),false,false)).1,IntKind.i64.wrap (x0+1),((x2.set x1.toNat (x0,(x2.getD x1.toNat ((0:Int),(0:Int),false,false)).2)).getD x1.toNat ((0:Int),(0:Int),false,false)).2.2)).getD x1.toNat ((0:Int),(0:Int),false,false)).1,(((x2.set x1.toNat (x0,(x2.getD x1.toNat ((0:Int),(0:Int),false,false)).2)).set x1.toNat (((x2.set x1.toNat (x0,(x2.getD x1.toNat ((0:Int),(0:Int),false,false)).2)).getD x1.toNat ((0:Int),(0:Int),false,false)).1,IntKind.i64.wrap (x0+1),((x2.set x1.toNat (x0,(x2.getD x1.toNat ((0:Int),(0:Int),false,false)).2)).getD x1.toNat ((0:Int),(0:Int),false,false)).2.2)).getD x1.toNat ((0:Int),(0:Int),false,false)).2.1,decide ((IntKind.i64.wrap (IntKind.i64.wrap (x0+1)+(1:Int))).tmod (3:Int)=(0:Int)),(((x2.set x1.toNat (x0,(x2.getD x1.toNat ((0:Int),(0:Int),false,false)).2)).set x1.toNat (((x2.set x1.toNat (x0,(x2.getD x1.toNat ((0:Int),(0:Int),false,false)).2)).getD x1.toNat ((0:Int),(0:Int),false,false)).1,IntKind.i64.wrap (x0+1),((x2.set x1.toNat (x0,(x2.getD x1.toNat ((0:Int),(0:Int),false,false)).2)).getD x1.toNat ((0:Int),(0:Int),false,false)).2.2)).getD x1.toNat ((0:Int),(0:Int),false,false)).2.2.2)).getD x1.toNat ((0:Int),(0:Int),false,false)).2.2.1,decide ((IntKind.i64.wrap (IntKind.i64.wrap (IntKind.i64.wrap (x0+1)+(1:Int))+(1:Int))).tmod (3:Int)=(0:Int))))) none) none) none) none) none) none) none) none) (some ((x0,()),(x2,())))
theorem e148_top(n:Nat)(a:Lq)(b:Int):runF TT G148 an148 Try.f148 c148 ps148 rs148 n (a,b,())=st148_top n (fun x0 x1 x2=>at148 n (.head 2) [n] (zgr x0 x1 x2)) a b:=by kernel_rfl
theorem e148_L2_0(n:Nat)(x0 x1:Int)(x2:Lq):at148 n (.head 2) [0] (zgr x0 x1 x2)=none:=by kernel_rfl
theorem e148_L2(n:Nat)(m2:Nat)(x0 x1:Int)(x2:Lq):at148 n (.head 2) [m2+1] (zgr x0 x1 x2)=zdx n (fun x0 x1 x2=>at148 n (.head 2) [m2] (zgr x0 x1 x2)) x0 x1 x2:=by kernel_rfl
noncomputable def ze8(n:Nat):Nat→Int→Int→Lq→Option R148
 | 0,_,_,_=>none
 | m+1,x0,x1,x2=>zdx n (ze8 n m) x0 x1 x2
noncomputable def p148(n:Nat)(a:Lq)(b:Int):Option R148:=st148_top n (ze8 n n) a b
theorem t148_L2(n:Nat):∀ (m2:Nat) (x0 x1:Int) (x2:Lq),at148 n (.head 2) [m2] (zgr x0 x1 x2)=ze8 n m2 x0 x1 x2:=by
 intro m
 induction m with
 | zero=>intros;rw[e148_L2_0];rfl
 | succ m ih =>
  intros
  rw[e148_L2]
  try simp only[ih]
  rfl
noncomputable def q148(n:Nat)(x:argsD ps148):Option R148:=p148 n x.1 x.2.1
noncomputable def Sm148:Sm:=⟨ps148,rs148,false,q148⟩
theorem gam148:GamOK Try.prog G148:=fun _ _ h=>by cases h
theorem hh148:Hp 148 Sm148:=hOf (zac (an:=an148) (c:=c148) tt_ok gam148 mixed Try.func148 (by kernel_rfl) rfl (by decide +kernel)) fun n x=>(e148_top n x.1 x.2.1).trans (by simp only[t148_L2];try rfl)
theorem y148:Gk 148 Sm148:=⟨⟨Try.f148,c148,Try.func148,by kernel_rfl,by decide +kernel⟩,hh148⟩
noncomputable def c100:Code:=(Try.f100.body.getD .skip)
def an100:An:=⟨fun r=>match r with | 2=>⟨[0,1,5],[]⟩ | _=>⟨[],[]⟩,fun _ _=>none⟩
abbrev ps100:List PK:=[.io (.row 71 (tSp 116 80)) false,.val i64 false]
abbrev rs100:List RK:=[.val i64 false]
abbrev R100:=retsD rs100×outsD ps100
noncomputable def G100:Gam:=fun f=>match f with | 131=>some Sm131 | 148=>some Sm148 | _=>none
noncomputable def at100:Nat→Pt→List Nat→St→Option R100:=atF TT G100 an100 Try.f100 c100 _ _
def zhb(x0 x1:Int)(x2:List (Br)):St:=(St.mk ([AV.par 0 false [Sr 1000000],Ai x0,Uu,Uu,Uu,Ai x1]++Ur 30) [(1000000,Er ⟨71,ySp,x2⟩)])
noncomputable def st100_top(n:Nat)(lL2:Int→Int→(List (Br))→Option R100)(a:List (Br))(b:Int):Option R100 :=
 lL2 b (0:Int) a
noncomputable def zee(n:Nat)(lL2:Int→Int→(List (Br))→Option R100)(x0 x1:Int)(x2:List (Br)):Option R100 :=
 cond (decide (x1<(↑x2.length:Int))) (cond (decide (0≤x1)) (cond (decide (x1<(↑x2.length:Int))) (cond (decide (0≤x1)) (cond (decide (x1<(↑(x2.set x1.toNat (decide (x0.tmod (3:Int)=(0:Int)),(x2.getD x1.toNat (false,[],[])).2)).length:Int))) ((q131 n (((x2.set x1.toNat (decide (x0.tmod (3:Int)=(0:Int)),(x2.getD x1.toNat (false,[],[])).2)).getD x1.toNat (false,[],[])).2.1,IntKind.i64.wrap (x0+1),())).bind fun r1=>cond (decide (0≤x1)) (cond (decide (x1<(↑((x2.set x1.toNat (decide (x0.tmod (3:Int)=(0:Int)),(x2.getD x1.toNat (false,[],[])).2)).set x1.toNat (((x2.set x1.toNat (decide (x0.tmod (3:Int)=(0:Int)),(x2.getD x1.toNat (false,[],[])).2)).getD x1.toNat (false,[],[])).1,r1.2.1,((x2.set x1.toNat (decide (x0.tmod (3:Int)=(0:Int)),(x2.getD x1.toNat (false,[],[])).2)).getD x1.toNat (false,[],[])).2.2)).length:Int))) ((q148 n ((((x2.set x1.toNat (decide (x0.tmod (3:Int)=(0:Int)),(x2.getD x1.toNat (false,[],[])).2)).set x1.toNat (((x2.set x1.toNat (decide (x0.tmod (3:Int)=(0:Int)),(x2.getD x1.toNat (false,[],[])).2)).getD x1.toNat (false,[],[])).1,r1.2.1,((x2.set x1.toNat (decide (x0.tmod (3:Int)=(0:Int)),(x2.getD x1.toNat (false,[],[])).2)).getD x1.toNat (false,[],[])).2.2)).getD x1.toNat (false,[],[])).2.2,r1.1.1,())).bind fun r2=>lL2 r2.1.1 (IntKind.i64.wrap (x1+1)) (((x2.set x1.toNat (decide (x0.tmod (3:Int)=(0:Int)),(x2.getD x1.toNat (false,[],[])).2)).set x1.toNat (((x2.set x1.toNat (decide (x0.tmod (3:Int)=(0:Int)),(x2.getD x1.toNat (false,[],[])).2)).getD x1.toNat (false,[],[])).1,r1.2.1,((x2.set x1.toNat (decide (x0.tmod (3:Int)=(0:Int)),(x2.getD x1.toNat (false,[],[])).2)).getD x1.toNat (false,[],[])).2.2)).set x1.toNat ((((x2.set x1.toNat (decide (x0.tmod (3:Int)=(0:Int)),(x2.getD x1.toNat (false,[],[])).2)).set x1.toNat (((x2.set x1.toNat (decide (x0.tmod (3:Int)=(0:Int)),(x2.getD x1.toNat (false,[],[])).2)).getD x1.toNat (false,[],[])).1,r1.2.1,((x2.set x1.toNat (decide (x0.tmod (3:Int)=(0:Int)),(x2.getD x1.toNat (false,[],[])).2)).getD x1.toNat (false,[],[])).2.2)).getD x1.toNat (false,[],[])).1,(((x2.set x1.toNat (decide (x0.tmod (3:Int)=(0:Int)),(x2.getD x1.toNat (false,[],[])).2)).set x1.toNat (((x2.set x1.toNat (decide (x0.tmod (3:Int)=(0:Int)),(x2.getD x1.toNat (false,[],[])).2)).getD x1.toNat (false,[],[])).1,r1.2.1,((x2.set x1.toNat (decide (x0.tmod (3:Int)=(0:Int)),(x2.getD x1.toNat (false,[],[])).2)).getD x1.toNat (false,[],[])).2.2)).getD x1.toNat (false,[],[])).2.1,r2.2.1))) none) none) none) none) none) none) (some ((x0,()),(x2,())))
theorem e100_top(n:Nat)(a:List (Br))(b:Int):runF TT G100 an100 Try.f100 c100 ps100 rs100 n (a,b,())=st100_top n (fun x0 x1 x2=>at100 n (.head 2) [n] (zhb x0 x1 x2)) a b:=by kernel_rfl
theorem e100_L2_0(n:Nat)(x0 x1:Int)(x2:List (Br)):at100 n (.head 2) [0] (zhb x0 x1 x2)=none:=by kernel_rfl
theorem e100_L2(n:Nat)(m2:Nat)(x0 x1:Int)(x2:List (Br)):at100 n (.head 2) [m2+1] (zhb x0 x1 x2)=zee n (fun x0 x1 x2=>at100 n (.head 2) [m2] (zhb x0 x1 x2)) x0 x1 x2:=by kernel_rfl
noncomputable def p100_L2(n:Nat):Nat→Int→Int→(List (Br))→Option R100
 | 0,_,_,_=>none
 | m+1,x0,x1,x2=>zee n (p100_L2 n m) x0 x1 x2
noncomputable def p100(n:Nat)(a:List (Br))(b:Int):Option R100:=st100_top n (p100_L2 n n) a b
theorem t100_L2(n:Nat):∀ (m2:Nat) (x0 x1:Int) (x2:List (Br)),at100 n (.head 2) [m2] (zhb x0 x1 x2)=p100_L2 n m2 x0 x1 x2:=by
 intro m
 induction m with
 | zero=>intros;rw[e100_L2_0];rfl
 | succ m ih =>
  intros
  rw[e100_L2]
  try simp only[ih]
  rfl
noncomputable def q100(n:Nat)(x:argsD ps100):Option R100:=p100 n x.1 x.2.1
noncomputable def Sm100:Sm:=⟨ps100,rs100,false,q100⟩
theorem gam100:GamOK Try.prog G100:=by intro f s h;unfold G100 at h;split at h;exact gj h y131;exact gj h y148;cases h
theorem hh100:Hp 100 Sm100:=hOf (zac (an:=an100) (c:=c100) tt_ok gam100 mixed Try.func100 (by kernel_rfl) rfl (by decide +kernel)) fun n x=>(e100_top n x.1 x.2.1).trans (by simp only[t100_L2];try rfl)
theorem y100:Gk 100 Sm100:=⟨⟨Try.f100,c100,Try.func100,by kernel_rfl,by decide +kernel⟩,hh100⟩
noncomputable def c32:Code:=(Try.f32.body.getD .skip)
def an32:An:=⟨fun _=>⟨[],[]⟩,fun _ _=>none⟩
abbrev ps32:List PK:=[.io tMem true,.val i64 false]
abbrev rs32:List RK:=[.val i64 false]
abbrev R32:=retsD rs32×outsD ps32
noncomputable def G32:Gam:=fun f=>match f with | 99=>some Sm99 | 100=>some Sm100 | _=>none
noncomputable def zi8(n:Nat)(a:Mm)(b:Int):Option R32 :=
 (q99 n ((a.1.1,a.1.2),b,())).bind fun r0=>(q99 n ((a.2.1.1,a.2.1.2),r0.1.1,())).bind fun r1=>(q100 n (a.2.2.1,r1.1.1,())).bind fun r2=>some ((r2.1.1,()),(((r0.2.1.1,r0.2.1.2),((r1.2.1.1,r1.2.1.2),(r2.2.1,a.2.2.2))),()))
theorem e32_top(n:Nat)(a:Mm)(b:Int):runF TT G32 an32 Try.f32 c32 ps32 rs32 n (a,b,())=zi8 n a b:=by kernel_rfl
noncomputable def p32(n:Nat)(a:Mm)(b:Int):Option R32:=zi8 n a b
noncomputable def q32(n:Nat)(x:argsD ps32):Option R32:=p32 n x.1 x.2.1
noncomputable def Sm32:Sm:=⟨ps32,rs32,false,q32⟩
theorem gam32:GamOK Try.prog G32:=by intro f s h;unfold G32 at h;split at h;exact gj h y99;exact gj h y100;cases h
theorem hh32:Hp 32 Sm32:=hOf (zac (an:=an32) (c:=c32) tt_ok gam32 mixed Try.func32 (by kernel_rfl) rfl (by decide +kernel)) fun n x=>(e32_top n x.1 x.2.1).trans rfl
theorem y32:Gk 32 Sm32:=⟨⟨Try.f32,c32,Try.func32,by kernel_rfl,by decide +kernel⟩,hh32⟩
noncomputable def c135:Code:=(Try.f135.body.getD .skip)
def an135:An:=⟨fun r=>match r with | 2=>⟨[0,1,5],[]⟩ | _=>⟨[],[]⟩,fun _ _=>none⟩
abbrev ps135:List PK:=[.val (.row 3 i64) false,.val i64 false]
abbrev rs135:List RK:=[.val i64 false]
abbrev R135:=retsD rs135×outsD ps135
noncomputable def G135:Gam:=fun _=>none
noncomputable def at135:Nat→Pt→List Nat→St→Option R135:=atF TT G135 an135 Try.f135 c135 _ _
def zgz(x0:Li)(x1 x2:Int):St:=(St.mk ([AV.one (SV.con (⟨3,Ty.int .i64,x0⟩:Rw)),Ai x1,Uu,Uu,Uu,Ai x2]++Ur 15) [])
noncomputable def st135_top(n:Nat)(lL2:Li→Int→Int→Option R135)(a:Li)(b:Int):Option R135 :=
 lL2 a b (0:Int)
noncomputable def zd5(n:Nat)(lL2:Li→Int→Int→Option R135)(x0:Li)(x1 x2:Int):Option R135 :=
 cond (decide (x2<(↑x0.length:Int))) (cond (decide (0≤x2)) (cond (decide (x2<(↑x0.length:Int))) (cond (!decide (x0.getD x2.toNat (0:Int)=x1)) (some (((-1:Int),()),())) (lL2 x0 (IntKind.i64.wrap (x1+1)) (IntKind.i64.wrap (x2+1)))) none) none) (some ((x1,()),()))
theorem e135_top(n:Nat)(a:Li)(b:Int):runF TT G135 an135 Try.f135 c135 ps135 rs135 n (a,b,())=st135_top n (fun x0 x1 x2=>at135 n (.head 2) [n] (zgz x0 x1 x2)) a b:=by kernel_rfl
theorem e135_L2_0(n:Nat)(x0:Li)(x1 x2:Int):at135 n (.head 2) [0] (zgz x0 x1 x2)=none:=by kernel_rfl
theorem e135_L2(n:Nat)(m2:Nat)(x0:Li)(x1 x2:Int):at135 n (.head 2) [m2+1] (zgz x0 x1 x2)=zd5 n (fun x0 x1 x2=>at135 n (.head 2) [m2] (zgz x0 x1 x2)) x0 x1 x2:=by kernel_rfl
noncomputable def zfe(n:Nat):Nat→Li→Int→Int→Option R135
 | 0,_,_,_=>none
 | m+1,x0,x1,x2=>zd5 n (zfe n m) x0 x1 x2
noncomputable def p135(n:Nat)(a:Li)(b:Int):Option R135:=st135_top n (zfe n n) a b
theorem t135_L2(n:Nat):∀ (m2:Nat) (x0:Li) (x1 x2:Int),at135 n (.head 2) [m2] (zgz x0 x1 x2)=zfe n m2 x0 x1 x2:=by
 intro m
 induction m with
 | zero=>intros;rw[e135_L2_0];rfl
 | succ m ih =>
  intros
  rw[e135_L2]
  try simp only[ih]
  rfl
noncomputable def q135(n:Nat)(x:argsD ps135):Option R135:=p135 n x.1 x.2.1
noncomputable def Sm135:Sm:=⟨ps135,rs135,false,q135⟩
theorem gam135:GamOK Try.prog G135:=fun _ _ h=>by cases h
theorem hh135:Hp 135 Sm135:=hOf (zac (an:=an135) (c:=c135) tt_ok gam135 mixed Try.func135 (by kernel_rfl) rfl (by decide +kernel)) fun n x=>(e135_top n x.1 x.2.1).trans (by simp only[t135_L2];try rfl)
theorem y135:Gk 135 Sm135:=⟨⟨Try.f135,c135,Try.func135,by kernel_rfl,by decide +kernel⟩,hh135⟩
noncomputable def c136:Code:=(Try.f136.body.getD .skip)
def an136:An:=⟨fun r=>match r with | 2=>⟨[0,1,5],[]⟩ | _=>⟨[],[]⟩,fun _ _=>none⟩
abbrev ps136:List PK:=[.val (.row 9 .str) false,.val i64 false]
abbrev rs136:List RK:=[.val i64 false]
abbrev R136:=retsD rs136×outsD ps136
noncomputable def G136:Gam:=fun f=>match f with | 164=>some Sm164 | _=>none
noncomputable def at136:Nat→Pt→List Nat→St→Option R136:=atF TT G136 an136 Try.f136 c136 _ _
def zgy(x0:Lb)(x1 x2:Int):St:=(St.mk ([AV.one (SV.con (⟨9,Ty.str,x0⟩:Rw)),Ai x1,Uu,Uu,Uu,Ai x2]++Ur 16) [])
noncomputable def st136_top(n:Nat)(lL2:Lb→Int→Int→Option R136)(a:Lb)(b:Int):Option R136 :=
 lL2 a b (0:Int)
noncomputable def zd4(n:Nat)(lL2:Lb→Int→Int→Option R136)(x0:Lb)(x1 x2:Int):Option R136 :=
 cond (decide (x2<(↑x0.length:Int))) (cond (decide (0≤x2)) (cond (decide (x2<(↑x0.length:Int))) ((q164 n (x1,())).bind fun r1=>cond (!ByteArray.toList (x0.getD x2.toNat ByteArray.empty) == ByteArray.toList r1.1.1) (some (((-1:Int),()),())) (lL2 x0 (IntKind.i64.wrap (x1+1)) (IntKind.i64.wrap (x2+1)))) none) none) (some ((x1,()),()))
theorem e136_top(n:Nat)(a:Lb)(b:Int):runF TT G136 an136 Try.f136 c136 ps136 rs136 n (a,b,())=st136_top n (fun x0 x1 x2=>at136 n (.head 2) [n] (zgy x0 x1 x2)) a b:=by kernel_rfl
theorem e136_L2_0(n:Nat)(x0:Lb)(x1 x2:Int):at136 n (.head 2) [0] (zgy x0 x1 x2)=none:=by kernel_rfl
theorem e136_L2(n:Nat)(m2:Nat)(x0:Lb)(x1 x2:Int):at136 n (.head 2) [m2+1] (zgy x0 x1 x2)=zd4 n (fun x0 x1 x2=>at136 n (.head 2) [m2] (zgy x0 x1 x2)) x0 x1 x2:=by kernel_rfl
noncomputable def zfd(n:Nat):Nat→Lb→Int→Int→Option R136
 | 0,_,_,_=>none
 | m+1,x0,x1,x2=>zd4 n (zfd n m) x0 x1 x2
noncomputable def p136(n:Nat)(a:Lb)(b:Int):Option R136:=st136_top n (zfd n n) a b
theorem t136_L2(n:Nat):∀ (m2:Nat) (x0:Lb) (x1 x2:Int),at136 n (.head 2) [m2] (zgy x0 x1 x2)=zfd n m2 x0 x1 x2:=by
 intro m
 induction m with
 | zero=>intros;rw[e136_L2_0];rfl
 | succ m ih =>
  intros
  rw[e136_L2]
  try simp only[ih]
  rfl
noncomputable def q136(n:Nat)(x:argsD ps136):Option R136:=p136 n x.1 x.2.1
noncomputable def Sm136:Sm:=⟨ps136,rs136,false,q136⟩
theorem gam136:GamOK Try.prog G136:=by intro f s h;unfold G136 at h;split at h;exact gj h y164;cases h
theorem hh136:Hp 136 Sm136:=hOf (zac (an:=an136) (c:=c136) tt_ok gam136 mixed Try.func136 (by kernel_rfl) rfl (by decide +kernel)) fun n x=>(e136_top n x.1 x.2.1).trans (by simp only[t136_L2];try rfl)
theorem y136:Gk 136 Sm136:=⟨⟨Try.f136,c136,Try.func136,by kernel_rfl,by decide +kernel⟩,hh136⟩
noncomputable def c101:Code:=(Try.f101.body.getD .skip)
def an101:An:=⟨fun _=>⟨[],[]⟩,fun _ _=>none⟩
abbrev ps101:List PK:=[.val tPg true,.val i64 false]
abbrev rs101:List RK:=[.val i64 false]
abbrev R101:=retsD rs101×outsD ps101
noncomputable def G101:Gam:=fun f=>match f with | 135=>some Sm135 | 136=>some Sm136 | _=>none
noncomputable def zgf(n:Nat)(a:Lb×Li)(b:Int):Option R101 :=
 (q136 n (a.1,b,())).bind fun r0=>cond (decide (r0.1.1<(0:Int))) (some (((-1:Int),()),())) ((q135 n (a.2,r0.1.1,())).bind fun r1=>cond (decide (r1.1.1<(0:Int))) (some (((-1:Int),()),())) (some ((r1.1.1,()),())))
theorem e101_top(n:Nat)(a:Lb×Li)(b:Int):runF TT G101 an101 Try.f101 c101 ps101 rs101 n (a,b,())=zgf n a b:=by kernel_rfl
noncomputable def p101(n:Nat)(a:Lb×Li)(b:Int):Option R101:=zgf n a b
noncomputable def q101(n:Nat)(x:argsD ps101):Option R101:=p101 n x.1 x.2.1
noncomputable def Sm101:Sm:=⟨ps101,rs101,false,q101⟩
theorem gam101:GamOK Try.prog G101:=by intro f s h;unfold G101 at h;split at h;exact gj h y135;exact gj h y136;cases h
theorem hh101:Hp 101 Sm101:=hOf (zac (an:=an101) (c:=c101) tt_ok gam101 mixed Try.func101 (by kernel_rfl) rfl (by decide +kernel)) fun n x=>(e101_top n x.1 x.2.1).trans rfl
theorem y101:Gk 101 Sm101:=⟨⟨Try.f101,c101,Try.func101,by kernel_rfl,by decide +kernel⟩,hh101⟩
noncomputable def c134:Code:=(Try.f134.body.getD .skip)
def an134:An:=⟨fun r=>match r with | 2=>⟨[0,1,5],[]⟩ | _=>⟨[],[]⟩,fun _ _=>none⟩
abbrev ps134:List PK:=[.val (.row 116 tAr) false,.val i64 false]
abbrev rs134:List RK:=[.val i64 false]
abbrev R134:=retsD rs134×outsD ps134
noncomputable def G134:Gam:=fun _=>none
noncomputable def at134:Nat→Pt→List Nat→St→Option R134:=atF TT G134 an134 Try.f134 c134 _ _
def zg0(x0:Lq)(x1 x2:Int):St:=(St.mk ([AV.one (SV.con (⟨116,yAq,x0⟩:Rw)),Ai x1,Uu,Uu,Uu,Ai x2]++Ur 47) [])
noncomputable def st134_top(n:Nat)(lL2:Lq→Int→Int→Option R134)(a:Lq)(b:Int):Option R134 :=
 lL2 a b (0:Int)
noncomputable def zd6(n:Nat)(lL2:Lq→Int→Int→Option R134)(x0:Lq)(x1 x2:Int):Option R134 :=
 cond (decide (x2<(↑x0.length:Int))) (cond (decide (0≤x2)) (cond (decide (x2<(↑x0.length:Int))) (cond (!decide ((x0.getD x2.toNat ((0:Int),(0:Int),false,false)).1=x1)) (some (((-1:Int),()),())) (cond (decide (0≤x2)) (cond (decide (x2<(↑x0.length:Int))) (cond (!decide ((x0.getD x2.toNat ((0:Int),(0:Int),false,false)).2.1=IntKind.i64.wrap (x1+1))) (some (((-1:Int),()),())) (cond (decide (0≤x2)) (cond (decide (x2<(↑x0.length:Int))) (cond (!(x0.getD x2.toNat ((0:Int),(0:Int),false,false)).2.2.1 == decide ((IntKind.i64.wrap (IntKind.i64.wrap (x1+1)+(1:Int))).tmod (3:Int)=(0:Int))) (some (((-1:Int),()),())) (cond (decide (0≤x2)) (cond (decide (x2<(↑x0.length:Int))) (cond (!(x0.getD x2.toNat ((0:Int),(0:Int),false,false)).2.2.2 == decide ((IntKind.i64.wrap (IntKind.i64.wrap (IntKind.i64.wrap (x1+1)+(1:Int))+(1:Int))).tmod (3:Int)=(0:Int))) (some (((-1:Int),()),())) (lL2 x0 (IntKind.i64.wrap (IntKind.i64.wrap (IntKind.i64.wrap (IntKind.i64.wrap (x1+1)+(1:Int))+(1:Int))+(1:Int))) (IntKind.i64.wrap (x2+1)))) none) none)) none) none)) none) none)) none) none) (some ((x1,()),()))
theorem e134_top(n:Nat)(a:Lq)(b:Int):runF TT G134 an134 Try.f134 c134 ps134 rs134 n (a,b,())=st134_top n (fun x0 x1 x2=>at134 n (.head 2) [n] (zg0 x0 x1 x2)) a b:=by kernel_rfl
theorem e134_L2_0(n:Nat)(x0:Lq)(x1 x2:Int):at134 n (.head 2) [0] (zg0 x0 x1 x2)=none:=by kernel_rfl
theorem e134_L2(n:Nat)(m2:Nat)(x0:Lq)(x1 x2:Int):at134 n (.head 2) [m2+1] (zg0 x0 x1 x2)=zd6 n (fun x0 x1 x2=>at134 n (.head 2) [m2] (zg0 x0 x1 x2)) x0 x1 x2:=by kernel_rfl
noncomputable def zff(n:Nat):Nat→Lq→Int→Int→Option R134
 | 0,_,_,_=>none
 | m+1,x0,x1,x2=>zd6 n (zff n m) x0 x1 x2
noncomputable def p134(n:Nat)(a:Lq)(b:Int):Option R134:=st134_top n (zff n n) a b
theorem t134_L2(n:Nat):∀ (m2:Nat) (x0:Lq) (x1 x2:Int),at134 n (.head 2) [m2] (zg0 x0 x1 x2)=zff n m2 x0 x1 x2:=by
 intro m
 induction m with
 | zero=>intros;rw[e134_L2_0];rfl
 | succ m ih =>
  intros
  rw[e134_L2]
  try simp only[ih]
  rfl
noncomputable def q134(n:Nat)(x:argsD ps134):Option R134:=p134 n x.1 x.2.1
noncomputable def Sm134:Sm:=⟨ps134,rs134,false,q134⟩
theorem gam134:GamOK Try.prog G134:=fun _ _ h=>by cases h
theorem hh134:Hp 134 Sm134:=hOf (zac (an:=an134) (c:=c134) tt_ok gam134 mixed Try.func134 (by kernel_rfl) rfl (by decide +kernel)) fun n x=>(e134_top n x.1 x.2.1).trans (by simp only[t134_L2];try rfl)
theorem y134:Gk 134 Sm134:=⟨⟨Try.f134,c134,Try.func134,by kernel_rfl,by decide +kernel⟩,hh134⟩
noncomputable def c149:Code:=(Try.f149.body.getD .skip)
def an149:An:=⟨fun r=>match r with | 2=>⟨[0,1,5],[]⟩ | _=>⟨[],[]⟩,fun _ _=>none⟩
abbrev ps149:List PK:=[.val (.row 80 tSl) false,.val i64 false]
abbrev rs149:List RK:=[.val i64 false]
abbrev R149:=retsD rs149×outsD ps149
noncomputable def G149:Gam:=fun _=>none
noncomputable def at149:Nat→Pt→List Nat→St→Option R149:=atF TT G149 an149 Try.f149 c149 _ _
def zgq(x0:Lq)(x1 x2:Int):St:=(St.mk ([AV.one (SV.con (⟨80,yAq,x0⟩:Rw)),Ai x1,Uu,Uu,Uu,Ai x2]++Ur 47) [])
noncomputable def st149_top(n:Nat)(lL2:Lq→Int→Int→Option R149)(a:Lq)(b:Int):Option R149 :=
 lL2 a b (0:Int)
noncomputable def zdw(n:Nat)(lL2:Lq→Int→Int→Option R149)(x0:Lq)(x1 x2:Int):Option R149 :=
 cond (decide (x2<(↑x0.length:Int))) (cond (decide (0≤x2)) (cond (decide (x2<(↑x0.length:Int))) (cond (!decide ((x0.getD x2.toNat ((0:Int),(0:Int),false,false)).1=x1)) (some (((-1:Int),()),())) (cond (decide (0≤x2)) (cond (decide (x2<(↑x0.length:Int))) (cond (!decide ((x0.getD x2.toNat ((0:Int),(0:Int),false,false)).2.1=IntKind.i64.wrap (x1+1))) (some (((-1:Int),()),())) (cond (decide (0≤x2)) (cond (decide (x2<(↑x0.length:Int))) (cond (!(x0.getD x2.toNat ((0:Int),(0:Int),false,false)).2.2.1 == decide ((IntKind.i64.wrap (IntKind.i64.wrap (x1+1)+(1:Int))).tmod (3:Int)=(0:Int))) (some (((-1:Int),()),())) (cond (decide (0≤x2)) (cond (decide (x2<(↑x0.length:Int))) (cond (!(x0.getD x2.toNat ((0:Int),(0:Int),false,false)).2.2.2 == decide ((IntKind.i64.wrap (IntKind.i64.wrap (IntKind.i64.wrap (x1+1)+(1:Int))+(1:Int))).tmod (3:Int)=(0:Int))) (some (((-1:Int),()),())) (lL2 x0 (IntKind.i64.wrap (IntKind.i64.wrap (IntKind.i64.wrap (IntKind.i64.wrap (x1+1)+(1:Int))+(1:Int))+(1:Int))) (IntKind.i64.wrap (x2+1)))) none) none)) none) none)) none) none)) none) none) (some ((x1,()),()))
theorem e149_top(n:Nat)(a:Lq)(b:Int):runF TT G149 an149 Try.f149 c149 ps149 rs149 n (a,b,())=st149_top n (fun x0 x1 x2=>at149 n (.head 2) [n] (zgq x0 x1 x2)) a b:=by kernel_rfl
theorem e149_L2_0(n:Nat)(x0:Lq)(x1 x2:Int):at149 n (.head 2) [0] (zgq x0 x1 x2)=none:=by kernel_rfl
theorem e149_L2(n:Nat)(m2:Nat)(x0:Lq)(x1 x2:Int):at149 n (.head 2) [m2+1] (zgq x0 x1 x2)=zdw n (fun x0 x1 x2=>at149 n (.head 2) [m2] (zgq x0 x1 x2)) x0 x1 x2:=by kernel_rfl
noncomputable def ze7(n:Nat):Nat→Lq→Int→Int→Option R149
 | 0,_,_,_=>none
 | m+1,x0,x1,x2=>zdw n (ze7 n m) x0 x1 x2
noncomputable def p149(n:Nat)(a:Lq)(b:Int):Option R149:=st149_top n (ze7 n n) a b
theorem t149_L2(n:Nat):∀ (m2:Nat) (x0:Lq) (x1 x2:Int),at149 n (.head 2) [m2] (zgq x0 x1 x2)=ze7 n m2 x0 x1 x2:=by
 intro m
 induction m with
 | zero=>intros;rw[e149_L2_0];rfl
 | succ m ih =>
  intros
  rw[e149_L2]
  try simp only[ih]
  rfl
noncomputable def q149(n:Nat)(x:argsD ps149):Option R149:=p149 n x.1 x.2.1
noncomputable def Sm149:Sm:=⟨ps149,rs149,false,q149⟩
theorem gam149:GamOK Try.prog G149:=fun _ _ h=>by cases h
theorem hh149:Hp 149 Sm149:=hOf (zac (an:=an149) (c:=c149) tt_ok gam149 mixed Try.func149 (by kernel_rfl) rfl (by decide +kernel)) fun n x=>(e149_top n x.1 x.2.1).trans (by simp only[t149_L2];try rfl)
theorem y149:Gk 149 Sm149:=⟨⟨Try.f149,c149,Try.func149,by kernel_rfl,by decide +kernel⟩,hh149⟩
noncomputable def c102:Code:=(Try.f102.body.getD .skip)
def an102:An:=⟨fun r=>match r with | 2=>⟨[0,1,5],[]⟩ | _=>⟨[],[]⟩,fun _ _=>none⟩
abbrev ps102:List PK:=[.val (.row 71 (tSp 116 80)) false,.val i64 false]
abbrev rs102:List RK:=[.val i64 false]
abbrev R102:=retsD rs102×outsD ps102
noncomputable def G102:Gam:=fun f=>match f with | 134=>some Sm134 | 149=>some Sm149 | _=>none
noncomputable def at102:Nat→Pt→List Nat→St→Option R102:=atF TT G102 an102 Try.f102 c102 _ _
def zha(x0:List (Br))(x1 x2:Int):St:=(St.mk ([AV.one (SV.con (⟨71,ySp,x0⟩:Rw)),Ai x1,Uu,Uu,Uu,Ai x2]++Ur 36) [])
noncomputable def st102_top(n:Nat)(lL2:(List (Br))→Int→Int→Option R102)(a:List (Br))(b:Int):Option R102 :=
 lL2 a b (0:Int)
noncomputable def zed(n:Nat)(lL2:(List (Br))→Int→Int→Option R102)(x0:List (Br))(x1 x2:Int):Option R102 :=
 cond (decide (x2<(↑x0.length:Int))) (cond (decide (0≤x2)) (cond (decide (x2<(↑x0.length:Int))) (cond (!(x0.getD x2.toNat (false,[],[])).1 == decide (x1.tmod (3:Int)=(0:Int))) (some (((-1:Int),()),())) (cond (decide (0≤x2)) (cond (decide (x2<(↑x0.length:Int))) ((q134 n ((x0.getD x2.toNat (false,[],[])).2.1,IntKind.i64.wrap (x1+1),())).bind fun r1=>cond (decide (r1.1.1<(0:Int))) (some (((-1:Int),()),())) (cond (decide (0≤x2)) (cond (decide (x2<(↑x0.length:Int))) ((q149 n ((x0.getD x2.toNat (false,[],[])).2.2,r1.1.1,())).bind fun r2=>cond (decide (r2.1.1<(0:Int))) (some (((-1:Int),()),())) (lL2 x0 r2.1.1 (IntKind.i64.wrap (x2+1)))) none) none)) none) none)) none) none) (some ((x1,()),()))
theorem e102_top(n:Nat)(a:List (Br))(b:Int):runF TT G102 an102 Try.f102 c102 ps102 rs102 n (a,b,())=st102_top n (fun x0 x1 x2=>at102 n (.head 2) [n] (zha x0 x1 x2)) a b:=by kernel_rfl
theorem e102_L2_0(n:Nat)(x0:List (Br))(x1 x2:Int):at102 n (.head 2) [0] (zha x0 x1 x2)=none:=by kernel_rfl
theorem e102_L2(n:Nat)(m2:Nat)(x0:List (Br))(x1 x2:Int):at102 n (.head 2) [m2+1] (zha x0 x1 x2)=zed n (fun x0 x1 x2=>at102 n (.head 2) [m2] (zha x0 x1 x2)) x0 x1 x2:=by kernel_rfl
noncomputable def p102_L2(n:Nat):Nat→(List (Br))→Int→Int→Option R102
 | 0,_,_,_=>none
 | m+1,x0,x1,x2=>zed n (p102_L2 n m) x0 x1 x2
noncomputable def p102(n:Nat)(a:List (Br))(b:Int):Option R102:=st102_top n (p102_L2 n n) a b
theorem t102_L2(n:Nat):∀ (m2:Nat) (x0:List (Br)) (x1 x2:Int),at102 n (.head 2) [m2] (zha x0 x1 x2)=p102_L2 n m2 x0 x1 x2:=by
 intro m
 induction m with
 | zero=>intros;rw[e102_L2_0];rfl
 | succ m ih =>
  intros
  rw[e102_L2]
  try simp only[ih]
  rfl
noncomputable def q102(n:Nat)(x:argsD ps102):Option R102:=p102 n x.1 x.2.1
noncomputable def Sm102:Sm:=⟨ps102,rs102,false,q102⟩
theorem gam102:GamOK Try.prog G102:=by intro f s h;unfold G102 at h;split at h;exact gj h y134;exact gj h y149;cases h
theorem hh102:Hp 102 Sm102:=hOf (zac (an:=an102) (c:=c102) tt_ok gam102 mixed Try.func102 (by kernel_rfl) rfl (by decide +kernel)) fun n x=>(e102_top n x.1 x.2.1).trans (by simp only[t102_L2];try rfl)
theorem y102:Gk 102 Sm102:=⟨⟨Try.f102,c102,Try.func102,by kernel_rfl,by decide +kernel⟩,hh102⟩
noncomputable def c33:Code:=(Try.f33.body.getD .skip)
def an33:An:=⟨fun _=>⟨[],[]⟩,fun _ _=>none⟩
abbrev ps33:List PK:=[.val tMem true,.val i64 false]
abbrev rs33:List RK:=[.val i64 false]
abbrev R33:=retsD rs33×outsD ps33
noncomputable def G33:Gam:=fun f=>match f with | 101=>some Sm101 | 102=>some Sm102 | _=>none
noncomputable def zi7(n:Nat)(a:Mm)(b:Int):Option R33 :=
 (q101 n ((a.1.1,a.1.2),b,())).bind fun r0=>cond (decide (r0.1.1<(0:Int))) (some (((-1:Int),()),())) ((q101 n ((a.2.1.1,a.2.1.2),r0.1.1,())).bind fun r1=>cond (decide (r1.1.1<(0:Int))) (some (((-1:Int),()),())) ((q102 n (a.2.2.1,r1.1.1,())).bind fun r2=>cond (decide (r2.1.1<(0:Int))) (some (((-1:Int),()),())) (some ((r2.1.1,()),()))))
theorem e33_top(n:Nat)(a:Mm)(b:Int):runF TT G33 an33 Try.f33 c33 ps33 rs33 n (a,b,())=zi7 n a b:=by kernel_rfl
noncomputable def p33(n:Nat)(a:Mm)(b:Int):Option R33:=zi7 n a b
noncomputable def q33(n:Nat)(x:argsD ps33):Option R33:=p33 n x.1 x.2.1
noncomputable def Sm33:Sm:=⟨ps33,rs33,false,q33⟩
theorem gam33:GamOK Try.prog G33:=by intro f s h;unfold G33 at h;split at h;exact gj h y101;exact gj h y102;cases h
theorem hh33:Hp 33 Sm33:=hOf (zac (an:=an33) (c:=c33) tt_ok gam33 mixed Try.func33 (by kernel_rfl) rfl (by decide +kernel)) fun n x=>(e33_top n x.1 x.2.1).trans rfl
theorem y33:Gk 33 Sm33:=⟨⟨Try.f33,c33,Try.func33,by kernel_rfl,by decide +kernel⟩,hh33⟩
noncomputable def c6:Code:=(Try.f6.body.getD .skip)
def an6:An:=⟨fun _=>⟨[],[]⟩,fun _ _=>none⟩
abbrev ps6:List PK:=[.val tLm true]
abbrev rs6:List RK:=[.val .bool false]
abbrev R6:=retsD rs6×outsD ps6
noncomputable def G6:Gam:=fun f=>match f with | 27=>some Sm27 | 28=>some Sm28 | 29=>some Sm29 | 30=>some Sm30 | 31=>some Sm31 | 32=>some Sm32 | 33=>some Sm33 | _=>none
noncomputable def st6_top(n:Nat)(a:Mm):Option R6 :=
 (q27 n (((a.1.1,a.1.2),(a.2.1.1,a.2.1.2),a.2.2.1,a.2.2.2),(1048576:Int),())).bind fun r0=>cond (decide (r0.1.1<(0:Int))) (some ((true,()),())) ((q29 n (((a.1.1,a.1.2),(a.2.1.1,a.2.1.2),a.2.2.1,a.2.2.2),())).bind fun r1=>(q28 n (((r1.1.1.1.1,r1.1.1.1.2),(r1.1.1.2.1.1,r1.1.1.2.1.2),r1.1.1.2.2.1,r1.1.1.2.2.2),())).bind fun r2=>(q29 n (((a.1.1,a.1.2),(a.2.1.1,a.2.1.2),a.2.2.1,a.2.2.2),())).bind fun r3=>(q30 n (((r3.1.1.1.1,r3.1.1.1.2),(r3.1.1.2.1.1,r3.1.1.2.1.2),r3.1.1.2.2.1,r3.1.1.2.2.2),())).bind fun r4=>(q31 n (((r4.1.1.1.1,r4.1.1.1.2),(r4.1.1.2.1.1,r4.1.1.2.1.2),r4.1.1.2.2.1,r4.1.1.2.2.2),((r2.1.1.1.1,r2.1.1.1.2),(r2.1.1.2.1.1,r2.1.1.2.1.2),r2.1.1.2.2.1,r2.1.1.2.2.2),())).bind fun r5=>cond (!r5.1.1) (some ((false,()),())) (cond (!decide (r4.1.2.1=r2.1.2.1)) (some ((false,()),())) (cond (!r4.1.2.2.1 == r2.1.2.2.1) (some ((false,()),())) ((q29 n (((a.1.1,a.1.2),(a.2.1.1,a.2.1.2),a.2.2.1,a.2.2.2),())).bind fun r6=>(q31 n (((r3.1.1.1.1,r3.1.1.1.2),(r3.1.1.2.1.1,r3.1.1.2.1.2),r3.1.1.2.2.1,r3.1.1.2.2.2),((r6.1.1.1.1,r6.1.1.1.2),(r6.1.1.2.1.1,r6.1.1.2.1.2),r6.1.1.2.2.1,r6.1.1.2.2.2),())).bind fun r7=>cond (!r7.1.1) (some ((false,()),())) ((q32 n (((r3.1.1.1.1,r3.1.1.1.2),(r3.1.1.2.1.1,r3.1.1.2.1.2),r3.1.1.2.2.1,r3.1.1.2.2.2),(1:Int),())).bind fun r8=>cond (decide (r8.1.1<(0:Int))) (some ((false,()),())) ((q31 n (((r4.1.1.1.1,r4.1.1.1.2),(r4.1.1.2.1.1,r4.1.1.2.1.2),r4.1.1.2.2.1,r4.1.1.2.2.2),((r2.1.1.1.1,r2.1.1.1.2),(r2.1.1.2.1.1,r2.1.1.2.1.2),r2.1.1.2.2.1,r2.1.1.2.2.2),())).bind fun r9=>cond (!r9.1.1) (some ((false,()),())) (cond (!decide (r4.1.2.1=r2.1.2.1)) (some ((false,()),())) (cond (!r4.1.2.2.1 == r2.1.2.2.1) (some ((false,()),())) ((q32 n (((r4.1.1.1.1,r4.1.1.1.2),(r4.1.1.2.1.1,r4.1.1.2.1.2),r4.1.1.2.2.1,r4.1.1.2.2.2),(1:Int),())).bind fun r10=>(q33 n (((r10.2.1.1.1,r10.2.1.1.2),(r10.2.1.2.1.1,r10.2.1.2.1.2),r10.2.1.2.2.1,r4.1.1.2.2.2),(1:Int),())).bind fun r11=>cond (decide (r11.1.1<(0:Int))) (some ((false,()),())) (cond (!decide (r11.1.1=r10.1.1)) (some ((false,()),())) ((q29 n (((a.1.1,a.1.2),(a.2.1.1,a.2.1.2),a.2.2.1,a.2.2.2),())).bind fun r12=>(q30 n (((r12.1.1.1.1,r12.1.1.1.2),(r12.1.1.2.1.1,r12.1.1.2.1.2),r12.1.1.2.2.1,r12.1.1.2.2.2),())).bind fun r13=>(q31 n (((r13.1.1.1.1,r13.1.1.1.2),(r13.1.1.2.1.1,r13.1.1.2.1.2),r13.1.1.2.2.1,r13.1.1.2.2.2),((r2.1.1.1.1,r2.1.1.1.2),(r2.1.1.2.1.1,r2.1.1.2.1.2),r2.1.1.2.2.1,r2.1.1.2.2.2),())).bind fun r14=>cond (!r14.1.1) (some ((false,()),())) (cond (!decide (r13.1.2.1=r2.1.2.1)) (some ((false,()),())) (cond (!r13.1.2.2.1 == r2.1.2.2.1) (some ((false,()),())) ((q33 n (((r10.2.1.1.1,r10.2.1.1.2),(r10.2.1.2.1.1,r10.2.1.2.1.2),r10.2.1.2.2.1,r4.1.1.2.2.2),(1:Int),())).bind fun r15=>cond (decide (r15.1.1<(0:Int))) (some ((false,()),())) (cond (!decide (r15.1.1=r10.1.1)) (some ((false,()),())) (some ((true,()),())))))))))))))))))
theorem e6_top(n:Nat)(a:Mm):runF TT G6 an6 Try.f6 c6 ps6 rs6 n (a,())=st6_top n a:=by kernel_rfl
noncomputable def p6(n:Nat)(a:Mm):Option R6:=st6_top n a
noncomputable def q6(n:Nat)(x:argsD ps6):Option R6:=p6 n x.1
noncomputable def Sm6:Sm:=⟨ps6,rs6,false,q6⟩
theorem gam6:GamOK Try.prog G6:=by intro f s h;unfold G6 at h;split at h;exact gj h y27;exact gj h y28;exact gj h y29;exact gj h y30;exact gj h y31;exact gj h y32;exact gj h y33;cases h
theorem hh6:Hp 6 Sm6:=hOf (zac (an:=an6) (c:=c6) tt_ok gam6 mixed Try.func6 (by kernel_rfl) rfl (by decide +kernel)) fun n x=>(e6_top n x.1).trans rfl
noncomputable def c8:Code:=(Try.f8.body.getD .skip)
def an8:An:=⟨fun _=>⟨[],[]⟩,fun _ _=>none⟩
abbrev ps8:List PK:=[.val tLm true,.val i64 false]
abbrev rs8:List RK:=[.val .bool false]
abbrev R8:=retsD rs8×outsD ps8
noncomputable def G8:Gam:=fun f=>match f with | 27=>some Sm27 | 29=>some Sm29 | 31=>some Sm31 | 32=>some Sm32 | 33=>some Sm33 | 35=>some Sm35 | 36=>some Sm36 | _=>none
noncomputable def st8_top(n:Nat)(a:Mm)(b:Int):Option R8 :=
 (q27 n (((a.1.1,a.1.2),(a.2.1.1,a.2.1.2),a.2.2.1,a.2.2.2),(1048576:Int),())).bind fun r0=>cond (decide (r0.1.1<(0:Int))) (some ((true,()),())) ((q29 n (((a.1.1,a.1.2),(a.2.1.1,a.2.1.2),a.2.2.1,a.2.2.2),())).bind fun r1=>(q36 n (((r1.1.1.1.1,r1.1.1.1.2),(r1.1.1.2.1.1,r1.1.1.2.1.2),r1.1.1.2.2.1,r1.1.1.2.2.2),b,())).bind fun r2=>(q29 n (((a.1.1,a.1.2),(a.2.1.1,a.2.1.2),a.2.2.1,a.2.2.2),())).bind fun r3=>(q35 n (((r3.1.1.1.1,r3.1.1.1.2),(r3.1.1.2.1.1,r3.1.1.2.1.2),r3.1.1.2.2.1,r3.1.1.2.2.2),b,())).bind fun r4=>(q31 n (((r4.1.1.1.1,r4.1.1.1.2),(r4.1.1.2.1.1,r4.1.1.2.1.2),r4.1.1.2.2.1,r4.1.1.2.2.2),((r2.1.1.1.1,r2.1.1.1.2),(r2.1.1.2.1.1,r2.1.1.2.1.2),r2.1.1.2.2.1,r2.1.1.2.2.2),())).bind fun r5=>cond (!r5.1.1) (some ((false,()),())) (cond (!r4.1.2.1 == r2.1.2.1) (some ((false,()),())) ((q29 n (((a.1.1,a.1.2),(a.2.1.1,a.2.1.2),a.2.2.1,a.2.2.2),())).bind fun r6=>(q31 n (((r3.1.1.1.1,r3.1.1.1.2),(r3.1.1.2.1.1,r3.1.1.2.1.2),r3.1.1.2.2.1,r3.1.1.2.2.2),((r6.1.1.1.1,r6.1.1.1.2),(r6.1.1.2.1.1,r6.1.1.2.1.2),r6.1.1.2.2.1,r6.1.1.2.2.2),())).bind fun r7=>cond (!r7.1.1) (some ((false,()),())) ((q32 n (((r3.1.1.1.1,r3.1.1.1.2),(r3.1.1.2.1.1,r3.1.1.2.1.2),r3.1.1.2.2.1,r3.1.1.2.2.2),(1:Int),())).bind fun r8=>cond (decide (r8.1.1<(0:Int))) (some ((false,()),())) ((q31 n (((r4.1.1.1.1,r4.1.1.1.2),(r4.1.1.2.1.1,r4.1.1.2.1.2),r4.1.1.2.2.1,r4.1.1.2.2.2),((r2.1.1.1.1,r2.1.1.1.2),(r2.1.1.2.1.1,r2.1.1.2.1.2),r2.1.1.2.2.1,r2.1.1.2.2.2),())).bind fun r9=>cond (!r9.1.1) (some ((false,()),())) (cond (!r4.1.2.1 == r2.1.2.1) (some ((false,()),())) ((q32 n (((r4.1.1.1.1,r4.1.1.1.2),(r4.1.1.2.1.1,r4.1.1.2.1.2),r4.1.1.2.2.1,r4.1.1.2.2.2),(1:Int),())).bind fun r10=>(q33 n (((r10.2.1.1.1,r10.2.1.1.2),(r10.2.1.2.1.1,r10.2.1.2.1.2),r10.2.1.2.2.1,r4.1.1.2.2.2),(1:Int),())).bind fun r11=>cond (decide (r11.1.1<(0:Int))) (some ((false,()),())) (cond (!decide (r11.1.1=r10.1.1)) (some ((false,()),())) ((q29 n (((a.1.1,a.1.2),(a.2.1.1,a.2.1.2),a.2.2.1,a.2.2.2),())).bind fun r12=>(q35 n (((r12.1.1.1.1,r12.1.1.1.2),(r12.1.1.2.1.1,r12.1.1.2.1.2),r12.1.1.2.2.1,r12.1.1.2.2.2),b,())).bind fun r13=>(q31 n (((r13.1.1.1.1,r13.1.1.1.2),(r13.1.1.2.1.1,r13.1.1.2.1.2),r13.1.1.2.2.1,r13.1.1.2.2.2),((r2.1.1.1.1,r2.1.1.1.2),(r2.1.1.2.1.1,r2.1.1.2.1.2),r2.1.1.2.2.1,r2.1.1.2.2.2),())).bind fun r14=>cond (!r14.1.1) (some ((false,()),())) (cond (!r13.1.2.1 == r2.1.2.1) (some ((false,()),())) ((q33 n (((r10.2.1.1.1,r10.2.1.1.2),(r10.2.1.2.1.1,r10.2.1.2.1.2),r10.2.1.2.2.1,r4.1.1.2.2.2),(1:Int),())).bind fun r15=>cond (decide (r15.1.1<(0:Int))) (some ((false,()),())) (cond (!decide (r15.1.1=r10.1.1)) (some ((false,()),())) (some ((true,()),()))))))))))))))
theorem e8_top(n:Nat)(a:Mm)(b:Int):runF TT G8 an8 Try.f8 c8 ps8 rs8 n (a,b,())=st8_top n a b:=by kernel_rfl
noncomputable def p8(n:Nat)(a:Mm)(b:Int):Option R8:=st8_top n a b
noncomputable def q8(n:Nat)(x:argsD ps8):Option R8:=p8 n x.1 x.2.1
noncomputable def Sm8:Sm:=⟨ps8,rs8,false,q8⟩
theorem gam8:GamOK Try.prog G8:=by intro f s h;unfold G8 at h;split at h;exact gj h y27;exact gj h y29;exact gj h y31;exact gj h y32;exact gj h y33;exact gj h y35;exact gj h y36;cases h
theorem hh8:Hp 8 Sm8:=hOf (zac (an:=an8) (c:=c8) tt_ok gam8 mixed Try.func8 (by kernel_rfl) rfl (by decide +kernel)) fun n x=>(e8_top n x.1 x.2.1).trans rfl
end Go.Proofs.Ytdkaagpkeomhmaa.Rx.S
