/- What the functions of this seat compute, each as a plain function on lists and numbers, with the proof that a call answers so. No condition. -/
import Derived.WalkKit
import Derived.Deep.LoopGhost
import Derived.Lib.Walk
import Derived.Test.YtdkaagpkeomhmaaHF0
set_option linter.unusedVariables false
set_option linter.unusedSimpArgs false
namespace Go.Proofs.Ytdkaagpkeomhmaa.Rx.S
open Go Go.RowKit Go.Proofs
set_option maxRecDepth 100000
noncomputable def c46:Code:=(Try.f46.body.getD .skip)
def an46:An:=⟨fun r=>match r with|5=>⟨[0,2,3,6],[]⟩|9=>⟨[0,2,3,7],[]⟩|_=>⟨[],[]⟩,fun _ _=>none⟩
abbrev ps46:List PK:=[.bx tRd]
abbrev rs46:List RK:=[.own tMem true]
abbrev R46:=zak rs46×zaj ps46
noncomputable def G46:Gam:=fun f=>match f with|28=>some Sm28|48=>some Sm48|107=>some ynu|108=>some ygu|109=>some ygt|110=>some ynt|111=>some yns|_=>none
noncomputable def at46:Nat→Pt→List Nat→St→Option R46:=atF TT G46 an46 Try.f46 c46 _ _
def zie(x0:Int)(x1:Li)(x2 x3 x4:Int)(x5:Lb)(x6:Li)(x7:Lb)(x8:Li)(x9:List (Br)):St:=(St.mk ([AV.par 0 false [SV.bptr 1000000 0],Uu,AV.one (SV.bptr 1000001 0),AV.one (SV.bptr 1000002 0),Uu,Uu,Uu,Ai x0]++Ur 115) [(1000000,(Ent.box [SV.con (⟨5,Ty.int IntKind.u8,x1⟩:Rw),Si x2])),(1000001,(Ent.box [SV.nil,SV.nil,SV.nil,SV.nil,SV.nil,Si x3])),(1000002,(Ent.box [Sr 1000003,Sr 1000004,Sr 1000005,Sr 1000006,Sr 1000007,Si x4])),(1000003,Er ⟨9,Ty.str,x5⟩),(1000004,Er ⟨3,Ty.int .i64,x6⟩),(1000005,Er ⟨9,Ty.str,x7⟩),(1000006,Er ⟨3,Ty.int .i64,x8⟩),(1000007,Er ⟨71,ySp,x9⟩)])
def zk0(x0:Int)(x1:Li)(x2 x3 x4:Int)(x5:Lb)(x6:Li)(x7:Lb)(x8:Li)(x9:List (Br)):St:=(St.mk ([AV.par 0 false [SV.bptr 1000000 0],Uu,AV.one (SV.bptr 1000001 0),AV.one (SV.bptr 1000002 0),Uu,Uu,Ai x0]++Ur 116) [(1000000,(Ent.box [SV.con (⟨5,Ty.int IntKind.u8,x1⟩:Rw),Si x2])),(1000001,(Ent.box [SV.nil,SV.nil,SV.nil,SV.nil,SV.nil,Si x3])),(1000002,(Ent.box [Sr 1000003,Sr 1000004,Sr 1000005,Sr 1000006,Sr 1000007,Si x4])),(1000003,Er ⟨9,Ty.str,x5⟩),(1000004,Er ⟨3,Ty.int .i64,x6⟩),(1000005,Er ⟨9,Ty.str,x7⟩),(1000006,Er ⟨3,Ty.int .i64,x8⟩),(1000007,Er ⟨71,ySp,x9⟩)])
noncomputable def zjp(n:Nat)(lL5:Int→Li→Int→Int→Int→Lb→Li→Lb→Li→(List (Br))→Option R46)(lL9:Int→Li→Int→Int→Int→Lb→Li→Lb→Li→(List (Br))→Option R46)(a:Li×Int):Option R46 :=
 (q107 n ()).bind fun r0=>(q28 n (((r0.1.1.1.1,r0.1.1.1.2),(r0.1.1.2.1.1,r0.1.1.2.1.2),r0.1.1.2.2.1,r0.1.1.2.2.2),())).bind fun r1=>(q48 n ((a.1,a.2),(2:Int),())).bind fun r2=>cond (decide (r2.1.1=(0:Int))) ((q48 n ((r2.2.1.1,r2.2.1.2),(9:Int),())).bind fun r3=>(q48 n ((r3.2.1.1,r3.2.1.2),(3:Int),())).bind fun r4=>(q108 n (((r1.1.1.1.1,r1.1.1.1.2),(r1.1.1.2.1.1,r1.1.1.2.1.2),r1.1.1.2.2.1,r1.1.1.2.2.2),(0:Int),((0:Int),IntKind.i64.wrap ((8:Int)+r3.1.1),true,decide (r4.1.1=(0:Int))),())).bind fun r5=>(q48 n ((r4.2.1.1,r4.2.1.2),(16:Int),())).bind fun r6=>lL5 r6.1.1 r6.2.1.1 r6.2.1.2 (0:Int) r5.1.1.2.2.2 r5.1.1.1.1 r5.1.1.1.2 r5.1.1.2.1.1 r5.1.1.2.1.2 r5.1.1.2.2.1) ((q48 n ((r2.2.1.1,r2.2.1.2),(30:Int),())).bind fun r22=>lL9 r22.1.1 r22.2.1.1 r22.2.1.2 (0:Int) r1.1.1.2.2.2 r1.1.1.1.1 r1.1.1.1.2 r1.1.1.2.1.1 r1.1.1.2.1.2 r1.1.1.2.2.1)
noncomputable def zh5(n:Nat)(lL9:Int→Li→Int→Int→Int→Lb→Li→Lb→Li→(List (Br))→Option R46)(x0:Int)(x1:Li)(x2 x3 x4:Int)(x5:Lb)(x6:Li)(x7:Lb)(x8:Li)(x9:List (Br)):Option R46 :=
 cond (decide (0<x0)) ((q110 n ((x1,x2),((x5,x6),(x7,x8),x9,x4),())).bind fun r11=>lL9 (IntKind.i64.wrap (x0 - 1)) r11.2.1.1 r11.2.1.2 x3 r11.1.1.2.2.2 r11.1.1.1.1 r11.1.1.1.2 r11.1.1.2.1.1 r11.1.1.2.1.2 r11.1.1.2.2.1) ((q48 n ((x1,x2),(24:Int),())).bind fun r12=>cond (decide (r12.1.1=(0:Int))) ((q48 n ((r12.2.1.1,r12.2.1.2),(3:Int),())).bind fun r13=>cond (decide ((0:Int)≤r13.1.1)) (cond (decide (r13.1.1<(↑[(-1:Int),(12:Int),(3:Int)].length:Int))) (some ((((x5,x6),((x7,x8),(x9,[(-1:Int),(12:Int),(3:Int)].getD (Int.toNat r13.1.1) (0:Int)))),()),((r13.2.1.1,r13.2.1.2),()))) none) none) (cond (decide (r12.1.1=(1:Int))) ((q48 n ((r12.2.1.1,r12.2.1.2),(12:Int),())).bind fun r14=>(q48 n ((r14.2.1.1,r14.2.1.2),(3:Int),())).bind fun r15=>cond (decide ((0:Int)≤r14.1.1)) (cond (decide (r14.1.1<(↑x6.length:Int))) (some ((((x5,x6.set (Int.toNat r14.1.1) r15.1.1),((x7,x8),(x9,x4))),()),((r15.2.1.1,r15.2.1.2),()))) none) none) (cond (decide (r12.1.1=(2:Int))) (cond (decide ((0:Int)<(↑x9.length:Int))) (cond ((x9.getD (Int.toNat (0:Int)) (false,[],[])).1) (cond (decide ((0:Int)<(↑x9.length:Int))) ((q48 n ((r12.2.1.1,r12.2.1.2),(16:Int),())).bind fun r16=>(q48 n ((r16.2.1.1,r16.2.1.2),(4:Int),())).bind fun r17=>(q48 n ((r17.2.1.1,r17.2.1.2),(14:Int),())).bind fun r18=>(q48 n ((r18.2.1.1,r18.2.1.2),(2:Int),())).bind fun r19=>(q48 n ((r19.2.1.1,r19.2.1.2),(2:Int),())).bind fun r20=>cond (decide ((0:Int)≤r16.1.1)) (cond (decide (r16.1.1<(↑(List.length (x9.getD (Int.toNat (0:Int)) (false,[],[])).2.2):Int))) (some ((((x5,x6),((x7,x8),(x9.set (Int.toNat (0:Int)) ((x9.getD (Int.toNat (0:Int)) (false,[],[])).1,(x9.getD (Int.toNat (0:Int)) (false,[],[])).2.1,List.set (x9.getD (Int.toNat (0:Int)) (false,[],[])).2.2 (Int.toNat r16.1.1) (r17.1.1,IntKind.i64.wrap (r18.1.1 - (1:Int)),decide (r19.1.1=(0:Int)),decide (r20.1.1=(0:Int)))),x4))),()),((r20.2.1.1,r20.2.1.2),()))) none) none) none) (some ((((x5,x6),((x7,x8),(x9,x4))),()),((r12.2.1.1,r12.2.1.2),())))) none) (cond (decide (r12.1.1=(3:Int))) (cond (decide ((1:Int)≤(↑x9.length:Int))) (some ((((x5,x6),((x7,x8),(List.take ((↑x9.length:Int) - (1:Int)).toNat (List.drop ((0:Nat)+Int.toNat (1:Int)) x9),x4))),()),((r12.2.1.1,r12.2.1.2),()))) none) (cond (decide (r12.1.1=(4:Int))) (cond (decide ((1:Int)<(↑x9.length:Int))) ((q111 n ((r12.2.1.1,r12.2.1.2),())).bind fun r21=>cond (decide ((List.length (x9.getD (Int.toNat (1:Int)) (false,[],[])).2.1+[(r21.1.1.1,r21.1.1.2.1,r21.1.1.2.2.1,r21.1.1.2.2.2)].length)*(24:Nat)≤(140737488355328:Nat))) (cond (decide ((1:Int)<(↑x9.length:Int))) (some ((((x5,x6),((x7,x8),(x9.set (Int.toNat (1:Int)) ((x9.getD (Int.toNat (1:Int)) (false,[],[])).1,(x9.getD (Int.toNat (1:Int)) (false,[],[])).2.1++[(r21.1.1.1,r21.1.1.2.1,r21.1.1.2.2.1,r21.1.1.2.2.2)],(x9.getD (Int.toNat (1:Int)) (false,[],[])).2.2),x4))),()),((r21.2.1.1,r21.2.1.2),()))) none) none) none) (some ((((x5,x6),((x7,x8),(x9,x4))),()),((r12.2.1.1,r12.2.1.2),()))))))))
noncomputable def zh6(n:Nat)(lL5:Int→Li→Int→Int→Int→Lb→Li→Lb→Li→(List (Br))→Option R46)(lL9:Int→Li→Int→Int→Int→Lb→Li→Lb→Li→(List (Br))→Option R46)(x0:Int)(x1:Li)(x2 x3 x4:Int)(x5:Lb)(x6:Li)(x7:Lb)(x8:Li)(x9:List (Br)):Option R46 :=
 cond (decide (0<x0)) ((q109 n (((x5,x6),(x7,x8),x9,x4),(0:Int),IntKind.i64.wrap (IntKind.i64.wrap (x0*4) - (1:Int)),IntKind.i64.wrap ((1:Int)+x0),())).bind fun r8=>lL5 (IntKind.i64.wrap (x0 - 1)) x1 x2 x3 r8.1.1.2.2.2 r8.1.1.1.1 r8.1.1.1.2 r8.1.1.2.1.1 r8.1.1.2.1.2 r8.1.1.2.2.1) ((q48 n ((x1,x2),(30:Int),())).bind fun r9=>lL9 r9.1.1 r9.2.1.1 r9.2.1.2 x3 x4 x5 x6 x7 x8 x9)
theorem ylf(n:Nat)(a:Li×Int):runF TT G46 an46 Try.f46 c46 ps46 rs46 n (a,())=zjp n (fun x0 x1 x2 x3 x4 x5 x6 x7 x8 x9=>at46 n (.head 5) [n] (zk0 x0 x1 x2 x3 x4 x5 x6 x7 x8 x9)) (fun x0 x1 x2 x3 x4 x5 x6 x7 x8 x9=>at46 n (.head 9) [n] (zie x0 x1 x2 x3 x4 x5 x6 x7 x8 x9)) a:=by kernel_rfl
theorem ye0(n:Nat)(x0:Int)(x1:Li)(x2 x3 x4:Int)(x5:Lb)(x6:Li)(x7:Lb)(x8:Li)(x9:List (Br)):at46 n (.head 9) [0] (zie x0 x1 x2 x3 x4 x5 x6 x7 x8 x9)=none:=by kernel_rfl
theorem yq6(n m9:Nat)(x0:Int)(x1:Li)(x2 x3 x4:Int)(x5:Lb)(x6:Li)(x7:Lb)(x8:Li)(x9:List (Br)):at46 n (.head 9) [m9+1] (zie x0 x1 x2 x3 x4 x5 x6 x7 x8 x9)=zh5 n (fun x0 x1 x2 x3 x4 x5 x6 x7 x8 x9=>at46 n (.head 9) [m9] (zie x0 x1 x2 x3 x4 x5 x6 x7 x8 x9)) x0 x1 x2 x3 x4 x5 x6 x7 x8 x9:=by kernel_rfl
theorem ye1(n:Nat)(x0:Int)(x1:Li)(x2 x3 x4:Int)(x5:Lb)(x6:Li)(x7:Lb)(x8:Li)(x9:List (Br)):at46 n (.head 5) [0] (zk0 x0 x1 x2 x3 x4 x5 x6 x7 x8 x9)=none:=by kernel_rfl
theorem yq7(n m5:Nat)(x0:Int)(x1:Li)(x2 x3 x4:Int)(x5:Lb)(x6:Li)(x7:Lb)(x8:Li)(x9:List (Br)):at46 n (.head 5) [m5+1] (zk0 x0 x1 x2 x3 x4 x5 x6 x7 x8 x9)=zh6 n (fun x0 x1 x2 x3 x4 x5 x6 x7 x8 x9=>at46 n (.head 5) [m5] (zk0 x0 x1 x2 x3 x4 x5 x6 x7 x8 x9)) (fun x0 x1 x2 x3 x4 x5 x6 x7 x8 x9=>at46 n (.head 9) [n] (zie x0 x1 x2 x3 x4 x5 x6 x7 x8 x9)) x0 x1 x2 x3 x4 x5 x6 x7 x8 x9:=by kernel_rfl
noncomputable def znv(n:Nat):Nat→Int→Li→Int→Int→Int→Lb→Li→Lb→Li→(List (Br))→Option R46
 |0,_,_,_,_,_,_,_,_,_,_=>none
 |m+1,x0,x1,x2,x3,x4,x5,x6,x7,x8,x9=>zh5 n (znv n m) x0 x1 x2 x3 x4 x5 x6 x7 x8 x9
noncomputable def zrb(n:Nat):Nat→Int→Li→Int→Int→Int→Lb→Li→Lb→Li→(List (Br))→Option R46
 |0,_,_,_,_,_,_,_,_,_,_=>none
 |m+1,x0,x1,x2,x3,x4,x5,x6,x7,x8,x9=>zh6 n (zrb n m) (znv n n) x0 x1 x2 x3 x4 x5 x6 x7 x8 x9
noncomputable def p46(n:Nat)(a:Li×Int):Option R46:=zjp n (zrb n n) (znv n n) a
theorem yg1(n:Nat):∀ (m9:Nat) (x0:Int) (x1:Li) (x2 x3 x4:Int) (x5:Lb) (x6:Li) (x7:Lb) (x8:Li) (x9:List (Br)),at46 n (.head 9) [m9] (zie x0 x1 x2 x3 x4 x5 x6 x7 x8 x9)=znv n m9 x0 x1 x2 x3 x4 x5 x6 x7 x8 x9:=by
 intro m
 induction m with
 |zero=>intros;rw[ye0];rfl
 |succ m ih =>
  intros;rw[yq6]
  try simp only[ih]
  rfl
theorem yoe(n:Nat):∀ (m5:Nat) (x0:Int) (x1:Li) (x2 x3 x4:Int) (x5:Lb) (x6:Li) (x7:Lb) (x8:Li) (x9:List (Br)),at46 n (.head 5) [m5] (zk0 x0 x1 x2 x3 x4 x5 x6 x7 x8 x9)=zrb n m5 x0 x1 x2 x3 x4 x5 x6 x7 x8 x9:=by
 intro m
 induction m with
 |zero=>intros;rw[ye1];rfl
 |succ m ih =>
  intros;rw[yq7]
  try simp only[yg1,ih]
  rfl
noncomputable def q46(n:Nat)(x:zan ps46):Option R46:=p46 n x.1
noncomputable def Sm46:Sm:=⟨ps46,rs46,true,q46⟩
theorem gam46:GamOK Try.prog G46:=by intro f s h;unfold G46 at h;split at h;exact gj h y28;exact gj h y48;exact gj h y107;exact gj h y108;exact gj h y109;exact gj h y110;exact gj h y111;cases h
theorem hh46:Hp 46 Sm46:=hOf (zaf (an:=an46) (c:=c46) zax gam46 zaw Try.func46 (by kernel_rfl) rfl (by decide +kernel)) fun n x=>(ylf n x.1).trans (by simp only[yoe,yg1];try rfl)
theorem y46:Gk 46 Sm46:=⟨⟨Try.f46,c46,Try.func46,by kernel_rfl,by decide +kernel⟩,hh46⟩
noncomputable def c59:Code:=(Try.f59.body.getD .skip)
def an59:An:=⟨fun _=>⟨[],[]⟩,fun _ _=>none⟩
abbrev ps59:List PK:=[.val i64 false,.val i64 false,.val i64 false]
abbrev rs59:List RK:=[.val .bool false]
abbrev R59:=zak rs59×zaj ps59
noncomputable def G59:Gam:=fun _=>none
noncomputable def zjh(n:Nat)(a b c:Int):Option R59 :=
 cond (decide (b≤a)) (some ((decide (a≤c),()),())) (some ((false,()),()))
theorem yk2(n:Nat)(a b c:Int):runF TT G59 an59 Try.f59 c59 ps59 rs59 n (a,b,c,())=zjh n a b c:=by kernel_rfl
noncomputable def p59(n:Nat)(a b c:Int):Option R59:=zjh n a b c
noncomputable def q59(n:Nat)(x:zan ps59):Option R59:=p59 n x.1 x.2.1 x.2.2.1
noncomputable def Sm59:Sm:=⟨ps59,rs59,false,q59⟩
theorem gam59:GamOK Try.prog G59:=fun _ _ h=>by cases h
theorem hh59:Hp 59 Sm59:=hOf (zaf (an:=an59) (c:=c59) zax gam59 zaw Try.func59 (by kernel_rfl) rfl (by decide +kernel)) fun n x=>(yk2 n x.1 x.2.1 x.2.2.1).trans rfl
theorem y59:Gk 59 Sm59:=⟨⟨Try.f59,c59,Try.func59,by kernel_rfl,by decide +kernel⟩,hh59⟩
noncomputable def c114:Code:=(Try.f114.body.getD .skip)
def yry:An:=⟨fun _=>⟨[],[]⟩,fun _ _=>none⟩
abbrev ydl:List PK:=[.val tAr true]
abbrev yjj:List RK:=[.val .bool false]
abbrev R114:=zak yjj×zaj ydl
noncomputable def G114:Gam:=fun f=>match f with|59=>some Sm59|_=>none
noncomputable def zgq(n:Nat)(a:Aq):Option R114 :=
 (q59 n (a.1,(0:Int),(15:Int),())).bind fun r0=>cond r0.1.1 ((q59 n (a.2.1,(1:Int),IntKind.i64.wrap ((16:Int) - a.1),())).bind fun r1=>some ((r1.1.1,()),())) (some ((false,()),()))
theorem yf2(n:Nat)(a:Aq):runF TT G114 yry Try.f114 c114 ydl yjj n (a,())=zgq n a:=by kernel_rfl
noncomputable def p114(n:Nat)(a:Aq):Option R114:=zgq n a
noncomputable def q114(n:Nat)(x:zan ydl):Option R114:=p114 n x.1
noncomputable def ygs:Sm:=⟨ydl,yjj,false,q114⟩
theorem yqk:GamOK Try.prog G114:=by intro f s h;unfold G114 at h;split at h;exact gj h y59;cases h
theorem hh114:Hp 114 ygs:=hOf (zaf (an:=yry) (c:=c114) zax yqk zaw Try.func114 (by kernel_rfl) rfl (by decide +kernel)) fun n x=>(yf2 n x.1).trans rfl
theorem y114:Gk 114 ygs:=⟨⟨Try.f114,c114,Try.func114,by kernel_rfl,by decide +kernel⟩,hh114⟩
noncomputable def c115:Code:=(Try.f115.body.getD .skip)
def yrx:An:=⟨fun _=>⟨[],[]⟩,fun _ _=>none⟩
abbrev ydk:List PK:=[.val tAr true]
abbrev yji:List RK:=[.val i64 false]
abbrev R115:=zak yji×zaj ydk
noncomputable def G115:Gam:=fun _=>none
noncomputable def zqo(n:Nat)(a:Aq):Option R115 :=
 some ((IntKind.i64.wrap (a.1+a.2.1),()),())
theorem yf1(n:Nat)(a:Aq):runF TT G115 yrx Try.f115 c115 ydk yji n (a,())=zqo n a:=by kernel_rfl
noncomputable def p115(n:Nat)(a:Aq):Option R115:=zqo n a
noncomputable def q115(n:Nat)(x:zan ydk):Option R115:=p115 n x.1
noncomputable def ybj:Sm:=⟨ydk,yji,false,q115⟩
theorem yqj:GamOK Try.prog G115:=fun _ _ h=>by cases h
theorem hh115:Hp 115 ybj:=hOf (zaf (an:=yrx) (c:=c115) zax yqj zaw Try.func115 (by kernel_rfl) rfl (by decide +kernel)) fun n x=>(yf1 n x.1).trans rfl
theorem y115:Gk 115 ybj:=⟨⟨Try.f115,c115,Try.func115,by kernel_rfl,by decide +kernel⟩,hh115⟩
noncomputable def c63:Code:=(Try.f63.body.getD .skip)
def an63:An:=⟨fun r=>match r with|2=>⟨[0,5,6,7],[]⟩|_=>⟨[],[]⟩,fun _ _=>none⟩
abbrev ps63:List PK:=[.val (.row 116 tAr) false]
abbrev rs63:List RK:=[.val .bool false]
abbrev R63:=zak rs63×zaj ps63
noncomputable def G63:Gam:=fun f=>match f with|114=>some ygs|115=>some ybj|_=>none
noncomputable def at63:Nat→Pt→List Nat→St→Option R63:=atF TT G63 an63 Try.f63 c63 _ _
def zkq(x0 x1:Lq)(x2 x3:Int):St:=(St.mk ([AV.one (SV.con (⟨116,yAq,x0⟩:Rw)),Uu,Uu,Uu,Uu,AV.one (SV.con (⟨116,yAq,x1⟩:Rw)),Ai x2,Ai x3]++Ur 26) [])
noncomputable def zud(n:Nat)(lL2:Lq→Lq→Int→Int→Option R63)(a:Lq):Option R63 :=
 lL2 a a ((↑a.length:Int)) (0:Int)
noncomputable def zoq(n:Nat)(lL2:Lq→Lq→Int→Int→Option R63)(x0 x1:Lq)(x2 x3:Int):Option R63 :=
 cond (decide (x3<x2)) (cond (decide (0≤x3)) (cond (decide (x3<(↑x1.length:Int))) ((q114 n (((x1.getD x3.toNat ((0:Int),(0:Int),false,false)).1,(x1.getD x3.toNat ((0:Int),(0:Int),false,false)).2.1,(x1.getD x3.toNat ((0:Int),(0:Int),false,false)).2.2.1,(x1.getD x3.toNat ((0:Int),(0:Int),false,false)).2.2.2),())).bind fun r1=>cond (!r1.1.1) (some ((false,()),())) (cond (decide (0<x3)) (cond (decide ((0:Int)≤IntKind.i64.wrap (x3 - 1))) (cond (decide (IntKind.i64.wrap (x3 - 1)<(↑x0.length:Int))) ((q115 n (((x0.getD (IntKind.i64.wrap (x3 - 1)).toNat ((0:Int),(0:Int),false,false)).1,(x0.getD (IntKind.i64.wrap (x3 - 1)).toNat ((0:Int),(0:Int),false,false)).2.1,(x0.getD (IntKind.i64.wrap (x3 - 1)).toNat ((0:Int),(0:Int),false,false)).2.2.1,(x0.getD (IntKind.i64.wrap (x3 - 1)).toNat ((0:Int),(0:Int),false,false)).2.2.2),())).bind fun r2=>cond (decide ((x1.getD x3.toNat ((0:Int),(0:Int),false,false)).1<r2.1.1)) (some ((false,()),())) (lL2 x0 x1 x2 (IntKind.i64.wrap (x3+1)))) none) none) (lL2 x0 x1 x2 (IntKind.i64.wrap (x3+1))))) none) none) (some ((decide ((↑x0.length:Int)≤(6:Int)),()),()))
theorem yky(n:Nat)(a:Lq):runF TT G63 an63 Try.f63 c63 ps63 rs63 n (a,())=zud n (fun x0 x1 x2 x3=>at63 n (.head 2) [n] (zkq x0 x1 x2 x3)) a:=by kernel_rfl
theorem yep(n:Nat)(x0 x1:Lq)(x2 x3:Int):at63 n (.head 2) [0] (zkq x0 x1 x2 x3)=none:=by kernel_rfl
theorem yqw(n m2:Nat)(x0 x1:Lq)(x2 x3:Int):at63 n (.head 2) [m2+1] (zkq x0 x1 x2 x3)=zoq n (fun x0 x1 x2 x3=>at63 n (.head 2) [m2] (zkq x0 x1 x2 x3)) x0 x1 x2 x3:=by kernel_rfl
noncomputable def zuz(n:Nat):Nat→Lq→Lq→Int→Int→Option R63
 |0,_,_,_,_=>none
 |m+1,x0,x1,x2,x3=>zoq n (zuz n m) x0 x1 x2 x3
noncomputable def p63(n:Nat)(a:Lq):Option R63:=zud n (zuz n n) a
theorem yn5(n:Nat):∀ (m2:Nat) (x0 x1:Lq) (x2 x3:Int),at63 n (.head 2) [m2] (zkq x0 x1 x2 x3)=zuz n m2 x0 x1 x2 x3:=by
 intro m
 induction m with
 |zero=>intros;rw[yep];rfl
 |succ m ih =>
  intros;rw[yqw]
  try simp only[ih]
  rfl
noncomputable def q63(n:Nat)(x:zan ps63):Option R63:=p63 n x.1
noncomputable def Sm63:Sm:=⟨ps63,rs63,false,q63⟩
theorem gam63:GamOK Try.prog G63:=by intro f s h;unfold G63 at h;split at h;exact gj h y114;exact gj h y115;cases h
theorem hh63:Hp 63 Sm63:=hOf (zaf (an:=an63) (c:=c63) zax gam63 zaw Try.func63 (by kernel_rfl) rfl (by decide +kernel)) fun n x=>(yky n x.1).trans (by simp only[yn5];try rfl)
theorem y63:Gk 63 Sm63:=⟨⟨Try.f63,c63,Try.func63,by kernel_rfl,by decide +kernel⟩,hh63⟩
noncomputable def c87:Code:=(Try.f87.body.getD .skip)
abbrev ps87:List PK:=[.val (.row 116 tAr) false]
abbrev rs87:List RK:=[.own (.row 116 tAr) false]
abbrev R87:=zak rs87×zaj ps87
noncomputable def p87(n:Nat)(a:Lq):Option R87:=cond (decide ((0+a.length)*(24:Nat)≤(140737488355328:Nat))) (some ((a,()),())) none
noncomputable def q87(n:Nat)(x:zan ps87):Option R87:=p87 n x.1
noncomputable def Sm87:Sm:=⟨ps87,rs87,false,q87⟩
noncomputable def yr7(n:Nat)(xs:Lq):St:=(zip Try.f87.ntmps ps87 (xs,())).put (some 2) (.one .nil)
noncomputable def S1_87(n:Nat)(xs:Lq):St:=(yr7 n xs).put (some 3) (.one (.con ⟨116,tAr,xs⟩))
theorem yko:GamOK Try.prog (fun _=>none):=fun f s h=>by cases h
theorem hh87:ziw Try.prog 87 Sm87:=by
 refine zoh zax yko zaw (an:=⟨fun _=>⟨[],[]⟩,fun _ _=>none⟩) Try.func87 (by rfl) rfl (by first|exact Try.underlying68|kernel_rfl) (by decide +kernel) yr7 (fun n xs=>by kernel_rfl) S1_87 (fun n xs=>by kernel_rfl) (fun n xs=>rfl) (fun n xs b=>by kernel_rfl) (fun n y h=>?_) (fun n xs y h=>?_)
 ·have h':some (([],()),())=some y:=h;refine Eq.trans ?_ h'
  kernel_rfl
 ·have h':cond (decide ((0+xs.length)*(24:Nat)≤(140737488355328:Nat))) (some ((xs,()),())) none=some y:=h;refine Eq.trans ?_ h'
  kernel_rfl
theorem y87:Gk 87 Sm87:=⟨⟨Try.f87,c87,Try.func87,by kernel_rfl,by decide +kernel⟩,hh87⟩
noncomputable def c125:Code:=(Try.f125.body.getD .skip)
def yrt:An:=⟨fun _=>⟨[],[]⟩,fun _ _=>none⟩
abbrev ydb:List PK:=[.val tAr true,.cp i64]
abbrev yi_:List RK:=[.val .bool false]
abbrev R125:=zak yi_×zaj ydb
noncomputable def G125:Gam:=fun f=>match f with|115=>some ybj|_=>none
noncomputable def zgn(n:Nat)(a:Aq)(b:Int):Option R125 :=
 cond (decide (a.1≤[b].getD (0:Nat) (0:Int))) ((q115 n ((a.1,a.2.1,a.2.2.1,a.2.2.2),())).bind fun r0=>some ((decide ([b].getD (0:Nat) (0:Int)<r0.1.1),()),())) (some ((false,()),()))
theorem yfs(n:Nat)(a:Aq)(b:Int):runF TT G125 yrt Try.f125 c125 ydb yi_ n (a,b,())=zgn n a b:=by kernel_rfl
noncomputable def p125(n:Nat)(a:Aq)(b:Int):Option R125:=zgn n a b
noncomputable def q125(n:Nat)(x:zan ydb):Option R125:=p125 n x.1 x.2.1
noncomputable def yni:Sm:=⟨ydb,yi_,false,q125⟩
theorem yqa:GamOK Try.prog G125:=by intro f s h;unfold G125 at h;split at h;exact gj h y115;cases h
theorem hh125:Hp 125 yni:=hOf (zaf (an:=yrt) (c:=c125) zax yqa zaw Try.func125 (by kernel_rfl) rfl (by decide +kernel)) fun n x=>(yfs n x.1 x.2.1).trans rfl
theorem y125:Gk 125 yni:=⟨⟨Try.f125,c125,Try.func125,by kernel_rfl,by decide +kernel⟩,hh125⟩
noncomputable def c124:Code:=(Try.f124.body.getD .skip)
def ymz:An:=⟨fun r=>match r with|2=>⟨[0,1,7,8],[]⟩|_=>⟨[],[]⟩,fun _ _=>none⟩
abbrev ydc:List PK:=[.val (.row 116 tAr) false,.fn 125 [i64]]
abbrev yja:List RK:=[.val i64 false]
abbrev R124:=zak yja×zaj ydc
noncomputable def G124:Gam:=fun f=>match f with|125=>some yni|_=>none
noncomputable def yau:Nat→Pt→List Nat→St→Option R124:=atF TT G124 ymz Try.f124 c124 _ _
def zha(x0:Lq)(x1 x2 x3:Int):St:=(St.mk ([AV.one (SV.con (⟨116,yAq,x0⟩:Rw)),AV.fn 125 [SV.cptr (⟨0,Ty.int .i64,[x1]⟩:Rw) 0 0],Uu,Uu,Uu,Uu,Uu,Ai x2,Ai x3]++Ur 10) [])
noncomputable def zql(n:Nat)(lL2:Lq→Int→Int→Int→Option R124)(a:Lq)(b:Int×Unit):Option R124 :=
 lL2 a b.1 ((↑a.length:Int)) (0:Int)
noncomputable def ze8(n:Nat)(lL2:Lq→Int→Int→Int→Option R124)(x0:Lq)(x1 x2 x3:Int):Option R124 :=
 cond (decide (x3<x2)) (cond (decide (0≤x3)) (cond (decide (x3<(↑x0.length:Int))) ((q125 n (((x0.getD x3.toNat ((0:Int),(0:Int),false,false)).1,(x0.getD x3.toNat ((0:Int),(0:Int),false,false)).2.1,(x0.getD x3.toNat ((0:Int),(0:Int),false,false)).2.2.1,(x0.getD x3.toNat ((0:Int),(0:Int),false,false)).2.2.2),x1,())).bind fun r1=>cond r1.1.1 (some ((x3,()),())) (lL2 x0 x1 x2 (IntKind.i64.wrap (x3+1)))) none) none) (some (((-1:Int),()),()))
theorem yft(n:Nat)(a:Lq)(b:Int×Unit):runF TT G124 ymz Try.f124 c124 ydc yja n (a,b,())=zql n (fun x0 x1 x2 x3=>yau n (.head 2) [n] (zha x0 x1 x2 x3)) a b:=by kernel_rfl
theorem zz4(n:Nat)(x0:Lq)(x1 x2 x3:Int):yau n (.head 2) [0] (zha x0 x1 x2 x3)=none:=by kernel_rfl
theorem yl6(n m2:Nat)(x0:Lq)(x1 x2 x3:Int):yau n (.head 2) [m2+1] (zha x0 x1 x2 x3)=ze8 n (fun x0 x1 x2 x3=>yau n (.head 2) [m2] (zha x0 x1 x2 x3)) x0 x1 x2 x3:=by kernel_rfl
noncomputable def zpg(n:Nat):Nat→Lq→Int→Int→Int→Option R124
 |0,_,_,_,_=>none
 |m+1,x0,x1,x2,x3=>ze8 n (zpg n m) x0 x1 x2 x3
noncomputable def p124(n:Nat)(a:Lq)(b:Int×Unit):Option R124:=zql n (zpg n n) a b
theorem yic(n:Nat):∀ (m2:Nat) (x0:Lq) (x1 x2 x3:Int),yau n (.head 2) [m2] (zha x0 x1 x2 x3)=zpg n m2 x0 x1 x2 x3:=by
 intro m
 induction m with
 |zero=>intros;rw[zz4];rfl
 |succ m ih =>
  intros;rw[yl6]
  try simp only[ih]
  rfl
noncomputable def q124(n:Nat)(x:zan ydc):Option R124:=p124 n x.1 x.2.1
noncomputable def ynj:Sm:=⟨ydc,yja,false,q124⟩
theorem yqb:GamOK Try.prog G124:=by intro f s h;unfold G124 at h;split at h;exact gj h y125;cases h
theorem hh124:Hp 124 ynj:=hOf (zaf (an:=ymz) (c:=c124) zax yqb zaw Try.func124 (by kernel_rfl) rfl (by decide +kernel)) fun n x=>(yft n x.1 x.2.1).trans (by simp only[yic];try rfl)
theorem y124:Gk 124 ynj:=⟨⟨Try.f124,c124,Try.func124,by kernel_rfl,by decide +kernel⟩,hh124⟩
noncomputable def c60:Code:=(Try.f60.body.getD .skip)
def an60:An:=⟨fun _=>⟨[],[]⟩,fun _ _=>none⟩
abbrev ps60:List PK:=[.val (.row 116 tAr) false,.val i64 false]
abbrev rs60:List RK:=[.val i64 false]
abbrev R60:=zak rs60×zaj ps60
noncomputable def G60:Gam:=fun f=>match f with|63=>some Sm63|124=>some ynj|_=>none
noncomputable def zjg(n:Nat)(a:Lq)(b:Int):Option R60 :=
 (q63 n (a,())).bind fun r0=>cond (!r0.1.1) (some (((-1:Int),()),())) ((q124 n (a,(b,()),())).bind fun r1=>some ((r1.1.1,()),()))
theorem yk1(n:Nat)(a:Lq)(b:Int):runF TT G60 an60 Try.f60 c60 ps60 rs60 n (a,b,())=zjg n a b:=by kernel_rfl
noncomputable def p60(n:Nat)(a:Lq)(b:Int):Option R60:=zjg n a b
noncomputable def q60(n:Nat)(x:zan ps60):Option R60:=p60 n x.1 x.2.1
noncomputable def Sm60:Sm:=⟨ps60,rs60,false,q60⟩
theorem gam60:GamOK Try.prog G60:=by intro f s h;unfold G60 at h;split at h;exact gj h y63;exact gj h y124;cases h
theorem hh60:Hp 60 Sm60:=hOf (zaf (an:=an60) (c:=c60) zax gam60 zaw Try.func60 (by kernel_rfl) rfl (by decide +kernel)) fun n x=>(yk1 n x.1 x.2.1).trans rfl
theorem y60:Gk 60 Sm60:=⟨⟨Try.f60,c60,Try.func60,by kernel_rfl,by decide +kernel⟩,hh60⟩
noncomputable def c39:Code:=(Try.f39.body.getD .skip)
def an39:An:=⟨fun r=>match r with|4=>⟨[0,1,5],[]⟩|_=>⟨[],[]⟩,fun _ _=>none⟩
abbrev ps39:List PK:=[.val (.row 9 .str) false,.val (.row 9 .str) false]
abbrev rs39:List RK:=[.val .bool false]
abbrev R39:=zak rs39×zaj ps39
noncomputable def G39:Gam:=fun _=>none
noncomputable def at39:Nat→Pt→List Nat→St→Option R39:=atF TT G39 an39 Try.f39 c39 _ _
def zk3(x0 x1:Lb)(x2:Int):St:=(St.mk ([AV.one (SV.con (⟨9,Ty.str,x0⟩:Rw)),AV.one (SV.con (⟨9,Ty.str,x1⟩:Rw)),Uu,Uu,Uu,Ai x2]++Ur 20) [])
noncomputable def zjs(n:Nat)(lL4:Lb→Lb→Int→Option R39)(a b:Lb):Option R39 :=
 cond (!decide ((↑a.length:Int)=(↑b.length:Int))) (some ((false,()),())) (lL4 a b (0:Int))
noncomputable def zh_(n:Nat)(lL4:Lb→Lb→Int→Option R39)(x0 x1:Lb)(x2:Int):Option R39 :=
 cond (decide (x2<(↑x0.length:Int))) (cond (decide (0≤x2)) (cond (decide (x2<(↑x0.length:Int))) (cond (decide (0≤x2)) (cond (decide (x2<(↑x1.length:Int))) (cond (!ByteArray.toList (x0.getD x2.toNat ByteArray.empty) == ByteArray.toList (x1.getD x2.toNat ByteArray.empty)) (some ((false,()),())) (lL4 x0 x1 (IntKind.i64.wrap (x2+1)))) none) none) none) none) (some ((true,()),()))
theorem yli(n:Nat)(a b:Lb):runF TT G39 an39 Try.f39 c39 ps39 rs39 n (a,b,())=zjs n (fun x0 x1 x2=>at39 n (.head 4) [n] (zk3 x0 x1 x2)) a b:=by kernel_rfl
theorem ye5(n:Nat)(x0 x1:Lb)(x2:Int):at39 n (.head 4) [0] (zk3 x0 x1 x2)=none:=by kernel_rfl
theorem yrb(n m4:Nat)(x0 x1:Lb)(x2:Int):at39 n (.head 4) [m4+1] (zk3 x0 x1 x2)=zh_ n (fun x0 x1 x2=>at39 n (.head 4) [m4] (zk3 x0 x1 x2)) x0 x1 x2:=by kernel_rfl
noncomputable def zu1(n:Nat):Nat→Lb→Lb→Int→Option R39
 |0,_,_,_=>none
 |m+1,x0,x1,x2=>zh_ n (zu1 n m) x0 x1 x2
noncomputable def p39(n:Nat)(a b:Lb):Option R39:=zjs n (zu1 n n) a b
theorem yoi(n:Nat):∀ (m4:Nat) (x0 x1:Lb) (x2:Int),at39 n (.head 4) [m4] (zk3 x0 x1 x2)=zu1 n m4 x0 x1 x2:=by
 intro m
 induction m with
 |zero=>intros;rw[ye5];rfl
 |succ m ih =>
  intros;rw[yrb]
  try simp only[ih]
  rfl
noncomputable def q39(n:Nat)(x:zan ps39):Option R39:=p39 n x.1 x.2.1
noncomputable def Sm39:Sm:=⟨ps39,rs39,false,q39⟩
theorem gam39:GamOK Try.prog G39:=fun _ _ h=>by cases h
theorem hh39:Hp 39 Sm39:=hOf (zaf (an:=an39) (c:=c39) zax gam39 zaw Try.func39 (by kernel_rfl) rfl (by decide +kernel)) fun n x=>(yli n x.1 x.2.1).trans (by simp only[yoi];try rfl)
theorem y39:Gk 39 Sm39:=⟨⟨Try.f39,c39,Try.func39,by kernel_rfl,by decide +kernel⟩,hh39⟩
noncomputable def c40:Code:=(Try.f40.body.getD .skip)
def an40:An:=⟨fun r=>match r with|4=>⟨[0,1,5],[]⟩|_=>⟨[],[]⟩,fun _ _=>none⟩
abbrev ps40:List PK:=[.val (.row 116 tAr) false,.val (.row 116 tAr) false]
abbrev rs40:List RK:=[.val .bool false]
abbrev R40:=zak rs40×zaj ps40
noncomputable def G40:Gam:=fun _=>none
noncomputable def at40:Nat→Pt→List Nat→St→Option R40:=atF TT G40 an40 Try.f40 c40 _ _
def zk1(x0 x1:Lq)(x2:Int):St:=(St.mk ([AV.one (SV.con (⟨116,yAq,x0⟩:Rw)),AV.one (SV.con (⟨116,yAq,x1⟩:Rw)),Uu,Uu,Uu,Ai x2]++Ur 20) [])
noncomputable def zjr(n:Nat)(lL4:Lq→Lq→Int→Option R40)(a b:Lq):Option R40 :=
 cond (!decide ((↑a.length:Int)=(↑b.length:Int))) (some ((false,()),())) (lL4 a b (0:Int))
noncomputable def zh7(n:Nat)(lL4:Lq→Lq→Int→Option R40)(x0 x1:Lq)(x2:Int):Option R40 :=
 cond (decide (x2<(↑x0.length:Int))) (cond (decide (0≤x2)) (cond (decide (x2<(↑x0.length:Int))) (cond (decide (0≤x2)) (cond (decide (x2<(↑x1.length:Int))) (cond (!(decide ((x0.getD x2.toNat ((0:Int),(0:Int),false,false)).1=(x1.getD x2.toNat ((0:Int),(0:Int),false,false)).1)&&(decide ((x0.getD x2.toNat ((0:Int),(0:Int),false,false)).2.1=(x1.getD x2.toNat ((0:Int),(0:Int),false,false)).2.1)&&((x0.getD x2.toNat ((0:Int),(0:Int),false,false)).2.2.1 == (x1.getD x2.toNat ((0:Int),(0:Int),false,false)).2.2.1&&((x0.getD x2.toNat ((0:Int),(0:Int),false,false)).2.2.2 == (x1.getD x2.toNat ((0:Int),(0:Int),false,false)).2.2.2&&true))))) (some ((false,()),())) (lL4 x0 x1 (IntKind.i64.wrap (x2+1)))) none) none) none) none) (some ((true,()),()))
theorem ylh(n:Nat)(a b:Lq):runF TT G40 an40 Try.f40 c40 ps40 rs40 n (a,b,())=zjr n (fun x0 x1 x2=>at40 n (.head 4) [n] (zk1 x0 x1 x2)) a b:=by kernel_rfl
theorem ye2(n:Nat)(x0 x1:Lq)(x2:Int):at40 n (.head 4) [0] (zk1 x0 x1 x2)=none:=by kernel_rfl
theorem yq8(n m4:Nat)(x0 x1:Lq)(x2:Int):at40 n (.head 4) [m4+1] (zk1 x0 x1 x2)=zh7 n (fun x0 x1 x2=>at40 n (.head 4) [m4] (zk1 x0 x1 x2)) x0 x1 x2:=by kernel_rfl
noncomputable def zu0(n:Nat):Nat→Lq→Lq→Int→Option R40
 |0,_,_,_=>none
 |m+1,x0,x1,x2=>zh7 n (zu0 n m) x0 x1 x2
noncomputable def p40(n:Nat)(a b:Lq):Option R40:=zjr n (zu0 n n) a b
theorem yof(n:Nat):∀ (m4:Nat) (x0 x1:Lq) (x2:Int),at40 n (.head 4) [m4] (zk1 x0 x1 x2)=zu0 n m4 x0 x1 x2:=by
 intro m
 induction m with
 |zero=>intros;rw[ye2];rfl
 |succ m ih =>
  intros;rw[yq8]
  try simp only[ih]
  rfl
noncomputable def q40(n:Nat)(x:zan ps40):Option R40:=p40 n x.1 x.2.1
noncomputable def Sm40:Sm:=⟨ps40,rs40,false,q40⟩
theorem gam40:GamOK Try.prog G40:=fun _ _ h=>by cases h
theorem hh40:Hp 40 Sm40:=hOf (zaf (an:=an40) (c:=c40) zax gam40 zaw Try.func40 (by kernel_rfl) rfl (by decide +kernel)) fun n x=>(ylh n x.1 x.2.1).trans (by simp only[yof];try rfl)
theorem y40:Gk 40 Sm40:=⟨⟨Try.f40,c40,Try.func40,by kernel_rfl,by decide +kernel⟩,hh40⟩
noncomputable def c105:Code:=(Try.f105.body.getD .skip)
def ym4:An:=⟨fun r=>match r with|4=>⟨[0,1,5],[]⟩|_=>⟨[],[]⟩,fun _ _=>none⟩
abbrev ydt:List PK:=[.val (.row 3 i64) false,.val (.row 3 i64) false]
abbrev yjq:List RK:=[.val .bool false]
abbrev R105:=zak yjq×zaj ydt
noncomputable def G105:Gam:=fun _=>none
noncomputable def yax:Nat→Pt→List Nat→St→Option R105:=atF TT G105 ym4 Try.f105 c105 _ _
def zhf(x0 x1:Li)(x2:Int):St:=(St.mk ([AV.one (SV.con (⟨3,Ty.int .i64,x0⟩:Rw)),AV.one (SV.con (⟨3,Ty.int .i64,x1⟩:Rw)),Uu,Uu,Uu,Ai x2]++Ur 20) [])
noncomputable def zgw(n:Nat)(lL4:Li→Li→Int→Option R105)(a b:Li):Option R105 :=
 cond (!decide ((↑a.length:Int)=(↑b.length:Int))) (some ((false,()),())) (lL4 a b (0:Int))
noncomputable def zfa(n:Nat)(lL4:Li→Li→Int→Option R105)(x0 x1:Li)(x2:Int):Option R105 :=
 cond (decide (x2<(↑x0.length:Int))) (cond (decide (0≤x2)) (cond (decide (x2<(↑x0.length:Int))) (cond (decide (0≤x2)) (cond (decide (x2<(↑x1.length:Int))) (cond (!decide (x0.getD x2.toNat (0:Int)=x1.getD x2.toNat (0:Int))) (some ((false,()),())) (lL4 x0 x1 (IntKind.i64.wrap (x2+1)))) none) none) none) none) (some ((true,()),()))
theorem yf9(n:Nat)(a b:Li):runF TT G105 ym4 Try.f105 c105 ydt yjq n (a,b,())=zgw n (fun x0 x1 x2=>yax n (.head 4) [n] (zhf x0 x1 x2)) a b:=by kernel_rfl
theorem yaa(n:Nat)(x0 x1:Li)(x2:Int):yax n (.head 4) [0] (zhf x0 x1 x2)=none:=by kernel_rfl
theorem ymc(n m4:Nat)(x0 x1:Li)(x2:Int):yax n (.head 4) [m4+1] (zhf x0 x1 x2)=zfa n (fun x0 x1 x2=>yax n (.head 4) [m4] (zhf x0 x1 x2)) x0 x1 x2:=by kernel_rfl
noncomputable def zpi(n:Nat):Nat→Li→Li→Int→Option R105
 |0,_,_,_=>none
 |m+1,x0,x1,x2=>zfa n (zpi n m) x0 x1 x2
noncomputable def p105(n:Nat)(a b:Li):Option R105:=zgw n (zpi n n) a b
theorem yij(n:Nat):∀ (m4:Nat) (x0 x1:Li) (x2:Int),yax n (.head 4) [m4] (zhf x0 x1 x2)=zpi n m4 x0 x1 x2:=by
 intro m
 induction m with
 |zero=>intros;rw[yaa];rfl
 |succ m ih =>
  intros;rw[ymc]
  try simp only[ih]
  rfl
noncomputable def q105(n:Nat)(x:zan ydt):Option R105:=p105 n x.1 x.2.1
noncomputable def ynv:Sm:=⟨ydt,yjq,false,q105⟩
theorem yqr:GamOK Try.prog G105:=fun _ _ h=>by cases h
theorem hh105:Hp 105 ynv:=hOf (zaf (an:=ym4) (c:=c105) zax yqr zaw Try.func105 (by kernel_rfl) rfl (by decide +kernel)) fun n x=>(yf9 n x.1 x.2.1).trans (by simp only[yij];try rfl)
theorem y105:Gk 105 ynv:=⟨⟨Try.f105,c105,Try.func105,by kernel_rfl,by decide +kernel⟩,hh105⟩
noncomputable def c62:Code:=(Try.f62.body.getD .skip)
def an62:An:=⟨fun r=>match r with|4=>⟨[1,21,22,23],[]⟩|_=>⟨[],[]⟩,fun _ _=>none⟩
abbrev ps62:List PK:=[.val tPg true]
abbrev rs62:List RK:=[.val .bool false]
abbrev R62:=zak rs62×zaj ps62
noncomputable def G62:Gam:=fun f=>match f with|59=>some Sm59|_=>none
noncomputable def at62:Nat→Pt→List Nat→St→Option R62:=atF TT G62 an62 Try.f62 c62 _ _
def zkr(x0:Li)(x1 x2:Int)(x3:Lb)(x4:Li):St:=(St.mk ([Uu,AV.one (SV.bptr 1000000 0),Uu,Uu,Uu,Uu,Uu,Uu,Uu,Uu,Uu,Uu,Uu,Uu,Uu,Uu,Uu,Uu,Uu,Uu,Uu,AV.one (SV.con (⟨3,Ty.int .i64,x0⟩:Rw)),Ai x1,Ai x2]++Ur 20) [(1000000,(Ent.box [SV.con (⟨9,Ty.str,x3⟩:Rw),SV.con (⟨3,Ty.int .i64,x4⟩:Rw)]))])
noncomputable def zje(n:Nat)(lL4:Li→Int→Int→Lb→Li→Option R62)(a:Lb×Li):Option R62 :=
 cond (!decide ((↑(List.length a.1):Int)=(↑(List.length a.2):Int))) (some ((false,()),())) ((q59 n ((↑(List.length a.1):Int),(1:Int),(12:Int),())).bind fun r0=>cond (!r0.1.1) (some ((false,()),())) (lL4 a.2 ((↑(List.length a.2):Int)) (0:Int) a.1 a.2))
noncomputable def zkm(n:Nat)(lL4:Li→Int→Int→Lb→Li→Option R62)(x0:Li)(x1 x2:Int)(x3:Lb)(x4:Li):Option R62 :=
 cond (decide (x2<x1)) (cond (decide (0≤x2)) (cond (decide (x2<(↑x0.length:Int))) (cond (decide (x0.getD x2.toNat (0:Int)=(0:Int))) ((q59 n (x0.getD x2.toNat (0:Int),(0:Int),(99:Int),())).bind fun r2=>cond (!r2.1.1) (some ((false,()),())) (cond (decide (0≤x2)) (cond (decide (x2<(↑x3.length:Int))) (cond (!decide ((↑(ByteArray.size (x3.getD x2.toNat ByteArray.empty)):Int)=(0:Int))) (some ((false,()),())) (lL4 x0 x1 (IntKind.i64.wrap (x2+1)) x3 x4)) none) none)) ((q59 n (x0.getD x2.toNat (0:Int),(0:Int),(99:Int),())).bind fun r3=>cond (!r3.1.1) (some ((false,()),())) (cond (decide (0≤x2)) (cond (decide (x2<(↑x3.length:Int))) (cond (!decide ((↑(ByteArray.size (x3.getD x2.toNat ByteArray.empty)):Int)=(4:Int))) (some ((false,()),())) (lL4 x0 x1 (IntKind.i64.wrap (x2+1)) x3 x4)) none) none))) none) none) (some ((true,()),()))
theorem ykz(n:Nat)(a:Lb×Li):runF TT G62 an62 Try.f62 c62 ps62 rs62 n (a,())=zje n (fun x0 x1 x2 x3 x4=>at62 n (.head 4) [n] (zkr x0 x1 x2 x3 x4)) a:=by kernel_rfl
theorem yeq(n:Nat)(x0:Li)(x1 x2:Int)(x3:Lb)(x4:Li):at62 n (.head 4) [0] (zkr x0 x1 x2 x3 x4)=none:=by kernel_rfl
theorem yqx(n m4:Nat)(x0:Li)(x1 x2:Int)(x3:Lb)(x4:Li):at62 n (.head 4) [m4+1] (zkr x0 x1 x2 x3 x4)=zkm n (fun x0 x1 x2 x3 x4=>at62 n (.head 4) [m4] (zkr x0 x1 x2 x3 x4)) x0 x1 x2 x3 x4:=by kernel_rfl
noncomputable def zno(n:Nat):Nat→Li→Int→Int→Lb→Li→Option R62
 |0,_,_,_,_,_=>none
 |m+1,x0,x1,x2,x3,x4=>zkm n (zno n m) x0 x1 x2 x3 x4
noncomputable def p62(n:Nat)(a:Lb×Li):Option R62:=zje n (zno n n) a
theorem yn6(n:Nat):∀ (m4:Nat) (x0:Li) (x1 x2:Int) (x3:Lb) (x4:Li),at62 n (.head 4) [m4] (zkr x0 x1 x2 x3 x4)=zno n m4 x0 x1 x2 x3 x4:=by
 intro m
 induction m with
 |zero=>intros;rw[yeq];rfl
 |succ m ih =>
  intros;rw[yqx]
  try simp only[ih]
  rfl
noncomputable def q62(n:Nat)(x:zan ps62):Option R62:=p62 n x.1
noncomputable def Sm62:Sm:=⟨ps62,rs62,false,q62⟩
theorem gam62:GamOK Try.prog G62:=by intro f s h;unfold G62 at h;split at h;exact gj h y59;cases h
theorem hh62:Hp 62 Sm62:=hOf (zaf (an:=an62) (c:=c62) zax gam62 zaw Try.func62 (by kernel_rfl) rfl (by decide +kernel)) fun n x=>(ykz n x.1).trans (by simp only[yn6];try rfl)
theorem y62:Gk 62 Sm62:=⟨⟨Try.f62,c62,Try.func62,by kernel_rfl,by decide +kernel⟩,hh62⟩
noncomputable def c64:Code:=(Try.f64.body.getD .skip)
def an64:An:=⟨fun _=>⟨[],[]⟩,fun _ _=>none⟩
abbrev ps64:List PK:=[.val tPg true,.val i64 false]
abbrev rs64:List RK:=[.val .bool false]
abbrev R64:=zak rs64×zaj ps64
noncomputable def G64:Gam:=fun f=>match f with|59=>some Sm59|_=>none
noncomputable def zjd(n:Nat)(a:Lb×Li)(b:Int):Option R64 :=
 (q59 n (b,(0:Int),IntKind.i64.wrap ((↑(List.length a.2):Int) - (1:Int)),())).bind fun r0=>cond r0.1.1 (cond (decide ((0:Int)≤b)) (cond (decide (b<(↑(List.length a.2):Int))) (some ((decide ((0:Int)<List.getD a.2 b.toNat (0:Int)),()),())) none) none) (some ((false,()),()))
theorem ykx(n:Nat)(a:Lb×Li)(b:Int):runF TT G64 an64 Try.f64 c64 ps64 rs64 n (a,b,())=zjd n a b:=by kernel_rfl
noncomputable def p64(n:Nat)(a:Lb×Li)(b:Int):Option R64:=zjd n a b
noncomputable def q64(n:Nat)(x:zan ps64):Option R64:=p64 n x.1 x.2.1
noncomputable def Sm64:Sm:=⟨ps64,rs64,false,q64⟩
theorem gam64:GamOK Try.prog G64:=by intro f s h;unfold G64 at h;split at h;exact gj h y59;cases h
theorem hh64:Hp 64 Sm64:=hOf (zaf (an:=an64) (c:=c64) zax gam64 zaw Try.func64 (by kernel_rfl) rfl (by decide +kernel)) fun n x=>(ykx n x.1 x.2.1).trans rfl
theorem y64:Gk 64 Sm64:=⟨⟨Try.f64,c64,Try.func64,by kernel_rfl,by decide +kernel⟩,hh64⟩
noncomputable def c65:Code:=(Try.f65.body.getD .skip)
def an65:An:=⟨fun _=>⟨[],[]⟩,fun _ _=>none⟩
abbrev ps65:List PK:=[.val (tSp 116 80) true,.val i64 false]
abbrev rs65:List RK:=[.val .bool false]
abbrev R65:=zak rs65×zaj ps65
noncomputable def G65:Gam:=fun f=>match f with|60=>some Sm60|_=>none
noncomputable def zjc(n:Nat)(a:Br)(b:Int):Option R65 :=
 (q60 n (a.2.1,b,())).bind fun r0=>cond (decide ((0:Int)≤r0.1.1)) (cond (decide ((0:Int)≤r0.1.1)) (cond (decide (r0.1.1<(↑(List.length a.2.1):Int))) (some (((List.getD a.2.1 (Int.toNat r0.1.1) (0,0,false,false)).2.2.2,()),())) none) none) (some ((false,()),()))
theorem ykw(n:Nat)(a:Br)(b:Int):runF TT G65 an65 Try.f65 c65 ps65 rs65 n (a,b,())=zjc n a b:=by kernel_rfl
noncomputable def p65(n:Nat)(a:Br)(b:Int):Option R65:=zjc n a b
noncomputable def q65(n:Nat)(x:zan ps65):Option R65:=p65 n x.1 x.2.1
noncomputable def Sm65:Sm:=⟨ps65,rs65,false,q65⟩
theorem gam65:GamOK Try.prog G65:=by intro f s h;unfold G65 at h;split at h;exact gj h y60;cases h
theorem hh65:Hp 65 Sm65:=hOf (zaf (an:=an65) (c:=c65) zax gam65 zaw Try.func65 (by kernel_rfl) rfl (by decide +kernel)) fun n x=>(ykw n x.1 x.2.1).trans rfl
theorem y65:Gk 65 Sm65:=⟨⟨Try.f65,c65,Try.func65,by kernel_rfl,by decide +kernel⟩,hh65⟩
noncomputable def c17:Code:=(Try.f17.body.getD .skip)
def an17:An:=⟨fun r=>match r with|5=>⟨[1,3,56,57,58],[]⟩|13=>⟨[1,3,5,56,57,58,86,87,88],[]⟩|29=>⟨[3,169],[]⟩|32=>⟨[3,9,169,176,177,178],[]⟩|38=>⟨[3,9,13,169,176,177,178,192,193,194],[]⟩|41=>⟨[3,9,13,14,15,169,176,177,178,192,193,194,199,200,201],[]⟩|_=>⟨[],[]⟩,fun _ _=>none⟩
abbrev ps17:List PK:=[.val tMem true]
abbrev rs17:List RK:=[.val .bool false]
abbrev R17:=zak rs17×zaj ps17
noncomputable def G17:Gam:=fun f=>match f with|59=>some Sm59|60=>some Sm60|62=>some Sm62|63=>some Sm63|64=>some Sm64|65=>some Sm65|_=>none
noncomputable def at17:Nat→Pt→List Nat→St→Option R17:=atF TT G17 an17 Try.f17 c17 _ _
def zg3(x0:List (Br))(x1 x2:Int)(x3:Lq)(x4 x5:Int)(x6:Lb)(x7:Li)(x8:Lb)(x9:Li)(x10:List (Br))(x11:Int)(x12:List ((Int×Int)×Option (List (Bool×Bool))))(x13:Bool)(x14 x15:Lq):St:=(St.mk ([Uu,AV.one (SV.bptr 1000000 0),Uu,AV.one (SV.mapr 1000001),Uu,AV.one (SV.bptr 1000002 0),Uu,Uu,Uu,Uu,Uu,Uu,Uu,Uu,Uu,Uu,Uu,Uu,Uu,Uu,Uu,Uu,Uu,Uu,Uu,Uu,Uu,Uu,Uu,Uu,Uu,Uu,Uu,Uu,Uu,Uu,Uu,Uu,Uu,Uu,Uu,Uu,Uu,Uu,Uu,Uu,Uu,Uu,Uu,Uu,Uu,Uu,Uu,Uu,Uu,Uu,AV.one (SV.con (⟨71,ySp,x0⟩:Rw)),Ai x1,Ai x2,Uu,Uu,Uu,Uu,Uu,Uu,Uu,Uu,Uu,Uu,Uu,Uu,Uu,Uu,Uu,Uu,Uu,Uu,Uu,Uu,Uu,Uu,Uu,Uu,Uu,Uu,Uu,AV.one (SV.con (⟨80,yAq,x3⟩:Rw)),Ai x4,Ai x5]++Ur 136) [(1000000,(Ent.box [SV.con (⟨9,Ty.str,x6⟩:Rw),SV.con (⟨3,Ty.int .i64,x7⟩:Rw),SV.con (⟨9,Ty.str,x8⟩:Rw),SV.con (⟨3,Ty.int .i64,x9⟩:Rw),SV.con (⟨71,ySp,x10⟩:Rw),Si x11])),(1000001,(Ent.grp 110 (Ty.bool.pair Ty.bool) x12)),(1000002,(Ent.box [SV.bool x13,SV.con (⟨116,yAq,x14⟩:Rw),SV.con (⟨80,yAq,x15⟩:Rw)]))])
def zg2(x0 x1:Int)(x2:Li)(x3 x4 x5 x6 x7 x8:Int)(x9:List ((Int×Int)×Option (List (Bool×Bool))))(x10:List (Bool×Bool))(x11 x12:Bool)(x13 x14:List (Int×Lb×Li)):St:=(St.mk ([Uu,Uu,Uu,AV.one (SV.mapr 1000000),Uu,Uu,Uu,Uu,Uu,Ai x0,Uu,Uu,Uu,AV.one (Sr 1000001),Ai x1,AV.one (SV.bptr 1000002 0),Uu,Uu,Uu,Uu,Uu,Uu,Uu,Uu,Uu,Uu,Uu,Uu,Uu,Uu,Uu,Uu,Uu,Uu,Uu,Uu,Uu,Uu,Uu,Uu,Uu,Uu,Uu,Uu,Uu,Uu,Uu,Uu,Uu,Uu,Uu,Uu,Uu,Uu,Uu,Uu,Uu,Uu,Uu,Uu,Uu,Uu,Uu,Uu,Uu,Uu,Uu,Uu,Uu,Uu,Uu,Uu,Uu,Uu,Uu,Uu,Uu,Uu,Uu,Uu,Uu,Uu,Uu,Uu,Uu,Uu,Uu,Uu,Uu,Uu,Uu,Uu,Uu,Uu,Uu,Uu,Uu,Uu,Uu,Uu,Uu,Uu,Uu,Uu,Uu,Uu,Uu,Uu,Uu,Uu,Uu,Uu,Uu,Uu,Uu,Uu,Uu,Uu,Uu,Uu,Uu,Uu,Uu,Uu,Uu,Uu,Uu,Uu,Uu,Uu,Uu,Uu,Uu,Uu,Uu,Uu,Uu,Uu,Uu,Uu,Uu,Uu,Uu,Uu,Uu,Uu,Uu,Uu,Uu,Uu,Uu,Uu,Uu,Uu,Uu,Uu,Uu,Uu,Uu,Uu,Uu,Uu,Uu,Uu,Uu,Uu,Uu,Uu,Uu,AV.one (SV.bptr 1000003 0),Uu,Uu,Uu,Uu,Uu,Uu,AV.one (SV.con (⟨3,Ty.int .i64,x2⟩:Rw)),Ai x3,Ai x4,Uu,Uu,Uu,Uu,Uu,Uu,Uu,Uu,Uu,Uu,Uu,Uu,Uu,AV.one (Sr 1000001),Ai x5,Ai x6,Uu,Uu,Uu,Uu,AV.one (Sr 1000001),Ai x7,Ai x8]++Ur 23) [(1000000,(Ent.grp 110 (Ty.bool.pair Ty.bool) x9)),(1000001,Er ⟨110,Ty.bool.pair Ty.bool,x10⟩),(1000002,(Ent.box [SV.bool x11,SV.bool x12])),(1000003,(Ent.mit ((Ty.row (nat_lit 9) Ty.str).pair (Ty.row (nat_lit 3) (Ty.int .i64))) x13 x14))])
def zfd(x0:Int)(x1:Li)(x2 x3 x4 x5:Int)(x6:List ((Int×Int)×Option (List (Bool×Bool))))(x7:List (Bool×Bool))(x8 x9:List (Int×Lb×Li)):St:=(St.mk ([Uu,Uu,Uu,AV.one (SV.mapr 1000000),Uu,Uu,Uu,Uu,Uu,Ai x0,Uu,Uu,Uu,AV.one (Sr 1000001),Uu,Uu,Uu,Uu,Uu,Uu,Uu,Uu,Uu,Uu,Uu,Uu,Uu,Uu,Uu,Uu,Uu,Uu,Uu,Uu,Uu,Uu,Uu,Uu,Uu,Uu,Uu,Uu,Uu,Uu,Uu,Uu,Uu,Uu,Uu,Uu,Uu,Uu,Uu,Uu,Uu,Uu,Uu,Uu,Uu,Uu,Uu,Uu,Uu,Uu,Uu,Uu,Uu,Uu,Uu,Uu,Uu,Uu,Uu,Uu,Uu,Uu,Uu,Uu,Uu,Uu,Uu,Uu,Uu,Uu,Uu,Uu,Uu,Uu,Uu,Uu,Uu,Uu,Uu,Uu,Uu,Uu,Uu,Uu,Uu,Uu,Uu,Uu,Uu,Uu,Uu,Uu,Uu,Uu,Uu,Uu,Uu,Uu,Uu,Uu,Uu,Uu,Uu,Uu,Uu,Uu,Uu,Uu,Uu,Uu,Uu,Uu,Uu,Uu,Uu,Uu,Uu,Uu,Uu,Uu,Uu,Uu,Uu,Uu,Uu,Uu,Uu,Uu,Uu,Uu,Uu,Uu,Uu,Uu,Uu,Uu,Uu,Uu,Uu,Uu,Uu,Uu,Uu,Uu,Uu,Uu,Uu,Uu,Uu,Uu,Uu,Uu,Uu,Uu,Uu,AV.one (SV.bptr 1000002 0),Uu,Uu,Uu,Uu,Uu,Uu,AV.one (SV.con (⟨3,Ty.int .i64,x1⟩:Rw)),Ai x2,Ai x3,Uu,Uu,Uu,Uu,Uu,Uu,Uu,Uu,Uu,Uu,Uu,Uu,Uu,AV.one (Sr 1000001),Ai x4,Ai x5]++Ur 30) [(1000000,(Ent.grp 110 (Ty.bool.pair Ty.bool) x6)),(1000001,Er ⟨110,Ty.bool.pair Ty.bool,x7⟩),(1000002,(Ent.mit ((Ty.row (nat_lit 9) Ty.str).pair (Ty.row (nat_lit 3) (Ty.int .i64))) x8 x9))])
def zdx(x0:Int)(x1:Li)(x2 x3:Int)(x4:List ((Int×Int)×Option (List (Bool×Bool))))(x5 x6:List (Int×Lb×Li)):St:=(St.mk ([Uu,Uu,Uu,AV.one (SV.mapr 1000000),Uu,Uu,Uu,Uu,Uu,Ai x0,Uu,Uu,Uu,Uu,Uu,Uu,Uu,Uu,Uu,Uu,Uu,Uu,Uu,Uu,Uu,Uu,Uu,Uu,Uu,Uu,Uu,Uu,Uu,Uu,Uu,Uu,Uu,Uu,Uu,Uu,Uu,Uu,Uu,Uu,Uu,Uu,Uu,Uu,Uu,Uu,Uu,Uu,Uu,Uu,Uu,Uu,Uu,Uu,Uu,Uu,Uu,Uu,Uu,Uu,Uu,Uu,Uu,Uu,Uu,Uu,Uu,Uu,Uu,Uu,Uu,Uu,Uu,Uu,Uu,Uu,Uu,Uu,Uu,Uu,Uu,Uu,Uu,Uu,Uu,Uu,Uu,Uu,Uu,Uu,Uu,Uu,Uu,Uu,Uu,Uu,Uu,Uu,Uu,Uu,Uu,Uu,Uu,Uu,Uu,Uu,Uu,Uu,Uu,Uu,Uu,Uu,Uu,Uu,Uu,Uu,Uu,Uu,Uu,Uu,Uu,Uu,Uu,Uu,Uu,Uu,Uu,Uu,Uu,Uu,Uu,Uu,Uu,Uu,Uu,Uu,Uu,Uu,Uu,Uu,Uu,Uu,Uu,Uu,Uu,Uu,Uu,Uu,Uu,Uu,Uu,Uu,Uu,Uu,Uu,Uu,Uu,Uu,Uu,Uu,Uu,Uu,Uu,Uu,Uu,AV.one (SV.bptr 1000001 0),Uu,Uu,Uu,Uu,Uu,Uu,AV.one (SV.con (⟨3,Ty.int .i64,x1⟩:Rw)),Ai x2,Ai x3]++Ur 46) [(1000000,(Ent.grp 110 (Ty.bool.pair Ty.bool) x4)),(1000001,(Ent.mit ((Ty.row (nat_lit 9) Ty.str).pair (Ty.row (nat_lit 3) (Ty.int .i64))) x5 x6))])
def zc7(x0:List ((Int×Int)×Option (List (Bool×Bool))))(x1 x2:List (Int×Lb×Li)):St:=(St.mk ([Uu,Uu,Uu,AV.one (SV.mapr 1000000),Uu,Uu,Uu,Uu,Uu,Uu,Uu,Uu,Uu,Uu,Uu,Uu,Uu,Uu,Uu,Uu,Uu,Uu,Uu,Uu,Uu,Uu,Uu,Uu,Uu,Uu,Uu,Uu,Uu,Uu,Uu,Uu,Uu,Uu,Uu,Uu,Uu,Uu,Uu,Uu,Uu,Uu,Uu,Uu,Uu,Uu,Uu,Uu,Uu,Uu,Uu,Uu,Uu,Uu,Uu,Uu,Uu,Uu,Uu,Uu,Uu,Uu,Uu,Uu,Uu,Uu,Uu,Uu,Uu,Uu,Uu,Uu,Uu,Uu,Uu,Uu,Uu,Uu,Uu,Uu,Uu,Uu,Uu,Uu,Uu,Uu,Uu,Uu,Uu,Uu,Uu,Uu,Uu,Uu,Uu,Uu,Uu,Uu,Uu,Uu,Uu,Uu,Uu,Uu,Uu,Uu,Uu,Uu,Uu,Uu,Uu,Uu,Uu,Uu,Uu,Uu,Uu,Uu,Uu,Uu,Uu,Uu,Uu,Uu,Uu,Uu,Uu,Uu,Uu,Uu,Uu,Uu,Uu,Uu,Uu,Uu,Uu,Uu,Uu,Uu,Uu,Uu,Uu,Uu,Uu,Uu,Uu,Uu,Uu,Uu,Uu,Uu,Uu,Uu,Uu,Uu,Uu,Uu,Uu,Uu,Uu,Uu,Uu,Uu,Uu,AV.one (SV.bptr 1000001 0)]++Ur 55) [(1000000,(Ent.grp 110 (Ty.bool.pair Ty.bool) x0)),(1000001,(Ent.mit ((Ty.row (nat_lit 9) Ty.str).pair (Ty.row (nat_lit 3) (Ty.int .i64))) x1 x2))])
def zf0(x0:List (Br))(x1 x2:Int)(x3:Lb)(x4:Li)(x5:Lb)(x6:Li)(x7:List (Br))(x8:Int)(x9:List ((Int×Int)×Option (List (Bool×Bool)))):St:=(St.mk ([Uu,AV.one (SV.bptr 1000000 0),Uu,AV.one (SV.mapr 1000001),Uu,Uu,Uu,Uu,Uu,Uu,Uu,Uu,Uu,Uu,Uu,Uu,Uu,Uu,Uu,Uu,Uu,Uu,Uu,Uu,Uu,Uu,Uu,Uu,Uu,Uu,Uu,Uu,Uu,Uu,Uu,Uu,Uu,Uu,Uu,Uu,Uu,Uu,Uu,Uu,Uu,Uu,Uu,Uu,Uu,Uu,Uu,Uu,Uu,Uu,Uu,Uu,AV.one (SV.con (⟨71,ySp,x0⟩:Rw)),Ai x1,Ai x2]++Ur 166) [(1000000,(Ent.box [SV.con (⟨9,Ty.str,x3⟩:Rw),SV.con (⟨3,Ty.int .i64,x4⟩:Rw),SV.con (⟨9,Ty.str,x5⟩:Rw),SV.con (⟨3,Ty.int .i64,x6⟩:Rw),SV.con (⟨71,ySp,x7⟩:Rw),Si x8])),(1000001,(Ent.grp 110 (Ty.bool.pair Ty.bool) x9))])
noncomputable def zju(n:Nat)(lL5:(List (Br))→Int→Int→Lb→Li→Lb→Li→(List (Br))→Int→(List ((Int×Int)×Option (List (Bool×Bool))))→Option R17)(a:Mm):Option R17 :=
 (q62 n ((a.1.1,a.1.2),())).bind fun r0=>cond (!r0.1.1) (some ((false,()),())) (cond (!decide ((↑(List.length a.1.2):Int)=(12:Int))) (some ((false,()),())) ((q62 n ((a.2.1.1,a.2.1.2),())).bind fun r1=>cond (!r1.1.1) (some ((false,()),())) (cond (!decide ((↑(List.length a.2.1.2):Int)=(12:Int))) (some ((false,()),())) (cond (!decide ((↑(List.length a.2.2.1):Int)=(5:Int))) (some ((false,()),())) ((q59 n (a.2.2.2,(0:Int),(11:Int),())).bind fun r2=>cond (!r2.1.1) (some ((false,()),())) (lL5 a.2.2.1 ((↑(List.length a.2.2.1):Int)) (0:Int) a.1.1 a.1.2 a.2.1.1 a.2.1.2 a.2.2.1 a.2.2.2 ([])))))))
noncomputable def za8(n:Nat)(lL13:(List (Br))→Int→Int→Lq→Int→Int→Lb→Li→Lb→Li→(List (Br))→Int→(List ((Int×Int)×Option (List (Bool×Bool))))→Bool→Lq→Lq→Option R17)(lL5:(List (Br))→Int→Int→Lb→Li→Lb→Li→(List (Br))→Int→(List ((Int×Int)×Option (List (Bool×Bool))))→Option R17)(x0:List (Br))(x1 x2:Int)(x3:Lq)(x4 x5:Int)(x6:Lb)(x7:Li)(x8:Lb)(x9:Li)(x10:List (Br))(x11:Int)(x12:List ((Int×Int)×Option (List (Bool×Bool))))(x13:Bool)(x14 x15:Lq):Option R17 :=
 cond (decide (x5<x4)) (cond (decide (0≤x5)) (cond (decide (x5<(↑x3.length:Int))) (cond (decide ((x3.getD x5.toNat ((0:Int),(0:Int),false,false)).1=(0:Int))) (cond (!(decide ((x3.getD x5.toNat ((0:Int),(0:Int),false,false)).1=(0:Int))&&(decide ((x3.getD x5.toNat ((0:Int),(0:Int),false,false)).2.1=(0:Int))&&((x3.getD x5.toNat ((0:Int),(0:Int),false,false)).2.2.1 == false&&((x3.getD x5.toNat ((0:Int),(0:Int),false,false)).2.2.2 == false&&true))))) (some ((false,()),())) (lL13 x0 x1 x2 x3 x4 (IntKind.i64.wrap (x5+1)) x6 x7 x8 x9 x10 x11 x12 x13 x14 x15)) ((q60 n (x14,x5,())).bind fun r6=>cond (decide (r6.1.1<(0:Int))) (cond (!(decide ((x3.getD x5.toNat ((0:Int),(0:Int),false,false)).1=(0:Int))&&(decide ((x3.getD x5.toNat ((0:Int),(0:Int),false,false)).2.1=(0:Int))&&((x3.getD x5.toNat ((0:Int),(0:Int),false,false)).2.2.1 == false&&((x3.getD x5.toNat ((0:Int),(0:Int),false,false)).2.2.2 == false&&true))))) (some ((false,()),())) (lL13 x0 x1 x2 x3 x4 (IntKind.i64.wrap (x5+1)) x6 x7 x8 x9 x10 x11 x12 x13 x14 x15)) (cond (decide ((x3.getD x5.toNat ((0:Int),(0:Int),false,false)).1=(1:Int))) ((q64 n ((x6,x7),(x3.getD x5.toNat ((0:Int),(0:Int),false,false)).2.1,())).bind fun r7=>cond (!r7.1.1) (some ((false,()),())) (cond (decide ((x3.getD x5.toNat ((0:Int),(0:Int),false,false)).1=(2:Int))) ((q64 n ((x8,x9),(x3.getD x5.toNat ((0:Int),(0:Int),false,false)).2.1,())).bind fun r8=>cond (!r8.1.1) (some ((false,()),())) ((q59 n ((x3.getD x5.toNat ((0:Int),(0:Int),false,false)).1,(1:Int),(2:Int),())).bind fun r9=>cond (!r9.1.1) (some ((false,()),())) ((q65 n ((x13,x14,x15),x5,())).bind fun r10=>cond r10.1.1 (cond (!(x3.getD x5.toNat ((0:Int),(0:Int),false,false)).2.2.1) (some ((false,()),())) ((q65 n ((x13,x14,x15),x5,())).bind fun r11=>cond (gok x12 (x3.getD x5.toNat ((0:Int),(0:Int),false,false)).1 (x3.getD x5.toNat ((0:Int),(0:Int),false,false)).2.1) (cond (decide (((gvl x12 (x3.getD x5.toNat ((0:Int),(0:Int),false,false)).1 (x3.getD x5.toNat ((0:Int),(0:Int),false,false)).2.1).length+[((x3.getD x5.toNat ((0:Int),(0:Int),false,false)).2.2.1,r11.1.1)].length)*(2:Nat)≤(140737488355328:Nat))) (cond (decide ((0:Int)≤(↑(gfi x12 (x3.getD x5.toNat ((0:Int),(0:Int),false,false)).1 (x3.getD x5.toNat ((0:Int),(0:Int),false,false)).2.1):Int))&&decide ((↑(gfi x12 (x3.getD x5.toNat ((0:Int),(0:Int),false,false)).1 (x3.getD x5.toNat ((0:Int),(0:Int),false,false)).2.1):Int)<(↑(gou x12 (x3.getD x5.toNat ((0:Int),(0:Int),false,false)).1 (x3.getD x5.toNat ((0:Int),(0:Int),false,false)).2.1).length:Int))) (lL13 x0 x1 x2 x3 x4 (IntKind.i64.wrap (x5+1)) x6 x7 x8 x9 x10 x11 (gbk (gou x12 (x3.getD x5.toNat ((0:Int),(0:Int),false,false)).1 (x3.getD x5.toNat ((0:Int),(0:Int),false,false)).2.1) (↑(gfi x12 (x3.getD x5.toNat ((0:Int),(0:Int),false,false)).1 (x3.getD x5.toNat ((0:Int),(0:Int),false,false)).2.1):Int) (gvl x12 (x3.getD x5.toNat ((0:Int),(0:Int),false,false)).1 (x3.getD x5.toNat ((0:Int),(0:Int),false,false)).2.1++[((x3.getD x5.toNat ((0:Int),(0:Int),false,false)).2.2.1,r11.1.1)])) x13 x14 x15) none) none) none)) ((q65 n ((x13,x14,x15),x5,())).bind fun r12=>cond (gok x12 (x3.getD x5.toNat ((0:Int),(0:Int),false,false)).1 (x3.getD x5.toNat ((0:Int),(0:Int),false,false)).2.1) (cond (decide (((gvl x12 (x3.getD x5.toNat ((0:Int),(0:Int),false,false)).1 (x3.getD x5.toNat ((0:Int),(0:Int),false,false)).2.1).length+[((x3.getD x5.toNat ((0:Int),(0:Int),false,false)).2.2.1,r12.1.1)].length)*(2:Nat)≤(140737488355328:Nat))) (cond (decide ((0:Int)≤(↑(gfi x12 (x3.getD x5.toNat ((0:Int),(0:Int),false,false)).1 (x3.getD x5.toNat ((0:Int),(0:Int),false,false)).2.1):Int))&&decide ((↑(gfi x12 (x3.getD x5.toNat ((0:Int),(0:Int),false,false)).1 (x3.getD x5.toNat ((0:Int),(0:Int),false,false)).2.1):Int)<(↑(gou x12 (x3.getD x5.toNat ((0:Int),(0:Int),false,false)).1 (x3.getD x5.toNat ((0:Int),(0:Int),false,false)).2.1).length:Int))) (lL13 x0 x1 x2 x3 x4 (IntKind.i64.wrap (x5+1)) x6 x7 x8 x9 x10 x11 (gbk (gou x12 (x3.getD x5.toNat ((0:Int),(0:Int),false,false)).1 (x3.getD x5.toNat ((0:Int),(0:Int),false,false)).2.1) (↑(gfi x12 (x3.getD x5.toNat ((0:Int),(0:Int),false,false)).1 (x3.getD x5.toNat ((0:Int),(0:Int),false,false)).2.1):Int) (gvl x12 (x3.getD x5.toNat ((0:Int),(0:Int),false,false)).1 (x3.getD x5.toNat ((0:Int),(0:Int),false,false)).2.1++[((x3.getD x5.toNat ((0:Int),(0:Int),false,false)).2.2.1,r12.1.1)])) x13 x14 x15) none) none) none)))) ((q59 n ((x3.getD x5.toNat ((0:Int),(0:Int),false,false)).1,(1:Int),(2:Int),())).bind fun r13=>cond (!r13.1.1) (some ((false,()),())) ((q65 n ((x13,x14,x15),x5,())).bind fun r14=>cond r14.1.1 (cond (!(x3.getD x5.toNat ((0:Int),(0:Int),false,false)).2.2.1) (some ((false,()),())) ((q65 n ((x13,x14,x15),x5,())).bind fun r15=>cond (gok x12 (x3.getD x5.toNat ((0:Int),(0:Int),false,false)).1 (x3.getD x5.toNat ((0:Int),(0:Int),false,false)).2.1) (cond (decide (((gvl x12 (x3.getD x5.toNat ((0:Int),(0:Int),false,false)).1 (x3.getD x5.toNat ((0:Int),(0:Int),false,false)).2.1).length+[((x3.getD x5.toNat ((0:Int),(0:Int),false,false)).2.2.1,r15.1.1)].length)*(2:Nat)≤(140737488355328:Nat))) (cond (decide ((0:Int)≤(↑(gfi x12 (x3.getD x5.toNat ((0:Int),(0:Int),false,false)).1 (x3.getD x5.toNat ((0:Int),(0:Int),false,false)).2.1):Int))&&decide ((↑(gfi x12 (x3.getD x5.toNat ((0:Int),(0:Int),false,false)).1 (x3.getD x5.toNat ((0:Int),(0:Int),false,false)).2.1):Int)<(↑(gou x12 (x3.getD x5.toNat ((0:Int),(0:Int),false,false)).1 (x3.getD x5.toNat ((0:Int),(0:Int),false,false)).2.1).length:Int))) (lL13 x0 x1 x2 x3 x4 (IntKind.i64.wrap (x5+1)) x6 x7 x8 x9 x10 x11 (gbk (gou x12 (x3.getD x5.toNat ((0:Int),(0:Int),false,false)).1 (x3.getD x5.toNat ((0:Int),(0:Int),false,false)).2.1) (↑(gfi x12 (x3.getD x5.toNat ((0:Int),(0:Int),false,false)).1 (x3.getD x5.toNat ((0:Int),(0:Int),false,false)).2.1):Int) (gvl x12 (x3.getD x5.toNat ((0:Int),(0:Int),false,false)).1 (x3.getD x5.toNat ((0:Int),(0:Int),false,false)).2.1++[((x3.getD x5.toNat ((0:Int),(0:Int),false,false)).2.2.1,r15.1.1)])) x13 x14 x15) none) none) none)) ((q65 n ((x13,x14,x15),x5,())).bind fun r16=>cond (gok x12 (x3.getD x5.toNat ((0:Int),(0:Int),false,false)).1 (x3.getD x5.toNat ((0:Int),(0:Int),false,false)).2.1) (cond (decide (((gvl x12 (x3.getD x5.toNat ((0:Int),(0:Int),false,false)).1 (x3.getD x5.toNat ((0:Int),(0:Int),false,false)).2.1).length+[((x3.getD x5.toNat ((0:Int),(0:Int),false,false)).2.2.1,r16.1.1)].length)*(2:Nat)≤(140737488355328:Nat))) (cond (decide ((0:Int)≤(↑(gfi x12 (x3.getD x5.toNat ((0:Int),(0:Int),false,false)).1 (x3.getD x5.toNat ((0:Int),(0:Int),false,false)).2.1):Int))&&decide ((↑(gfi x12 (x3.getD x5.toNat ((0:Int),(0:Int),false,false)).1 (x3.getD x5.toNat ((0:Int),(0:Int),false,false)).2.1):Int)<(↑(gou x12 (x3.getD x5.toNat ((0:Int),(0:Int),false,false)).1 (x3.getD x5.toNat ((0:Int),(0:Int),false,false)).2.1).length:Int))) (lL13 x0 x1 x2 x3 x4 (IntKind.i64.wrap (x5+1)) x6 x7 x8 x9 x10 x11 (gbk (gou x12 (x3.getD x5.toNat ((0:Int),(0:Int),false,false)).1 (x3.getD x5.toNat ((0:Int),(0:Int),false,false)).2.1) (↑(gfi x12 (x3.getD x5.toNat ((0:Int),(0:Int),false,false)).1 (x3.getD x5.toNat ((0:Int),(0:Int),false,false)).2.1):Int) (gvl x12 (x3.getD x5.toNat ((0:Int),(0:Int),false,false)).1 (x3.getD x5.toNat ((0:Int),(0:Int),false,false)).2.1++[((x3.getD x5.toNat ((0:Int),(0:Int),false,false)).2.2.1,r16.1.1)])) x13 x14 x15) none) none) none))))) (cond (decide ((x3.getD x5.toNat ((0:Int),(0:Int),false,false)).1=(2:Int))) ((q64 n ((x8,x9),(x3.getD x5.toNat ((0:Int),(0:Int),false,false)).2.1,())).bind fun r17=>cond (!r17.1.1) (some ((false,()),())) ((q59 n ((x3.getD x5.toNat ((0:Int),(0:Int),false,false)).1,(1:Int),(2:Int),())).bind fun r18=>cond (!r18.1.1) (some ((false,()),())) ((q65 n ((x13,x14,x15),x5,())).bind fun r19=>cond r19.1.1 (cond (!(x3.getD x5.toNat ((0:Int),(0:Int),false,false)).2.2.1) (some ((false,()),())) ((q65 n ((x13,x14,x15),x5,())).bind fun r20=>cond (gok x12 (x3.getD x5.toNat ((0:Int),(0:Int),false,false)).1 (x3.getD x5.toNat ((0:Int),(0:Int),false,false)).2.1) (cond (decide (((gvl x12 (x3.getD x5.toNat ((0:Int),(0:Int),false,false)).1 (x3.getD x5.toNat ((0:Int),(0:Int),false,false)).2.1).length+[((x3.getD x5.toNat ((0:Int),(0:Int),false,false)).2.2.1,r20.1.1)].length)*(2:Nat)≤(140737488355328:Nat))) (cond (decide ((0:Int)≤(↑(gfi x12 (x3.getD x5.toNat ((0:Int),(0:Int),false,false)).1 (x3.getD x5.toNat ((0:Int),(0:Int),false,false)).2.1):Int))&&decide ((↑(gfi x12 (x3.getD x5.toNat ((0:Int),(0:Int),false,false)).1 (x3.getD x5.toNat ((0:Int),(0:Int),false,false)).2.1):Int)<(↑(gou x12 (x3.getD x5.toNat ((0:Int),(0:Int),false,false)).1 (x3.getD x5.toNat ((0:Int),(0:Int),false,false)).2.1).length:Int))) (lL13 x0 x1 x2 x3 x4 (IntKind.i64.wrap (x5+1)) x6 x7 x8 x9 x10 x11 (gbk (gou x12 (x3.getD x5.toNat ((0:Int),(0:Int),false,false)).1 (x3.getD x5.toNat ((0:Int),(0:Int),false,false)).2.1) (↑(gfi x12 (x3.getD x5.toNat ((0:Int),(0:Int),false,false)).1 (x3.getD x5.toNat ((0:Int),(0:Int),false,false)).2.1):Int) (gvl x12 (x3.getD x5.toNat ((0:Int),(0:Int),false,false)).1 (x3.getD x5.toNat ((0:Int),(0:Int),false,false)).2.1++[((x3.getD x5.toNat ((0:Int),(0:Int),false,false)).2.2.1,r20.1.1)])) x13 x14 x15) none) none) none)) ((q65 n ((x13,x14,x15),x5,())).bind fun r21=>cond (gok x12 (x3.getD x5.toNat ((0:Int),(0:Int),false,false)).1 (x3.getD x5.toNat ((0:Int),(0:Int),false,false)).2.1) (cond (decide (((gvl x12 (x3.getD x5.toNat ((0:Int),(0:Int),false,false)).1 (x3.getD x5.toNat ((0:Int),(0:Int),false,false)).2.1).length+[((x3.getD x5.toNat ((0:Int),(0:Int),false,false)).2.2.1,r21.1.1)].length)*(2:Nat)≤(140737488355328:Nat))) (cond (decide ((0:Int)≤(↑(gfi x12 (x3.getD x5.toNat ((0:Int),(0:Int),false,false)).1 (x3.getD x5.toNat ((0:Int),(0:Int),false,false)).2.1):Int))&&decide ((↑(gfi x12 (x3.getD x5.toNat ((0:Int),(0:Int),false,false)).1 (x3.getD x5.toNat ((0:Int),(0:Int),false,false)).2.1):Int)<(↑(gou x12 (x3.getD x5.toNat ((0:Int),(0:Int),false,false)).1 (x3.getD x5.toNat ((0:Int),(0:Int),false,false)).2.1).length:Int))) (lL13 x0 x1 x2 x3 x4 (IntKind.i64.wrap (x5+1)) x6 x7 x8 x9 x10 x11 (gbk (gou x12 (x3.getD x5.toNat ((0:Int),(0:Int),false,false)).1 (x3.getD x5.toNat ((0:Int),(0:Int),false,false)).2.1) (↑(gfi x12 (x3.getD x5.toNat ((0:Int),(0:Int),false,false)).1 (x3.getD x5.toNat ((0:Int),(0:Int),false,false)).2.1):Int) (gvl x12 (x3.getD x5.toNat ((0:Int),(0:Int),false,false)).1 (x3.getD x5.toNat ((0:Int),(0:Int),false,false)).2.1++[((x3.getD x5.toNat ((0:Int),(0:Int),false,false)).2.2.1,r21.1.1)])) x13 x14 x15) none) none) none)))) ((q59 n ((x3.getD x5.toNat ((0:Int),(0:Int),false,false)).1,(1:Int),(2:Int),())).bind fun r22=>cond (!r22.1.1) (some ((false,()),())) ((q65 n ((x13,x14,x15),x5,())).bind fun r23=>cond r23.1.1 (cond (!(x3.getD x5.toNat ((0:Int),(0:Int),false,false)).2.2.1) (some ((false,()),())) ((q65 n ((x13,x14,x15),x5,())).bind fun r24=>cond (gok x12 (x3.getD x5.toNat ((0:Int),(0:Int),false,false)).1 (x3.getD x5.toNat ((0:Int),(0:Int),false,false)).2.1) (cond (decide (((gvl x12 (x3.getD x5.toNat ((0:Int),(0:Int),false,false)).1 (x3.getD x5.toNat ((0:Int),(0:Int),false,false)).2.1).length+[((x3.getD x5.toNat ((0:Int),(0:Int),false,false)).2.2.1,r24.1.1)].length)*(2:Nat)≤(140737488355328:Nat))) (cond (decide ((0:Int)≤(↑(gfi x12 (x3.getD x5.toNat ((0:Int),(0:Int),false,false)).1 (x3.getD x5.toNat ((0:Int),(0:Int),false,false)).2.1):Int))&&decide ((↑(gfi x12 (x3.getD x5.toNat ((0:Int),(0:Int),false,false)).1 (x3.getD x5.toNat ((0:Int),(0:Int),false,false)).2.1):Int)<(↑(gou x12 (x3.getD x5.toNat ((0:Int),(0:Int),false,false)).1 (x3.getD x5.toNat ((0:Int),(0:Int),false,false)).2.1).length:Int))) (lL13 x0 x1 x2 x3 x4 (IntKind.i64.wrap (x5+1)) x6 x7 x8 x9 x10 x11 (gbk (gou x12 (x3.getD x5.toNat ((0:Int),(0:Int),false,false)).1 (x3.getD x5.toNat ((0:Int),(0:Int),false,false)).2.1) (↑(gfi x12 (x3.getD x5.toNat ((0:Int),(0:Int),false,false)).1 (x3.getD x5.toNat ((0:Int),(0:Int),false,false)).2.1):Int) (gvl x12 (x3.getD x5.toNat ((0:Int),(0:Int),false,false)).1 (x3.getD x5.toNat ((0:Int),(0:Int),false,false)).2.1++[((x3.getD x5.toNat ((0:Int),(0:Int),false,false)).2.2.1,r24.1.1)])) x13 x14 x15) none) none) none)) ((q65 n ((x13,x14,x15),x5,())).bind fun r25=>cond (gok x12 (x3.getD x5.toNat ((0:Int),(0:Int),false,false)).1 (x3.getD x5.toNat ((0:Int),(0:Int),false,false)).2.1) (cond (decide (((gvl x12 (x3.getD x5.toNat ((0:Int),(0:Int),false,false)).1 (x3.getD x5.toNat ((0:Int),(0:Int),false,false)).2.1).length+[((x3.getD x5.toNat ((0:Int),(0:Int),false,false)).2.2.1,r25.1.1)].length)*(2:Nat)≤(140737488355328:Nat))) (cond (decide ((0:Int)≤(↑(gfi x12 (x3.getD x5.toNat ((0:Int),(0:Int),false,false)).1 (x3.getD x5.toNat ((0:Int),(0:Int),false,false)).2.1):Int))&&decide ((↑(gfi x12 (x3.getD x5.toNat ((0:Int),(0:Int),false,false)).1 (x3.getD x5.toNat ((0:Int),(0:Int),false,false)).2.1):Int)<(↑(gou x12 (x3.getD x5.toNat ((0:Int),(0:Int),false,false)).1 (x3.getD x5.toNat ((0:Int),(0:Int),false,false)).2.1).length:Int))) (lL13 x0 x1 x2 x3 x4 (IntKind.i64.wrap (x5+1)) x6 x7 x8 x9 x10 x11 (gbk (gou x12 (x3.getD x5.toNat ((0:Int),(0:Int),false,false)).1 (x3.getD x5.toNat ((0:Int),(0:Int),false,false)).2.1) (↑(gfi x12 (x3.getD x5.toNat ((0:Int),(0:Int),false,false)).1 (x3.getD x5.toNat ((0:Int),(0:Int),false,false)).2.1):Int) (gvl x12 (x3.getD x5.toNat ((0:Int),(0:Int),false,false)).1 (x3.getD x5.toNat ((0:Int),(0:Int),false,false)).2.1++[((x3.getD x5.toNat ((0:Int),(0:Int),false,false)).2.2.1,r25.1.1)])) x13 x14 x15) none) none) none))))))) none) none) (lL5 x0 x1 (IntKind.i64.wrap (x2+1)) x6 x7 x8 x9 x10 x11 x12)
noncomputable def zez(n:Nat)(lL41:Int→Int→Li→Int→Int→Int→Int→Int→Int→(List ((Int×Int)×Option (List (Bool×Bool))))→(List (Bool×Bool))→Bool→Bool→(List (Int×Lb×Li))→(List (Int×Lb×Li))→Option R17)(lL38:Int→Li→Int→Int→Int→Int→(List ((Int×Int)×Option (List (Bool×Bool))))→(List (Bool×Bool))→(List (Int×Lb×Li))→(List (Int×Lb×Li))→Option R17)(x0 x1:Int)(x2:Li)(x3 x4 x5 x6 x7 x8:Int)(x9:List ((Int×Int)×Option (List (Bool×Bool))))(x10:List (Bool×Bool))(x11 x12:Bool)(x13 x14:List (Int×Lb×Li)):Option R17 :=
 cond (decide (x8<x7)) (cond (decide (0≤x8)) (cond (decide (x8<(↑x10.length:Int))) (cond (!decide (x1=x8)) (cond x11 (cond x12 (cond (!(x10.getD x8.toNat (false,false)).2) (some ((false,()),())) (lL41 x0 x1 x2 x3 x4 x5 x6 x7 (IntKind.i64.wrap (x8+1)) x9 x10 x11 x12 x13 x14)) (some ((false,()),()))) (lL41 x0 x1 x2 x3 x4 x5 x6 x7 (IntKind.i64.wrap (x8+1)) x9 x10 x11 x12 x13 x14)) (lL41 x0 x1 x2 x3 x4 x5 x6 x7 (IntKind.i64.wrap (x8+1)) x9 x10 x11 x12 x13 x14)) none) none) (lL38 x0 x2 x3 x4 x5 (IntKind.i64.wrap (x6+1)) x9 x10 x13 x14)
noncomputable def ze0(n:Nat)(lL41:Int→Int→Li→Int→Int→Int→Int→Int→Int→(List ((Int×Int)×Option (List (Bool×Bool))))→(List (Bool×Bool))→Bool→Bool→(List (Int×Lb×Li))→(List (Int×Lb×Li))→Option R17)(lL32:Int→Li→Int→Int→(List ((Int×Int)×Option (List (Bool×Bool))))→(List (Int×Lb×Li))→(List (Int×Lb×Li))→Option R17)(x0:Int)(x1:Li)(x2 x3 x4 x5:Int)(x6:List ((Int×Int)×Option (List (Bool×Bool))))(x7:List (Bool×Bool))(x8 x9:List (Int×Lb×Li)):Option R17 :=
 cond (decide (x5<x4)) (cond (decide (0≤x5)) (cond (decide (x5<(↑x7.length:Int))) (lL41 x0 x5 x1 x2 x3 x4 x5 ((↑x7.length:Int)) (0:Int) x6 x7 ((x7.getD x5.toNat (false,false)).1) ((x7.getD x5.toNat (false,false)).2) x8 x9) none) none) (lL32 x0 x1 x2 (IntKind.i64.wrap (x3+1)) x6 x8 x9)
noncomputable def ze1(n:Nat)(lL38:Int→Li→Int→Int→Int→Int→(List ((Int×Int)×Option (List (Bool×Bool))))→(List (Bool×Bool))→(List (Int×Lb×Li))→(List (Int×Lb×Li))→Option R17)(lL29:(List ((Int×Int)×Option (List (Bool×Bool))))→(List (Int×Lb×Li))→(List (Int×Lb×Li))→Option R17)(x0:Int)(x1:Li)(x2 x3:Int)(x4:List ((Int×Int)×Option (List (Bool×Bool))))(x5 x6:List (Int×Lb×Li)):Option R17 :=
 cond (decide (x3<x2)) (cond (decide (0≤x3)) (cond (decide (x3<(↑x1.length:Int))) (cond (gok x4 x0 x3) (cond (!decide ((↑(gvl x4 x0 x3).length:Int)=x1.getD x3.toNat (0:Int))) (some ((false,()),())) (lL38 x0 x1 x2 x3 ((↑(gvl x4 x0 x3).length:Int)) (0:Int) (gol x4 x0 x3) (gvl x4 x0 x3) x5 x6)) none) none) none) (lL29 x4 x5 x6)
noncomputable def ze2(n:Nat)(lL32:Int→Li→Int→Int→(List ((Int×Int)×Option (List (Bool×Bool))))→(List (Int×Lb×Li))→(List (Int×Lb×Li))→Option R17)(x0:List ((Int×Int)×Option (List (Bool×Bool))))(x1 x2:List (Int×Lb×Li)):Option R17 :=
 cond (decide (x2.length=(0:Nat))) (some ((true,()),())) (allL (x2.length) (fun i27=>lL32 ((x2.getD i27 ((0:Int),[],[])).1) ((x2.getD i27 ((0:Int),[],[])).2.2) ((↑(List.length (x2.getD i27 ((0:Int),[],[])).2.2):Int)) (0:Int) x0 ([x2.getD i27 ((0:Int),[],[])]) (x2.eraseIdx i27)))
noncomputable def zia(n:Nat)(lL5:(List (Br))→Int→Int→Lb→Li→Lb→Li→(List (Br))→Int→(List ((Int×Int)×Option (List (Bool×Bool))))→Option R17)(lL13:(List (Br))→Int→Int→Lq→Int→Int→Lb→Li→Lb→Li→(List (Br))→Int→(List ((Int×Int)×Option (List (Bool×Bool))))→Bool→Lq→Lq→Option R17)(lL29:(List ((Int×Int)×Option (List (Bool×Bool))))→(List (Int×Lb×Li))→(List (Int×Lb×Li))→Option R17)(x0:List (Br))(x1 x2:Int)(x3:Lb)(x4:Li)(x5:Lb)(x6:Li)(x7:List (Br))(x8:Int)(x9:List ((Int×Int)×Option (List (Bool×Bool)))):Option R17 :=
 cond (decide (x2<x1)) (cond (decide (0≤x2)) (cond (decide (x2<(↑x0.length:Int))) (cond (!(x0.getD x2.toNat (false,[],[])).1) (cond (decide ((0:Int)<(↑(List.length (x0.getD x2.toNat (false,[],[])).2.1):Int))) (some ((false,()),())) (cond (decide ((0:Int)<(↑(List.length (x0.getD x2.toNat (false,[],[])).2.2):Int))) (some ((false,()),())) (lL5 x0 x1 (IntKind.i64.wrap (x2+1)) x3 x4 x5 x6 x7 x8 x9))) ((q63 n ((x0.getD x2.toNat (false,[],[])).2.1,())).bind fun r4=>cond (!r4.1.1) (some ((false,()),())) (cond (!decide ((↑(List.length (x0.getD x2.toNat (false,[],[])).2.2):Int)=(16:Int))) (some ((false,()),())) (lL13 x0 x1 x2 ((x0.getD x2.toNat (false,[],[])).2.2) ((↑(List.length (x0.getD x2.toNat (false,[],[])).2.2):Int)) (0:Int) x3 x4 x5 x6 x7 x8 x9 ((x0.getD x2.toNat (false,[],[])).1) ((x0.getD x2.toNat (false,[],[])).2.1) ((x0.getD x2.toNat (false,[],[])).2.2))))) none) none) (lL29 x9 ([]) ([((1:Int),x3,x4)]++[((2:Int),x5,x6)]))
theorem yln(n:Nat)(a:Mm):runF TT G17 an17 Try.f17 c17 ps17 rs17 n (a,())=zju n (fun x0 x1 x2 x3 x4 x5 x6 x7 x8 x9=>at17 n (.head 5) [n] (zf0 x0 x1 x2 x3 x4 x5 x6 x7 x8 x9)) a:=by kernel_rfl
theorem zzv(n m5:Nat)(x0:List (Br))(x1 x2:Int)(x3:Lq)(x4 x5:Int)(x6:Lb)(x7:Li)(x8:Lb)(x9:Li)(x10:List (Br))(x11:Int)(x12:List ((Int×Int)×Option (List (Bool×Bool))))(x13:Bool)(x14 x15:Lq):at17 n (.head 13) [m5,0] (zg3 x0 x1 x2 x3 x4 x5 x6 x7 x8 x9 x10 x11 x12 x13 x14 x15)=none:=by kernel_rfl
theorem yls(n m5 m13:Nat)(x0:List (Br))(x1 x2:Int)(x3:Lq)(x4 x5:Int)(x6:Lb)(x7:Li)(x8:Lb)(x9:Li)(x10:List (Br))(x11:Int)(x12:List ((Int×Int)×Option (List (Bool×Bool))))(x13:Bool)(x14 x15:Lq):at17 n (.head 13) [m5,m13+1] (zg3 x0 x1 x2 x3 x4 x5 x6 x7 x8 x9 x10 x11 x12 x13 x14 x15)=za8 n (fun x0 x1 x2 x3 x4 x5 x6 x7 x8 x9 x10 x11 x12 x13 x14 x15=>at17 n (.head 13) [m5,m13] (zg3 x0 x1 x2 x3 x4 x5 x6 x7 x8 x9 x10 x11 x12 x13 x14 x15)) (fun x0 x1 x2 x3 x4 x5 x6 x7 x8 x9=>at17 n (.head 5) [m5] (zf0 x0 x1 x2 x3 x4 x5 x6 x7 x8 x9)) x0 x1 x2 x3 x4 x5 x6 x7 x8 x9 x10 x11 x12 x13 x14 x15:=by kernel_rfl
theorem zzr(n m29 m32 m38:Nat)(x0 x1:Int)(x2:Li)(x3 x4 x5 x6 x7 x8:Int)(x9:List ((Int×Int)×Option (List (Bool×Bool))))(x10:List (Bool×Bool))(x11 x12:Bool)(x13 x14:List (Int×Lb×Li)):at17 n (.head 41) [m29,m32,m38,0] (zg2 x0 x1 x2 x3 x4 x5 x6 x7 x8 x9 x10 x11 x12 x13 x14)=none:=by kernel_rfl
theorem ylo(n m29 m32 m38 m41:Nat)(x0 x1:Int)(x2:Li)(x3 x4 x5 x6 x7 x8:Int)(x9:List ((Int×Int)×Option (List (Bool×Bool))))(x10:List (Bool×Bool))(x11 x12:Bool)(x13 x14:List (Int×Lb×Li)):at17 n (.head 41) [m29,m32,m38,m41+1] (zg2 x0 x1 x2 x3 x4 x5 x6 x7 x8 x9 x10 x11 x12 x13 x14)=zez n (fun x0 x1 x2 x3 x4 x5 x6 x7 x8 x9 x10 x11 x12 x13 x14=>at17 n (.head 41) [m29,m32,m38,m41] (zg2 x0 x1 x2 x3 x4 x5 x6 x7 x8 x9 x10 x11 x12 x13 x14)) (fun x0 x1 x2 x3 x4 x5 x6 x7 x8 x9=>at17 n (.head 38) [m29,m32,m38] (zfd x0 x1 x2 x3 x4 x5 x6 x7 x8 x9)) x0 x1 x2 x3 x4 x5 x6 x7 x8 x9 x10 x11 x12 x13 x14:=by kernel_rfl
theorem zzs(n m29 m32:Nat)(x0:Int)(x1:Li)(x2 x3 x4 x5:Int)(x6:List ((Int×Int)×Option (List (Bool×Bool))))(x7:List (Bool×Bool))(x8 x9:List (Int×Lb×Li)):at17 n (.head 38) [m29,m32,0] (zfd x0 x1 x2 x3 x4 x5 x6 x7 x8 x9)=none:=by kernel_rfl
theorem ylp(n m29 m32 m38:Nat)(x0:Int)(x1:Li)(x2 x3 x4 x5:Int)(x6:List ((Int×Int)×Option (List (Bool×Bool))))(x7:List (Bool×Bool))(x8 x9:List (Int×Lb×Li)):at17 n (.head 38) [m29,m32,m38+1] (zfd x0 x1 x2 x3 x4 x5 x6 x7 x8 x9)=ze0 n (fun x0 x1 x2 x3 x4 x5 x6 x7 x8 x9 x10 x11 x12 x13 x14=>at17 n (.head 41) [m29,m32,m38,n] (zg2 x0 x1 x2 x3 x4 x5 x6 x7 x8 x9 x10 x11 x12 x13 x14)) (fun x0 x1 x2 x3 x4 x5 x6=>at17 n (.head 32) [m29,m32] (zdx x0 x1 x2 x3 x4 x5 x6)) x0 x1 x2 x3 x4 x5 x6 x7 x8 x9:=by kernel_rfl
theorem zzt(n m29:Nat)(x0:Int)(x1:Li)(x2 x3:Int)(x4:List ((Int×Int)×Option (List (Bool×Bool))))(x5 x6:List (Int×Lb×Li)):at17 n (.head 32) [m29,0] (zdx x0 x1 x2 x3 x4 x5 x6)=none:=by kernel_rfl
theorem ylq(n m29 m32:Nat)(x0:Int)(x1:Li)(x2 x3:Int)(x4:List ((Int×Int)×Option (List (Bool×Bool))))(x5 x6:List (Int×Lb×Li)):at17 n (.head 32) [m29,m32+1] (zdx x0 x1 x2 x3 x4 x5 x6)=ze1 n (fun x0 x1 x2 x3 x4 x5 x6 x7 x8 x9=>at17 n (.head 38) [m29,m32,n] (zfd x0 x1 x2 x3 x4 x5 x6 x7 x8 x9)) (fun x0 x1 x2=>at17 n (.head 29) [m29] (zc7 x0 x1 x2)) x0 x1 x2 x3 x4 x5 x6:=by kernel_rfl
theorem zzu(n:Nat)(x0:List ((Int×Int)×Option (List (Bool×Bool))))(x1 x2:List (Int×Lb×Li)):at17 n (.head 29) [0] (zc7 x0 x1 x2)=none:=by kernel_rfl
theorem ylr(n m29:Nat)(x0:List ((Int×Int)×Option (List (Bool×Bool))))(x1 x2:List (Int×Lb×Li)):at17 n (.head 29) [m29+1] (zc7 x0 x1 x2)=ze2 n (fun x0 x1 x2 x3 x4 x5 x6=>at17 n (.head 32) [m29,n] (zdx x0 x1 x2 x3 x4 x5 x6)) x0 x1 x2:=by kernel_rfl
theorem ye8(n:Nat)(x0:List (Br))(x1 x2:Int)(x3:Lb)(x4:Li)(x5:Lb)(x6:Li)(x7:List (Br))(x8:Int)(x9:List ((Int×Int)×Option (List (Bool×Bool)))):at17 n (.head 5) [0] (zf0 x0 x1 x2 x3 x4 x5 x6 x7 x8 x9)=none:=by kernel_rfl
theorem yrc(n m5:Nat)(x0:List (Br))(x1 x2:Int)(x3:Lb)(x4:Li)(x5:Lb)(x6:Li)(x7:List (Br))(x8:Int)(x9:List ((Int×Int)×Option (List (Bool×Bool)))):at17 n (.head 5) [m5+1] (zf0 x0 x1 x2 x3 x4 x5 x6 x7 x8 x9)=zia n (fun x0 x1 x2 x3 x4 x5 x6 x7 x8 x9=>at17 n (.head 5) [m5] (zf0 x0 x1 x2 x3 x4 x5 x6 x7 x8 x9)) (fun x0 x1 x2 x3 x4 x5 x6 x7 x8 x9 x10 x11 x12 x13 x14 x15=>at17 n (.head 13) [m5,n] (zg3 x0 x1 x2 x3 x4 x5 x6 x7 x8 x9 x10 x11 x12 x13 x14 x15)) (fun x0 x1 x2=>at17 n (.head 29) [n] (zc7 x0 x1 x2)) x0 x1 x2 x3 x4 x5 x6 x7 x8 x9:=by kernel_rfl
noncomputable def za9(g5:(List (Br))→Int→Int→Lb→Li→Lb→Li→(List (Br))→Int→(List ((Int×Int)×Option (List (Bool×Bool))))→Option R17)(n:Nat):Nat→(List (Br))→Int→Int→Lq→Int→Int→Lb→Li→Lb→Li→(List (Br))→Int→(List ((Int×Int)×Option (List (Bool×Bool))))→Bool→Lq→Lq→Option R17
 |0,_,_,_,_,_,_,_,_,_,_,_,_,_,_,_,_=>none
 |m+1,x0,x1,x2,x3,x4,x5,x6,x7,x8,x9,x10,x11,x12,x13,x14,x15=>za8 n (za9 g5 n m) g5 x0 x1 x2 x3 x4 x5 x6 x7 x8 x9 x10 x11 x12 x13 x14 x15
noncomputable def zcy(g29:(List ((Int×Int)×Option (List (Bool×Bool))))→(List (Int×Lb×Li))→(List (Int×Lb×Li))→Option R17)(g32:Int→Li→Int→Int→(List ((Int×Int)×Option (List (Bool×Bool))))→(List (Int×Lb×Li))→(List (Int×Lb×Li))→Option R17)(g38:Int→Li→Int→Int→Int→Int→(List ((Int×Int)×Option (List (Bool×Bool))))→(List (Bool×Bool))→(List (Int×Lb×Li))→(List (Int×Lb×Li))→Option R17)(n:Nat):Nat→Int→Int→Li→Int→Int→Int→Int→Int→Int→(List ((Int×Int)×Option (List (Bool×Bool))))→(List (Bool×Bool))→Bool→Bool→(List (Int×Lb×Li))→(List (Int×Lb×Li))→Option R17
 |0,_,_,_,_,_,_,_,_,_,_,_,_,_,_,_=>none
 |m+1,x0,x1,x2,x3,x4,x5,x6,x7,x8,x9,x10,x11,x12,x13,x14=>zez n (zcy g29 g32 g38 n m) g38 x0 x1 x2 x3 x4 x5 x6 x7 x8 x9 x10 x11 x12 x13 x14
noncomputable def zcz(g29:(List ((Int×Int)×Option (List (Bool×Bool))))→(List (Int×Lb×Li))→(List (Int×Lb×Li))→Option R17)(g32:Int→Li→Int→Int→(List ((Int×Int)×Option (List (Bool×Bool))))→(List (Int×Lb×Li))→(List (Int×Lb×Li))→Option R17)(n:Nat):Nat→Int→Li→Int→Int→Int→Int→(List ((Int×Int)×Option (List (Bool×Bool))))→(List (Bool×Bool))→(List (Int×Lb×Li))→(List (Int×Lb×Li))→Option R17
 |0,_,_,_,_,_,_,_,_,_,_=>none
 |m+1,x0,x1,x2,x3,x4,x5,x6,x7,x8,x9=>ze0 n (zcy g29 g32 (zcz g29 g32 n m) n n) g32 x0 x1 x2 x3 x4 x5 x6 x7 x8 x9
noncomputable def zdz(g29:(List ((Int×Int)×Option (List (Bool×Bool))))→(List (Int×Lb×Li))→(List (Int×Lb×Li))→Option R17)(n:Nat):Nat→Int→Li→Int→Int→(List ((Int×Int)×Option (List (Bool×Bool))))→(List (Int×Lb×Li))→(List (Int×Lb×Li))→Option R17
 |0,_,_,_,_,_,_,_=>none
 |m+1,x0,x1,x2,x3,x4,x5,x6=>ze1 n (zcz g29 (zdz g29 n m) n n) g29 x0 x1 x2 x3 x4 x5 x6
noncomputable def zf6(n:Nat):Nat→(List ((Int×Int)×Option (List (Bool×Bool))))→(List (Int×Lb×Li))→(List (Int×Lb×Li))→Option R17
 |0,_,_,_=>none
 |m+1,x0,x1,x2=>ze2 n (zdz (zf6 n m) n n) x0 x1 x2
noncomputable def zd3(n:Nat):Nat→(List (Br))→Int→Int→Lb→Li→Lb→Li→(List (Br))→Int→(List ((Int×Int)×Option (List (Bool×Bool))))→Option R17
 |0,_,_,_,_,_,_,_,_,_,_=>none
 |m+1,x0,x1,x2,x3,x4,x5,x6,x7,x8,x9=>zia n (zd3 n m) (za9 (zd3 n m) n n) (zf6 n n) x0 x1 x2 x3 x4 x5 x6 x7 x8 x9
noncomputable def p17(n:Nat)(a:Mm):Option R17:=zju n (zd3 n n) a
theorem yh4(n m5:Nat):∀ (m13:Nat) (x0:List (Br)) (x1 x2:Int) (x3:Lq) (x4 x5:Int) (x6:Lb) (x7:Li) (x8:Lb) (x9:Li) (x10:List (Br)) (x11:Int) (x12:List ((Int×Int)×Option (List (Bool×Bool)))) (x13:Bool) (x14 x15:Lq),at17 n (.head 13) [m5,m13] (zg3 x0 x1 x2 x3 x4 x5 x6 x7 x8 x9 x10 x11 x12 x13 x14 x15)=za9 (fun x0 x1 x2 x3 x4 x5 x6 x7 x8 x9=>at17 n (.head 5) [m5] (zf0 x0 x1 x2 x3 x4 x5 x6 x7 x8 x9)) n m13 x0 x1 x2 x3 x4 x5 x6 x7 x8 x9 x10 x11 x12 x13 x14 x15:=by
 intro m
 induction m with
 |zero=>intros;rw[zzv];rfl
 |succ m ih =>
  intros;rw[yls]
  try simp only[ih]
  rfl
theorem yh0(n m29 m32 m38:Nat):∀ (m41:Nat) (x0 x1:Int) (x2:Li) (x3 x4 x5 x6 x7 x8:Int) (x9:List ((Int×Int)×Option (List (Bool×Bool)))) (x10:List (Bool×Bool)) (x11 x12:Bool) (x13 x14:List (Int×Lb×Li)),at17 n (.head 41) [m29,m32,m38,m41] (zg2 x0 x1 x2 x3 x4 x5 x6 x7 x8 x9 x10 x11 x12 x13 x14)=zcy (fun x0 x1 x2=>at17 n (.head 29) [m29] (zc7 x0 x1 x2)) (fun x0 x1 x2 x3 x4 x5 x6=>at17 n (.head 32) [m29,m32] (zdx x0 x1 x2 x3 x4 x5 x6)) (fun x0 x1 x2 x3 x4 x5 x6 x7 x8 x9=>at17 n (.head 38) [m29,m32,m38] (zfd x0 x1 x2 x3 x4 x5 x6 x7 x8 x9)) n m41 x0 x1 x2 x3 x4 x5 x6 x7 x8 x9 x10 x11 x12 x13 x14:=by
 intro m
 induction m with
 |zero=>intros;rw[zzr];rfl
 |succ m ih =>
  intros;rw[ylo]
  try simp only[ih]
  rfl
theorem yh1(n m29 m32:Nat):∀ (m38:Nat) (x0:Int) (x1:Li) (x2 x3 x4 x5:Int) (x6:List ((Int×Int)×Option (List (Bool×Bool)))) (x7:List (Bool×Bool)) (x8 x9:List (Int×Lb×Li)),at17 n (.head 38) [m29,m32,m38] (zfd x0 x1 x2 x3 x4 x5 x6 x7 x8 x9)=zcz (fun x0 x1 x2=>at17 n (.head 29) [m29] (zc7 x0 x1 x2)) (fun x0 x1 x2 x3 x4 x5 x6=>at17 n (.head 32) [m29,m32] (zdx x0 x1 x2 x3 x4 x5 x6)) n m38 x0 x1 x2 x3 x4 x5 x6 x7 x8 x9:=by
 intro m
 induction m with
 |zero=>intros;rw[zzs];rfl
 |succ m ih =>
  intros;rw[ylp]
  try simp only[yh0,ih]
  rfl
theorem yh2(n m29:Nat):∀ (m32:Nat) (x0:Int) (x1:Li) (x2 x3:Int) (x4:List ((Int×Int)×Option (List (Bool×Bool)))) (x5 x6:List (Int×Lb×Li)),at17 n (.head 32) [m29,m32] (zdx x0 x1 x2 x3 x4 x5 x6)=zdz (fun x0 x1 x2=>at17 n (.head 29) [m29] (zc7 x0 x1 x2)) n m32 x0 x1 x2 x3 x4 x5 x6:=by
 intro m
 induction m with
 |zero=>intros;rw[zzt];rfl
 |succ m ih =>
  intros;rw[ylq]
  try simp only[yh1,ih]
  rfl
theorem yh3(n:Nat):∀ (m29:Nat) (x0:List ((Int×Int)×Option (List (Bool×Bool)))) (x1 x2:List (Int×Lb×Li)),at17 n (.head 29) [m29] (zc7 x0 x1 x2)=zf6 n m29 x0 x1 x2:=by
 intro m
 induction m with
 |zero=>intros;rw[zzu];rfl
 |succ m ih =>
  intros;rw[ylr]
  try simp only[yh2,ih]
  rfl
theorem yoj(n:Nat):∀ (m5:Nat) (x0:List (Br)) (x1 x2:Int) (x3:Lb) (x4:Li) (x5:Lb) (x6:Li) (x7:List (Br)) (x8:Int) (x9:List ((Int×Int)×Option (List (Bool×Bool)))),at17 n (.head 5) [m5] (zf0 x0 x1 x2 x3 x4 x5 x6 x7 x8 x9)=zd3 n m5 x0 x1 x2 x3 x4 x5 x6 x7 x8 x9:=by
 intro m
 induction m with
 |zero=>intros;rw[ye8];rfl
 |succ m ih =>
  intros;rw[yrc]
  try simp only[yh4,yh3,ih]
  rfl
noncomputable def q17(n:Nat)(x:zan ps17):Option R17:=p17 n x.1
noncomputable def Sm17:Sm:=⟨ps17,rs17,false,q17⟩
theorem gam17:GamOK Try.prog G17:=by intro f s h;unfold G17 at h;split at h;exact gj h y59;exact gj h y60;exact gj h y62;exact gj h y63;exact gj h y64;exact gj h y65;cases h
theorem hh17:Hp 17 Sm17:=hOf (zaf (an:=an17) (c:=c17) zax gam17 zaw Try.func17 (by kernel_rfl) rfl (by decide +kernel)) fun n x=>(yln n x.1).trans (by simp only[yoj];try rfl)
theorem y17:Gk 17 Sm17:=⟨⟨Try.f17,c17,Try.func17,by kernel_rfl,by decide +kernel⟩,hh17⟩
noncomputable def c112:Code:=(Try.f112.body.getD .skip)
def yrz:An:=⟨fun _=>⟨[],[]⟩,fun _ _=>none⟩
abbrev ydn:List PK:=[.val tPg true]
abbrev yjk:List RK:=[.own tPg true]
abbrev R112:=zak yjk×zaj ydn
noncomputable def G112:Gam:=fun _=>none
noncomputable def zgr(n:Nat)(a:Lb×Li):Option R112 :=
 cond (decide (((0:Nat)+List.length a.1)*(16:Nat)≤(140737488355328:Nat))) (cond (decide (((0:Nat)+List.length a.2)*(8:Nat)≤(140737488355328:Nat))) (some (((a.1,a.2),()),())) none) none
theorem yf3(n:Nat)(a:Lb×Li):runF TT G112 yrz Try.f112 c112 ydn yjk n (a,())=zgr n a:=by kernel_rfl
noncomputable def p112(n:Nat)(a:Lb×Li):Option R112:=zgr n a
noncomputable def q112(n:Nat)(x:zan ydn):Option R112:=p112 n x.1
noncomputable def ynr:Sm:=⟨ydn,yjk,false,q112⟩
theorem yql:GamOK Try.prog G112:=fun _ _ h=>by cases h
theorem hh112:Hp 112 ynr:=hOf (zaf (an:=yrz) (c:=c112) zax yql zaw Try.func112 (by kernel_rfl) rfl (by decide +kernel)) fun n x=>(yf3 n x.1).trans rfl
theorem y112:Gk 112 ynr:=⟨⟨Try.f112,c112,Try.func112,by kernel_rfl,by decide +kernel⟩,hh112⟩
noncomputable def c113:Code:=(Try.f113.body.getD .skip)
abbrev ydm:List PK:=[.val (.row 80 tSl) false]
abbrev yop:List RK:=[.own (.row 80 tSl) false]
abbrev R113:=zak yop×zaj ydm
noncomputable def p113(n:Nat)(a:Lq):Option R113:=cond (decide ((0+a.length)*(24:Nat)≤(140737488355328:Nat))) (some ((a,()),())) none
noncomputable def q113(n:Nat)(x:zan ydm):Option R113:=p113 n x.1
noncomputable def ynq:Sm:=⟨ydm,yop,false,q113⟩
noncomputable def yhp(n:Nat)(xs:Lq):St:=(zip Try.f113.ntmps ydm (xs,())).put (some 2) (.one .nil)
noncomputable def yr6(n:Nat)(xs:Lq):St:=(yhp n xs).put (some 3) (.one (.con ⟨80,tSl,xs⟩))
theorem yei:GamOK Try.prog (fun _=>none):=fun f s h=>by cases h
theorem hh113:ziw Try.prog 113 ynq:=by
 refine zoh zax yei zaw (an:=⟨fun _=>⟨[],[]⟩,fun _ _=>none⟩) Try.func113 (by rfl) rfl (by first|exact Try.underlying69|kernel_rfl) (by decide +kernel) yhp (fun n xs=>by kernel_rfl) yr6 (fun n xs=>by kernel_rfl) (fun n xs=>rfl) (fun n xs b=>by kernel_rfl) (fun n y h=>?_) (fun n xs y h=>?_)
 ·have h':some (([],()),())=some y:=h;refine Eq.trans ?_ h'
  kernel_rfl
 ·have h':cond (decide ((0+xs.length)*(24:Nat)≤(140737488355328:Nat))) (some ((xs,()),())) none=some y:=h;refine Eq.trans ?_ h'
  kernel_rfl
theorem y113:Gk 113 ynq:=⟨⟨Try.f113,c113,Try.func113,by kernel_rfl,by decide +kernel⟩,hh113⟩
noncomputable def c50:Code:=(Try.f50.body.getD .skip)
def an50:An:=⟨fun r=>match r with|3=>⟨[2,3,16,17,18],[(5003,71,tSp 116 80)]⟩|_=>⟨[],[]⟩,fun _ _=>none⟩
abbrev ps50:List PK:=[.val tMem true]
abbrev rs50:List RK:=[.own tMem true]
abbrev R50:=zak rs50×zaj ps50
noncomputable def G50:Gam:=fun f=>match f with|87=>some Sm87|112=>some ynr|113=>some ynq|_=>none
noncomputable def at50:Nat→Pt→List Nat→St→Option R50:=atF TT G50 an50 Try.f50 c50 _ _
def zky(x0:List (Br))(x1 x2 x3 x4:Int)(x5:Lb)(x6:Li)(x7:Lb)(x8:Li)(x9:List (Br)):St:=(St.mk ([Uu,Uu,AV.one (SV.bptr 1000000 0),AV.one (SV.bptr 1000001 0),Uu,Uu,Uu,Uu,Uu,Uu,Uu,Uu,Uu,Uu,Uu,Uu,AV.one (SV.con (⟨71,ySp,x0⟩:Rw)),Ai x1,Ai x2]++Ur 19) [(1000000,(Ent.box [SV.nil,SV.nil,SV.nil,SV.nil,SV.nil,Si x3])),(1000001,(Ent.box [Sr 1000002,Sr 1000003,Sr 1000004,Sr 1000005,Sr 1000006,Si x4])),(1000002,Er ⟨9,Ty.str,x5⟩),(1000003,Er ⟨3,Ty.int .i64,x6⟩),(1000004,Er ⟨9,Ty.str,x7⟩),(1000005,Er ⟨3,Ty.int .i64,x8⟩),(1000006,Er ⟨71,ySp,x9⟩)])
noncomputable def zjm(n:Nat)(lL3:(List (Br))→Int→Int→Int→Int→Lb→Li→Lb→Li→(List (Br))→Option R50)(a:Mm):Option R50 :=
 (q112 n ((a.1.1,a.1.2),())).bind fun r0=>(q112 n ((a.2.1.1,a.2.1.2),())).bind fun r1=>lL3 a.2.2.1 ((↑(List.length a.2.2.1):Int)) (0:Int) (0:Int) a.2.2.2 r0.1.1.1 r0.1.1.2 r1.1.1.1 r1.1.1.2 ([])
noncomputable def zh3(n:Nat)(lL3:(List (Br))→Int→Int→Int→Int→Lb→Li→Lb→Li→(List (Br))→Option R50)(x0:List (Br))(x1 x2 x3 x4:Int)(x5:Lb)(x6:Li)(x7:Lb)(x8:Li)(x9:List (Br)):Option R50 :=
 cond (decide (x2<x1)) (cond (decide (0≤x2)) (cond (decide (x2<(↑x0.length:Int))) ((q87 n ((x0.getD x2.toNat (false,[],[])).2.1,())).bind fun r3=>(q113 n ((x0.getD x2.toNat (false,[],[])).2.2,())).bind fun r4=>cond (decide ((x9.length+[((x0.getD x2.toNat (false,[],[])).1,r3.1.1,r4.1.1)].length)*(56:Nat)≤(140737488355328:Nat))) (lL3 x0 x1 (IntKind.i64.wrap (x2+1)) x3 x4 x5 x6 x7 x8 (x9++[((x0.getD x2.toNat (false,[],[])).1,r3.1.1,r4.1.1)])) none) none) none) (some ((((x5,x6),((x7,x8),(x9,x4))),()),()))
theorem ylb(n:Nat)(a:Mm):runF TT G50 an50 Try.f50 c50 ps50 rs50 n (a,())=zjm n (fun x0 x1 x2 x3 x4 x5 x6 x7 x8 x9=>at50 n (.head 3) [n] (zky x0 x1 x2 x3 x4 x5 x6 x7 x8 x9)) a:=by kernel_rfl
theorem yey(n:Nat)(x0:List (Br))(x1 x2 x3 x4:Int)(x5:Lb)(x6:Li)(x7:Lb)(x8:Li)(x9:List (Br)):at50 n (.head 3) [0] (zky x0 x1 x2 x3 x4 x5 x6 x7 x8 x9)=none:=by kernel_rfl
theorem yq4(n m3:Nat)(x0:List (Br))(x1 x2 x3 x4:Int)(x5:Lb)(x6:Li)(x7:Lb)(x8:Li)(x9:List (Br)):at50 n (.head 3) [m3+1] (zky x0 x1 x2 x3 x4 x5 x6 x7 x8 x9)=zh3 n (fun x0 x1 x2 x3 x4 x5 x6 x7 x8 x9=>at50 n (.head 3) [m3] (zky x0 x1 x2 x3 x4 x5 x6 x7 x8 x9)) x0 x1 x2 x3 x4 x5 x6 x7 x8 x9:=by kernel_rfl
noncomputable def zra(n:Nat):Nat→(List (Br))→Int→Int→Int→Int→Lb→Li→Lb→Li→(List (Br))→Option R50
 |0,_,_,_,_,_,_,_,_,_,_=>none
 |m+1,x0,x1,x2,x3,x4,x5,x6,x7,x8,x9=>zh3 n (zra n m) x0 x1 x2 x3 x4 x5 x6 x7 x8 x9
noncomputable def p50(n:Nat)(a:Mm):Option R50:=zjm n (zra n n) a
theorem yoc(n:Nat):∀ (m3:Nat) (x0:List (Br)) (x1 x2 x3 x4:Int) (x5:Lb) (x6:Li) (x7:Lb) (x8:Li) (x9:List (Br)),at50 n (.head 3) [m3] (zky x0 x1 x2 x3 x4 x5 x6 x7 x8 x9)=zra n m3 x0 x1 x2 x3 x4 x5 x6 x7 x8 x9:=by
 intro m
 induction m with
 |zero=>intros;rw[yey];rfl
 |succ m ih =>
  intros;rw[yq4]
  try simp only[ih]
  rfl
noncomputable def q50(n:Nat)(x:zan ps50):Option R50:=p50 n x.1
noncomputable def Sm50:Sm:=⟨ps50,rs50,false,q50⟩
theorem gam50:GamOK Try.prog G50:=by intro f s h;unfold G50 at h;split at h;exact gj h y87;exact gj h y112;exact gj h y113;cases h
theorem hh50:Hp 50 Sm50:=hOf (zaf (an:=an50) (c:=c50) zax gam50 zaw Try.func50 (by kernel_rfl) rfl (by decide +kernel)) fun n x=>(ylb n x.1).trans (by simp only[yoc];try rfl)
theorem y50:Gk 50 Sm50:=⟨⟨Try.f50,c50,Try.func50,by kernel_rfl,by decide +kernel⟩,hh50⟩
abbrev yo8:List PK:=[.val (tSp 116 80) true]
abbrev rs144:List RK:=[.val .bool false]
abbrev R144:=zak rs144×zaj yo8
noncomputable def zxm(n:Nat)(a:Br):Option R144 :=
 some ((!a.1,()),())
noncomputable def p144(n:Nat)(a:Br):Option R144:=zxm n a
noncomputable def q144(n:Nat)(x:zan yo8):Option R144:=p144 n x.1
abbrev yo9:List PK:=[.val (.row 71 (tSp 116 80)) false,.fn 144 []]
abbrev rs143:List RK:=[.val i64 false]
abbrev R143:=zak rs143×zaj yo9
noncomputable def zxn(n:Nat)(lL2:(List (Br))→Int→Int→Option R143)(a:List (Br))(b:Unit):Option R143 :=
 lL2 a ((↑a.length:Int)) (0:Int)
noncomputable def yb2(n:Nat)(lL2:(List (Br))→Int→Int→Option R143)(x0:List (Br))(x1 x2:Int):Option R143 :=
 cond (decide (x2<x1)) (cond (decide (0≤x2)) (cond (decide (x2<(↑x0.length:Int))) ((q144 n (((x0.getD x2.toNat (false,[],[])).1,(x0.getD x2.toNat (false,[],[])).2.1,(x0.getD x2.toNat (false,[],[])).2.2),())).bind fun r1=>cond r1.1.1 (some ((x2,()),())) (lL2 x0 x1 (IntKind.i64.wrap (x2+1)))) none) none) (some (((-1:Int),()),()))
noncomputable def zyk(n:Nat):Nat→(List (Br))→Int→Int→Option R143
 |0,_,_,_=>none
 |m+1,x0,x1,x2=>yb2 n (zyk n m) x0 x1 x2
noncomputable def p143(n:Nat)(a:List (Br))(b:Unit):Option R143:=zxn n (zyk n n) a b
noncomputable def q143(n:Nat)(x:zan yo9):Option R143:=p143 n x.1 x.2.1
abbrev ps96:List PK:=[.val tMem true]
abbrev rs96:List RK:=[.val i64 false]
abbrev R96:=zak rs96×zaj ps96
noncomputable def yby(n:Nat)(a:Mm):Option R96 :=
 (q143 n (a.2.2.1,(),())).bind fun r0=>some ((r0.1.1,()),())
noncomputable def p96(n:Nat)(a:Mm):Option R96:=yby n a
noncomputable def q96(n:Nat)(x:zan ps96):Option R96:=p96 n x.1
abbrev ps30:List PK:=[.val tMem true]
abbrev rs30:List RK:=[.own tMem true,.val i64 false,.val .bool false]
abbrev R30:=zak rs30×zaj ps30
noncomputable def yb1(n:Nat)(a:Mm):Option R30 :=
 (q17 n (((a.1.1,a.1.2),(a.2.1.1,a.2.1.2),a.2.2.1,a.2.2.2),())).bind fun r0=>cond (!r0.1.1) (some (((([],[]),(([],[]),([],(0:Int)))),((-1:Int),(false,()))),())) ((q96 n (((a.1.1,a.1.2),(a.2.1.1,a.2.1.2),a.2.2.1,a.2.2.2),())).bind fun r1=>cond (decide (r1.1.1<(0:Int))) (some (((([],[]),(([],[]),([],(0:Int)))),((-1:Int),(false,()))),())) ((q50 n (((a.1.1,a.1.2),(a.2.1.1,a.2.1.2),a.2.2.1,a.2.2.2),())).bind fun r2=>(q96 n (((a.1.1,a.1.2),(a.2.1.1,a.2.1.2),a.2.2.1,a.2.2.2),())).bind fun r3=>cond (decide ((0:Int)≤r3.1.1)) (cond (decide (r3.1.1<(↑(List.length r2.1.1.2.2.1):Int))) ((q96 n (((a.1.1,a.1.2),(a.2.1.1,a.2.1.2),a.2.2.1,a.2.2.2),())).bind fun r4=>some ((((r2.1.1.1.1,r2.1.1.1.2),((r2.1.1.2.1.1,r2.1.1.2.1.2),(List.set r2.1.1.2.2.1 (Int.toNat r3.1.1) (true,[],List.replicate (Int.toNat (16:Int)) ((0:Int),(0:Int),false,false)),r2.1.1.2.2.2))),(r4.1.1,(true,()))),())) none) none))
noncomputable def p30(n:Nat)(a:Mm):Option R30:=yb1 n a
noncomputable def q30(n:Nat)(x:zan ps30):Option R30:=p30 n x.1
noncomputable def c49:Code:=(Try.f49.body.getD .skip)
def an49:An:=⟨fun _=>⟨[],[]⟩,fun _ _=>none⟩
abbrev ps49:List PK:=[.val tMem true,.val i64 false]
abbrev rs49:List RK:=[.val .bool false]
abbrev R49:=zak rs49×zaj ps49
noncomputable def G49:Gam:=fun f=>match f with|59=>some Sm59|_=>none
noncomputable def zjn(n:Nat)(a:Mm)(b:Int):Option R49 :=
 (q59 n (b,(0:Int),IntKind.i64.wrap ((↑(List.length a.2.2.1):Int) - (1:Int)),())).bind fun r0=>cond r0.1.1 (cond (decide ((0:Int)≤b)) (cond (decide (b<(↑(List.length a.2.2.1):Int))) (some (((List.getD a.2.2.1 b.toNat (false,[],[])).1,()),())) none) none) (some ((false,()),()))
theorem ylc(n:Nat)(a:Mm)(b:Int):runF TT G49 an49 Try.f49 c49 ps49 rs49 n (a,b,())=zjn n a b:=by kernel_rfl
noncomputable def p49(n:Nat)(a:Mm)(b:Int):Option R49:=zjn n a b
noncomputable def q49(n:Nat)(x:zan ps49):Option R49:=p49 n x.1 x.2.1
noncomputable def Sm49:Sm:=⟨ps49,rs49,false,q49⟩
theorem gam49:GamOK Try.prog G49:=by intro f s h;unfold G49 at h;split at h;exact gj h y59;cases h
theorem hh49:Hp 49 Sm49:=hOf (zaf (an:=an49) (c:=c49) zax gam49 zaw Try.func49 (by kernel_rfl) rfl (by decide +kernel)) fun n x=>(ylc n x.1 x.2.1).trans rfl
theorem y49:Gk 49 Sm49:=⟨⟨Try.f49,c49,Try.func49,by kernel_rfl,by decide +kernel⟩,hh49⟩
end Go.Proofs.Ytdkaagpkeomhmaa.Rx.S
namespace Go.Proofs.Ytdkaagpkeomhmaa.Rx.S
open Go Go.Proofs.Ytdkaagpkeomhmaa.Rx Go.RowKit Go.Lib Go.Proofs
set_option maxHeartbeats 4000000 in
set_option maxRecDepth 1000000 in
theorem ykn(gp bp g b n c id:Nat)(x:Int)(w:World)(hp:w.cell? ⟨gp,bp+1,none⟩=some (.slice (some ⟨g,b,none⟩) n c))(hid:id<n)(hgp:gp≠g)
  (hc:w.cell? ⟨g,b+id,none⟩=some (.int .i64 x)) (hf:w.frozen? ⟨g,b+id,none⟩=false) (hz:(wrap64 (x - 1) == 0)=false) :
  Calls Try.prog 116 #[.pointer (some ⟨gp,bp,none⟩),.int .i64 id] w fun e w'=>e = .returned (.tuple #[]) ∧
   w'=w.setCell ⟨g,b+id,none⟩ (.int .i64 (wrap64 (x - 1))):=by
 have zaw:Try.prog.follows .mixedOrders=true:=by kernel_rfl
 have hp2:Hid (∀ v,(w.setCell ⟨g,b+id,none⟩ v).cell? ⟨gp,bp+1,none⟩=some (.slice (some ⟨g,b,none⟩) n c)):=fun v=>by
  rw[← hp];unfold World.cell? World.setCell;simp[Array.getElem?_modify,hgp,Ne.symm hgp]
 have hc2:Hid (∀ v,(w.setCell ⟨g,b+id,none⟩ v).cell? ⟨g,b+id,none⟩=some v):=fun v=>by
  exact World.cell?_setCell_same _ _ _ hc
 go_enter Try.func116,Try.ntmps116
 go_wp2
 go_end0
 exact⟨rfl,rfl⟩
set_option maxHeartbeats 4000000 in
set_option maxRecDepth 1000000 in
theorem ypr(gp bp g b n c gt bt nt ct id:Nat)(x:Int)(s:ByteArray)(w:World)(hp:w.cell? ⟨gp,bp+1,none⟩=some (.slice (some ⟨g,b,none⟩) n c))(hq:w.cell? ⟨gp,bp,none⟩=some (.slice (some ⟨gt,bt,none⟩) nt ct))(hid:id<n)(hidt:id<nt)(hgp:gp≠g)(hgt:gt≠g)
  (hc:w.cell? ⟨g,b+id,none⟩=some (.int .i64 x)) (hf:w.frozen? ⟨g,b+id,none⟩=false) (hct:w.cell? ⟨gt,bt+id,none⟩=some (.string s)) (hft:w.frozen? ⟨gt,bt+id,none⟩=false) (hz:(wrap64 (x - 1) == 0)=true) :
  Calls Try.prog 116 #[.pointer (some ⟨gp,bp,none⟩),.int .i64 id] w fun e w'=>e = .returned (.tuple #[]) ∧
   w'=(w.setCell ⟨g,b+id,none⟩ (.int .i64 (wrap64 (x - 1)))).setCell ⟨gt,bt+id,none⟩ (.string (ByteArray.mk #[])):=by
 have zaw:Try.prog.follows .mixedOrders=true:=by kernel_rfl
 have hp2:Hid (∀ v,(w.setCell ⟨g,b+id,none⟩ v).cell? ⟨gp,bp+1,none⟩=some (.slice (some ⟨g,b,none⟩) n c)):=fun v=>by
  rw[← hp];unfold World.cell? World.setCell;simp[Array.getElem?_modify,hgp,Ne.symm hgp]
 have hq2:Hid (∀ v,(w.setCell ⟨g,b+id,none⟩ v).cell? ⟨gp,bp,none⟩=some (.slice (some ⟨gt,bt,none⟩) nt ct)):=fun v=>by
  rw[← hq];unfold World.cell? World.setCell;simp[Array.getElem?_modify,hgp,Ne.symm hgp]
 have hc2:Hid (∀ v,(w.setCell ⟨g,b+id,none⟩ v).cell? ⟨g,b+id,none⟩=some v):=fun v=>by
  exact World.cell?_setCell_same _ _ _ hc
 have hct2:Hid (∀ v,(w.setCell ⟨g,b+id,none⟩ v).cell? ⟨gt,bt+id,none⟩=some (.string s)):=fun v=>by
  rw[← hct];unfold World.cell? World.setCell;simp[Array.getElem?_modify,hgt,Ne.symm hgt]
 have hft2:Hid (∀ v,(w.setCell ⟨g,b+id,none⟩ v).frozen? ⟨gt,bt+id,none⟩=false):=fun v=>by
  rw[← hft];unfold World.frozen? World.setCell;simp[Array.getElem?_modify,hgt,Ne.symm hgt]
 go_enter Try.func116,Try.ntmps116
 go_wp2
 go_end0
 exact⟨rfl,rfl⟩
end Go.Proofs.Ytdkaagpkeomhmaa.Rx.S
namespace Go.Proofs.Ytdkaagpkeomhmaa.Rx.S
open Go Go.Proofs.Ytdkaagpkeomhmaa.Rx Go.RowKit Go.Proofs
noncomputable def ygd:Code:=(Try.f116.body.getD .skip)
abbrev zld:List PK:=[.io tPg true,.val i64 false]
abbrev zqv:List RK:=[]
abbrev zkc:=zak zqv×zaj zld
def zwz(t:Lb)(r:Li)(at':Int):Option (Lb×Li) :=
 cond (decide (0≤at')) (cond (decide (at' < r.length)) (cond (decide (IntKind.i64.wrap (r.getD at'.toNat 0 - 1)=0))
  (cond (decide (at'<t.length)) (some (t.set at'.toNat (ByteArray.mk #[]),r.set at'.toNat (IntKind.i64.wrap (r.getD at'.toNat 0 - 1)))) none)
  (some (t,r.set at'.toNat (IntKind.i64.wrap (r.getD at'.toNat 0 - 1))))) none) none
def ydx(n:Nat)(a:Lb×Li)(b:Int):Option zkc:=(zwz a.1 a.2 b).map fun r=>((),(r,()))
noncomputable def zfk(n:Nat)(x:zan zld):Option zkc:=ydx n x.1 x.2.1
noncomputable def zen:Sm:=⟨zld,zqv,false,zfk⟩
theorem zhx(n:Int):wrap64 n=IntKind.i64.wrap n:=(IntWalk.i64_left n).symm
theorem yhq{α:Type}{R:Nat→α→List Value→List Nat→Prop}(hR:∀ i x c f,R i x c f→f=[]):∀ {xs:List α} {i:Nat} {cs:List Value} {F:List Nat},RL R i xs cs F→F=[]
 | [],_,_,_,h=>h.2
 |x::xs,i,cs,F,h=>by
  obtain⟨c1,c2,F1,F2,_,rfl,h1,h2⟩:=h;rw[hR _ _ _ _ h1,yhq hR h2];rfl
theorem zrj{w:World}{e:TypeId}{t:Ty}{H:Path→Hd}{xs:List t.den}{v:Value}{F:List Nat}(hf:∀ (H:Nat→Path→Hd) c (x:t.den) cs f,Ow w t H c x cs f→f=[])(h:OwR w e t H xs v F)(hh:(H []).hole=false)(hc:xs≠[]):∃ g,F=[g]:=by
 unfold OwR OwRow at h;rw[if_neg (by simp[hh])]at h;obtain⟨hv,hl,hle,hmx,h5⟩:=h;have:0<xs.length:=List.length_pos_iff.2 hc;rw[if_neg (by omega)]at h5;obtain⟨_,g,b,cells,F',_,rfl,_,_,hr⟩:=h5;exact⟨g,by rw[yhq (fun i x c f h=>hf _ _ _ _ _ h) hr]⟩
theorem yj_{w:World}{H:Path→Hd}{xs:Li}{v:Value}{F:List Nat}{id:Nat}(h:OwR w 3 i64 H xs v F)(hh:(H []).hole=false)(hid:id<xs.length) :
  ∃ g b n c cells,v = .slice (some ⟨g,b,none⟩) n c∧id<n∧F=[g]∧HC w g cells 3∧cells[b+id]? = some (.int .i64 (xs.getD id 0)) ∧
   ∀ (y:Int) (w':World),HC w' g (cells.setIfInBounds (b+id) (.int .i64 y)) 3→OwR w' 3 i64 H (xs.set id y) v F:=by
 obtain⟨g1,hF1⟩:=zrj (by intro H c x cs f h;exact And.right h) h hh (by intro e;rw[e]at hid;simp at hid);have h0:=h;unfold OwR OwRow at h0;rw[if_neg (by simp[hh])]at h0;obtain⟨hv,hl,hle,hmx,_⟩:=h0;have hi:id<(H []).len:=by rw[← hl];exact hid
 obtain⟨g,b,u,Fa,Fs,Fb,cells,hA,hsz,hF,hg,hgc,hu,ho,hput⟩:=h.cell (b:=⟨i64,xs.getD id (0:Int)⟩) (c:=0) hh hi rfl;obtain⟨hc,hFs⟩:=ho;injection hc with hc _
 subst hc;subst hFs;have s1:(i64).sz=1:=rfl;rw[s1,Nat.mul_one,Nat.add_zero]at hu
 have hFa:Fa=[g1]∧Fb=[]:=by
  rw[hF]at hF1;simp only[List.nil_append]at hF1
  cases Fa with
  |nil=>cases hg
  |cons a l =>
   simp only[List.cons_append,List.cons.injEq,List.append_eq_nil_iff]at hF1;exact⟨by rw[hF1.1,hF1.2.1],hF1.2.2⟩
 obtain⟨rfl,rfl⟩:=hFa;have hgg:g=g1:=by simpa using hg
 subst hgg;refine⟨g,b,(H []).len,(H []).cap,cells,by rw[hv,hA],hi,hF1,hgc,hu,fun y w' hg'=>?_⟩
 have:=hput w' H y (.int .i64 y) [] y (fun b=>match b with | ⟨.int _,_⟩=>some y | _=>none) rfl rfl (fun k hk hne=>by
  have:k=g:=by simpa using hk
  exact(hne this).elim) (by rw[s1,Nat.mul_one,Nat.add_zero];exact hg') (by simp) (by simp) rfl (fun _ _ _ _=>rfl) ⟨rfl,rfl⟩
 rw[hF1];simpa using this
theorem yj9{w:World}{H:Path→Hd}{xs:Lb}{v:Value}{F:List Nat}{id:Nat}(h:OwR w 9 .str H xs v F)(hh:(H []).hole=false)(hid:id<xs.length) :
  ∃ g b n c cells,v = .slice (some ⟨g,b,none⟩) n c∧id<n∧F=[g]∧HC w g cells 9∧cells[b+id]? = some (.string (xs.getD id ByteArray.empty)) ∧
   ∀ (y:ByteArray) (w':World),HC w' g (cells.setIfInBounds (b+id) (.string y)) 9→OwR w' 9 .str H (xs.set id y) v F:=by
 obtain⟨g1,hF1⟩:=zrj (by intro H c x cs f h;exact And.right h) h hh (by intro e;rw[e]at hid;simp at hid);have h0:=h;unfold OwR OwRow at h0;rw[if_neg (by simp[hh])]at h0;obtain⟨hv,hl,hle,hmx,_⟩:=h0;have hi:id<(H []).len:=by rw[← hl];exact hid
 obtain⟨g,b,u,Fa,Fs,Fb,cells,hA,hsz,hF,hg,hgc,hu,ho,hput⟩:=h.cell (b:=⟨.str,xs.getD id ByteArray.empty⟩) (c:=0) hh hi rfl;obtain⟨hc,hFs⟩:=ho;injection hc with hc _
 subst hc;subst hFs;have s1:(Ty.str).sz=1:=rfl;rw[s1,Nat.mul_one,Nat.add_zero]at hu
 have hFa:Fa=[g1]∧Fb=[]:=by
  rw[hF]at hF1;simp only[List.nil_append]at hF1
  cases Fa with
  |nil=>cases hg
  |cons a l =>
   simp only[List.cons_append,List.cons.injEq,List.append_eq_nil_iff]at hF1;exact⟨by rw[hF1.1,hF1.2.1],hF1.2.2⟩
 obtain⟨rfl,rfl⟩:=hFa;have hgg:g=g1:=by simpa using hg
 subst hgg;refine⟨g,b,(H []).len,(H []).cap,cells,by rw[hv,hA],hi,hF1,hgc,hu,fun y w' hg'=>?_⟩
 have:=hput w' H y (.string y) [] y (fun b=>match b with | ⟨.str,_⟩=>some y | _=>none) rfl rfl (fun k hk hne=>by
  have:k=g:=by simpa using hk
  exact(hne this).elim) (by rw[s1,Nat.mul_one,Nat.add_zero];exact hg') (by simp) (by simp) rfl (fun _ _ _ _=>rfl) ⟨rfl,rfl⟩
 rw[hF1];simpa using this
theorem ziq{w:World}{g i:Nat}{cells:Array Value}{e:TypeId}{v:Value}(h:HC w g cells e):HC (w.setCell ⟨g,i,none⟩ v) g (cells.setIfInBounds i v) e:=by
 obtain⟨q,hq,hg⟩:=h;rw[setCell_eq_setRow w g i cells e q v hg];exact HC.set (by simp) ⟨q,hq,hg⟩
theorem zod{w:World}{g i:Nat}{cells:Array Value}{e:TypeId}{v:Value}(h:HC w g cells e):Kp w (fun k=>k=g) (w.setCell ⟨g,i,none⟩ v):=by
 obtain⟨q,hq,hg⟩:=h;rw[setCell_eq_setRow w g i cells e q v hg];exact zeo w g _
theorem zts:zeq (CP Try.prog 116) zen:=by
 rintro n w Z vs ⟨⟨tx,rf⟩,id,_⟩ Fs y hZ hlt hnd ha hF;rcases vs with _|⟨v0,_|⟨v1,_|⟨v2,vs⟩⟩⟩ <;> rcases Fs with _|⟨F0,_|⟨F1,_|⟨F2,Fs⟩⟩⟩ <;> simp only[znf,zen,and_false]at ha
 obtain⟨⟨H,hH,arr,rfl,h0⟩,⟨rfl,_,hv1⟩,_⟩:=ha;have hv1:[v1]=[.int .i64 id]:=hv1;injection hv1 with hv1 _
 subst hv1;obtain⟨c1,c2,Ft,Fr,hcs,rfl,⟨vt,rfl,ht⟩,⟨vr,rfl,hr⟩⟩:=h0;have ht:OwR w 9 .str (H 0) tx vt Ft:=ht;have hr:OwR w 3 i64 (H (0+(Ty.row 9 Ty.str).sz)) rf vr Fr:=hr;have hnd0:(Ft++Fr).Nodup:=by simpa using hnd
 have hF:(zwz tx rf id).map (fun r=>(((),(r,())):zkc))=some y:=hF;obtain⟨r,hr',rfl⟩:=Option.map_eq_some_iff.1 hF;intro g0 b0 us vs' hvs hcell hg0 hgs;injection hvs with hvs1 hvs2
 injection hvs1 with hvs1
 subst hvs2
 have hus:us=[vt,vr]:=by
  have:us.toArray.toList=arr.toList:=by rw[hvs1]
  rw[hcs]at this;simpa using this
 subst hus;have hp:=hcell 1 vr rfl;have hq:=hcell 0 vt rfl;rw[Nat.add_zero]at hq;unfold zwz at hr'
 by_cases h1:0≤id
 ·by_cases h2:id<(rf.length:Int)
  ·rw[decide_eq_true h1,decide_eq_true h2]at hr';simp only[cond_true]at hr';obtain⟨i,rfl⟩:=Int.eq_ofNat_of_zero_le h1;have hi:i<List.length (α:=Int) rf:=Int.ofNat_lt.1 h2;simp only[Int.toNat_natCast]at hr';obtain⟨g,b,n',c,cells,rfl,hin,rfl,hgc,hcu,hput⟩:=yj_ hr (hH _ []) hi;have hgg:g0≠g:=by rintro rfl;exact hg0 (by simp)
   have hl:=(Array.getElem?_eq_some_iff.1 hcu).1;have ec:w.cell? ⟨g,b+i,none⟩=some (.int .i64 (rf.getD i 0)):=by rw[hgc.cell];exact hcu
   have ef:=hgc.unfrozen hl;have hKg:=zod (v:=.int .i64 (wrap64 (rf.getD i 0 - 1))) (i:=b+i) hgc;have hog:=hput (IntKind.i64.wrap (rf.getD i 0 - 1)) _ (ziq (v:=.int .i64 (IntKind.i64.wrap (rf.getD i 0 - 1))) hgc);have hgt':g∉Ft:=fun h=>(List.nodup_append.1 hnd0).2.2 g h g (by simp) rfl
   by_cases hz:IntKind.i64.wrap (rf.getD i 0 - 1)=0
   ·rw[decide_eq_true hz]at hr';simp only[cond_true]at hr'
    by_cases h3:((i:Nat):Int)<(tx.length:Int)
    ·rw[decide_eq_true h3]at hr';simp only[cond_true,Option.some.injEq]at hr';have hi3:i<List.length (α:=ByteArray) tx:=Int.ofNat_lt.1 h3;obtain⟨gt,bt,nt,ct,cellst,rfl,hint,rfl,hgct,hcut,hputt⟩:=yj9 ht (hH _ []) hi3;have hgtg:gt≠g:=fun e=>hgt' (by rw[e];simp);have hlt':=(Array.getElem?_eq_some_iff.1 hcut).1;have ect:w.cell? ⟨gt,bt+i,none⟩=some (.string (tx.getD i ByteArray.empty)):=by rw[hgct.cell];exact hcut
     have eft:=hgct.unfrozen hlt';have hgct1:HC (w.setCell ⟨g,b+i,none⟩ (.int .i64 (wrap64 (rf.getD i 0 - 1)))) gt cellst 9:=hgct.frame (hKg.block gt (by have:=hlt gt (by simp);exact this) hgtg);have hKt:=zod (v:=.string (ByteArray.mk #[])) (i:=bt+i) hgct1;have hgc1:=ziq (v:=.int .i64 (IntKind.i64.wrap (rf.getD i 0 - 1))) (i:=b+i) hgc;rw[← zhx]at hgc1
     have hgc2:HC ((w.setCell ⟨g,b+i,none⟩ (.int .i64 (wrap64 (rf.getD i 0 - 1)))).setCell ⟨gt,bt+i,none⟩ (.string (ByteArray.mk #[]))) g (cells.setIfInBounds (b+i) (.int .i64 (wrap64 (rf.getD i 0 - 1)))) 3 :=
      hgc1.frame (hKt.block g (Nat.lt_of_lt_of_le (hlt g (by simp)) hKg.size) (fun e=>hgtg e.symm))
     have hor:=hput (wrap64 (rf.getD i 0 - 1)) _ hgc2;have hot:=hputt (ByteArray.mk #[]) _ (ziq (v:=.string (ByteArray.mk #[])) (i:=bt+i) hgct1);refine(ypr g0 b0 g b n' c gt bt nt ct i _ _ w hp hq hin hint hgg hgtg ec ef ect eft (by rw[zhx];simpa using hz)).mono ?_;rintro e w' ⟨rfl,rfl⟩;subst hr';refine⟨[],[],[[gt]++[g],[]],rfl,trivial,⟨⟨H,hH,_,rfl,?_⟩,rfl,trivial⟩,by simpa using hnd0,fun k hk=>?_,?_⟩
     ·refine⟨[_],[_],[gt],[g],hcs,rfl,⟨_,rfl,hot⟩,⟨_,rfl,?_⟩⟩;rw[← zhx];exact hor
     ·have hk:k=gt∨k=g:=by simpa using hk
      have hk':k<w.heap.size:=by rcases hk with rfl|rfl <;> exact hlt _ (by simp)
      exact⟨.inl (by rcases hk with rfl|rfl <;> simp),Nat.lt_of_lt_of_le hk' (Nat.le_trans hKg.size hKt.size)⟩
     ·refine⟨hKt.os.trans hKg.os,hKt.tape.trans hKg.tape,hKt.output.trans hKg.output,Nat.le_trans hKg.size hKt.size,fun k hk1 hk2=>?_⟩;have hkg:k≠g:=fun e=>hk2 (by subst e;simp);have hkt:k≠gt:=fun e=>hk2 (by subst e;simp);exact(hKt.block k (Nat.lt_of_lt_of_le hk1 hKg.size) hkt).trans (hKg.block k hk1 hkg)
    ·rw[decide_eq_false h3]at hr';cases hr'
   ·rw[decide_eq_false hz]at hr';simp only[cond_false,Option.some.injEq]at hr';refine(ykn g0 b0 g b n' c i _ w hp hin hgg ec ef (by rw[zhx];simpa using hz)).mono ?_;rintro e w' ⟨rfl,rfl⟩;subst hr';refine⟨[],[],[Ft++[g],[]],rfl,trivial,⟨⟨H,hH,_,rfl,?_⟩,rfl,trivial⟩,by simpa using hnd0,fun k hk=>?_,?_⟩
    ·refine⟨[_],[_],Ft,[g],hcs,rfl,⟨_,rfl,?_⟩,⟨_,rfl,?_⟩⟩
     ·exact ht.frame (fun k hk=>hKg.block k (hlt k (by simp[hk])) (fun e=>hgt' (e ▸ hk)))
     ·rw[← zhx]at hog;rw[← zhx];exact hog
    ·have hk:k∈Ft∨k=g:=by simpa using hk
     have hk':k<w.heap.size:=by rcases hk with hk|rfl;exact hlt _ (by simp[hk]);exact hlt _ (by simp)
     exact⟨.inl (by rcases hk with hk|rfl <;> simp[*]),Nat.lt_of_lt_of_le hk' hKg.size⟩
    ·refine⟨hKg.os,hKg.tape,hKg.output,hKg.size,fun k hk1 hk2=>hKg.block k hk1 (fun e=>hk2 (by subst e;simp))⟩
  ·rw[decide_eq_true h1,decide_eq_false h2]at hr';cases hr'
 ·rw[decide_eq_false h1]at hr';cases hr'
theorem zzb:zep Try.prog 4000116 zen:=zts
theorem ybo:Gk 4000116 zen:=⟨⟨Try.f116,ygd,Try.func116,by kernel_rfl,by decide +kernel⟩,zzb⟩
end Go.Proofs.Ytdkaagpkeomhmaa.Rx.S
namespace Go.Proofs.Ytdkaagpkeomhmaa.Rx.S
open Go Go.RowKit Go.Proofs
set_option maxRecDepth 100000
abbrev ps35:List PK:=[.val tMem true,.val i64 false]
abbrev rs35:List RK:=[.own tMem true,.val .bool false]
abbrev R35:=zak rs35×zaj ps35
noncomputable def ybz(n:Nat)(lL5:Int→Int→Int→Int→Int→Lb→Li→Lb→Li→(List (Br))→Option R35)(a:Mm)(b:Int):Option R35 :=
 (q17 n (((a.1.1,a.1.2),(a.2.1.1,a.2.1.2),a.2.2.1,a.2.2.2),())).bind fun r0=>cond (!r0.1.1) (some (((([],[]),(([],[]),([],(0:Int)))),(false,())),())) ((q49 n (((a.1.1,a.1.2),(a.2.1.1,a.2.1.2),a.2.2.1,a.2.2.2),b,())).bind fun r1=>cond (!r1.1.1) (some (((([],[]),(([],[]),([],(0:Int)))),(false,())),())) ((q50 n (((a.1.1,a.1.2),(a.2.1.1,a.2.1.2),a.2.2.1,a.2.2.2),())).bind fun r2=>cond (decide ((0:Int)≤b)) (cond (decide (b<(↑(List.length r2.1.1.2.2.1):Int))) (lL5 b ((↑(List.length (List.getD r2.1.1.2.2.1 b.toNat (false,[],[])).2.2):Int)) (0:Int) (0:Int) r2.1.1.2.2.2 r2.1.1.1.1 r2.1.1.1.2 r2.1.1.2.1.1 r2.1.1.2.1.2 r2.1.1.2.2.1) none) none))
noncomputable def yio(n:Nat)(lL5:Int→Int→Int→Int→Int→Lb→Li→Lb→Li→(List (Br))→Option R35)(x0 x1 x2 x3 x4:Int)(x5:Lb)(x6:Li)(x7:Lb)(x8:Li)(x9:List (Br)):Option R35 :=
 cond (decide (x2<x1)) (cond (decide (0≤x0)) (cond (decide (x0<(↑x9.length:Int))) (cond (decide (0≤x2)) (cond (decide (x2<(↑(List.length (x9.getD x0.toNat (false,[],[])).2.2):Int))) (cond (decide ((List.getD (x9.getD x0.toNat (false,[],[])).2.2 x2.toNat (0,0,false,false)).1=(1:Int))) ((zfk n ((x5,x6),(List.getD (x9.getD x0.toNat (false,[],[])).2.2 x2.toNat (0,0,false,false)).2.1,())).bind fun r4=>lL5 x0 x1 (IntKind.i64.wrap (x2+1)) x3 x4 r4.2.1.1 r4.2.1.2 x7 x8 (x9.set x0.toNat ((x9.getD x0.toNat (false,[],[])).1,(x9.getD x0.toNat (false,[],[])).2.1,List.set (x9.getD x0.toNat (false,[],[])).2.2 x2.toNat ((0:Int),(0:Int),false,false)))) (cond (decide ((List.getD (x9.getD x0.toNat (false,[],[])).2.2 x2.toNat (0,0,false,false)).1=(2:Int))) ((zfk n ((x7,x8),(List.getD (x9.getD x0.toNat (false,[],[])).2.2 x2.toNat (0,0,false,false)).2.1,())).bind fun r5=>lL5 x0 x1 (IntKind.i64.wrap (x2+1)) x3 x4 x5 x6 r5.2.1.1 r5.2.1.2 (x9.set x0.toNat ((x9.getD x0.toNat (false,[],[])).1,(x9.getD x0.toNat (false,[],[])).2.1,List.set (x9.getD x0.toNat (false,[],[])).2.2 x2.toNat ((0:Int),(0:Int),false,false)))) (lL5 x0 x1 (IntKind.i64.wrap (x2+1)) x3 x4 x5 x6 x7 x8 (x9.set x0.toNat ((x9.getD x0.toNat (false,[],[])).1,(x9.getD x0.toNat (false,[],[])).2.1,List.set (x9.getD x0.toNat (false,[],[])).2.2 x2.toNat ((0:Int),(0:Int),false,false)))))) none) none) none) none) (cond (decide (0≤x0)) (cond (decide (x0<(↑x9.length:Int))) (some ((((x5,x6),((x7,x8),(x9.set x0.toNat (false,[],[]),x4))),(true,())),())) none) none)
noncomputable def yhi(n:Nat):Nat→Int→Int→Int→Int→Int→Lb→Li→Lb→Li→(List (Br))→Option R35
 |0,_,_,_,_,_,_,_,_,_,_=>none
 |m+1,x0,x1,x2,x3,x4,x5,x6,x7,x8,x9=>yio n (yhi n m) x0 x1 x2 x3 x4 x5 x6 x7 x8 x9
noncomputable def p35(n:Nat)(a:Mm)(b:Int):Option R35:=ybz n (yhi n n) a b
noncomputable def q35(n:Nat)(x:zan ps35):Option R35:=p35 n x.1 x.2.1
abbrev ps34:List PK:=[.val (.row 5 (.int .u8)) false]
abbrev rs34:List RK:=[.own tMem true]
abbrev R34:=zak rs34×zaj ps34
noncomputable def yb0(n:Nat)(a:Li):Option R34 :=
 (q45 n (a,())).bind fun r0=>(q46 n ((r0.1.1.1,r0.1.1.2),())).bind fun r1=>some ((((r1.1.1.1.1,r1.1.1.1.2),((r1.1.1.2.1.1,r1.1.1.2.1.2),(r1.1.1.2.2.1,r1.1.1.2.2.2))),()),())
noncomputable def p34(n:Nat)(a:Li):Option R34:=yb0 n a
noncomputable def q34(n:Nat)(x:zan ps34):Option R34:=p34 n x.1
noncomputable def c47:Code:=(Try.f47.body.getD .skip)
def an47:An:=⟨fun r=>match r with|2=>⟨[0,1,3,5],[]⟩|_=>⟨[],[]⟩,fun _ _=>none⟩
abbrev ps47:List PK:=[.bx tRd,.io tMem true]
abbrev rs47:List RK:=[.val i64 false]
abbrev R47:=zak rs47×zaj ps47
noncomputable def G47:Gam:=fun f=>match f with|48=>some Sm48|_=>none
noncomputable def at47:Nat→Pt→List Nat→St→Option R47:=atF TT G47 an47 Try.f47 c47 _ _
def zkz(x0 x1:Int)(x2:Li)(x3:Int)(x4:Lb)(x5:Li)(x6:Lb)(x7:Li)(x8:List (Br))(x9:Int):St:=(St.mk ([AV.par 0 false [SV.bptr 1000000 0],AV.par 1 true [Sr 1000001,Sr 1000002,Sr 1000003,Sr 1000004,Sr 1000005,Si x0],Uu,AV.one (SV.bptr 1000006 0),Uu,Ai x1]++Ur 29) [(1000000,(Ent.box [SV.con (⟨5,Ty.int IntKind.u8,x2⟩:Rw),Si x3])),(1000001,Er ⟨9,Ty.str,x4⟩),(1000002,Er ⟨3,Ty.int .i64,x5⟩),(1000003,Er ⟨9,Ty.str,x6⟩),(1000004,Er ⟨3,Ty.int .i64,x7⟩),(1000005,Er ⟨71,ySp,x8⟩),(1000006,(Ent.box [Sr 1000001,Sr 1000002,Sr 1000003,Sr 1000004,Sr 1000005,Si x9]))])
noncomputable def zue(n:Nat)(lL2:Int→Int→Li→Int→Lb→Li→Lb→Li→(List (Br))→Int→Option R47)(a:Li×Int)(b:Mm):Option R47 :=
 lL2 b.2.2.2 (0:Int) a.1 a.2 b.1.1 b.1.2 b.2.1.1 b.2.1.2 b.2.2.1 b.2.2.2
noncomputable def zh4(n:Nat)(lL2:Int→Int→Li→Int→Lb→Li→Lb→Li→(List (Br))→Int→Option R47)(x0 x1:Int)(x2:Li)(x3:Int)(x4:Lb)(x5:Li)(x6:Lb)(x7:Li)(x8:List (Br))(x9:Int):Option R47 :=
 cond (decide (x1<(↑x8.length:Int))) ((q48 n ((x2,x3),(8:Int),())).bind fun r1=>cond (decide ((0:Int)<r1.1.1)) (cond (decide (0≤x1)) (cond (decide (x1<(↑x8.length:Int))) (cond ((x8.getD x1.toNat (false,[],[])).1) ((q48 n ((r1.2.1.1,r1.2.1.2),(2:Int),())).bind fun r2=>cond (decide (r2.1.1=(0:Int))) (some ((x1,()),((r2.2.1.1,r2.2.1.2),(((x4,x5),((x6,x7),(x8,x0))),())))) (lL2 x0 (IntKind.i64.wrap (x1+1)) r2.2.1.1 r2.2.1.2 x4 x5 x6 x7 x8 x9)) (lL2 x0 (IntKind.i64.wrap (x1+1)) r1.2.1.1 r1.2.1.2 x4 x5 x6 x7 x8 x9)) none) none) ((q48 n ((r1.2.1.1,r1.2.1.2),(8:Int),())).bind fun r3=>cond (decide ((0:Int)≤r3.1.1)) (cond (decide (r3.1.1<(↑[(0:Int),(0:Int),(0:Int),(1:Int),(2:Int),(4:Int),(-1:Int),(5:Int)].length:Int))) (some (([(0:Int),(0:Int),(0:Int),(1:Int),(2:Int),(4:Int),(-1:Int),(5:Int)].getD (Int.toNat r3.1.1) (0:Int),()),((r3.2.1.1,r3.2.1.2),(((x4,x5),((x6,x7),(x8,x0))),())))) none) none)) ((q48 n ((x2,x3),(8:Int),())).bind fun r4=>cond (decide ((0:Int)≤r4.1.1)) (cond (decide (r4.1.1<(↑[(0:Int),(0:Int),(0:Int),(1:Int),(2:Int),(4:Int),(-1:Int),(5:Int)].length:Int))) (some (([(0:Int),(0:Int),(0:Int),(1:Int),(2:Int),(4:Int),(-1:Int),(5:Int)].getD (Int.toNat r4.1.1) (0:Int),()),((r4.2.1.1,r4.2.1.2),(((x4,x5),((x6,x7),(x8,x0))),())))) none) none)
theorem yle(n:Nat)(a:Li×Int)(b:Mm):runF TT G47 an47 Try.f47 c47 ps47 rs47 n (a,b,())=zue n (fun x0 x1 x2 x3 x4 x5 x6 x7 x8 x9=>at47 n (.head 2) [n] (zkz x0 x1 x2 x3 x4 x5 x6 x7 x8 x9)) a b:=by kernel_rfl
theorem yez(n:Nat)(x0 x1:Int)(x2:Li)(x3:Int)(x4:Lb)(x5:Li)(x6:Lb)(x7:Li)(x8:List (Br))(x9:Int):at47 n (.head 2) [0] (zkz x0 x1 x2 x3 x4 x5 x6 x7 x8 x9)=none:=by kernel_rfl
theorem yq5(n m2:Nat)(x0 x1:Int)(x2:Li)(x3:Int)(x4:Lb)(x5:Li)(x6:Lb)(x7:Li)(x8:List (Br))(x9:Int):at47 n (.head 2) [m2+1] (zkz x0 x1 x2 x3 x4 x5 x6 x7 x8 x9)=zh4 n (fun x0 x1 x2 x3 x4 x5 x6 x7 x8 x9=>at47 n (.head 2) [m2] (zkz x0 x1 x2 x3 x4 x5 x6 x7 x8 x9)) x0 x1 x2 x3 x4 x5 x6 x7 x8 x9:=by kernel_rfl
noncomputable def znu(n:Nat):Nat→Int→Int→Li→Int→Lb→Li→Lb→Li→(List (Br))→Int→Option R47
 |0,_,_,_,_,_,_,_,_,_,_=>none
 |m+1,x0,x1,x2,x3,x4,x5,x6,x7,x8,x9=>zh4 n (znu n m) x0 x1 x2 x3 x4 x5 x6 x7 x8 x9
noncomputable def p47(n:Nat)(a:Li×Int)(b:Mm):Option R47:=zue n (znu n n) a b
theorem yod(n:Nat):∀ (m2:Nat) (x0 x1:Int) (x2:Li) (x3:Int) (x4:Lb) (x5:Li) (x6:Lb) (x7:Li) (x8:List (Br)) (x9:Int),at47 n (.head 2) [m2] (zkz x0 x1 x2 x3 x4 x5 x6 x7 x8 x9)=znu n m2 x0 x1 x2 x3 x4 x5 x6 x7 x8 x9:=by
 intro m
 induction m with
 |zero=>intros;rw[yez];rfl
 |succ m ih =>
  intros;rw[yq5]
  try simp only[ih]
  rfl
noncomputable def q47(n:Nat)(x:zan ps47):Option R47:=p47 n x.1 x.2.1
noncomputable def Sm47:Sm:=⟨ps47,rs47,true,q47⟩
theorem gam47:GamOK Try.prog G47:=by intro f s h;unfold G47 at h;split at h;exact gj h y48;cases h
theorem hh47:Hp 47 Sm47:=hOf (zaf (an:=an47) (c:=c47) zax gam47 zaw Try.func47 (by kernel_rfl) rfl (by decide +kernel)) fun n x=>(yle n x.1 x.2.1).trans (by simp only[yod];try rfl)
theorem y47:Gk 47 Sm47:=⟨⟨Try.f47,c47,Try.func47,by kernel_rfl,by decide +kernel⟩,hh47⟩
noncomputable def c12:Code:=(Try.f12.body.getD .skip)
def an12:An:=⟨fun _=>⟨[],[]⟩,fun _ _=>none⟩
abbrev ps12:List PK:=[.val (.row 5 (.int .u8)) false]
abbrev rs12:List RK:=[.own tMem true,.val i64 false,.val i64 false,.val i64 false]
abbrev R12:=zak rs12×zaj ps12
noncomputable def G12:Gam:=fun f=>match f with|45=>some Sm45|46=>some Sm46|47=>some Sm47|48=>some Sm48|_=>none
noncomputable def zj0(n:Nat)(a:Li):Option R12 :=
 (q45 n (a,())).bind fun r0=>(q46 n ((r0.1.1.1,r0.1.1.2),())).bind fun r1=>(q47 n ((r1.2.1.1,r1.2.1.2),((r1.1.1.1.1,r1.1.1.1.2),(r1.1.1.2.1.1,r1.1.1.2.1.2),r1.1.1.2.2.1,r1.1.1.2.2.2),())).bind fun r2=>(q48 n ((r2.2.1.1,r2.2.1.2),(18:Int),())).bind fun r3=>(q48 n ((r3.2.1.1,r3.2.1.2),(6:Int),())).bind fun r4=>some ((((r2.2.2.1.1.1,r2.2.2.1.1.2),((r2.2.2.1.2.1.1,r2.2.2.1.2.1.2),(r2.2.2.1.2.2.1,r1.1.1.2.2.2))),(r2.1.1,(IntKind.i64.wrap (r3.1.1 - (1:Int)),(r4.1.1,())))),())
theorem yl4(n:Nat)(a:Li):runF TT G12 an12 Try.f12 c12 ps12 rs12 n (a,())=zj0 n a:=by kernel_rfl
noncomputable def p12(n:Nat)(a:Li):Option R12:=zj0 n a
noncomputable def q12(n:Nat)(x:zan ps12):Option R12:=p12 n x.1
noncomputable def Sm12:Sm:=⟨ps12,rs12,true,q12⟩
theorem gam12:GamOK Try.prog G12:=by intro f s h;unfold G12 at h;split at h;exact gj h y45;exact gj h y46;exact gj h y47;exact gj h y48;cases h
theorem hh12:Hp 12 Sm12:=hOf (zaf (an:=an12) (c:=c12) zax gam12 zaw Try.func12 (by kernel_rfl) rfl (by decide +kernel)) fun n x=>(yl4 n x.1).trans rfl
theorem y12:Gk 12 Sm12:=⟨⟨Try.f12,c12,Try.func12,by kernel_rfl,by decide +kernel⟩,hh12⟩
noncomputable def c57:Code:=(Try.f57.body.getD .skip)
def an57:An:=⟨fun _=>⟨[],[]⟩,fun _ _=>none⟩
abbrev ps57:List PK:=[.val tPg true,.val tPg true]
abbrev rs57:List RK:=[.val .bool false]
abbrev R57:=zak rs57×zaj ps57
noncomputable def G57:Gam:=fun f=>match f with|39=>some Sm39|105=>some ynv|_=>none
noncomputable def zjj(n:Nat)(a b:Lb×Li):Option R57 :=
 (q39 n (a.1,b.1,())).bind fun r0=>cond r0.1.1 ((q105 n (a.2,b.2,())).bind fun r1=>some ((r1.1.1,()),())) (some ((false,()),()))
theorem yk4(n:Nat)(a b:Lb×Li):runF TT G57 an57 Try.f57 c57 ps57 rs57 n (a,b,())=zjj n a b:=by kernel_rfl
noncomputable def p57(n:Nat)(a b:Lb×Li):Option R57:=zjj n a b
noncomputable def q57(n:Nat)(x:zan ps57):Option R57:=p57 n x.1 x.2.1
noncomputable def Sm57:Sm:=⟨ps57,rs57,false,q57⟩
theorem gam57:GamOK Try.prog G57:=by intro f s h;unfold G57 at h;split at h;exact gj h y39;exact gj h y105;cases h
theorem hh57:Hp 57 Sm57:=hOf (zaf (an:=an57) (c:=c57) zax gam57 zaw Try.func57 (by kernel_rfl) rfl (by decide +kernel)) fun n x=>(yk4 n x.1 x.2.1).trans rfl
theorem y57:Gk 57 Sm57:=⟨⟨Try.f57,c57,Try.func57,by kernel_rfl,by decide +kernel⟩,hh57⟩
noncomputable def c58:Code:=(Try.f58.body.getD .skip)
def an58:An:=⟨fun r=>match r with|4=>⟨[2,3,5],[]⟩|_=>⟨[],[]⟩,fun _ _=>none⟩
abbrev ps58:List PK:=[.val (tSp 116 80) true,.val (tSp 116 80) true]
abbrev rs58:List RK:=[.val .bool false]
abbrev R58:=zak rs58×zaj ps58
noncomputable def G58:Gam:=fun f=>match f with|40=>some Sm40|_=>none
noncomputable def at58:Nat→Pt→List Nat→St→Option R58:=atF TT G58 an58 Try.f58 c58 _ _
def zkt(x0:Int)(x1:Bool)(x2 x3:Lq)(x4:Bool)(x5 x6:Lq):St:=(St.mk ([Uu,Uu,AV.one (SV.bptr 1000000 0),AV.one (SV.bptr 1000001 0),Uu,Ai x0]++Ur 40) [(1000000,(Ent.box [SV.bool x1,SV.con (⟨116,yAq,x2⟩:Rw),SV.con (⟨80,yAq,x3⟩:Rw)])),(1000001,(Ent.box [SV.bool x4,SV.con (⟨116,yAq,x5⟩:Rw),SV.con (⟨80,yAq,x6⟩:Rw)]))])
noncomputable def zji(n:Nat)(lL4:Int→Bool→Lq→Lq→Bool→Lq→Lq→Option R58)(a b:Br):Option R58 :=
 cond (!a.1 == b.1) (some ((false,()),())) ((q40 n (a.2.1,b.2.1,())).bind fun r0=>cond (!r0.1.1) (some ((false,()),())) (cond (!decide ((↑(List.length a.2.2):Int)=(↑(List.length b.2.2):Int))) (some ((false,()),())) (lL4 (0:Int) a.1 a.2.1 a.2.2 b.1 b.2.1 b.2.2)))
noncomputable def zh0(n:Nat)(lL4:Int→Bool→Lq→Lq→Bool→Lq→Lq→Option R58)(x0:Int)(x1:Bool)(x2 x3:Lq)(x4:Bool)(x5 x6:Lq):Option R58 :=
 cond (decide (x0<(↑x3.length:Int))) (cond (decide (0≤x0)) (cond (decide (x0<(↑x3.length:Int))) (cond (decide (0≤x0)) (cond (decide (x0<(↑x6.length:Int))) (cond (!(decide ((x3.getD x0.toNat ((0:Int),(0:Int),false,false)).1=(x6.getD x0.toNat ((0:Int),(0:Int),false,false)).1)&&(decide ((x3.getD x0.toNat ((0:Int),(0:Int),false,false)).2.1=(x6.getD x0.toNat ((0:Int),(0:Int),false,false)).2.1)&&((x3.getD x0.toNat ((0:Int),(0:Int),false,false)).2.2.1 == (x6.getD x0.toNat ((0:Int),(0:Int),false,false)).2.2.1&&((x3.getD x0.toNat ((0:Int),(0:Int),false,false)).2.2.2 == (x6.getD x0.toNat ((0:Int),(0:Int),false,false)).2.2.2&&true))))) (some ((false,()),())) (lL4 (IntKind.i64.wrap (x0+1)) x1 x2 x3 x4 x5 x6)) none) none) none) none) (some ((true,()),()))
theorem yk3(n:Nat)(a b:Br):runF TT G58 an58 Try.f58 c58 ps58 rs58 n (a,b,())=zji n (fun x0 x1 x2 x3 x4 x5 x6=>at58 n (.head 4) [n] (zkt x0 x1 x2 x3 x4 x5 x6)) a b:=by kernel_rfl
theorem yer(n:Nat)(x0:Int)(x1:Bool)(x2 x3:Lq)(x4:Bool)(x5 x6:Lq):at58 n (.head 4) [0] (zkt x0 x1 x2 x3 x4 x5 x6)=none:=by kernel_rfl
theorem yqy(n m4:Nat)(x0:Int)(x1:Bool)(x2 x3:Lq)(x4:Bool)(x5 x6:Lq):at58 n (.head 4) [m4+1] (zkt x0 x1 x2 x3 x4 x5 x6)=zh0 n (fun x0 x1 x2 x3 x4 x5 x6=>at58 n (.head 4) [m4] (zkt x0 x1 x2 x3 x4 x5 x6)) x0 x1 x2 x3 x4 x5 x6:=by kernel_rfl
noncomputable def zq4(n:Nat):Nat→Int→Bool→Lq→Lq→Bool→Lq→Lq→Option R58
 |0,_,_,_,_,_,_,_=>none
 |m+1,x0,x1,x2,x3,x4,x5,x6=>zh0 n (zq4 n m) x0 x1 x2 x3 x4 x5 x6
noncomputable def p58(n:Nat)(a b:Br):Option R58:=zji n (zq4 n n) a b
theorem yn7(n:Nat):∀ (m4:Nat) (x0:Int) (x1:Bool) (x2 x3:Lq) (x4:Bool) (x5 x6:Lq),at58 n (.head 4) [m4] (zkt x0 x1 x2 x3 x4 x5 x6)=zq4 n m4 x0 x1 x2 x3 x4 x5 x6:=by
 intro m
 induction m with
 |zero=>intros;rw[yer];rfl
 |succ m ih =>
  intros;rw[yqy]
  try simp only[ih]
  rfl
noncomputable def q58(n:Nat)(x:zan ps58):Option R58:=p58 n x.1 x.2.1
noncomputable def Sm58:Sm:=⟨ps58,rs58,false,q58⟩
theorem gam58:GamOK Try.prog G58:=by intro f s h;unfold G58 at h;split at h;exact gj h y40;cases h
theorem hh58:Hp 58 Sm58:=hOf (zaf (an:=an58) (c:=c58) zax gam58 zaw Try.func58 (by kernel_rfl) rfl (by decide +kernel)) fun n x=>(yk3 n x.1 x.2.1).trans (by simp only[yn7];try rfl)
theorem y58:Gk 58 Sm58:=⟨⟨Try.f58,c58,Try.func58,by kernel_rfl,by decide +kernel⟩,hh58⟩
noncomputable def c15:Code:=(Try.f15.body.getD .skip)
def an15:An:=⟨fun r=>match r with|4=>⟨[2,3,5],[]⟩|_=>⟨[],[]⟩,fun _ _=>none⟩
abbrev ps15:List PK:=[.val tMem true,.val tMem true]
abbrev rs15:List RK:=[.val .bool false]
abbrev R15:=zak rs15×zaj ps15
noncomputable def G15:Gam:=fun f=>match f with|57=>some Sm57|58=>some Sm58|_=>none
noncomputable def at15:Nat→Pt→List Nat→St→Option R15:=atF TT G15 an15 Try.f15 c15 _ _
def zk4(x0:Int)(x1:Lb)(x2:Li)(x3:Lb)(x4:Li)(x5:List (Br))(x6:Int)(x7:Lb)(x8:Li)(x9:Lb)(x10:Li)(x11:List (Br))(x12:Int):St:=(St.mk ([Uu,Uu,AV.one (SV.bptr 1000000 0),AV.one (SV.bptr 1000001 0),Uu,Ai x0]++Ur 49) [(1000000,(Ent.box [SV.con (⟨9,Ty.str,x1⟩:Rw),SV.con (⟨3,Ty.int .i64,x2⟩:Rw),SV.con (⟨9,Ty.str,x3⟩:Rw),SV.con (⟨3,Ty.int .i64,x4⟩:Rw),SV.con (⟨71,ySp,x5⟩:Rw),Si x6])),(1000001,(Ent.box [SV.con (⟨9,Ty.str,x7⟩:Rw),SV.con (⟨3,Ty.int .i64,x8⟩:Rw),SV.con (⟨9,Ty.str,x9⟩:Rw),SV.con (⟨3,Ty.int .i64,x10⟩:Rw),SV.con (⟨71,ySp,x11⟩:Rw),Si x12]))])
noncomputable def zjx(n:Nat)(lL4:Int→Lb→Li→Lb→Li→(List (Br))→Int→Lb→Li→Lb→Li→(List (Br))→Int→Option R15)(a b:Mm):Option R15 :=
 (q57 n ((a.1.1,a.1.2),(b.1.1,b.1.2),())).bind fun r0=>cond (!r0.1.1) (some ((false,()),())) ((q57 n ((a.2.1.1,a.2.1.2),(b.2.1.1,b.2.1.2),())).bind fun r1=>cond (!r1.1.1) (some ((false,()),())) (cond (!decide (a.2.2.2=b.2.2.2)) (some ((false,()),())) (cond (!decide ((↑(List.length a.2.2.1):Int)=(↑(List.length b.2.2.1):Int))) (some ((false,()),())) (lL4 (0:Int) a.1.1 a.1.2 a.2.1.1 a.2.1.2 a.2.2.1 a.2.2.2 b.1.1 b.1.2 b.2.1.1 b.2.1.2 b.2.2.1 b.2.2.2))))
noncomputable def zib(n:Nat)(lL4:Int→Lb→Li→Lb→Li→(List (Br))→Int→Lb→Li→Lb→Li→(List (Br))→Int→Option R15)(x0:Int)(x1:Lb)(x2:Li)(x3:Lb)(x4:Li)(x5:List (Br))(x6:Int)(x7:Lb)(x8:Li)(x9:Lb)(x10:Li)(x11:List (Br))(x12:Int):Option R15 :=
 cond (decide (x0<(↑x5.length:Int))) (cond (decide (0≤x0)) (cond (decide (x0<(↑x5.length:Int))) (cond (decide (0≤x0)) (cond (decide (x0<(↑x11.length:Int))) ((q58 n (((x5.getD x0.toNat (false,[],[])).1,(x5.getD x0.toNat (false,[],[])).2.1,(x5.getD x0.toNat (false,[],[])).2.2),((x11.getD x0.toNat (false,[],[])).1,(x11.getD x0.toNat (false,[],[])).2.1,(x11.getD x0.toNat (false,[],[])).2.2),())).bind fun r3=>cond (!r3.1.1) (some ((false,()),())) (lL4 (IntKind.i64.wrap (x0+1)) x1 x2 x3 x4 x5 x6 x7 x8 x9 x10 x11 x12)) none) none) none) none) (some ((true,()),()))
theorem ylz(n:Nat)(a b:Mm):runF TT G15 an15 Try.f15 c15 ps15 rs15 n (a,b,())=zjx n (fun x0 x1 x2 x3 x4 x5 x6 x7 x8 x9 x10 x11 x12=>at15 n (.head 4) [n] (zk4 x0 x1 x2 x3 x4 x5 x6 x7 x8 x9 x10 x11 x12)) a b:=by kernel_rfl
theorem yff(n:Nat)(x0:Int)(x1:Lb)(x2:Li)(x3:Lb)(x4:Li)(x5:List (Br))(x6:Int)(x7:Lb)(x8:Li)(x9:Lb)(x10:Li)(x11:List (Br))(x12:Int):at15 n (.head 4) [0] (zk4 x0 x1 x2 x3 x4 x5 x6 x7 x8 x9 x10 x11 x12)=none:=by kernel_rfl
theorem yrd(n m4:Nat)(x0:Int)(x1:Lb)(x2:Li)(x3:Lb)(x4:Li)(x5:List (Br))(x6:Int)(x7:Lb)(x8:Li)(x9:Lb)(x10:Li)(x11:List (Br))(x12:Int):at15 n (.head 4) [m4+1] (zk4 x0 x1 x2 x3 x4 x5 x6 x7 x8 x9 x10 x11 x12)=zib n (fun x0 x1 x2 x3 x4 x5 x6 x7 x8 x9 x10 x11 x12=>at15 n (.head 4) [m4] (zk4 x0 x1 x2 x3 x4 x5 x6 x7 x8 x9 x10 x11 x12)) x0 x1 x2 x3 x4 x5 x6 x7 x8 x9 x10 x11 x12:=by kernel_rfl
noncomputable def zrf(n:Nat):Nat→Int→Lb→Li→Lb→Li→(List (Br))→Int→Lb→Li→Lb→Li→(List (Br))→Int→Option R15
 |0,_,_,_,_,_,_,_,_,_,_,_,_,_=>none
 |m+1,x0,x1,x2,x3,x4,x5,x6,x7,x8,x9,x10,x11,x12=>zib n (zrf n m) x0 x1 x2 x3 x4 x5 x6 x7 x8 x9 x10 x11 x12
noncomputable def p15(n:Nat)(a b:Mm):Option R15:=zjx n (zrf n n) a b
theorem yok(n:Nat):∀ (m4:Nat) (x0:Int) (x1:Lb) (x2:Li) (x3:Lb) (x4:Li) (x5:List (Br)) (x6:Int) (x7:Lb) (x8:Li) (x9:Lb) (x10:Li) (x11:List (Br)) (x12:Int),at15 n (.head 4) [m4] (zk4 x0 x1 x2 x3 x4 x5 x6 x7 x8 x9 x10 x11 x12)=zrf n m4 x0 x1 x2 x3 x4 x5 x6 x7 x8 x9 x10 x11 x12:=by
 intro m
 induction m with
 |zero=>intros;rw[yff];rfl
 |succ m ih =>
  intros;rw[yrd]
  try simp only[ih]
  rfl
noncomputable def q15(n:Nat)(x:zan ps15):Option R15:=p15 n x.1 x.2.1
noncomputable def Sm15:Sm:=⟨ps15,rs15,false,q15⟩
theorem gam15:GamOK Try.prog G15:=by intro f s h;unfold G15 at h;split at h;exact gj h y57;exact gj h y58;cases h
theorem hh15:Hp 15 Sm15:=hOf (zaf (an:=an15) (c:=c15) zax gam15 zaw Try.func15 (by kernel_rfl) rfl (by decide +kernel)) fun n x=>(ylz n x.1 x.2.1).trans (by simp only[yok];try rfl)
theorem y15:Gk 15 Sm15:=⟨⟨Try.f15,c15,Try.func15,by kernel_rfl,by decide +kernel⟩,hh15⟩
abbrev ps7:List PK:=[.val (.row 5 (.int .u8)) false]
abbrev rs7:List RK:=[.val .bool false]
abbrev R7:=zak rs7×zaj ps7
noncomputable def yin(n:Nat)(a:Li):Option R7 :=
 cond (decide ((1048576:Int)<(↑a.length:Int))) (some ((true,()),())) ((q34 n (a,())).bind fun r0=>(q30 n (((r0.1.1.1.1,r0.1.1.1.2),(r0.1.1.2.1.1,r0.1.1.2.1.2),r0.1.1.2.2.1,r0.1.1.2.2.2),())).bind fun r1=>(q28 n (((r0.1.1.1.1,r0.1.1.1.2),(r0.1.1.2.1.1,r0.1.1.2.1.2),r0.1.1.2.2.1,r0.1.1.2.2.2),())).bind fun r2=>(q15 n (((r1.1.1.1.1,r1.1.1.1.2),(r1.1.1.2.1.1,r1.1.1.2.1.2),r1.1.1.2.2.1,r1.1.1.2.2.2),((r2.1.1.1.1,r2.1.1.1.2),(r2.1.1.2.1.1,r2.1.1.2.1.2),r2.1.1.2.2.1,r2.1.1.2.2.2),())).bind fun r3=>cond r3.1.1 (cond (decide (r1.1.2.1=r2.1.2.1)) (cond (!r1.1.2.2.1 == r2.1.2.2.1) (some ((r1.1.2.2.1 == r2.1.2.2.1,()),())) (cond (!r1.1.2.2.1) (some ((r1.1.2.2.1 == r2.1.2.2.1,()),())) ((q35 n (((r1.1.1.1.1,r1.1.1.1.2),(r1.1.1.2.1.1,r1.1.1.2.1.2),r1.1.1.2.2.1,r1.1.1.2.2.2),r1.1.2.1,())).bind fun r4=>(q17 n (((r1.1.1.1.1,r1.1.1.1.2),(r1.1.1.2.1.1,r1.1.1.2.1.2),r1.1.1.2.2.1,r1.1.1.2.2.2),())).bind fun r5=>cond r5.1.1 (cond r4.1.2.1 ((q15 n (((r4.1.1.1.1,r4.1.1.1.2),(r4.1.1.2.1.1,r4.1.1.2.1.2),r4.1.1.2.2.1,r4.1.1.2.2.2),((r0.1.1.1.1,r0.1.1.1.2),(r0.1.1.2.1.1,r0.1.1.2.1.2),r0.1.1.2.2.1,r0.1.1.2.2.2),())).bind fun r6=>cond r6.1.1 (cond (decide ((0:Int)≤r1.1.2.1)) (cond (decide (r1.1.2.1<(↑(List.length r1.1.1.2.2.1):Int))) (some ((decide ((↑(List.length (List.getD r1.1.1.2.2.1 (Int.toNat r1.1.2.1) (false,[],[])).2.1):Int)=(0:Int)),()),())) none) none) (some ((false,()),()))) (some ((false,()),()))) (some ((false,()),()))))) (some ((false,()),()))) (some ((false,()),())))
noncomputable def p7(n:Nat)(a:Li):Option R7:=yin n a
noncomputable def c61:Code:=(Try.f61.body.getD .skip)
def an61:An:=⟨fun _=>⟨[],[]⟩,fun _ _=>none⟩
abbrev ps61:List PK:=[.val tMem true,.val i64 false,.val i64 false]
abbrev rs61:List RK:=[.val .str false]
abbrev R61:=zak rs61×zaj ps61
noncomputable def G61:Gam:=fun _=>none
noncomputable def zjf(n:Nat)(a:Mm)(b c:Int):Option R61 :=
 cond (decide ((0:Int)≤b)) (cond (decide (b<(↑(List.length a.2.2.1):Int))) (cond (decide ((0:Int)≤c)) (cond (decide (c<(↑(List.length (List.getD a.2.2.1 b.toNat (false,[],[])).2.2):Int))) (cond (decide ((List.getD (List.getD a.2.2.1 b.toNat (false,[],[])).2.2 c.toNat (0,0,false,false)).1=(1:Int))) (cond (decide ((0:Int)≤(List.getD (List.getD a.2.2.1 b.toNat (false,[],[])).2.2 c.toNat (0,0,false,false)).2.1)) (cond (decide ((List.getD (List.getD a.2.2.1 b.toNat (false,[],[])).2.2 c.toNat (0,0,false,false)).2.1<(↑(List.length a.1.1):Int))) (some ((List.getD a.1.1 (Int.toNat (List.getD (List.getD a.2.2.1 b.toNat (false,[],[])).2.2 c.toNat (0,0,false,false)).2.1) ByteArray.empty,()),())) none) none) (cond (decide ((List.getD (List.getD a.2.2.1 b.toNat (false,[],[])).2.2 c.toNat (0,0,false,false)).1=(2:Int))) (cond (decide ((0:Int)≤(List.getD (List.getD a.2.2.1 b.toNat (false,[],[])).2.2 c.toNat (0,0,false,false)).2.1)) (cond (decide ((List.getD (List.getD a.2.2.1 b.toNat (false,[],[])).2.2 c.toNat (0,0,false,false)).2.1<(↑(List.length a.2.1.1):Int))) (some ((List.getD a.2.1.1 (Int.toNat (List.getD (List.getD a.2.2.1 b.toNat (false,[],[])).2.2 c.toNat (0,0,false,false)).2.1) ByteArray.empty,()),())) none) none) (some ((List.foldl (fun r n=>r.push (UInt8.ofNat n.toNat)) ByteArray.empty (List.replicate (Int.toNat (4:Int)) (0:Int)),()),())))) none) none) none) none
theorem yk0(n:Nat)(a:Mm)(b c:Int):runF TT G61 an61 Try.f61 c61 ps61 rs61 n (a,b,c,())=zjf n a b c:=by kernel_rfl
noncomputable def p61(n:Nat)(a:Mm)(b c:Int):Option R61:=zjf n a b c
noncomputable def q61(n:Nat)(x:zan ps61):Option R61:=p61 n x.1 x.2.1 x.2.2.1
noncomputable def Sm61:Sm:=⟨ps61,rs61,false,q61⟩
theorem gam61:GamOK Try.prog G61:=fun _ _ h=>by cases h
theorem hh61:Hp 61 Sm61:=hOf (zaf (an:=an61) (c:=c61) zax gam61 zaw Try.func61 (by kernel_rfl) rfl (by decide +kernel)) fun n x=>(yk0 n x.1 x.2.1 x.2.2.1).trans rfl
theorem y61:Gk 61 Sm61:=⟨⟨Try.f61,c61,Try.func61,by kernel_rfl,by decide +kernel⟩,hh61⟩
noncomputable def c16:Code:=(Try.f16.body.getD .skip)
def an16:An:=⟨fun _=>⟨[],[]⟩,fun _ _=>none⟩
abbrev ps16:List PK:=[.val tMem true,.val i64 false,.val i64 false]
abbrev rs16:List RK:=[.val i64 false,.val .bool false]
abbrev R16:=zak rs16×zaj ps16
noncomputable def G16:Gam:=fun f=>match f with|17=>some Sm17|49=>some Sm49|59=>some Sm59|60=>some Sm60|61=>some Sm61|_=>none
noncomputable def zjw(n:Nat)(a:Mm)(b c:Int):Option R16 :=
 (q17 n (((a.1.1,a.1.2),(a.2.1.1,a.2.1.2),a.2.2.1,a.2.2.2),())).bind fun r0=>cond (!r0.1.1) (some (((0:Int),(false,())),())) ((q49 n (((a.1.1,a.1.2),(a.2.1.1,a.2.1.2),a.2.2.1,a.2.2.2),b,())).bind fun r1=>cond (!r1.1.1) (some (((0:Int),(false,())),())) ((q59 n (c,(0:Int),(63:Int),())).bind fun r2=>cond (!r2.1.1) (some (((0:Int),(false,())),())) (cond (decide ((0:Int)≤b)) (cond (decide (b<(↑(List.length a.2.2.1):Int))) ((q60 n ((List.getD a.2.2.1 b.toNat (false,[],[])).2.1,IntKind.i64.wrap (c.tdiv (4:Int)),())).bind fun r3=>cond (decide (r3.1.1<(0:Int))) (some (((0:Int),(false,())),())) ((q61 n (((a.1.1,a.1.2),(a.2.1.1,a.2.1.2),a.2.2.1,a.2.2.2),b,IntKind.i64.wrap (c.tdiv (4:Int)),())).bind fun r4=>cond (decide ((0:Int)≤c.tmod (4:Int))) (cond (decide (c.tmod (4:Int)<(↑(ByteArray.size r4.1.1):Int))) (some ((IntKind.i64.wrap (↑(r4.1.1.data.toList.getD (c.tmod (4:Int)).toNat (0:UInt8)).toNat:Int),(true,())),())) none) none)) none) none)))
theorem yly(n:Nat)(a:Mm)(b c:Int):runF TT G16 an16 Try.f16 c16 ps16 rs16 n (a,b,c,())=zjw n a b c:=by kernel_rfl
noncomputable def p16(n:Nat)(a:Mm)(b c:Int):Option R16:=zjw n a b c
noncomputable def q16(n:Nat)(x:zan ps16):Option R16:=p16 n x.1 x.2.1 x.2.2.1
noncomputable def Sm16:Sm:=⟨ps16,rs16,false,q16⟩
theorem gam16:GamOK Try.prog G16:=by intro f s h;unfold G16 at h;split at h;exact gj h y17;exact gj h y49;exact gj h y59;exact gj h y60;exact gj h y61;cases h
theorem hh16:Hp 16 Sm16:=hOf (zaf (an:=an16) (c:=c16) zax gam16 zaw Try.func16 (by kernel_rfl) rfl (by decide +kernel)) fun n x=>(yly n x.1 x.2.1 x.2.2.1).trans rfl
theorem y16:Gk 16 Sm16:=⟨⟨Try.f16,c16,Try.func16,by kernel_rfl,by decide +kernel⟩,hh16⟩
noncomputable def c51:Code:=(Try.f51.body.getD .skip)
def an51:An:=⟨fun r=>match r with|6=>⟨[8,9,26,27,28],[]⟩|_=>⟨[],[]⟩,fun _ _=>none⟩
abbrev ps51:List PK:=[.val (.row 116 tAr) false,.val i64 false,.val i64 false]
abbrev rs51:List RK:=[.own (.row 116 tAr) false,.val .bool false]
abbrev R51:=zak rs51×zaj ps51
noncomputable def G51:Gam:=fun f=>match f with|63=>some Sm63|114=>some ygs|115=>some ybj|_=>none
noncomputable def at51:Nat→Pt→List Nat→St→Option R51:=atF TT G51 an51 Try.f51 c51 _ _
def zkx(x0:Lq)(x1 x2 x3 x4:Int)(x5 x6:Bool)(x7:Lq):St:=(St.mk ([Uu,Uu,Uu,Uu,Uu,Uu,Uu,Uu,AV.one (SV.bptr 1000000 0),AV.one (Sr 1000001),Uu,Uu,Uu,Uu,Uu,Uu,Uu,Uu,Uu,Uu,Uu,Uu,Uu,Uu,Uu,Uu,AV.one (SV.con (⟨116,yAq,x0⟩:Rw)),Ai x1,Ai x2]++Ur 59) [(1000000,(Ent.box [Si x3,Si x4,SV.bool x5,SV.bool x6])),(1000001,Er ⟨116,yAq,x7⟩)])
noncomputable def zjl(n:Nat)(lL6:Lq→Int→Int→Int→Int→Bool→Bool→Lq→Option R51)(a:Lq)(b c:Int):Option R51 :=
 (q63 n (a,())).bind fun r0=>cond (!r0.1.1) (some (([],(false,())),())) ((q114 n ((b,c,false,false),())).bind fun r1=>cond (!r1.1.1) (some (([],(false,())),())) (lL6 a ((↑a.length:Int)) (0:Int) b c false false ([])))
noncomputable def zh2(n:Nat)(lL6:Lq→Int→Int→Int→Int→Bool→Bool→Lq→Option R51)(x0:Lq)(x1 x2 x3 x4:Int)(x5 x6:Bool)(x7:Lq):Option R51 :=
 cond (decide (x2<x1)) (cond (decide (0≤x2)) (cond (decide (x2<(↑x0.length:Int))) ((q115 n ((x3,x4,x5,x6),())).bind fun r3=>cond (decide (r3.1.1≤(x0.getD x2.toNat ((0:Int),(0:Int),false,false)).1)) (cond (decide ((x7.length+[((x0.getD x2.toNat ((0:Int),(0:Int),false,false)).1,(x0.getD x2.toNat ((0:Int),(0:Int),false,false)).2.1,(x0.getD x2.toNat ((0:Int),(0:Int),false,false)).2.2.1,(x0.getD x2.toNat ((0:Int),(0:Int),false,false)).2.2.2)].length)*(24:Nat)≤(140737488355328:Nat))) (lL6 x0 x1 (IntKind.i64.wrap (x2+1)) x3 x4 x5 x6 (x7++[((x0.getD x2.toNat ((0:Int),(0:Int),false,false)).1,(x0.getD x2.toNat ((0:Int),(0:Int),false,false)).2.1,(x0.getD x2.toNat ((0:Int),(0:Int),false,false)).2.2.1,(x0.getD x2.toNat ((0:Int),(0:Int),false,false)).2.2.2)])) none) ((q115 n (((x0.getD x2.toNat ((0:Int),(0:Int),false,false)).1,(x0.getD x2.toNat ((0:Int),(0:Int),false,false)).2.1,(x0.getD x2.toNat ((0:Int),(0:Int),false,false)).2.2.1,(x0.getD x2.toNat ((0:Int),(0:Int),false,false)).2.2.2),())).bind fun r4=>cond (decide (r4.1.1≤x3)) (cond (decide ((x7.length+[((x0.getD x2.toNat ((0:Int),(0:Int),false,false)).1,(x0.getD x2.toNat ((0:Int),(0:Int),false,false)).2.1,(x0.getD x2.toNat ((0:Int),(0:Int),false,false)).2.2.1,(x0.getD x2.toNat ((0:Int),(0:Int),false,false)).2.2.2)].length)*(24:Nat)≤(140737488355328:Nat))) (lL6 x0 x1 (IntKind.i64.wrap (x2+1)) x3 x4 x5 x6 (x7++[((x0.getD x2.toNat ((0:Int),(0:Int),false,false)).1,(x0.getD x2.toNat ((0:Int),(0:Int),false,false)).2.1,(x0.getD x2.toNat ((0:Int),(0:Int),false,false)).2.2.1,(x0.getD x2.toNat ((0:Int),(0:Int),false,false)).2.2.2)])) none) (cond (decide ((x0.getD x2.toNat ((0:Int),(0:Int),false,false)).1<x3)) (cond (decide ((x7.length+[((x0.getD x2.toNat ((0:Int),(0:Int),false,false)).1,IntKind.i64.wrap (x3 - (x0.getD x2.toNat ((0:Int),(0:Int),false,false)).1),(x0.getD x2.toNat ((0:Int),(0:Int),false,false)).2.2.1,(x0.getD x2.toNat ((0:Int),(0:Int),false,false)).2.2.2)].length)*(24:Nat)≤(140737488355328:Nat))) ((q115 n ((x3,x4,x5,x6),())).bind fun r5=>(q115 n (((x0.getD x2.toNat ((0:Int),(0:Int),false,false)).1,(x0.getD x2.toNat ((0:Int),(0:Int),false,false)).2.1,(x0.getD x2.toNat ((0:Int),(0:Int),false,false)).2.2.1,(x0.getD x2.toNat ((0:Int),(0:Int),false,false)).2.2.2),())).bind fun r6=>cond (decide (r5.1.1<r6.1.1)) ((q115 n ((x3,x4,x5,x6),())).bind fun r7=>(q115 n (((x0.getD x2.toNat ((0:Int),(0:Int),false,false)).1,(x0.getD x2.toNat ((0:Int),(0:Int),false,false)).2.1,(x0.getD x2.toNat ((0:Int),(0:Int),false,false)).2.2.1,(x0.getD x2.toNat ((0:Int),(0:Int),false,false)).2.2.2),())).bind fun r8=>(q115 n ((x3,x4,x5,x6),())).bind fun r9=>cond (decide (((x7++[((x0.getD x2.toNat ((0:Int),(0:Int),false,false)).1,IntKind.i64.wrap (x3 - (x0.getD x2.toNat ((0:Int),(0:Int),false,false)).1),(x0.getD x2.toNat ((0:Int),(0:Int),false,false)).2.2.1,(x0.getD x2.toNat ((0:Int),(0:Int),false,false)).2.2.2)]).length+[(r7.1.1,IntKind.i64.wrap (r8.1.1 - r9.1.1),(x0.getD x2.toNat ((0:Int),(0:Int),false,false)).2.2.1,(x0.getD x2.toNat ((0:Int),(0:Int),false,false)).2.2.2)].length)*(24:Nat)≤(140737488355328:Nat))) (lL6 x0 x1 (IntKind.i64.wrap (x2+1)) x3 x4 x5 x6 (x7++[((x0.getD x2.toNat ((0:Int),(0:Int),false,false)).1,IntKind.i64.wrap (x3 - (x0.getD x2.toNat ((0:Int),(0:Int),false,false)).1),(x0.getD x2.toNat ((0:Int),(0:Int),false,false)).2.2.1,(x0.getD x2.toNat ((0:Int),(0:Int),false,false)).2.2.2)]++[(r7.1.1,IntKind.i64.wrap (r8.1.1 - r9.1.1),(x0.getD x2.toNat ((0:Int),(0:Int),false,false)).2.2.1,(x0.getD x2.toNat ((0:Int),(0:Int),false,false)).2.2.2)])) none) (lL6 x0 x1 (IntKind.i64.wrap (x2+1)) x3 x4 x5 x6 (x7++[((x0.getD x2.toNat ((0:Int),(0:Int),false,false)).1,IntKind.i64.wrap (x3 - (x0.getD x2.toNat ((0:Int),(0:Int),false,false)).1),(x0.getD x2.toNat ((0:Int),(0:Int),false,false)).2.2.1,(x0.getD x2.toNat ((0:Int),(0:Int),false,false)).2.2.2)]))) none) ((q115 n ((x3,x4,x5,x6),())).bind fun r10=>(q115 n (((x0.getD x2.toNat ((0:Int),(0:Int),false,false)).1,(x0.getD x2.toNat ((0:Int),(0:Int),false,false)).2.1,(x0.getD x2.toNat ((0:Int),(0:Int),false,false)).2.2.1,(x0.getD x2.toNat ((0:Int),(0:Int),false,false)).2.2.2),())).bind fun r11=>cond (decide (r10.1.1<r11.1.1)) ((q115 n ((x3,x4,x5,x6),())).bind fun r12=>(q115 n (((x0.getD x2.toNat ((0:Int),(0:Int),false,false)).1,(x0.getD x2.toNat ((0:Int),(0:Int),false,false)).2.1,(x0.getD x2.toNat ((0:Int),(0:Int),false,false)).2.2.1,(x0.getD x2.toNat ((0:Int),(0:Int),false,false)).2.2.2),())).bind fun r13=>(q115 n ((x3,x4,x5,x6),())).bind fun r14=>cond (decide ((x7.length+[(r12.1.1,IntKind.i64.wrap (r13.1.1 - r14.1.1),(x0.getD x2.toNat ((0:Int),(0:Int),false,false)).2.2.1,(x0.getD x2.toNat ((0:Int),(0:Int),false,false)).2.2.2)].length)*(24:Nat)≤(140737488355328:Nat))) (lL6 x0 x1 (IntKind.i64.wrap (x2+1)) x3 x4 x5 x6 (x7++[(r12.1.1,IntKind.i64.wrap (r13.1.1 - r14.1.1),(x0.getD x2.toNat ((0:Int),(0:Int),false,false)).2.2.1,(x0.getD x2.toNat ((0:Int),(0:Int),false,false)).2.2.2)])) none) (lL6 x0 x1 (IntKind.i64.wrap (x2+1)) x3 x4 x5 x6 x7))))) none) none) (cond (decide ((6:Int)<(↑x7.length:Int))) (some (([],(false,())),())) (some ((x7,(true,())),())))
theorem yla(n:Nat)(a:Lq)(b c:Int):runF TT G51 an51 Try.f51 c51 ps51 rs51 n (a,b,c,())=zjl n (fun x0 x1 x2 x3 x4 x5 x6 x7=>at51 n (.head 6) [n] (zkx x0 x1 x2 x3 x4 x5 x6 x7)) a b c:=by kernel_rfl
theorem yex(n:Nat)(x0:Lq)(x1 x2 x3 x4:Int)(x5 x6:Bool)(x7:Lq):at51 n (.head 6) [0] (zkx x0 x1 x2 x3 x4 x5 x6 x7)=none:=by kernel_rfl
theorem yq3(n m6:Nat)(x0:Lq)(x1 x2 x3 x4:Int)(x5 x6:Bool)(x7:Lq):at51 n (.head 6) [m6+1] (zkx x0 x1 x2 x3 x4 x5 x6 x7)=zh2 n (fun x0 x1 x2 x3 x4 x5 x6 x7=>at51 n (.head 6) [m6] (zkx x0 x1 x2 x3 x4 x5 x6 x7)) x0 x1 x2 x3 x4 x5 x6 x7:=by kernel_rfl
noncomputable def zq9(n:Nat):Nat→Lq→Int→Int→Int→Int→Bool→Bool→Lq→Option R51
 |0,_,_,_,_,_,_,_,_=>none
 |m+1,x0,x1,x2,x3,x4,x5,x6,x7=>zh2 n (zq9 n m) x0 x1 x2 x3 x4 x5 x6 x7
noncomputable def p51(n:Nat)(a:Lq)(b c:Int):Option R51:=zjl n (zq9 n n) a b c
theorem yob(n:Nat):∀ (m6:Nat) (x0:Lq) (x1 x2 x3 x4:Int) (x5 x6:Bool) (x7:Lq),at51 n (.head 6) [m6] (zkx x0 x1 x2 x3 x4 x5 x6 x7)=zq9 n m6 x0 x1 x2 x3 x4 x5 x6 x7:=by
 intro m
 induction m with
 |zero=>intros;rw[yex];rfl
 |succ m ih =>
  intros;rw[yq3]
  try simp only[ih]
  rfl
noncomputable def q51(n:Nat)(x:zan ps51):Option R51:=p51 n x.1 x.2.1 x.2.2.1
noncomputable def Sm51:Sm:=⟨ps51,rs51,false,q51⟩
theorem gam51:GamOK Try.prog G51:=by intro f s h;unfold G51 at h;split at h;exact gj h y63;exact gj h y114;exact gj h y115;cases h
theorem hh51:Hp 51 Sm51:=hOf (zaf (an:=an51) (c:=c51) zax gam51 zaw Try.func51 (by kernel_rfl) rfl (by decide +kernel)) fun n x=>(yla n x.1 x.2.1 x.2.2.1).trans (by simp only[yob];try rfl)
theorem y51:Gk 51 Sm51:=⟨⟨Try.f51,c51,Try.func51,by kernel_rfl,by decide +kernel⟩,hh51⟩
noncomputable def c13:Code:=(Try.f13.body.getD .skip)
def an13:An:=⟨fun r=>match r with|9=>⟨[1,2,3,8,10,13],[]⟩|_=>⟨[],[]⟩,fun _ _=>none⟩
abbrev ps13:List PK:=[.val tMem true,.val i64 false,.val i64 false,.val i64 false]
abbrev rs13:List RK:=[.own tMem true,.val i64 false]
abbrev R13:=zak rs13×zaj ps13
noncomputable def G13:Gam:=fun f=>match f with|17=>some Sm17|49=>some Sm49|50=>some Sm50|51=>some Sm51|4000116=>some zen|_=>none
noncomputable def yrh:Code:=(Try.f52.body.getD .skip)
noncomputable def il13:Inl:=fun f=>match f with|52=>some (31,yrh)|_=>none
theorem ypp:ybl Try.prog il13:=by
 intro f nt c h;unfold il13 at h;split at h
 ·injection h with h;injection h with h1 h2;subst h1;subst h2;exact⟨Try.f52,Try.func52,by kernel_rfl,by decide +kernel,by kernel_rfl,by decide +kernel⟩
 ·cases h
noncomputable def at13:Nat→Pt→List Nat→St→Option R13:=atI TT G13 il13 an13 Try.f13 c13 _ _
def zk5(x0 x1 x2 x3 x4 x5:Int)(x6:Lb)(x7:Li)(x8:Lb)(x9:Li)(x10:List (Br)):St:=(St.mk ([Uu,Ai x0,Ai x1,Ai x2,Uu,Uu,Uu,Uu,AV.one (SV.bptr 1000000 0),Uu,AV.one (SV.bptr 1000001 0),Uu,Uu,Ai x3]++Ur 51) [(1000000,(Ent.box [SV.nil,SV.nil,SV.nil,SV.nil,SV.nil,Si x4])),(1000001,(Ent.box [Sr 1000002,Sr 1000003,Sr 1000004,Sr 1000005,Sr 1000006,Si x5])),(1000002,Er ⟨9,Ty.str,x6⟩),(1000003,Er ⟨3,Ty.int .i64,x7⟩),(1000004,Er ⟨9,Ty.str,x8⟩),(1000005,Er ⟨3,Ty.int .i64,x9⟩),(1000006,Er ⟨71,ySp,x10⟩)])
noncomputable def zjz(n:Nat)(lL9:Int→Int→Int→Int→Int→Int→Lb→Li→Lb→Li→(List (Br))→Option R13)(a:Mm)(b c d:Int):Option R13 :=
 (q17 n (((a.1.1,a.1.2),(a.2.1.1,a.2.1.2),a.2.2.1,a.2.2.2),())).bind fun r0=>cond (!r0.1.1) (some (((([],[]),(([],[]),([],(0:Int)))),((1:Int),())),())) ((q49 n (((a.1.1,a.1.2),(a.2.1.1,a.2.1.2),a.2.2.1,a.2.2.2),b,())).bind fun r1=>cond (!r1.1.1) (some (((([],[]),(([],[]),([],(0:Int)))),((1:Int),())),())) ((q50 n (((a.1.1,a.1.2),(a.2.1.1,a.2.1.2),a.2.2.1,a.2.2.2),())).bind fun r2=>cond (decide ((0:Int)≤b)) (cond (decide (b<(↑(List.length a.2.2.1):Int))) ((q51 n ((List.getD a.2.2.1 b.toNat (false,[],[])).2.1,c,d,())).bind fun r3=>cond (!r3.1.2.1) (some ((((r2.1.1.1.1,r2.1.1.1.2),((r2.1.1.2.1.1,r2.1.1.2.1.2),(r2.1.1.2.2.1,r2.1.1.2.2.2))),((4:Int),())),())) (cond (decide ((0:Int)≤b)) (cond (decide (b<(↑(List.length r2.1.1.2.2.1):Int))) (lL9 b c d c (0:Int) r2.1.1.2.2.2 r2.1.1.1.1 r2.1.1.1.2 r2.1.1.2.1.1 r2.1.1.2.1.2 (List.set r2.1.1.2.2.1 b.toNat ((List.getD r2.1.1.2.2.1 b.toNat (false,[],[])).1,r3.1.1,(List.getD r2.1.1.2.2.1 b.toNat (false,[],[])).2.2))) none) none)) none) none))
noncomputable def zic(n:Nat)(lL9:Int→Int→Int→Int→Int→Int→Lb→Li→Lb→Li→(List (Br))→Option R13)(x0 x1 x2 x3 x4 x5:Int)(x6:Lb)(x7:Li)(x8:Lb)(x9:Li)(x10:List (Br)):Option R13 :=
 cond (decide (x3<IntKind.i64.wrap (x1+x2))) (cond (decide (0≤x0)) (cond (decide (x0<(↑x10.length:Int))) (cond (decide (0≤x3)) (cond (decide (x3<(↑(List.length (x10.getD x0.toNat (false,[],[])).2.2):Int))) (cond (decide ((List.getD (x10.getD x0.toNat (false,[],[])).2.2 x3.toNat (0,0,false,false)).1=(1:Int))) ((zfk n ((x6,x7),(List.getD (x10.getD x0.toNat (false,[],[])).2.2 x3.toNat (0,0,false,false)).2.1,())).bind fun r5=>lL9 x0 x1 x2 (IntKind.i64.wrap (x3+1)) x4 x5 r5.2.1.1 r5.2.1.2 x8 x9 (x10.set x0.toNat ((x10.getD x0.toNat (false,[],[])).1,(x10.getD x0.toNat (false,[],[])).2.1,List.set (x10.getD x0.toNat (false,[],[])).2.2 x3.toNat ((0:Int),(0:Int),false,false)))) (cond (decide ((List.getD (x10.getD x0.toNat (false,[],[])).2.2 x3.toNat (0,0,false,false)).1=(2:Int))) ((zfk n ((x8,x9),(List.getD (x10.getD x0.toNat (false,[],[])).2.2 x3.toNat (0,0,false,false)).2.1,())).bind fun r6=>lL9 x0 x1 x2 (IntKind.i64.wrap (x3+1)) x4 x5 x6 x7 r6.2.1.1 r6.2.1.2 (x10.set x0.toNat ((x10.getD x0.toNat (false,[],[])).1,(x10.getD x0.toNat (false,[],[])).2.1,List.set (x10.getD x0.toNat (false,[],[])).2.2 x3.toNat ((0:Int),(0:Int),false,false)))) (lL9 x0 x1 x2 (IntKind.i64.wrap (x3+1)) x4 x5 x6 x7 x8 x9 (x10.set x0.toNat ((x10.getD x0.toNat (false,[],[])).1,(x10.getD x0.toNat (false,[],[])).2.1,List.set (x10.getD x0.toNat (false,[],[])).2.2 x3.toNat ((0:Int),(0:Int),false,false)))))) none) none) none) none) (some ((((x6,x7),((x8,x9),(x10,x5))),((0:Int),())),()))
theorem yl3(n:Nat)(a:Mm)(b c d:Int):runI TT G13 il13 an13 Try.f13 c13 ps13 rs13 n (a,b,c,d,())=zjz n (fun x0 x1 x2 x3 x4 x5 x6 x7 x8 x9 x10=>at13 n (.head 9) [n] (zk5 x0 x1 x2 x3 x4 x5 x6 x7 x8 x9 x10)) a b c d:=by kernel_rfl
theorem yfq(n:Nat)(x0 x1 x2 x3 x4 x5:Int)(x6:Lb)(x7:Li)(x8:Lb)(x9:Li)(x10:List (Br)):at13 n (.head 9) [0] (zk5 x0 x1 x2 x3 x4 x5 x6 x7 x8 x9 x10)=none:=by kernel_rfl
theorem yre(n m9:Nat)(x0 x1 x2 x3 x4 x5:Int)(x6:Lb)(x7:Li)(x8:Lb)(x9:Li)(x10:List (Br)):at13 n (.head 9) [m9+1] (zk5 x0 x1 x2 x3 x4 x5 x6 x7 x8 x9 x10)=zic n (fun x0 x1 x2 x3 x4 x5 x6 x7 x8 x9 x10=>at13 n (.head 9) [m9] (zk5 x0 x1 x2 x3 x4 x5 x6 x7 x8 x9 x10)) x0 x1 x2 x3 x4 x5 x6 x7 x8 x9 x10:=by kernel_rfl
noncomputable def zrh(n:Nat):Nat→Int→Int→Int→Int→Int→Int→Lb→Li→Lb→Li→(List (Br))→Option R13
 |0,_,_,_,_,_,_,_,_,_,_,_=>none
 |m+1,x0,x1,x2,x3,x4,x5,x6,x7,x8,x9,x10=>zic n (zrh n m) x0 x1 x2 x3 x4 x5 x6 x7 x8 x9 x10
noncomputable def p13(n:Nat)(a:Mm)(b c d:Int):Option R13:=zjz n (zrh n n) a b c d
theorem yol(n:Nat):∀ (m9:Nat) (x0 x1 x2 x3 x4 x5:Int) (x6:Lb) (x7:Li) (x8:Lb) (x9:Li) (x10:List (Br)),at13 n (.head 9) [m9] (zk5 x0 x1 x2 x3 x4 x5 x6 x7 x8 x9 x10)=zrh n m9 x0 x1 x2 x3 x4 x5 x6 x7 x8 x9 x10:=by
 intro m
 induction m with
 |zero=>intros;rw[yfq];rfl
 |succ m ih =>
  intros;rw[yre]
  try simp only[ih]
  rfl
noncomputable def q13(n:Nat)(x:zan ps13):Option R13:=p13 n x.1 x.2.1 x.2.2.1 x.2.2.2.1
noncomputable def Sm13:Sm:=⟨ps13,rs13,false,q13⟩
theorem gam13:GamOK Try.prog G13:=by intro f s h;unfold G13 at h;split at h;exact gj h y17;exact gj h y49;exact gj h y50;exact gj h y51;exact gj h ybo;cases h
theorem hh13:Hp 13 Sm13:=hOf (zza (an:=an13) (c:=c13) zax gam13 ypp zaw Try.func13 (by kernel_rfl) rfl (by decide +kernel)) fun n x=>(yl3 n x.1 x.2.1 x.2.2.1 x.2.2.2.1).trans (by simp only[yol];try rfl)
theorem y13:Gk 13 Sm13:=⟨⟨Try.f13,c13,Try.func13,by kernel_rfl,by decide +kernel⟩,hh13⟩
noncomputable def c14:Code:=(Try.f14.body.getD .skip)
def an14:An:=⟨fun _=>⟨[],[]⟩,fun _ _=>none⟩
abbrev ps14:List PK:=[.val tMem true,.val i64 false,.val i64 false,.val i64 false]
abbrev rs14:List RK:=[.own tMem true,.val i64 false]
abbrev R14:=zak rs14×zaj ps14
noncomputable def G14:Gam:=fun f=>match f with|53=>some Sm53|54=>some Sm54|55=>some Sm55|56=>some Sm56|_=>none
noncomputable def zjy(n:Nat)(a:Mm)(b c d:Int):Option R14 :=
 (q53 n (((a.1.1,a.1.2),(a.2.1.1,a.2.1.2),a.2.2.1,a.2.2.2),())).bind fun r0=>cond (!r0.1.1) (some (((([],[]),(([],[]),([],(0:Int)))),((1:Int),())),())) ((q54 n (((a.1.1,a.1.2),(a.2.1.1,a.2.1.2),a.2.2.1,a.2.2.2),b,())).bind fun r1=>cond (!r1.1.1) (some (((([],[]),(([],[]),([],(0:Int)))),((1:Int),())),())) ((q56 n (((a.1.1,a.1.2),(a.2.1.1,a.2.1.2),a.2.2.1,a.2.2.2),())).bind fun r2=>(q55 n (((r2.1.1.1.1,r2.1.1.1.2),(r2.1.1.2.1.1,r2.1.1.2.1.2),r2.1.1.2.2.1,r2.1.1.2.2.2),b,c,d,())).bind fun r3=>some ((((r3.1.1.1.1,r3.1.1.1.2),((r3.1.1.2.1.1,r3.1.1.2.1.2),(r3.1.1.2.2.1,r3.1.1.2.2.2))),(r3.1.2.1,())),())))
theorem yl2(n:Nat)(a:Mm)(b c d:Int):runF TT G14 an14 Try.f14 c14 ps14 rs14 n (a,b,c,d,())=zjy n a b c d:=by kernel_rfl
noncomputable def p14(n:Nat)(a:Mm)(b c d:Int):Option R14:=zjy n a b c d
noncomputable def q14(n:Nat)(x:zan ps14):Option R14:=p14 n x.1 x.2.1 x.2.2.1 x.2.2.2.1
noncomputable def Sm14:Sm:=⟨ps14,rs14,false,q14⟩
theorem gam14:GamOK Try.prog G14:=by intro f s h;unfold G14 at h;split at h;exact gj h y53;exact gj h y54;exact gj h y55;exact gj h y56;cases h
theorem hh14:Hp 14 Sm14:=hOf (zaf (an:=an14) (c:=c14) zax gam14 zaw Try.func14 (by kernel_rfl) rfl (by decide +kernel)) fun n x=>(yl2 n x.1 x.2.1 x.2.2.1 x.2.2.2.1).trans rfl
theorem y14:Gk 14 Sm14:=⟨⟨Try.f14,c14,Try.func14,by kernel_rfl,by decide +kernel⟩,hh14⟩
noncomputable def c3:Code:=(Try.f3.body.getD .skip)
def an3:An:=⟨fun r=>match r with|10=>⟨[3,4,5,6,7,12],[]⟩|13=>⟨[3,4,5,6,7,12,13],[]⟩|_=>⟨[],[]⟩,fun _ _=>none⟩
abbrev ps3:List PK:=[.val (.row 5 (.int .u8)) false]
abbrev rs3:List RK:=[.val .bool false]
abbrev R3:=zak rs3×zaj ps3
noncomputable def G3:Gam:=fun f=>match f with|12=>some Sm12|13=>some Sm13|14=>some Sm14|15=>some Sm15|16=>some Sm16|17=>some Sm17|_=>none
noncomputable def at3:Nat→Pt→List Nat→St→Option R3:=atF TT G3 an3 Try.f3 c3 _ _
def zk2(x0 x1 x2 x3 x4 x5 x6:Int)(x7:Lb)(x8:Li)(x9:Lb)(x10:Li)(x11:List (Br))(x12:Lb)(x13:Li)(x14:Lb)(x15:Li)(x16:List (Br)):St:=(St.mk ([Uu,Uu,Uu,AV.one (SV.bptr 1000000 0),Ai x0,Ai x1,Ai x2,AV.one (SV.bptr 1000001 0),Uu,Uu,Uu,Uu,Ai x3,Ai x4]++Ur 106) [(1000000,(Ent.box [Sr 1000002,Sr 1000003,Sr 1000004,Sr 1000005,Sr 1000006,Si x5])),(1000001,(Ent.box [Sr 1000007,Sr 1000008,Sr 1000009,Sr 1000010,Sr 1000011,Si x6])),(1000002,Er ⟨9,Ty.str,x7⟩),(1000003,Er ⟨3,Ty.int .i64,x8⟩),(1000004,Er ⟨9,Ty.str,x9⟩),(1000005,Er ⟨3,Ty.int .i64,x10⟩),(1000006,Er ⟨71,ySp,x11⟩),(1000007,Er ⟨9,Ty.str,x12⟩),(1000008,Er ⟨3,Ty.int .i64,x13⟩),(1000009,Er ⟨9,Ty.str,x14⟩),(1000010,Er ⟨3,Ty.int .i64,x15⟩),(1000011,Er ⟨71,ySp,x16⟩)])
def zif(x0 x1 x2 x3 x4 x5:Int)(x6:Lb)(x7:Li)(x8:Lb)(x9:Li)(x10:List (Br))(x11:Lb)(x12:Li)(x13:Lb)(x14:Li)(x15:List (Br)):St:=(St.mk ([Uu,Uu,Uu,AV.one (SV.bptr 1000000 0),Ai x0,Ai x1,Ai x2,AV.one (SV.bptr 1000001 0),Uu,Uu,Uu,Uu,Ai x3]++Ur 107) [(1000000,(Ent.box [Sr 1000002,Sr 1000003,Sr 1000004,Sr 1000005,Sr 1000006,Si x4])),(1000001,(Ent.box [Sr 1000007,Sr 1000008,Sr 1000009,Sr 1000010,Sr 1000011,Si x5])),(1000002,Er ⟨9,Ty.str,x6⟩),(1000003,Er ⟨3,Ty.int .i64,x7⟩),(1000004,Er ⟨9,Ty.str,x8⟩),(1000005,Er ⟨3,Ty.int .i64,x9⟩),(1000006,Er ⟨71,ySp,x10⟩),(1000007,Er ⟨9,Ty.str,x11⟩),(1000008,Er ⟨3,Ty.int .i64,x12⟩),(1000009,Er ⟨9,Ty.str,x13⟩),(1000010,Er ⟨3,Ty.int .i64,x14⟩),(1000011,Er ⟨71,ySp,x15⟩)])
noncomputable def zor(n:Nat)(lL10:Int→Int→Int→Int→Int→Int→Lb→Li→Lb→Li→(List (Br))→Lb→Li→Lb→Li→(List (Br))→Option R3)(a:Li):Option R3 :=
 cond (decide ((1048576:Int)<(↑a.length:Int))) (some ((true,()),())) ((q12 n (a,())).bind fun r0=>(q13 n (((r0.1.1.1.1,r0.1.1.1.2),(r0.1.1.2.1.1,r0.1.1.2.1.2),r0.1.1.2.2.1,r0.1.1.2.2.2),r0.1.2.1,r0.1.2.2.1,r0.1.2.2.2.1,())).bind fun r1=>(q14 n (((r0.1.1.1.1,r0.1.1.1.2),(r0.1.1.2.1.1,r0.1.1.2.1.2),r0.1.1.2.2.1,r0.1.1.2.2.2),r0.1.2.1,r0.1.2.2.1,r0.1.2.2.2.1,())).bind fun r2=>(q15 n (((r1.1.1.1.1,r1.1.1.1.2),(r1.1.1.2.1.1,r1.1.1.2.1.2),r1.1.1.2.2.1,r1.1.1.2.2.2),((r2.1.1.1.1,r2.1.1.1.2),(r2.1.1.2.1.1,r2.1.1.2.1.2),r2.1.1.2.2.1,r2.1.1.2.2.2),())).bind fun r3=>cond r3.1.1 (cond (!decide (r1.1.2.1=r2.1.2.1)) (some ((decide (r1.1.2.1=r2.1.2.1),()),())) (cond (!decide (r1.1.2.1=(0:Int))) (some ((decide (r1.1.2.1=r2.1.2.1),()),())) (lL10 r0.1.2.1 r0.1.2.2.1 r0.1.2.2.2.1 (0:Int) r0.1.1.2.2.2 r1.1.1.2.2.2 r0.1.1.1.1 r0.1.1.1.2 r0.1.1.2.1.1 r0.1.1.2.1.2 r0.1.1.2.2.1 r1.1.1.1.1 r1.1.1.1.2 r1.1.1.2.1.1 r1.1.1.2.1.2 r1.1.1.2.2.1))) (some ((false,()),())))
noncomputable def zh8(n:Nat)(lL13:Int→Int→Int→Int→Int→Int→Int→Lb→Li→Lb→Li→(List (Br))→Lb→Li→Lb→Li→(List (Br))→Option R3)(lL10:Int→Int→Int→Int→Int→Int→Lb→Li→Lb→Li→(List (Br))→Lb→Li→Lb→Li→(List (Br))→Option R3)(x0 x1 x2 x3 x4 x5 x6:Int)(x7:Lb)(x8:Li)(x9:Lb)(x10:Li)(x11:List (Br))(x12:Lb)(x13:Li)(x14:Lb)(x15:Li)(x16:List (Br)):Option R3 :=
 cond (decide (x4<64)) ((q16 n (((x7,x8),(x9,x10),x11,x5),x3,x4,())).bind fun r6=>(q16 n (((x12,x13),(x14,x15),x16,x6),x3,x4,())).bind fun r7=>cond (decide (x3=x0)) (cond (decide (x1≤IntKind.i64.wrap (x4.tdiv (4:Int)))) (cond (decide (IntKind.i64.wrap (x4.tdiv (4:Int))<IntKind.i64.wrap (x1+x2))) (cond r7.1.2.1 (some ((false,()),())) (cond (!decide (IntKind.i64.wrap (x4.tdiv (4:Int))<IntKind.i64.wrap (x1+x2))) (cond (!r6.1.2.1 == r7.1.2.1) (some ((false,()),())) (cond (!decide (r6.1.1=r7.1.1)) (some ((false,()),())) (lL13 x0 x1 x2 x3 (IntKind.i64.wrap (x4+1)) x5 x6 x7 x8 x9 x10 x11 x12 x13 x14 x15 x16))) (lL13 x0 x1 x2 x3 (IntKind.i64.wrap (x4+1)) x5 x6 x7 x8 x9 x10 x11 x12 x13 x14 x15 x16))) (cond (!decide (IntKind.i64.wrap (x4.tdiv (4:Int))<IntKind.i64.wrap (x1+x2))) (cond (!r6.1.2.1 == r7.1.2.1) (some ((false,()),())) (cond (!decide (r6.1.1=r7.1.1)) (some ((false,()),())) (lL13 x0 x1 x2 x3 (IntKind.i64.wrap (x4+1)) x5 x6 x7 x8 x9 x10 x11 x12 x13 x14 x15 x16))) (lL13 x0 x1 x2 x3 (IntKind.i64.wrap (x4+1)) x5 x6 x7 x8 x9 x10 x11 x12 x13 x14 x15 x16))) (cond (!r6.1.2.1 == r7.1.2.1) (some ((false,()),())) (cond (!decide (r6.1.1=r7.1.1)) (some ((false,()),())) (lL13 x0 x1 x2 x3 (IntKind.i64.wrap (x4+1)) x5 x6 x7 x8 x9 x10 x11 x12 x13 x14 x15 x16)))) (cond (!r6.1.2.1 == r7.1.2.1) (some ((false,()),())) (cond (!decide (r6.1.1=r7.1.1)) (some ((false,()),())) (lL13 x0 x1 x2 x3 (IntKind.i64.wrap (x4+1)) x5 x6 x7 x8 x9 x10 x11 x12 x13 x14 x15 x16)))) (lL10 x0 x1 x2 (IntKind.i64.wrap (x3+1)) x5 x6 x7 x8 x9 x10 x11 x12 x13 x14 x15 x16)
noncomputable def zh9(n:Nat)(lL13:Int→Int→Int→Int→Int→Int→Int→Lb→Li→Lb→Li→(List (Br))→Lb→Li→Lb→Li→(List (Br))→Option R3)(x0 x1 x2 x3 x4 x5:Int)(x6:Lb)(x7:Li)(x8:Lb)(x9:Li)(x10:List (Br))(x11:Lb)(x12:Li)(x13:Lb)(x14:Li)(x15:List (Br)):Option R3 :=
 cond (decide (x3<5)) (lL13 x0 x1 x2 x3 (0:Int) x4 x5 x6 x7 x8 x9 x10 x11 x12 x13 x14 x15) ((q17 n (((x11,x12),(x13,x14),x15,x5),())).bind fun r8=>some ((r8.1.1,()),()))
theorem yq9(n:Nat)(a:Li):runF TT G3 an3 Try.f3 c3 ps3 rs3 n (a,())=zor n (fun x0 x1 x2 x3 x4 x5 x6 x7 x8 x9 x10 x11 x12 x13 x14 x15=>at3 n (.head 10) [n] (zif x0 x1 x2 x3 x4 x5 x6 x7 x8 x9 x10 x11 x12 x13 x14 x15)) a:=by kernel_rfl
theorem ye3(n m10:Nat)(x0 x1 x2 x3 x4 x5 x6:Int)(x7:Lb)(x8:Li)(x9:Lb)(x10:Li)(x11:List (Br))(x12:Lb)(x13:Li)(x14:Lb)(x15:Li)(x16:List (Br)):at3 n (.head 13) [m10,0] (zk2 x0 x1 x2 x3 x4 x5 x6 x7 x8 x9 x10 x11 x12 x13 x14 x15 x16)=none:=by kernel_rfl
theorem yq_(n m10 m13:Nat)(x0 x1 x2 x3 x4 x5 x6:Int)(x7:Lb)(x8:Li)(x9:Lb)(x10:Li)(x11:List (Br))(x12:Lb)(x13:Li)(x14:Lb)(x15:Li)(x16:List (Br)):at3 n (.head 13) [m10,m13+1] (zk2 x0 x1 x2 x3 x4 x5 x6 x7 x8 x9 x10 x11 x12 x13 x14 x15 x16)=zh8 n (fun x0 x1 x2 x3 x4 x5 x6 x7 x8 x9 x10 x11 x12 x13 x14 x15 x16=>at3 n (.head 13) [m10,m13] (zk2 x0 x1 x2 x3 x4 x5 x6 x7 x8 x9 x10 x11 x12 x13 x14 x15 x16)) (fun x0 x1 x2 x3 x4 x5 x6 x7 x8 x9 x10 x11 x12 x13 x14 x15=>at3 n (.head 10) [m10] (zif x0 x1 x2 x3 x4 x5 x6 x7 x8 x9 x10 x11 x12 x13 x14 x15)) x0 x1 x2 x3 x4 x5 x6 x7 x8 x9 x10 x11 x12 x13 x14 x15 x16:=by kernel_rfl
theorem ye4(n:Nat)(x0 x1 x2 x3 x4 x5:Int)(x6:Lb)(x7:Li)(x8:Lb)(x9:Li)(x10:List (Br))(x11:Lb)(x12:Li)(x13:Lb)(x14:Li)(x15:List (Br)):at3 n (.head 10) [0] (zif x0 x1 x2 x3 x4 x5 x6 x7 x8 x9 x10 x11 x12 x13 x14 x15)=none:=by kernel_rfl
theorem yra(n m10:Nat)(x0 x1 x2 x3 x4 x5:Int)(x6:Lb)(x7:Li)(x8:Lb)(x9:Li)(x10:List (Br))(x11:Lb)(x12:Li)(x13:Lb)(x14:Li)(x15:List (Br)):at3 n (.head 10) [m10+1] (zif x0 x1 x2 x3 x4 x5 x6 x7 x8 x9 x10 x11 x12 x13 x14 x15)=zh9 n (fun x0 x1 x2 x3 x4 x5 x6 x7 x8 x9 x10 x11 x12 x13 x14 x15 x16=>at3 n (.head 13) [m10,n] (zk2 x0 x1 x2 x3 x4 x5 x6 x7 x8 x9 x10 x11 x12 x13 x14 x15 x16)) x0 x1 x2 x3 x4 x5 x6 x7 x8 x9 x10 x11 x12 x13 x14 x15:=by kernel_rfl
noncomputable def zrd(g10:Int→Int→Int→Int→Int→Int→Lb→Li→Lb→Li→(List (Br))→Lb→Li→Lb→Li→(List (Br))→Option R3)(n:Nat):Nat→Int→Int→Int→Int→Int→Int→Int→Lb→Li→Lb→Li→(List (Br))→Lb→Li→Lb→Li→(List (Br))→Option R3
 |0,_,_,_,_,_,_,_,_,_,_,_,_,_,_,_,_,_=>none
 |m+1,x0,x1,x2,x3,x4,x5,x6,x7,x8,x9,x10,x11,x12,x13,x14,x15,x16=>zh8 n (zrd g10 n m) g10 x0 x1 x2 x3 x4 x5 x6 x7 x8 x9 x10 x11 x12 x13 x14 x15 x16
noncomputable def zlu(n:Nat):Nat→Int→Int→Int→Int→Int→Int→Lb→Li→Lb→Li→(List (Br))→Lb→Li→Lb→Li→(List (Br))→Option R3
 |0,_,_,_,_,_,_,_,_,_,_,_,_,_,_,_,_=>none
 |m+1,x0,x1,x2,x3,x4,x5,x6,x7,x8,x9,x10,x11,x12,x13,x14,x15=>zh9 n (zrd (zlu n m) n n) x0 x1 x2 x3 x4 x5 x6 x7 x8 x9 x10 x11 x12 x13 x14 x15
noncomputable def p3(n:Nat)(a:Li):Option R3:=zor n (zlu n n) a
theorem yog(n m10:Nat):∀ (m13:Nat) (x0 x1 x2 x3 x4 x5 x6:Int) (x7:Lb) (x8:Li) (x9:Lb) (x10:Li) (x11:List (Br)) (x12:Lb) (x13:Li) (x14:Lb) (x15:Li) (x16:List (Br)),at3 n (.head 13) [m10,m13] (zk2 x0 x1 x2 x3 x4 x5 x6 x7 x8 x9 x10 x11 x12 x13 x14 x15 x16)=zrd (fun x0 x1 x2 x3 x4 x5 x6 x7 x8 x9 x10 x11 x12 x13 x14 x15=>at3 n (.head 10) [m10] (zif x0 x1 x2 x3 x4 x5 x6 x7 x8 x9 x10 x11 x12 x13 x14 x15)) n m13 x0 x1 x2 x3 x4 x5 x6 x7 x8 x9 x10 x11 x12 x13 x14 x15 x16:=by
 intro m
 induction m with
 |zero=>intros;rw[ye3];rfl
 |succ m ih =>
  intros;rw[yq_]
  try simp only[ih]
  rfl
theorem yoh(n:Nat):∀ (m10:Nat) (x0 x1 x2 x3 x4 x5:Int) (x6:Lb) (x7:Li) (x8:Lb) (x9:Li) (x10:List (Br)) (x11:Lb) (x12:Li) (x13:Lb) (x14:Li) (x15:List (Br)),at3 n (.head 10) [m10] (zif x0 x1 x2 x3 x4 x5 x6 x7 x8 x9 x10 x11 x12 x13 x14 x15)=zlu n m10 x0 x1 x2 x3 x4 x5 x6 x7 x8 x9 x10 x11 x12 x13 x14 x15:=by
 intro m
 induction m with
 |zero=>intros;rw[ye4];rfl
 |succ m ih =>
  intros;rw[yra]
  try simp only[yog,ih]
  rfl
noncomputable def q3(n:Nat)(x:zan ps3):Option R3:=p3 n x.1
noncomputable def Sm3:Sm:=⟨ps3,rs3,false,q3⟩
theorem gam3:GamOK Try.prog G3:=by intro f s h;unfold G3 at h;split at h;exact gj h y12;exact gj h y13;exact gj h y14;exact gj h y15;exact gj h y16;exact gj h y17;cases h
theorem hh3:Hp 3 Sm3:=hOf (zaf (an:=an3) (c:=c3) zax gam3 zaw Try.func3 (by kernel_rfl) rfl (by decide +kernel)) fun n x=>(yq9 n x.1).trans (by simp only[yoh];try rfl)
end Go.Proofs.Ytdkaagpkeomhmaa.Rx.S
