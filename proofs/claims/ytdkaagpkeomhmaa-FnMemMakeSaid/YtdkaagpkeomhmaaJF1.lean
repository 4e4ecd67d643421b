/- What the functions of this seat compute, each as a plain function on lists and numbers, with the proof that a call answers so. No condition. -/
import Derived.WalkKit
import Derived.Deep.LoopGhost
import Derived.Lib.Walk
import Derived.Test.YtdkaagpkeomhmaaJF0
set_option linter.unusedVariables false
set_option linter.unusedSimpArgs false
namespace Go.Proofs.Ytdkaagpkeomhmaa.Rx.S
open Go Go.RowKit Go.Proofs
set_option maxRecDepth 100000
noncomputable def c111:Code:=(Try.f111.body.getD .skip)
def ypv:An:=⟨fun _=>⟨[],[]⟩,fun _ _=>none⟩
abbrev yca:List PK:=[.bx tRd]
abbrev yhv:List RK:=[.val tAr true]
abbrev R111:=zam yhv×zak yca
noncomputable def G111:Gam:=fun f=>match f with|48=>some Sm48|_=>none
noncomputable def zgj(n:Nat)(a:Li×Int):Option R111 :=
 (q48 n ((a.1,a.2),(16:Int),())).bind fun r0=>(q48 n ((r0.2.1.1,r0.2.1.2),(5:Int),())).bind fun r1=>(q48 n ((r1.2.1.1,r1.2.1.2),(4:Int),())).bind fun r2=>(q48 n ((r2.2.1.1,r2.2.1.2),(3:Int),())).bind fun r3=>(q48 n ((r3.2.1.1,r3.2.1.2),(20:Int),())).bind fun r4=>cond (decide (r4.1.1=(0:Int))) ((q48 n ((r4.2.1.1,r4.2.1.2),(4:Int),())).bind fun r5=>cond (decide ((0:Int)≤r5.1.1)) (cond (decide (r5.1.1<(↑[(0:Int),(-1:Int),(16:Int),(17:Int)].length:Int))) (some (((r0.1.1,([(0:Int),(-1:Int),(16:Int),(17:Int)].getD (Int.toNat r5.1.1) (0:Int),(decide ((0:Int)<r2.1.1),decide (r3.1.1=(0:Int))))),()),((r5.2.1.1,r5.2.1.2),()))) none) none) (some (((r0.1.1,(IntKind.i64.wrap ((1:Int)+r1.1.1),(decide ((0:Int)<r2.1.1),decide (r3.1.1=(0:Int))))),()),((r4.2.1.1,r4.2.1.2),())))
theorem yel(n:Nat)(a:Li×Int):runF TT G111 ypv Try.f111 c111 yca yhv n (a,())=zgj n a:=by kernel_rfl
noncomputable def p111(n:Nat)(a:Li×Int):Option R111:=zgj n a
noncomputable def q111(n:Nat)(x:zap yca):Option R111:=p111 n x.1
noncomputable def yl0:Sm:=⟨yca,yhv,true,q111⟩
theorem yoj:GamOK Try.prog G111:=by intro f s h;unfold G111 at h;split at h;exact gj h y48;cases h
theorem hh111:Hp 111 yl0:=hOf (zaf (an:=ypv) (c:=c111) zax yoj zaw Try.func111 (by kernel_rfl) rfl (by decide +kernel)) fun n x=>(yel n x.1).trans rfl
theorem y111:Gk 111 yl0:=⟨⟨Try.f111,c111,Try.func111,by kernel_rfl,by decide +kernel⟩,hh111⟩
noncomputable def c46:Code:=(Try.f46.body.getD .skip)
def an46:An:=⟨fun r=>match r with|5=>⟨[0,2,3,6],[]⟩|9=>⟨[0,2,3,7],[]⟩|_=>⟨[],[]⟩,fun _ _=>none⟩
abbrev ps46:List PK:=[.bx tRd]
abbrev rs46:List RK:=[.own tMem true]
abbrev R46:=zam rs46×zak ps46
noncomputable def G46:Gam:=fun f=>match f with|28=>some Sm28|48=>some Sm48|107=>some yl2|108=>some yfa|109=>some ye_|110=>some yl1|111=>some yl0|_=>none
noncomputable def at46:Nat→Pt→List Nat→St→Option R46:=atF TT G46 an46 Try.f46 c46 _ _
def zh3(x0:Int)(x1:Li)(x2 x3 x4:Int)(x5:Lb)(x6:Li)(x7:Lb)(x8:Li)(x9:List (Br)):St:=(St.mk ([AV.par 0 false [SV.bptr 1000000 0],Uu,AV.one (SV.bptr 1000001 0),AV.one (SV.bptr 1000002 0),Uu,Uu,Uu,Ai x0]++Ur 115) [(1000000,(Ent.box [SV.con (⟨5,Ty.int IntKind.u8,x1⟩:Rw),Si x2])),(1000001,(Ent.box [SV.nil,SV.nil,SV.nil,SV.nil,SV.nil,Si x3])),(1000002,(Ent.box [Sr 1000003,Sr 1000004,Sr 1000005,Sr 1000006,Sr 1000007,Si x4])),(1000003,Er ⟨9,Ty.str,x5⟩),(1000004,Er ⟨3,Ty.int .i64,x6⟩),(1000005,Er ⟨9,Ty.str,x7⟩),(1000006,Er ⟨3,Ty.int .i64,x8⟩),(1000007,Er ⟨71,ySp,x9⟩)])
def zki(x0:Int)(x1:Li)(x2 x3 x4:Int)(x5:Lb)(x6:Li)(x7:Lb)(x8:Li)(x9:List (Br)):St:=(St.mk ([AV.par 0 false [SV.bptr 1000000 0],Uu,AV.one (SV.bptr 1000001 0),AV.one (SV.bptr 1000002 0),Uu,Uu,Ai x0]++Ur 116) [(1000000,(Ent.box [SV.con (⟨5,Ty.int IntKind.u8,x1⟩:Rw),Si x2])),(1000001,(Ent.box [SV.nil,SV.nil,SV.nil,SV.nil,SV.nil,Si x3])),(1000002,(Ent.box [Sr 1000003,Sr 1000004,Sr 1000005,Sr 1000006,Sr 1000007,Si x4])),(1000003,Er ⟨9,Ty.str,x5⟩),(1000004,Er ⟨3,Ty.int .i64,x6⟩),(1000005,Er ⟨9,Ty.str,x7⟩),(1000006,Er ⟨3,Ty.int .i64,x8⟩),(1000007,Er ⟨71,ySp,x9⟩)])
noncomputable def zjd(n:Nat)(lL5:Int→Li→Int→Int→Int→Lb→Li→Lb→Li→(List (Br))→Option R46)(lL9:Int→Li→Int→Int→Int→Lb→Li→Lb→Li→(List (Br))→Option R46)(a:Li×Int):Option R46 :=
 (q107 n ()).bind fun r0=>(q28 n (((r0.1.1.1.1,r0.1.1.1.2),(r0.1.1.2.1.1,r0.1.1.2.1.2),r0.1.1.2.2.1,r0.1.1.2.2.2),())).bind fun r1=>(q48 n ((a.1,a.2),(2:Int),())).bind fun r2=>cond (decide (r2.1.1=(0:Int))) ((q48 n ((r2.2.1.1,r2.2.1.2),(9:Int),())).bind fun r3=>(q48 n ((r3.2.1.1,r3.2.1.2),(3:Int),())).bind fun r4=>(q108 n (((r1.1.1.1.1,r1.1.1.1.2),(r1.1.1.2.1.1,r1.1.1.2.1.2),r1.1.1.2.2.1,r1.1.1.2.2.2),(0:Int),((0:Int),IntKind.i64.wrap ((8:Int)+r3.1.1),true,decide (r4.1.1=(0:Int))),())).bind fun r5=>(q48 n ((r4.2.1.1,r4.2.1.2),(16:Int),())).bind fun r6=>lL5 r6.1.1 r6.2.1.1 r6.2.1.2 (0:Int) r5.1.1.2.2.2 r5.1.1.1.1 r5.1.1.1.2 r5.1.1.2.1.1 r5.1.1.2.1.2 r5.1.1.2.2.1) ((q48 n ((r2.2.1.1,r2.2.1.2),(30:Int),())).bind fun r22=>lL9 r22.1.1 r22.2.1.1 r22.2.1.2 (0:Int) r1.1.1.2.2.2 r1.1.1.1.1 r1.1.1.1.2 r1.1.1.2.1.1 r1.1.1.2.1.2 r1.1.1.2.2.1)
noncomputable def zhv(n:Nat)(lL9:Int→Li→Int→Int→Int→Lb→Li→Lb→Li→(List (Br))→Option R46)(x0:Int)(x1:Li)(x2 x3 x4:Int)(x5:Lb)(x6:Li)(x7:Lb)(x8:Li)(x9:List (Br)):Option R46 :=
 cond (decide (0<x0)) ((q110 n ((x1,x2),((x5,x6),(x7,x8),x9,x4),())).bind fun r11=>lL9 (IntKind.i64.wrap (x0 - 1)) r11.2.1.1 r11.2.1.2 x3 r11.1.1.2.2.2 r11.1.1.1.1 r11.1.1.1.2 r11.1.1.2.1.1 r11.1.1.2.1.2 r11.1.1.2.2.1) ((q48 n ((x1,x2),(24:Int),())).bind fun r12=>cond (decide (r12.1.1=(0:Int))) ((q48 n ((r12.2.1.1,r12.2.1.2),(3:Int),())).bind fun r13=>cond (decide ((0:Int)≤r13.1.1)) (cond (decide (r13.1.1<(↑[(-1:Int),(12:Int),(3:Int)].length:Int))) (some ((((x5,x6),((x7,x8),(x9,[(-1:Int),(12:Int),(3:Int)].getD (Int.toNat r13.1.1) (0:Int)))),()),((r13.2.1.1,r13.2.1.2),()))) none) none) (cond (decide (r12.1.1=(1:Int))) ((q48 n ((r12.2.1.1,r12.2.1.2),(12:Int),())).bind fun r14=>(q48 n ((r14.2.1.1,r14.2.1.2),(3:Int),())).bind fun r15=>cond (decide ((0:Int)≤r14.1.1)) (cond (decide (r14.1.1<(↑x6.length:Int))) (some ((((x5,x6.set (Int.toNat r14.1.1) r15.1.1),((x7,x8),(x9,x4))),()),((r15.2.1.1,r15.2.1.2),()))) none) none) (cond (decide (r12.1.1=(2:Int))) (cond (decide ((0:Int)<(↑x9.length:Int))) (cond ((x9.getD (Int.toNat (0:Int)) (false,[],[])).1) (cond (decide ((0:Int)<(↑x9.length:Int))) ((q48 n ((r12.2.1.1,r12.2.1.2),(16:Int),())).bind fun r16=>(q48 n ((r16.2.1.1,r16.2.1.2),(4:Int),())).bind fun r17=>(q48 n ((r17.2.1.1,r17.2.1.2),(14:Int),())).bind fun r18=>(q48 n ((r18.2.1.1,r18.2.1.2),(2:Int),())).bind fun r19=>(q48 n ((r19.2.1.1,r19.2.1.2),(2:Int),())).bind fun r20=>cond (decide ((0:Int)≤r16.1.1)) (cond (decide (r16.1.1<(↑(List.length (x9.getD (Int.toNat (0:Int)) (false,[],[])).2.2):Int))) (some ((((x5,x6),((x7,x8),(x9.set (Int.toNat (0:Int)) ((x9.getD (Int.toNat (0:Int)) (false,[],[])).1,(x9.getD (Int.toNat (0:Int)) (false,[],[])).2.1,List.set (x9.getD (Int.toNat (0:Int)) (false,[],[])).2.2 (Int.toNat r16.1.1) (r17.1.1,IntKind.i64.wrap (r18.1.1 - (1:Int)),decide (r19.1.1=(0:Int)),decide (r20.1.1=(0:Int)))),x4))),()),((r20.2.1.1,r20.2.1.2),()))) none) none) none) (some ((((x5,x6),((x7,x8),(x9,x4))),()),((r12.2.1.1,r12.2.1.2),())))) none) (cond (decide (r12.1.1=(3:Int))) (cond (decide ((1:Int)≤(↑x9.length:Int))) (some ((((x5,x6),((x7,x8),(List.take ((↑x9.length:Int) - (1:Int)).toNat (List.drop ((0:Nat)+Int.toNat (1:Int)) x9),x4))),()),((r12.2.1.1,r12.2.1.2),()))) none) (cond (decide (r12.1.1=(4:Int))) (cond (decide ((1:Int)<(↑x9.length:Int))) ((q111 n ((r12.2.1.1,r12.2.1.2),())).bind fun r21=>cond (decide ((List.length (x9.getD (Int.toNat (1:Int)) (false,[],[])).2.1+[(r21.1.1.1,r21.1.1.2.1,r21.1.1.2.2.1,r21.1.1.2.2.2)].length)*(24:Nat)≤(140737488355328:Nat))) (cond (decide ((1:Int)<(↑x9.length:Int))) (some ((((x5,x6),((x7,x8),(x9.set (Int.toNat (1:Int)) ((x9.getD (Int.toNat (1:Int)) (false,[],[])).1,(x9.getD (Int.toNat (1:Int)) (false,[],[])).2.1++[(r21.1.1.1,r21.1.1.2.1,r21.1.1.2.2.1,r21.1.1.2.2.2)],(x9.getD (Int.toNat (1:Int)) (false,[],[])).2.2),x4))),()),((r21.2.1.1,r21.2.1.2),()))) none) none) none) (some ((((x5,x6),((x7,x8),(x9,x4))),()),((r12.2.1.1,r12.2.1.2),()))))))))
noncomputable def zhw(n:Nat)(lL5:Int→Li→Int→Int→Int→Lb→Li→Lb→Li→(List (Br))→Option R46)(lL9:Int→Li→Int→Int→Int→Lb→Li→Lb→Li→(List (Br))→Option R46)(x0:Int)(x1:Li)(x2 x3 x4:Int)(x5:Lb)(x6:Li)(x7:Lb)(x8:Li)(x9:List (Br)):Option R46 :=
 cond (decide (0<x0)) ((q109 n (((x5,x6),(x7,x8),x9,x4),(0:Int),IntKind.i64.wrap (IntKind.i64.wrap (x0*4) - (1:Int)),IntKind.i64.wrap ((1:Int)+x0),())).bind fun r8=>lL5 (IntKind.i64.wrap (x0 - 1)) x1 x2 x3 r8.1.1.2.2.2 r8.1.1.1.1 r8.1.1.1.2 r8.1.1.2.1.1 r8.1.1.2.1.2 r8.1.1.2.2.1) ((q48 n ((x1,x2),(30:Int),())).bind fun r9=>lL9 r9.1.1 r9.2.1.1 r9.2.1.2 x3 x4 x5 x6 x7 x8 x9)
theorem yjj(n:Nat)(a:Li×Int):runF TT G46 an46 Try.f46 c46 ps46 rs46 n (a,())=zjd n (fun x0 x1 x2 x3 x4 x5 x6 x7 x8 x9=>at46 n (.head 5) [n] (zki x0 x1 x2 x3 x4 x5 x6 x7 x8 x9)) (fun x0 x1 x2 x3 x4 x5 x6 x7 x8 x9=>at46 n (.head 9) [n] (zh3 x0 x1 x2 x3 x4 x5 x6 x7 x8 x9)) a:=by kernel_rfl
theorem ydh(n:Nat)(x0:Int)(x1:Li)(x2 x3 x4:Int)(x5:Lb)(x6:Li)(x7:Lb)(x8:Li)(x9:List (Br)):at46 n (.head 9) [0] (zh3 x0 x1 x2 x3 x4 x5 x6 x7 x8 x9)=none:=by kernel_rfl
theorem yo3(n:Nat)(m9:Nat)(x0:Int)(x1:Li)(x2 x3 x4:Int)(x5:Lb)(x6:Li)(x7:Lb)(x8:Li)(x9:List (Br)):at46 n (.head 9) [m9+1] (zh3 x0 x1 x2 x3 x4 x5 x6 x7 x8 x9)=zhv n (fun x0 x1 x2 x3 x4 x5 x6 x7 x8 x9=>at46 n (.head 9) [m9] (zh3 x0 x1 x2 x3 x4 x5 x6 x7 x8 x9)) x0 x1 x2 x3 x4 x5 x6 x7 x8 x9:=by kernel_rfl
theorem ydi(n:Nat)(x0:Int)(x1:Li)(x2 x3 x4:Int)(x5:Lb)(x6:Li)(x7:Lb)(x8:Li)(x9:List (Br)):at46 n (.head 5) [0] (zki x0 x1 x2 x3 x4 x5 x6 x7 x8 x9)=none:=by kernel_rfl
theorem yo4(n:Nat)(m5:Nat)(x0:Int)(x1:Li)(x2 x3 x4:Int)(x5:Lb)(x6:Li)(x7:Lb)(x8:Li)(x9:List (Br)):at46 n (.head 5) [m5+1] (zki x0 x1 x2 x3 x4 x5 x6 x7 x8 x9)=zhw n (fun x0 x1 x2 x3 x4 x5 x6 x7 x8 x9=>at46 n (.head 5) [m5] (zki x0 x1 x2 x3 x4 x5 x6 x7 x8 x9)) (fun x0 x1 x2 x3 x4 x5 x6 x7 x8 x9=>at46 n (.head 9) [n] (zh3 x0 x1 x2 x3 x4 x5 x6 x7 x8 x9)) x0 x1 x2 x3 x4 x5 x6 x7 x8 x9:=by kernel_rfl
noncomputable def znb(n:Nat):Nat→Int→Li→Int→Int→Int→Lb→Li→Lb→Li→(List (Br))→Option R46
 |0,_,_,_,_,_,_,_,_,_,_=>none
 |m+1,x0,x1,x2,x3,x4,x5,x6,x7,x8,x9=>zhv n (znb n m) x0 x1 x2 x3 x4 x5 x6 x7 x8 x9
noncomputable def zqo(n:Nat):Nat→Int→Li→Int→Int→Int→Lb→Li→Lb→Li→(List (Br))→Option R46
 |0,_,_,_,_,_,_,_,_,_,_=>none
 |m+1,x0,x1,x2,x3,x4,x5,x6,x7,x8,x9=>zhw n (zqo n m) (znb n n) x0 x1 x2 x3 x4 x5 x6 x7 x8 x9
noncomputable def p46(n:Nat)(a:Li×Int):Option R46:=zjd n (zqo n n) (znb n n) a
theorem yfg(n:Nat):∀ (m9:Nat) (x0:Int) (x1:Li) (x2 x3 x4:Int) (x5:Lb) (x6:Li) (x7:Lb) (x8:Li) (x9:List (Br)),at46 n (.head 9) [m9] (zh3 x0 x1 x2 x3 x4 x5 x6 x7 x8 x9)=znb n m9 x0 x1 x2 x3 x4 x5 x6 x7 x8 x9:=by
 intro m
 induction m with
 |zero=>intros;rw[ydh];rfl
 |succ m ih =>
  intros
  rw[yo3]
  try simp only[ih]
  rfl
theorem ymj(n:Nat):∀ (m5:Nat) (x0:Int) (x1:Li) (x2 x3 x4:Int) (x5:Lb) (x6:Li) (x7:Lb) (x8:Li) (x9:List (Br)),at46 n (.head 5) [m5] (zki x0 x1 x2 x3 x4 x5 x6 x7 x8 x9)=zqo n m5 x0 x1 x2 x3 x4 x5 x6 x7 x8 x9:=by
 intro m
 induction m with
 |zero=>intros;rw[ydi];rfl
 |succ m ih =>
  intros
  rw[yo4]
  try simp only[yfg,ih]
  rfl
noncomputable def q46(n:Nat)(x:zap ps46):Option R46:=p46 n x.1
noncomputable def Sm46:Sm:=⟨ps46,rs46,true,q46⟩
theorem gam46:GamOK Try.prog G46:=by intro f s h;unfold G46 at h;split at h;exact gj h y28;exact gj h y48;exact gj h y107;exact gj h y108;exact gj h y109;exact gj h y110;exact gj h y111;cases h
theorem hh46:Hp 46 Sm46:=hOf (zaf (an:=an46) (c:=c46) zax gam46 zaw Try.func46 (by kernel_rfl) rfl (by decide +kernel)) fun n x=>(yjj n x.1).trans (by simp only[ymj,yfg];try rfl)
theorem y46:Gk 46 Sm46:=⟨⟨Try.f46,c46,Try.func46,by kernel_rfl,by decide +kernel⟩,hh46⟩
noncomputable def c59:Code:=(Try.f59.body.getD .skip)
def an59:An:=⟨fun _=>⟨[],[]⟩,fun _ _=>none⟩
abbrev ps59:List PK:=[.val i64 false,.val i64 false,.val i64 false]
abbrev rs59:List RK:=[.val .bool false]
abbrev R59:=zam rs59×zak ps59
noncomputable def G59:Gam:=fun _=>none
noncomputable def zi5(n:Nat)(a:Int)(b:Int)(c:Int):Option R59 :=
 cond (decide (b≤a)) (some ((decide (a≤c),()),())) (some ((false,()),()))
theorem yi8(n:Nat)(a:Int)(b:Int)(c:Int):runF TT G59 an59 Try.f59 c59 ps59 rs59 n (a,b,c,())=zi5 n a b c:=by kernel_rfl
noncomputable def p59(n:Nat)(a:Int)(b:Int)(c:Int):Option R59:=zi5 n a b c
noncomputable def q59(n:Nat)(x:zap ps59):Option R59:=p59 n x.1 x.2.1 x.2.2.1
noncomputable def Sm59:Sm:=⟨ps59,rs59,false,q59⟩
theorem gam59:GamOK Try.prog G59:=fun _ _ h=>by cases h
theorem hh59:Hp 59 Sm59:=hOf (zaf (an:=an59) (c:=c59) zax gam59 zaw Try.func59 (by kernel_rfl) rfl (by decide +kernel)) fun n x=>(yi8 n x.1 x.2.1 x.2.2.1).trans rfl
theorem y59:Gk 59 Sm59:=⟨⟨Try.f59,c59,Try.func59,by kernel_rfl,by decide +kernel⟩,hh59⟩
noncomputable def c114:Code:=(Try.f114.body.getD .skip)
def ypt:An:=⟨fun _=>⟨[],[]⟩,fun _ _=>none⟩
abbrev yb8:List PK:=[.val tAr true]
abbrev yht:List RK:=[.val .bool false]
abbrev R114:=zam yht×zak yb8
noncomputable def G114:Gam:=fun f=>match f with|59=>some Sm59|_=>none
noncomputable def zgh(n:Nat)(a:Aq):Option R114 :=
 (q59 n (a.1,(0:Int),(15:Int),())).bind fun r0=>cond r0.1.1 ((q59 n (a.2.1,(1:Int),IntKind.i64.wrap ((16:Int) - a.1),())).bind fun r1=>some ((r1.1.1,()),())) (some ((false,()),()))
theorem yej(n:Nat)(a:Aq):runF TT G114 ypt Try.f114 c114 yb8 yht n (a,())=zgh n a:=by kernel_rfl
noncomputable def p114(n:Nat)(a:Aq):Option R114:=zgh n a
noncomputable def q114(n:Nat)(x:zap yb8):Option R114:=p114 n x.1
noncomputable def ylx:Sm:=⟨yb8,yht,false,q114⟩
theorem yoh:GamOK Try.prog G114:=by intro f s h;unfold G114 at h;split at h;exact gj h y59;cases h
theorem hh114:Hp 114 ylx:=hOf (zaf (an:=ypt) (c:=c114) zax yoh zaw Try.func114 (by kernel_rfl) rfl (by decide +kernel)) fun n x=>(yej n x.1).trans rfl
theorem y114:Gk 114 ylx:=⟨⟨Try.f114,c114,Try.func114,by kernel_rfl,by decide +kernel⟩,hh114⟩
noncomputable def c115:Code:=(Try.f115.body.getD .skip)
def yps:An:=⟨fun _=>⟨[],[]⟩,fun _ _=>none⟩
abbrev yb7:List PK:=[.val tAr true]
abbrev yhs:List RK:=[.val i64 false]
abbrev R115:=zam yhs×zak yb7
noncomputable def G115:Gam:=fun _=>none
noncomputable def zp4(n:Nat)(a:Aq):Option R115 :=
 some ((IntKind.i64.wrap (a.1+a.2.1),()),())
theorem yei(n:Nat)(a:Aq):runF TT G115 yps Try.f115 c115 yb7 yhs n (a,())=zp4 n a:=by kernel_rfl
noncomputable def p115(n:Nat)(a:Aq):Option R115:=zp4 n a
noncomputable def q115(n:Nat)(x:zap yb7):Option R115:=p115 n x.1
noncomputable def ye9:Sm:=⟨yb7,yhs,false,q115⟩
theorem yog:GamOK Try.prog G115:=fun _ _ h=>by cases h
theorem hh115:Hp 115 ye9:=hOf (zaf (an:=yps) (c:=c115) zax yog zaw Try.func115 (by kernel_rfl) rfl (by decide +kernel)) fun n x=>(yei n x.1).trans rfl
theorem y115:Gk 115 ye9:=⟨⟨Try.f115,c115,Try.func115,by kernel_rfl,by decide +kernel⟩,hh115⟩
noncomputable def c63:Code:=(Try.f63.body.getD .skip)
def an63:An:=⟨fun r=>match r with|2=>⟨[0,5,6,7],[]⟩|_=>⟨[],[]⟩,fun _ _=>none⟩
abbrev ps63:List PK:=[.val (.row 116 tAr) false]
abbrev rs63:List RK:=[.val .bool false]
abbrev R63:=zam rs63×zak ps63
noncomputable def G63:Gam:=fun f=>match f with|114=>some ylx|115=>some ye9|_=>none
noncomputable def at63:Nat→Pt→List Nat→St→Option R63:=atF TT G63 an63 Try.f63 c63 _ _
def zkb(x0 x1:Lq)(x2 x3:Int):St:=(St.mk ([AV.one (SV.con (⟨116,yAq,x0⟩:Rw)),Uu,Uu,Uu,Uu,AV.one (SV.con (⟨116,yAq,x1⟩:Rw)),Ai x2,Ai x3]++Ur 26) [])
noncomputable def ztg(n:Nat)(lL2:Lq→Lq→Int→Int→Option R63)(a:Lq):Option R63 :=
 lL2 a a ((↑a.length:Int)) (0:Int)
noncomputable def zn7(n:Nat)(lL2:Lq→Lq→Int→Int→Option R63)(x0 x1:Lq)(x2 x3:Int):Option R63 :=
 cond (decide (x3<x2)) (cond (decide (0≤x3)) (cond (decide (x3<(↑x1.length:Int))) ((q114 n (((x1.getD x3.toNat ((0:Int),(0:Int),false,false)).1,(x1.getD x3.toNat ((0:Int),(0:Int),false,false)).2.1,(x1.getD x3.toNat ((0:Int),(0:Int),false,false)).2.2.1,(x1.getD x3.toNat ((0:Int),(0:Int),false,false)).2.2.2),())).bind fun r1=>cond (!r1.1.1) (some ((false,()),())) (cond (decide (0<x3)) (cond (decide ((0:Int)≤IntKind.i64.wrap (x3 - 1))) (cond (decide (IntKind.i64.wrap (x3 - 1)<(↑x0.length:Int))) ((q115 n (((x0.getD (IntKind.i64.wrap (x3 - 1)).toNat ((0:Int),(0:Int),false,false)).1,(x0.getD (IntKind.i64.wrap (x3 - 1)).toNat ((0:Int),(0:Int),false,false)).2.1,(x0.getD (IntKind.i64.wrap (x3 - 1)).toNat ((0:Int),(0:Int),false,false)).2.2.1,(x0.getD (IntKind.i64.wrap (x3 - 1)).toNat ((0:Int),(0:Int),false,false)).2.2.2),())).bind fun r2=>cond (decide ((x1.getD x3.toNat ((0:Int),(0:Int),false,false)).1<r2.1.1)) (some ((false,()),())) (lL2 x0 x1 x2 (IntKind.i64.wrap (x3+1)))) none) none) (lL2 x0 x1 x2 (IntKind.i64.wrap (x3+1))))) none) none) (some ((decide ((↑x0.length:Int)≤(6:Int)),()),()))
theorem yi5(n:Nat)(a:Lq):runF TT G63 an63 Try.f63 c63 ps63 rs63 n (a,())=ztg n (fun x0 x1 x2 x3=>at63 n (.head 2) [n] (zkb x0 x1 x2 x3)) a:=by kernel_rfl
theorem yc_(n:Nat)(x0 x1:Lq)(x2 x3:Int):at63 n (.head 2) [0] (zkb x0 x1 x2 x3)=none:=by kernel_rfl
theorem yov(n:Nat)(m2:Nat)(x0 x1:Lq)(x2 x3:Int):at63 n (.head 2) [m2+1] (zkb x0 x1 x2 x3)=zn7 n (fun x0 x1 x2 x3=>at63 n (.head 2) [m2] (zkb x0 x1 x2 x3)) x0 x1 x2 x3:=by kernel_rfl
noncomputable def zt2(n:Nat):Nat→Lq→Lq→Int→Int→Option R63
 |0,_,_,_,_=>none
 |m+1,x0,x1,x2,x3=>zn7 n (zt2 n m) x0 x1 x2 x3
noncomputable def p63(n:Nat)(a:Lq):Option R63:=ztg n (zt2 n n) a
theorem ymb(n:Nat):∀ (m2:Nat) (x0 x1:Lq) (x2 x3:Int),at63 n (.head 2) [m2] (zkb x0 x1 x2 x3)=zt2 n m2 x0 x1 x2 x3:=by
 intro m
 induction m with
 |zero=>intros;rw[yc_];rfl
 |succ m ih =>
  intros
  rw[yov]
  try simp only[ih]
  rfl
noncomputable def q63(n:Nat)(x:zap ps63):Option R63:=p63 n x.1
noncomputable def Sm63:Sm:=⟨ps63,rs63,false,q63⟩
theorem gam63:GamOK Try.prog G63:=by intro f s h;unfold G63 at h;split at h;exact gj h y114;exact gj h y115;cases h
theorem hh63:Hp 63 Sm63:=hOf (zaf (an:=an63) (c:=c63) zax gam63 zaw Try.func63 (by kernel_rfl) rfl (by decide +kernel)) fun n x=>(yi5 n x.1).trans (by simp only[ymb];try rfl)
theorem y63:Gk 63 Sm63:=⟨⟨Try.f63,c63,Try.func63,by kernel_rfl,by decide +kernel⟩,hh63⟩
noncomputable def c87:Code:=(Try.f87.body.getD .skip)
abbrev ps87:List PK:=[.val (.row 116 tAr) false]
abbrev rs87:List RK:=[.own (.row 116 tAr) false]
abbrev R87:=zam rs87×zak ps87
noncomputable def p87(n:Nat)(a:Lq):Option R87:=cond (decide ((0+a.length)*(24:Nat)≤(140737488355328:Nat))) (some ((a,()),())) none
noncomputable def q87(n:Nat)(x:zap ps87):Option R87:=p87 n x.1
noncomputable def Sm87:Sm:=⟨ps87,rs87,false,q87⟩
noncomputable def yp2(n:Nat)(xs:Lq):St:=(zic Try.f87.ntmps ps87 (xs,())).put (some 2) (.one .nil)
noncomputable def S1_87(n:Nat)(xs:Lq):St:=(yp2 n xs).put (some 3) (.one (.con ⟨116,tAr,xs⟩))
theorem yiv:GamOK Try.prog (fun _=>none):=fun f s h=>by cases h
theorem hh87:zij Try.prog 87 Sm87:=by
 refine znx zax yiv zaw (an:=⟨fun _=>⟨[],[]⟩,fun _ _=>none⟩) Try.func87 (by rfl) rfl (by first|exact Try.underlying68|kernel_rfl) (by decide +kernel) yp2 (fun n xs=>by kernel_rfl) S1_87 (fun n xs=>by kernel_rfl) (fun n xs=>rfl) (fun n xs b=>by kernel_rfl) (fun n y h=>?_) (fun n xs y h=>?_)
 ·have h':some (([],()),())=some y:=h
  refine Eq.trans ?_ h'
  kernel_rfl
 ·have h':cond (decide ((0+xs.length)*(24:Nat)≤(140737488355328:Nat))) (some ((xs,()),())) none=some y:=h
  refine Eq.trans ?_ h'
  kernel_rfl
theorem y87:Gk 87 Sm87:=⟨⟨Try.f87,c87,Try.func87,by kernel_rfl,by decide +kernel⟩,hh87⟩
noncomputable def c125:Code:=(Try.f125.body.getD .skip)
def ypo:An:=⟨fun _=>⟨[],[]⟩,fun _ _=>none⟩
abbrev yby:List PK:=[.val tAr true,.cp i64]
abbrev yhj:List RK:=[.val .bool false]
abbrev R125:=zam yhj×zak yby
noncomputable def G125:Gam:=fun f=>match f with|115=>some ye9|_=>none
noncomputable def zgd(n:Nat)(a:Aq)(b:Int):Option R125 :=
 cond (decide (a.1≤[b].getD (0:Nat) (0:Int))) ((q115 n ((a.1,a.2.1,a.2.2.1,a.2.2.2),())).bind fun r0=>some ((decide ([b].getD (0:Nat) (0:Int)<r0.1.1),()),())) (some ((false,()),()))
theorem yd_(n:Nat)(a:Aq)(b:Int):runF TT G125 ypo Try.f125 c125 yby yhj n (a,b,())=zgd n a b:=by kernel_rfl
noncomputable def p125(n:Nat)(a:Aq)(b:Int):Option R125:=zgd n a b
noncomputable def q125(n:Nat)(x:zap yby):Option R125:=p125 n x.1 x.2.1
noncomputable def ylp:Sm:=⟨yby,yhj,false,q125⟩
theorem yn8:GamOK Try.prog G125:=by intro f s h;unfold G125 at h;split at h;exact gj h y115;cases h
theorem hh125:Hp 125 ylp:=hOf (zaf (an:=ypo) (c:=c125) zax yn8 zaw Try.func125 (by kernel_rfl) rfl (by decide +kernel)) fun n x=>(yd_ n x.1 x.2.1).trans rfl
theorem y125:Gk 125 ylp:=⟨⟨Try.f125,c125,Try.func125,by kernel_rfl,by decide +kernel⟩,hh125⟩
noncomputable def c124:Code:=(Try.f124.body.getD .skip)
def yk5:An:=⟨fun r=>match r with|2=>⟨[0,1,7,8],[]⟩|_=>⟨[],[]⟩,fun _ _=>none⟩
abbrev ybz:List PK:=[.val (.row 116 tAr) false,.fn 125 [i64]]
abbrev yhk:List RK:=[.val i64 false]
abbrev R124:=zam yhk×zak ybz
noncomputable def G124:Gam:=fun f=>match f with|125=>some ylp|_=>none
noncomputable def zzm:Nat→Pt→List Nat→St→Option R124:=atF TT G124 yk5 Try.f124 c124 _ _
def zg3(x0:Lq)(x1 x2 x3:Int):St:=(St.mk ([AV.one (SV.con (⟨116,yAq,x0⟩:Rw)),AV.fn 125 [SV.cptr (⟨0,Ty.int .i64,[x1]⟩:Rw) 0 0],Uu,Uu,Uu,Uu,Uu,Ai x2,Ai x3]++Ur 10) [])
noncomputable def zp1(n:Nat)(lL2:Lq→Int→Int→Int→Option R124)(a:Lq)(b:Int×Unit):Option R124 :=
 lL2 a b.1 ((↑a.length:Int)) (0:Int)
noncomputable def ze4(n:Nat)(lL2:Lq→Int→Int→Int→Option R124)(x0:Lq)(x1 x2 x3:Int):Option R124 :=
 cond (decide (x3<x2)) (cond (decide (0≤x3)) (cond (decide (x3<(↑x0.length:Int))) ((q125 n (((x0.getD x3.toNat ((0:Int),(0:Int),false,false)).1,(x0.getD x3.toNat ((0:Int),(0:Int),false,false)).2.1,(x0.getD x3.toNat ((0:Int),(0:Int),false,false)).2.2.1,(x0.getD x3.toNat ((0:Int),(0:Int),false,false)).2.2.2),x1,())).bind fun r1=>cond r1.1.1 (some ((x3,()),())) (lL2 x0 x1 x2 (IntKind.i64.wrap (x3+1)))) none) none) (some (((-1:Int),()),()))
theorem yea(n:Nat)(a:Lq)(b:Int×Unit):runF TT G124 yk5 Try.f124 c124 ybz yhk n (a,b,())=zp1 n (fun x0 x1 x2 x3=>zzm n (.head 2) [n] (zg3 x0 x1 x2 x3)) a b:=by kernel_rfl
theorem zyw(n:Nat)(x0:Lq)(x1 x2 x3:Int):zzm n (.head 2) [0] (zg3 x0 x1 x2 x3)=none:=by kernel_rfl
theorem yj_(n:Nat)(m2:Nat)(x0:Lq)(x1 x2 x3:Int):zzm n (.head 2) [m2+1] (zg3 x0 x1 x2 x3)=ze4 n (fun x0 x1 x2 x3=>zzm n (.head 2) [m2] (zg3 x0 x1 x2 x3)) x0 x1 x2 x3:=by kernel_rfl
noncomputable def zov(n:Nat):Nat→Lq→Int→Int→Int→Option R124
 |0,_,_,_,_=>none
 |m+1,x0,x1,x2,x3=>ze4 n (zov n m) x0 x1 x2 x3
noncomputable def p124(n:Nat)(a:Lq)(b:Int×Unit):Option R124:=zp1 n (zov n n) a b
theorem ygm(n:Nat):∀ (m2:Nat) (x0:Lq) (x1 x2 x3:Int),zzm n (.head 2) [m2] (zg3 x0 x1 x2 x3)=zov n m2 x0 x1 x2 x3:=by
 intro m
 induction m with
 |zero=>intros;rw[zyw];rfl
 |succ m ih =>
  intros
  rw[yj_]
  try simp only[ih]
  rfl
noncomputable def q124(n:Nat)(x:zap ybz):Option R124:=p124 n x.1 x.2.1
noncomputable def ylq:Sm:=⟨ybz,yhk,false,q124⟩
theorem yn9:GamOK Try.prog G124:=by intro f s h;unfold G124 at h;split at h;exact gj h y125;cases h
theorem hh124:Hp 124 ylq:=hOf (zaf (an:=yk5) (c:=c124) zax yn9 zaw Try.func124 (by kernel_rfl) rfl (by decide +kernel)) fun n x=>(yea n x.1 x.2.1).trans (by simp only[ygm];try rfl)
theorem y124:Gk 124 ylq:=⟨⟨Try.f124,c124,Try.func124,by kernel_rfl,by decide +kernel⟩,hh124⟩
noncomputable def c60:Code:=(Try.f60.body.getD .skip)
def an60:An:=⟨fun _=>⟨[],[]⟩,fun _ _=>none⟩
abbrev ps60:List PK:=[.val (.row 116 tAr) false,.val i64 false]
abbrev rs60:List RK:=[.val i64 false]
abbrev R60:=zam rs60×zak ps60
noncomputable def G60:Gam:=fun f=>match f with|63=>some Sm63|124=>some ylq|_=>none
noncomputable def zi4(n:Nat)(a:Lq)(b:Int):Option R60 :=
 (q63 n (a,())).bind fun r0=>cond (!r0.1.1) (some (((-1:Int),()),())) ((q124 n (a,(b,()),())).bind fun r1=>some ((r1.1.1,()),()))
theorem yi7(n:Nat)(a:Lq)(b:Int):runF TT G60 an60 Try.f60 c60 ps60 rs60 n (a,b,())=zi4 n a b:=by kernel_rfl
noncomputable def p60(n:Nat)(a:Lq)(b:Int):Option R60:=zi4 n a b
noncomputable def q60(n:Nat)(x:zap ps60):Option R60:=p60 n x.1 x.2.1
noncomputable def Sm60:Sm:=⟨ps60,rs60,false,q60⟩
theorem gam60:GamOK Try.prog G60:=by intro f s h;unfold G60 at h;split at h;exact gj h y63;exact gj h y124;cases h
theorem hh60:Hp 60 Sm60:=hOf (zaf (an:=an60) (c:=c60) zax gam60 zaw Try.func60 (by kernel_rfl) rfl (by decide +kernel)) fun n x=>(yi7 n x.1 x.2.1).trans rfl
theorem y60:Gk 60 Sm60:=⟨⟨Try.f60,c60,Try.func60,by kernel_rfl,by decide +kernel⟩,hh60⟩
noncomputable def c39:Code:=(Try.f39.body.getD .skip)
def an39:An:=⟨fun r=>match r with|4=>⟨[0,1,5],[]⟩|_=>⟨[],[]⟩,fun _ _=>none⟩
abbrev ps39:List PK:=[.val (.row 9 .str) false,.val (.row 9 .str) false]
abbrev rs39:List RK:=[.val .bool false]
abbrev R39:=zam rs39×zak ps39
noncomputable def G39:Gam:=fun _=>none
noncomputable def at39:Nat→Pt→List Nat→St→Option R39:=atF TT G39 an39 Try.f39 c39 _ _
def zkk(x0 x1:Lb)(x2:Int):St:=(St.mk ([AV.one (SV.con (⟨9,Ty.str,x0⟩:Rw)),AV.one (SV.con (⟨9,Ty.str,x1⟩:Rw)),Uu,Uu,Uu,Ai x2]++Ur 20) [])
noncomputable def zjg(n:Nat)(lL4:Lb→Lb→Int→Option R39)(a:Lb)(b:Lb):Option R39 :=
 cond (!decide ((↑a.length:Int)=(↑b.length:Int))) (some ((false,()),())) (lL4 a b (0:Int))
noncomputable def zhy(n:Nat)(lL4:Lb→Lb→Int→Option R39)(x0 x1:Lb)(x2:Int):Option R39 :=
 cond (decide (x2<(↑x0.length:Int))) (cond (decide (0≤x2)) (cond (decide (x2<(↑x0.length:Int))) (cond (decide (0≤x2)) (cond (decide (x2<(↑x1.length:Int))) (cond (!ByteArray.toList (x0.getD x2.toNat ByteArray.empty) == ByteArray.toList (x1.getD x2.toNat ByteArray.empty)) (some ((false,()),())) (lL4 x0 x1 (IntKind.i64.wrap (x2+1)))) none) none) none) none) (some ((true,()),()))
theorem yjm(n:Nat)(a:Lb)(b:Lb):runF TT G39 an39 Try.f39 c39 ps39 rs39 n (a,b,())=zjg n (fun x0 x1 x2=>at39 n (.head 4) [n] (zkk x0 x1 x2)) a b:=by kernel_rfl
theorem ydk(n:Nat)(x0 x1:Lb)(x2:Int):at39 n (.head 4) [0] (zkk x0 x1 x2)=none:=by kernel_rfl
theorem yo6(n:Nat)(m4:Nat)(x0 x1:Lb)(x2:Int):at39 n (.head 4) [m4+1] (zkk x0 x1 x2)=zhy n (fun x0 x1 x2=>at39 n (.head 4) [m4] (zkk x0 x1 x2)) x0 x1 x2:=by kernel_rfl
noncomputable def zt4(n:Nat):Nat→Lb→Lb→Int→Option R39
 |0,_,_,_=>none
 |m+1,x0,x1,x2=>zhy n (zt4 n m) x0 x1 x2
noncomputable def p39(n:Nat)(a:Lb)(b:Lb):Option R39:=zjg n (zt4 n n) a b
theorem yml(n:Nat):∀ (m4:Nat) (x0 x1:Lb) (x2:Int),at39 n (.head 4) [m4] (zkk x0 x1 x2)=zt4 n m4 x0 x1 x2:=by
 intro m
 induction m with
 |zero=>intros;rw[ydk];rfl
 |succ m ih =>
  intros
  rw[yo6]
  try simp only[ih]
  rfl
noncomputable def q39(n:Nat)(x:zap ps39):Option R39:=p39 n x.1 x.2.1
noncomputable def Sm39:Sm:=⟨ps39,rs39,false,q39⟩
theorem gam39:GamOK Try.prog G39:=fun _ _ h=>by cases h
theorem hh39:Hp 39 Sm39:=hOf (zaf (an:=an39) (c:=c39) zax gam39 zaw Try.func39 (by kernel_rfl) rfl (by decide +kernel)) fun n x=>(yjm n x.1 x.2.1).trans (by simp only[yml];try rfl)
theorem y39:Gk 39 Sm39:=⟨⟨Try.f39,c39,Try.func39,by kernel_rfl,by decide +kernel⟩,hh39⟩
noncomputable def c40:Code:=(Try.f40.body.getD .skip)
def an40:An:=⟨fun r=>match r with|4=>⟨[0,1,5],[]⟩|_=>⟨[],[]⟩,fun _ _=>none⟩
abbrev ps40:List PK:=[.val (.row 116 tAr) false,.val (.row 116 tAr) false]
abbrev rs40:List RK:=[.val .bool false]
abbrev R40:=zam rs40×zak ps40
noncomputable def G40:Gam:=fun _=>none
noncomputable def at40:Nat→Pt→List Nat→St→Option R40:=atF TT G40 an40 Try.f40 c40 _ _
def zkj(x0 x1:Lq)(x2:Int):St:=(St.mk ([AV.one (SV.con (⟨116,yAq,x0⟩:Rw)),AV.one (SV.con (⟨116,yAq,x1⟩:Rw)),Uu,Uu,Uu,Ai x2]++Ur 20) [])
noncomputable def zjf(n:Nat)(lL4:Lq→Lq→Int→Option R40)(a:Lq)(b:Lq):Option R40 :=
 cond (!decide ((↑a.length:Int)=(↑b.length:Int))) (some ((false,()),())) (lL4 a b (0:Int))
noncomputable def zhx(n:Nat)(lL4:Lq→Lq→Int→Option R40)(x0 x1:Lq)(x2:Int):Option R40 :=
 cond (decide (x2<(↑x0.length:Int))) (cond (decide (0≤x2)) (cond (decide (x2<(↑x0.length:Int))) (cond (decide (0≤x2)) (cond (decide (x2<(↑x1.length:Int))) (cond (!(decide ((x0.getD x2.toNat ((0:Int),(0:Int),false,false)).1=(x1.getD x2.toNat ((0:Int),(0:Int),false,false)).1)&&(decide ((x0.getD x2.toNat ((0:Int),(0:Int),false,false)).2.1=(x1.getD x2.toNat ((0:Int),(0:Int),false,false)).2.1)&&((x0.getD x2.toNat ((0:Int),(0:Int),false,false)).2.2.1 == (x1.getD x2.toNat ((0:Int),(0:Int),false,false)).2.2.1&&((x0.getD x2.toNat ((0:Int),(0:Int),false,false)).2.2.2 == (x1.getD x2.toNat ((0:Int),(0:Int),false,false)).2.2.2&&true))))) (some ((false,()),())) (lL4 x0 x1 (IntKind.i64.wrap (x2+1)))) none) none) none) none) (some ((true,()),()))
theorem yjl(n:Nat)(a:Lq)(b:Lq):runF TT G40 an40 Try.f40 c40 ps40 rs40 n (a,b,())=zjf n (fun x0 x1 x2=>at40 n (.head 4) [n] (zkj x0 x1 x2)) a b:=by kernel_rfl
theorem ydj(n:Nat)(x0 x1:Lq)(x2:Int):at40 n (.head 4) [0] (zkj x0 x1 x2)=none:=by kernel_rfl
theorem yo5(n:Nat)(m4:Nat)(x0 x1:Lq)(x2:Int):at40 n (.head 4) [m4+1] (zkj x0 x1 x2)=zhx n (fun x0 x1 x2=>at40 n (.head 4) [m4] (zkj x0 x1 x2)) x0 x1 x2:=by kernel_rfl
noncomputable def zt3(n:Nat):Nat→Lq→Lq→Int→Option R40
 |0,_,_,_=>none
 |m+1,x0,x1,x2=>zhx n (zt3 n m) x0 x1 x2
noncomputable def p40(n:Nat)(a:Lq)(b:Lq):Option R40:=zjf n (zt3 n n) a b
theorem ymk(n:Nat):∀ (m4:Nat) (x0 x1:Lq) (x2:Int),at40 n (.head 4) [m4] (zkj x0 x1 x2)=zt3 n m4 x0 x1 x2:=by
 intro m
 induction m with
 |zero=>intros;rw[ydj];rfl
 |succ m ih =>
  intros
  rw[yo5]
  try simp only[ih]
  rfl
noncomputable def q40(n:Nat)(x:zap ps40):Option R40:=p40 n x.1 x.2.1
noncomputable def Sm40:Sm:=⟨ps40,rs40,false,q40⟩
theorem gam40:GamOK Try.prog G40:=fun _ _ h=>by cases h
theorem hh40:Hp 40 Sm40:=hOf (zaf (an:=an40) (c:=c40) zax gam40 zaw Try.func40 (by kernel_rfl) rfl (by decide +kernel)) fun n x=>(yjl n x.1 x.2.1).trans (by simp only[ymk];try rfl)
theorem y40:Gk 40 Sm40:=⟨⟨Try.f40,c40,Try.func40,by kernel_rfl,by decide +kernel⟩,hh40⟩
noncomputable def c105:Code:=(Try.f105.body.getD .skip)
def yk_:An:=⟨fun r=>match r with|4=>⟨[0,1,5],[]⟩|_=>⟨[],[]⟩,fun _ _=>none⟩
abbrev ycf:List PK:=[.val (.row 3 i64) false,.val (.row 3 i64) false]
abbrev yh0:List RK:=[.val .bool false]
abbrev R105:=zam yh0×zak ycf
noncomputable def G105:Gam:=fun _=>none
noncomputable def zzp:Nat→Pt→List Nat→St→Option R105:=atF TT G105 yk_ Try.f105 c105 _ _
def zg8(x0 x1:Li)(x2:Int):St:=(St.mk ([AV.one (SV.con (⟨3,Ty.int .i64,x0⟩:Rw)),AV.one (SV.con (⟨3,Ty.int .i64,x1⟩:Rw)),Uu,Uu,Uu,Ai x2]++Ur 20) [])
noncomputable def zgn(n:Nat)(lL4:Li→Li→Int→Option R105)(a:Li)(b:Li):Option R105 :=
 cond (!decide ((↑a.length:Int)=(↑b.length:Int))) (some ((false,()),())) (lL4 a b (0:Int))
noncomputable def ze7(n:Nat)(lL4:Li→Li→Int→Option R105)(x0 x1:Li)(x2:Int):Option R105 :=
 cond (decide (x2<(↑x0.length:Int))) (cond (decide (0≤x2)) (cond (decide (x2<(↑x0.length:Int))) (cond (decide (0≤x2)) (cond (decide (x2<(↑x1.length:Int))) (cond (!decide (x0.getD x2.toNat (0:Int)=x1.getD x2.toNat (0:Int))) (some ((false,()),())) (lL4 x0 x1 (IntKind.i64.wrap (x2+1)))) none) none) none) none) (some ((true,()),()))
theorem yeq(n:Nat)(a:Li)(b:Li):runF TT G105 yk_ Try.f105 c105 ycf yh0 n (a,b,())=zgn n (fun x0 x1 x2=>zzp n (.head 4) [n] (zg8 x0 x1 x2)) a b:=by kernel_rfl
theorem zy3(n:Nat)(x0 x1:Li)(x2:Int):zzp n (.head 4) [0] (zg8 x0 x1 x2)=none:=by kernel_rfl
theorem ykg(n:Nat)(m4:Nat)(x0 x1:Li)(x2:Int):zzp n (.head 4) [m4+1] (zg8 x0 x1 x2)=ze7 n (fun x0 x1 x2=>zzp n (.head 4) [m4] (zg8 x0 x1 x2)) x0 x1 x2:=by kernel_rfl
noncomputable def zox(n:Nat):Nat→Li→Li→Int→Option R105
 |0,_,_,_=>none
 |m+1,x0,x1,x2=>ze7 n (zox n m) x0 x1 x2
noncomputable def p105(n:Nat)(a:Li)(b:Li):Option R105:=zgn n (zox n n) a b
theorem ygt(n:Nat):∀ (m4:Nat) (x0 x1:Li) (x2:Int),zzp n (.head 4) [m4] (zg8 x0 x1 x2)=zox n m4 x0 x1 x2:=by
 intro m
 induction m with
 |zero=>intros;rw[zy3];rfl
 |succ m ih =>
  intros
  rw[ykg]
  try simp only[ih]
  rfl
noncomputable def q105(n:Nat)(x:zap ycf):Option R105:=p105 n x.1 x.2.1
noncomputable def yl3:Sm:=⟨ycf,yh0,false,q105⟩
theorem yoo:GamOK Try.prog G105:=fun _ _ h=>by cases h
theorem hh105:Hp 105 yl3:=hOf (zaf (an:=yk_) (c:=c105) zax yoo zaw Try.func105 (by kernel_rfl) rfl (by decide +kernel)) fun n x=>(yeq n x.1 x.2.1).trans (by simp only[ygt];try rfl)
theorem y105:Gk 105 yl3:=⟨⟨Try.f105,c105,Try.func105,by kernel_rfl,by decide +kernel⟩,hh105⟩
noncomputable def c62:Code:=(Try.f62.body.getD .skip)
def an62:An:=⟨fun r=>match r with|4=>⟨[1,21,22,23],[]⟩|_=>⟨[],[]⟩,fun _ _=>none⟩
abbrev ps62:List PK:=[.val tPg true]
abbrev rs62:List RK:=[.val .bool false]
abbrev R62:=zam rs62×zak ps62
noncomputable def G62:Gam:=fun f=>match f with|59=>some Sm59|_=>none
noncomputable def at62:Nat→Pt→List Nat→St→Option R62:=atF TT G62 an62 Try.f62 c62 _ _
def zkc(x0:Li)(x1 x2:Int)(x3:Lb)(x4:Li):St:=(St.mk ([Uu,AV.one (SV.bptr 1000000 0),Uu,Uu,Uu,Uu,Uu,Uu,Uu,Uu,Uu,Uu,Uu,Uu,Uu,Uu,Uu,Uu,Uu,Uu,Uu,AV.one (SV.con (⟨3,Ty.int .i64,x0⟩:Rw)),Ai x1,Ai x2]++Ur 20) [(1000000,(Ent.box [SV.con (⟨9,Ty.str,x3⟩:Rw),SV.con (⟨3,Ty.int .i64,x4⟩:Rw)]))])
noncomputable def zi3(n:Nat)(lL4:Li→Int→Int→Lb→Li→Option R62)(a:Lb×Li):Option R62 :=
 cond (!decide ((↑(List.length a.1):Int)=(↑(List.length a.2):Int))) (some ((false,()),())) ((q59 n ((↑(List.length a.1):Int),(1:Int),(12:Int),())).bind fun r0=>cond (!r0.1.1) (some ((false,()),())) (lL4 a.2 ((↑(List.length a.2):Int)) (0:Int) a.1 a.2))
noncomputable def zj9(n:Nat)(lL4:Li→Int→Int→Lb→Li→Option R62)(x0:Li)(x1 x2:Int)(x3:Lb)(x4:Li):Option R62 :=
 cond (decide (x2<x1)) (cond (decide (0≤x2)) (cond (decide (x2<(↑x0.length:Int))) (cond (decide (x0.getD x2.toNat (0:Int)=(0:Int))) ((q59 n (x0.getD x2.toNat (0:Int),(0:Int),(99:Int),())).bind fun r2=>cond (!r2.1.1) (some ((false,()),())) (cond (decide (0≤x2)) (cond (decide (x2<(↑x3.length:Int))) (cond (!decide ((↑(ByteArray.size (x3.getD x2.toNat ByteArray.empty)):Int)=(0:Int))) (some ((false,()),())) (lL4 x0 x1 (IntKind.i64.wrap (x2+1)) x3 x4)) none) none)) ((q59 n (x0.getD x2.toNat (0:Int),(0:Int),(99:Int),())).bind fun r3=>cond (!r3.1.1) (some ((false,()),())) (cond (decide (0≤x2)) (cond (decide (x2<(↑x3.length:Int))) (cond (!decide ((↑(ByteArray.size (x3.getD x2.toNat ByteArray.empty)):Int)=(4:Int))) (some ((false,()),())) (lL4 x0 x1 (IntKind.i64.wrap (x2+1)) x3 x4)) none) none))) none) none) (some ((true,()),()))
theorem yi6(n:Nat)(a:Lb×Li):runF TT G62 an62 Try.f62 c62 ps62 rs62 n (a,())=zi3 n (fun x0 x1 x2 x3 x4=>at62 n (.head 4) [n] (zkc x0 x1 x2 x3 x4)) a:=by kernel_rfl
theorem yda(n:Nat)(x0:Li)(x1 x2:Int)(x3:Lb)(x4:Li):at62 n (.head 4) [0] (zkc x0 x1 x2 x3 x4)=none:=by kernel_rfl
theorem yow(n:Nat)(m4:Nat)(x0:Li)(x1 x2:Int)(x3:Lb)(x4:Li):at62 n (.head 4) [m4+1] (zkc x0 x1 x2 x3 x4)=zj9 n (fun x0 x1 x2 x3 x4=>at62 n (.head 4) [m4] (zkc x0 x1 x2 x3 x4)) x0 x1 x2 x3 x4:=by kernel_rfl
noncomputable def zm6(n:Nat):Nat→Li→Int→Int→Lb→Li→Option R62
 |0,_,_,_,_,_=>none
 |m+1,x0,x1,x2,x3,x4=>zj9 n (zm6 n m) x0 x1 x2 x3 x4
noncomputable def p62(n:Nat)(a:Lb×Li):Option R62:=zi3 n (zm6 n n) a
theorem ymc(n:Nat):∀ (m4:Nat) (x0:Li) (x1 x2:Int) (x3:Lb) (x4:Li),at62 n (.head 4) [m4] (zkc x0 x1 x2 x3 x4)=zm6 n m4 x0 x1 x2 x3 x4:=by
 intro m
 induction m with
 |zero=>intros;rw[yda];rfl
 |succ m ih =>
  intros
  rw[yow]
  try simp only[ih]
  rfl
noncomputable def q62(n:Nat)(x:zap ps62):Option R62:=p62 n x.1
noncomputable def Sm62:Sm:=⟨ps62,rs62,false,q62⟩
theorem gam62:GamOK Try.prog G62:=by intro f s h;unfold G62 at h;split at h;exact gj h y59;cases h
theorem hh62:Hp 62 Sm62:=hOf (zaf (an:=an62) (c:=c62) zax gam62 zaw Try.func62 (by kernel_rfl) rfl (by decide +kernel)) fun n x=>(yi6 n x.1).trans (by simp only[ymc];try rfl)
theorem y62:Gk 62 Sm62:=⟨⟨Try.f62,c62,Try.func62,by kernel_rfl,by decide +kernel⟩,hh62⟩
noncomputable def c64:Code:=(Try.f64.body.getD .skip)
def an64:An:=⟨fun _=>⟨[],[]⟩,fun _ _=>none⟩
abbrev ps64:List PK:=[.val tPg true,.val i64 false]
abbrev rs64:List RK:=[.val .bool false]
abbrev R64:=zam rs64×zak ps64
noncomputable def G64:Gam:=fun f=>match f with|59=>some Sm59|_=>none
noncomputable def zi2(n:Nat)(a:Lb×Li)(b:Int):Option R64 :=
 (q59 n (b,(0:Int),IntKind.i64.wrap ((↑(List.length a.2):Int) - (1:Int)),())).bind fun r0=>cond r0.1.1 (cond (decide ((0:Int)≤b)) (cond (decide (b<(↑(List.length a.2):Int))) (some ((decide ((0:Int)<List.getD a.2 b.toNat (0:Int)),()),())) none) none) (some ((false,()),()))
theorem yi4(n:Nat)(a:Lb×Li)(b:Int):runF TT G64 an64 Try.f64 c64 ps64 rs64 n (a,b,())=zi2 n a b:=by kernel_rfl
noncomputable def p64(n:Nat)(a:Lb×Li)(b:Int):Option R64:=zi2 n a b
noncomputable def q64(n:Nat)(x:zap ps64):Option R64:=p64 n x.1 x.2.1
noncomputable def Sm64:Sm:=⟨ps64,rs64,false,q64⟩
theorem gam64:GamOK Try.prog G64:=by intro f s h;unfold G64 at h;split at h;exact gj h y59;cases h
theorem hh64:Hp 64 Sm64:=hOf (zaf (an:=an64) (c:=c64) zax gam64 zaw Try.func64 (by kernel_rfl) rfl (by decide +kernel)) fun n x=>(yi4 n x.1 x.2.1).trans rfl
theorem y64:Gk 64 Sm64:=⟨⟨Try.f64,c64,Try.func64,by kernel_rfl,by decide +kernel⟩,hh64⟩
noncomputable def c65:Code:=(Try.f65.body.getD .skip)
def an65:An:=⟨fun _=>⟨[],[]⟩,fun _ _=>none⟩
abbrev ps65:List PK:=[.val (tSp 116 80) true,.val i64 false]
abbrev rs65:List RK:=[.val .bool false]
abbrev R65:=zam rs65×zak ps65
noncomputable def G65:Gam:=fun f=>match f with|60=>some Sm60|_=>none
noncomputable def zi1(n:Nat)(a:Br)(b:Int):Option R65 :=
 (q60 n (a.2.1,b,())).bind fun r0=>cond (decide ((0:Int)≤r0.1.1)) (cond (decide ((0:Int)≤r0.1.1)) (cond (decide (r0.1.1<(↑(List.length a.2.1):Int))) (some (((List.getD a.2.1 (Int.toNat r0.1.1) ((0:Int),(0:Int),false,false)).2.2.2,()),())) none) none) (some ((false,()),()))
theorem yi3(n:Nat)(a:Br)(b:Int):runF TT G65 an65 Try.f65 c65 ps65 rs65 n (a,b,())=zi1 n a b:=by kernel_rfl
noncomputable def p65(n:Nat)(a:Br)(b:Int):Option R65:=zi1 n a b
noncomputable def q65(n:Nat)(x:zap ps65):Option R65:=p65 n x.1 x.2.1
noncomputable def Sm65:Sm:=⟨ps65,rs65,false,q65⟩
theorem gam65:GamOK Try.prog G65:=by intro f s h;unfold G65 at h;split at h;exact gj h y60;cases h
theorem hh65:Hp 65 Sm65:=hOf (zaf (an:=an65) (c:=c65) zax gam65 zaw Try.func65 (by kernel_rfl) rfl (by decide +kernel)) fun n x=>(yi3 n x.1 x.2.1).trans rfl
theorem y65:Gk 65 Sm65:=⟨⟨Try.f65,c65,Try.func65,by kernel_rfl,by decide +kernel⟩,hh65⟩
noncomputable def c17:Code:=(Try.f17.body.getD .skip)
def an17:An:=⟨fun r=>match r with|5=>⟨[1,3,56,57,58],[]⟩|13=>⟨[1,3,5,56,57,58,86,87,88],[]⟩|29=>⟨[3,169],[]⟩|32=>⟨[3,9,169,176,177,178],[]⟩|38=>⟨[3,9,13,169,176,177,178,192,193,194],[]⟩|41=>⟨[3,9,13,14,15,169,176,177,178,192,193,194,199,200,201],[]⟩|_=>⟨[],[]⟩,fun _ _=>none⟩
abbrev ps17:List PK:=[.val tMem true]
abbrev rs17:List RK:=[.val .bool false]
abbrev R17:=zam rs17×zak ps17
noncomputable def G17:Gam:=fun f=>match f with|59=>some Sm59|60=>some Sm60|62=>some Sm62|63=>some Sm63|64=>some Sm64|65=>some Sm65|_=>none
noncomputable def at17:Nat→Pt→List Nat→St→Option R17:=atF TT G17 an17 Try.f17 c17 _ _
def zgu(x0:List (Br))(x1 x2:Int)(x3:Lq)(x4 x5:Int)(x6:Lb)(x7:Li)(x8:Lb)(x9:Li)(x10:List (Br))(x11:Int)(x12:List ((Int×Int)×Option (List (Bool×Bool))))(x13:Bool)(x14 x15:Lq):St:=(St.mk ([Uu,AV.one (SV.bptr 1000000 0),Uu,AV.one (SV.mapr 1000001),Uu,AV.one (SV.bptr 1000002 0),Uu,Uu,Uu,Uu,Uu,Uu,Uu,Uu,Uu,Uu,Uu,Uu,Uu,Uu,Uu,Uu,Uu,Uu,Uu,Uu,Uu,Uu,Uu,Uu,Uu,Uu,Uu,Uu,Uu,Uu,Uu,Uu,Uu,Uu,Uu,Uu,Uu,Uu,Uu,Uu,Uu,Uu,Uu,Uu,Uu,Uu,Uu,Uu,Uu,Uu,AV.one (SV.con (⟨71,ySp,x0⟩:Rw)),Ai x1,Ai x2,Uu,Uu,Uu,Uu,Uu,Uu,Uu,Uu,Uu,Uu,Uu,Uu,Uu,Uu,Uu,Uu,Uu,Uu,Uu,Uu,Uu,Uu,Uu,Uu,Uu,Uu,Uu,AV.one (SV.con (⟨80,yAq,x3⟩:Rw)),Ai x4,Ai x5]++Ur 136) [(1000000,(Ent.box [SV.con (⟨9,Ty.str,x6⟩:Rw),SV.con (⟨3,Ty.int .i64,x7⟩:Rw),SV.con (⟨9,Ty.str,x8⟩:Rw),SV.con (⟨3,Ty.int .i64,x9⟩:Rw),SV.con (⟨71,ySp,x10⟩:Rw),Si x11])),(1000001,(Ent.grp 110 (Ty.bool.pair Ty.bool) x12)),(1000002,(Ent.box [SV.bool x13,SV.con (⟨116,yAq,x14⟩:Rw),SV.con (⟨80,yAq,x15⟩:Rw)]))])
def zgt(x0 x1:Int)(x2:Li)(x3 x4 x5 x6 x7 x8:Int)(x9:List ((Int×Int)×Option (List (Bool×Bool))))(x10:List (Bool×Bool))(x11 x12:Bool)(x13 x14:List (Int×Lb×Li)):St:=(St.mk ([Uu,Uu,Uu,AV.one (SV.mapr 1000000),Uu,Uu,Uu,Uu,Uu,Ai x0,Uu,Uu,Uu,AV.one (Sr 1000001),Ai x1,AV.one (SV.bptr 1000002 0),Uu,Uu,Uu,Uu,Uu,Uu,Uu,Uu,Uu,Uu,Uu,Uu,Uu,Uu,Uu,Uu,Uu,Uu,Uu,Uu,Uu,Uu,Uu,Uu,Uu,Uu,Uu,Uu,Uu,Uu,Uu,Uu,Uu,Uu,Uu,Uu,Uu,Uu,Uu,Uu,Uu,Uu,Uu,Uu,Uu,Uu,Uu,Uu,Uu,Uu,Uu,Uu,Uu,Uu,Uu,Uu,Uu,Uu,Uu,Uu,Uu,Uu,Uu,Uu,Uu,Uu,Uu,Uu,Uu,Uu,Uu,Uu,Uu,Uu,Uu,Uu,Uu,Uu,Uu,Uu,Uu,Uu,Uu,Uu,Uu,Uu,Uu,Uu,Uu,Uu,Uu,Uu,Uu,Uu,Uu,Uu,Uu,Uu,Uu,Uu,Uu,Uu,Uu,Uu,Uu,Uu,Uu,Uu,Uu,Uu,Uu,Uu,Uu,Uu,Uu,Uu,Uu,Uu,Uu,Uu,Uu,Uu,Uu,Uu,Uu,Uu,Uu,Uu,Uu,Uu,Uu,Uu,Uu,Uu,Uu,Uu,Uu,Uu,Uu,Uu,Uu,Uu,Uu,Uu,Uu,Uu,Uu,Uu,Uu,Uu,Uu,Uu,Uu,AV.one (SV.bptr 1000003 0),Uu,Uu,Uu,Uu,Uu,Uu,AV.one (SV.con (⟨3,Ty.int .i64,x2⟩:Rw)),Ai x3,Ai x4,Uu,Uu,Uu,Uu,Uu,Uu,Uu,Uu,Uu,Uu,Uu,Uu,Uu,AV.one (Sr 1000001),Ai x5,Ai x6,Uu,Uu,Uu,Uu,AV.one (Sr 1000001),Ai x7,Ai x8]++Ur 23) [(1000000,(Ent.grp 110 (Ty.bool.pair Ty.bool) x9)),(1000001,Er ⟨110,Ty.bool.pair Ty.bool,x10⟩),(1000002,(Ent.box [SV.bool x11,SV.bool x12])),(1000003,(Ent.mit ((Ty.row (nat_lit 9) Ty.str).pair (Ty.row (nat_lit 3) (Ty.int .i64))) x13 x14))])
def ze_(x0:Int)(x1:Li)(x2 x3 x4 x5:Int)(x6:List ((Int×Int)×Option (List (Bool×Bool))))(x7:List (Bool×Bool))(x8 x9:List (Int×Lb×Li)):St:=(St.mk ([Uu,Uu,Uu,AV.one (SV.mapr 1000000),Uu,Uu,Uu,Uu,Uu,Ai x0,Uu,Uu,Uu,AV.one (Sr 1000001),Uu,Uu,Uu,Uu,Uu,Uu,Uu,Uu,Uu,Uu,Uu,Uu,Uu,Uu,Uu,Uu,Uu,Uu,Uu,Uu,Uu,Uu,Uu,Uu,Uu,Uu,Uu,Uu,Uu,Uu,Uu,Uu,Uu,Uu,Uu,Uu,Uu,Uu,Uu,Uu,Uu,Uu,Uu,Uu,Uu,Uu,Uu,Uu,Uu,Uu,Uu,Uu,Uu,Uu,Uu,Uu,Uu,Uu,Uu,Uu,Uu,Uu,Uu,Uu,Uu,Uu,Uu,Uu,Uu,Uu,Uu,Uu,Uu,Uu,Uu,Uu,Uu,Uu,Uu,Uu,Uu,Uu,Uu,Uu,Uu,Uu,Uu,Uu,Uu,Uu,Uu,Uu,Uu,Uu,Uu,Uu,Uu,Uu,Uu,Uu,Uu,Uu,Uu,Uu,Uu,Uu,Uu,Uu,Uu,Uu,Uu,Uu,Uu,Uu,Uu,Uu,Uu,Uu,Uu,Uu,Uu,Uu,Uu,Uu,Uu,Uu,Uu,Uu,Uu,Uu,Uu,Uu,Uu,Uu,Uu,Uu,Uu,Uu,Uu,Uu,Uu,Uu,Uu,Uu,Uu,Uu,Uu,Uu,Uu,Uu,Uu,Uu,Uu,Uu,Uu,AV.one (SV.bptr 1000002 0),Uu,Uu,Uu,Uu,Uu,Uu,AV.one (SV.con (⟨3,Ty.int .i64,x1⟩:Rw)),Ai x2,Ai x3,Uu,Uu,Uu,Uu,Uu,Uu,Uu,Uu,Uu,Uu,Uu,Uu,Uu,AV.one (Sr 1000001),Ai x4,Ai x5]++Ur 30) [(1000000,(Ent.grp 110 (Ty.bool.pair Ty.bool) x6)),(1000001,Er ⟨110,Ty.bool.pair Ty.bool,x7⟩),(1000002,(Ent.mit ((Ty.row (nat_lit 9) Ty.str).pair (Ty.row (nat_lit 3) (Ty.int .i64))) x8 x9))])
def zdq(x0:Int)(x1:Li)(x2 x3:Int)(x4:List ((Int×Int)×Option (List (Bool×Bool))))(x5 x6:List (Int×Lb×Li)):St:=(St.mk ([Uu,Uu,Uu,AV.one (SV.mapr 1000000),Uu,Uu,Uu,Uu,Uu,Ai x0,Uu,Uu,Uu,Uu,Uu,Uu,Uu,Uu,Uu,Uu,Uu,Uu,Uu,Uu,Uu,Uu,Uu,Uu,Uu,Uu,Uu,Uu,Uu,Uu,Uu,Uu,Uu,Uu,Uu,Uu,Uu,Uu,Uu,Uu,Uu,Uu,Uu,Uu,Uu,Uu,Uu,Uu,Uu,Uu,Uu,Uu,Uu,Uu,Uu,Uu,Uu,Uu,Uu,Uu,Uu,Uu,Uu,Uu,Uu,Uu,Uu,Uu,Uu,Uu,Uu,Uu,Uu,Uu,Uu,Uu,Uu,Uu,Uu,Uu,Uu,Uu,Uu,Uu,Uu,Uu,Uu,Uu,Uu,Uu,Uu,Uu,Uu,Uu,Uu,Uu,Uu,Uu,Uu,Uu,Uu,Uu,Uu,Uu,Uu,Uu,Uu,Uu,Uu,Uu,Uu,Uu,Uu,Uu,Uu,Uu,Uu,Uu,Uu,Uu,Uu,Uu,Uu,Uu,Uu,Uu,Uu,Uu,Uu,Uu,Uu,Uu,Uu,Uu,Uu,Uu,Uu,Uu,Uu,Uu,Uu,Uu,Uu,Uu,Uu,Uu,Uu,Uu,Uu,Uu,Uu,Uu,Uu,Uu,Uu,Uu,Uu,Uu,Uu,Uu,Uu,Uu,Uu,Uu,Uu,AV.one (SV.bptr 1000001 0),Uu,Uu,Uu,Uu,Uu,Uu,AV.one (SV.con (⟨3,Ty.int .i64,x1⟩:Rw)),Ai x2,Ai x3]++Ur 46) [(1000000,(Ent.grp 110 (Ty.bool.pair Ty.bool) x4)),(1000001,(Ent.mit ((Ty.row (nat_lit 9) Ty.str).pair (Ty.row (nat_lit 3) (Ty.int .i64))) x5 x6))])
def zc1(x0:List ((Int×Int)×Option (List (Bool×Bool))))(x1 x2:List (Int×Lb×Li)):St:=(St.mk ([Uu,Uu,Uu,AV.one (SV.mapr 1000000),Uu,Uu,Uu,Uu,Uu,Uu,Uu,Uu,Uu,Uu,Uu,Uu,Uu,Uu,Uu,Uu,Uu,Uu,Uu,Uu,Uu,Uu,Uu,Uu,Uu,Uu,Uu,Uu,Uu,Uu,Uu,Uu,Uu,Uu,Uu,Uu,Uu,Uu,Uu,Uu,Uu,Uu,Uu,Uu,Uu,Uu,Uu,Uu,Uu,Uu,Uu,Uu,Uu,Uu,Uu,Uu,Uu,Uu,Uu,Uu,Uu,Uu,Uu,Uu,Uu,Uu,Uu,Uu,Uu,Uu,Uu,Uu,Uu,Uu,Uu,Uu,Uu,Uu,Uu,Uu,Uu,Uu,Uu,Uu,Uu,Uu,Uu,Uu,Uu,Uu,Uu,Uu,Uu,Uu,Uu,Uu,Uu,Uu,Uu,Uu,Uu,Uu,Uu,Uu,Uu,Uu,Uu,Uu,Uu,Uu,Uu,Uu,Uu,Uu,Uu,Uu,Uu,Uu,Uu,Uu,Uu,Uu,Uu,Uu,Uu,Uu,Uu,Uu,Uu,Uu,Uu,Uu,Uu,Uu,Uu,Uu,Uu,Uu,Uu,Uu,Uu,Uu,Uu,Uu,Uu,Uu,Uu,Uu,Uu,Uu,Uu,Uu,Uu,Uu,Uu,Uu,Uu,Uu,Uu,Uu,Uu,Uu,Uu,Uu,Uu,AV.one (SV.bptr 1000001 0)]++Ur 55) [(1000000,(Ent.grp 110 (Ty.bool.pair Ty.bool) x0)),(1000001,(Ent.mit ((Ty.row (nat_lit 9) Ty.str).pair (Ty.row (nat_lit 3) (Ty.int .i64))) x1 x2))])
def zft(x0:List (Br))(x1 x2:Int)(x3:Lb)(x4:Li)(x5:Lb)(x6:Li)(x7:List (Br))(x8:Int)(x9:List ((Int×Int)×Option (List (Bool×Bool)))):St:=(St.mk ([Uu,AV.one (SV.bptr 1000000 0),Uu,AV.one (SV.mapr 1000001),Uu,Uu,Uu,Uu,Uu,Uu,Uu,Uu,Uu,Uu,Uu,Uu,Uu,Uu,Uu,Uu,Uu,Uu,Uu,Uu,Uu,Uu,Uu,Uu,Uu,Uu,Uu,Uu,Uu,Uu,Uu,Uu,Uu,Uu,Uu,Uu,Uu,Uu,Uu,Uu,Uu,Uu,Uu,Uu,Uu,Uu,Uu,Uu,Uu,Uu,Uu,Uu,AV.one (SV.con (⟨71,ySp,x0⟩:Rw)),Ai x1,Ai x2]++Ur 166) [(1000000,(Ent.box [SV.con (⟨9,Ty.str,x3⟩:Rw),SV.con (⟨3,Ty.int .i64,x4⟩:Rw),SV.con (⟨9,Ty.str,x5⟩:Rw),SV.con (⟨3,Ty.int .i64,x6⟩:Rw),SV.con (⟨71,ySp,x7⟩:Rw),Si x8])),(1000001,(Ent.grp 110 (Ty.bool.pair Ty.bool) x9))])
noncomputable def zjk(n:Nat)(lL5:(List (Br))→Int→Int→Lb→Li→Lb→Li→(List (Br))→Int→(List ((Int×Int)×Option (List (Bool×Bool))))→Option R17)(a:Mm):Option R17 :=
 (q62 n ((a.1.1,a.1.2),())).bind fun r0=>cond (!r0.1.1) (some ((false,()),())) (cond (!decide ((↑(List.length a.1.2):Int)=(12:Int))) (some ((false,()),())) ((q62 n ((a.2.1.1,a.2.1.2),())).bind fun r1=>cond (!r1.1.1) (some ((false,()),())) (cond (!decide ((↑(List.length a.2.1.2):Int)=(12:Int))) (some ((false,()),())) (cond (!decide ((↑(List.length a.2.2.1):Int)=(5:Int))) (some ((false,()),())) ((q59 n (a.2.2.2,(0:Int),(11:Int),())).bind fun r2=>cond (!r2.1.1) (some ((false,()),())) (lL5 a.2.2.1 ((↑(List.length a.2.2.1):Int)) (0:Int) a.1.1 a.1.2 a.2.1.1 a.2.1.2 a.2.2.1 a.2.2.2 ([])))))))
noncomputable def za7(n:Nat)(lL13:(List (Br))→Int→Int→Lq→Int→Int→Lb→Li→Lb→Li→(List (Br))→Int→(List ((Int×Int)×Option (List (Bool×Bool))))→Bool→Lq→Lq→Option R17)(lL5:(List (Br))→Int→Int→Lb→Li→Lb→Li→(List (Br))→Int→(List ((Int×Int)×Option (List (Bool×Bool))))→Option R17)(x0:List (Br))(x1 x2:Int)(x3:Lq)(x4 x5:Int)(x6:Lb)(x7:Li)(x8:Lb)(x9:Li)(x10:List (Br))(x11:Int)(x12:List ((Int×Int)×Option (List (Bool×Bool))))(x13:Bool)(x14 x15:Lq):Option R17 :=
 cond (decide (x5<x4)) (cond (decide (0≤x5)) (cond (decide (x5<(↑x3.length:Int))) (cond (decide ((x3.getD x5.toNat ((0:Int),(0:Int),false,false)).1=(0:Int))) (cond (!(decide ((x3.getD x5.toNat ((0:Int),(0:Int),false,false)).1=(0:Int))&&(decide ((x3.getD x5.toNat ((0:Int),(0:Int),false,false)).2.1=(0:Int))&&((x3.getD x5.toNat ((0:Int),(0:Int),false,false)).2.2.1 == false&&((x3.getD x5.toNat ((0:Int),(0:Int),false,false)).2.2.2 == false&&true))))) (some ((false,()),())) (lL13 x0 x1 x2 x3 x4 (IntKind.i64.wrap (x5+1)) x6 x7 x8 x9 x10 x11 x12 x13 x14 x15)) ((q60 n (x14,x5,())).bind fun r6=>cond (decide (r6.1.1<(0:Int))) (cond (!(decide ((x3.getD x5.toNat ((0:Int),(0:Int),false,false)).1=(0:Int))&&(decide ((x3.getD x5.toNat ((0:Int),(0:Int),false,false)).2.1=(0:Int))&&((x3.getD x5.toNat ((0:Int),(0:Int),false,false)).2.2.1 == false&&((x3.getD x5.toNat ((0:Int),(0:Int),false,false)).2.2.2 == false&&true))))) (some ((false,()),())) (lL13 x0 x1 x2 x3 x4 (IntKind.i64.wrap (x5+1)) x6 x7 x8 x9 x10 x11 x12 x13 x14 x15)) (cond (decide ((x3.getD x5.toNat ((0:Int),(0:Int),false,false)).1=(1:Int))) ((q64 n ((x6,x7),(x3.getD x5.toNat ((0:Int),(0:Int),false,false)).2.1,())).bind fun r7=>cond (!r7.1.1) (some ((false,()),())) (cond (decide ((x3.getD x5.toNat ((0:Int),(0:Int),false,false)).1=(2:Int))) ((q64 n ((x8,x9),(x3.getD x5.toNat ((0:Int),(0:Int),false,false)).2.1,())).bind fun r8=>cond (!r8.1.1) (some ((false,()),())) ((q59 n ((x3.getD x5.toNat ((0:Int),(0:Int),false,false)).1,(1:Int),(2:Int),())).bind fun r9=>cond (!r9.1.1) (some ((false,()),())) ((q65 n ((x13,x14,x15),x5,())).bind fun r10=>cond r10.1.1 (cond (!(x3.getD x5.toNat ((0:Int),(0:Int),false,false)).2.2.1) (some ((false,()),())) ((q65 n ((x13,x14,x15),x5,())).bind fun r11=>cond (gok x12 (x3.getD x5.toNat ((0:Int),(0:Int),false,false)).1 (x3.getD x5.toNat ((0:Int),(0:Int),false,false)).2.1) (cond (decide (((gvl x12 (x3.getD x5.toNat ((0:Int),(0:Int),false,false)).1 (x3.getD x5.toNat ((0:Int),(0:Int),false,false)).2.1).length+[((x3.getD x5.toNat ((0:Int),(0:Int),false,false)).2.2.1,r11.1.1)].length)*(2:Nat)≤(140737488355328:Nat))) (cond (decide ((0:Int)≤(↑(gfi x12 (x3.getD x5.toNat ((0:Int),(0:Int),false,false)).1 (x3.getD x5.toNat ((0:Int),(0:Int),false,false)).2.1):Int))&&decide ((↑(gfi x12 (x3.getD x5.toNat ((0:Int),(0:Int),false,false)).1 (x3.getD x5.toNat ((0:Int),(0:Int),false,false)).2.1):Int)<(↑(gou x12 (x3.getD x5.toNat ((0:Int),(0:Int),false,false)).1 (x3.getD x5.toNat ((0:Int),(0:Int),false,false)).2.1).length:Int))) (lL13 x0 x1 x2 x3 x4 (IntKind.i64.wrap (x5+1)) x6 x7 x8 x9 x10 x11 (gbk (gou x12 (x3.getD x5.toNat ((0:Int),(0:Int),false,false)).1 (x3.getD x5.toNat ((0:Int),(0:Int),false,false)).2.1) (↑(gfi x12 (x3.getD x5.toNat ((0:Int),(0:Int),false,false)).1 (x3.getD x5.toNat ((0:Int),(0:Int),false,false)).2.1):Int) (gvl x12 (x3.getD x5.toNat ((0:Int),(0:Int),false,false)).1 (x3.getD x5.toNat ((0:Int),(0:Int),false,false)).2.1++[((x3.getD x5.toNat ((0:Int),(0:Int),false,false)).2.2.1,r11.1.1)])) x13 x14 x15) none) none) none)) ((q65 n ((x13,x14,x15),x5,())).bind fun r12=>cond (gok x12 (x3.getD x5.toNat ((0:Int),(0:Int),false,false)).1 (x3.getD x5.toNat ((0:Int),(0:Int),false,false)).2.1) (cond (decide (((gvl x12 (x3.getD x5.toNat ((0:Int),(0:Int),false,false)).1 (x3.getD x5.toNat ((0:Int),(0:Int),false,false)).2.1).length+[((x3.getD x5.toNat ((0:Int),(0:Int),false,false)).2.2.1,r12.1.1)].length)*(2:Nat)≤(140737488355328:Nat))) (cond (decide ((0:Int)≤(↑(gfi x12 (x3.getD x5.toNat ((0:Int),(0:Int),false,false)).1 (x3.getD x5.toNat ((0:Int),(0:Int),false,false)).2.1):Int))&&decide ((↑(gfi x12 (x3.getD x5.toNat ((0:Int),(0:Int),false,false)).1 (x3.getD x5.toNat ((0:Int),(0:Int),false,false)).2.1):Int)<(↑(gou x12 (x3.getD x5.toNat ((0:Int),(0:Int),false,false)).1 (x3.getD x5.toNat ((0:Int),(0:Int),false,false)).2.1).length:Int))) (lL13 x0 x1 x2 x3 x4 (IntKind.i64.wrap (x5+1)) x6 x7 x8 x9 x10 x11 (gbk (gou x12 (x3.getD x5.toNat ((0:Int),(0:Int),false,false)).1 (x3.getD x5.toNat ((0:Int),(0:Int),false,false)).2.1) (↑(gfi x12 (x3.getD x5.toNat ((0:Int),(0:Int),false,false)).1 (x3.getD x5.toNat ((0:Int),(0:Int),false,false)).2.1):Int) (gvl x12 (x3.getD x5.toNat ((0:Int),(0:Int),false,false)).1 (x3.getD x5.toNat ((0:Int),(0:Int),false,false)).2.1++[((x3.getD x5.toNat ((0:Int),(0:Int),false,false)).2.2.1,r12.1.1)])) x13 x14 x15) none) none) none)))) ((q59 n ((x3.getD x5.toNat ((0:Int),(0:Int),false,false)).1,(1:Int),(2:Int),())).bind fun r13=>cond (!r13.1.1) (some ((false,()),())) ((q65 n ((x13,x14,x15),x5,())).bind fun r14=>cond r14.1.1 (cond (!(x3.getD x5.toNat ((0:Int),(0:Int),false,false)).2.2.1) (some ((false,()),())) ((q65 n ((x13,x14,x15),x5,())).bind fun r15=>cond (gok x12 (x3.getD x5.toNat ((0:Int),(0:Int),false,false)).1 (x3.getD x5.toNat ((0:Int),(0:Int),false,false)).2.1) (cond (decide (((gvl x12 (x3.getD x5.toNat ((0:Int),(0:Int),false,false)).1 (x3.getD x5.toNat ((0:Int),(0:Int),false,false)).2.1).length+[((x3.getD x5.toNat ((0:Int),(0:Int),false,false)).2.2.1,r15.1.1)].length)*(2:Nat)≤(140737488355328:Nat))) (cond (decide ((0:Int)≤(↑(gfi x12 (x3.getD x5.toNat ((0:Int),(0:Int),false,false)).1 (x3.getD x5.toNat ((0:Int),(0:Int),false,false)).2.1):Int))&&decide ((↑(gfi x12 (x3.getD x5.toNat ((0:Int),(0:Int),false,false)).1 (x3.getD x5.toNat ((0:Int),(0:Int),false,false)).2.1):Int)<(↑(gou x12 (x3.getD x5.toNat ((0:Int),(0:Int),false,false)).1 (x3.getD x5.toNat ((0:Int),(0:Int),false,false)).2.1).length:Int))) (lL13 x0 x1 x2 x3 x4 (IntKind.i64.wrap (x5+1)) x6 x7 x8 x9 x10 x11 (gbk (gou x12 (x3.getD x5.toNat ((0:Int),(0:Int),false,false)).1 (x3.getD x5.toNat ((0:Int),(0:Int),false,false)).2.1) (↑(gfi x12 (x3.getD x5.toNat ((0:Int),(0:Int),false,false)).1 (x3.getD x5.toNat ((0:Int),(0:Int),false,false)).2.1):Int) (gvl x12 (x3.getD x5.toNat ((0:Int),(0:Int),false,false)).1 (x3.getD x5.toNat ((0:Int),(0:Int),false,false)).2.1++[((x3.getD x5.toNat ((0:Int),(0:Int),false,false)).2.2.1,r15.1.1)])) x13 x14 x15) none) none) none)) ((q65 n ((x13,x14,x15),x5,())).bind fun r16=>cond (gok x12 (x3.getD x5.toNat ((0:Int),(0:Int),false,false)).1 (x3.getD x5.toNat ((0:Int),(0:Int),false,false)).2.1) (cond (decide (((gvl x12 (x3.getD x5.toNat ((0:Int),(0:Int),false,false)).1 (x3.getD x5.toNat ((0:Int),(0:Int),false,false)).2.1).length+[((x3.getD x5.toNat ((0:Int),(0:Int),false,false)).2.2.1,r16.1.1)].length)*(2:Nat)≤(140737488355328:Nat))) (cond (decide ((0:Int)≤(↑(gfi x12 (x3.getD x5.toNat ((0:Int),(0:Int),false,false)).1 (x3.getD x5.toNat ((0:Int),(0:Int),false,false)).2.1):Int))&&decide ((↑(gfi x12 (x3.getD x5.toNat ((0:Int),(0:Int),false,false)).1 (x3.getD x5.toNat ((0:Int),(0:Int),false,false)).2.1):Int)<(↑(gou x12 (x3.getD x5.toNat ((0:Int),(0:Int),false,false)).1 (x3.getD x5.toNat ((0:Int),(0:Int),false,false)).2.1).length:Int))) (lL13 x0 x1 x2 x3 x4 (IntKind.i64.wrap (x5+1)) x6 x7 x8 x9 x10 x11 (gbk (gou x12 (x3.getD x5.toNat ((0:Int),(0:Int),false,false)).1 (x3.getD x5.toNat ((0:Int),(0:Int),false,false)).2.1) (↑(gfi x12 (x3.getD x5.toNat ((0:Int),(0:Int),false,false)).1 (x3.getD x5.toNat ((0:Int),(0:Int),false,false)).2.1):Int) (gvl x12 (x3.getD x5.toNat ((0:Int),(0:Int),false,false)).1 (x3.getD x5.toNat ((0:Int),(0:Int),false,false)).2.1++[((x3.getD x5.toNat ((0:Int),(0:Int),false,false)).2.2.1,r16.1.1)])) x13 x14 x15) none) none) none))))) (cond (decide ((x3.getD x5.toNat ((0:Int),(0:Int),false,false)).1=(2:Int))) ((q64 n ((x8,x9),(x3.getD x5.toNat ((0:Int),(0:Int),false,false)).2.1,())).bind fun r17=>cond (!r17.1.1) (some ((false,()),())) ((q59 n ((x3.getD x5.toNat ((0:Int),(0:Int),false,false)).1,(1:Int),(2:Int),())).bind fun r18=>cond (!r18.1.1) (some ((false,()),())) ((q65 n ((x13,x14,x15),x5,())).bind fun r19=>cond r19.1.1 (cond (!(x3.getD x5.toNat ((0:Int),(0:Int),false,false)).2.2.1) (some ((false,()),())) ((q65 n ((x13,x14,x15),x5,())).bind fun r20=>cond (gok x12 (x3.getD x5.toNat ((0:Int),(0:Int),false,false)).1 (x3.getD x5.toNat ((0:Int),(0:Int),false,false)).2.1) (cond (decide (((gvl x12 (x3.getD x5.toNat ((0:Int),(0:Int),false,false)).1 (x3.getD x5.toNat ((0:Int),(0:Int),false,false)).2.1).length+[((x3.getD x5.toNat ((0:Int),(0:Int),false,false)).2.2.1,r20.1.1)].length)*(2:Nat)≤(140737488355328:Nat))) (cond (decide ((0:Int)≤(↑(gfi x12 (x3.getD x5.toNat ((0:Int),(0:Int),false,false)).1 (x3.getD x5.toNat ((0:Int),(0:Int),false,false)).2.1):Int))&&decide ((↑(gfi x12 (x3.getD x5.toNat ((0:Int),(0:Int),false,false)).1 (x3.getD x5.toNat ((0:Int),(0:Int),false,false)).2.1):Int)<(↑(gou x12 (x3.getD x5.toNat ((0:Int),(0:Int),false,false)).1 (x3.getD x5.toNat ((0:Int),(0:Int),false,false)).2.1).length:Int))) (lL13 x0 x1 x2 x3 x4 (IntKind.i64.wrap (x5+1)) x6 x7 x8 x9 x10 x11 (gbk (gou x12 (x3.getD x5.toNat ((0:Int),(0:Int),false,false)).1 (x3.getD x5.toNat ((0:Int),(0:Int),false,false)).2.1) (↑(gfi x12 (x3.getD x5.toNat ((0:Int),(0:Int),false,false)).1 (x3.getD x5.toNat ((0:Int),(0:Int),false,false)).2.1):Int) (gvl x12 (x3.getD x5.toNat ((0:Int),(0:Int),false,false)).1 (x3.getD x5.toNat ((0:Int),(0:Int),false,false)).2.1++[((x3.getD x5.toNat ((0:Int),(0:Int),false,false)).2.2.1,r20.1.1)])) x13 x14 x15) none) none) none)) ((q65 n ((x13,x14,x15),x5,())).bind fun r21=>cond (gok x12 (x3.getD x5.toNat ((0:Int),(0:Int),false,false)).1 (x3.getD x5.toNat ((0:Int),(0:Int),false,false)).2.1) (cond (decide (((gvl x12 (x3.getD x5.toNat ((0:Int),(0:Int),false,false)).1 (x3.getD x5.toNat ((0:Int),(0:Int),false,false)).2.1).length+[((x3.getD x5.toNat ((0:Int),(0:Int),false,false)).2.2.1,r21.1.1)].length)*(2:Nat)≤(140737488355328:Nat))) (cond (decide ((0:Int)≤(↑(gfi x12 (x3.getD x5.toNat ((0:Int),(0:Int),false,false)).1 (x3.getD x5.toNat ((0:Int),(0:Int),false,false)).2.1):Int))&&decide ((↑(gfi x12 (x3.getD x5.toNat ((0:Int),(0:Int),false,false)).1 (x3.getD x5.toNat ((0:Int),(0:Int),false,false)).2.1):Int)<(↑(gou x12 (x3.getD x5.toNat ((0:Int),(0:Int),false,false)).1 (x3.getD x5.toNat ((0:Int),(0:Int),false,false)).2.1).length:Int))) (lL13 x0 x1 x2 x3 x4 (IntKind.i64.wrap (x5+1)) x6 x7 x8 x9 x10 x11 (gbk (gou x12 (x3.getD x5.toNat ((0:Int),(0:Int),false,false)).1 (x3.getD x5.toNat ((0:Int),(0:Int),false,false)).2.1) (↑(gfi x12 (x3.getD x5.toNat ((0:Int),(0:Int),false,false)).1 (x3.getD x5.toNat ((0:Int),(0:Int),false,false)).2.1):Int) (gvl x12 (x3.getD x5.toNat ((0:Int),(0:Int),false,false)).1 (x3.getD x5.toNat ((0:Int),(0:Int),false,false)).2.1++[((x3.getD x5.toNat ((0:Int),(0:Int),false,false)).2.2.1,r21.1.1)])) x13 x14 x15) none) none) none)))) ((q59 n ((x3.getD x5.toNat ((0:Int),(0:Int),false,false)).1,(1:Int),(2:Int),())).bind fun r22=>cond (!r22.1.1) (some ((false,()),())) ((q65 n ((x13,x14,x15),x5,())).bind fun r23=>cond r23.1.1 (cond (!(x3.getD x5.toNat ((0:Int),(0:Int),false,false)).2.2.1) (some ((false,()),())) ((q65 n ((x13,x14,x15),x5,())).bind fun r24=>cond (gok x12 (x3.getD x5.toNat ((0:Int),(0:Int),false,false)).1 (x3.getD x5.toNat ((0:Int),(0:Int),false,false)).2.1) (cond (decide (((gvl x12 (x3.getD x5.toNat ((0:Int),(0:Int),false,false)).1 (x3.getD x5.toNat ((0:Int),(0:Int),false,false)).2.1).length+[((x3.getD x5.toNat ((0:Int),(0:Int),false,false)).2.2.1,r24.1.1)].length)*(2:Nat)≤(140737488355328:Nat))) (cond (decide ((0:Int)≤(↑(gfi x12 (x3.getD x5.toNat ((0:Int),(0:Int),false,false)).1 (x3.getD x5.toNat ((0:Int),(0:Int),false,false)).2.1):Int))&&decide ((↑(gfi x12 (x3.getD x5.toNat ((0:Int),(0:Int),false,false)).1 (x3.getD x5.toNat ((0:Int),(0:Int),false,false)).2.1):Int)<(↑(gou x12 (x3.getD x5.toNat ((0:Int),(0:Int),false,false)).1 (x3.getD x5.toNat ((0:Int),(0:Int),false,false)).2.1).length:Int))) (lL13 x0 x1 x2 x3 x4 (IntKind.i64.wrap (x5+1)) x6 x7 x8 x9 x10 x11 (gbk (gou x12 (x3.getD x5.toNat ((0:Int),(0:Int),false,false)).1 (x3.getD x5.toNat ((0:Int),(0:Int),false,false)).2.1) (↑(gfi x12 (x3.getD x5.toNat ((0:Int),(0:Int),false,false)).1 (x3.getD x5.toNat ((0:Int),(0:Int),false,false)).2.1):Int) (gvl x12 (x3.getD x5.toNat ((0:Int),(0:Int),false,false)).1 (x3.getD x5.toNat ((0:Int),(0:Int),false,false)).2.1++[((x3.getD x5.toNat ((0:Int),(0:Int),false,false)).2.2.1,r24.1.1)])) x13 x14 x15) none) none) none)) ((q65 n ((x13,x14,x15),x5,())).bind fun r25=>cond (gok x12 (x3.getD x5.toNat ((0:Int),(0:Int),false,false)).1 (x3.getD x5.toNat ((0:Int),(0:Int),false,false)).2.1) (cond (decide (((gvl x12 (x3.getD x5.toNat ((0:Int),(0:Int),false,false)).1 (x3.getD x5.toNat ((0:Int),(0:Int),false,false)).2.1).length+[((x3.getD x5.toNat ((0:Int),(0:Int),false,false)).2.2.1,r25.1.1)].length)*(2:Nat)≤(140737488355328:Nat))) (cond (decide ((0:Int)≤(↑(gfi x12 (x3.getD x5.toNat ((0:Int),(0:Int),false,false)).1 (x3.getD x5.toNat ((0:Int),(0:Int),false,false)).2.1):Int))&&decide ((↑(gfi x12 (x3.getD x5.toNat ((0:Int),(0:Int),false,false)).1 (x3.getD x5.toNat ((0:Int),(0:Int),false,false)).2.1):Int)<(↑(gou x12 (x3.getD x5.toNat ((0:Int),(0:Int),false,false)).1 (x3.getD x5.toNat ((0:Int),(0:Int),false,false)).2.1).length:Int))) (lL13 x0 x1 x2 x3 x4 (IntKind.i64.wrap (x5+1)) x6 x7 x8 x9 x10 x11 (gbk (gou x12 (x3.getD x5.toNat ((0:Int),(0:Int),false,false)).1 (x3.getD x5.toNat ((0:Int),(0:Int),false,false)).2.1) (↑(gfi x12 (x3.getD x5.toNat ((0:Int),(0:Int),false,false)).1 (x3.getD x5.toNat ((0:Int),(0:Int),false,false)).2.1):Int) (gvl x12 (x3.getD x5.toNat ((0:Int),(0:Int),false,false)).1 (x3.getD x5.toNat ((0:Int),(0:Int),false,false)).2.1++[((x3.getD x5.toNat ((0:Int),(0:Int),false,false)).2.2.1,r25.1.1)])) x13 x14 x15) none) none) none))))))) none) none) (lL5 x0 x1 (IntKind.i64.wrap (x2+1)) x6 x7 x8 x9 x10 x11 x12)
noncomputable def zet(n:Nat)(lL41:Int→Int→Li→Int→Int→Int→Int→Int→Int→(List ((Int×Int)×Option (List (Bool×Bool))))→(List (Bool×Bool))→Bool→Bool→(List (Int×Lb×Li))→(List (Int×Lb×Li))→Option R17)(lL38:Int→Li→Int→Int→Int→Int→(List ((Int×Int)×Option (List (Bool×Bool))))→(List (Bool×Bool))→(List (Int×Lb×Li))→(List (Int×Lb×Li))→Option R17)(x0 x1:Int)(x2:Li)(x3 x4 x5 x6 x7 x8:Int)(x9:List ((Int×Int)×Option (List (Bool×Bool))))(x10:List (Bool×Bool))(x11 x12:Bool)(x13 x14:List (Int×Lb×Li)):Option R17 :=
 cond (decide (x8<x7)) (cond (decide (0≤x8)) (cond (decide (x8<(↑x10.length:Int))) (cond (!decide (x1=x8)) (cond x11 (cond x12 (cond (!(x10.getD x8.toNat (false,false)).2) (some ((false,()),())) (lL41 x0 x1 x2 x3 x4 x5 x6 x7 (IntKind.i64.wrap (x8+1)) x9 x10 x11 x12 x13 x14)) (some ((false,()),()))) (lL41 x0 x1 x2 x3 x4 x5 x6 x7 (IntKind.i64.wrap (x8+1)) x9 x10 x11 x12 x13 x14)) (lL41 x0 x1 x2 x3 x4 x5 x6 x7 (IntKind.i64.wrap (x8+1)) x9 x10 x11 x12 x13 x14)) none) none) (lL38 x0 x2 x3 x4 x5 (IntKind.i64.wrap (x6+1)) x9 x10 x13 x14)
noncomputable def zeu(n:Nat)(lL41:Int→Int→Li→Int→Int→Int→Int→Int→Int→(List ((Int×Int)×Option (List (Bool×Bool))))→(List (Bool×Bool))→Bool→Bool→(List (Int×Lb×Li))→(List (Int×Lb×Li))→Option R17)(lL32:Int→Li→Int→Int→(List ((Int×Int)×Option (List (Bool×Bool))))→(List (Int×Lb×Li))→(List (Int×Lb×Li))→Option R17)(x0:Int)(x1:Li)(x2 x3 x4 x5:Int)(x6:List ((Int×Int)×Option (List (Bool×Bool))))(x7:List (Bool×Bool))(x8 x9:List (Int×Lb×Li)):Option R17 :=
 cond (decide (x5<x4)) (cond (decide (0≤x5)) (cond (decide (x5<(↑x7.length:Int))) (lL41 x0 x5 x1 x2 x3 x4 x5 ((↑x7.length:Int)) (0:Int) x6 x7 ((x7.getD x5.toNat (false,false)).1) ((x7.getD x5.toNat (false,false)).2) x8 x9) none) none) (lL32 x0 x1 x2 (IntKind.i64.wrap (x3+1)) x6 x8 x9)
noncomputable def zev(n:Nat)(lL38:Int→Li→Int→Int→Int→Int→(List ((Int×Int)×Option (List (Bool×Bool))))→(List (Bool×Bool))→(List (Int×Lb×Li))→(List (Int×Lb×Li))→Option R17)(lL29:(List ((Int×Int)×Option (List (Bool×Bool))))→(List (Int×Lb×Li))→(List (Int×Lb×Li))→Option R17)(x0:Int)(x1:Li)(x2 x3:Int)(x4:List ((Int×Int)×Option (List (Bool×Bool))))(x5 x6:List (Int×Lb×Li)):Option R17 :=
 cond (decide (x3<x2)) (cond (decide (0≤x3)) (cond (decide (x3<(↑x1.length:Int))) (cond (gok x4 x0 x3) (cond (!decide ((↑(gvl x4 x0 x3).length:Int)=x1.getD x3.toNat (0:Int))) (some ((false,()),())) (lL38 x0 x1 x2 x3 ((↑(gvl x4 x0 x3).length:Int)) (0:Int) (gol x4 x0 x3) (gvl x4 x0 x3) x5 x6)) none) none) none) (lL29 x4 x5 x6)
noncomputable def zew(n:Nat)(lL32:Int→Li→Int→Int→(List ((Int×Int)×Option (List (Bool×Bool))))→(List (Int×Lb×Li))→(List (Int×Lb×Li))→Option R17)(x0:List ((Int×Int)×Option (List (Bool×Bool))))(x1 x2:List (Int×Lb×Li)):Option R17 :=
 cond (decide (x2.length=(0:Nat))) (some ((true,()),())) (allL (x2.length) (fun i27=>lL32 ((x2.getD i27 ((0:Int),[],[])).1) ((x2.getD i27 ((0:Int),[],[])).2.2) ((↑(List.length (x2.getD i27 ((0:Int),[],[])).2.2):Int)) (0:Int) x0 ([x2.getD i27 ((0:Int),[],[])]) (x2.eraseIdx i27)))
noncomputable def zh0(n:Nat)(lL5:(List (Br))→Int→Int→Lb→Li→Lb→Li→(List (Br))→Int→(List ((Int×Int)×Option (List (Bool×Bool))))→Option R17)(lL13:(List (Br))→Int→Int→Lq→Int→Int→Lb→Li→Lb→Li→(List (Br))→Int→(List ((Int×Int)×Option (List (Bool×Bool))))→Bool→Lq→Lq→Option R17)(lL29:(List ((Int×Int)×Option (List (Bool×Bool))))→(List (Int×Lb×Li))→(List (Int×Lb×Li))→Option R17)(x0:List (Br))(x1 x2:Int)(x3:Lb)(x4:Li)(x5:Lb)(x6:Li)(x7:List (Br))(x8:Int)(x9:List ((Int×Int)×Option (List (Bool×Bool)))):Option R17 :=
 cond (decide (x2<x1)) (cond (decide (0≤x2)) (cond (decide (x2<(↑x0.length:Int))) (cond (!(x0.getD x2.toNat (false,[],[])).1) (cond (decide ((0:Int)<(↑(List.length (x0.getD x2.toNat (false,[],[])).2.1):Int))) (some ((false,()),())) (cond (decide ((0:Int)<(↑(List.length (x0.getD x2.toNat (false,[],[])).2.2):Int))) (some ((false,()),())) (lL5 x0 x1 (IntKind.i64.wrap (x2+1)) x3 x4 x5 x6 x7 x8 x9))) ((q63 n ((x0.getD x2.toNat (false,[],[])).2.1,())).bind fun r4=>cond (!r4.1.1) (some ((false,()),())) (cond (!decide ((↑(List.length (x0.getD x2.toNat (false,[],[])).2.2):Int)=(16:Int))) (some ((false,()),())) (lL13 x0 x1 x2 ((x0.getD x2.toNat (false,[],[])).2.2) ((↑(List.length (x0.getD x2.toNat (false,[],[])).2.2):Int)) (0:Int) x3 x4 x5 x6 x7 x8 x9 ((x0.getD x2.toNat (false,[],[])).1) ((x0.getD x2.toNat (false,[],[])).2.1) ((x0.getD x2.toNat (false,[],[])).2.2))))) none) none) (lL29 x9 ([]) ([((1:Int),x3,x4)]++[((2:Int),x5,x6)]))
theorem yju(n:Nat)(a:Mm):runF TT G17 an17 Try.f17 c17 ps17 rs17 n (a,())=zjk n (fun x0 x1 x2 x3 x4 x5 x6 x7 x8 x9=>at17 n (.head 5) [n] (zft x0 x1 x2 x3 x4 x5 x6 x7 x8 x9)) a:=by kernel_rfl
theorem zym(n:Nat)(m5:Nat)(x0:List (Br))(x1 x2:Int)(x3:Lq)(x4 x5:Int)(x6:Lb)(x7:Li)(x8:Lb)(x9:Li)(x10:List (Br))(x11:Int)(x12:List ((Int×Int)×Option (List (Bool×Bool))))(x13:Bool)(x14 x15:Lq):at17 n (.head 13) [m5,0] (zgu x0 x1 x2 x3 x4 x5 x6 x7 x8 x9 x10 x11 x12 x13 x14 x15)=none:=by kernel_rfl
theorem yjz(n:Nat)(m5:Nat)(m13:Nat)(x0:List (Br))(x1 x2:Int)(x3:Lq)(x4 x5:Int)(x6:Lb)(x7:Li)(x8:Lb)(x9:Li)(x10:List (Br))(x11:Int)(x12:List ((Int×Int)×Option (List (Bool×Bool))))(x13:Bool)(x14 x15:Lq):at17 n (.head 13) [m5,m13+1] (zgu x0 x1 x2 x3 x4 x5 x6 x7 x8 x9 x10 x11 x12 x13 x14 x15)=za7 n (fun x0 x1 x2 x3 x4 x5 x6 x7 x8 x9 x10 x11 x12 x13 x14 x15=>at17 n (.head 13) [m5,m13] (zgu x0 x1 x2 x3 x4 x5 x6 x7 x8 x9 x10 x11 x12 x13 x14 x15)) (fun x0 x1 x2 x3 x4 x5 x6 x7 x8 x9=>at17 n (.head 5) [m5] (zft x0 x1 x2 x3 x4 x5 x6 x7 x8 x9)) x0 x1 x2 x3 x4 x5 x6 x7 x8 x9 x10 x11 x12 x13 x14 x15:=by kernel_rfl
theorem zyi(n:Nat)(m29:Nat)(m32:Nat)(m38:Nat)(x0 x1:Int)(x2:Li)(x3 x4 x5 x6 x7 x8:Int)(x9:List ((Int×Int)×Option (List (Bool×Bool))))(x10:List (Bool×Bool))(x11 x12:Bool)(x13 x14:List (Int×Lb×Li)):at17 n (.head 41) [m29,m32,m38,0] (zgt x0 x1 x2 x3 x4 x5 x6 x7 x8 x9 x10 x11 x12 x13 x14)=none:=by kernel_rfl
theorem yjv(n:Nat)(m29:Nat)(m32:Nat)(m38:Nat)(m41:Nat)(x0 x1:Int)(x2:Li)(x3 x4 x5 x6 x7 x8:Int)(x9:List ((Int×Int)×Option (List (Bool×Bool))))(x10:List (Bool×Bool))(x11 x12:Bool)(x13 x14:List (Int×Lb×Li)):at17 n (.head 41) [m29,m32,m38,m41+1] (zgt x0 x1 x2 x3 x4 x5 x6 x7 x8 x9 x10 x11 x12 x13 x14)=zet n (fun x0 x1 x2 x3 x4 x5 x6 x7 x8 x9 x10 x11 x12 x13 x14=>at17 n (.head 41) [m29,m32,m38,m41] (zgt x0 x1 x2 x3 x4 x5 x6 x7 x8 x9 x10 x11 x12 x13 x14)) (fun x0 x1 x2 x3 x4 x5 x6 x7 x8 x9=>at17 n (.head 38) [m29,m32,m38] (ze_ x0 x1 x2 x3 x4 x5 x6 x7 x8 x9)) x0 x1 x2 x3 x4 x5 x6 x7 x8 x9 x10 x11 x12 x13 x14:=by kernel_rfl
theorem zyj(n:Nat)(m29:Nat)(m32:Nat)(x0:Int)(x1:Li)(x2 x3 x4 x5:Int)(x6:List ((Int×Int)×Option (List (Bool×Bool))))(x7:List (Bool×Bool))(x8 x9:List (Int×Lb×Li)):at17 n (.head 38) [m29,m32,0] (ze_ x0 x1 x2 x3 x4 x5 x6 x7 x8 x9)=none:=by kernel_rfl
theorem yjw(n:Nat)(m29:Nat)(m32:Nat)(m38:Nat)(x0:Int)(x1:Li)(x2 x3 x4 x5:Int)(x6:List ((Int×Int)×Option (List (Bool×Bool))))(x7:List (Bool×Bool))(x8 x9:List (Int×Lb×Li)):at17 n (.head 38) [m29,m32,m38+1] (ze_ x0 x1 x2 x3 x4 x5 x6 x7 x8 x9)=zeu n (fun x0 x1 x2 x3 x4 x5 x6 x7 x8 x9 x10 x11 x12 x13 x14=>at17 n (.head 41) [m29,m32,m38,n] (zgt x0 x1 x2 x3 x4 x5 x6 x7 x8 x9 x10 x11 x12 x13 x14)) (fun x0 x1 x2 x3 x4 x5 x6=>at17 n (.head 32) [m29,m32] (zdq x0 x1 x2 x3 x4 x5 x6)) x0 x1 x2 x3 x4 x5 x6 x7 x8 x9:=by kernel_rfl
theorem zyk(n:Nat)(m29:Nat)(x0:Int)(x1:Li)(x2 x3:Int)(x4:List ((Int×Int)×Option (List (Bool×Bool))))(x5 x6:List (Int×Lb×Li)):at17 n (.head 32) [m29,0] (zdq x0 x1 x2 x3 x4 x5 x6)=none:=by kernel_rfl
theorem yjx(n:Nat)(m29:Nat)(m32:Nat)(x0:Int)(x1:Li)(x2 x3:Int)(x4:List ((Int×Int)×Option (List (Bool×Bool))))(x5 x6:List (Int×Lb×Li)):at17 n (.head 32) [m29,m32+1] (zdq x0 x1 x2 x3 x4 x5 x6)=zev n (fun x0 x1 x2 x3 x4 x5 x6 x7 x8 x9=>at17 n (.head 38) [m29,m32,n] (ze_ x0 x1 x2 x3 x4 x5 x6 x7 x8 x9)) (fun x0 x1 x2=>at17 n (.head 29) [m29] (zc1 x0 x1 x2)) x0 x1 x2 x3 x4 x5 x6:=by kernel_rfl
theorem zyl(n:Nat)(x0:List ((Int×Int)×Option (List (Bool×Bool))))(x1 x2:List (Int×Lb×Li)):at17 n (.head 29) [0] (zc1 x0 x1 x2)=none:=by kernel_rfl
theorem yjy(n:Nat)(m29:Nat)(x0:List ((Int×Int)×Option (List (Bool×Bool))))(x1 x2:List (Int×Lb×Li)):at17 n (.head 29) [m29+1] (zc1 x0 x1 x2)=zew n (fun x0 x1 x2 x3 x4 x5 x6=>at17 n (.head 32) [m29,n] (zdq x0 x1 x2 x3 x4 x5 x6)) x0 x1 x2:=by kernel_rfl
theorem ydo(n:Nat)(x0:List (Br))(x1 x2:Int)(x3:Lb)(x4:Li)(x5:Lb)(x6:Li)(x7:List (Br))(x8:Int)(x9:List ((Int×Int)×Option (List (Bool×Bool)))):at17 n (.head 5) [0] (zft x0 x1 x2 x3 x4 x5 x6 x7 x8 x9)=none:=by kernel_rfl
theorem yo8(n:Nat)(m5:Nat)(x0:List (Br))(x1 x2:Int)(x3:Lb)(x4:Li)(x5:Lb)(x6:Li)(x7:List (Br))(x8:Int)(x9:List ((Int×Int)×Option (List (Bool×Bool)))):at17 n (.head 5) [m5+1] (zft x0 x1 x2 x3 x4 x5 x6 x7 x8 x9)=zh0 n (fun x0 x1 x2 x3 x4 x5 x6 x7 x8 x9=>at17 n (.head 5) [m5] (zft x0 x1 x2 x3 x4 x5 x6 x7 x8 x9)) (fun x0 x1 x2 x3 x4 x5 x6 x7 x8 x9 x10 x11 x12 x13 x14 x15=>at17 n (.head 13) [m5,n] (zgu x0 x1 x2 x3 x4 x5 x6 x7 x8 x9 x10 x11 x12 x13 x14 x15)) (fun x0 x1 x2=>at17 n (.head 29) [n] (zc1 x0 x1 x2)) x0 x1 x2 x3 x4 x5 x6 x7 x8 x9:=by kernel_rfl
noncomputable def za8(g5:(List (Br))→Int→Int→Lb→Li→Lb→Li→(List (Br))→Int→(List ((Int×Int)×Option (List (Bool×Bool))))→Option R17)(n:Nat):Nat→(List (Br))→Int→Int→Lq→Int→Int→Lb→Li→Lb→Li→(List (Br))→Int→(List ((Int×Int)×Option (List (Bool×Bool))))→Bool→Lq→Lq→Option R17
 |0,_,_,_,_,_,_,_,_,_,_,_,_,_,_,_,_=>none
 |m+1,x0,x1,x2,x3,x4,x5,x6,x7,x8,x9,x10,x11,x12,x13,x14,x15=>za7 n (za8 g5 n m) g5 x0 x1 x2 x3 x4 x5 x6 x7 x8 x9 x10 x11 x12 x13 x14 x15
noncomputable def zcs(g29:(List ((Int×Int)×Option (List (Bool×Bool))))→(List (Int×Lb×Li))→(List (Int×Lb×Li))→Option R17)(g32:Int→Li→Int→Int→(List ((Int×Int)×Option (List (Bool×Bool))))→(List (Int×Lb×Li))→(List (Int×Lb×Li))→Option R17)(g38:Int→Li→Int→Int→Int→Int→(List ((Int×Int)×Option (List (Bool×Bool))))→(List (Bool×Bool))→(List (Int×Lb×Li))→(List (Int×Lb×Li))→Option R17)(n:Nat):Nat→Int→Int→Li→Int→Int→Int→Int→Int→Int→(List ((Int×Int)×Option (List (Bool×Bool))))→(List (Bool×Bool))→Bool→Bool→(List (Int×Lb×Li))→(List (Int×Lb×Li))→Option R17
 |0,_,_,_,_,_,_,_,_,_,_,_,_,_,_,_=>none
 |m+1,x0,x1,x2,x3,x4,x5,x6,x7,x8,x9,x10,x11,x12,x13,x14=>zet n (zcs g29 g32 g38 n m) g38 x0 x1 x2 x3 x4 x5 x6 x7 x8 x9 x10 x11 x12 x13 x14
noncomputable def zct(g29:(List ((Int×Int)×Option (List (Bool×Bool))))→(List (Int×Lb×Li))→(List (Int×Lb×Li))→Option R17)(g32:Int→Li→Int→Int→(List ((Int×Int)×Option (List (Bool×Bool))))→(List (Int×Lb×Li))→(List (Int×Lb×Li))→Option R17)(n:Nat):Nat→Int→Li→Int→Int→Int→Int→(List ((Int×Int)×Option (List (Bool×Bool))))→(List (Bool×Bool))→(List (Int×Lb×Li))→(List (Int×Lb×Li))→Option R17
 |0,_,_,_,_,_,_,_,_,_,_=>none
 |m+1,x0,x1,x2,x3,x4,x5,x6,x7,x8,x9=>zeu n (zcs g29 g32 (zct g29 g32 n m) n n) g32 x0 x1 x2 x3 x4 x5 x6 x7 x8 x9
noncomputable def zds(g29:(List ((Int×Int)×Option (List (Bool×Bool))))→(List (Int×Lb×Li))→(List (Int×Lb×Li))→Option R17)(n:Nat):Nat→Int→Li→Int→Int→(List ((Int×Int)×Option (List (Bool×Bool))))→(List (Int×Lb×Li))→(List (Int×Lb×Li))→Option R17
 |0,_,_,_,_,_,_,_=>none
 |m+1,x0,x1,x2,x3,x4,x5,x6=>zev n (zct g29 (zds g29 n m) n n) g29 x0 x1 x2 x3 x4 x5 x6
noncomputable def zfy(n:Nat):Nat→(List ((Int×Int)×Option (List (Bool×Bool))))→(List (Int×Lb×Li))→(List (Int×Lb×Li))→Option R17
 |0,_,_,_=>none
 |m+1,x0,x1,x2=>zew n (zds (zfy n m) n n) x0 x1 x2
noncomputable def zdx(n:Nat):Nat→(List (Br))→Int→Int→Lb→Li→Lb→Li→(List (Br))→Int→(List ((Int×Int)×Option (List (Bool×Bool))))→Option R17
 |0,_,_,_,_,_,_,_,_,_,_=>none
 |m+1,x0,x1,x2,x3,x4,x5,x6,x7,x8,x9=>zh0 n (zdx n m) (za8 (zdx n m) n n) (zfy n n) x0 x1 x2 x3 x4 x5 x6 x7 x8 x9
noncomputable def p17(n:Nat)(a:Mm):Option R17:=zjk n (zdx n n) a
theorem ygc(n:Nat)(m5:Nat):∀ (m13:Nat) (x0:List (Br)) (x1 x2:Int) (x3:Lq) (x4 x5:Int) (x6:Lb) (x7:Li) (x8:Lb) (x9:Li) (x10:List (Br)) (x11:Int) (x12:List ((Int×Int)×Option (List (Bool×Bool)))) (x13:Bool) (x14 x15:Lq),at17 n (.head 13) [m5,m13] (zgu x0 x1 x2 x3 x4 x5 x6 x7 x8 x9 x10 x11 x12 x13 x14 x15)=za8 (fun x0 x1 x2 x3 x4 x5 x6 x7 x8 x9=>at17 n (.head 5) [m5] (zft x0 x1 x2 x3 x4 x5 x6 x7 x8 x9)) n m13 x0 x1 x2 x3 x4 x5 x6 x7 x8 x9 x10 x11 x12 x13 x14 x15:=by
 intro m
 induction m with
 |zero=>intros;rw[zym];rfl
 |succ m ih =>
  intros
  rw[yjz]
  try simp only[ih]
  rfl
theorem yf9(n:Nat)(m29:Nat)(m32:Nat)(m38:Nat):∀ (m41:Nat) (x0 x1:Int) (x2:Li) (x3 x4 x5 x6 x7 x8:Int) (x9:List ((Int×Int)×Option (List (Bool×Bool)))) (x10:List (Bool×Bool)) (x11 x12:Bool) (x13 x14:List (Int×Lb×Li)),at17 n (.head 41) [m29,m32,m38,m41] (zgt x0 x1 x2 x3 x4 x5 x6 x7 x8 x9 x10 x11 x12 x13 x14)=zcs (fun x0 x1 x2=>at17 n (.head 29) [m29] (zc1 x0 x1 x2)) (fun x0 x1 x2 x3 x4 x5 x6=>at17 n (.head 32) [m29,m32] (zdq x0 x1 x2 x3 x4 x5 x6)) (fun x0 x1 x2 x3 x4 x5 x6 x7 x8 x9=>at17 n (.head 38) [m29,m32,m38] (ze_ x0 x1 x2 x3 x4 x5 x6 x7 x8 x9)) n m41 x0 x1 x2 x3 x4 x5 x6 x7 x8 x9 x10 x11 x12 x13 x14:=by
 intro m
 induction m with
 |zero=>intros;rw[zyi];rfl
 |succ m ih =>
  intros
  rw[yjv]
  try simp only[ih]
  rfl
theorem yf_(n:Nat)(m29:Nat)(m32:Nat):∀ (m38:Nat) (x0:Int) (x1:Li) (x2 x3 x4 x5:Int) (x6:List ((Int×Int)×Option (List (Bool×Bool)))) (x7:List (Bool×Bool)) (x8 x9:List (Int×Lb×Li)),at17 n (.head 38) [m29,m32,m38] (ze_ x0 x1 x2 x3 x4 x5 x6 x7 x8 x9)=zct (fun x0 x1 x2=>at17 n (.head 29) [m29] (zc1 x0 x1 x2)) (fun x0 x1 x2 x3 x4 x5 x6=>at17 n (.head 32) [m29,m32] (zdq x0 x1 x2 x3 x4 x5 x6)) n m38 x0 x1 x2 x3 x4 x5 x6 x7 x8 x9:=by
 intro m
 induction m with
 |zero=>intros;rw[zyj];rfl
 |succ m ih =>
  intros
  rw[yjw]
  try simp only[yf9,ih]
  rfl
theorem yga(n:Nat)(m29:Nat):∀ (m32:Nat) (x0:Int) (x1:Li) (x2 x3:Int) (x4:List ((Int×Int)×Option (List (Bool×Bool)))) (x5 x6:List (Int×Lb×Li)),at17 n (.head 32) [m29,m32] (zdq x0 x1 x2 x3 x4 x5 x6)=zds (fun x0 x1 x2=>at17 n (.head 29) [m29] (zc1 x0 x1 x2)) n m32 x0 x1 x2 x3 x4 x5 x6:=by
 intro m
 induction m with
 |zero=>intros;rw[zyk];rfl
 |succ m ih =>
  intros
  rw[yjx]
  try simp only[yf_,ih]
  rfl
theorem ygb(n:Nat):∀ (m29:Nat) (x0:List ((Int×Int)×Option (List (Bool×Bool)))) (x1 x2:List (Int×Lb×Li)),at17 n (.head 29) [m29] (zc1 x0 x1 x2)=zfy n m29 x0 x1 x2:=by
 intro m
 induction m with
 |zero=>intros;rw[zyl];rfl
 |succ m ih =>
  intros
  rw[yjy]
  try simp only[yga,ih]
  rfl
theorem ymn(n:Nat):∀ (m5:Nat) (x0:List (Br)) (x1 x2:Int) (x3:Lb) (x4:Li) (x5:Lb) (x6:Li) (x7:List (Br)) (x8:Int) (x9:List ((Int×Int)×Option (List (Bool×Bool)))),at17 n (.head 5) [m5] (zft x0 x1 x2 x3 x4 x5 x6 x7 x8 x9)=zdx n m5 x0 x1 x2 x3 x4 x5 x6 x7 x8 x9:=by
 intro m
 induction m with
 |zero=>intros;rw[ydo];rfl
 |succ m ih =>
  intros
  rw[yo8]
  try simp only[ygc,ygb,ih]
  rfl
noncomputable def q17(n:Nat)(x:zap ps17):Option R17:=p17 n x.1
noncomputable def Sm17:Sm:=⟨ps17,rs17,false,q17⟩
theorem gam17:GamOK Try.prog G17:=by intro f s h;unfold G17 at h;split at h;exact gj h y59;exact gj h y60;exact gj h y62;exact gj h y63;exact gj h y64;exact gj h y65;cases h
theorem hh17:Hp 17 Sm17:=hOf (zaf (an:=an17) (c:=c17) zax gam17 zaw Try.func17 (by kernel_rfl) rfl (by decide +kernel)) fun n x=>(yju n x.1).trans (by simp only[ymn];try rfl)
theorem y17:Gk 17 Sm17:=⟨⟨Try.f17,c17,Try.func17,by kernel_rfl,by decide +kernel⟩,hh17⟩
noncomputable def c112:Code:=(Try.f112.body.getD .skip)
def ypu:An:=⟨fun _=>⟨[],[]⟩,fun _ _=>none⟩
abbrev yb_:List PK:=[.val tPg true]
abbrev yhu:List RK:=[.own tPg true]
abbrev R112:=zam yhu×zak yb_
noncomputable def G112:Gam:=fun _=>none
noncomputable def zgi(n:Nat)(a:Lb×Li):Option R112 :=
 cond (decide (((0:Nat)+List.length a.1)*(16:Nat)≤(140737488355328:Nat))) (cond (decide (((0:Nat)+List.length a.2)*(8:Nat)≤(140737488355328:Nat))) (some (((a.1,a.2),()),())) none) none
theorem yek(n:Nat)(a:Lb×Li):runF TT G112 ypu Try.f112 c112 yb_ yhu n (a,())=zgi n a:=by kernel_rfl
noncomputable def p112(n:Nat)(a:Lb×Li):Option R112:=zgi n a
noncomputable def q112(n:Nat)(x:zap yb_):Option R112:=p112 n x.1
noncomputable def ylz:Sm:=⟨yb_,yhu,false,q112⟩
theorem yoi:GamOK Try.prog G112:=fun _ _ h=>by cases h
theorem hh112:Hp 112 ylz:=hOf (zaf (an:=ypu) (c:=c112) zax yoi zaw Try.func112 (by kernel_rfl) rfl (by decide +kernel)) fun n x=>(yek n x.1).trans rfl
theorem y112:Gk 112 ylz:=⟨⟨Try.f112,c112,Try.func112,by kernel_rfl,by decide +kernel⟩,hh112⟩
noncomputable def c113:Code:=(Try.f113.body.getD .skip)
abbrev yb9:List PK:=[.val (.row 80 tSl) false]
abbrev ymr:List RK:=[.own (.row 80 tSl) false]
abbrev R113:=zam ymr×zak yb9
noncomputable def p113(n:Nat)(a:Lq):Option R113:=cond (decide ((0+a.length)*(24:Nat)≤(140737488355328:Nat))) (some ((a,()),())) none
noncomputable def q113(n:Nat)(x:zap yb9):Option R113:=p113 n x.1
noncomputable def yly:Sm:=⟨yb9,ymr,false,q113⟩
noncomputable def yfy(n:Nat)(xs:Lq):St:=(zic Try.f113.ntmps yb9 (xs,())).put (some 2) (.one .nil)
noncomputable def yp1(n:Nat)(xs:Lq):St:=(yfy n xs).put (some 3) (.one (.con ⟨80,tSl,xs⟩))
theorem yc4:GamOK Try.prog (fun _=>none):=fun f s h=>by cases h
theorem hh113:zij Try.prog 113 yly:=by
 refine znx zax yc4 zaw (an:=⟨fun _=>⟨[],[]⟩,fun _ _=>none⟩) Try.func113 (by rfl) rfl (by first|exact Try.underlying69|kernel_rfl) (by decide +kernel) yfy (fun n xs=>by kernel_rfl) yp1 (fun n xs=>by kernel_rfl) (fun n xs=>rfl) (fun n xs b=>by kernel_rfl) (fun n y h=>?_) (fun n xs y h=>?_)
 ·have h':some (([],()),())=some y:=h
  refine Eq.trans ?_ h'
  kernel_rfl
 ·have h':cond (decide ((0+xs.length)*(24:Nat)≤(140737488355328:Nat))) (some ((xs,()),())) none=some y:=h
  refine Eq.trans ?_ h'
  kernel_rfl
theorem y113:Gk 113 yly:=⟨⟨Try.f113,c113,Try.func113,by kernel_rfl,by decide +kernel⟩,hh113⟩
noncomputable def c50:Code:=(Try.f50.body.getD .skip)
def an50:An:=⟨fun r=>match r with|3=>⟨[2,3,16,17,18],[(5003,71,tSp 116 80)]⟩|_=>⟨[],[]⟩,fun _ _=>none⟩
abbrev ps50:List PK:=[.val tMem true]
abbrev rs50:List RK:=[.own tMem true]
abbrev R50:=zam rs50×zak ps50
noncomputable def G50:Gam:=fun f=>match f with|87=>some Sm87|112=>some ylz|113=>some yly|_=>none
noncomputable def at50:Nat→Pt→List Nat→St→Option R50:=atF TT G50 an50 Try.f50 c50 _ _
def zkh(x0:List (Br))(x1 x2 x3 x4:Int)(x5:Lb)(x6:Li)(x7:Lb)(x8:Li)(x9:List (Br)):St:=(St.mk ([Uu,Uu,AV.one (SV.bptr 1000000 0),AV.one (SV.bptr 1000001 0),Uu,Uu,Uu,Uu,Uu,Uu,Uu,Uu,Uu,Uu,Uu,Uu,AV.one (SV.con (⟨71,ySp,x0⟩:Rw)),Ai x1,Ai x2]++Ur 19) [(1000000,(Ent.box [SV.nil,SV.nil,SV.nil,SV.nil,SV.nil,Si x3])),(1000001,(Ent.box [Sr 1000002,Sr 1000003,Sr 1000004,Sr 1000005,Sr 1000006,Si x4])),(1000002,Er ⟨9,Ty.str,x5⟩),(1000003,Er ⟨3,Ty.int .i64,x6⟩),(1000004,Er ⟨9,Ty.str,x7⟩),(1000005,Er ⟨3,Ty.int .i64,x8⟩),(1000006,Er ⟨71,ySp,x9⟩)])
noncomputable def zja(n:Nat)(lL3:(List (Br))→Int→Int→Int→Int→Lb→Li→Lb→Li→(List (Br))→Option R50)(a:Mm):Option R50 :=
 (q112 n ((a.1.1,a.1.2),())).bind fun r0=>(q112 n ((a.2.1.1,a.2.1.2),())).bind fun r1=>lL3 a.2.2.1 ((↑(List.length a.2.2.1):Int)) (0:Int) (0:Int) a.2.2.2 r0.1.1.1 r0.1.1.2 r1.1.1.1 r1.1.1.2 ([])
noncomputable def zhu(n:Nat)(lL3:(List (Br))→Int→Int→Int→Int→Lb→Li→Lb→Li→(List (Br))→Option R50)(x0:List (Br))(x1 x2 x3 x4:Int)(x5:Lb)(x6:Li)(x7:Lb)(x8:Li)(x9:List (Br)):Option R50 :=
 cond (decide (x2<x1)) (cond (decide (0≤x2)) (cond (decide (x2<(↑x0.length:Int))) ((q87 n ((x0.getD x2.toNat (false,[],[])).2.1,())).bind fun r3=>(q113 n ((x0.getD x2.toNat (false,[],[])).2.2,())).bind fun r4=>cond (decide ((x9.length+[((x0.getD x2.toNat (false,[],[])).1,r3.1.1,r4.1.1)].length)*(56:Nat)≤(140737488355328:Nat))) (lL3 x0 x1 (IntKind.i64.wrap (x2+1)) x3 x4 x5 x6 x7 x8 (x9++[((x0.getD x2.toNat (false,[],[])).1,r3.1.1,r4.1.1)])) none) none) none) (some ((((x5,x6),((x7,x8),(x9,x4))),()),()))
theorem yjg(n:Nat)(a:Mm):runF TT G50 an50 Try.f50 c50 ps50 rs50 n (a,())=zja n (fun x0 x1 x2 x3 x4 x5 x6 x7 x8 x9=>at50 n (.head 3) [n] (zkh x0 x1 x2 x3 x4 x5 x6 x7 x8 x9)) a:=by kernel_rfl
theorem ydg(n:Nat)(x0:List (Br))(x1 x2 x3 x4:Int)(x5:Lb)(x6:Li)(x7:Lb)(x8:Li)(x9:List (Br)):at50 n (.head 3) [0] (zkh x0 x1 x2 x3 x4 x5 x6 x7 x8 x9)=none:=by kernel_rfl
theorem yo2(n:Nat)(m3:Nat)(x0:List (Br))(x1 x2 x3 x4:Int)(x5:Lb)(x6:Li)(x7:Lb)(x8:Li)(x9:List (Br)):at50 n (.head 3) [m3+1] (zkh x0 x1 x2 x3 x4 x5 x6 x7 x8 x9)=zhu n (fun x0 x1 x2 x3 x4 x5 x6 x7 x8 x9=>at50 n (.head 3) [m3] (zkh x0 x1 x2 x3 x4 x5 x6 x7 x8 x9)) x0 x1 x2 x3 x4 x5 x6 x7 x8 x9:=by kernel_rfl
noncomputable def zqn(n:Nat):Nat→(List (Br))→Int→Int→Int→Int→Lb→Li→Lb→Li→(List (Br))→Option R50
 |0,_,_,_,_,_,_,_,_,_,_=>none
 |m+1,x0,x1,x2,x3,x4,x5,x6,x7,x8,x9=>zhu n (zqn n m) x0 x1 x2 x3 x4 x5 x6 x7 x8 x9
noncomputable def p50(n:Nat)(a:Mm):Option R50:=zja n (zqn n n) a
theorem ymi(n:Nat):∀ (m3:Nat) (x0:List (Br)) (x1 x2 x3 x4:Int) (x5:Lb) (x6:Li) (x7:Lb) (x8:Li) (x9:List (Br)),at50 n (.head 3) [m3] (zkh x0 x1 x2 x3 x4 x5 x6 x7 x8 x9)=zqn n m3 x0 x1 x2 x3 x4 x5 x6 x7 x8 x9:=by
 intro m
 induction m with
 |zero=>intros;rw[ydg];rfl
 |succ m ih =>
  intros
  rw[yo2]
  try simp only[ih]
  rfl
noncomputable def q50(n:Nat)(x:zap ps50):Option R50:=p50 n x.1
noncomputable def Sm50:Sm:=⟨ps50,rs50,false,q50⟩
theorem gam50:GamOK Try.prog G50:=by intro f s h;unfold G50 at h;split at h;exact gj h y87;exact gj h y112;exact gj h y113;cases h
theorem hh50:Hp 50 Sm50:=hOf (zaf (an:=an50) (c:=c50) zax gam50 zaw Try.func50 (by kernel_rfl) rfl (by decide +kernel)) fun n x=>(yjg n x.1).trans (by simp only[ymi];try rfl)
theorem y50:Gk 50 Sm50:=⟨⟨Try.f50,c50,Try.func50,by kernel_rfl,by decide +kernel⟩,hh50⟩
noncomputable def c144:Code:=(Try.f144.body.getD .skip)
def ypn:An:=⟨fun _=>⟨[],[]⟩,fun _ _=>none⟩
abbrev ybv:List PK:=[.val (tSp 116 80) true]
abbrev yhg:List RK:=[.val .bool false]
abbrev R144:=zam yhg×zak ybv
noncomputable def G144:Gam:=fun _=>none
noncomputable def zpy(n:Nat)(a:Br):Option R144 :=
 some ((!a.1,()),())
theorem yd7(n:Nat)(a:Br):runF TT G144 ypn Try.f144 c144 ybv yhg n (a,())=zpy n a:=by kernel_rfl
noncomputable def p144(n:Nat)(a:Br):Option R144:=zpy n a
noncomputable def q144(n:Nat)(x:zap ybv):Option R144:=p144 n x.1
noncomputable def ye7:Sm:=⟨ybv,yhg,false,q144⟩
theorem yn5:GamOK Try.prog G144:=fun _ _ h=>by cases h
theorem hh144:Hp 144 ye7:=hOf (zaf (an:=ypn) (c:=c144) zax yn5 zaw Try.func144 (by kernel_rfl) rfl (by decide +kernel)) fun n x=>(yd7 n x.1).trans rfl
theorem y144:Gk 144 ye7:=⟨⟨Try.f144,c144,Try.func144,by kernel_rfl,by decide +kernel⟩,hh144⟩
noncomputable def c143:Code:=(Try.f143.body.getD .skip)
def yk3:An:=⟨fun r=>match r with|2=>⟨[0,1,7,8],[]⟩|_=>⟨[],[]⟩,fun _ _=>none⟩
abbrev ybw:List PK:=[.val (.row 71 (tSp 116 80)) false,.fn 144 []]
abbrev yhh:List RK:=[.val i64 false]
abbrev R143:=zam yhh×zak ybw
noncomputable def G143:Gam:=fun f=>match f with|144=>some ye7|_=>none
noncomputable def zzk:Nat→Pt→List Nat→St→Option R143:=atF TT G143 yk3 Try.f143 c143 _ _
def zg1(x0:List (Br))(x1 x2:Int):St:=(St.mk ([AV.one (SV.con (⟨71,ySp,x0⟩:Rw)),AV.fn 144 [],Uu,Uu,Uu,Uu,Uu,Ai x1,Ai x2]++Ur 10) [])
noncomputable def zpz(n:Nat)(lL2:(List (Br))→Int→Int→Option R143)(a:List (Br))(b:Unit):Option R143 :=
 lL2 a ((↑a.length:Int)) (0:Int)
noncomputable def ze3(n:Nat)(lL2:(List (Br))→Int→Int→Option R143)(x0:List (Br))(x1 x2:Int):Option R143 :=
 cond (decide (x2<x1)) (cond (decide (0≤x2)) (cond (decide (x2<(↑x0.length:Int))) ((q144 n (((x0.getD x2.toNat (false,[],[])).1,(x0.getD x2.toNat (false,[],[])).2.1,(x0.getD x2.toNat (false,[],[])).2.2),())).bind fun r1=>cond r1.1.1 (some ((x2,()),())) (lL2 x0 x1 (IntKind.i64.wrap (x2+1)))) none) none) (some (((-1:Int),()),()))
theorem yd8(n:Nat)(a:List (Br))(b:Unit):runF TT G143 yk3 Try.f143 c143 ybw yhh n (a,b,())=zpz n (fun x0 x1 x2=>zzk n (.head 2) [n] (zg1 x0 x1 x2)) a b:=by kernel_rfl
theorem zyu(n:Nat)(x0:List (Br))(x1 x2:Int):zzk n (.head 2) [0] (zg1 x0 x1 x2)=none:=by kernel_rfl
theorem yj8(n:Nat)(m2:Nat)(x0:List (Br))(x1 x2:Int):zzk n (.head 2) [m2+1] (zg1 x0 x1 x2)=ze3 n (fun x0 x1 x2=>zzk n (.head 2) [m2] (zg1 x0 x1 x2)) x0 x1 x2:=by kernel_rfl
noncomputable def zou(n:Nat):Nat→(List (Br))→Int→Int→Option R143
 |0,_,_,_=>none
 |m+1,x0,x1,x2=>ze3 n (zou n m) x0 x1 x2
noncomputable def p143(n:Nat)(a:List (Br))(b:Unit):Option R143:=zpz n (zou n n) a b
theorem ygk(n:Nat):∀ (m2:Nat) (x0:List (Br)) (x1 x2:Int),zzk n (.head 2) [m2] (zg1 x0 x1 x2)=zou n m2 x0 x1 x2:=by
 intro m
 induction m with
 |zero=>intros;rw[zyu];rfl
 |succ m ih =>
  intros
  rw[yj8]
  try simp only[ih]
  rfl
noncomputable def q143(n:Nat)(x:zap ybw):Option R143:=p143 n x.1 x.2.1
noncomputable def ylo:Sm:=⟨ybw,yhh,false,q143⟩
theorem yn6:GamOK Try.prog G143:=by intro f s h;unfold G143 at h;split at h;exact gj h y144;cases h
theorem hh143:Hp 143 ylo:=hOf (zaf (an:=yk3) (c:=c143) zax yn6 zaw Try.func143 (by kernel_rfl) rfl (by decide +kernel)) fun n x=>(yd8 n x.1 x.2.1).trans (by simp only[ygk];try rfl)
theorem y143:Gk 143 ylo:=⟨⟨Try.f143,c143,Try.func143,by kernel_rfl,by decide +kernel⟩,hh143⟩
noncomputable def c96:Code:=(Try.f96.body.getD .skip)
def an96:An:=⟨fun _=>⟨[],[]⟩,fun _ _=>none⟩
abbrev ps96:List PK:=[.val tMem true]
abbrev rs96:List RK:=[.val i64 false]
abbrev R96:=zam rs96×zak ps96
noncomputable def G96:Gam:=fun f=>match f with|143=>some ylo|144=>some ye7|_=>none
noncomputable def ziy(n:Nat)(a:Mm):Option R96 :=
 (q143 n (a.2.2.1,(),())).bind fun r0=>some ((r0.1.1,()),())
theorem yiy(n:Nat)(a:Mm):runF TT G96 an96 Try.f96 c96 ps96 rs96 n (a,())=ziy n a:=by kernel_rfl
noncomputable def p96(n:Nat)(a:Mm):Option R96:=ziy n a
noncomputable def q96(n:Nat)(x:zap ps96):Option R96:=p96 n x.1
noncomputable def Sm96:Sm:=⟨ps96,rs96,false,q96⟩
theorem gam96:GamOK Try.prog G96:=by intro f s h;unfold G96 at h;split at h;exact gj h y143;exact gj h y144;cases h
theorem hh96:Hp 96 Sm96:=hOf (zaf (an:=an96) (c:=c96) zax gam96 zaw Try.func96 (by kernel_rfl) rfl (by decide +kernel)) fun n x=>(yiy n x.1).trans rfl
theorem y96:Gk 96 Sm96:=⟨⟨Try.f96,c96,Try.func96,by kernel_rfl,by decide +kernel⟩,hh96⟩
noncomputable def c30:Code:=(Try.f30.body.getD .skip)
def an30:An:=⟨fun _=>⟨[],[]⟩,fun _ _=>none⟩
abbrev ps30:List PK:=[.val tMem true]
abbrev rs30:List RK:=[.own tMem true,.val i64 false,.val .bool false]
abbrev R30:=zam rs30×zak ps30
noncomputable def G30:Gam:=fun f=>match f with|17=>some Sm17|50=>some Sm50|96=>some Sm96|_=>none
noncomputable def zjj(n:Nat)(a:Mm):Option R30 :=
 (q17 n (((a.1.1,a.1.2),(a.2.1.1,a.2.1.2),a.2.2.1,a.2.2.2),())).bind fun r0=>cond (!r0.1.1) (some (((([],[]),(([],[]),([],(0:Int)))),((-1:Int),(false,()))),())) ((q96 n (((a.1.1,a.1.2),(a.2.1.1,a.2.1.2),a.2.2.1,a.2.2.2),())).bind fun r1=>cond (decide (r1.1.1<(0:Int))) (some (((([],[]),(([],[]),([],(0:Int)))),((-1:Int),(false,()))),())) ((q50 n (((a.1.1,a.1.2),(a.2.1.1,a.2.1.2),a.2.2.1,a.2.2.2),())).bind fun r2=>(q96 n (((a.1.1,a.1.2),(a.2.1.1,a.2.1.2),a.2.2.1,a.2.2.2),())).bind fun r3=>cond (decide ((0:Int)≤r3.1.1)) (cond (decide (r3.1.1<(↑(List.length r2.1.1.2.2.1):Int))) ((q96 n (((a.1.1,a.1.2),(a.2.1.1,a.2.1.2),a.2.2.1,a.2.2.2),())).bind fun r4=>some ((((r2.1.1.1.1,r2.1.1.1.2),((r2.1.1.2.1.1,r2.1.1.2.1.2),(List.set r2.1.1.2.2.1 (Int.toNat r3.1.1) (true,[],List.replicate (Int.toNat (16:Int)) ((0:Int),(0:Int),false,false)),r2.1.1.2.2.2))),(r4.1.1,(true,()))),())) none) none))
theorem yjp(n:Nat)(a:Mm):runF TT G30 an30 Try.f30 c30 ps30 rs30 n (a,())=zjj n a:=by kernel_rfl
noncomputable def p30(n:Nat)(a:Mm):Option R30:=zjj n a
noncomputable def q30(n:Nat)(x:zap ps30):Option R30:=p30 n x.1
noncomputable def Sm30:Sm:=⟨ps30,rs30,false,q30⟩
theorem gam30:GamOK Try.prog G30:=by intro f s h;unfold G30 at h;split at h;exact gj h y17;exact gj h y50;exact gj h y96;cases h
theorem hh30:Hp 30 Sm30:=hOf (zaf (an:=an30) (c:=c30) zax gam30 zaw Try.func30 (by kernel_rfl) rfl (by decide +kernel)) fun n x=>(yjp n x.1).trans rfl
theorem y30:Gk 30 Sm30:=⟨⟨Try.f30,c30,Try.func30,by kernel_rfl,by decide +kernel⟩,hh30⟩
noncomputable def c49:Code:=(Try.f49.body.getD .skip)
def an49:An:=⟨fun _=>⟨[],[]⟩,fun _ _=>none⟩
abbrev ps49:List PK:=[.val tMem true,.val i64 false]
abbrev rs49:List RK:=[.val .bool false]
abbrev R49:=zam rs49×zak ps49
noncomputable def G49:Gam:=fun f=>match f with|59=>some Sm59|_=>none
noncomputable def zjb(n:Nat)(a:Mm)(b:Int):Option R49 :=
 (q59 n (b,(0:Int),IntKind.i64.wrap ((↑(List.length a.2.2.1):Int) - (1:Int)),())).bind fun r0=>cond r0.1.1 (cond (decide ((0:Int)≤b)) (cond (decide (b<(↑(List.length a.2.2.1):Int))) (some (((List.getD a.2.2.1 b.toNat (false,[],[])).1,()),())) none) none) (some ((false,()),()))
theorem yjh(n:Nat)(a:Mm)(b:Int):runF TT G49 an49 Try.f49 c49 ps49 rs49 n (a,b,())=zjb n a b:=by kernel_rfl
noncomputable def p49(n:Nat)(a:Mm)(b:Int):Option R49:=zjb n a b
noncomputable def q49(n:Nat)(x:zap ps49):Option R49:=p49 n x.1 x.2.1
noncomputable def Sm49:Sm:=⟨ps49,rs49,false,q49⟩
theorem gam49:GamOK Try.prog G49:=by intro f s h;unfold G49 at h;split at h;exact gj h y59;cases h
theorem hh49:Hp 49 Sm49:=hOf (zaf (an:=an49) (c:=c49) zax gam49 zaw Try.func49 (by kernel_rfl) rfl (by decide +kernel)) fun n x=>(yjh n x.1 x.2.1).trans rfl
theorem y49:Gk 49 Sm49:=⟨⟨Try.f49,c49,Try.func49,by kernel_rfl,by decide +kernel⟩,hh49⟩
end Go.Proofs.Ytdkaagpkeomhmaa.Rx.S
namespace Go.Proofs.Ytdkaagpkeomhmaa.Rx.S
open Go Go.Proofs.Ytdkaagpkeomhmaa.Rx Go.RowKit Go.Lib Go.Proofs
set_option maxHeartbeats 4000000 in
set_option maxRecDepth 1000000 in
theorem yiu(gp bp g b n c id:Nat)(x:Int)(w:World)(hp:w.cell? ⟨gp,bp+1,none⟩=some (.slice (some ⟨g,b,none⟩) n c))(hid:id<n)(hgp:gp≠g)
  (hc:w.cell? ⟨g,b+id,none⟩=some (.int .i64 x)) (hf:w.frozen? ⟨g,b+id,none⟩=false) (hz:(wrap64 (x - 1) == 0)=false) :
  Calls Try.prog 116 #[.pointer (some ⟨gp,bp,none⟩),.int .i64 id] w fun e w'=>e = .returned (.tuple #[]) ∧
   w'=w.setCell ⟨g,b+id,none⟩ (.int .i64 (wrap64 (x - 1))):=by
 have zaw:Try.prog.follows .mixedOrders=true:=by kernel_rfl
 have hp2:Hid (∀ v,(w.setCell ⟨g,b+id,none⟩ v).cell? ⟨gp,bp+1,none⟩=some (.slice (some ⟨g,b,none⟩) n c)):=fun v=>by
  rw[← hp];unfold World.cell? World.setCell;simp[Array.getElem?_modify,hgp,Ne.symm hgp]
 have hc2:Hid (∀ v,(w.setCell ⟨g,b+id,none⟩ v).cell? ⟨g,b+id,none⟩=some v):=fun v=>by
  exact World.cell?_setCell_same _ _ _ hc
 go_enter Try.func116,Try.ntmps116
 go_wp2
 go_end0
 exact⟨rfl,rfl⟩
set_option maxHeartbeats 4000000 in
set_option maxRecDepth 1000000 in
theorem ynm(gp bp g b n c gt bt nt ct id:Nat)(x:Int)(s:ByteArray)(w:World)(hp:w.cell? ⟨gp,bp+1,none⟩=some (.slice (some ⟨g,b,none⟩) n c))(hq:w.cell? ⟨gp,bp,none⟩=some (.slice (some ⟨gt,bt,none⟩) nt ct))(hid:id<n)(hidt:id<nt)(hgp:gp≠g)(hgt:gt≠g)
  (hc:w.cell? ⟨g,b+id,none⟩=some (.int .i64 x)) (hf:w.frozen? ⟨g,b+id,none⟩=false) (hct:w.cell? ⟨gt,bt+id,none⟩=some (.string s)) (hft:w.frozen? ⟨gt,bt+id,none⟩=false) (hz:(wrap64 (x - 1) == 0)=true) :
  Calls Try.prog 116 #[.pointer (some ⟨gp,bp,none⟩),.int .i64 id] w fun e w'=>e = .returned (.tuple #[]) ∧
   w'=(w.setCell ⟨g,b+id,none⟩ (.int .i64 (wrap64 (x - 1)))).setCell ⟨gt,bt+id,none⟩ (.string (ByteArray.mk #[])):=by
 have zaw:Try.prog.follows .mixedOrders=true:=by kernel_rfl
 have hp2:Hid (∀ v,(w.setCell ⟨g,b+id,none⟩ v).cell? ⟨gp,bp+1,none⟩=some (.slice (some ⟨g,b,none⟩) n c)):=fun v=>by
  rw[← hp];unfold World.cell? World.setCell;simp[Array.getElem?_modify,hgp,Ne.symm hgp]
 have hq2:Hid (∀ v,(w.setCell ⟨g,b+id,none⟩ v).cell? ⟨gp,bp,none⟩=some (.slice (some ⟨gt,bt,none⟩) nt ct)):=fun v=>by
  rw[← hq];unfold World.cell? World.setCell;simp[Array.getElem?_modify,hgp,Ne.symm hgp]
 have hc2:Hid (∀ v,(w.setCell ⟨g,b+id,none⟩ v).cell? ⟨g,b+id,none⟩=some v):=fun v=>by
  exact World.cell?_setCell_same _ _ _ hc
 have hct2:Hid (∀ v,(w.setCell ⟨g,b+id,none⟩ v).cell? ⟨gt,bt+id,none⟩=some (.string s)):=fun v=>by
  rw[← hct];unfold World.cell? World.setCell;simp[Array.getElem?_modify,hgt,Ne.symm hgt]
 have hft2:Hid (∀ v,(w.setCell ⟨g,b+id,none⟩ v).frozen? ⟨gt,bt+id,none⟩=false):=fun v=>by
  rw[← hft];unfold World.frozen? World.setCell;simp[Array.getElem?_modify,hgt,Ne.symm hgt]
 go_enter Try.func116,Try.ntmps116
 go_wp2
 go_end0
 exact⟨rfl,rfl⟩
end Go.Proofs.Ytdkaagpkeomhmaa.Rx.S
namespace Go.Proofs.Ytdkaagpkeomhmaa.Rx.S
open Go Go.Proofs.Ytdkaagpkeomhmaa.Rx Go.RowKit Go.Proofs
noncomputable def yeu:Code:=(Try.f116.body.getD .skip)
abbrev zkv:List PK:=[.io tPg true,.val i64 false]
abbrev zp_:List RK:=[]
abbrev zjz:=zam zp_×zak zkv
def zvw(t:Lb)(r:Li)(at':Int):Option (Lb×Li) :=
 cond (decide (0≤at')) (cond (decide (at' < r.length)) (cond (decide (IntKind.i64.wrap (r.getD at'.toNat 0 - 1)=0))
  (cond (decide (at'<t.length)) (some (t.set at'.toNat (ByteArray.mk #[]),r.set at'.toNat (IntKind.i64.wrap (r.getD at'.toNat 0 - 1)))) none)
  (some (t,r.set at'.toNat (IntKind.i64.wrap (r.getD at'.toNat 0 - 1))))) none) none
def ycj(n:Nat)(a:Lb×Li)(b:Int):Option zjz:=(zvw a.1 a.2 b).map fun r=>((),(r,()))
noncomputable def zjo(n:Nat)(x:zap zkv):Option zjz:=ycj n x.1 x.2.1
noncomputable def zei:Sm:=⟨zkv,zp_,false,zjo⟩
theorem zho(n:Int):wrap64 n=IntKind.i64.wrap n:=(IntWalk.i64_left n).symm
theorem yfz{α:Type}{R:Nat→α→List Value→List Nat→Prop}(hR:∀ i x c f,R i x c f→f=[]):∀ {xs:List α} {i:Nat} {cs:List Value} {F:List Nat},RL R i xs cs F→F=[]
 | [],_,_,_,h=>h.2
 |x::xs,i,cs,F,h=>by
  obtain⟨c1,c2,F1,F2,_,rfl,h1,h2⟩:=h
  rw[hR _ _ _ _ h1,yfz hR h2]
  rfl
theorem zqt{w:World}{e:TypeId}{t:Ty}{H:Path→Hd}{xs:List t.den}{v:Value}{F:List Nat}(hf:∀ (H:Nat→Path→Hd) c (x:t.den) cs f,Ow w t H c x cs f→f=[])(h:OwR w e t H xs v F)(hh:(H []).hole=false)(hc:xs≠[]):∃ g,F=[g]:=by
 unfold OwR OwRow at h
 rw[if_neg (by simp[hh])]at h
 obtain⟨hv,hl,hle,hmx,h5⟩:=h
 have:0<xs.length:=List.length_pos_iff.2 hc
 rw[if_neg (by omega)]at h5
 obtain⟨_,g,b,cells,F',_,rfl,_,_,hr⟩:=h5
 exact⟨g,by rw[yfz (fun i x c f h=>hf _ _ _ _ _ h) hr]⟩
theorem yig{w:World}{H:Path→Hd}{xs:Li}{v:Value}{F:List Nat}{id:Nat}(h:OwR w 3 i64 H xs v F)(hh:(H []).hole=false)(hid:id<xs.length) :
  ∃ g b n c cells,v = .slice (some ⟨g,b,none⟩) n c∧id<n∧F=[g]∧HC w g cells 3∧cells[b+id]? = some (.int .i64 (xs.getD id 0)) ∧
   ∀ (y:Int) (w':World),HC w' g (cells.setIfInBounds (b+id) (.int .i64 y)) 3→OwR w' 3 i64 H (xs.set id y) v F:=by
 obtain⟨g1,hF1⟩:=zqt (by intro H c x cs f h;exact And.right h) h hh (by intro e;rw[e]at hid;simp at hid)
 have h0:=h
 unfold OwR OwRow at h0
 rw[if_neg (by simp[hh])]at h0
 obtain⟨hv,hl,hle,hmx,_⟩:=h0
 have hi:id<(H []).len:=by rw[← hl];exact hid
 obtain⟨g,b,u,Fa,Fs,Fb,cells,hA,hsz,hF,hg,hgc,hu,ho,hput⟩:=h.cell (b:=⟨i64,xs.getD id (0:Int)⟩) (c:=0) hh hi rfl
 obtain⟨hc,hFs⟩:=ho
 injection hc with hc _
 subst hc;subst hFs
 have s1:(i64).sz=1:=rfl
 rw[s1,Nat.mul_one,Nat.add_zero]at hu
 have hFa:Fa=[g1]∧Fb=[]:=by
  rw[hF]at hF1
  simp only[List.nil_append]at hF1
  cases Fa with
  |nil=>cases hg
  |cons a l =>
   simp only[List.cons_append,List.cons.injEq,List.append_eq_nil_iff]at hF1
   exact⟨by rw[hF1.1,hF1.2.1],hF1.2.2⟩
 obtain⟨rfl,rfl⟩:=hFa
 have hgg:g=g1:=by simpa using hg
 subst hgg
 refine⟨g,b,(H []).len,(H []).cap,cells,by rw[hv,hA],hi,hF1,hgc,hu,fun y w' hg'=>?_⟩
 have:=hput w' H y (.int .i64 y) [] y (fun b=>match b with | ⟨.int _,_⟩=>some y | _=>none) rfl rfl (fun k hk hne=>by
  have:k=g:=by simpa using hk
  exact(hne this).elim) (by rw[s1,Nat.mul_one,Nat.add_zero];exact hg') (by simp) (by simp) rfl (fun _ _ _ _=>rfl) ⟨rfl,rfl⟩
 rw[hF1]
 simpa using this
theorem yif{w:World}{H:Path→Hd}{xs:Lb}{v:Value}{F:List Nat}{id:Nat}(h:OwR w 9 .str H xs v F)(hh:(H []).hole=false)(hid:id<xs.length) :
  ∃ g b n c cells,v = .slice (some ⟨g,b,none⟩) n c∧id<n∧F=[g]∧HC w g cells 9∧cells[b+id]? = some (.string (xs.getD id ByteArray.empty)) ∧
   ∀ (y:ByteArray) (w':World),HC w' g (cells.setIfInBounds (b+id) (.string y)) 9→OwR w' 9 .str H (xs.set id y) v F:=by
 obtain⟨g1,hF1⟩:=zqt (by intro H c x cs f h;exact And.right h) h hh (by intro e;rw[e]at hid;simp at hid)
 have h0:=h
 unfold OwR OwRow at h0
 rw[if_neg (by simp[hh])]at h0
 obtain⟨hv,hl,hle,hmx,_⟩:=h0
 have hi:id<(H []).len:=by rw[← hl];exact hid
 obtain⟨g,b,u,Fa,Fs,Fb,cells,hA,hsz,hF,hg,hgc,hu,ho,hput⟩:=h.cell (b:=⟨.str,xs.getD id ByteArray.empty⟩) (c:=0) hh hi rfl
 obtain⟨hc,hFs⟩:=ho
 injection hc with hc _
 subst hc;subst hFs
 have s1:(Ty.str).sz=1:=rfl
 rw[s1,Nat.mul_one,Nat.add_zero]at hu
 have hFa:Fa=[g1]∧Fb=[]:=by
  rw[hF]at hF1
  simp only[List.nil_append]at hF1
  cases Fa with
  |nil=>cases hg
  |cons a l =>
   simp only[List.cons_append,List.cons.injEq,List.append_eq_nil_iff]at hF1
   exact⟨by rw[hF1.1,hF1.2.1],hF1.2.2⟩
 obtain⟨rfl,rfl⟩:=hFa
 have hgg:g=g1:=by simpa using hg
 subst hgg
 refine⟨g,b,(H []).len,(H []).cap,cells,by rw[hv,hA],hi,hF1,hgc,hu,fun y w' hg'=>?_⟩
 have:=hput w' H y (.string y) [] y (fun b=>match b with | ⟨.str,_⟩=>some y | _=>none) rfl rfl (fun k hk hne=>by
  have:k=g:=by simpa using hk
  exact(hne this).elim) (by rw[s1,Nat.mul_one,Nat.add_zero];exact hg') (by simp) (by simp) rfl (fun _ _ _ _=>rfl) ⟨rfl,rfl⟩
 rw[hF1]
 simpa using this
theorem zid{w:World}{g i:Nat}{cells:Array Value}{e:TypeId}{v:Value}(h:HC w g cells e):HC (w.setCell ⟨g,i,none⟩ v) g (cells.setIfInBounds i v) e:=by
 obtain⟨q,hq,hg⟩:=h
 rw[setCell_eq_setRow w g i cells e q v hg]
 exact HC.set (by simp) ⟨q,hq,hg⟩
theorem znt{w:World}{g i:Nat}{cells:Array Value}{e:TypeId}{v:Value}(h:HC w g cells e):Kp w (fun k=>k=g) (w.setCell ⟨g,i,none⟩ v):=by
 obtain⟨q,hq,hg⟩:=h
 rw[setCell_eq_setRow w g i cells e q v hg]
 exact zej w g _
theorem zsw:zel (CP Try.prog 116) zei:=by
 rintro n w Z vs ⟨⟨tx,rf⟩,id,_⟩ Fs y hZ hlt hnd ha hF
 rcases vs with _|⟨v0,_|⟨v1,_|⟨v2,vs⟩⟩⟩ <;> rcases Fs with _|⟨F0,_|⟨F1,_|⟨F2,Fs⟩⟩⟩ <;> simp only[zmw,zei,and_false]at ha
 obtain⟨⟨H,hH,arr,rfl,h0⟩,⟨rfl,_,hv1⟩,_⟩:=ha
 have hv1:[v1]=[.int .i64 id]:=hv1
 injection hv1 with hv1 _
 subst hv1
 obtain⟨c1,c2,Ft,Fr,hcs,rfl,⟨vt,rfl,ht⟩,⟨vr,rfl,hr⟩⟩:=h0
 have ht:OwR w 9 .str (H 0) tx vt Ft:=ht
 have hr:OwR w 3 i64 (H (0+(Ty.row 9 Ty.str).sz)) rf vr Fr:=hr
 have hnd0:(Ft++Fr).Nodup:=by simpa using hnd
 have hF:(zvw tx rf id).map (fun r=>(((),(r,())):zjz))=some y:=hF
 obtain⟨r,hr',rfl⟩:=Option.map_eq_some_iff.1 hF
 intro g0 b0 us vs' hvs hcell hg0 hgs
 injection hvs with hvs1 hvs2
 injection hvs1 with hvs1
 subst hvs2
 have hus:us=[vt,vr]:=by
  have:us.toArray.toList=arr.toList:=by rw[hvs1]
  rw[hcs]at this
  simpa using this
 subst hus
 have hp:=hcell 1 vr rfl
 have hq:=hcell 0 vt rfl
 rw[Nat.add_zero]at hq
 unfold zvw at hr'
 by_cases h1:0≤id
 ·by_cases h2:id<(rf.length:Int)
  ·rw[decide_eq_true h1,decide_eq_true h2]at hr'
   simp only[cond_true]at hr'
   obtain⟨i,rfl⟩:=Int.eq_ofNat_of_zero_le h1
   have hi:i<List.length (α:=Int) rf:=Int.ofNat_lt.1 h2
   simp only[Int.toNat_natCast]at hr'
   obtain⟨g,b,n',c,cells,rfl,hin,rfl,hgc,hcu,hput⟩:=yig hr (hH _ []) hi
   have hgg:g0≠g:=by rintro rfl;exact hg0 (by simp)
   have hl:=(Array.getElem?_eq_some_iff.1 hcu).1
   have ec:w.cell? ⟨g,b+i,none⟩=some (.int .i64 (rf.getD i 0)):=by rw[hgc.cell];exact hcu
   have ef:=hgc.unfrozen hl
   have hKg:=znt (v:=.int .i64 (wrap64 (rf.getD i 0 - 1))) (i:=b+i) hgc
   have hog:=hput (IntKind.i64.wrap (rf.getD i 0 - 1)) _ (zid (v:=.int .i64 (IntKind.i64.wrap (rf.getD i 0 - 1))) hgc)
   have hgt':g∉Ft:=fun h=>(List.nodup_append.1 hnd0).2.2 g h g (by simp) rfl
   by_cases hz:IntKind.i64.wrap (rf.getD i 0 - 1)=0
   ·rw[decide_eq_true hz]at hr'
    simp only[cond_true]at hr'
    by_cases h3:((i:Nat):Int)<(tx.length:Int)
    ·rw[decide_eq_true h3]at hr'
     simp only[cond_true,Option.some.injEq]at hr'
     have hi3:i<List.length (α:=ByteArray) tx:=Int.ofNat_lt.1 h3
     obtain⟨gt,bt,nt,ct,cellst,rfl,hint,rfl,hgct,hcut,hputt⟩:=yif ht (hH _ []) hi3
     have hgtg:gt≠g:=fun e=>hgt' (by rw[e];simp)
     have hlt':=(Array.getElem?_eq_some_iff.1 hcut).1
     have ect:w.cell? ⟨gt,bt+i,none⟩=some (.string (tx.getD i ByteArray.empty)):=by rw[hgct.cell];exact hcut
     have eft:=hgct.unfrozen hlt'
     have hgct1:HC (w.setCell ⟨g,b+i,none⟩ (.int .i64 (wrap64 (rf.getD i 0 - 1)))) gt cellst 9:=hgct.frame (hKg.block gt (by have:=hlt gt (by simp);exact this) hgtg)
     have hKt:=znt (v:=.string (ByteArray.mk #[])) (i:=bt+i) hgct1
     have hgc1:=zid (v:=.int .i64 (IntKind.i64.wrap (rf.getD i 0 - 1))) (i:=b+i) hgc
     rw[← zho]at hgc1
     have hgc2:HC ((w.setCell ⟨g,b+i,none⟩ (.int .i64 (wrap64 (rf.getD i 0 - 1)))).setCell ⟨gt,bt+i,none⟩ (.string (ByteArray.mk #[]))) g (cells.setIfInBounds (b+i) (.int .i64 (wrap64 (rf.getD i 0 - 1)))) 3 :=
      hgc1.frame (hKt.block g (Nat.lt_of_lt_of_le (hlt g (by simp)) hKg.size) (fun e=>hgtg e.symm))
     have hor:=hput (wrap64 (rf.getD i 0 - 1)) _ hgc2
     have hot:=hputt (ByteArray.mk #[]) _ (zid (v:=.string (ByteArray.mk #[])) (i:=bt+i) hgct1)
     refine(ynm g0 b0 g b n' c gt bt nt ct i _ _ w hp hq hin hint hgg hgtg ec ef ect eft (by rw[zho];simpa using hz)).mono ?_
     rintro e w' ⟨rfl,rfl⟩
     subst hr'
     refine⟨[],[],[[gt]++[g],[]],rfl,trivial,⟨⟨H,hH,_,rfl,?_⟩,rfl,trivial⟩,by simpa using hnd0,fun k hk=>?_,?_⟩
     ·refine⟨[_],[_],[gt],[g],hcs,rfl,⟨_,rfl,hot⟩,⟨_,rfl,?_⟩⟩
      rw[← zho]
      exact hor
     ·have hk:k=gt∨k=g:=by simpa using hk
      have hk':k<w.heap.size:=by rcases hk with rfl|rfl <;> exact hlt _ (by simp)
      exact⟨.inl (by rcases hk with rfl|rfl <;> simp),Nat.lt_of_lt_of_le hk' (Nat.le_trans hKg.size hKt.size)⟩
     ·refine⟨hKt.os.trans hKg.os,hKt.tape.trans hKg.tape,hKt.output.trans hKg.output,Nat.le_trans hKg.size hKt.size,fun k hk1 hk2=>?_⟩
      have hkg:k≠g:=fun e=>hk2 (by subst e;simp)
      have hkt:k≠gt:=fun e=>hk2 (by subst e;simp)
      exact(hKt.block k (Nat.lt_of_lt_of_le hk1 hKg.size) hkt).trans (hKg.block k hk1 hkg)
    ·rw[decide_eq_false h3]at hr';cases hr'
   ·rw[decide_eq_false hz]at hr'
    simp only[cond_false,Option.some.injEq]at hr'
    refine(yiu g0 b0 g b n' c i _ w hp hin hgg ec ef (by rw[zho];simpa using hz)).mono ?_
    rintro e w' ⟨rfl,rfl⟩
    subst hr'
    refine⟨[],[],[Ft++[g],[]],rfl,trivial,⟨⟨H,hH,_,rfl,?_⟩,rfl,trivial⟩,by simpa using hnd0,fun k hk=>?_,?_⟩
    ·refine⟨[_],[_],Ft,[g],hcs,rfl,⟨_,rfl,?_⟩,⟨_,rfl,?_⟩⟩
     ·exact ht.frame (fun k hk=>hKg.block k (hlt k (by simp[hk])) (fun e=>hgt' (e ▸ hk)))
     ·rw[← zho]at hog
      rw[← zho]
      exact hog
    ·have hk:k∈Ft∨k=g:=by simpa using hk
     have hk':k<w.heap.size:=by rcases hk with hk|rfl;exact hlt _ (by simp[hk]);exact hlt _ (by simp)
     exact⟨.inl (by rcases hk with hk|rfl <;> simp[*]),Nat.lt_of_lt_of_le hk' hKg.size⟩
    ·refine⟨hKg.os,hKg.tape,hKg.output,hKg.size,fun k hk1 hk2=>hKg.block k hk1 (fun e=>hk2 (by subst e;simp))⟩
  ·rw[decide_eq_true h1,decide_eq_false h2]at hr';cases hr'
 ·rw[decide_eq_false h1]at hr';cases hr'
theorem zx3:zek Try.prog 4000116 zei:=zsw
theorem yae:Gk 4000116 zei:=⟨⟨Try.f116,yeu,Try.func116,by kernel_rfl,by decide +kernel⟩,zx3⟩
end Go.Proofs.Ytdkaagpkeomhmaa.Rx.S
namespace Go.Proofs.Ytdkaagpkeomhmaa.Rx.S
open Go Go.RowKit Go.Proofs
set_option maxRecDepth 100000
noncomputable def c35:Code:=(Try.f35.body.getD .skip)
def an35:An:=⟨fun r=>match r with|5=>⟨[1,4,6,26,27],[]⟩|_=>⟨[],[]⟩,fun _ _=>none⟩
abbrev ps35:List PK:=[.val tMem true,.val i64 false]
abbrev rs35:List RK:=[.own tMem true,.val .bool false]
abbrev R35:=zam rs35×zak ps35
noncomputable def G35:Gam:=fun f=>match f with|17=>some Sm17|49=>some Sm49|50=>some Sm50|4000116=>some zei|_=>none
noncomputable def ypb:Code:=(Try.f52.body.getD .skip)
noncomputable def il35:Inl:=fun f=>match f with|52=>some (31,ypb)|_=>none
theorem ynk:yab Try.prog il35:=by
 intro f nt c h
 unfold il35 at h
 split at h
 ·injection h with h;injection h with h1 h2;subst h1;subst h2;exact⟨Try.f52,Try.func52,by kernel_rfl,by decide +kernel,by kernel_rfl,by decide +kernel⟩
 ·cases h
noncomputable def at35:Nat→Pt→List Nat→St→Option R35:=atI TT G35 il35 an35 Try.f35 c35 _ _
def zkl(x0 x1 x2 x3 x4:Int)(x5:Lb)(x6:Li)(x7:Lb)(x8:Li)(x9:List (Br)):St:=(St.mk ([Uu,Ai x0,Uu,Uu,AV.one (SV.bptr 1000000 0),Uu,AV.one (SV.bptr 1000001 0),Uu,Uu,Uu,Uu,Uu,Uu,Uu,Uu,Uu,Uu,Uu,Uu,Uu,Uu,Uu,Uu,Uu,Uu,Uu,Ai x1,Ai x2]++Ur 18) [(1000000,(Ent.box [SV.nil,SV.nil,SV.nil,SV.nil,SV.nil,Si x3])),(1000001,(Ent.box [Sr 1000002,Sr 1000003,Sr 1000004,Sr 1000005,Sr 1000006,Si x4])),(1000002,Er ⟨9,Ty.str,x5⟩),(1000003,Er ⟨3,Ty.int .i64,x6⟩),(1000004,Er ⟨9,Ty.str,x7⟩),(1000005,Er ⟨3,Ty.int .i64,x8⟩),(1000006,Er ⟨71,ySp,x9⟩)])
noncomputable def zjh(n:Nat)(lL5:Int→Int→Int→Int→Int→Lb→Li→Lb→Li→(List (Br))→Option R35)(a:Mm)(b:Int):Option R35 :=
 (q17 n (((a.1.1,a.1.2),(a.2.1.1,a.2.1.2),a.2.2.1,a.2.2.2),())).bind fun r0=>cond (!r0.1.1) (some (((([],[]),(([],[]),([],(0:Int)))),(false,())),())) ((q49 n (((a.1.1,a.1.2),(a.2.1.1,a.2.1.2),a.2.2.1,a.2.2.2),b,())).bind fun r1=>cond (!r1.1.1) (some (((([],[]),(([],[]),([],(0:Int)))),(false,())),())) ((q50 n (((a.1.1,a.1.2),(a.2.1.1,a.2.1.2),a.2.2.1,a.2.2.2),())).bind fun r2=>cond (decide ((0:Int)≤b)) (cond (decide (b<(↑(List.length r2.1.1.2.2.1):Int))) (lL5 b ((↑(List.length (List.getD r2.1.1.2.2.1 b.toNat (false,[],[])).2.2):Int)) (0:Int) (0:Int) r2.1.1.2.2.2 r2.1.1.1.1 r2.1.1.1.2 r2.1.1.2.1.1 r2.1.1.2.1.2 r2.1.1.2.2.1) none) none))
noncomputable def zhz(n:Nat)(lL5:Int→Int→Int→Int→Int→Lb→Li→Lb→Li→(List (Br))→Option R35)(x0 x1 x2 x3 x4:Int)(x5:Lb)(x6:Li)(x7:Lb)(x8:Li)(x9:List (Br)):Option R35 :=
 cond (decide (x2<x1)) (cond (decide (0≤x0)) (cond (decide (x0<(↑x9.length:Int))) (cond (decide (0≤x2)) (cond (decide (x2<(↑(List.length (x9.getD x0.toNat (false,[],[])).2.2):Int))) (cond (decide ((List.getD (x9.getD x0.toNat (false,[],[])).2.2 x2.toNat ((0:Int),(0:Int),false,false)).1=(1:Int))) ((zjo n ((x5,x6),(List.getD (x9.getD x0.toNat (false,[],[])).2.2 x2.toNat ((0:Int),(0:Int),false,false)).2.1,())).bind fun r4=>lL5 x0 x1 (IntKind.i64.wrap (x2+1)) x3 x4 r4.2.1.1 r4.2.1.2 x7 x8 (x9.set x0.toNat ((x9.getD x0.toNat (false,[],[])).1,(x9.getD x0.toNat (false,[],[])).2.1,List.set (x9.getD x0.toNat (false,[],[])).2.2 x2.toNat ((0:Int),(0:Int),false,false)))) (cond (decide ((List.getD (x9.getD x0.toNat (false,[],[])).2.2 x2.toNat ((0:Int),(0:Int),false,false)).1=(2:Int))) ((zjo n ((x7,x8),(List.getD (x9.getD x0.toNat (false,[],[])).2.2 x2.toNat ((0:Int),(0:Int),false,false)).2.1,())).bind fun r5=>lL5 x0 x1 (IntKind.i64.wrap (x2+1)) x3 x4 x5 x6 r5.2.1.1 r5.2.1.2 (x9.set x0.toNat ((x9.getD x0.toNat (false,[],[])).1,(x9.getD x0.toNat (false,[],[])).2.1,List.set (x9.getD x0.toNat (false,[],[])).2.2 x2.toNat ((0:Int),(0:Int),false,false)))) (lL5 x0 x1 (IntKind.i64.wrap (x2+1)) x3 x4 x5 x6 x7 x8 (x9.set x0.toNat ((x9.getD x0.toNat (false,[],[])).1,(x9.getD x0.toNat (false,[],[])).2.1,List.set (x9.getD x0.toNat (false,[],[])).2.2 x2.toNat ((0:Int),(0:Int),false,false)))))) none) none) none) none) (cond (decide (0≤x0)) (cond (decide (x0<(↑x9.length:Int))) (some ((((x5,x6),((x7,x8),(x9.set x0.toNat (false,[],[]),x4))),(true,())),())) none) none)
theorem yjn(n:Nat)(a:Mm)(b:Int):runI TT G35 il35 an35 Try.f35 c35 ps35 rs35 n (a,b,())=zjh n (fun x0 x1 x2 x3 x4 x5 x6 x7 x8 x9=>at35 n (.head 5) [n] (zkl x0 x1 x2 x3 x4 x5 x6 x7 x8 x9)) a b:=by kernel_rfl
theorem ydl(n:Nat)(x0 x1 x2 x3 x4:Int)(x5:Lb)(x6:Li)(x7:Lb)(x8:Li)(x9:List (Br)):at35 n (.head 5) [0] (zkl x0 x1 x2 x3 x4 x5 x6 x7 x8 x9)=none:=by kernel_rfl
theorem yo7(n:Nat)(m5:Nat)(x0 x1 x2 x3 x4:Int)(x5:Lb)(x6:Li)(x7:Lb)(x8:Li)(x9:List (Br)):at35 n (.head 5) [m5+1] (zkl x0 x1 x2 x3 x4 x5 x6 x7 x8 x9)=zhz n (fun x0 x1 x2 x3 x4 x5 x6 x7 x8 x9=>at35 n (.head 5) [m5] (zkl x0 x1 x2 x3 x4 x5 x6 x7 x8 x9)) x0 x1 x2 x3 x4 x5 x6 x7 x8 x9:=by kernel_rfl
noncomputable def zqq(n:Nat):Nat→Int→Int→Int→Int→Int→Lb→Li→Lb→Li→(List (Br))→Option R35
 |0,_,_,_,_,_,_,_,_,_,_=>none
 |m+1,x0,x1,x2,x3,x4,x5,x6,x7,x8,x9=>zhz n (zqq n m) x0 x1 x2 x3 x4 x5 x6 x7 x8 x9
noncomputable def p35(n:Nat)(a:Mm)(b:Int):Option R35:=zjh n (zqq n n) a b
theorem ymm(n:Nat):∀ (m5:Nat) (x0 x1 x2 x3 x4:Int) (x5:Lb) (x6:Li) (x7:Lb) (x8:Li) (x9:List (Br)),at35 n (.head 5) [m5] (zkl x0 x1 x2 x3 x4 x5 x6 x7 x8 x9)=zqq n m5 x0 x1 x2 x3 x4 x5 x6 x7 x8 x9:=by
 intro m
 induction m with
 |zero=>intros;rw[ydl];rfl
 |succ m ih =>
  intros
  rw[yo7]
  try simp only[ih]
  rfl
noncomputable def q35(n:Nat)(x:zap ps35):Option R35:=p35 n x.1 x.2.1
noncomputable def Sm35:Sm:=⟨ps35,rs35,false,q35⟩
theorem gam35:GamOK Try.prog G35:=by intro f s h;unfold G35 at h;split at h;exact gj h y17;exact gj h y49;exact gj h y50;exact gj h yae;cases h
theorem hh35:Hp 35 Sm35:=hOf (zx2 (an:=an35) (c:=c35) zax gam35 ynk zaw Try.func35 (by kernel_rfl) rfl (by decide +kernel)) fun n x=>(yjn n x.1 x.2.1).trans (by simp only[ymm];try rfl)
theorem y35:Gk 35 Sm35:=⟨⟨Try.f35,c35,Try.func35,by kernel_rfl,by decide +kernel⟩,hh35⟩
noncomputable def c34:Code:=(Try.f34.body.getD .skip)
def an34:An:=⟨fun _=>⟨[],[]⟩,fun _ _=>none⟩
abbrev ps34:List PK:=[.val (.row 5 (.int .u8)) false]
abbrev rs34:List RK:=[.own tMem true]
abbrev R34:=zam rs34×zak ps34
noncomputable def G34:Gam:=fun f=>match f with|45=>some Sm45|46=>some Sm46|_=>none
noncomputable def zji(n:Nat)(a:Li):Option R34 :=
 (q45 n (a,())).bind fun r0=>(q46 n ((r0.1.1.1,r0.1.1.2),())).bind fun r1=>some ((((r1.1.1.1.1,r1.1.1.1.2),((r1.1.1.2.1.1,r1.1.1.2.1.2),(r1.1.1.2.2.1,r1.1.1.2.2.2))),()),())
theorem yjo(n:Nat)(a:Li):runF TT G34 an34 Try.f34 c34 ps34 rs34 n (a,())=zji n a:=by kernel_rfl
noncomputable def p34(n:Nat)(a:Li):Option R34:=zji n a
noncomputable def q34(n:Nat)(x:zap ps34):Option R34:=p34 n x.1
noncomputable def Sm34:Sm:=⟨ps34,rs34,true,q34⟩
theorem gam34:GamOK Try.prog G34:=by intro f s h;unfold G34 at h;split at h;exact gj h y45;exact gj h y46;cases h
theorem hh34:Hp 34 Sm34:=hOf (zaf (an:=an34) (c:=c34) zax gam34 zaw Try.func34 (by kernel_rfl) rfl (by decide +kernel)) fun n x=>(yjo n x.1).trans rfl
theorem y34:Gk 34 Sm34:=⟨⟨Try.f34,c34,Try.func34,by kernel_rfl,by decide +kernel⟩,hh34⟩
noncomputable def c57:Code:=(Try.f57.body.getD .skip)
def an57:An:=⟨fun _=>⟨[],[]⟩,fun _ _=>none⟩
abbrev ps57:List PK:=[.val tPg true,.val tPg true]
abbrev rs57:List RK:=[.val .bool false]
abbrev R57:=zam rs57×zak ps57
noncomputable def G57:Gam:=fun f=>match f with|39=>some Sm39|105=>some yl3|_=>none
noncomputable def zi7(n:Nat)(a:Lb×Li)(b:Lb×Li):Option R57 :=
 (q39 n (a.1,b.1,())).bind fun r0=>cond r0.1.1 ((q105 n (a.2,b.2,())).bind fun r1=>some ((r1.1.1,()),())) (some ((false,()),()))
theorem yi_(n:Nat)(a:Lb×Li)(b:Lb×Li):runF TT G57 an57 Try.f57 c57 ps57 rs57 n (a,b,())=zi7 n a b:=by kernel_rfl
noncomputable def p57(n:Nat)(a:Lb×Li)(b:Lb×Li):Option R57:=zi7 n a b
noncomputable def q57(n:Nat)(x:zap ps57):Option R57:=p57 n x.1 x.2.1
noncomputable def Sm57:Sm:=⟨ps57,rs57,false,q57⟩
theorem gam57:GamOK Try.prog G57:=by intro f s h;unfold G57 at h;split at h;exact gj h y39;exact gj h y105;cases h
theorem hh57:Hp 57 Sm57:=hOf (zaf (an:=an57) (c:=c57) zax gam57 zaw Try.func57 (by kernel_rfl) rfl (by decide +kernel)) fun n x=>(yi_ n x.1 x.2.1).trans rfl
theorem y57:Gk 57 Sm57:=⟨⟨Try.f57,c57,Try.func57,by kernel_rfl,by decide +kernel⟩,hh57⟩
noncomputable def c58:Code:=(Try.f58.body.getD .skip)
def an58:An:=⟨fun r=>match r with|4=>⟨[2,3,5],[]⟩|_=>⟨[],[]⟩,fun _ _=>none⟩
abbrev ps58:List PK:=[.val (tSp 116 80) true,.val (tSp 116 80) true]
abbrev rs58:List RK:=[.val .bool false]
abbrev R58:=zam rs58×zak ps58
noncomputable def G58:Gam:=fun f=>match f with|40=>some Sm40|_=>none
noncomputable def at58:Nat→Pt→List Nat→St→Option R58:=atF TT G58 an58 Try.f58 c58 _ _
def zkd(x0:Int)(x1:Bool)(x2 x3:Lq)(x4:Bool)(x5 x6:Lq):St:=(St.mk ([Uu,Uu,AV.one (SV.bptr 1000000 0),AV.one (SV.bptr 1000001 0),Uu,Ai x0]++Ur 40) [(1000000,(Ent.box [SV.bool x1,SV.con (⟨116,yAq,x2⟩:Rw),SV.con (⟨80,yAq,x3⟩:Rw)])),(1000001,(Ent.box [SV.bool x4,SV.con (⟨116,yAq,x5⟩:Rw),SV.con (⟨80,yAq,x6⟩:Rw)]))])
noncomputable def zi6(n:Nat)(lL4:Int→Bool→Lq→Lq→Bool→Lq→Lq→Option R58)(a:Br)(b:Br):Option R58 :=
 cond (!a.1 == b.1) (some ((false,()),())) ((q40 n (a.2.1,b.2.1,())).bind fun r0=>cond (!r0.1.1) (some ((false,()),())) (cond (!decide ((↑(List.length a.2.2):Int)=(↑(List.length b.2.2):Int))) (some ((false,()),())) (lL4 (0:Int) a.1 a.2.1 a.2.2 b.1 b.2.1 b.2.2)))
noncomputable def zhr(n:Nat)(lL4:Int→Bool→Lq→Lq→Bool→Lq→Lq→Option R58)(x0:Int)(x1:Bool)(x2 x3:Lq)(x4:Bool)(x5 x6:Lq):Option R58 :=
 cond (decide (x0<(↑x3.length:Int))) (cond (decide (0≤x0)) (cond (decide (x0<(↑x3.length:Int))) (cond (decide (0≤x0)) (cond (decide (x0<(↑x6.length:Int))) (cond (!(decide ((x3.getD x0.toNat ((0:Int),(0:Int),false,false)).1=(x6.getD x0.toNat ((0:Int),(0:Int),false,false)).1)&&(decide ((x3.getD x0.toNat ((0:Int),(0:Int),false,false)).2.1=(x6.getD x0.toNat ((0:Int),(0:Int),false,false)).2.1)&&((x3.getD x0.toNat ((0:Int),(0:Int),false,false)).2.2.1 == (x6.getD x0.toNat ((0:Int),(0:Int),false,false)).2.2.1&&((x3.getD x0.toNat ((0:Int),(0:Int),false,false)).2.2.2 == (x6.getD x0.toNat ((0:Int),(0:Int),false,false)).2.2.2&&true))))) (some ((false,()),())) (lL4 (IntKind.i64.wrap (x0+1)) x1 x2 x3 x4 x5 x6)) none) none) none) none) (some ((true,()),()))
theorem yi9(n:Nat)(a:Br)(b:Br):runF TT G58 an58 Try.f58 c58 ps58 rs58 n (a,b,())=zi6 n (fun x0 x1 x2 x3 x4 x5 x6=>at58 n (.head 4) [n] (zkd x0 x1 x2 x3 x4 x5 x6)) a b:=by kernel_rfl
theorem ydb(n:Nat)(x0:Int)(x1:Bool)(x2 x3:Lq)(x4:Bool)(x5 x6:Lq):at58 n (.head 4) [0] (zkd x0 x1 x2 x3 x4 x5 x6)=none:=by kernel_rfl
theorem yox(n:Nat)(m4:Nat)(x0:Int)(x1:Bool)(x2 x3:Lq)(x4:Bool)(x5 x6:Lq):at58 n (.head 4) [m4+1] (zkd x0 x1 x2 x3 x4 x5 x6)=zhr n (fun x0 x1 x2 x3 x4 x5 x6=>at58 n (.head 4) [m4] (zkd x0 x1 x2 x3 x4 x5 x6)) x0 x1 x2 x3 x4 x5 x6:=by kernel_rfl
noncomputable def zqi(n:Nat):Nat→Int→Bool→Lq→Lq→Bool→Lq→Lq→Option R58
 |0,_,_,_,_,_,_,_=>none
 |m+1,x0,x1,x2,x3,x4,x5,x6=>zhr n (zqi n m) x0 x1 x2 x3 x4 x5 x6
noncomputable def p58(n:Nat)(a:Br)(b:Br):Option R58:=zi6 n (zqi n n) a b
theorem ymd(n:Nat):∀ (m4:Nat) (x0:Int) (x1:Bool) (x2 x3:Lq) (x4:Bool) (x5 x6:Lq),at58 n (.head 4) [m4] (zkd x0 x1 x2 x3 x4 x5 x6)=zqi n m4 x0 x1 x2 x3 x4 x5 x6:=by
 intro m
 induction m with
 |zero=>intros;rw[ydb];rfl
 |succ m ih =>
  intros
  rw[yox]
  try simp only[ih]
  rfl
noncomputable def q58(n:Nat)(x:zap ps58):Option R58:=p58 n x.1 x.2.1
noncomputable def Sm58:Sm:=⟨ps58,rs58,false,q58⟩
theorem gam58:GamOK Try.prog G58:=by intro f s h;unfold G58 at h;split at h;exact gj h y40;cases h
theorem hh58:Hp 58 Sm58:=hOf (zaf (an:=an58) (c:=c58) zax gam58 zaw Try.func58 (by kernel_rfl) rfl (by decide +kernel)) fun n x=>(yi9 n x.1 x.2.1).trans (by simp only[ymd];try rfl)
theorem y58:Gk 58 Sm58:=⟨⟨Try.f58,c58,Try.func58,by kernel_rfl,by decide +kernel⟩,hh58⟩
noncomputable def c15:Code:=(Try.f15.body.getD .skip)
def an15:An:=⟨fun r=>match r with|4=>⟨[2,3,5],[]⟩|_=>⟨[],[]⟩,fun _ _=>none⟩
abbrev ps15:List PK:=[.val tMem true,.val tMem true]
abbrev rs15:List RK:=[.val .bool false]
abbrev R15:=zam rs15×zak ps15
noncomputable def G15:Gam:=fun f=>match f with|57=>some Sm57|58=>some Sm58|_=>none
noncomputable def at15:Nat→Pt→List Nat→St→Option R15:=atF TT G15 an15 Try.f15 c15 _ _
def zkm(x0:Int)(x1:Lb)(x2:Li)(x3:Lb)(x4:Li)(x5:List (Br))(x6:Int)(x7:Lb)(x8:Li)(x9:Lb)(x10:Li)(x11:List (Br))(x12:Int):St:=(St.mk ([Uu,Uu,AV.one (SV.bptr 1000000 0),AV.one (SV.bptr 1000001 0),Uu,Ai x0]++Ur 49) [(1000000,(Ent.box [SV.con (⟨9,Ty.str,x1⟩:Rw),SV.con (⟨3,Ty.int .i64,x2⟩:Rw),SV.con (⟨9,Ty.str,x3⟩:Rw),SV.con (⟨3,Ty.int .i64,x4⟩:Rw),SV.con (⟨71,ySp,x5⟩:Rw),Si x6])),(1000001,(Ent.box [SV.con (⟨9,Ty.str,x7⟩:Rw),SV.con (⟨3,Ty.int .i64,x8⟩:Rw),SV.con (⟨9,Ty.str,x9⟩:Rw),SV.con (⟨3,Ty.int .i64,x10⟩:Rw),SV.con (⟨71,ySp,x11⟩:Rw),Si x12]))])
noncomputable def zjm(n:Nat)(lL4:Int→Lb→Li→Lb→Li→(List (Br))→Int→Lb→Li→Lb→Li→(List (Br))→Int→Option R15)(a:Mm)(b:Mm):Option R15 :=
 (q57 n ((a.1.1,a.1.2),(b.1.1,b.1.2),())).bind fun r0=>cond (!r0.1.1) (some ((false,()),())) ((q57 n ((a.2.1.1,a.2.1.2),(b.2.1.1,b.2.1.2),())).bind fun r1=>cond (!r1.1.1) (some ((false,()),())) (cond (!decide (a.2.2.2=b.2.2.2)) (some ((false,()),())) (cond (!decide ((↑(List.length a.2.2.1):Int)=(↑(List.length b.2.2.1):Int))) (some ((false,()),())) (lL4 (0:Int) a.1.1 a.1.2 a.2.1.1 a.2.1.2 a.2.2.1 a.2.2.2 b.1.1 b.1.2 b.2.1.1 b.2.1.2 b.2.2.1 b.2.2.2))))
noncomputable def zh1(n:Nat)(lL4:Int→Lb→Li→Lb→Li→(List (Br))→Int→Lb→Li→Lb→Li→(List (Br))→Int→Option R15)(x0:Int)(x1:Lb)(x2:Li)(x3:Lb)(x4:Li)(x5:List (Br))(x6:Int)(x7:Lb)(x8:Li)(x9:Lb)(x10:Li)(x11:List (Br))(x12:Int):Option R15 :=
 cond (decide (x0<(↑x5.length:Int))) (cond (decide (0≤x0)) (cond (decide (x0<(↑x5.length:Int))) (cond (decide (0≤x0)) (cond (decide (x0<(↑x11.length:Int))) ((q58 n (((x5.getD x0.toNat (false,[],[])).1,(x5.getD x0.toNat (false,[],[])).2.1,(x5.getD x0.toNat (false,[],[])).2.2),((x11.getD x0.toNat (false,[],[])).1,(x11.getD x0.toNat (false,[],[])).2.1,(x11.getD x0.toNat (false,[],[])).2.2),())).bind fun r3=>cond (!r3.1.1) (some ((false,()),())) (lL4 (IntKind.i64.wrap (x0+1)) x1 x2 x3 x4 x5 x6 x7 x8 x9 x10 x11 x12)) none) none) none) none) (some ((true,()),()))
theorem yj5(n:Nat)(a:Mm)(b:Mm):runF TT G15 an15 Try.f15 c15 ps15 rs15 n (a,b,())=zjm n (fun x0 x1 x2 x3 x4 x5 x6 x7 x8 x9 x10 x11 x12=>at15 n (.head 4) [n] (zkm x0 x1 x2 x3 x4 x5 x6 x7 x8 x9 x10 x11 x12)) a b:=by kernel_rfl
theorem ydw(n:Nat)(x0:Int)(x1:Lb)(x2:Li)(x3:Lb)(x4:Li)(x5:List (Br))(x6:Int)(x7:Lb)(x8:Li)(x9:Lb)(x10:Li)(x11:List (Br))(x12:Int):at15 n (.head 4) [0] (zkm x0 x1 x2 x3 x4 x5 x6 x7 x8 x9 x10 x11 x12)=none:=by kernel_rfl
theorem yo9(n:Nat)(m4:Nat)(x0:Int)(x1:Lb)(x2:Li)(x3:Lb)(x4:Li)(x5:List (Br))(x6:Int)(x7:Lb)(x8:Li)(x9:Lb)(x10:Li)(x11:List (Br))(x12:Int):at15 n (.head 4) [m4+1] (zkm x0 x1 x2 x3 x4 x5 x6 x7 x8 x9 x10 x11 x12)=zh1 n (fun x0 x1 x2 x3 x4 x5 x6 x7 x8 x9 x10 x11 x12=>at15 n (.head 4) [m4] (zkm x0 x1 x2 x3 x4 x5 x6 x7 x8 x9 x10 x11 x12)) x0 x1 x2 x3 x4 x5 x6 x7 x8 x9 x10 x11 x12:=by kernel_rfl
noncomputable def zqr(n:Nat):Nat→Int→Lb→Li→Lb→Li→(List (Br))→Int→Lb→Li→Lb→Li→(List (Br))→Int→Option R15
 |0,_,_,_,_,_,_,_,_,_,_,_,_,_=>none
 |m+1,x0,x1,x2,x3,x4,x5,x6,x7,x8,x9,x10,x11,x12=>zh1 n (zqr n m) x0 x1 x2 x3 x4 x5 x6 x7 x8 x9 x10 x11 x12
noncomputable def p15(n:Nat)(a:Mm)(b:Mm):Option R15:=zjm n (zqr n n) a b
theorem ymo(n:Nat):∀ (m4:Nat) (x0:Int) (x1:Lb) (x2:Li) (x3:Lb) (x4:Li) (x5:List (Br)) (x6:Int) (x7:Lb) (x8:Li) (x9:Lb) (x10:Li) (x11:List (Br)) (x12:Int),at15 n (.head 4) [m4] (zkm x0 x1 x2 x3 x4 x5 x6 x7 x8 x9 x10 x11 x12)=zqr n m4 x0 x1 x2 x3 x4 x5 x6 x7 x8 x9 x10 x11 x12:=by
 intro m
 induction m with
 |zero=>intros;rw[ydw];rfl
 |succ m ih =>
  intros
  rw[yo9]
  try simp only[ih]
  rfl
noncomputable def q15(n:Nat)(x:zap ps15):Option R15:=p15 n x.1 x.2.1
noncomputable def Sm15:Sm:=⟨ps15,rs15,false,q15⟩
theorem gam15:GamOK Try.prog G15:=by intro f s h;unfold G15 at h;split at h;exact gj h y57;exact gj h y58;cases h
theorem hh15:Hp 15 Sm15:=hOf (zaf (an:=an15) (c:=c15) zax gam15 zaw Try.func15 (by kernel_rfl) rfl (by decide +kernel)) fun n x=>(yj5 n x.1 x.2.1).trans (by simp only[ymo];try rfl)
theorem y15:Gk 15 Sm15:=⟨⟨Try.f15,c15,Try.func15,by kernel_rfl,by decide +kernel⟩,hh15⟩
noncomputable def c7:Code:=(Try.f7.body.getD .skip)
def an7:An:=⟨fun _=>⟨[],[]⟩,fun _ _=>none⟩
abbrev ps7:List PK:=[.val (.row 5 (.int .u8)) false]
abbrev rs7:List RK:=[.val .bool false]
abbrev R7:=zam rs7×zak ps7
noncomputable def G7:Gam:=fun f=>match f with|15=>some Sm15|17=>some Sm17|28=>some Sm28|30=>some Sm30|34=>some Sm34|35=>some Sm35|_=>none
noncomputable def zn6(n:Nat)(a:Li):Option R7 :=
 cond (decide ((1048576:Int)<(↑a.length:Int))) (some ((true,()),())) ((q34 n (a,())).bind fun r0=>(q30 n (((r0.1.1.1.1,r0.1.1.1.2),(r0.1.1.2.1.1,r0.1.1.2.1.2),r0.1.1.2.2.1,r0.1.1.2.2.2),())).bind fun r1=>(q28 n (((r0.1.1.1.1,r0.1.1.1.2),(r0.1.1.2.1.1,r0.1.1.2.1.2),r0.1.1.2.2.1,r0.1.1.2.2.2),())).bind fun r2=>(q15 n (((r1.1.1.1.1,r1.1.1.1.2),(r1.1.1.2.1.1,r1.1.1.2.1.2),r1.1.1.2.2.1,r1.1.1.2.2.2),((r2.1.1.1.1,r2.1.1.1.2),(r2.1.1.2.1.1,r2.1.1.2.1.2),r2.1.1.2.2.1,r2.1.1.2.2.2),())).bind fun r3=>cond r3.1.1 (cond (decide (r1.1.2.1=r2.1.2.1)) (cond (!r1.1.2.2.1 == r2.1.2.2.1) (some ((r1.1.2.2.1 == r2.1.2.2.1,()),())) (cond (!r1.1.2.2.1) (some ((r1.1.2.2.1 == r2.1.2.2.1,()),())) ((q35 n (((r1.1.1.1.1,r1.1.1.1.2),(r1.1.1.2.1.1,r1.1.1.2.1.2),r1.1.1.2.2.1,r1.1.1.2.2.2),r1.1.2.1,())).bind fun r4=>(q17 n (((r1.1.1.1.1,r1.1.1.1.2),(r1.1.1.2.1.1,r1.1.1.2.1.2),r1.1.1.2.2.1,r1.1.1.2.2.2),())).bind fun r5=>cond r5.1.1 (cond r4.1.2.1 ((q15 n (((r4.1.1.1.1,r4.1.1.1.2),(r4.1.1.2.1.1,r4.1.1.2.1.2),r4.1.1.2.2.1,r4.1.1.2.2.2),((r0.1.1.1.1,r0.1.1.1.2),(r0.1.1.2.1.1,r0.1.1.2.1.2),r0.1.1.2.2.1,r0.1.1.2.2.2),())).bind fun r6=>cond r6.1.1 (cond (decide ((0:Int)≤r1.1.2.1)) (cond (decide (r1.1.2.1<(↑(List.length r1.1.1.2.2.1):Int))) (some ((decide ((↑(List.length (List.getD r1.1.1.2.2.1 (Int.toNat r1.1.2.1) (false,[],[])).2.1):Int)=(0:Int)),()),())) none) none) (some ((false,()),()))) (some ((false,()),()))) (some ((false,()),()))))) (some ((false,()),()))) (some ((false,()),())))
theorem yos(n:Nat)(a:Li):runF TT G7 an7 Try.f7 c7 ps7 rs7 n (a,())=zn6 n a:=by kernel_rfl
noncomputable def p7(n:Nat)(a:Li):Option R7:=zn6 n a
noncomputable def q7(n:Nat)(x:zap ps7):Option R7:=p7 n x.1
noncomputable def Sm7:Sm:=⟨ps7,rs7,false,q7⟩
theorem gam7:GamOK Try.prog G7:=by intro f s h;unfold G7 at h;split at h;exact gj h y15;exact gj h y17;exact gj h y28;exact gj h y30;exact gj h y34;exact gj h y35;cases h
theorem hh7:Hp 7 Sm7:=hOf (zaf (an:=an7) (c:=c7) zax gam7 zaw Try.func7 (by kernel_rfl) rfl (by decide +kernel)) fun n x=>(yos n x.1).trans rfl
end Go.Proofs.Ytdkaagpkeomhmaa.Rx.S
