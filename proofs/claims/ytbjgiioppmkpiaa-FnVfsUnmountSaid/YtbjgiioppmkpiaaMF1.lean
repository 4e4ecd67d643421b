/- What the functions of this seat compute, each as a plain function on lists and numbers, with the proof that a call answers so. No condition. -/
import Derived.WalkKit
import Derived.Deep.LoopGhost
import Derived.Lib.Walk
import Derived.Laws.Rows
import Derived.Laws.ResultCell
import Derived.Test.YtbjgiioppmkpiaaMF0
set_option linter.unusedVariables false
set_option linter.unusedSimpArgs false
namespace Go.Proofs.Ytbjgiioppmkpiaa.Rx.S
open Go Go.RowKit Go.Proofs
set_option maxRecDepth 100000
noncomputable def c63:Code:=(Try.f63.body.getD .skip)
def an63:An:=⟨fun r=>match r with|5=>⟨[1,3,4],[]⟩|10=>⟨[1,3,4,5],[]⟩|17=>⟨[1,3,6,7,8],[]⟩|_=>⟨[],[]⟩,fun _ _=>none⟩
abbrev ps63:List PK:=[.val tFs true]
abbrev rs63:List RK:=[.val .bool false]
abbrev R63:=zah rs63×zag ps63
noncomputable def G63:Gam:=fun f=>match f with|116=>some yl2|117=>some yl1|_=>none
noncomputable def at63:Nat→Pt→List Nat→St→Option R63:=atF TT G63 an63 Try.f63 c63 _ _
def zgb(x0 x1:Int)(x2:List NT)(x3:Li):St:=(St.mk ([Uu,AV.one (SV.bptr 1000000 0),Uu,AV.one (Sr 1000001),Ai x0,Ai x1]++Ur 132) [(1000000,(Ent.box [SV.con (⟨37,(Ty.int .i64).pair ((Ty.int .i64).pair ((Ty.int .i64).pair ((Ty.int .i64).pair ((Ty.int .i64).pair ((Ty.int .i64).pair (Ty.bool.pair (Ty.str.pair (Ty.row (nat_lit 100) (Ty.str.pair (Ty.int .i64)))))))))),x2⟩:Rw)])),(1000001,Er ⟨3,Ty.int .i64,x3⟩)])
def zga(x0:Bool)(x1:Int)(x2:List NT)(x3:Li)(x4:List Bool):St:=(St.mk ([Uu,AV.one (SV.bptr 1000000 0),Uu,AV.one (Sr 1000001),Uu,Uu,AV.one (Sr 1000002),AV.one (SV.bool x0),Ai x1]++Ur 129) [(1000000,(Ent.box [SV.con (⟨37,(Ty.int .i64).pair ((Ty.int .i64).pair ((Ty.int .i64).pair ((Ty.int .i64).pair ((Ty.int .i64).pair ((Ty.int .i64).pair (Ty.bool.pair (Ty.str.pair (Ty.row (nat_lit 100) (Ty.str.pair (Ty.int .i64)))))))))),x2⟩:Rw)])),(1000001,Er ⟨3,Ty.int .i64,x3⟩),(1000002,Er ⟨4,Ty.bool,x4⟩)])
def zhh(x0:Int)(x1:List NT)(x2:Li):St:=(St.mk ([Uu,AV.one (SV.bptr 1000000 0),Uu,AV.one (Sr 1000001),Ai x0]++Ur 133) [(1000000,(Ent.box [SV.con (⟨37,(Ty.int .i64).pair ((Ty.int .i64).pair ((Ty.int .i64).pair ((Ty.int .i64).pair ((Ty.int .i64).pair ((Ty.int .i64).pair (Ty.bool.pair (Ty.str.pair (Ty.row (nat_lit 100) (Ty.str.pair (Ty.int .i64)))))))))),x1⟩:Rw)])),(1000001,Er ⟨3,Ty.int .i64,x2⟩)])
noncomputable def zfg(n:Nat)(lL5:Int→(List NT)→Li→Option R63)(a:List NT):Option R63 :=
 cond (!decide ((↑a.length:Int)=(10:Int))) (some ((false,()),())) (lL5 (0:Int) a (List.replicate (Int.toNat (10:Int)) (0:Int)))
noncomputable def zej(n:Nat)(lL10:Int→Int→(List NT)→Li→Option R63)(lL5:Int→(List NT)→Li→Option R63)(x0 x1:Int)(x2:List NT)(x3:Li):Option R63 :=
 cond (decide (0≤x0)) (cond (decide (x0<(↑x2.length:Int))) (cond (decide (x1<(↑(List.length (x2.getD x0.toNat ZN).2.2.2.2.2.2.2.2):Int))) (cond (decide (0≤x0)) (cond (decide (x0<(↑x2.length:Int))) (cond (decide (0≤x1)) (cond (decide (x1<(↑(List.length (x2.getD x0.toNat ZN).2.2.2.2.2.2.2.2):Int))) (cond (decide (0≤x0)) (cond (decide (x0<(↑x2.length:Int))) (cond (decide (0≤x1)) (cond (decide (x1<(↑(List.length (x2.getD x0.toNat ZN).2.2.2.2.2.2.2.2):Int))) (cond (decide ((0:Int)≤(List.getD (x2.getD x0.toNat ZN).2.2.2.2.2.2.2.2 x1.toNat (ByteArray.empty,(0:Int))).2)) (cond (decide ((List.getD (x2.getD x0.toNat ZN).2.2.2.2.2.2.2.2 x1.toNat (ByteArray.empty,(0:Int))).2<(↑x3.length:Int))) (cond (decide ((0:Int)≤(List.getD (x2.getD x0.toNat ZN).2.2.2.2.2.2.2.2 x1.toNat (ByteArray.empty,(0:Int))).2)) (cond (decide ((List.getD (x2.getD x0.toNat ZN).2.2.2.2.2.2.2.2 x1.toNat (ByteArray.empty,(0:Int))).2<(↑x3.length:Int))) (lL10 x0 (IntKind.i64.wrap (x1+1)) x2 (x3.set (Int.toNat (List.getD (x2.getD x0.toNat ZN).2.2.2.2.2.2.2.2 x1.toNat (ByteArray.empty,(0:Int))).2) (IntKind.i64.wrap (x3.getD (Int.toNat (List.getD (x2.getD x0.toNat ZN).2.2.2.2.2.2.2.2 x1.toNat (ByteArray.empty,(0:Int))).2) (0:Int)+(1:Int))))) none) none) none) none) none) none) none) none) none) none) none) none) (lL5 (IntKind.i64.wrap (x0+1)) x2 x3)) none) none
noncomputable def zir(n:Nat)(lL17:Bool→Int→(List NT)→Li→(List Bool)→Option R63)(x0:Bool)(x1:Int)(x2:List NT)(x3:Li)(x4:List Bool):Option R63 :=
 cond (decide (x1<10)) (cond x0 (cond (decide (0≤x1)) (cond (decide (x1<(↑x2.length:Int))) (cond (decide (0≤x1)) (cond (decide (x1<(↑x3.length:Int))) (cond (decide ((0:Int)<x3.getD x1.toNat (0:Int))) (cond (decide ((x2.getD x1.toNat ZN).1=(0:Int))) (some ((false,()),())) (cond (!decide ((x2.getD x1.toNat ZN).1=(0:Int))) (cond (decide (0≤x1)) (cond (decide (x1<(↑x3.length:Int))) (cond (!decide ((x2.getD x1.toNat ZN).2.2.2.2.1=x3.getD x1.toNat (0:Int))) (some ((false,()),())) (cond (decide ((x2.getD x1.toNat ZN).1=(2:Int))) (cond (decide (0≤x1)) (cond (decide (x1<(↑x4.length:Int))) (cond (!x4.getD x1.toNat false) (some ((false,()),())) (cond (decide ((x2.getD x1.toNat ZN).1=(1:Int))) (cond (decide ((x2.getD x1.toNat ZN).2.2.2.2.1=(0:Int))) (cond (decide ((x2.getD x1.toNat ZN).2.2.2.2.2.1=(0:Int))) (some ((false,()),())) (lL17 x0 (IntKind.i64.wrap (x1+1)) x2 x3 x4)) (lL17 x0 (IntKind.i64.wrap (x1+1)) x2 x3 x4)) (lL17 x0 (IntKind.i64.wrap (x1+1)) x2 x3 x4))) none) none) (cond (decide ((x2.getD x1.toNat ZN).1=(1:Int))) (cond (decide ((x2.getD x1.toNat ZN).2.2.2.2.1=(0:Int))) (cond (decide ((x2.getD x1.toNat ZN).2.2.2.2.2.1=(0:Int))) (some ((false,()),())) (lL17 x0 (IntKind.i64.wrap (x1+1)) x2 x3 x4)) (lL17 x0 (IntKind.i64.wrap (x1+1)) x2 x3 x4)) (lL17 x0 (IntKind.i64.wrap (x1+1)) x2 x3 x4)))) none) none) (cond (decide ((x2.getD x1.toNat ZN).1=(2:Int))) (cond (decide (0≤x1)) (cond (decide (x1<(↑x4.length:Int))) (cond (!x4.getD x1.toNat false) (some ((false,()),())) (cond (decide ((x2.getD x1.toNat ZN).1=(1:Int))) (cond (decide ((x2.getD x1.toNat ZN).2.2.2.2.1=(0:Int))) (cond (decide ((x2.getD x1.toNat ZN).2.2.2.2.2.1=(0:Int))) (some ((false,()),())) (lL17 x0 (IntKind.i64.wrap (x1+1)) x2 x3 x4)) (lL17 x0 (IntKind.i64.wrap (x1+1)) x2 x3 x4)) (lL17 x0 (IntKind.i64.wrap (x1+1)) x2 x3 x4))) none) none) (cond (decide ((x2.getD x1.toNat ZN).1=(1:Int))) (cond (decide ((x2.getD x1.toNat ZN).2.2.2.2.1=(0:Int))) (cond (decide ((x2.getD x1.toNat ZN).2.2.2.2.2.1=(0:Int))) (some ((false,()),())) (lL17 x0 (IntKind.i64.wrap (x1+1)) x2 x3 x4)) (lL17 x0 (IntKind.i64.wrap (x1+1)) x2 x3 x4)) (lL17 x0 (IntKind.i64.wrap (x1+1)) x2 x3 x4))))) (cond (!decide ((x2.getD x1.toNat ZN).1=(0:Int))) (cond (decide (0≤x1)) (cond (decide (x1<(↑x3.length:Int))) (cond (!decide ((x2.getD x1.toNat ZN).2.2.2.2.1=x3.getD x1.toNat (0:Int))) (some ((false,()),())) (cond (decide ((x2.getD x1.toNat ZN).1=(2:Int))) (cond (decide (0≤x1)) (cond (decide (x1<(↑x4.length:Int))) (cond (!x4.getD x1.toNat false) (some ((false,()),())) (cond (decide ((x2.getD x1.toNat ZN).1=(1:Int))) (cond (decide ((x2.getD x1.toNat ZN).2.2.2.2.1=(0:Int))) (cond (decide ((x2.getD x1.toNat ZN).2.2.2.2.2.1=(0:Int))) (some ((false,()),())) (lL17 x0 (IntKind.i64.wrap (x1+1)) x2 x3 x4)) (lL17 x0 (IntKind.i64.wrap (x1+1)) x2 x3 x4)) (lL17 x0 (IntKind.i64.wrap (x1+1)) x2 x3 x4))) none) none) (cond (decide ((x2.getD x1.toNat ZN).1=(1:Int))) (cond (decide ((x2.getD x1.toNat ZN).2.2.2.2.1=(0:Int))) (cond (decide ((x2.getD x1.toNat ZN).2.2.2.2.2.1=(0:Int))) (some ((false,()),())) (lL17 x0 (IntKind.i64.wrap (x1+1)) x2 x3 x4)) (lL17 x0 (IntKind.i64.wrap (x1+1)) x2 x3 x4)) (lL17 x0 (IntKind.i64.wrap (x1+1)) x2 x3 x4)))) none) none) (cond (decide ((x2.getD x1.toNat ZN).1=(2:Int))) (cond (decide (0≤x1)) (cond (decide (x1<(↑x4.length:Int))) (cond (!x4.getD x1.toNat false) (some ((false,()),())) (cond (decide ((x2.getD x1.toNat ZN).1=(1:Int))) (cond (decide ((x2.getD x1.toNat ZN).2.2.2.2.1=(0:Int))) (cond (decide ((x2.getD x1.toNat ZN).2.2.2.2.2.1=(0:Int))) (some ((false,()),())) (lL17 x0 (IntKind.i64.wrap (x1+1)) x2 x3 x4)) (lL17 x0 (IntKind.i64.wrap (x1+1)) x2 x3 x4)) (lL17 x0 (IntKind.i64.wrap (x1+1)) x2 x3 x4))) none) none) (cond (decide ((x2.getD x1.toNat ZN).1=(1:Int))) (cond (decide ((x2.getD x1.toNat ZN).2.2.2.2.1=(0:Int))) (cond (decide ((x2.getD x1.toNat ZN).2.2.2.2.2.1=(0:Int))) (some ((false,()),())) (lL17 x0 (IntKind.i64.wrap (x1+1)) x2 x3 x4)) (lL17 x0 (IntKind.i64.wrap (x1+1)) x2 x3 x4)) (lL17 x0 (IntKind.i64.wrap (x1+1)) x2 x3 x4))))) none) none) none) none) (some ((x0,()),()))) (some ((x0,()),()))
noncomputable def zhc(n:Nat)(lL10:Int→Int→(List NT)→Li→Option R63)(lL17:Bool→Int→(List NT)→Li→(List Bool)→Option R63)(x0:Int)(x1:List NT)(x2:Li):Option R63 :=
 cond (decide (x0<10)) (cond (decide (0≤x0)) (cond (decide (x0<(↑x1.length:Int))) ((q116 n (((x1.getD x0.toNat ZN).1,(x1.getD x0.toNat ZN).2.1,(x1.getD x0.toNat ZN).2.2.1,(x1.getD x0.toNat ZN).2.2.2.1,(x1.getD x0.toNat ZN).2.2.2.2.1,(x1.getD x0.toNat ZN).2.2.2.2.2.1,(x1.getD x0.toNat ZN).2.2.2.2.2.2.1,(x1.getD x0.toNat ZN).2.2.2.2.2.2.2.1,(x1.getD x0.toNat ZN).2.2.2.2.2.2.2.2),())).bind fun r1=>cond (!r1.1.1) (some ((false,()),())) (lL10 x0 (0:Int) x1 x2)) none) none) (cond (decide ((0:Int)<(↑x1.length:Int))) (cond (!decide ((x1.getD (Int.toNat (0:Int)) ZN).1=(2:Int))) (some ((false,()),())) ((q117 n (x1,())).bind fun r3=>lL17 r3.1.2.1 (0:Int) x1 x2 r3.1.1)) none)
theorem yj9(n:Nat)(a:List NT):runF TT G63 an63 Try.f63 c63 ps63 rs63 n (a,())=zfg n (fun x0 x1 x2=>at63 n (.head 5) [n] (zhh x0 x1 x2)) a:=by kernel_rfl
theorem zx7(n m5:Nat)(x0 x1:Int)(x2:List NT)(x3:Li):at63 n (.head 10) [m5,0] (zgb x0 x1 x2 x3)=none:=by kernel_rfl
theorem yka(n m5 m10:Nat)(x0 x1:Int)(x2:List NT)(x3:Li):at63 n (.head 10) [m5,m10+1] (zgb x0 x1 x2 x3)=zej n (fun x0 x1 x2 x3=>at63 n (.head 10) [m5,m10] (zgb x0 x1 x2 x3)) (fun x0 x1 x2=>at63 n (.head 5) [m5] (zhh x0 x1 x2)) x0 x1 x2 x3:=by kernel_rfl
theorem zx6(n:Nat)(x0:Bool)(x1:Int)(x2:List NT)(x3:Li)(x4:List Bool):at63 n (.head 17) [0] (zga x0 x1 x2 x3 x4)=none:=by kernel_rfl
theorem yj_(n m17:Nat)(x0:Bool)(x1:Int)(x2:List NT)(x3:Li)(x4:List Bool):at63 n (.head 17) [m17+1] (zga x0 x1 x2 x3 x4)=zir n (fun x0 x1 x2 x3 x4=>at63 n (.head 17) [m17] (zga x0 x1 x2 x3 x4)) x0 x1 x2 x3 x4:=by kernel_rfl
theorem ydv(n:Nat)(x0:Int)(x1:List NT)(x2:Li):at63 n (.head 5) [0] (zhh x0 x1 x2)=none:=by kernel_rfl
theorem yps(n m5:Nat)(x0:Int)(x1:List NT)(x2:Li):at63 n (.head 5) [m5+1] (zhh x0 x1 x2)=zhc n (fun x0 x1 x2 x3=>at63 n (.head 10) [m5,n] (zgb x0 x1 x2 x3)) (fun x0 x1 x2 x3 x4=>at63 n (.head 17) [n] (zga x0 x1 x2 x3 x4)) x0 x1 x2:=by kernel_rfl
noncomputable def zdd(g5:Int→(List NT)→Li→Option R63)(n:Nat):Nat→Int→Int→(List NT)→Li→Option R63
 |0,_,_,_,_=>none
 |m+1,x0,x1,x2,x3=>zej n (zdd g5 n m) g5 x0 x1 x2 x3
noncomputable def ze9(n:Nat):Nat→Bool→Int→(List NT)→Li→(List Bool)→Option R63
 |0,_,_,_,_,_=>none
 |m+1,x0,x1,x2,x3,x4=>zir n (ze9 n m) x0 x1 x2 x3 x4
noncomputable def ze5(n:Nat):Nat→Int→(List NT)→Li→Option R63
 |0,_,_,_=>none
 |m+1,x0,x1,x2=>zhc n (zdd (ze5 n m) n n) (ze9 n n) x0 x1 x2
noncomputable def p63(n:Nat)(a:List NT):Option R63:=zfg n (ze5 n n) a
theorem ygr(n m5:Nat):∀ (m10:Nat) (x0 x1:Int) (x2:List NT) (x3:Li),at63 n (.head 10) [m5,m10] (zgb x0 x1 x2 x3)=zdd (fun x0 x1 x2=>at63 n (.head 5) [m5] (zhh x0 x1 x2)) n m10 x0 x1 x2 x3:=by
 intro m
 induction m with
 |zero=>intros;rw[zx7];rfl
 |succ m ih =>
  intros;rw[yka]
  try simp only[ih]
  rfl
theorem ygq(n:Nat):∀ (m17:Nat) (x0:Bool) (x1:Int) (x2:List NT) (x3:Li) (x4:List Bool),at63 n (.head 17) [m17] (zga x0 x1 x2 x3 x4)=ze9 n m17 x0 x1 x2 x3 x4:=by
 intro m
 induction m with
 |zero=>intros;rw[zx6];rfl
 |succ m ih =>
  intros;rw[yj_]
  try simp only[ih]
  rfl
theorem ymq(n:Nat):∀ (m5:Nat) (x0:Int) (x1:List NT) (x2:Li),at63 n (.head 5) [m5] (zhh x0 x1 x2)=ze5 n m5 x0 x1 x2:=by
 intro m
 induction m with
 |zero=>intros;rw[ydv];rfl
 |succ m ih =>
  intros;rw[yps]
  try simp only[ygr,ygq,ih]
  rfl
noncomputable def q63(n:Nat)(x:zai ps63):Option R63:=p63 n x.1
noncomputable def Sm63:Sm:=⟨ps63,rs63,false,q63⟩
theorem gam63:GamOK Try.prog G63:=by intro f s h;unfold G63 at h;split at h;exact gj h y116;exact gj h y117;cases h
theorem hh63:Hp 63 Sm63:=hOf (zaf (an:=an63) (c:=c63) zaw gam63 zau Try.func63 (by kernel_rfl) rfl (by decide +kernel)) fun n x=>(yj9 n x.1).trans (by simp only[ymq];try rfl)
theorem y63:Gk 63 Sm63:=⟨⟨Try.f63,c63,Try.func63,by kernel_rfl,by decide +kernel⟩,hh63⟩
noncomputable def c64:Code:=(Try.f64.body.getD .skip)
def an64:An:=⟨fun r=>match r with|2=>⟨[1,3],[]⟩|_=>⟨[],[]⟩,fun _ _=>none⟩
abbrev ps64:List PK:=[.val tCr true]
abbrev rs64:List RK:=[.val .bool false]
abbrev R64:=zah rs64×zag ps64
noncomputable def G64:Gam:=fun f=>match f with|118=>some zzs|_=>none
noncomputable def at64:Nat→Pt→List Nat→St→Option R64:=atF TT G64 an64 Try.f64 c64 _ _
def zj2(x0 x1 x2:Int)(x3:Li):St:=(St.mk ([Uu,AV.one (SV.bptr 1000000 0),Uu,Ai x0]++Ur 46) [(1000000,(Ent.box [Si x1,Si x2,SV.con (⟨3,Ty.int .i64,x3⟩:Rw)]))])
noncomputable def zrx(n:Nat)(lL2:Int→Int→Int→Li→Option R64)(a:Int×Int×Li):Option R64 :=
 lL2 (0:Int) a.1 a.2.1 a.2.2
noncomputable def zhb(n:Nat)(lL2:Int→Int→Int→Li→Option R64)(x0 x1 x2:Int)(x3:Li):Option R64 :=
 cond (decide (x0<(↑x3.length:Int))) (cond (decide (0≤x0)) (cond (decide (x0<(↑x3.length:Int))) ((q118 n (x3.getD x0.toNat (0:Int),())).bind fun r1=>cond (!r1.1.1) (some ((false,()),())) (cond (decide (0<x0)) (cond (decide ((0:Int)≤IntKind.i64.wrap (x0 - 1))) (cond (decide (IntKind.i64.wrap (x0 - 1)<(↑x3.length:Int))) (cond (decide (0≤x0)) (cond (decide (x0<(↑x3.length:Int))) (cond (decide (x3.getD x0.toNat (0:Int)≤x3.getD (IntKind.i64.wrap (x0 - 1)).toNat (0:Int))) (some ((false,()),())) (lL2 (IntKind.i64.wrap (x0+1)) x1 x2 x3)) none) none) none) none) (lL2 (IntKind.i64.wrap (x0+1)) x1 x2 x3))) none) none) ((q118 n (x1,())).bind fun r2=>cond r2.1.1 ((q118 n (x2,())).bind fun r3=>cond r3.1.1 (some ((decide ((↑x3.length:Int)≤(3:Int)),()),())) (some ((false,()),()))) (some ((false,()),())))
theorem yj8(n:Nat)(a:Int×Int×Li):runF TT G64 an64 Try.f64 c64 ps64 rs64 n (a,())=zrx n (fun x0 x1 x2 x3=>at64 n (.head 2) [n] (zj2 x0 x1 x2 x3)) a:=by kernel_rfl
theorem ydu(n:Nat)(x0 x1 x2:Int)(x3:Li):at64 n (.head 2) [0] (zj2 x0 x1 x2 x3)=none:=by kernel_rfl
theorem ypr(n m2:Nat)(x0 x1 x2:Int)(x3:Li):at64 n (.head 2) [m2+1] (zj2 x0 x1 x2 x3)=zhb n (fun x0 x1 x2 x3=>at64 n (.head 2) [m2] (zj2 x0 x1 x2 x3)) x0 x1 x2 x3:=by kernel_rfl
noncomputable def zl3(n:Nat):Nat→Int→Int→Int→Li→Option R64
 |0,_,_,_,_=>none
 |m+1,x0,x1,x2,x3=>zhb n (zl3 n m) x0 x1 x2 x3
noncomputable def p64(n:Nat)(a:Int×Int×Li):Option R64:=zrx n (zl3 n n) a
theorem ymp(n:Nat):∀ (m2:Nat) (x0 x1 x2:Int) (x3:Li),at64 n (.head 2) [m2] (zj2 x0 x1 x2 x3)=zl3 n m2 x0 x1 x2 x3:=by
 intro m
 induction m with
 |zero=>intros;rw[ydu];rfl
 |succ m ih =>
  intros;rw[ypr]
  try simp only[ih]
  rfl
noncomputable def q64(n:Nat)(x:zai ps64):Option R64:=p64 n x.1
noncomputable def Sm64:Sm:=⟨ps64,rs64,false,q64⟩
theorem gam64:GamOK Try.prog G64:=by intro f s h;unfold G64 at h;split at h;exact gj h y118;cases h
theorem hh64:Hp 64 Sm64:=hOf (zaf (an:=an64) (c:=c64) zaw gam64 zau Try.func64 (by kernel_rfl) rfl (by decide +kernel)) fun n x=>(yj8 n x.1).trans (by simp only[ymp];try rfl)
theorem y64:Gk 64 Sm64:=⟨⟨Try.f64,c64,Try.func64,by kernel_rfl,by decide +kernel⟩,hh64⟩
abbrev ps16:List PK:=[.val tFs true,.val tCr true,.val i64 false,.val i64 false]
abbrev rs16:List RK:=[.own tFs true,.val i64 false]
abbrev R16:=zah rs16×zag ps16
noncomputable def ya8(n:Nat)(a:List NT)(b:Int×Int×Li)(c d:Int):Option R16 :=
 (q60 n (a,(b.1,b.2.1,b.2.2),[c],())).bind fun r0=>cond (!r0.1.1) (some (([],((1:Int),())),())) ((q61 n (d,(0:Int),(511:Int),())).bind fun r1=>cond (!r1.1.1) (some (([],((1:Int),())),())) ((q62 n (a,())).bind fun r2=>cond (!decide (b.1=(0:Int))) (cond (decide ((0:Int)≤c)) (cond (decide (c<(↑a.length:Int))) (cond (!decide (b.1=(a.getD c.toNat ZN).2.2.1)) (some ((r2.1.1,((5:Int),())),())) (cond (decide ((0:Int)≤c)) (cond (decide (c<(↑(List.length r2.1.1):Int))) (some ((List.set r2.1.1 c.toNat ((List.getD r2.1.1 c.toNat ZN).1,d,(List.getD r2.1.1 c.toNat ZN).2.2),((0:Int),())),())) none) none)) none) none) (cond (decide ((0:Int)≤c)) (cond (decide (c<(↑(List.length r2.1.1):Int))) (some ((List.set r2.1.1 c.toNat ((List.getD r2.1.1 c.toNat ZN).1,d,(List.getD r2.1.1 c.toNat ZN).2.2),((0:Int),())),())) none) none)))
noncomputable def p16(n:Nat)(a:List NT)(b:Int×Int×Li)(c d:Int):Option R16:=ya8 n a b c d
noncomputable def q16(n:Nat)(x:zai ps16):Option R16:=p16 n x.1 x.2.1 x.2.2.1 x.2.2.2.1
abbrev ps17:List PK:=[.val tFs true,.val tCr true,.val i64 false,.val i64 false]
abbrev rs17:List RK:=[.own tFs true,.val i64 false]
abbrev R17:=zah rs17×zag ps17
noncomputable def ya7(n:Nat)(a:List NT)(b:Int×Int×Li)(c d:Int):Option R17 :=
 (q63 n (a,())).bind fun r0=>cond (!r0.1.1) (some (([],((1:Int),())),())) ((q64 n ((b.1,b.2.1,b.2.2),())).bind fun r1=>cond (!r1.1.1) (some (([],((1:Int),())),())) ((q65 n (a,c,())).bind fun r2=>cond (!r2.1.1) (some (([],((1:Int),())),())) ((q66 n (d,(0:Int),(511:Int),())).bind fun r3=>cond (!r3.1.1) (some (([],((1:Int),())),())) ((q67 n (a,())).bind fun r4=>cond (!decide (b.1=(0:Int))) (cond (decide ((0:Int)≤c)) (cond (decide (c<(↑a.length:Int))) (cond (!decide (b.1=(a.getD c.toNat ZN).2.2.1)) (some ((r4.1.1,((5:Int),())),())) (cond (decide ((0:Int)≤c)) (cond (decide (c<(↑(List.length r4.1.1):Int))) (some ((List.set r4.1.1 c.toNat ((List.getD r4.1.1 c.toNat ZN).1,d,(List.getD r4.1.1 c.toNat ZN).2.2),((0:Int),())),())) none) none)) none) none) (cond (decide ((0:Int)≤c)) (cond (decide (c<(↑(List.length r4.1.1):Int))) (some ((List.set r4.1.1 c.toNat ((List.getD r4.1.1 c.toNat ZN).1,d,(List.getD r4.1.1 c.toNat ZN).2.2),((0:Int),())),())) none) none)))))
noncomputable def p17(n:Nat)(a:List NT)(b:Int×Int×Li)(c d:Int):Option R17:=ya7 n a b c d
noncomputable def q17(n:Nat)(x:zai ps17):Option R17:=p17 n x.1 x.2.1 x.2.2.1 x.2.2.2.1
abbrev yng:List PK:=[.val i64 false]
abbrev rs136:List RK:=[.val .str false]
abbrev R136:=zah rs136×zag yng
noncomputable def zvc(n:Nat)(lL4:Int→ByteArray→Option R136)(a:Int):Option R136 :=
 cond (decide (a≤(0:Int))) (some ((ByteArray.mk #[(109:UInt8),(48:UInt8)],()),())) (lL4 a (ByteArray.mk #[]))
noncomputable def ybf(n:Nat)(lL4:Int→ByteArray→Option R136)(x0:Int)(x1:ByteArray):Option R136 :=
 cond (decide (0<x0)) (cond (decide ((List.foldl (fun r n=>r.push (UInt8.ofNat n.toNat)) ByteArray.empty [IntKind.u8.wrap (IntKind.i64.wrap ((48:Int)+x0.tmod (10:Int)))]).size+x1.size≤(9223372036854775807:Nat))) (lL4 (IntKind.i64.wrap (x0.tdiv (10:Int))) (List.foldl (fun r n=>r.push (UInt8.ofNat n.toNat)) ByteArray.empty [IntKind.u8.wrap (IntKind.i64.wrap ((48:Int)+x0.tmod (10:Int)))]++x1)) none) (cond (decide ((ByteArray.mk #[(109:UInt8)]).size+x1.size≤(9223372036854775807:Nat))) (some ((ByteArray.mk #[(109:UInt8)]++x1,()),())) none)
noncomputable def zwi(n:Nat):Nat→Int→ByteArray→Option R136
 |0,_,_=>none
 |m+1,x0,x1=>ybf n (zwi n m) x0 x1
noncomputable def p136(n:Nat)(a:Int):Option R136:=zvc n (zwi n n) a
noncomputable def q136(n:Nat)(x:zai yng):Option R136:=p136 n x.1
abbrev yne:List PK:=[.val (.row 100 tEn) false,.val i64 false]
abbrev rs138:List RK:=[.val i64 false]
abbrev R138:=zah rs138×zag yne
noncomputable def zva(n:Nat)(lL2:(List (ByteArray×Int))→Int→Int→Option R138)(a:List (ByteArray×Int))(b:Int):Option R138 :=
 lL2 a b (0:Int)
noncomputable def ybd(n:Nat)(lL2:(List (ByteArray×Int))→Int→Int→Option R138)(x0:List (ByteArray×Int))(x1 x2:Int):Option R138 :=
 cond (decide (x2<(↑x0.length:Int))) (cond (decide (0≤x2)) (cond (decide (x2<(↑x0.length:Int))) ((q136 n (x1,())).bind fun r1=>cond (!ByteArray.toList (x0.getD x2.toNat (ByteArray.empty,(0:Int))).1 == ByteArray.toList r1.1.1) (some (((-1:Int),()),())) (cond (decide (0≤x2)) (cond (decide (x2<(↑x0.length:Int))) (cond (!decide ((x0.getD x2.toNat (ByteArray.empty,(0:Int))).2=IntKind.i64.wrap (x1+1))) (some (((-1:Int),()),())) (lL2 x0 (IntKind.i64.wrap (IntKind.i64.wrap (x1+1)+(1:Int))) (IntKind.i64.wrap (x2+1)))) none) none)) none) none) (some ((x1,()),()))
noncomputable def zwg(n:Nat):Nat→(List (ByteArray×Int))→Int→Int→Option R138
 |0,_,_,_=>none
 |m+1,x0,x1,x2=>ybd n (zwg n m) x0 x1 x2
noncomputable def p138(n:Nat)(a:List (ByteArray×Int))(b:Int):Option R138:=zva n (zwg n n) a b
noncomputable def q138(n:Nat)(x:zai yne):Option R138:=p138 n x.1 x.2.1
abbrev ynq:List PK:=[.val tFs false,.val i64 false]
abbrev rs100:List RK:=[.val i64 false]
abbrev R100:=zah rs100×zag ynq
noncomputable def zvl(n:Nat)(lL2:(List NT)→Int→Int→Option R100)(a:List NT)(b:Int):Option R100 :=
 lL2 a b (0:Int)
noncomputable def ybh(n:Nat)(lL2:(List NT)→Int→Int→Option R100)(x0:List NT)(x1 x2:Int):Option R100 :=
 cond (decide (x2<(↑x0.length:Int))) (cond (decide (0≤x2)) (cond (decide (x2<(↑x0.length:Int))) (cond (!decide ((x0.getD x2.toNat ZN).1=x1)) (some (((-1:Int),()),())) (cond (decide (0≤x2)) (cond (decide (x2<(↑x0.length:Int))) (cond (!decide ((x0.getD x2.toNat ZN).2.1=IntKind.i64.wrap (x1+1))) (some (((-1:Int),()),())) (cond (decide (0≤x2)) (cond (decide (x2<(↑x0.length:Int))) (cond (!decide ((x0.getD x2.toNat ZN).2.2.1=IntKind.i64.wrap (IntKind.i64.wrap (x1+1)+(1:Int)))) (some (((-1:Int),()),())) (cond (decide (0≤x2)) (cond (decide (x2<(↑x0.length:Int))) (cond (!decide ((x0.getD x2.toNat ZN).2.2.2.1=IntKind.i64.wrap (IntKind.i64.wrap (IntKind.i64.wrap (x1+1)+(1:Int))+(1:Int)))) (some (((-1:Int),()),())) (cond (decide (0≤x2)) (cond (decide (x2<(↑x0.length:Int))) (cond (!decide ((x0.getD x2.toNat ZN).2.2.2.2.1=IntKind.i64.wrap (IntKind.i64.wrap (IntKind.i64.wrap (IntKind.i64.wrap (x1+1)+(1:Int))+(1:Int))+(1:Int)))) (some (((-1:Int),()),())) (cond (decide (0≤x2)) (cond (decide (x2<(↑x0.length:Int))) (cond (!decide ((x0.getD x2.toNat ZN).2.2.2.2.2.1=IntKind.i64.wrap (IntKind.i64.wrap (IntKind.i64.wrap (IntKind.i64.wrap (IntKind.i64.wrap (x1+1)+(1:Int))+(1:Int))+(1:Int))+(1:Int)))) (some (((-1:Int),()),())) (cond (decide (0≤x2)) (cond (decide (x2<(↑x0.length:Int))) (cond (!(x0.getD x2.toNat ZN).2.2.2.2.2.2.1 == decide ((IntKind.i64.wrap (IntKind.i64.wrap (IntKind.i64.wrap (IntKind.i64.wrap (IntKind.i64.wrap (IntKind.i64.wrap (x1+1)+(1:Int))+(1:Int))+(1:Int))+(1:Int))+(1:Int))).tmod (3:Int)=(0:Int))) (some (((-1:Int),()),())) (cond (decide (0≤x2)) (cond (decide (x2<(↑x0.length:Int))) ((q136 n (IntKind.i64.wrap (IntKind.i64.wrap (IntKind.i64.wrap (IntKind.i64.wrap (IntKind.i64.wrap (IntKind.i64.wrap (IntKind.i64.wrap (x1+1)+(1:Int))+(1:Int))+(1:Int))+(1:Int))+(1:Int))+(1:Int)),())).bind fun r1=>cond (!ByteArray.toList (x0.getD x2.toNat ZN).2.2.2.2.2.2.2.1 == ByteArray.toList r1.1.1) (some (((-1:Int),()),())) (cond (decide (0≤x2)) (cond (decide (x2<(↑x0.length:Int))) ((q138 n ((x0.getD x2.toNat ZN).2.2.2.2.2.2.2.2,IntKind.i64.wrap (IntKind.i64.wrap (IntKind.i64.wrap (IntKind.i64.wrap (IntKind.i64.wrap (IntKind.i64.wrap (IntKind.i64.wrap (IntKind.i64.wrap (x1+1)+(1:Int))+(1:Int))+(1:Int))+(1:Int))+(1:Int))+(1:Int))+(1:Int)),())).bind fun r2=>cond (decide (r2.1.1<(0:Int))) (some (((-1:Int),()),())) (lL2 x0 r2.1.1 (IntKind.i64.wrap (x2+1)))) none) none)) none) none)) none) none)) none) none)) none) none)) none) none)) none) none)) none) none)) none) none) (some ((x1,()),()))
noncomputable def zwn(n:Nat):Nat→(List NT)→Int→Int→Option R100
 |0,_,_,_=>none
 |m+1,x0,x1,x2=>ybh n (zwn n m) x0 x1 x2
noncomputable def p100(n:Nat)(a:List NT)(b:Int):Option R100:=zvl n (zwn n n) a b
noncomputable def q100(n:Nat)(x:zai ynq):Option R100:=p100 n x.1 x.2.1
abbrev ynf:List PK:=[.io (.row 100 tEn) false,.val i64 false]
abbrev rs137:List RK:=[.val i64 false]
abbrev R137:=zah rs137×zag ynf
noncomputable def zvb(n:Nat)(lL2:Int→Int→(List (ByteArray×Int))→Option R137)(a:List (ByteArray×Int))(b:Int):Option R137 :=
 lL2 b (0:Int) a
noncomputable def ybe(n:Nat)(lL2:Int→Int→(List (ByteArray×Int))→Option R137)(x0 x1:Int)(x2:List (ByteArray×Int)):Option R137 :=
 cond (decide (x1<(↑x2.length:Int))) ((q136 n (x0,())).bind fun r1=>cond (decide (0≤x1)) (cond (decide (x1<(↑x2.length:Int))) (cond (decide (0≤x1)) (cond (decide (x1<(↑(x2.set x1.toNat (r1.1.1,(x2.getD x1.toNat (ByteArray.empty,(0:Int))).2)).length:Int))) (lL2 (IntKind.i64.wrap (IntKind.i64.wrap (x0+1)+(1:Int))) (IntKind.i64.wrap (x1+1)) ((x2.set x1.toNat (r1.1.1,(x2.getD x1.toNat (ByteArray.empty,(0:Int))).2)).set x1.toNat (((x2.set x1.toNat (r1.1.1,(x2.getD x1.toNat (ByteArray.empty,(0:Int))).2)).getD x1.toNat (ByteArray.empty,(0:Int))).1,IntKind.i64.wrap (x0+1)))) none) none) none) none) (some ((x0,()),(x2,())))
noncomputable def zwh(n:Nat):Nat→Int→Int→(List (ByteArray×Int))→Option R137
 |0,_,_,_=>none
 |m+1,x0,x1,x2=>ybe n (zwh n m) x0 x1 x2
noncomputable def p137(n:Nat)(a:List (ByteArray×Int))(b:Int):Option R137:=zvb n (zwh n n) a b
noncomputable def q137(n:Nat)(x:zai ynf):Option R137:=p137 n x.1 x.2.1
abbrev ps94:List PK:=[.io (.row 3 i64) false,.val i64 false]
abbrev rs94:List RK:=[.val i64 false]
abbrev R94:=zah rs94×zag ps94
noncomputable def yaa(n:Nat)(lL2:Int→Int→Li→Option R94)(a:Li)(b:Int):Option R94 :=
 lL2 b (0:Int) a
noncomputable def yhc(n:Nat)(lL2:Int→Int→Li→Option R94)(x0 x1:Int)(x2:Li):Option R94 :=
 cond (decide (x1<(↑x2.length:Int))) (cond (decide (0≤x1)) (cond (decide (x1<(↑x2.length:Int))) (lL2 (IntKind.i64.wrap (x0+1)) (IntKind.i64.wrap (x1+1)) (x2.set x1.toNat x0)) none) none) (some ((x0,()),(x2,())))
noncomputable def yfu(n:Nat):Nat→Int→Int→Li→Option R94
 |0,_,_,_=>none
 |m+1,x0,x1,x2=>yhc n (yfu n m) x0 x1 x2
noncomputable def p94(n:Nat)(a:Li)(b:Int):Option R94:=yaa n (yfu n n) a b
noncomputable def q94(n:Nat)(x:zai ps94):Option R94:=p94 n x.1 x.2.1
abbrev ps37:List PK:=[.io tCr true,.val i64 false]
abbrev rs37:List RK:=[.val i64 false]
abbrev R37:=zah rs37×zag ps37
noncomputable def yax(n:Nat)(a:Int×Int×Li)(b:Int):Option R37 :=
 (q94 n (a.2.2,b,())).bind fun r0=>some ((r0.1.1,()),((a.1,(a.2.1,r0.2.1)),()))
noncomputable def p37(n:Nat)(a:Int×Int×Li)(b:Int):Option R37:=yax n a b
noncomputable def q37(n:Nat)(x:zai ps37):Option R37:=p37 n x.1 x.2.1
abbrev ps99:List PK:=[.io tFs false,.val i64 false]
abbrev rs99:List RK:=[.val i64 false]
abbrev R99:=zah rs99×zag ps99
noncomputable def zz6(n:Nat)(lL2:Int→Int→(List NT)→Option R99)(a:List NT)(b:Int):Option R99 :=
 lL2 b (0:Int) a
noncomputable def ztf(n:Nat)(lL2:Int→Int→(List NT)→Option R99)(x0 x1:Int)(x2:List NT):Option R99 :=
 cond (decide (0≤x1)) (cond (decide (x1<(↑x2.length:Int))) ((q137 n ((x2.getD x1.toNat ZN).2.2.2.2.2.2.2.2,x0,())).bind fun r10=>lL2 r10.1.1 (IntKind.i64.wrap (x1+1)) (x2.set x1.toNat ((x2.getD x1.toNat ZN).1,(x2.getD x1.toNat ZN).2.1,(x2.getD x1.toNat ZN).2.2.1,(x2.getD x1.toNat ZN).2.2.2.1,(x2.getD x1.toNat ZN).2.2.2.2.1,(x2.getD x1.toNat ZN).2.2.2.2.2.1,(x2.getD x1.toNat ZN).2.2.2.2.2.2.1,(x2.getD x1.toNat ZN).2.2.2.2.2.2.2.1,r10.2.1))) none) none
noncomputable def ztg(n:Nat)(lC20_0:Int→Int→(List NT)→Option R99)(x0 x1:Int)(x2:List NT):Option R99 :=
 (q136 n (x0,())).bind fun r8=>cond (decide (0≤x1)) (cond (decide (x1<(↑x2.length:Int))) (lC20_0 (IntKind.i64.wrap (x0+1)) x1 (x2.set x1.toNat ((x2.getD x1.toNat ZN).1,(x2.getD x1.toNat ZN).2.1,(x2.getD x1.toNat ZN).2.2.1,(x2.getD x1.toNat ZN).2.2.2.1,(x2.getD x1.toNat ZN).2.2.2.2.1,(x2.getD x1.toNat ZN).2.2.2.2.2.1,(x2.getD x1.toNat ZN).2.2.2.2.2.2.1,r8.1.1,(x2.getD x1.toNat ZN).2.2.2.2.2.2.2.2))) none) none
noncomputable def zth(n:Nat)(lC18_0:Int→Int→(List NT)→Option R99)(x0 x1:Int)(x2:List NT):Option R99 :=
 cond (decide (0≤x1)) (cond (decide (x1<(↑x2.length:Int))) (lC18_0 (IntKind.i64.wrap (x0+1)) x1 (x2.set x1.toNat ((x2.getD x1.toNat ZN).1,(x2.getD x1.toNat ZN).2.1,(x2.getD x1.toNat ZN).2.2.1,(x2.getD x1.toNat ZN).2.2.2.1,(x2.getD x1.toNat ZN).2.2.2.2.1,(x2.getD x1.toNat ZN).2.2.2.2.2.1,decide (x0.tmod (3:Int)=(0:Int)),(x2.getD x1.toNat ZN).2.2.2.2.2.2.2))) none) none
noncomputable def zti(n:Nat)(lC16_0:Int→Int→(List NT)→Option R99)(x0 x1:Int)(x2:List NT):Option R99 :=
 cond (decide (0≤x1)) (cond (decide (x1<(↑x2.length:Int))) (lC16_0 (IntKind.i64.wrap (x0+1)) x1 (x2.set x1.toNat ((x2.getD x1.toNat ZN).1,(x2.getD x1.toNat ZN).2.1,(x2.getD x1.toNat ZN).2.2.1,(x2.getD x1.toNat ZN).2.2.2.1,(x2.getD x1.toNat ZN).2.2.2.2.1,x0,(x2.getD x1.toNat ZN).2.2.2.2.2.2))) none) none
noncomputable def ztj(n:Nat)(lC14_0:Int→Int→(List NT)→Option R99)(x0 x1:Int)(x2:List NT):Option R99 :=
 cond (decide (0≤x1)) (cond (decide (x1<(↑x2.length:Int))) (lC14_0 (IntKind.i64.wrap (x0+1)) x1 (x2.set x1.toNat ((x2.getD x1.toNat ZN).1,(x2.getD x1.toNat ZN).2.1,(x2.getD x1.toNat ZN).2.2.1,(x2.getD x1.toNat ZN).2.2.2.1,x0,(x2.getD x1.toNat ZN).2.2.2.2.2))) none) none
noncomputable def ztk(n:Nat)(lC12_0:Int→Int→(List NT)→Option R99)(x0 x1:Int)(x2:List NT):Option R99 :=
 cond (decide (0≤x1)) (cond (decide (x1<(↑x2.length:Int))) (lC12_0 (IntKind.i64.wrap (x0+1)) x1 (x2.set x1.toNat ((x2.getD x1.toNat ZN).1,(x2.getD x1.toNat ZN).2.1,(x2.getD x1.toNat ZN).2.2.1,x0,(x2.getD x1.toNat ZN).2.2.2.2))) none) none
noncomputable def zu2(n:Nat)(lC10_0:Int→Int→(List NT)→Option R99)(x0 x1:Int)(x2:List NT):Option R99 :=
 cond (decide (0≤x1)) (cond (decide (x1<(↑x2.length:Int))) (lC10_0 (IntKind.i64.wrap (x0+1)) x1 (x2.set x1.toNat ((x2.getD x1.toNat ZN).1,(x2.getD x1.toNat ZN).2.1,x0,(x2.getD x1.toNat ZN).2.2.2))) none) none
noncomputable def zu3(n:Nat)(lC8_0:Int→Int→(List NT)→Option R99)(x0 x1:Int)(x2:List NT):Option R99 :=
 cond (decide (0≤x1)) (cond (decide (x1<(↑x2.length:Int))) (lC8_0 (IntKind.i64.wrap (x0+1)) x1 (x2.set x1.toNat ((x2.getD x1.toNat ZN).1,x0,(x2.getD x1.toNat ZN).2.2))) none) none
noncomputable def yg8(n:Nat)(lC6_0:Int→Int→(List NT)→Option R99)(x0 x1:Int)(x2:List NT):Option R99 :=
 cond (decide (x1<(↑x2.length:Int))) (cond (decide (0≤x1)) (cond (decide (x1<(↑x2.length:Int))) (lC6_0 (IntKind.i64.wrap (x0+1)) x1 (x2.set x1.toNat (x0,(x2.getD x1.toNat ZN).2))) none) none) (some ((x0,()),(x2,())))
noncomputable def zv5(g2:Int→Int→(List NT)→Option R99)(n:Nat)(x0 x1:Int)(x2:List NT):Option R99:=ztf n g2 x0 x1 x2
noncomputable def zv6(g2:Int→Int→(List NT)→Option R99)(n:Nat)(x0 x1:Int)(x2:List NT):Option R99:=ztg n (zv5 g2 n) x0 x1 x2
noncomputable def zv7(g2:Int→Int→(List NT)→Option R99)(n:Nat)(x0 x1:Int)(x2:List NT):Option R99:=zth n (zv6 g2 n) x0 x1 x2
noncomputable def zv8(g2:Int→Int→(List NT)→Option R99)(n:Nat)(x0 x1:Int)(x2:List NT):Option R99:=zti n (zv7 g2 n) x0 x1 x2
noncomputable def zv9(g2:Int→Int→(List NT)→Option R99)(n:Nat)(x0 x1:Int)(x2:List NT):Option R99:=ztj n (zv8 g2 n) x0 x1 x2
noncomputable def zv_(g2:Int→Int→(List NT)→Option R99)(n:Nat)(x0 x1:Int)(x2:List NT):Option R99:=ztk n (zv9 g2 n) x0 x1 x2
noncomputable def ycp(g2:Int→Int→(List NT)→Option R99)(n:Nat)(x0 x1:Int)(x2:List NT):Option R99:=zu2 n (zv_ g2 n) x0 x1 x2
noncomputable def ycq(g2:Int→Int→(List NT)→Option R99)(n:Nat)(x0 x1:Int)(x2:List NT):Option R99:=zu3 n (ycp g2 n) x0 x1 x2
noncomputable def yfp(n:Nat):Nat→Int→Int→(List NT)→Option R99
 |0,_,_,_=>none
 |m+1,x0,x1,x2=>yg8 n (ycq (yfp n m) n) x0 x1 x2
noncomputable def p99(n:Nat)(a:List NT)(b:Int):Option R99:=zz6 n (yfp n n) a b
noncomputable def q99(n:Nat)(x:zai ps99):Option R99:=p99 n x.1 x.2.1
abbrev ps42:List PK:=[.io tFs true,.val i64 false]
abbrev rs42:List RK:=[.val i64 false]
abbrev R42:=zah rs42×zag ps42
noncomputable def yas(n:Nat)(a:List NT)(b:Int):Option R42 :=
 (q99 n (a,b,())).bind fun r0=>some ((r0.1.1,()),(r0.2.1,()))
noncomputable def p42(n:Nat)(a:List NT)(b:Int):Option R42:=yas n a b
noncomputable def q42(n:Nat)(x:zai ps42):Option R42:=p42 n x.1 x.2.1
abbrev ps43:List PK:=[.val tFs true,.val i64 false]
abbrev rs43:List RK:=[.val i64 false]
abbrev R43:=zah rs43×zag ps43
noncomputable def yar(n:Nat)(a:List NT)(b:Int):Option R43 :=
 (q100 n (a,b,())).bind fun r0=>cond (decide (r0.1.1<(0:Int))) (some (((-1:Int),()),())) (some ((r0.1.1,()),()))
noncomputable def p43(n:Nat)(a:List NT)(b:Int):Option R43:=yar n a b
noncomputable def q43(n:Nat)(x:zai ps43):Option R43:=p43 n x.1 x.2.1
abbrev ym9:List PK:=[.val tEn true,.val i64 false]
abbrev rs156:List RK:=[.val i64 false]
abbrev R156:=zah rs156×zag ym9
noncomputable def zu6(n:Nat)(a:ByteArray×Int)(b:Int):Option R156 :=
 cond (decide (IntKind.i64.wrap (b - (↑(ByteArray.size a.1):Int))<(0:Int))) (some (((-1:Int),()),())) (some ((IntKind.i64.wrap (b - (↑(ByteArray.size a.1):Int)),()),()))
noncomputable def p156(n:Nat)(a:ByteArray×Int)(b:Int):Option R156:=zu6 n a b
noncomputable def q156(n:Nat)(x:zai ym9):Option R156:=p156 n x.1 x.2.1
abbrev ynb:List PK:=[.val (.row 178 tEn) false,.val i64 false]
abbrev rs149:List RK:=[.val i64 false]
abbrev R149:=zah rs149×zag ynb
noncomputable def zu9(n:Nat)(lL5:(List (ByteArray×Int))→Int→Int→Option R149)(a:List (ByteArray×Int))(b:Int):Option R149 :=
 cond (decide (IntKind.i64.wrap (b - (↑a.length:Int))<(0:Int))) (some (((-1:Int),()),())) (lL5 a (IntKind.i64.wrap (b - (↑a.length:Int))) (0:Int))
noncomputable def ybb(n:Nat)(lL5:(List (ByteArray×Int))→Int→Int→Option R149)(x0:List (ByteArray×Int))(x1 x2:Int):Option R149 :=
 cond (decide (x2<(↑x0.length:Int))) (cond (decide (0≤x2)) (cond (decide (x2<(↑x0.length:Int))) ((q156 n (((x0.getD x2.toNat (ByteArray.empty,(0:Int))).1,(x0.getD x2.toNat (ByteArray.empty,(0:Int))).2),x1,())).bind fun r1=>cond (decide (r1.1.1<(0:Int))) (some (((-1:Int),()),())) (lL5 x0 r1.1.1 (IntKind.i64.wrap (x2+1)))) none) none) (some ((x1,()),()))
noncomputable def zwe(n:Nat):Nat→(List (ByteArray×Int))→Int→Int→Option R149
 |0,_,_,_=>none
 |m+1,x0,x1,x2=>ybb n (zwe n m) x0 x1 x2
noncomputable def p149(n:Nat)(a:List (ByteArray×Int))(b:Int):Option R149:=zu9 n (zwe n n) a b
noncomputable def q149(n:Nat)(x:zai ynb):Option R149:=p149 n x.1 x.2.1
abbrev ynj:List PK:=[.val (tIn 178) true,.val i64 false]
abbrev rs133:List RK:=[.val i64 false]
abbrev R133:=zah rs133×zag ynj
noncomputable def zvf(n:Nat)(a:NT)(b:Int):Option R133 :=
 cond (decide (IntKind.i64.wrap (b - (↑(ByteArray.size a.2.2.2.2.2.2.2.1):Int))<(0:Int))) (some (((-1:Int),()),())) ((q149 n (a.2.2.2.2.2.2.2.2,IntKind.i64.wrap (b - (↑(ByteArray.size a.2.2.2.2.2.2.2.1):Int)),())).bind fun r0=>cond (decide (r0.1.1<(0:Int))) (some (((-1:Int),()),())) (some ((r0.1.1,()),())))
noncomputable def p133(n:Nat)(a:NT)(b:Int):Option R133:=zvf n a b
noncomputable def q133(n:Nat)(x:zai ynj):Option R133:=p133 n x.1 x.2.1
abbrev ym8:List PK:=[.val tEn true]
abbrev rs157:List RK:=[.val tEn true]
abbrev R157:=zah rs157×zag ym8
noncomputable def zu5(n:Nat)(a:ByteArray×Int):Option R157 :=
 some (((a.1,a.2),()),())
noncomputable def p157(n:Nat)(a:ByteArray×Int):Option R157:=zu5 n a
noncomputable def q157(n:Nat)(x:zai ym8):Option R157:=p157 n x.1
abbrev yna:List PK:=[.val (.row 178 tEn) false]
abbrev rs150:List RK:=[.own (.row 100 tEn) false]
abbrev R150:=zah rs150×zag yna
noncomputable def zu8(n:Nat)(lL3:(List (ByteArray×Int))→Int→(List (ByteArray×Int))→Option R150)(a:List (ByteArray×Int)):Option R150 :=
 cond (decide ((↑a.length:Int)*(↑(24:Nat):Int)≤(140737488355328:Int))) (lL3 a (0:Int) (List.replicate (↑a.length:Int).toNat (ByteArray.empty,(0:Int)))) none
noncomputable def yba(n:Nat)(lL3:(List (ByteArray×Int))→Int→(List (ByteArray×Int))→Option R150)(x0:List (ByteArray×Int))(x1:Int)(x2:List (ByteArray×Int)):Option R150 :=
 cond (decide (x1<(↑x0.length:Int))) (cond (decide (0≤x1)) (cond (decide (x1<(↑x0.length:Int))) ((q157 n (((x0.getD x1.toNat (ByteArray.empty,(0:Int))).1,(x0.getD x1.toNat (ByteArray.empty,(0:Int))).2),())).bind fun r1=>cond (decide (0≤x1)) (cond (decide (x1<(↑x2.length:Int))) (lL3 x0 (IntKind.i64.wrap (x1+1)) (x2.set x1.toNat (r1.1.1.1,r1.1.1.2))) none) none) none) none) (some ((x2,()),()))
noncomputable def zwd(n:Nat):Nat→(List (ByteArray×Int))→Int→(List (ByteArray×Int))→Option R150
 |0,_,_,_=>none
 |m+1,x0,x1,x2=>yba n (zwd n m) x0 x1 x2
noncomputable def p150(n:Nat)(a:List (ByteArray×Int)):Option R150:=zu8 n (zwd n n) a
noncomputable def q150(n:Nat)(x:zai yna):Option R150:=p150 n x.1
abbrev yni:List PK:=[.val (tIn 178) true]
abbrev rs134:List RK:=[.own (tIn 100) true]
abbrev R134:=zah rs134×zag yni
noncomputable def zve(n:Nat)(a:NT):Option R134 :=
 (q150 n (a.2.2.2.2.2.2.2.2,())).bind fun r0=>some (((a.1,(a.2.1,(a.2.2.1,(a.2.2.2.1,(a.2.2.2.2.1,(a.2.2.2.2.2.1,(a.2.2.2.2.2.2.1,(a.2.2.2.2.2.2.2.1,r0.1.1)))))))),()),())
noncomputable def p134(n:Nat)(a:NT):Option R134:=zve n a
noncomputable def q134(n:Nat)(x:zai yni):Option R134:=p134 n x.1
abbrev ym7:List PK:=[.val tEn true,.val tEn true]
abbrev rs158:List RK:=[.val .bool false]
abbrev R158:=zah rs158×zag ym7
noncomputable def zu4(n:Nat)(a b:ByteArray×Int):Option R158 :=
 cond (!ByteArray.toList a.1 == ByteArray.toList b.1) (some ((false,()),())) (cond (!decide (a.2=b.2)) (some ((false,()),())) (some ((true,()),())))
noncomputable def p158(n:Nat)(a b:ByteArray×Int):Option R158:=zu4 n a b
noncomputable def q158(n:Nat)(x:zai ym7):Option R158:=p158 n x.1 x.2.1
abbrev ym_:List PK:=[.val (.row 100 tEn) false,.val (.row 100 tEn) false]
abbrev rs151:List RK:=[.val .bool false]
abbrev R151:=zah rs151×zag ym_
noncomputable def zu7(n:Nat)(lL4:(List (ByteArray×Int))→(List (ByteArray×Int))→Int→Option R151)(a:List (ByteArray×Int))(b:List (ByteArray×Int)):Option R151 :=
 cond (!decide ((↑a.length:Int)=(↑b.length:Int))) (some ((false,()),())) (lL4 a b (0:Int))
noncomputable def ya_(n:Nat)(lL4:(List (ByteArray×Int))→(List (ByteArray×Int))→Int→Option R151)(x0 x1:List (ByteArray×Int))(x2:Int):Option R151 :=
 cond (decide (x2<(↑x0.length:Int))) (cond (decide (0≤x2)) (cond (decide (x2<(↑x0.length:Int))) (cond (decide (0≤x2)) (cond (decide (x2<(↑x1.length:Int))) ((q158 n (((x0.getD x2.toNat (ByteArray.empty,(0:Int))).1,(x0.getD x2.toNat (ByteArray.empty,(0:Int))).2),((x1.getD x2.toNat (ByteArray.empty,(0:Int))).1,(x1.getD x2.toNat (ByteArray.empty,(0:Int))).2),())).bind fun r1=>cond (!r1.1.1) (some ((false,()),())) (lL4 x0 x1 (IntKind.i64.wrap (x2+1)))) none) none) none) none) (some ((true,()),()))
noncomputable def zwc(n:Nat):Nat→(List (ByteArray×Int))→(List (ByteArray×Int))→Int→Option R151
 |0,_,_,_=>none
 |m+1,x0,x1,x2=>ya_ n (zwc n m) x0 x1 x2
noncomputable def p151(n:Nat)(a:List (ByteArray×Int))(b:List (ByteArray×Int)):Option R151:=zu7 n (zwc n n) a b
noncomputable def q151(n:Nat)(x:zai ym_):Option R151:=p151 n x.1 x.2.1
abbrev ynh:List PK:=[.val (tIn 100) true,.val (tIn 100) true]
abbrev rs135:List RK:=[.val .bool false]
abbrev R135:=zah rs135×zag ynh
noncomputable def zvd(n:Nat)(a b:NT):Option R135 :=
 cond (!decide (a.1=b.1)) (some ((false,()),())) (cond (!decide (a.2.1=b.2.1)) (some ((false,()),())) (cond (!decide (a.2.2.1=b.2.2.1)) (some ((false,()),())) (cond (!decide (a.2.2.2.1=b.2.2.2.1)) (some ((false,()),())) (cond (!decide (a.2.2.2.2.1=b.2.2.2.2.1)) (some ((false,()),())) (cond (!decide (a.2.2.2.2.2.1=b.2.2.2.2.2.1)) (some ((false,()),())) (cond (!a.2.2.2.2.2.2.1 == b.2.2.2.2.2.2.1) (some ((false,()),())) (cond (!ByteArray.toList a.2.2.2.2.2.2.2.1 == ByteArray.toList b.2.2.2.2.2.2.2.1) (some ((false,()),())) ((q151 n (a.2.2.2.2.2.2.2.2,b.2.2.2.2.2.2.2.2,())).bind fun r0=>cond (!r0.1.1) (some ((false,()),())) (some ((true,()),()))))))))))
noncomputable def p135(n:Nat)(a b:NT):Option R135:=zvd n a b
noncomputable def q135(n:Nat)(x:zai ynh):Option R135:=p135 n x.1 x.2.1
abbrev ps88:List PK:=[.val (.row 3 i64) false,.val i64 false]
abbrev rs88:List RK:=[.val i64 false]
abbrev R88:=zah rs88×zag ps88
noncomputable def yag(n:Nat)(a:Li)(b:Int):Option R88 :=
 cond (decide (IntKind.i64.wrap (b - (↑a.length:Int))<(0:Int))) (some (((-1:Int),()),())) (some ((IntKind.i64.wrap (b - (↑a.length:Int)),()),()))
noncomputable def p88(n:Nat)(a:Li)(b:Int):Option R88:=yag n a b
noncomputable def q88(n:Nat)(x:zai ps88):Option R88:=p88 n x.1 x.2.1
abbrev ps31:List PK:=[.val tCr true,.val i64 false]
abbrev rs31:List RK:=[.val i64 false]
abbrev R31:=zah rs31×zag ps31
noncomputable def ya3(n:Nat)(a:Int×Int×Li)(b:Int):Option R31 :=
 (q88 n (a.2.2,b,())).bind fun r0=>cond (decide (r0.1.1<(0:Int))) (some (((-1:Int),()),())) (some ((r0.1.1,()),()))
noncomputable def p31(n:Nat)(a:Int×Int×Li)(b:Int):Option R31:=ya3 n a b
noncomputable def q31(n:Nat)(x:zai ps31):Option R31:=p31 n x.1 x.2.1
abbrev ps90:List PK:=[.val (.row 3 i64) false]
abbrev rs90:List RK:=[.own (.row 3 i64) false]
abbrev R90:=zah rs90×zag ps90
noncomputable def yae(n:Nat)(lL3:Li→Int→Li→Option R90)(a:Li):Option R90 :=
 cond (decide ((↑a.length:Int)*(↑(8:Nat):Int)≤(140737488355328:Int))) (lL3 a (0:Int) (List.replicate (↑a.length:Int).toNat (0:Int))) none
noncomputable def yhg(n:Nat)(lL3:Li→Int→Li→Option R90)(x0:Li)(x1:Int)(x2:Li):Option R90 :=
 cond (decide (x1<(↑x0.length:Int))) (cond (decide (0≤x1)) (cond (decide (x1<(↑x0.length:Int))) (cond (decide (0≤x1)) (cond (decide (x1<(↑x2.length:Int))) (lL3 x0 (IntKind.i64.wrap (x1+1)) (x2.set x1.toNat (x0.getD x1.toNat (0:Int)))) none) none) none) none) (some ((x2,()),()))
noncomputable def yfy(n:Nat):Nat→Li→Int→Li→Option R90
 |0,_,_,_=>none
 |m+1,x0,x1,x2=>yhg n (yfy n m) x0 x1 x2
noncomputable def p90(n:Nat)(a:Li):Option R90:=yae n (yfy n n) a
noncomputable def q90(n:Nat)(x:zai ps90):Option R90:=p90 n x.1
abbrev ps33:List PK:=[.val tCr true]
abbrev rs33:List RK:=[.own tCr true]
abbrev R33:=zah rs33×zag ps33
noncomputable def ya1(n:Nat)(a:Int×Int×Li):Option R33 :=
 (q90 n (a.2.2,())).bind fun r0=>some (((a.1,(a.2.1,r0.1.1)),()),())
noncomputable def p33(n:Nat)(a:Int×Int×Li):Option R33:=ya1 n a
noncomputable def q33(n:Nat)(x:zai ps33):Option R33:=p33 n x.1
abbrev ps92:List PK:=[.val (.row 3 i64) false,.val (.row 3 i64) false]
abbrev rs92:List RK:=[.val .bool false]
abbrev R92:=zah rs92×zag ps92
noncomputable def yac(n:Nat)(lL4:Li→Li→Int→Option R92)(a b:Li):Option R92 :=
 cond (!decide ((↑a.length:Int)=(↑b.length:Int))) (some ((false,()),())) (lL4 a b (0:Int))
noncomputable def yhe(n:Nat)(lL4:Li→Li→Int→Option R92)(x0 x1:Li)(x2:Int):Option R92 :=
 cond (decide (x2<(↑x0.length:Int))) (cond (decide (0≤x2)) (cond (decide (x2<(↑x0.length:Int))) (cond (decide (0≤x2)) (cond (decide (x2<(↑x1.length:Int))) (cond (!decide (x0.getD x2.toNat (0:Int)=x1.getD x2.toNat (0:Int))) (some ((false,()),())) (lL4 x0 x1 (IntKind.i64.wrap (x2+1)))) none) none) none) none) (some ((true,()),()))
noncomputable def yfw(n:Nat):Nat→Li→Li→Int→Option R92
 |0,_,_,_=>none
 |m+1,x0,x1,x2=>yhe n (yfw n m) x0 x1 x2
noncomputable def p92(n:Nat)(a b:Li):Option R92:=yac n (yfw n n) a b
noncomputable def q92(n:Nat)(x:zai ps92):Option R92:=p92 n x.1 x.2.1
abbrev ps35:List PK:=[.val tCr true,.val tCr true]
abbrev rs35:List RK:=[.val .bool false]
abbrev R35:=zah rs35×zag ps35
noncomputable def yaz(n:Nat)(a b:Int×Int×Li):Option R35 :=
 cond (!decide (a.1=b.1)) (some ((false,()),())) (cond (!decide (a.2.1=b.2.1)) (some ((false,()),())) ((q92 n (a.2.2,b.2.2,())).bind fun r0=>cond (!r0.1.1) (some ((false,()),())) (some ((true,()),()))))
noncomputable def p35(n:Nat)(a b:Int×Int×Li):Option R35:=yaz n a b
noncomputable def q35(n:Nat)(x:zai ps35):Option R35:=p35 n x.1 x.2.1
abbrev ps96:List PK:=[.val tLf false,.val i64 false]
abbrev rs96:List RK:=[.val i64 false]
abbrev R96:=zah rs96×zag ps96
noncomputable def zz9(n:Nat)(lL5:(List NT)→Int→Int→Option R96)(a:List NT)(b:Int):Option R96 :=
 cond (decide (IntKind.i64.wrap (b - (↑a.length:Int))<(0:Int))) (some (((-1:Int),()),())) (lL5 a (IntKind.i64.wrap (b - (↑a.length:Int))) (0:Int))
noncomputable def yha(n:Nat)(lL5:(List NT)→Int→Int→Option R96)(x0:List NT)(x1 x2:Int):Option R96 :=
 cond (decide (x2<(↑x0.length:Int))) (cond (decide (0≤x2)) (cond (decide (x2<(↑x0.length:Int))) ((q133 n (((x0.getD x2.toNat ZN).1,(x0.getD x2.toNat ZN).2.1,(x0.getD x2.toNat ZN).2.2.1,(x0.getD x2.toNat ZN).2.2.2.1,(x0.getD x2.toNat ZN).2.2.2.2.1,(x0.getD x2.toNat ZN).2.2.2.2.2.1,(x0.getD x2.toNat ZN).2.2.2.2.2.2.1,(x0.getD x2.toNat ZN).2.2.2.2.2.2.2.1,(x0.getD x2.toNat ZN).2.2.2.2.2.2.2.2),x1,())).bind fun r1=>cond (decide (r1.1.1<(0:Int))) (some (((-1:Int),()),())) (lL5 x0 r1.1.1 (IntKind.i64.wrap (x2+1)))) none) none) (some ((x1,()),()))
noncomputable def yfs(n:Nat):Nat→(List NT)→Int→Int→Option R96
 |0,_,_,_=>none
 |m+1,x0,x1,x2=>yha n (yfs n m) x0 x1 x2
noncomputable def p96(n:Nat)(a:List NT)(b:Int):Option R96:=zz9 n (yfs n n) a b
noncomputable def q96(n:Nat)(x:zai ps96):Option R96:=p96 n x.1 x.2.1
abbrev ps39:List PK:=[.val tLf true,.val i64 false]
abbrev rs39:List RK:=[.val i64 false]
abbrev R39:=zah rs39×zag ps39
noncomputable def yav(n:Nat)(a:List NT)(b:Int):Option R39 :=
 (q96 n (a,b,())).bind fun r0=>cond (decide (r0.1.1<(0:Int))) (some (((-1:Int),()),())) (some ((r0.1.1,()),()))
noncomputable def p39(n:Nat)(a:List NT)(b:Int):Option R39:=yav n a b
noncomputable def q39(n:Nat)(x:zai ps39):Option R39:=p39 n x.1 x.2.1
abbrev ps97:List PK:=[.val tLf false]
abbrev rs97:List RK:=[.own tFs false]
abbrev R97:=zah rs97×zag ps97
noncomputable def zz8(n:Nat)(lL3:(List NT)→Int→(List NT)→Option R97)(a:List NT):Option R97 :=
 cond (decide ((↑a.length:Int)*(↑(96:Nat):Int)≤(140737488355328:Int))) (lL3 a (0:Int) (List.replicate (↑a.length:Int).toNat ZN)) none
noncomputable def yg_(n:Nat)(lL3:(List NT)→Int→(List NT)→Option R97)(x0:List NT)(x1:Int)(x2:List NT):Option R97 :=
 cond (decide (x1<(↑x0.length:Int))) (cond (decide (0≤x1)) (cond (decide (x1<(↑x0.length:Int))) ((q134 n (((x0.getD x1.toNat ZN).1,(x0.getD x1.toNat ZN).2.1,(x0.getD x1.toNat ZN).2.2.1,(x0.getD x1.toNat ZN).2.2.2.1,(x0.getD x1.toNat ZN).2.2.2.2.1,(x0.getD x1.toNat ZN).2.2.2.2.2.1,(x0.getD x1.toNat ZN).2.2.2.2.2.2.1,(x0.getD x1.toNat ZN).2.2.2.2.2.2.2.1,(x0.getD x1.toNat ZN).2.2.2.2.2.2.2.2),())).bind fun r1=>cond (decide (0≤x1)) (cond (decide (x1<(↑x2.length:Int))) (lL3 x0 (IntKind.i64.wrap (x1+1)) (x2.set x1.toNat (r1.1.1.1,r1.1.1.2.1,r1.1.1.2.2.1,r1.1.1.2.2.2.1,r1.1.1.2.2.2.2.1,r1.1.1.2.2.2.2.2.1,r1.1.1.2.2.2.2.2.2.1,r1.1.1.2.2.2.2.2.2.2.1,r1.1.1.2.2.2.2.2.2.2.2))) none) none) none) none) (some ((x2,()),()))
noncomputable def yfr(n:Nat):Nat→(List NT)→Int→(List NT)→Option R97
 |0,_,_,_=>none
 |m+1,x0,x1,x2=>yg_ n (yfr n m) x0 x1 x2
noncomputable def p97(n:Nat)(a:List NT):Option R97:=zz8 n (yfr n n) a
noncomputable def q97(n:Nat)(x:zai ps97):Option R97:=p97 n x.1
abbrev ps40:List PK:=[.val tLf true]
abbrev rs40:List RK:=[.own tFs true]
abbrev R40:=zah rs40×zag ps40
noncomputable def yau(n:Nat)(a:List NT):Option R40 :=
 (q97 n (a,())).bind fun r0=>some ((r0.1.1,()),())
noncomputable def p40(n:Nat)(a:List NT):Option R40:=yau n a
noncomputable def q40(n:Nat)(x:zai ps40):Option R40:=p40 n x.1
abbrev ps98:List PK:=[.val tFs false,.val tFs false]
abbrev rs98:List RK:=[.val .bool false]
abbrev R98:=zah rs98×zag ps98
noncomputable def zz7(n:Nat)(lL4:(List NT)→(List NT)→Int→Option R98)(a b:List NT):Option R98 :=
 cond (!decide ((↑a.length:Int)=(↑b.length:Int))) (some ((false,()),())) (lL4 a b (0:Int))
noncomputable def yg9(n:Nat)(lL4:(List NT)→(List NT)→Int→Option R98)(x0 x1:List NT)(x2:Int):Option R98 :=
 cond (decide (x2<(↑x0.length:Int))) (cond (decide (0≤x2)) (cond (decide (x2<(↑x0.length:Int))) (cond (decide (0≤x2)) (cond (decide (x2<(↑x1.length:Int))) ((q135 n (((x0.getD x2.toNat ZN).1,(x0.getD x2.toNat ZN).2.1,(x0.getD x2.toNat ZN).2.2.1,(x0.getD x2.toNat ZN).2.2.2.1,(x0.getD x2.toNat ZN).2.2.2.2.1,(x0.getD x2.toNat ZN).2.2.2.2.2.1,(x0.getD x2.toNat ZN).2.2.2.2.2.2.1,(x0.getD x2.toNat ZN).2.2.2.2.2.2.2.1,(x0.getD x2.toNat ZN).2.2.2.2.2.2.2.2),((x1.getD x2.toNat ZN).1,(x1.getD x2.toNat ZN).2.1,(x1.getD x2.toNat ZN).2.2.1,(x1.getD x2.toNat ZN).2.2.2.1,(x1.getD x2.toNat ZN).2.2.2.2.1,(x1.getD x2.toNat ZN).2.2.2.2.2.1,(x1.getD x2.toNat ZN).2.2.2.2.2.2.1,(x1.getD x2.toNat ZN).2.2.2.2.2.2.2.1,(x1.getD x2.toNat ZN).2.2.2.2.2.2.2.2),())).bind fun r1=>cond (!r1.1.1) (some ((false,()),())) (lL4 x0 x1 (IntKind.i64.wrap (x2+1)))) none) none) none) none) (some ((true,()),()))
noncomputable def yfq(n:Nat):Nat→(List NT)→(List NT)→Int→Option R98
 |0,_,_,_=>none
 |m+1,x0,x1,x2=>yg9 n (yfq n m) x0 x1 x2
noncomputable def p98(n:Nat)(a b:List NT):Option R98:=zz7 n (yfq n n) a b
noncomputable def q98(n:Nat)(x:zai ps98):Option R98:=p98 n x.1 x.2.1
abbrev ps41:List PK:=[.val tFs true,.val tFs true]
abbrev rs41:List RK:=[.val .bool false]
abbrev R41:=zah rs41×zag ps41
noncomputable def yat(n:Nat)(a b:List NT):Option R41 :=
 (q98 n (a,b,())).bind fun r0=>cond (!r0.1.1) (some ((false,()),())) (some ((true,()),()))
noncomputable def p41(n:Nat)(a b:List NT):Option R41:=yat n a b
noncomputable def q41(n:Nat)(x:zai ps41):Option R41:=p41 n x.1 x.2.1
noncomputable def c68:Code:=(Try.f68.body.getD .skip)
def an68:An:=⟨fun r=>match r with|4=>⟨[2,3,5],[]⟩|_=>⟨[],[]⟩,fun _ _=>none⟩
abbrev ps68:List PK:=[.val (tIn 100) true,.val (tIn 100) true]
abbrev rs68:List RK:=[.val .bool false]
abbrev R68:=zah rs68×zag ps68
noncomputable def G68:Gam:=fun _=>none
noncomputable def at68:Nat→Pt→List Nat→St→Option R68:=atF TT G68 an68 Try.f68 c68 _ _
def zj0(x0 x1 x2 x3 x4 x5 x6:Int)(x7:Bool)(x8:ByteArray)(x9:List (ByteArray×Int))(x10 x11 x12 x13 x14 x15:Int)(x16:Bool)(x17:ByteArray)(x18:List (ByteArray×Int)):St:=(St.mk ([Uu,Uu,AV.one (SV.bptr 1000000 0),AV.one (SV.bptr 1000001 0),Uu,Ai x0]++Ur 81) [(1000000,(Ent.box [Si x1,Si x2,Si x3,Si x4,Si x5,Si x6,SV.bool x7,SV.str x8,SV.con (⟨100,Ty.str.pair (Ty.int .i64),x9⟩:Rw)])),(1000001,(Ent.box [Si x10,Si x11,Si x12,Si x13,Si x14,Si x15,SV.bool x16,SV.str x17,SV.con (⟨100,Ty.str.pair (Ty.int .i64),x18⟩:Rw)]))])
noncomputable def zio(n:Nat)(lL4:Int→Int→Int→Int→Int→Int→Int→Bool→ByteArray→(List (ByteArray×Int))→Int→Int→Int→Int→Int→Int→Bool→ByteArray→(List (ByteArray×Int))→Option R68)(a b:NT):Option R68 :=
 cond (!decide (a.1=b.1)) (some ((false,()),())) (cond (!decide (a.2.1=b.2.1)) (some ((false,()),())) (cond (!decide (a.2.2.1=b.2.2.1)) (some ((false,()),())) (cond (!decide (a.2.2.2.1=b.2.2.2.1)) (some ((false,()),())) (cond (!decide (a.2.2.2.2.1=b.2.2.2.2.1)) (some ((false,()),())) (cond (!decide (a.2.2.2.2.2.1=b.2.2.2.2.2.1)) (some ((false,()),())) (cond (!a.2.2.2.2.2.2.1 == b.2.2.2.2.2.2.1) (some ((false,()),())) (cond (!ByteArray.toList a.2.2.2.2.2.2.2.1 == ByteArray.toList b.2.2.2.2.2.2.2.1) (some ((false,()),())) (cond (!decide ((↑(List.length a.2.2.2.2.2.2.2.2):Int)=(↑(List.length b.2.2.2.2.2.2.2.2):Int))) (some ((false,()),())) (lL4 (0:Int) a.1 a.2.1 a.2.2.1 a.2.2.2.1 a.2.2.2.2.1 a.2.2.2.2.2.1 a.2.2.2.2.2.2.1 a.2.2.2.2.2.2.2.1 a.2.2.2.2.2.2.2.2 b.1 b.2.1 b.2.2.1 b.2.2.2.1 b.2.2.2.2.1 b.2.2.2.2.2.1 b.2.2.2.2.2.2.1 b.2.2.2.2.2.2.2.1 b.2.2.2.2.2.2.2.2)))))))))
noncomputable def zg_(n:Nat)(lL4:Int→Int→Int→Int→Int→Int→Int→Bool→ByteArray→(List (ByteArray×Int))→Int→Int→Int→Int→Int→Int→Bool→ByteArray→(List (ByteArray×Int))→Option R68)(x0 x1 x2 x3 x4 x5 x6:Int)(x7:Bool)(x8:ByteArray)(x9:List (ByteArray×Int))(x10 x11 x12 x13 x14 x15:Int)(x16:Bool)(x17:ByteArray)(x18:List (ByteArray×Int)):Option R68 :=
 cond (decide (x0<(↑x9.length:Int))) (cond (decide (0≤x0)) (cond (decide (x0<(↑x9.length:Int))) (cond (decide (0≤x0)) (cond (decide (x0<(↑x18.length:Int))) (cond (!(ByteArray.toList (x9.getD x0.toNat (ByteArray.empty,(0:Int))).1 == ByteArray.toList (x18.getD x0.toNat (ByteArray.empty,(0:Int))).1&&(decide ((x9.getD x0.toNat (ByteArray.empty,(0:Int))).2=(x18.getD x0.toNat (ByteArray.empty,(0:Int))).2)&&true))) (some ((false,()),())) (lL4 (IntKind.i64.wrap (x0+1)) x1 x2 x3 x4 x5 x6 x7 x8 x9 x10 x11 x12 x13 x14 x15 x16 x17 x18)) none) none) none) none) (some ((true,()),()))
theorem yj4(n:Nat)(a b:NT):runF TT G68 an68 Try.f68 c68 ps68 rs68 n (a,b,())=zio n (fun x0 x1 x2 x3 x4 x5 x6 x7 x8 x9 x10 x11 x12 x13 x14 x15 x16 x17 x18=>at68 n (.head 4) [n] (zj0 x0 x1 x2 x3 x4 x5 x6 x7 x8 x9 x10 x11 x12 x13 x14 x15 x16 x17 x18)) a b:=by kernel_rfl
theorem yds(n:Nat)(x0 x1 x2 x3 x4 x5 x6:Int)(x7:Bool)(x8:ByteArray)(x9:List (ByteArray×Int))(x10 x11 x12 x13 x14 x15:Int)(x16:Bool)(x17:ByteArray)(x18:List (ByteArray×Int)):at68 n (.head 4) [0] (zj0 x0 x1 x2 x3 x4 x5 x6 x7 x8 x9 x10 x11 x12 x13 x14 x15 x16 x17 x18)=none:=by kernel_rfl
theorem ypp(n m4:Nat)(x0 x1 x2 x3 x4 x5 x6:Int)(x7:Bool)(x8:ByteArray)(x9:List (ByteArray×Int))(x10 x11 x12 x13 x14 x15:Int)(x16:Bool)(x17:ByteArray)(x18:List (ByteArray×Int)):at68 n (.head 4) [m4+1] (zj0 x0 x1 x2 x3 x4 x5 x6 x7 x8 x9 x10 x11 x12 x13 x14 x15 x16 x17 x18)=zg_ n (fun x0 x1 x2 x3 x4 x5 x6 x7 x8 x9 x10 x11 x12 x13 x14 x15 x16 x17 x18=>at68 n (.head 4) [m4] (zj0 x0 x1 x2 x3 x4 x5 x6 x7 x8 x9 x10 x11 x12 x13 x14 x15 x16 x17 x18)) x0 x1 x2 x3 x4 x5 x6 x7 x8 x9 x10 x11 x12 x13 x14 x15 x16 x17 x18:=by kernel_rfl
noncomputable def zkk(n:Nat):Nat→Int→Int→Int→Int→Int→Int→Int→Bool→ByteArray→(List (ByteArray×Int))→Int→Int→Int→Int→Int→Int→Bool→ByteArray→(List (ByteArray×Int))→Option R68
 |0,_,_,_,_,_,_,_,_,_,_,_,_,_,_,_,_,_,_,_=>none
 |m+1,x0,x1,x2,x3,x4,x5,x6,x7,x8,x9,x10,x11,x12,x13,x14,x15,x16,x17,x18=>zg_ n (zkk n m) x0 x1 x2 x3 x4 x5 x6 x7 x8 x9 x10 x11 x12 x13 x14 x15 x16 x17 x18
noncomputable def p68(n:Nat)(a b:NT):Option R68:=zio n (zkk n n) a b
theorem ymn(n:Nat):∀ (m4:Nat) (x0 x1 x2 x3 x4 x5 x6:Int) (x7:Bool) (x8:ByteArray) (x9:List (ByteArray×Int)) (x10 x11 x12 x13 x14 x15:Int) (x16:Bool) (x17:ByteArray) (x18:List (ByteArray×Int)),at68 n (.head 4) [m4] (zj0 x0 x1 x2 x3 x4 x5 x6 x7 x8 x9 x10 x11 x12 x13 x14 x15 x16 x17 x18)=zkk n m4 x0 x1 x2 x3 x4 x5 x6 x7 x8 x9 x10 x11 x12 x13 x14 x15 x16 x17 x18:=by
 intro m
 induction m with
 |zero=>intros;rw[yds];rfl
 |succ m ih =>
  intros;rw[ypp]
  try simp only[ih]
  rfl
noncomputable def q68(n:Nat)(x:zai ps68):Option R68:=p68 n x.1 x.2.1
noncomputable def Sm68:Sm:=⟨ps68,rs68,false,q68⟩
theorem gam68:GamOK Try.prog G68:=fun _ _ h=>by cases h
theorem hh68:Hp 68 Sm68:=hOf (zaf (an:=an68) (c:=c68) zaw gam68 zau Try.func68 (by kernel_rfl) rfl (by decide +kernel)) fun n x=>(yj4 n x.1 x.2.1).trans (by simp only[ymn];try rfl)
theorem y68:Gk 68 Sm68:=⟨⟨Try.f68,c68,Try.func68,by kernel_rfl,by decide +kernel⟩,hh68⟩
noncomputable def c18:Code:=(Try.f18.body.getD .skip)
def an18:An:=⟨fun r=>match r with|4=>⟨[2,3,5],[]⟩|_=>⟨[],[]⟩,fun _ _=>none⟩
abbrev ps18:List PK:=[.val tFs true,.val tFs true]
abbrev rs18:List RK:=[.val .bool false]
abbrev R18:=zah rs18×zag ps18
noncomputable def G18:Gam:=fun f=>match f with|68=>some Sm68|_=>none
noncomputable def at18:Nat→Pt→List Nat→St→Option R18:=atF TT G18 an18 Try.f18 c18 _ _
def zj7(x0:Int)(x1 x2:List NT):St:=(St.mk ([Uu,Uu,AV.one (SV.bptr 1000000 0),AV.one (SV.bptr 1000001 0),Uu,Ai x0]++Ur 26) [(1000000,(Ent.box [SV.con (⟨37,(Ty.int .i64).pair ((Ty.int .i64).pair ((Ty.int .i64).pair ((Ty.int .i64).pair ((Ty.int .i64).pair ((Ty.int .i64).pair (Ty.bool.pair (Ty.str.pair (Ty.row (nat_lit 100) (Ty.str.pair (Ty.int .i64)))))))))),x1⟩:Rw)])),(1000001,(Ent.box [SV.con (⟨37,(Ty.int .i64).pair ((Ty.int .i64).pair ((Ty.int .i64).pair ((Ty.int .i64).pair ((Ty.int .i64).pair ((Ty.int .i64).pair (Ty.bool.pair (Ty.str.pair (Ty.row (nat_lit 100) (Ty.str.pair (Ty.int .i64)))))))))),x2⟩:Rw)]))])
noncomputable def zi3(n:Nat)(lL4:Int→(List NT)→(List NT)→Option R18)(a b:List NT):Option R18 :=
 cond (!decide ((↑a.length:Int)=(↑b.length:Int))) (some ((false,()),())) (lL4 (0:Int) a b)
noncomputable def zhg(n:Nat)(lL4:Int→(List NT)→(List NT)→Option R18)(x0:Int)(x1 x2:List NT):Option R18 :=
 cond (decide (x0<(↑x1.length:Int))) (cond (decide (0≤x0)) (cond (decide (x0<(↑x1.length:Int))) (cond (decide (0≤x0)) (cond (decide (x0<(↑x2.length:Int))) ((q68 n (((x1.getD x0.toNat ZN).1,(x1.getD x0.toNat ZN).2.1,(x1.getD x0.toNat ZN).2.2.1,(x1.getD x0.toNat ZN).2.2.2.1,(x1.getD x0.toNat ZN).2.2.2.2.1,(x1.getD x0.toNat ZN).2.2.2.2.2.1,(x1.getD x0.toNat ZN).2.2.2.2.2.2.1,(x1.getD x0.toNat ZN).2.2.2.2.2.2.2.1,(x1.getD x0.toNat ZN).2.2.2.2.2.2.2.2),((x2.getD x0.toNat ZN).1,(x2.getD x0.toNat ZN).2.1,(x2.getD x0.toNat ZN).2.2.1,(x2.getD x0.toNat ZN).2.2.2.1,(x2.getD x0.toNat ZN).2.2.2.2.1,(x2.getD x0.toNat ZN).2.2.2.2.2.1,(x2.getD x0.toNat ZN).2.2.2.2.2.2.1,(x2.getD x0.toNat ZN).2.2.2.2.2.2.2.1,(x2.getD x0.toNat ZN).2.2.2.2.2.2.2.2),())).bind fun r1=>cond (!r1.1.1) (some ((false,()),())) (lL4 (IntKind.i64.wrap (x0+1)) x1 x2)) none) none) none) none) (some ((true,()),()))
theorem ykq(n:Nat)(a b:List NT):runF TT G18 an18 Try.f18 c18 ps18 rs18 n (a,b,())=zi3 n (fun x0 x1 x2=>at18 n (.head 4) [n] (zj7 x0 x1 x2)) a b:=by kernel_rfl
theorem yd1(n:Nat)(x0:Int)(x1 x2:List NT):at18 n (.head 4) [0] (zj7 x0 x1 x2)=none:=by kernel_rfl
theorem ypz(n m4:Nat)(x0:Int)(x1 x2:List NT):at18 n (.head 4) [m4+1] (zj7 x0 x1 x2)=zhg n (fun x0 x1 x2=>at18 n (.head 4) [m4] (zj7 x0 x1 x2)) x0 x1 x2:=by kernel_rfl
noncomputable def zkq(n:Nat):Nat→Int→(List NT)→(List NT)→Option R18
 |0,_,_,_=>none
 |m+1,x0,x1,x2=>zhg n (zkq n m) x0 x1 x2
noncomputable def p18(n:Nat)(a b:List NT):Option R18:=zi3 n (zkq n n) a b
theorem ymw(n:Nat):∀ (m4:Nat) (x0:Int) (x1 x2:List NT),at18 n (.head 4) [m4] (zj7 x0 x1 x2)=zkq n m4 x0 x1 x2:=by
 intro m
 induction m with
 |zero=>intros;rw[yd1];rfl
 |succ m ih =>
  intros;rw[ypz]
  try simp only[ih]
  rfl
noncomputable def q18(n:Nat)(x:zai ps18):Option R18:=p18 n x.1 x.2.1
noncomputable def Sm18:Sm:=⟨ps18,rs18,false,q18⟩
theorem gam18:GamOK Try.prog G18:=by intro f s h;unfold G18 at h;split at h;exact gj h y68;cases h
theorem hh18:Hp 18 Sm18:=hOf (zaf (an:=an18) (c:=c18) zaw gam18 zau Try.func18 (by kernel_rfl) rfl (by decide +kernel)) fun n x=>(ykq n x.1 x.2.1).trans (by simp only[ymw];try rfl)
theorem y18:Gk 18 Sm18:=⟨⟨Try.f18,c18,Try.func18,by kernel_rfl,by decide +kernel⟩,hh18⟩
abbrev ps22:List PK:=[.val tFs true,.val tCr true,.val i64 false,.val .str false]
abbrev rs22:List RK:=[.own tFs true,.val i64 false]
abbrev R22:=zah rs22×zag ps22
noncomputable def ya5(n:Nat)(a:List NT)(b:Int×Int×Li)(c:Int)(d:ByteArray):Option R22 :=
 (q63 n (a,())).bind fun r0=>cond (!r0.1.1) (some (([],((1:Int),())),())) ((q64 n ((b.1,b.2.1,b.2.2),())).bind fun r1=>cond (!r1.1.1) (some (([],((1:Int),())),())) ((q65 n (a,c,())).bind fun r2=>cond (!r2.1.1) (some (([],((1:Int),())),())) ((q76 n (d,())).bind fun r3=>cond (!r3.1.1) (some (([],((1:Int),())),())) ((q67 n (a,())).bind fun r4=>(q77 n (r4.1.1,(b.1,b.2.1,b.2.2),c,d,())).bind fun r5=>some ((r5.1.1,(r5.1.2.1,())),())))))
noncomputable def p22(n:Nat)(a:List NT)(b:Int×Int×Li)(c:Int)(d:ByteArray):Option R22:=ya5 n a b c d
noncomputable def q22(n:Nat)(x:zai ps22):Option R22:=p22 n x.1 x.2.1 x.2.2.1 x.2.2.2.1
noncomputable def c7:Code:=(Try.f7.body.getD .skip)
abbrev ps7:List PK:=[.val tLf true,.val tCr true,.val i64 false,.val .str false]
abbrev rs7:List RK:=[.val .bool false]
abbrev R7:=zah rs7×zag ps7
noncomputable def yhk(n:Nat)(a:List NT)(b:Int×Int×Li)(c:Int)(d:ByteArray):Option R7 :=
 cond (decide ((1048576:Int)<(↑d.size:Int))) (some ((true,()),())) ((q39 n (a,(1048576:Int),())).bind fun r0=>cond (decide (r0.1.1<(0:Int))) (some ((true,()),())) ((q31 n ((b.1,b.2.1,b.2.2),r0.1.1,())).bind fun r1=>cond (decide (r1.1.1<(0:Int))) (some ((true,()),())) ((q40 n (a,())).bind fun r2=>(q33 n ((b.1,b.2.1,b.2.2),())).bind fun r3=>(q22 n (r2.1.1,(r3.1.1.1,r3.1.1.2.1,r3.1.1.2.2),c,d,())).bind fun r4=>(q40 n (a,())).bind fun r5=>(q33 n ((b.1,b.2.1,b.2.2),())).bind fun r6=>(q21 n (r5.1.1,(r6.1.1.1,r6.1.1.2.1,r6.1.1.2.2),c,d,())).bind fun r7=>(q41 n (r7.1.1,r4.1.1,())).bind fun r8=>cond (!r8.1.1) (some ((false,()),())) (cond (!decide (r7.1.2.1=r4.1.2.1)) (some ((false,()),())) ((q40 n (a,())).bind fun r9=>(q41 n (r5.1.1,r9.1.1,())).bind fun r10=>cond (!r10.1.1) (some ((false,()),())) ((q33 n ((b.1,b.2.1,b.2.2),())).bind fun r11=>(q35 n ((r6.1.1.1,r6.1.1.2.1,r6.1.1.2.2),(r11.1.1.1,r11.1.1.2.1,r11.1.1.2.2),())).bind fun r12=>cond (!r12.1.1) (some ((false,()),())) ((q42 n (r5.1.1,(1:Int),())).bind fun r13=>(q37 n ((r6.1.1.1,r6.1.1.2.1,r6.1.1.2.2),r13.1.1,())).bind fun r14=>cond (decide (r14.1.1<(0:Int))) (some ((false,()),())) ((q41 n (r7.1.1,r4.1.1,())).bind fun r15=>cond (!r15.1.1) (some ((false,()),())) (cond (!decide (r7.1.2.1=r4.1.2.1)) (some ((false,()),())) ((q42 n (r7.1.1,(1:Int),())).bind fun r16=>(q43 n (r16.2.1,(1:Int),())).bind fun r17=>cond (decide (r17.1.1<(0:Int))) (some ((false,()),())) (cond (!decide (r17.1.1=r16.1.1)) (some ((false,()),())) ((q40 n (a,())).bind fun r18=>(q33 n ((b.1,b.2.1,b.2.2),())).bind fun r19=>(q21 n (r18.1.1,(r19.1.1.1,r19.1.1.2.1,r19.1.1.2.2),c,d,())).bind fun r20=>(q41 n (r20.1.1,r4.1.1,())).bind fun r21=>cond (!r21.1.1) (some ((false,()),())) (cond (!decide (r20.1.2.1=r4.1.2.1)) (some ((false,()),())) ((q43 n (r16.2.1,(1:Int),())).bind fun r22=>cond (decide (r22.1.1<(0:Int))) (some ((false,()),())) (cond (!decide (r22.1.1=r16.1.1)) (some ((false,()),())) (some ((true,()),())))))))))))))))))
noncomputable def p7(n:Nat)(a:List NT)(b:Int×Int×Li)(c:Int)(d:ByteArray):Option R7:=yhk n a b c d
noncomputable def q7(n:Nat)(x:zai ps7):Option R7:=p7 n x.1 x.2.1 x.2.2.1 x.2.2.2.1
noncomputable def c130:Code:=(Try.f130.body.getD .skip)
def yp_:An:=⟨fun _=>⟨[],[]⟩,fun _ _=>none⟩
abbrev yb4:List PK:=[.val (tIn 100) true]
abbrev yhz:List RK:=[.val .bool false]
abbrev R130:=zah yhz×zag yb4
noncomputable def G130:Gam:=fun _=>none
noncomputable def zog(n:Nat)(a:NT):Option R130 :=
 some ((decide ((0:Int)<a.2.2.2.2.2.1),()),())
theorem yec(n:Nat)(a:NT):runF TT G130 yp_ Try.f130 c130 yb4 yhz n (a,())=zog n a:=by kernel_rfl
noncomputable def p130(n:Nat)(a:NT):Option R130:=zog n a
noncomputable def q130(n:Nat)(x:zai yb4):Option R130:=p130 n x.1
noncomputable def zzq:Sm:=⟨yb4,yhz,false,q130⟩
theorem yo2:GamOK Try.prog G130:=fun _ _ h=>by cases h
theorem hh130:Hp 130 zzq:=hOf (zaf (an:=yp_) (c:=c130) zaw yo2 zau Try.func130 (by kernel_rfl) rfl (by decide +kernel)) fun n x=>(yec n x.1).trans rfl
theorem y130:Gk 130 zzq:=⟨⟨Try.f130,c130,Try.func130,by kernel_rfl,by decide +kernel⟩,hh130⟩
noncomputable def ye1:Code:=(Try.f103.body.getD .skip)
def zza:An:=⟨fun r=>match r with|2=>⟨[0,1,7,8],[]⟩|_=>⟨[],[]⟩,fun _ _=>none⟩
abbrev zr8:List PK:=[.val tFs false,.fn 130 []]
abbrev zvw:List RK:=[.val i64 false]
abbrev zp5:=zah zvw×zag zr8
noncomputable def yfg:Gam:=fun f=>match f with|130=>some zzq|_=>none
noncomputable def zps:Nat→Pt→List Nat→St→Option zp5:=atF TT yfg zza Try.f103 ye1 _ _
def zdr(x0:List NT)(x1 x2:Int):St:=(St.mk ([AV.one (SV.con (⟨37,(Ty.int .i64).pair ((Ty.int .i64).pair ((Ty.int .i64).pair ((Ty.int .i64).pair ((Ty.int .i64).pair ((Ty.int .i64).pair (Ty.bool.pair (Ty.str.pair (Ty.row (nat_lit 100) (Ty.str.pair (Ty.int .i64)))))))))),x0⟩:Rw)),AV.fn 130 [],Uu,Uu,Uu,Uu,Uu,Ai x1,Ai x2]++Ur 10) [])
noncomputable def zly(n:Nat)(lL2:(List NT)→Int→Int→Option zp5)(a:List NT)(b:Unit):Option zp5 :=
 lL2 a ((↑a.length:Int)) (0:Int)
noncomputable def zct(n:Nat)(lL2:(List NT)→Int→Int→Option zp5)(x0:List NT)(x1 x2:Int):Option zp5 :=
 cond (decide (x2<x1)) (cond (decide (0≤x2)) (cond (decide (x2<(↑x0.length:Int))) ((q130 n (((x0.getD x2.toNat ZN).1,(x0.getD x2.toNat ZN).2.1,(x0.getD x2.toNat ZN).2.2.1,(x0.getD x2.toNat ZN).2.2.2.1,(x0.getD x2.toNat ZN).2.2.2.2.1,(x0.getD x2.toNat ZN).2.2.2.2.2.1,(x0.getD x2.toNat ZN).2.2.2.2.2.2.1,(x0.getD x2.toNat ZN).2.2.2.2.2.2.2.1,(x0.getD x2.toNat ZN).2.2.2.2.2.2.2.2),())).bind fun r1=>cond r1.1.1 (some ((x2,()),())) (lL2 x0 x1 (IntKind.i64.wrap (x2+1)))) none) none) (some (((-1:Int),()),()))
theorem zx5(n:Nat)(a:List NT)(b:Unit):runF TT yfg zza Try.f103 ye1 zr8 zvw n (a,b,())=zly n (fun x0 x1 x2=>zps n (.head 2) [n] (zdr x0 x1 x2)) a b:=by kernel_rfl
theorem zud(n:Nat)(x0:List NT)(x1 x2:Int):zps n (.head 2) [0] (zdr x0 x1 x2)=none:=by kernel_rfl
theorem ydn(n m2:Nat)(x0:List NT)(x1 x2:Int):zps n (.head 2) [m2+1] (zdr x0 x1 x2)=zct n (fun x0 x1 x2=>zps n (.head 2) [m2] (zdr x0 x1 x2)) x0 x1 x2:=by kernel_rfl
noncomputable def zet(n:Nat):Nat→(List NT)→Int→Int→Option zp5
 |0,_,_,_=>none
 |m+1,x0,x1,x2=>zct n (zet n m) x0 x1 x2
noncomputable def ynr(n:Nat)(a:List NT)(b:Unit):Option zp5:=zly n (zet n n) a b
theorem zz2(n:Nat):∀ (m2:Nat) (x0:List NT) (x1 x2:Int),zps n (.head 2) [m2] (zdr x0 x1 x2)=zet n m2 x0 x1 x2:=by
 intro m
 induction m with
 |zero=>intros;rw[zud];rfl
 |succ m ih =>
  intros;rw[ydn]
  try simp only[ih]
  rfl
noncomputable def yij(n:Nat)(x:zai zr8):Option zp5:=ynr n x.1 x.2.1
noncomputable def zzo:Sm:=⟨zr8,zvw,false,yij⟩
theorem yji:GamOK Try.prog yfg:=by intro f s h;unfold yfg at h;split at h;exact gj h y130;cases h
theorem yol:Hp 103 zzo:=hOf (zaf (an:=zza) (c:=ye1) zaw yji zau Try.func103 (by kernel_rfl) rfl (by decide +kernel)) fun n x=>(zx5 n x.1 x.2.1).trans (by simp only[zz2];try rfl)
theorem y9103:Gk 103 zzo:=⟨⟨Try.f103,ye1,Try.func103,by kernel_rfl,by decide +kernel⟩,yol⟩
noncomputable def c129:Code:=(Try.f129.body.getD .skip)
def yqa:An:=⟨fun _=>⟨[],[]⟩,fun _ _=>none⟩
abbrev yb5:List PK:=[.val tFs false,.fn 130 []]
abbrev yh0:List RK:=[.val .bool false]
abbrev R129:=zah yh0×zag yb5
noncomputable def G129:Gam:=fun f=>match f with|103=>some zzo|130=>some zzq|_=>none
noncomputable def zfu(n:Nat)(a:List NT)(b:Unit):Option R129 :=
 (yij n (a,(),())).bind fun r0=>some ((decide ((0:Int)≤r0.1.1),()),())
theorem yed(n:Nat)(a:List NT)(b:Unit):runF TT G129 yqa Try.f129 c129 yb5 yh0 n (a,b,())=zfu n a b:=by kernel_rfl
noncomputable def p129(n:Nat)(a:List NT)(b:Unit):Option R129:=zfu n a b
noncomputable def q129(n:Nat)(x:zai yb5):Option R129:=p129 n x.1 x.2.1
noncomputable def yly:Sm:=⟨yb5,yh0,false,q129⟩
theorem yo3:GamOK Try.prog G129:=by intro f s h;unfold G129 at h;split at h;exact gj h y9103;exact gj h y130;cases h
theorem hh129:Hp 129 yly:=hOf (zaf (an:=yqa) (c:=c129) zaw yo3 zau Try.func129 (by kernel_rfl) rfl (by decide +kernel)) fun n x=>(yed n x.1 x.2.1).trans rfl
theorem y129:Gk 129 yly:=⟨⟨Try.f129,c129,Try.func129,by kernel_rfl,by decide +kernel⟩,hh129⟩
noncomputable def c81:Code:=(Try.f81.body.getD .skip)
def an81:An:=⟨fun _=>⟨[],[]⟩,fun _ _=>none⟩
abbrev ps81:List PK:=[.val tFs true]
abbrev rs81:List RK:=[.val .bool false]
abbrev R81:=zah rs81×zag ps81
noncomputable def G81:Gam:=fun f=>match f with|129=>some yly|130=>some zzq|_=>none
noncomputable def zij(n:Nat)(a:List NT):Option R81 :=
 (q129 n (a,(),())).bind fun r0=>some ((r0.1.1,()),())
theorem yjw(n:Nat)(a:List NT):runF TT G81 an81 Try.f81 c81 ps81 rs81 n (a,())=zij n a:=by kernel_rfl
noncomputable def p81(n:Nat)(a:List NT):Option R81:=zij n a
noncomputable def q81(n:Nat)(x:zai ps81):Option R81:=p81 n x.1
noncomputable def Sm81:Sm:=⟨ps81,rs81,false,q81⟩
theorem gam81:GamOK Try.prog G81:=by intro f s h;unfold G81 at h;split at h;exact gj h y129;exact gj h y130;cases h
theorem hh81:Hp 81 Sm81:=hOf (zaf (an:=an81) (c:=c81) zaw gam81 zau Try.func81 (by kernel_rfl) rfl (by decide +kernel)) fun n x=>(yjw n x.1).trans rfl
theorem y81:Gk 81 Sm81:=⟨⟨Try.f81,c81,Try.func81,by kernel_rfl,by decide +kernel⟩,hh81⟩
noncomputable def c29:Code:=(Try.f29.body.getD .skip)
def an29:An:=⟨fun _=>⟨[],[]⟩,fun _ _=>none⟩
abbrev ps29:List PK:=[.val (.pair (.row 25 tFs) i64) true]
abbrev rs29:List RK:=[.val .bool false]
abbrev R29:=zah rs29×zag ps29
noncomputable def G29:Gam:=fun f=>match f with|19=>some Sm19|61=>some Sm61|81=>some Sm81|_=>none
noncomputable def zfh(n:Nat)(a:List (List NT)×Int):Option R29 :=
 cond (!decide ((↑(List.length a.1):Int)=(2:Int))) (some ((false,()),())) (cond (decide ((0:Int)<(↑(List.length a.1):Int))) ((q19 n (List.getD a.1 (Int.toNat (0:Int)) [],())).bind fun r0=>cond (!r0.1.1) (some ((false,()),())) (cond (decide ((1:Int)<(↑(List.length a.1):Int))) ((q19 n (List.getD a.1 (Int.toNat (1:Int)) [],())).bind fun r1=>cond (!r1.1.1) (some ((false,()),())) (cond (decide (a.2=(-1:Int))) (cond (decide ((1:Int)<(↑(List.length a.1):Int))) ((q81 n (List.getD a.1 (Int.toNat (1:Int)) [],())).bind fun r2=>some ((!r2.1.1,()),())) none) ((q61 n (a.2,(1:Int),(9:Int),())).bind fun r3=>cond r3.1.1 (cond (decide ((0:Int)<(↑(List.length a.1):Int))) (cond (decide ((0:Int)≤a.2)) (cond (decide (a.2<(↑(List.length (List.getD a.1 (Int.toNat (0:Int)) [])):Int))) (cond (decide ((List.getD (List.getD a.1 (Int.toNat (0:Int)) []) (Int.toNat a.2) ZN).1=(2:Int))) (cond (decide ((0:Int)<(↑(List.length a.1):Int))) (cond (decide ((0:Int)≤a.2)) (cond (decide (a.2<(↑(List.length (List.getD a.1 (Int.toNat (0:Int)) [])):Int))) (some ((decide ((0:Int)<(List.getD (List.getD a.1 (Int.toNat (0:Int)) []) (Int.toNat a.2) ZN).2.2.2.2.2.1),()),())) none) none) none) (some ((false,()),()))) none) none) none) (some ((false,()),()))))) none)) none)
theorem ykg(n:Nat)(a:List (List NT)×Int):runF TT G29 an29 Try.f29 c29 ps29 rs29 n (a,())=zfh n a:=by kernel_rfl
noncomputable def p29(n:Nat)(a:List (List NT)×Int):Option R29:=zfh n a
noncomputable def q29(n:Nat)(x:zai ps29):Option R29:=p29 n x.1
noncomputable def Sm29:Sm:=⟨ps29,rs29,false,q29⟩
theorem gam29:GamOK Try.prog G29:=by intro f s h;unfold G29 at h;split at h;exact gj h y19;exact gj h y61;exact gj h y81;cases h
theorem hh29:Hp 29 Sm29:=hOf (zaf (an:=an29) (c:=c29) zaw gam29 zau Try.func29 (by kernel_rfl) rfl (by decide +kernel)) fun n x=>(ykg n x.1).trans rfl
theorem y29:Gk 29 Sm29:=⟨⟨Try.f29,c29,Try.func29,by kernel_rfl,by decide +kernel⟩,hh29⟩
noncomputable def c80:Code:=(Try.f80.body.getD .skip)
def an80:An:=⟨fun r=>match r with|3=>⟨[2,3,10,11,12],[(1003,25,tFs)]⟩|_=>⟨[],[]⟩,fun _ _=>none⟩
abbrev ps80:List PK:=[.val (.pair (.row 25 tFs) i64) true]
abbrev rs80:List RK:=[.own (.pair (.row 25 tFs) i64) true]
abbrev R80:=zah rs80×zag ps80
noncomputable def G80:Gam:=fun f=>match f with|62=>some Sm62|_=>none
noncomputable def at80:Nat→Pt→List Nat→St→Option R80:=atF TT G80 an80 Try.f80 c80 _ _
def zjx(x0:List (List NT))(x1 x2 x3 x4:Int)(x5:List (List NT)):St:=(St.mk ([Uu,Uu,AV.one (SV.bptr 1000000 0),AV.one (SV.bptr 1000001 0),Uu,Uu,Uu,Uu,Uu,Uu,AV.one (SV.con (⟨25,Ty.row (nat_lit 37) ((Ty.int .i64).pair ((Ty.int .i64).pair ((Ty.int .i64).pair ((Ty.int .i64).pair ((Ty.int .i64).pair ((Ty.int .i64).pair (Ty.bool.pair (Ty.str.pair (Ty.row (nat_lit 100) (Ty.str.pair (Ty.int .i64))))))))))),x0⟩:Rw)),Ai x1,Ai x2]++Ur 12) [(1000000,(Ent.box [SV.nil,Si x3])),(1000001,(Ent.box [Sr 1000002,Si x4])),(1000002,(Er ⟨25,Ty.row (nat_lit 37) ((Ty.int .i64).pair ((Ty.int .i64).pair ((Ty.int .i64).pair ((Ty.int .i64).pair ((Ty.int .i64).pair ((Ty.int .i64).pair (Ty.bool.pair (Ty.str.pair (Ty.row (nat_lit 100) (Ty.str.pair (Ty.int .i64))))))))))),x5⟩))])
noncomputable def zrt(n:Nat)(lL3:(List (List NT))→Int→Int→Int→Int→(List (List NT))→Option R80)(a:List (List NT)×Int):Option R80 :=
 lL3 a.1 ((↑(List.length a.1):Int)) (0:Int) (0:Int) a.2 ([])
noncomputable def zg8(n:Nat)(lL3:(List (List NT))→Int→Int→Int→Int→(List (List NT))→Option R80)(x0:List (List NT))(x1 x2 x3 x4:Int)(x5:List (List NT)):Option R80 :=
 cond (decide (x2<x1)) (cond (decide (0≤x2)) (cond (decide (x2<(↑x0.length:Int))) ((q62 n (x0.getD x2.toNat [],())).bind fun r1=>cond (decide ((x5.length+[r1.1.1].length)*(24:Nat)≤(140737488355328:Nat))) (lL3 x0 x1 (IntKind.i64.wrap (x2+1)) x3 x4 (x5++[r1.1.1])) none) none) none) (some (((x5,x4),()),()))
theorem yjx(n:Nat)(a:List (List NT)×Int):runF TT G80 an80 Try.f80 c80 ps80 rs80 n (a,())=zrt n (fun x0 x1 x2 x3 x4 x5=>at80 n (.head 3) [n] (zjx x0 x1 x2 x3 x4 x5)) a:=by kernel_rfl
theorem ydp(n:Nat)(x0:List (List NT))(x1 x2 x3 x4:Int)(x5:List (List NT)):at80 n (.head 3) [0] (zjx x0 x1 x2 x3 x4 x5)=none:=by kernel_rfl
theorem ypm(n m3:Nat)(x0:List (List NT))(x1 x2 x3 x4:Int)(x5:List (List NT)):at80 n (.head 3) [m3+1] (zjx x0 x1 x2 x3 x4 x5)=zg8 n (fun x0 x1 x2 x3 x4 x5=>at80 n (.head 3) [m3] (zjx x0 x1 x2 x3 x4 x5)) x0 x1 x2 x3 x4 x5:=by kernel_rfl
noncomputable def zsb(n:Nat):Nat→(List (List NT))→Int→Int→Int→Int→(List (List NT))→Option R80
 |0,_,_,_,_,_,_=>none
 |m+1,x0,x1,x2,x3,x4,x5=>zg8 n (zsb n m) x0 x1 x2 x3 x4 x5
noncomputable def p80(n:Nat)(a:List (List NT)×Int):Option R80:=zrt n (zsb n n) a
theorem ymk(n:Nat):∀ (m3:Nat) (x0:List (List NT)) (x1 x2 x3 x4:Int) (x5:List (List NT)),at80 n (.head 3) [m3] (zjx x0 x1 x2 x3 x4 x5)=zsb n m3 x0 x1 x2 x3 x4 x5:=by
 intro m
 induction m with
 |zero=>intros;rw[ydp];rfl
 |succ m ih =>
  intros;rw[ypm]
  try simp only[ih]
  rfl
noncomputable def q80(n:Nat)(x:zai ps80):Option R80:=p80 n x.1
noncomputable def Sm80:Sm:=⟨ps80,rs80,false,q80⟩
theorem gam80:GamOK Try.prog G80:=by intro f s h;unfold G80 at h;split at h;exact gj h y62;cases h
theorem hh80:Hp 80 Sm80:=hOf (zaf (an:=an80) (c:=c80) zaw gam80 zau Try.func80 (by kernel_rfl) rfl (by decide +kernel)) fun n x=>(yjx n x.1).trans (by simp only[ymk];try rfl)
theorem y80:Gk 80 Sm80:=⟨⟨Try.f80,c80,Try.func80,by kernel_rfl,by decide +kernel⟩,hh80⟩
end Go.Proofs.Ytbjgiioppmkpiaa.Rx.S
namespace Go.Proofs.Ytbjgiioppmkpiaa.Rx.S
open Go Go.Proofs.Ytbjgiioppmkpiaa.Rx Go.RowKit Go.Lib Go.Proofs
set_option maxHeartbeats 4000000 in
set_option maxRecDepth 1000000 in
theorem yi4(gp bp g b n c id:Nat)(op:Int)(w:World)(hp:w.cell? ⟨gp,bp,none⟩=some (.slice (some ⟨g,b,none⟩) n c))(hid:id<n)
  (hc:w.cell? ⟨g,b+id*9+5,none⟩=some (.int .i64 op)) (hf:w.frozen? ⟨g,b+id*9+5,none⟩=false) :
  Calls Try.prog 82 #[.pointer (some ⟨gp,bp,none⟩),.int .i64 id,.bool true] w fun e w'=>e = .returned (.tuple #[]) ∧
   w'=w.setCell ⟨g,b+id*9+5,none⟩ (.int .i64 (wrap64 (op+1))):=by
 have zau:Try.prog.follows .mixedOrders=true:=by kernel_rfl
 go_enter Try.func82,Try.ntmps82
 go_wp2
 exact bodyPost_ret (results_none rfl _ _ _) rfl ⟨rfl,rfl⟩
set_option maxHeartbeats 4000000 in
set_option maxRecDepth 1000000 in
theorem yjm(gp bp g b n c id:Nat)(lk op:Int)(w:World)(hp:w.cell? ⟨gp,bp,none⟩=some (.slice (some ⟨g,b,none⟩) n c))(hid:id<n)
  (hl:w.cell? ⟨g,b+id*9+4,none⟩=some (.int .i64 lk)) (hc:w.cell? ⟨g,b+id*9+5,none⟩=some (.int .i64 op)) (hlk:(lk == 0)=false) :
  Calls Try.prog 74 #[.pointer (some ⟨gp,bp,none⟩),.int .i64 id] w fun e w'=>e = .returned (.tuple #[])∧w'=w:=by
 have zau:Try.prog.follows .mixedOrders=true:=by kernel_rfl
 by_cases h0:id=0
 ·have h1:((id:Int) != 0)=false:=by simp[h0]
  clear h0
  go_enter Try.func74,Try.ntmps74
  go_wp2
  go_end0
  exact⟨rfl,rfl⟩
 ·have h1:((id:Int) != 0)=true:=by simp[h0]
  clear h0
  go_enter Try.func74,Try.ntmps74
  go_wp2
  go_end0
  exact⟨rfl,rfl⟩
set_option maxHeartbeats 4000000 in
set_option maxRecDepth 1000000 in
theorem yi5(gp bp g b n c id:Nat)(lk op:Int)(w:World)(hp:w.cell? ⟨gp,bp,none⟩=some (.slice (some ⟨g,b,none⟩) n c))(hid:id<n)(hgp:gp≠g)
  (hl:w.cell? ⟨g,b+id*9+4,none⟩=some (.int .i64 lk)) (hlk:(lk == 0)=false) (hc:w.cell? ⟨g,b+id*9+5,none⟩=some (.int .i64 op)) (hf:w.frozen? ⟨g,b+id*9+5,none⟩=false) :
  Calls Try.prog 82 #[.pointer (some ⟨gp,bp,none⟩),.int .i64 id,.bool false] w fun e w'=>e = .returned (.tuple #[]) ∧
   w'=w.setCell ⟨g,b+id*9+5,none⟩ (.int .i64 (wrap64 (op - 1))):=by
 have zau:Try.prog.follows .mixedOrders=true:=by kernel_rfl
 have hp2:Hid (∀ v,(w.setCell ⟨g,b+id*9+5,none⟩ v).cell? ⟨gp,bp,none⟩=some (.slice (some ⟨g,b,none⟩) n c)):=fun v=>by
  rw[← hp];unfold World.cell? World.setCell;simp[Array.getElem?_modify,hgp,Ne.symm hgp]
 have hl2:Hid (∀ v,(w.setCell ⟨g,b+id*9+5,none⟩ v).cell? ⟨g,b+id*9+4,none⟩=some (.int .i64 lk)):=fun v=>by
  rw[← hl];exact World.cell?_setCell_other _ _ _ _ (fun h=>by injection h with _ h2 _;omega)
 have hc2:Hid (∀ v,(w.setCell ⟨g,b+id*9+5,none⟩ v).cell? ⟨g,b+id*9+5,none⟩=some v):=fun v=>by
  exact World.cell?_setCell_same _ _ _ hc
 go_enter Try.func82,Try.ntmps82
 go_wp2_with ((refine(yjm gp bp g b n c id lk _ _ (hp2.out _) hid (hl2.out _) (hc2.out _) hlk).mono ?_);rintro e w' ⟨rfl,rfl⟩)
 go_end0
 exact⟨rfl,rfl⟩
theorem ymg:∃ fs,Try.prog.underlying 25=some (.struct fs):=by
 have h:((Try.prog.underlying 25).bind (fun d=>match d with | .struct fs=>some fs|_=>none)).isSome=true:=by kernel_rfl
 obtain⟨fs,h1⟩:=Option.isSome_iff_exists.1 h;obtain⟨d,h2,h3⟩:=Option.bind_eq_some_iff.1 h1
 cases d with
 |struct fs'=>exact⟨fs',h2⟩
 |_=>cases h3
theorem ymz:(Try.prog.info? 25).map (·.size)=some 1:=by kernel_rfl
theorem zvx{fn:Func}{p:Tmp}(h:fn.results = #[.cell p 25]){W:World}{k:Nat}(hk:W.heap.size+1=k)(tmps:Array Value)(ht:tmps.getD p undef = .pointer (some ⟨k,0,none⟩))(v:Value)(o1:Obj) :
  (results fn tmps).run Try.prog ((W.alloc o1).alloc (.cells #[v] 25)) = .ok (.agg #[v]) ((W.alloc o1).alloc (.cells #[v] 25)):=by
 obtain⟨fs,hd⟩:=ymg;subst hk;exact results_cell_row h tmps _ (W.heap.size+1) 25 #[v] (0,0) (.struct fs) ht (heap_alloc2_new W o1 _) hd rfl ymz
theorem znc{fn:Func}{p u:Tmp}(h:fn.results = #[.cell p 25,.tmp u]){W:World}{k:Nat}{v:Value}(hg:W.heap[k]? = some (.cells #[v] 25 (0,0)))(tmps:Array Value)(ht:tmps.getD p undef = .pointer (some ⟨k,0,none⟩)) :
  (results fn tmps).run Try.prog W = .ok (.tuple #[.agg #[v],tmps.getD u undef]) W:=by
 obtain⟨fs,hd⟩:=ymg;rw[results_cell_tmp h,ht];have:=run_loadVar_row (P:=Try.prog) W k 25 25 #[v] (0,0) (.struct fs) hg hd rfl ymz;simp[asAddr,this,Result.andThen]
theorem za7(w:World)(a:Addr)(v:Value):(w.setCell a v).heap.size=w.heap.size:=by simp[World.setCell]
set_option maxHeartbeats 4000000 in
set_option maxRecDepth 1000000 in
theorem ydg(g b n c id:Nat)(lk op:Int)(w:World)(hid:id<n)
  (hl:w.cell? ⟨g,b+id*9+4,none⟩=some (.int .i64 lk)) (hc:w.cell? ⟨g,b+id*9+5,none⟩=some (.int .i64 op)) (hlk:(lk == 0)=false) (hg:g<w.heap.size) :
  Calls Try.prog 127 #[.agg #[.slice (some ⟨g,b,none⟩) n c],.int .i64 id] w fun e w'=>e = .returned (.agg #[.slice (some ⟨g,b,none⟩) n c]) ∧
   w'=(w.alloc (.cells #[.slice (some ⟨g,b,none⟩) n c] 25)).alloc (.cells #[.slice (some ⟨g,b,none⟩) n c] 25):=by
 have zau:Try.prog.follows .mixedOrders=true:=by kernel_rfl
 go_enter Try.func127,Try.ntmps127
 go_wp2
 ·exact bodyPost_ret (zvx rfl rfl _ rfl _ _) rfl ⟨rfl,rfl⟩
 ·exact bodyPost_ret (zvx rfl rfl _ rfl _ _) rfl ⟨rfl,rfl⟩
abbrev slN(g b n c:Nat):Value:=.slice (some ⟨g,b,none⟩) n c
abbrev bxN(g b n c:Nat):Obj:=.cells #[slN g b n c] 25
set_option maxHeartbeats 4000000 in
set_option maxRecDepth 1000000 in
theorem zxa(g b n c id:Nat)(op:Int)(w:World)(hid:id<n)(hc:w.cell? ⟨g,b+id*9+5,none⟩=some (.int .i64 op))(hg:g<w.heap.size)(h99:99≤op) :
  Calls Try.prog 132 #[.agg #[slN g b n c],.int .i64 id,.bool true] w fun e w' =>
   e = .returned (.tuple #[.agg #[slN g b n c],.int .i64 6])∧w'=(w.alloc (bxN g b n c)).alloc (bxN g b n c):=by
 have zau:Try.prog.follows .mixedOrders=true:=by kernel_rfl
 go_enter Try.func132,Try.ntmps132
 go_wp2
 exact bodyPost_ret (znc rfl (k:=w.heap.size+1) (v:=slN g b n c) (heap_alloc2_new w _ _) _ rfl) rfl ⟨rfl,rfl⟩
set_option maxHeartbeats 4000000 in
set_option maxRecDepth 1000000 in
theorem zxb(g b n c id:Nat)(op:Int)(w:World)(hid:id<n)(hc:w.cell? ⟨g,b+id*9+5,none⟩=some (.int .i64 op))(hf:w.frozen? ⟨g,b+id*9+5,none⟩=false)(hg:g<w.heap.size)(h99:¬ 99≤op) :
  Calls Try.prog 132 #[.agg #[slN g b n c],.int .i64 id,.bool true] w fun e w' =>
   e = .returned (.tuple #[.agg #[slN g b n c],.int .i64 0])∧w'=((w.setCell ⟨g,b+id*9+5,none⟩ (.int .i64 (wrap64 (op+1)))).alloc (bxN g b n c)).alloc (bxN g b n c):=by
 have zau:Try.prog.follows .mixedOrders=true:=by kernel_rfl
 have hh:Hid (∀ v:Value,((((w.setCell ⟨g,b+id*9+5,none⟩ v).alloc (bxN g b n c)).alloc (bxN g b n c)).heap)[w.heap.size+1]? = some (bxN g b n c)):=fun v=>by
  have:=heap_alloc2_new (w.setCell ⟨g,b+id*9+5,none⟩ v) (bxN g b n c) (bxN g b n c);rw[za7]at this;exact this
 go_enter Try.func132,Try.ntmps132
 go_wp2
 exact bodyPost_ret (znc rfl (k:=w.heap.size+1) (v:=slN g b n c) (hh.out _) _ rfl) rfl ⟨rfl,rfl⟩
set_option maxHeartbeats 4000000 in
set_option maxRecDepth 1000000 in
theorem zxc(g b n c id:Nat)(op:Int)(w:World)(hid:id<n)(hc:w.cell? ⟨g,b+id*9+5,none⟩=some (.int .i64 op))(hg:g<w.heap.size)(h0:(op == 0)=true) :
  Calls Try.prog 132 #[.agg #[slN g b n c],.int .i64 id,.bool false] w fun e w' =>
   e = .returned (.tuple #[.agg #[slN g b n c],.int .i64 6])∧w'=(w.alloc (bxN g b n c)).alloc (bxN g b n c):=by
 have zau:Try.prog.follows .mixedOrders=true:=by kernel_rfl
 go_enter Try.func132,Try.ntmps132
 go_wp2
 exact bodyPost_ret (znc rfl (k:=w.heap.size+1) (v:=slN g b n c) (heap_alloc2_new w _ _) _ rfl) rfl ⟨rfl,rfl⟩
set_option maxHeartbeats 4000000 in
set_option maxRecDepth 1000000 in
theorem zxd(g b n c id:Nat)(lk op:Int)(w:World)(hid:id<n)(hl:w.cell? ⟨g,b+id*9+4,none⟩=some (.int .i64 lk))(hlk:(lk == 0)=false)
  (hc:w.cell? ⟨g,b+id*9+5,none⟩=some (.int .i64 op)) (hf:w.frozen? ⟨g,b+id*9+5,none⟩=false) (hg:g<w.heap.size) (h0:(op == 0)=false) :
  Calls Try.prog 132 #[.agg #[slN g b n c],.int .i64 id,.bool false] w fun e w' =>
   e = .returned (.tuple #[.agg #[slN g b n c],.int .i64 0])∧∃ o1 o2 o3 o4,w'=((((w.setCell ⟨g,b+id*9+5,none⟩ (.int .i64 (wrap64 (op - 1)))).alloc o1).alloc o2).alloc o3).alloc o4:=by
 have zau:Try.prog.follows .mixedOrders=true:=by kernel_rfl
 have hl2:Hid (∀ v o1 o2,(((w.setCell ⟨g,b+id*9+5,none⟩ v).alloc o1).alloc o2).cell? ⟨g,b+id*9+4,none⟩=some (.int .i64 lk)):=fun v o1 o2=>by
  rw[World.cell?_alloc_old _ _ _ (by simp[za7];omega),World.cell?_alloc_old _ _ _ (by simp[za7];omega),← hl];exact World.cell?_setCell_other _ _ _ _ (fun h=>by injection h with _ h2 _;omega)
 have hc2:Hid (∀ v o1 o2,(((w.setCell ⟨g,b+id*9+5,none⟩ v).alloc o1).alloc o2).cell? ⟨g,b+id*9+5,none⟩=some v):=fun v o1 o2=>by
  rw[World.cell?_alloc_old _ _ _ (by simp[za7];omega),World.cell?_alloc_old _ _ _ (by simp[za7];omega)];exact World.cell?_setCell_same _ _ _ hc
 have hg2:Hid (∀ v o1 o2,g<(((w.setCell ⟨g,b+id*9+5,none⟩ v).alloc o1).alloc o2).heap.size):=fun v o1 o2=>by simp[za7];omega
 have hh:Hid (∀ (v:Value) (o3 o4:Obj),((((((w.setCell ⟨g,b+id*9+5,none⟩ v).alloc (bxN g b n c)).alloc (bxN g b n c)).alloc o3).alloc o4).heap)[w.heap.size+1]? = some (bxN g b n c)):=fun v o3 o4=>by
  have:=heap_alloc2_new (w.setCell ⟨g,b+id*9+5,none⟩ v) (bxN g b n c) (bxN g b n c);rw[za7]at this;rw[Below.heap_alloc _ _ _ (by simp[za7]),Below.heap_alloc _ _ _ (by simp[za7])];exact this
 go_enter Try.func132,Try.ntmps132
 go_wp2_with ((refine(ydg g b n c id lk _ _ hid (hl2.out _ _ _) (hc2.out _ _ _) hlk (hg2.out _ _ _)).mono ?_);rintro e w' ⟨rfl,rfl⟩)
 exact bodyPost_ret (znc rfl (k:=w.heap.size+1) (v:=slN g b n c) (hh.out _ _ _) _ rfl) rfl ⟨rfl,_,_,_,_,rfl⟩
end Go.Proofs.Ytbjgiioppmkpiaa.Rx.S
namespace Go.Proofs.Ytbjgiioppmkpiaa.Rx.S
open Go Go.Proofs.Ytbjgiioppmkpiaa.Rx Go.RowKit Go.Proofs
abbrev NdT:=(tIn 100).den
abbrev NdZ:NdT:=((0:Int),(0:Int),(0:Int),(0:Int),(0:Int),(0:Int),false,ByteArray.mk #[],([]:List (ByteArray×Int)))
def opsA(x:NdT)(n:Int):NdT:=(x.1,x.2.1,x.2.2.1,x.2.2.2.1,x.2.2.2.2.1,n,x.2.2.2.2.2.2.1,x.2.2.2.2.2.2.2.1,x.2.2.2.2.2.2.2.2)
def setI(n:Int):(b:Sb)→Option b.s.den
 |⟨.int _,_⟩=>some n
 |_=>none
theorem yjh{w:World}{g:Nat}{c1 c2:Array Value}{e1 e2:TypeId}(h1:HC w g c1 e1)(h2:HC w g c2 e2):c1=c2:=by
 obtain⟨q1,_,h1⟩:=h1;obtain⟨q2,_,h2⟩:=h2;rw[h1]at h2;injection h2 with h2
 injection h2
theorem zsd{w:World}{H:Path→Hd}{xs:List NdT}{v:Value}{F:List Nat}{id:Nat}(h:OwR w 37 (tIn 100) H xs v F)(hh:(H []).hole=false)(hnd:F.Nodup)(hid:id<xs.length) :
  ∃ g b n c cells,v = .slice (some ⟨g,b,none⟩) n c∧id<n∧g∈F∧HC w g cells 37∧cells[b+id*9+4]? = some (.int .i64 (xs.getD id NdZ).2.2.2.2.1)∧cells[b+id*9+5]? = some (.int .i64 (xs.getD id NdZ).2.2.2.2.2.1) ∧
   ∀ (n':Int) (w':World),(∀ k,k≠g→k∈F→w'.heap[k]? = w.heap[k]?)→HC w' g (cells.setIfInBounds (b+id*9+5) (.int .i64 n')) 37→OwR w' 37 (tIn 100) H (xs.set id (opsA (xs.getD id NdZ) n')) v F:=by
 have h0:=h;unfold OwR OwRow at h0;rw[if_neg (by simp[hh])]at h0;obtain⟨hv,hl,hle,hmx,h5⟩:=h0;have hi:id<(H []).len:=by rw[← hl];exact hid
 obtain⟨g,b,u5,Fa,Fs,Fb,cells,hA,hsz,hF,hg,hgc,hu5,ho5,hput⟩:=h.cell (b:=⟨.int .i64,(xs.getD id NdZ).2.2.2.2.2.1⟩) (c:=5) hh hi rfl;obtain⟨g',b',u4,Fa',Fs',Fb',cells',hA',_,_,_,hgc',hu4,ho4,_⟩:=h.cell (b:=⟨.int .i64,(xs.getD id NdZ).2.2.2.2.1⟩) (c:=4) hh hi rfl;rw[hA]at hA';injection hA' with hA'
 injection hA' with e1 e2
 subst e1;subst e2;have e3:=yjh hgc hgc';subst e3;obtain⟨hc5,hFs⟩:=ho5;obtain⟨hc4,_⟩:=ho4;injection hc5 with hc5 _
 injection hc4 with hc4 _
 subst hc5;subst hc4;subst hFs;have s9:(tIn 100).sz=9:=rfl;rw[s9]at hu5 hu4;refine⟨g,b,(H []).len,(H []).cap,cells,by rw[hv,hA],hi,by rw[hF];simp[hg],hgc,hu4,hu5,fun n' w' hfr hg'=>?_⟩;have hFF:F=Fa++Fb:=by rw[hF];simp
 rw[hFF]at hnd;have hnd1:=List.nodup_append.1 hnd
 have:=hput w' H n' (.int .i64 n') [] (opsA (xs.getD id NdZ) n') (setI n') rfl rfl (fun k hk hne=>hfr k hne (by rw [hFF]; exact hk)) (by rw [s9]; exact hg') (by
   cases Fa with
   |nil=>simp
   |cons a l =>
    have hag:a=g:=by
     rw[if_neg (by omega)]at h5;obtain⟨_,g2,b2,_,F2,hA2,hF2,_⟩:=h5;rw[hA]at hA2;injection hA2 with hA2
     injection hA2 with e4 _
     rw[hFF]at hF2;injection hF2 with e5 _
     rw[e5,e4]
    subst hag
    exact(List.nodup_cons.1 hnd1.1).1) (fun hk=>hnd1.2.2 g hg g hk rfl) rfl (fun _ _ _ _=>rfl) ⟨rfl,rfl⟩
 rw[hFF];simpa using this
theorem zc3{w:World}{g i:Nat}{cells:Array Value}{e:TypeId}{v:Value}(h:HC w g cells e):HC (w.setCell ⟨g,i,none⟩ v) g (cells.setIfInBounds i v) e:=by
 obtain⟨q,hq,hg⟩:=h;rw[setCell_eq_setRow w g i cells e q v hg];exact HC.set (by simp) ⟨q,hq,hg⟩
theorem zbn{w:World}{g i:Nat}{cells:Array Value}{e:TypeId}{v:Value}(h:HC w g cells e):Kp w (fun k=>k=g) (w.setCell ⟨g,i,none⟩ v):=by
 obtain⟨q,hq,hg⟩:=h;rw[setCell_eq_setRow w g i cells e q v hg];exact zeg w g _
theorem zmx(n:Int):wrap64 n=IntKind.i64.wrap n:=(IntWalk.i64_left n).symm
def zqm(xs:List NdT)(id:Int)(more:Bool):Option (List NdT) :=
 cond (decide (0≤id)) (cond (decide (id < xs.length)) (cond more (some (xs.set id.toNat (opsA (xs.getD id.toNat NdZ) (IntKind.i64.wrap ((xs.getD id.toNat NdZ).2.2.2.2.2.1 + 1)))))
  (cond (!decide ((xs.getD id.toNat NdZ).2.2.2.2.1=0)) (some (xs.set id.toNat (opsA (xs.getD id.toNat NdZ) (IntKind.i64.wrap ((xs.getD id.toNat NdZ).2.2.2.2.2.1 - 1))))) none)) none) none
noncomputable def ye3:Code:=(Try.f82.body.getD .skip)
abbrev zgr:List PK:=[.io (.row 37 (tIn 100)) false,.val i64 false,.val .bool false]
abbrev zok:List RK:=[]
abbrev zoa:=zah zok×zag zgr
def zgu(n:Nat)(a:List NdT)(b:Int)(c:Bool):Option zoa:=(zqm a b c).map fun r=>((),(r,()))
noncomputable def zgq(n:Nat)(x:zai zgr):Option zoa:=zgu n x.1 x.2.1 x.2.2.1
noncomputable def zc9:Sm:=⟨zgr,zok,false,zgq⟩
theorem zq_:zeh (CQ Try.prog 82) zc9:=by
 rintro n w Z vs ⟨xs,id,more,_⟩ Fs y hZ hlt hnd ha hF;rcases vs with _|⟨v0,_|⟨v1,_|⟨v2,_|⟨v3,vs⟩⟩⟩⟩ <;> rcases Fs with _|⟨F0,_|⟨F1,_|⟨F2,_|⟨F3,Fs⟩⟩⟩⟩ <;> simp only[zid,zc9,and_false]at ha
 obtain⟨⟨H,hH,_,v0',hv0,h0⟩,⟨rfl,_,hv1⟩,⟨rfl,_,hv2⟩,_⟩:=ha;have hv1:[v1]=[.int .i64 id]:=hv1;have hv2:[v2]=[.bool more]:=hv2;injection hv0 with hv0 _
 subst hv0;injection hv1 with hv1 _
 injection hv2 with hv2 _
 subst hv1;subst hv2;have hnd0:F0.Nodup:=by simpa using hnd
 have h0:OwR w 37 (tIn 100) (H 0) xs v0 F0:=h0;have hF:(zqm xs id more).map (fun r=>(((),(r,())):zoa))=some y:=hF;obtain⟨r,hr,rfl⟩:=Option.map_eq_some_iff.1 hF;intro g0 b0 u vs' hvs hcell hg0 hgs;injection hvs with hvs1 hvs2
 subst hvs1;subst hvs2;unfold zqm at hr
 by_cases c1:0≤id
 ·rw[decide_eq_true c1]at hr
  by_cases c2:id<(xs.length:Int)
  ·rw[decide_eq_true c2]at hr;obtain⟨i,rfl⟩:=Int.eq_ofNat_of_zero_le c1;have hi:i<List.length (α:=NdT) xs:=Int.ofNat_lt.1 c2;obtain⟨g,b,n',c,cells,rfl,hin,hgF,hgc,h4,h5,hput⟩:=zsd h0 (hH 0 []) hnd0 hi;have hgg:g0≠g:=by rintro rfl;exact hg0 (by simpa using hgF)
   have hlt4:=(Array.getElem?_eq_some_iff.1 h4).1;have hlt5:=(Array.getElem?_eq_some_iff.1 h5).1;have e4:w.cell? ⟨g,b+i*9+4,none⟩=some (.int .i64 (xs.getD i NdZ).2.2.2.2.1):=by rw[hgc.cell];exact h4
   have e5:w.cell? ⟨g,b+i*9+5,none⟩=some (.int .i64 (xs.getD i NdZ).2.2.2.2.2.1):=by rw[hgc.cell];exact h5
   have ef:=hgc.unfrozen hlt5
   have fin:∀ (m:Int) (e:Ending) (w':World),e = .returned (.tuple #[])∧w'=w.setCell ⟨g,b+i*9+5,none⟩ (.int .i64 m)→r=xs.set i (opsA (xs.getD i NdZ) m) →
     ∃ us Gs Os,e = .returned (retV us)∧zic w' Z [] () us Gs∧ze3 w' Z zgr (r,()) [.slice (some ⟨g,b,none⟩) n' c,.int .i64 (i:Int),.bool more] Os∧(Os.flatten++Gs.flatten).Nodup ∧
      (∀ k∈Os.flatten++Gs.flatten,(k∈[F0,[],[]].flatten∨w.heap.size≤k)∧k<w'.heap.size)∧Kp w (fun k=>k∈[F0,[],[]].flatten) w':=by
    rintro m e w' ⟨rfl,rfl⟩ rfl;have hK:=zbn (v:=.int .i64 m) (i:=b+i*9+5) hgc;have ho:=hput m _ (fun k hk hkF=>hK.block k (by have:=hlt k (by simpa using hkF);exact this) hk) (zc3 hgc);refine⟨[],[],[F0,[],[]],rfl,trivial,⟨⟨H,hH,rfl,_,rfl,ho⟩,rfl,rfl,trivial⟩,by simpa using hnd0,fun k hk=>?_,?_⟩
    ·have hk:k∈F0:=by simpa using hk
     exact⟨.inl (by simpa using hk),Nat.lt_of_lt_of_le (hlt k (by simpa using hk)) hK.size⟩
    ·exact⟨hK.os,hK.tape,hK.output,hK.size,fun k h1 h2=>hK.block k h1 (fun h=>h2 (by subst h;simpa using hgF))⟩
   cases more with
   |true =>
    simp only[cond_true,Option.some.injEq]at hr;refine(yi4 g0 b0 g b n' c i _ w hcell hin e5 ef).mono ?_;rintro e w' ⟨rfl,rfl⟩;exact fin (IntKind.i64.wrap ((List.getD (α:=NdT) xs i NdZ).2.2.2.2.2.1+1)) _ _ ⟨rfl,by rw[zmx]⟩ hr.symm
   |false =>
    simp only[cond_true,cond_false]at hr
    by_cases c3:(xs.getD i NdZ).2.2.2.2.1=0
    ·have c3':(xs.getD ((i:Nat):Int).toNat NdZ).2.2.2.2.1=0:=c3;rw[decide_eq_true c3']at hr;cases hr
    ·have c3':¬ (xs.getD ((i:Nat):Int).toNat NdZ).2.2.2.2.1=0:=c3;rw[decide_eq_false c3']at hr;simp only[Bool.not_false,cond_true,Option.some.injEq]at hr;refine(yi5 g0 b0 g b n' c i _ _ w hcell hin hgg e4 (by simpa using c3) e5 ef).mono ?_;rintro e w' ⟨rfl,rfl⟩;exact fin (IntKind.i64.wrap ((List.getD (α:=NdT) xs i NdZ).2.2.2.2.2.1 - 1)) _ _ ⟨rfl,by rw[zmx]⟩ hr.symm
  ·rw[decide_eq_false c2]at hr;cases hr
 ·rw[decide_eq_false c1]at hr;cases hr
theorem zxu:ze6 Try.prog 1000082 zc9:=zq_
theorem zrm:Gk 1000082 zc9:=⟨⟨Try.f82,ye3,Try.func82,by kernel_rfl,by decide +kernel⟩,zxu⟩
end Go.Proofs.Ytbjgiioppmkpiaa.Rx.S
namespace Go.Proofs.Ytbjgiioppmkpiaa.Rx.S
open Go Go.RowKit Go.Proofs
set_option maxRecDepth 100000
noncomputable def c25:Code:=(Try.f25.body.getD .skip)
def an25:An:=⟨fun _=>⟨[],[]⟩,fun _ _=>none⟩
abbrev ps25:List PK:=[.val (.pair (.row 25 tFs) i64) true,.val tCr true]
abbrev rs25:List RK:=[.own (.pair (.row 25 tFs) i64) true,.val i64 false]
abbrev R25:=zah rs25×zag ps25
noncomputable def G25:Gam:=fun f=>match f with|29=>some Sm29|79=>some Sm79|80=>some Sm80|81=>some Sm81|1000082=>some zc9|_=>none
noncomputable def zi0(n:Nat)(a:List (List NT)×Int)(b:Int×Int×Li):Option R25 :=
 (q29 n ((a.1,a.2),())).bind fun r0=>cond (!r0.1.1) (some ((([],(0:Int)),((1:Int),())),())) ((q79 n ((b.1,b.2.1,b.2.2),())).bind fun r1=>cond (!r1.1.1) (some ((([],(0:Int)),((1:Int),())),())) ((q80 n ((a.1,a.2),())).bind fun r2=>cond (!decide (b.1=(0:Int))) (some (((r2.1.1.1,r2.1.1.2),((5:Int),())),())) (cond (decide (a.2<(0:Int))) (some (((r2.1.1.1,r2.1.1.2),((2:Int),())),())) (cond (decide ((1:Int)<(↑(List.length a.1):Int))) ((q81 n (List.getD a.1 (Int.toNat (1:Int)) [],())).bind fun r3=>cond r3.1.1 (some (((r2.1.1.1,r2.1.1.2),((6:Int),())),())) (cond (decide ((0:Int)<(↑(List.length r2.1.1.1):Int))) ((zgq n (List.getD r2.1.1.1 (Int.toNat (0:Int)) [],r2.1.1.2,false,())).bind fun r4=>some (((List.set r2.1.1.1 (Int.toNat (0:Int)) r4.2.1,(-1:Int)),((0:Int),())),())) none)) none))))
theorem ykk(n:Nat)(a:List (List NT)×Int)(b:Int×Int×Li):runF TT G25 an25 Try.f25 c25 ps25 rs25 n (a,b,())=zi0 n a b:=by kernel_rfl
noncomputable def p25(n:Nat)(a:List (List NT)×Int)(b:Int×Int×Li):Option R25:=zi0 n a b
noncomputable def q25(n:Nat)(x:zai ps25):Option R25:=p25 n x.1 x.2.1
noncomputable def Sm25:Sm:=⟨ps25,rs25,false,q25⟩
theorem gam25:GamOK Try.prog G25:=by intro f s h;unfold G25 at h;split at h;exact gj h y29;exact gj h y79;exact gj h y80;exact gj h y81;exact gj h zrm;cases h
theorem hh25:Hp 25 Sm25:=hOf (zaf (an:=an25) (c:=c25) zaw gam25 zau Try.func25 (by kernel_rfl) rfl (by decide +kernel)) fun n x=>(ykk n x.1 x.2.1).trans rfl
theorem y25:Gk 25 Sm25:=⟨⟨Try.f25,c25,Try.func25,by kernel_rfl,by decide +kernel⟩,hh25⟩
noncomputable def c131:Code:=(Try.f131.body.getD .skip)
def ylh:An:=⟨fun r=>match r with|3=>⟨[1,3,4],[]⟩|_=>⟨[],[]⟩,fun _ _=>none⟩
abbrev yb3:List PK:=[.val tFs true]
abbrev yhy:List RK:=[.val i64 false]
abbrev R131:=zah yhy×zag yb3
noncomputable def G131:Gam:=fun _=>none
noncomputable def zy4:Nat→Pt→List Nat→St→Option R131:=atF TT G131 ylh Try.f131 c131 _ _
def zgk(x0 x1:Int)(x2:List NT):St:=(St.mk ([Uu,AV.one (SV.bptr 1000000 0),Uu,Ai x0,Ai x1]++Ur 16) [(1000000,(Ent.box [SV.con (⟨37,(Ty.int .i64).pair ((Ty.int .i64).pair ((Ty.int .i64).pair ((Ty.int .i64).pair ((Ty.int .i64).pair ((Ty.int .i64).pair (Ty.bool.pair (Ty.str.pair (Ty.row (nat_lit 100) (Ty.str.pair (Ty.int .i64)))))))))),x2⟩:Rw)]))])
noncomputable def zof(n:Nat)(lL3:Int→Int→(List NT)→Option R131)(a:List NT):Option R131 :=
 lL3 (0:Int) (0:Int) a
noncomputable def zem(n:Nat)(lL3:Int→Int→(List NT)→Option R131)(x0 x1:Int)(x2:List NT):Option R131 :=
 cond (decide (x1<(↑x2.length:Int))) (cond (decide (0≤x1)) (cond (decide (x1<(↑x2.length:Int))) (lL3 (IntKind.i64.wrap (x0+(x2.getD x1.toNat ZN).2.2.2.2.2.1)) (IntKind.i64.wrap (x1+1)) x2) none) none) (some ((x0,()),()))
theorem yeb(n:Nat)(a:List NT):runF TT G131 ylh Try.f131 c131 yb3 yhy n (a,())=zof n (fun x0 x1 x2=>zy4 n (.head 3) [n] (zgk x0 x1 x2)) a:=by kernel_rfl
theorem zyg(n:Nat)(x0 x1:Int)(x2:List NT):zy4 n (.head 3) [0] (zgk x0 x1 x2)=none:=by kernel_rfl
theorem ykx(n m3:Nat)(x0 x1:Int)(x2:List NT):zy4 n (.head 3) [m3+1] (zgk x0 x1 x2)=zem n (fun x0 x1 x2=>zy4 n (.head 3) [m3] (zgk x0 x1 x2)) x0 x1 x2:=by kernel_rfl
noncomputable def zne(n:Nat):Nat→Int→Int→(List NT)→Option R131
 |0,_,_,_=>none
 |m+1,x0,x1,x2=>zem n (zne n m) x0 x1 x2
noncomputable def p131(n:Nat)(a:List NT):Option R131:=zof n (zne n n) a
theorem yg1(n:Nat):∀ (m3:Nat) (x0 x1:Int) (x2:List NT),zy4 n (.head 3) [m3] (zgk x0 x1 x2)=zne n m3 x0 x1 x2:=by
 intro m
 induction m with
 |zero=>intros;rw[zyg];rfl
 |succ m ih =>
  intros;rw[ykx]
  try simp only[ih]
  rfl
noncomputable def q131(n:Nat)(x:zai yb3):Option R131:=p131 n x.1
noncomputable def yfd:Sm:=⟨yb3,yhy,false,q131⟩
theorem yo1:GamOK Try.prog G131:=fun _ _ h=>by cases h
theorem hh131:Hp 131 yfd:=hOf (zaf (an:=ylh) (c:=c131) zaw yo1 zau Try.func131 (by kernel_rfl) rfl (by decide +kernel)) fun n x=>(yeb n x.1).trans (by simp only[yg1];try rfl)
theorem y131:Gk 131 yfd:=⟨⟨Try.f131,c131,Try.func131,by kernel_rfl,by decide +kernel⟩,hh131⟩
noncomputable def c83:Code:=(Try.f83.body.getD .skip)
def an83:An:=⟨fun _=>⟨[],[]⟩,fun _ _=>none⟩
abbrev ps83:List PK:=[.val (.pair (.row 25 tFs) i64) true]
abbrev rs83:List RK:=[.val .bool false]
abbrev R83:=zah rs83×zag ps83
noncomputable def G83:Gam:=fun f=>match f with|63=>some Sm63|66=>some Sm66|131=>some yfd|_=>none
noncomputable def zff(n:Nat)(a:List (List NT)×Int):Option R83 :=
 cond (!decide ((↑(List.length a.1):Int)=(2:Int))) (some ((false,()),())) (cond (decide ((0:Int)<(↑(List.length a.1):Int))) ((q63 n (List.getD a.1 (Int.toNat (0:Int)) [],())).bind fun r0=>cond (!r0.1.1) (some ((false,()),())) (cond (decide ((1:Int)<(↑(List.length a.1):Int))) ((q63 n (List.getD a.1 (Int.toNat (1:Int)) [],())).bind fun r1=>cond (!r1.1.1) (some ((false,()),())) ((q66 n (a.2,(-1:Int),(9:Int),())).bind fun r2=>cond (!r2.1.1) (some ((false,()),())) (cond (decide (a.2=(0:Int))) (some ((false,()),())) (cond (decide (a.2<(0:Int))) (cond (decide ((1:Int)<(↑(List.length a.1):Int))) ((q131 n (List.getD a.1 (Int.toNat (1:Int)) [],())).bind fun r3=>some ((decide (r3.1.1=(0:Int)),()),())) none) (cond (decide ((0:Int)<(↑(List.length a.1):Int))) (cond (decide ((0:Int)≤a.2)) (cond (decide (a.2<(↑(List.length (List.getD a.1 (Int.toNat (0:Int)) [])):Int))) (cond (decide ((List.getD (List.getD a.1 (Int.toNat (0:Int)) []) (Int.toNat a.2) ZN).1=(2:Int))) (some ((decide ((0:Int)<(List.getD (List.getD a.1 (Int.toNat (0:Int)) []) (Int.toNat a.2) ZN).2.2.2.2.2.1),()),())) (some ((false,()),()))) none) none) none))))) none)) none)
theorem yjv(n:Nat)(a:List (List NT)×Int):runF TT G83 an83 Try.f83 c83 ps83 rs83 n (a,())=zff n a:=by kernel_rfl
noncomputable def p83(n:Nat)(a:List (List NT)×Int):Option R83:=zff n a
noncomputable def q83(n:Nat)(x:zai ps83):Option R83:=p83 n x.1
noncomputable def Sm83:Sm:=⟨ps83,rs83,false,q83⟩
theorem gam83:GamOK Try.prog G83:=by intro f s h;unfold G83 at h;split at h;exact gj h y63;exact gj h y66;exact gj h y131;cases h
theorem hh83:Hp 83 Sm83:=hOf (zaf (an:=an83) (c:=c83) zaw gam83 zau Try.func83 (by kernel_rfl) rfl (by decide +kernel)) fun n x=>(yjv n x.1).trans rfl
theorem y83:Gk 83 Sm83:=⟨⟨Try.f83,c83,Try.func83,by kernel_rfl,by decide +kernel⟩,hh83⟩
end Go.Proofs.Ytbjgiioppmkpiaa.Rx.S
namespace Go.Proofs.Ytbjgiioppmkpiaa.Rx.S
open Go Go.Proofs.Ytbjgiioppmkpiaa.Rx Go.RowKit Go.Proofs
noncomputable def ye2:Code:=(Try.f132.body.getD .skip)
abbrev zcy:List PK:=[.io tFs true,.val i64 false,.val .bool false]
abbrev zdy:List RK:=[.val i64 false]
abbrev zn_:=zah zdy×zag zcy
def zml(xs:List NdT)(id:Int)(more:Bool):Option (Int×List NdT) :=
 cond (decide (0≤id)) (cond (decide (id < xs.length)) (cond more
   (cond (decide (99≤(xs.getD id.toNat NdZ).2.2.2.2.2.1)) (some (6,xs)) (some (0,xs.set id.toNat (opsA (xs.getD id.toNat NdZ) (IntKind.i64.wrap ((xs.getD id.toNat NdZ).2.2.2.2.2.1+1))))))
   (cond (decide ((xs.getD id.toNat NdZ).2.2.2.2.2.1=0)) (some (6,xs))
    (cond (!decide ((xs.getD id.toNat NdZ).2.2.2.2.1=0)) (some (0,xs.set id.toNat (opsA (xs.getD id.toNat NdZ) (IntKind.i64.wrap ((xs.getD id.toNat NdZ).2.2.2.2.2.1 - 1))))) none))) none) none
def zgt(n:Nat)(a:List NdT)(b:Int)(c:Bool):Option zn_:=(zml a b c).map fun r=>((r.1,()),(r.2,()))
noncomputable def zgp(n:Nat)(x:zai zcy):Option zn_:=zgt n x.1 x.2.1 x.2.2.1
noncomputable def zc8:Sm:=⟨zcy,zdy,false,zgp⟩
theorem zq9:zeh (CB Try.prog 132) zc8:=by
 rintro n w Z vs ⟨xs,id,more,_⟩ Fs y hZ hlt hnd ha hF;rcases vs with _|⟨v0,_|⟨v1,_|⟨v2,_|⟨v3,vs⟩⟩⟩⟩ <;> rcases Fs with _|⟨F0,_|⟨F1,_|⟨F2,_|⟨F3,Fs⟩⟩⟩⟩ <;> simp only[zid,zc8,and_false]at ha
 obtain⟨⟨H,hH,arr,rfl,v0',hv0,h0⟩,⟨rfl,_,hv1⟩,⟨rfl,_,hv2⟩,_⟩:=ha;have hv1:[v1]=[.int .i64 id]:=hv1;have hv2:[v2]=[.bool more]:=hv2;injection hv1 with hv1 _
 injection hv2 with hv2 _
 subst hv1;subst hv2;have hnd0:F0.Nodup:=by simpa using hnd
 have h0:OwR w 37 (tIn 100) (H 0) xs v0' F0:=h0;have hF:(zml xs id more).map (fun r=>(((r.1,()),(r.2,())):zn_))=some y:=hF;obtain⟨⟨code,r⟩,hr,rfl⟩:=Option.map_eq_some_iff.1 hF;intro u vs' hvs;injection hvs with hvs1 hvs2
 injection hvs1 with hvs1
 subst hvs1;subst hvs2;have hv0:[u]=[v0']:=hv0;injection hv0 with hv0 _
 subst hv0;unfold zml at hr
 by_cases c1:0≤id
 ·rw[decide_eq_true c1]at hr
  by_cases c2:id<(xs.length:Int)
  ·rw[decide_eq_true c2]at hr;obtain⟨i,rfl⟩:=Int.eq_ofNat_of_zero_le c1;have hi:i<List.length (α:=NdT) xs:=Int.ofNat_lt.1 c2;obtain⟨g,b,n',c,cells,rfl,hin,hgF,hgc,h4,h5,hput⟩:=zsd h0 (hH 0 []) hnd0 hi;have hlt5:=(Array.getElem?_eq_some_iff.1 h5).1;have hgw:g<w.heap.size:=hlt g (by simpa using hgF);have e4:w.cell? ⟨g,b+i*9+4,none⟩=some (.int .i64 (xs.getD i NdZ).2.2.2.2.1):=by rw[hgc.cell];exact h4
   have e5:w.cell? ⟨g,b+i*9+5,none⟩=some (.int .i64 (xs.getD i NdZ).2.2.2.2.2.1):=by rw[hgc.cell];exact h5
   have ef:=hgc.unfrozen hlt5
   -- what is left,whatever was allocated besides
   have fin:∀ (w1 w':World) (r':List NdT) (cd:Int),Kp w (fun k=>k=g) w1→OwR w1 37 (tIn 100) (H 0) r' (slN g b n' c) F0→Kp w1 (fun _=>False) w' →
     ∃ us Gs Os,(Ending.returned (.int .i64 cd)) = .returned (retV us)∧zic w' Z zdy (cd,()) us Gs∧ze3 w' Z zcy (r',()) [.agg #[slN g b n' c],.int .i64 (i:Int),.bool more] Os∧(Os.flatten++Gs.flatten).Nodup ∧
      (∀ k∈Os.flatten++Gs.flatten,(k∈[F0,[],[]].flatten∨w.heap.size≤k)∧k<w'.heap.size)∧Kp w (fun k=>k∈[F0,[],[]].flatten) w':=by
    intro w1 w' r' cd hK1 ho hK2;have ho2:OwR w' 37 (tIn 100) (H 0) r' (slN g b n' c) F0:=ho.frame (fun k hk=>hK2.block k (Nat.lt_of_lt_of_le (hlt k (by simpa using hk)) hK1.size) (fun h=>h));have hK:Kp w (fun k=>k=g) w':=hK1.step hK2 (fun k h=>h.elim);refine⟨[.int .i64 cd],[[]],[F0,[],[]],rfl,⟨⟨rfl,rfl,rfl⟩,trivial⟩,⟨⟨H,hH,_,rfl,_,rfl,ho2⟩,rfl,rfl,trivial⟩,by simpa using hnd0,fun k hk=>?_,?_⟩
    ·have hk:k∈F0:=by simpa using hk
     exact⟨.inl (by simpa using hk),Nat.lt_of_lt_of_le (hlt k (by simpa using hk)) hK.size⟩
    ·exact⟨hK.os,hK.tape,hK.output,hK.size,fun k h1 h2=>hK.block k h1 (fun h=>h2 (by subst h;simpa using hgF))⟩
   have al:∀ (w1:World) (o1 o2:Obj),Kp w1 (fun _=>False) ((w1.alloc o1).alloc o2):=fun w1 o1 o2=>(zbx w1 o1 _).trans (zbx _ o2 _)
   have same:∀ (e:Ending) (w':World),e = .returned (.tuple #[.agg #[slN g b n' c],.int .i64 6])∧w'=(w.alloc (bxN g b n' c)).alloc (bxN g b n' c)→code=6→r=xs→∃ rr,e = .returned (.tuple #[.agg #[slN g b n' c],rr]) ∧
     ∃ us Gs Os,(Ending.returned rr) = .returned (retV us)∧zic w' Z zdy (code,()) us Gs∧ze3 w' Z zcy (r,()) [.agg #[slN g b n' c],.int .i64 (i:Int),.bool more] Os∧(Os.flatten++Gs.flatten).Nodup ∧
      (∀ k∈Os.flatten++Gs.flatten,(k∈[F0,[],[]].flatten∨w.heap.size≤k)∧k<w'.heap.size)∧Kp w (fun k=>k∈[F0,[],[]].flatten) w':=by
    rintro e w' ⟨rfl,rfl⟩ rfl rfl;exact⟨_,rfl,fin w _ _ _ (Kp.refl _ _) h0 (al _ _ _)⟩
   have done:∀ (m:Int) (e:Ending) (w':World),e = .returned (.tuple #[.agg #[slN g b n' c],.int .i64 0])→Kp (w.setCell ⟨g,b+i*9+5,none⟩ (.int .i64 m)) (fun _=>False) w'→code=0→r=xs.set i (opsA (xs.getD i NdZ) m) →
     ∃ rr,e = .returned (.tuple #[.agg #[slN g b n' c],rr]) ∧
     ∃ us Gs Os,(Ending.returned rr) = .returned (retV us)∧zic w' Z zdy (code,()) us Gs∧ze3 w' Z zcy (r,()) [.agg #[slN g b n' c],.int .i64 (i:Int),.bool more] Os∧(Os.flatten++Gs.flatten).Nodup ∧
      (∀ k∈Os.flatten++Gs.flatten,(k∈[F0,[],[]].flatten∨w.heap.size≤k)∧k<w'.heap.size)∧Kp w (fun k=>k∈[F0,[],[]].flatten) w':=by
    rintro m e w' rfl hk2 rfl rfl;have hK:=zbn (v:=.int .i64 m) (i:=b+i*9+5) hgc;have ho:=hput m _ (fun k hk hkF=>hK.block k (hlt k (by simpa using hkF)) hk) (zc3 hgc);exact⟨_,rfl,fin _ _ _ _ hK ho hk2⟩
   cases more with
   |true =>
    simp only[cond_true]at hr
    by_cases c3:99≤(List.getD (α:=NdT) xs i NdZ).2.2.2.2.2.1
    ·have c3':99≤(List.getD (α:=NdT) xs ((i:Nat):Int).toNat NdZ).2.2.2.2.2.1:=c3;rw[decide_eq_true c3']at hr;simp only[cond_true,Option.some.injEq,Prod.mk.injEq]at hr;refine(zxa g b n' c i _ w hin e5 hgw c3).mono ?_;intro e w' hh;exact same e w' hh hr.1.symm hr.2.symm
    ·have c3':¬ 99≤(List.getD (α:=NdT) xs ((i:Nat):Int).toNat NdZ).2.2.2.2.2.1:=c3;rw[decide_eq_false c3']at hr;simp only[cond_false,Option.some.injEq,Prod.mk.injEq]at hr;refine(zxb g b n' c i _ w hin e5 ef hgw c3).mono ?_;rintro e w' ⟨h1,rfl⟩;exact done (IntKind.i64.wrap ((List.getD (α:=NdT) xs i NdZ).2.2.2.2.2.1+1)) e _ h1 (by rw[zmx];exact al _ _ _) hr.1.symm hr.2.symm
   |false =>
    simp only[cond_true,cond_false]at hr
    by_cases c3:(List.getD (α:=NdT) xs i NdZ).2.2.2.2.2.1=0
    ·have c3':(List.getD (α:=NdT) xs ((i:Nat):Int).toNat NdZ).2.2.2.2.2.1=0:=c3;rw[decide_eq_true c3']at hr;simp only[cond_true,Option.some.injEq,Prod.mk.injEq]at hr;refine(zxc g b n' c i _ w hin e5 hgw (by rw[c3];rfl)).mono ?_;intro e w' hh;exact same e w' hh hr.1.symm hr.2.symm
    ·have c3':¬ (List.getD (α:=NdT) xs ((i:Nat):Int).toNat NdZ).2.2.2.2.2.1=0:=c3;rw[decide_eq_false c3']at hr;simp only[cond_false]at hr
     by_cases c4:(List.getD (α:=NdT) xs i NdZ).2.2.2.2.1=0
     ·have c4':(List.getD (α:=NdT) xs ((i:Nat):Int).toNat NdZ).2.2.2.2.1=0:=c4;rw[decide_eq_true c4']at hr;cases hr
     ·have c4':¬ (List.getD (α:=NdT) xs ((i:Nat):Int).toNat NdZ).2.2.2.2.1=0:=c4;rw[decide_eq_false c4']at hr;simp only[Bool.not_false,cond_true,Option.some.injEq,Prod.mk.injEq]at hr;refine(zxd g b n' c i _ _ w hin e4 (by simpa using c4) e5 ef hgw (by simpa using c3)).mono ?_;rintro e w' ⟨h1,o1,o2,o3,o4,rfl⟩;exact done (IntKind.i64.wrap ((List.getD (α:=NdT) xs i NdZ).2.2.2.2.2.1 - 1)) e _ h1 (by rw[zmx];exact(al _ o1 o2).trans (al _ o3 o4)) hr.1.symm hr.2.symm
  ·rw[decide_eq_false c2]at hr;cases hr
 ·rw[decide_eq_false c1]at hr;cases hr
theorem zxt:ze6 Try.prog 2000132 zc8:=zq9
theorem zrl:Gk 2000132 zc8:=⟨⟨Try.f132,ye2,Try.func132,by kernel_rfl,by decide +kernel⟩,zxt⟩
end Go.Proofs.Ytbjgiioppmkpiaa.Rx.S
namespace Go.Proofs.Ytbjgiioppmkpiaa.Rx.S
open Go Go.RowKit Go.Proofs
set_option maxRecDepth 100000
noncomputable def c84:Code:=(Try.f84.body.getD .skip)
def an84:An:=⟨fun _=>⟨[],[]⟩,fun _ _=>none⟩
abbrev ps84:List PK:=[.own (.pair (.row 25 tFs) i64) true,.val tCr true]
abbrev rs84:List RK:=[.own (.pair (.row 25 tFs) i64) true,.val i64 false]
abbrev R84:=zah rs84×zag ps84
noncomputable def G84:Gam:=fun f=>match f with|131=>some yfd|2000132=>some zc8|_=>none
noncomputable def zii(n:Nat)(a:List (List NT)×Int)(b:Int×Int×Li):Option R84 :=
 cond (!decide (b.1=(0:Int))) (some (((a.1,a.2),((5:Int),())),())) (cond (decide (a.2<(0:Int))) (some (((a.1,a.2),((2:Int),())),())) (cond (decide ((1:Int)<(↑(List.length a.1):Int))) ((q131 n (List.getD a.1 (Int.toNat (1:Int)) [],())).bind fun r0=>cond (decide ((0:Int)<r0.1.1)) (some (((a.1,a.2),((6:Int),())),())) (cond (decide ((0:Int)<(↑(List.length a.1):Int))) ((zgp n (List.getD a.1 (Int.toNat (0:Int)) [],a.2,false,())).bind fun r1=>cond (decide ((0:Int)<(↑(List.set a.1 (Int.toNat (0:Int)) r1.2.1).length:Int))) (some (((List.set a.1 (Int.toNat (0:Int)) r1.2.1,(-1:Int)),((0:Int),())),())) none) none)) none))
theorem yju(n:Nat)(a:List (List NT)×Int)(b:Int×Int×Li):runF TT G84 an84 Try.f84 c84 ps84 rs84 n (a,b,())=zii n a b:=by kernel_rfl
noncomputable def p84(n:Nat)(a:List (List NT)×Int)(b:Int×Int×Li):Option R84:=zii n a b
noncomputable def q84(n:Nat)(x:zai ps84):Option R84:=p84 n x.1 x.2.1
noncomputable def Sm84:Sm:=⟨ps84,rs84,false,q84⟩
theorem gam84:GamOK Try.prog G84:=by intro f s h;unfold G84 at h;split at h;exact gj h y131;exact gj h zrl;cases h
theorem hh84:Hp 84 Sm84:=hOf (zaf (an:=an84) (c:=c84) zaw gam84 zau Try.func84 (by kernel_rfl) rfl (by decide +kernel)) fun n x=>(yju n x.1 x.2.1).trans rfl
theorem y84:Gk 84 Sm84:=⟨⟨Try.f84,c84,Try.func84,by kernel_rfl,by decide +kernel⟩,hh84⟩
noncomputable def c85:Code:=(Try.f85.body.getD .skip)
def an85:An:=⟨fun r=>match r with|3=>⟨[1,2,3,4],[]⟩|_=>⟨[],[]⟩,fun _ _=>none⟩
abbrev ps85:List PK:=[.val (.pair (.row 25 tFs) i64) true]
abbrev rs85:List RK:=[.own (.pair (.row 25 tFs) i64) true]
abbrev R85:=zah rs85×zag ps85
noncomputable def G85:Gam:=fun f=>match f with|67=>some Sm67|_=>none
noncomputable def at85:Nat→Pt→List Nat→St→Option R85:=atF TT G85 an85 Try.f85 c85 _ _
def zjw(x0:Int)(x1:List (List NT))(x2 x3 x4:Int)(x5:List (List NT)):St:=(St.mk ([Uu,AV.one (SV.bptr 1000000 0),AV.one (SV.bptr 1000001 0),AV.one (SV.bptr 1000002 0),Ai x0]++Ur 23) [(1000000,(Ent.box [SV.con (⟨25,Ty.row (nat_lit 37) ((Ty.int .i64).pair ((Ty.int .i64).pair ((Ty.int .i64).pair ((Ty.int .i64).pair ((Ty.int .i64).pair ((Ty.int .i64).pair (Ty.bool.pair (Ty.str.pair (Ty.row (nat_lit 100) (Ty.str.pair (Ty.int .i64))))))))))),x1⟩:Rw),Si x2])),(1000001,(Ent.box [SV.nil,Si x3])),(1000002,(Ent.box [Sr 1000003,Si x4])),(1000003,(Er ⟨25,Ty.row (nat_lit 37) ((Ty.int .i64).pair ((Ty.int .i64).pair ((Ty.int .i64).pair ((Ty.int .i64).pair ((Ty.int .i64).pair ((Ty.int .i64).pair (Ty.bool.pair (Ty.str.pair (Ty.row (nat_lit 100) (Ty.str.pair (Ty.int .i64))))))))))),x5⟩))])
noncomputable def zrs(n:Nat)(lL3:Int→(List (List NT))→Int→Int→Int→(List (List NT))→Option R85)(a:List (List NT)×Int):Option R85 :=
 lL3 (0:Int) a.1 a.2 (0:Int) a.2 ([])
noncomputable def zg7(n:Nat)(lL3:Int→(List (List NT))→Int→Int→Int→(List (List NT))→Option R85)(x0:Int)(x1:List (List NT))(x2 x3 x4:Int)(x5:List (List NT)):Option R85 :=
 cond (decide (x0<(↑x1.length:Int))) (cond (decide (0≤x0)) (cond (decide (x0<(↑x1.length:Int))) ((q67 n (x1.getD x0.toNat [],())).bind fun r1=>cond (decide ((x5.length+[r1.1.1].length)*(24:Nat)≤(140737488355328:Nat))) (lL3 (IntKind.i64.wrap (x0+1)) x1 x2 x3 x4 (x5++[r1.1.1])) none) none) none) (some (((x5,x4),()),()))
theorem yjt(n:Nat)(a:List (List NT)×Int):runF TT G85 an85 Try.f85 c85 ps85 rs85 n (a,())=zrs n (fun x0 x1 x2 x3 x4 x5=>at85 n (.head 3) [n] (zjw x0 x1 x2 x3 x4 x5)) a:=by kernel_rfl
theorem ydo(n:Nat)(x0:Int)(x1:List (List NT))(x2 x3 x4:Int)(x5:List (List NT)):at85 n (.head 3) [0] (zjw x0 x1 x2 x3 x4 x5)=none:=by kernel_rfl
theorem ypl(n m3:Nat)(x0:Int)(x1:List (List NT))(x2 x3 x4:Int)(x5:List (List NT)):at85 n (.head 3) [m3+1] (zjw x0 x1 x2 x3 x4 x5)=zg7 n (fun x0 x1 x2 x3 x4 x5=>at85 n (.head 3) [m3] (zjw x0 x1 x2 x3 x4 x5)) x0 x1 x2 x3 x4 x5:=by kernel_rfl
noncomputable def zsa(n:Nat):Nat→Int→(List (List NT))→Int→Int→Int→(List (List NT))→Option R85
 |0,_,_,_,_,_,_=>none
 |m+1,x0,x1,x2,x3,x4,x5=>zg7 n (zsa n m) x0 x1 x2 x3 x4 x5
noncomputable def p85(n:Nat)(a:List (List NT)×Int):Option R85:=zrs n (zsa n n) a
theorem ymj(n:Nat):∀ (m3:Nat) (x0:Int) (x1:List (List NT)) (x2 x3 x4:Int) (x5:List (List NT)),at85 n (.head 3) [m3] (zjw x0 x1 x2 x3 x4 x5)=zsa n m3 x0 x1 x2 x3 x4 x5:=by
 intro m
 induction m with
 |zero=>intros;rw[ydo];rfl
 |succ m ih =>
  intros;rw[ypl]
  try simp only[ih]
  rfl
noncomputable def q85(n:Nat)(x:zai ps85):Option R85:=p85 n x.1
noncomputable def Sm85:Sm:=⟨ps85,rs85,false,q85⟩
theorem gam85:GamOK Try.prog G85:=by intro f s h;unfold G85 at h;split at h;exact gj h y67;cases h
theorem hh85:Hp 85 Sm85:=hOf (zaf (an:=an85) (c:=c85) zaw gam85 zau Try.func85 (by kernel_rfl) rfl (by decide +kernel)) fun n x=>(yjt n x.1).trans (by simp only[ymj];try rfl)
theorem y85:Gk 85 Sm85:=⟨⟨Try.f85,c85,Try.func85,by kernel_rfl,by decide +kernel⟩,hh85⟩
noncomputable def c26:Code:=(Try.f26.body.getD .skip)
def an26:An:=⟨fun _=>⟨[],[]⟩,fun _ _=>none⟩
abbrev ps26:List PK:=[.val (.pair (.row 25 tFs) i64) true,.val tCr true]
abbrev rs26:List RK:=[.own (.pair (.row 25 tFs) i64) true,.val i64 false]
abbrev R26:=zah rs26×zag ps26
noncomputable def G26:Gam:=fun f=>match f with|64=>some Sm64|83=>some Sm83|84=>some Sm84|85=>some Sm85|_=>none
noncomputable def ziz(n:Nat)(a:List (List NT)×Int)(b:Int×Int×Li):Option R26 :=
 (q83 n ((a.1,a.2),())).bind fun r0=>cond (!r0.1.1) (some ((([],(0:Int)),((1:Int),())),())) ((q64 n ((b.1,b.2.1,b.2.2),())).bind fun r1=>cond (!r1.1.1) (some ((([],(0:Int)),((1:Int),())),())) ((q85 n ((a.1,a.2),())).bind fun r2=>(q84 n ((r2.1.1.1,r2.1.1.2),(b.1,b.2.1,b.2.2),())).bind fun r3=>some (((r3.1.1.1,r3.1.1.2),(r3.1.2.1,())),())))
theorem ykj(n:Nat)(a:List (List NT)×Int)(b:Int×Int×Li):runF TT G26 an26 Try.f26 c26 ps26 rs26 n (a,b,())=ziz n a b:=by kernel_rfl
noncomputable def p26(n:Nat)(a:List (List NT)×Int)(b:Int×Int×Li):Option R26:=ziz n a b
noncomputable def q26(n:Nat)(x:zai ps26):Option R26:=p26 n x.1 x.2.1
noncomputable def Sm26:Sm:=⟨ps26,rs26,false,q26⟩
theorem gam26:GamOK Try.prog G26:=by intro f s h;unfold G26 at h;split at h;exact gj h y64;exact gj h y83;exact gj h y84;exact gj h y85;cases h
theorem hh26:Hp 26 Sm26:=hOf (zaf (an:=an26) (c:=c26) zaw gam26 zau Try.func26 (by kernel_rfl) rfl (by decide +kernel)) fun n x=>(ykj n x.1 x.2.1).trans rfl
theorem y26:Gk 26 Sm26:=⟨⟨Try.f26,c26,Try.func26,by kernel_rfl,by decide +kernel⟩,hh26⟩
abbrev ps87:List PK:=[.val (.row 68 tLf) false,.val i64 false]
abbrev rs87:List RK:=[.val i64 false]
abbrev R87:=zah rs87×zag ps87
noncomputable def yah(n:Nat)(lL5:(List (List NT))→Int→Int→Option R87)(a:List (List NT))(b:Int):Option R87 :=
 cond (decide (IntKind.i64.wrap (b - (↑a.length:Int))<(0:Int))) (some (((-1:Int),()),())) (lL5 a (IntKind.i64.wrap (b - (↑a.length:Int))) (0:Int))
noncomputable def yhj(n:Nat)(lL5:(List (List NT))→Int→Int→Option R87)(x0:List (List NT))(x1 x2:Int):Option R87 :=
 cond (decide (x2<(↑x0.length:Int))) (cond (decide (0≤x2)) (cond (decide (x2<(↑x0.length:Int))) ((q39 n (x0.getD x2.toNat [],x1,())).bind fun r1=>cond (decide (r1.1.1<(0:Int))) (some (((-1:Int),()),())) (lL5 x0 r1.1.1 (IntKind.i64.wrap (x2+1)))) none) none) (some ((x1,()),()))
noncomputable def yf0(n:Nat):Nat→(List (List NT))→Int→Int→Option R87
 |0,_,_,_=>none
 |m+1,x0,x1,x2=>yhj n (yf0 n m) x0 x1 x2
noncomputable def p87(n:Nat)(a:List (List NT))(b:Int):Option R87:=yah n (yf0 n n) a b
noncomputable def q87(n:Nat)(x:zai ps87):Option R87:=p87 n x.1 x.2.1
abbrev ps30:List PK:=[.val (.pair (.row 68 tLf) i64) true,.val i64 false]
abbrev rs30:List RK:=[.val i64 false]
abbrev R30:=zah rs30×zag ps30
noncomputable def ya4(n:Nat)(a:List (List NT)×Int)(b:Int):Option R30 :=
 (q87 n (a.1,b,())).bind fun r0=>cond (decide (r0.1.1<(0:Int))) (some (((-1:Int),()),())) (some ((r0.1.1,()),()))
noncomputable def p30(n:Nat)(a:List (List NT)×Int)(b:Int):Option R30:=ya4 n a b
noncomputable def q30(n:Nat)(x:zai ps30):Option R30:=p30 n x.1 x.2.1
abbrev ps89:List PK:=[.val (.row 68 tLf) false]
abbrev rs89:List RK:=[.own (.row 25 tFs) false]
abbrev R89:=zah rs89×zag ps89
noncomputable def yaf(n:Nat)(lL3:(List (List NT))→Int→(List (List NT))→Option R89)(a:List (List NT)):Option R89 :=
 cond (decide ((↑a.length:Int)*(↑(24:Nat):Int)≤(140737488355328:Int))) (lL3 a (0:Int) (List.replicate (↑a.length:Int).toNat [])) none
noncomputable def yhi(n:Nat)(lL3:(List (List NT))→Int→(List (List NT))→Option R89)(x0:List (List NT))(x1:Int)(x2:List (List NT)):Option R89 :=
 cond (decide (x1<(↑x0.length:Int))) (cond (decide (0≤x1)) (cond (decide (x1<(↑x0.length:Int))) ((q40 n (x0.getD x1.toNat [],())).bind fun r1=>cond (decide (0≤x1)) (cond (decide (x1<(↑x2.length:Int))) (lL3 x0 (IntKind.i64.wrap (x1+1)) (x2.set x1.toNat r1.1.1)) none) none) none) none) (some ((x2,()),()))
noncomputable def yfz(n:Nat):Nat→(List (List NT))→Int→(List (List NT))→Option R89
 |0,_,_,_=>none
 |m+1,x0,x1,x2=>yhi n (yfz n m) x0 x1 x2
noncomputable def p89(n:Nat)(a:List (List NT)):Option R89:=yaf n (yfz n n) a
noncomputable def q89(n:Nat)(x:zai ps89):Option R89:=p89 n x.1
abbrev ps32:List PK:=[.val (.pair (.row 68 tLf) i64) true]
abbrev rs32:List RK:=[.own (.pair (.row 25 tFs) i64) true]
abbrev R32:=zah rs32×zag ps32
noncomputable def ya2(n:Nat)(a:List (List NT)×Int):Option R32 :=
 (q89 n (a.1,())).bind fun r0=>some (((r0.1.1,a.2),()),())
noncomputable def p32(n:Nat)(a:List (List NT)×Int):Option R32:=ya2 n a
noncomputable def q32(n:Nat)(x:zai ps32):Option R32:=p32 n x.1
abbrev ps91:List PK:=[.val (.row 25 tFs) false,.val (.row 25 tFs) false]
abbrev rs91:List RK:=[.val .bool false]
abbrev R91:=zah rs91×zag ps91
noncomputable def yad(n:Nat)(lL4:(List (List NT))→(List (List NT))→Int→Option R91)(a:List (List NT))(b:List (List NT)):Option R91 :=
 cond (!decide ((↑a.length:Int)=(↑b.length:Int))) (some ((false,()),())) (lL4 a b (0:Int))
noncomputable def yhf(n:Nat)(lL4:(List (List NT))→(List (List NT))→Int→Option R91)(x0 x1:List (List NT))(x2:Int):Option R91 :=
 cond (decide (x2<(↑x0.length:Int))) (cond (decide (0≤x2)) (cond (decide (x2<(↑x0.length:Int))) (cond (decide (0≤x2)) (cond (decide (x2<(↑x1.length:Int))) ((q41 n (x0.getD x2.toNat [],x1.getD x2.toNat [],())).bind fun r1=>cond (!r1.1.1) (some ((false,()),())) (lL4 x0 x1 (IntKind.i64.wrap (x2+1)))) none) none) none) none) (some ((true,()),()))
noncomputable def yfx(n:Nat):Nat→(List (List NT))→(List (List NT))→Int→Option R91
 |0,_,_,_=>none
 |m+1,x0,x1,x2=>yhf n (yfx n m) x0 x1 x2
noncomputable def p91(n:Nat)(a:List (List NT))(b:List (List NT)):Option R91:=yad n (yfx n n) a b
noncomputable def q91(n:Nat)(x:zai ps91):Option R91:=p91 n x.1 x.2.1
abbrev ps34:List PK:=[.val (.pair (.row 25 tFs) i64) true,.val (.pair (.row 25 tFs) i64) true]
abbrev rs34:List RK:=[.val .bool false]
abbrev R34:=zah rs34×zag ps34
noncomputable def ya0(n:Nat)(a:List (List NT)×Int)(b:List (List NT)×Int):Option R34 :=
 (q91 n (a.1,b.1,())).bind fun r0=>cond (!r0.1.1) (some ((false,()),())) (cond (!decide (a.2=b.2)) (some ((false,()),())) (some ((true,()),())))
noncomputable def p34(n:Nat)(a:List (List NT)×Int)(b:List (List NT)×Int):Option R34:=ya0 n a b
noncomputable def q34(n:Nat)(x:zai ps34):Option R34:=p34 n x.1 x.2.1
abbrev ps93:List PK:=[.io (.row 25 tFs) false,.val i64 false]
abbrev rs93:List RK:=[.val i64 false]
abbrev R93:=zah rs93×zag ps93
noncomputable def yab(n:Nat)(lL2:Int→Int→(List (List NT))→Option R93)(a:List (List NT))(b:Int):Option R93 :=
 lL2 b (0:Int) a
noncomputable def yhd(n:Nat)(lL2:Int→Int→(List (List NT))→Option R93)(x0 x1:Int)(x2:List (List NT)):Option R93 :=
 cond (decide (x1<(↑x2.length:Int))) (cond (decide (0≤x1)) (cond (decide (x1<(↑x2.length:Int))) ((q99 n (x2.getD x1.toNat [],x0,())).bind fun r1=>lL2 r1.1.1 (IntKind.i64.wrap (x1+1)) (x2.set x1.toNat r1.2.1)) none) none) (some ((x0,()),(x2,())))
noncomputable def yfv(n:Nat):Nat→Int→Int→(List (List NT))→Option R93
 |0,_,_,_=>none
 |m+1,x0,x1,x2=>yhd n (yfv n m) x0 x1 x2
noncomputable def p93(n:Nat)(a:List (List NT))(b:Int):Option R93:=yab n (yfv n n) a b
noncomputable def q93(n:Nat)(x:zai ps93):Option R93:=p93 n x.1 x.2.1
abbrev ps36:List PK:=[.io (.pair (.row 25 tFs) i64) true,.val i64 false]
abbrev rs36:List RK:=[.val i64 false]
abbrev R36:=zah rs36×zag ps36
noncomputable def yay(n:Nat)(a:List (List NT)×Int)(b:Int):Option R36 :=
 (q93 n (a.1,b,())).bind fun r0=>some ((r0.1.1,()),((r0.2.1,a.2),()))
noncomputable def p36(n:Nat)(a:List (List NT)×Int)(b:Int):Option R36:=yay n a b
noncomputable def q36(n:Nat)(x:zai ps36):Option R36:=p36 n x.1 x.2.1
abbrev ps95:List PK:=[.val (.row 25 tFs) false,.val i64 false]
abbrev rs95:List RK:=[.val i64 false]
abbrev R95:=zah rs95×zag ps95
noncomputable def zz_(n:Nat)(lL2:(List (List NT))→Int→Int→Option R95)(a:List (List NT))(b:Int):Option R95 :=
 lL2 a b (0:Int)
noncomputable def yhb(n:Nat)(lL2:(List (List NT))→Int→Int→Option R95)(x0:List (List NT))(x1 x2:Int):Option R95 :=
 cond (decide (x2<(↑x0.length:Int))) (cond (decide (0≤x2)) (cond (decide (x2<(↑x0.length:Int))) ((q100 n (x0.getD x2.toNat [],x1,())).bind fun r1=>cond (decide (r1.1.1<(0:Int))) (some (((-1:Int),()),())) (lL2 x0 r1.1.1 (IntKind.i64.wrap (x2+1)))) none) none) (some ((x1,()),()))
noncomputable def yft(n:Nat):Nat→(List (List NT))→Int→Int→Option R95
 |0,_,_,_=>none
 |m+1,x0,x1,x2=>yhb n (yft n m) x0 x1 x2
noncomputable def p95(n:Nat)(a:List (List NT))(b:Int):Option R95:=zz_ n (yft n n) a b
noncomputable def q95(n:Nat)(x:zai ps95):Option R95:=p95 n x.1 x.2.1
abbrev ps38:List PK:=[.val (.pair (.row 25 tFs) i64) true,.val i64 false]
abbrev rs38:List RK:=[.val i64 false]
abbrev R38:=zah rs38×zag ps38
noncomputable def yaw(n:Nat)(a:List (List NT)×Int)(b:Int):Option R38 :=
 (q95 n (a.1,b,())).bind fun r0=>cond (decide (r0.1.1<(0:Int))) (some (((-1:Int),()),())) (some ((r0.1.1,()),()))
noncomputable def p38(n:Nat)(a:List (List NT)×Int)(b:Int):Option R38:=yaw n a b
noncomputable def q38(n:Nat)(x:zai ps38):Option R38:=p38 n x.1 x.2.1
noncomputable def c6:Code:=(Try.f6.body.getD .skip)
noncomputable def c28:Code:=(Try.f28.body.getD .skip)
def an28:An:=⟨fun _=>⟨[],[]⟩,fun _ _=>none⟩
abbrev ps28:List PK:=[.val (.pair (.row 25 tFs) i64) true,.val tCr true,.val i64 false]
abbrev rs28:List RK:=[.own (.pair (.row 25 tFs) i64) true,.val i64 false]
abbrev R28:=zah rs28×zag ps28
noncomputable def G28:Gam:=fun f=>match f with|29=>some Sm29|79=>some Sm79|80=>some Sm80|86=>some Sm86|1000082=>some zc9|_=>none
noncomputable def zix(n:Nat)(a:List (List NT)×Int)(b:Int×Int×Li)(c:Int):Option R28 :=
 (q29 n ((a.1,a.2),())).bind fun r0=>cond (!r0.1.1) (some ((([],(0:Int)),((1:Int),())),())) ((q79 n ((b.1,b.2.1,b.2.2),())).bind fun r1=>cond (!r1.1.1) (some ((([],(0:Int)),((1:Int),())),())) (cond (decide ((0:Int)<(↑(List.length a.1):Int))) ((q86 n (List.getD a.1 (Int.toNat (0:Int)) [],c,())).bind fun r2=>cond (!r2.1.1) (some ((([],(0:Int)),((1:Int),())),())) ((q80 n ((a.1,a.2),())).bind fun r3=>cond (decide ((0:Int)<(↑(List.length a.1):Int))) (cond (decide ((0:Int)≤c)) (cond (decide (c<(↑(List.length (List.getD a.1 (Int.toNat (0:Int)) [])):Int))) (cond (!decide (b.1=(0:Int))) (some (((r3.1.1.1,r3.1.1.2),((5:Int),())),())) (cond (decide ((0:Int)≤a.2)) (some (((r3.1.1.1,r3.1.1.2),((6:Int),())),())) (cond (decide (c=(0:Int))) (some (((r3.1.1.1,r3.1.1.2),((6:Int),())),())) (cond (!decide ((List.getD (List.getD a.1 (Int.toNat (0:Int)) []) c.toNat ZN).1=(2:Int))) (some (((r3.1.1.1,r3.1.1.2),((4:Int),())),())) (cond (decide ((List.getD (List.getD a.1 (Int.toNat (0:Int)) []) c.toNat ZN).2.2.2.2.2.1=(99:Int))) (some (((r3.1.1.1,r3.1.1.2),((6:Int),())),())) (cond (decide ((0:Int)<(↑(List.length r3.1.1.1):Int))) ((zgq n (List.getD r3.1.1.1 (Int.toNat (0:Int)) [],c,true,())).bind fun r4=>some (((List.set r3.1.1.1 (Int.toNat (0:Int)) r4.2.1,c),((0:Int),())),())) none)))))) none) none) none)) none))
theorem ykh(n:Nat)(a:List (List NT)×Int)(b:Int×Int×Li)(c:Int):runF TT G28 an28 Try.f28 c28 ps28 rs28 n (a,b,c,())=zix n a b c:=by kernel_rfl
noncomputable def p28(n:Nat)(a:List (List NT)×Int)(b:Int×Int×Li)(c:Int):Option R28:=zix n a b c
noncomputable def q28(n:Nat)(x:zai ps28):Option R28:=p28 n x.1 x.2.1 x.2.2.1
noncomputable def Sm28:Sm:=⟨ps28,rs28,false,q28⟩
theorem gam28:GamOK Try.prog G28:=by intro f s h;unfold G28 at h;split at h;exact gj h y29;exact gj h y79;exact gj h y80;exact gj h y86;exact gj h zrm;cases h
theorem hh28:Hp 28 Sm28:=hOf (zaf (an:=an28) (c:=c28) zaw gam28 zau Try.func28 (by kernel_rfl) rfl (by decide +kernel)) fun n x=>(ykh n x.1 x.2.1 x.2.2.1).trans rfl
theorem y28:Gk 28 Sm28:=⟨⟨Try.f28,c28,Try.func28,by kernel_rfl,by decide +kernel⟩,hh28⟩
noncomputable def c101:Code:=(Try.f101.body.getD .skip)
def yql:An:=⟨fun _=>⟨[],[]⟩,fun _ _=>none⟩
abbrev ycm:List PK:=[.own (.pair (.row 25 tFs) i64) true,.val tCr true,.val i64 false]
abbrev yif:List RK:=[.own (.pair (.row 25 tFs) i64) true,.val i64 false]
abbrev R101:=zah yif×zag ycm
noncomputable def G101:Gam:=fun f=>match f with|2000132=>some zc8|_=>none
noncomputable def zf_(n:Nat)(a:List (List NT)×Int)(b:Int×Int×Li)(c:Int):Option R101 :=
 cond (!decide (b.1=(0:Int))) (some (((a.1,a.2),((5:Int),())),())) (cond (decide ((0:Int)≤a.2)) (some (((a.1,a.2),((6:Int),())),())) (cond (decide (c=(0:Int))) (some (((a.1,a.2),((6:Int),())),())) (cond (decide ((0:Int)<(↑(List.length a.1):Int))) (cond (decide ((0:Int)≤c)) (cond (decide (c<(↑(List.length (List.getD a.1 (Int.toNat (0:Int)) [])):Int))) (cond (!decide ((List.getD (List.getD a.1 (Int.toNat (0:Int)) []) c.toNat ZN).1=(2:Int))) (some (((a.1,a.2),((4:Int),())),())) (cond (decide ((0:Int)<(↑(List.length a.1):Int))) ((zgp n (List.getD a.1 (Int.toNat (0:Int)) [],c,true,())).bind fun r0=>cond (!decide (r0.1.1=(0:Int))) (some (((List.set a.1 (Int.toNat (0:Int)) r0.2.1,a.2),(r0.1.1,())),())) (cond (decide ((0:Int)<(↑(List.set a.1 (Int.toNat (0:Int)) r0.2.1).length:Int))) (some (((List.set a.1 (Int.toNat (0:Int)) r0.2.1,c),((0:Int),())),())) none)) none)) none) none) none)))
theorem yeu(n:Nat)(a:List (List NT)×Int)(b:Int×Int×Li)(c:Int):runF TT G101 yql Try.f101 c101 ycm yif n (a,b,c,())=zf_ n a b c:=by kernel_rfl
noncomputable def p101(n:Nat)(a:List (List NT)×Int)(b:Int×Int×Li)(c:Int):Option R101:=zf_ n a b c
noncomputable def q101(n:Nat)(x:zai ycm):Option R101:=p101 n x.1 x.2.1 x.2.2.1
noncomputable def Sm101:Sm:=⟨ycm,yif,false,q101⟩
theorem ypi:GamOK Try.prog G101:=by intro f s h;unfold G101 at h;split at h;exact gj h zrl;cases h
theorem hh101:Hp 101 Sm101:=hOf (zaf (an:=yql) (c:=c101) zaw ypi zau Try.func101 (by kernel_rfl) rfl (by decide +kernel)) fun n x=>(yeu n x.1 x.2.1 x.2.2.1).trans rfl
abbrev ps44:List PK:=[.val (.pair (.row 25 tFs) i64) true,.val tCr true,.val i64 false]
abbrev rs44:List RK:=[.own (.pair (.row 25 tFs) i64) true,.val i64 false]
abbrev R44:=zah rs44×zag ps44
noncomputable def yaq(n:Nat)(a:List (List NT)×Int)(b:Int×Int×Li)(c:Int):Option R44 :=
 (q83 n ((a.1,a.2),())).bind fun r0=>cond (!r0.1.1) (some ((([],(0:Int)),((1:Int),())),())) ((q64 n ((b.1,b.2.1,b.2.2),())).bind fun r1=>cond (!r1.1.1) (some ((([],(0:Int)),((1:Int),())),())) (cond (decide ((0:Int)<(↑(List.length a.1):Int))) ((q65 n (List.getD a.1 (Int.toNat (0:Int)) [],c,())).bind fun r2=>cond (!r2.1.1) (some ((([],(0:Int)),((1:Int),())),())) ((q85 n ((a.1,a.2),())).bind fun r3=>(q101 n ((r3.1.1.1,r3.1.1.2),(b.1,b.2.1,b.2.2),c,())).bind fun r4=>some (((r4.1.1.1,r4.1.1.2),(r4.1.2.1,())),()))) none))
noncomputable def p44(n:Nat)(a:List (List NT)×Int)(b:Int×Int×Li)(c:Int):Option R44:=yaq n a b c
noncomputable def q44(n:Nat)(x:zai ps44):Option R44:=p44 n x.1 x.2.1 x.2.2.1
noncomputable def c8:Code:=(Try.f8.body.getD .skip)
abbrev ps8:List PK:=[.val (.pair (.row 68 tLf) i64) true,.val tCr true,.val i64 false]
abbrev rs8:List RK:=[.val .bool false]
abbrev R8:=zah rs8×zag ps8
noncomputable def yhh(n:Nat)(a:List (List NT)×Int)(b:Int×Int×Li)(c:Int):Option R8 :=
 (q30 n ((a.1,a.2),(1048576:Int),())).bind fun r0=>cond (decide (r0.1.1<(0:Int))) (some ((true,()),())) ((q31 n ((b.1,b.2.1,b.2.2),r0.1.1,())).bind fun r1=>cond (decide (r1.1.1<(0:Int))) (some ((true,()),())) ((q32 n ((a.1,a.2),())).bind fun r2=>(q33 n ((b.1,b.2.1,b.2.2),())).bind fun r3=>(q44 n ((r2.1.1.1,r2.1.1.2),(r3.1.1.1,r3.1.1.2.1,r3.1.1.2.2),c,())).bind fun r4=>(q32 n ((a.1,a.2),())).bind fun r5=>(q33 n ((b.1,b.2.1,b.2.2),())).bind fun r6=>(q28 n ((r5.1.1.1,r5.1.1.2),(r6.1.1.1,r6.1.1.2.1,r6.1.1.2.2),c,())).bind fun r7=>(q34 n ((r7.1.1.1,r7.1.1.2),(r4.1.1.1,r4.1.1.2),())).bind fun r8=>cond (!r8.1.1) (some ((false,()),())) (cond (!decide (r7.1.2.1=r4.1.2.1)) (some ((false,()),())) ((q32 n ((a.1,a.2),())).bind fun r9=>(q34 n ((r5.1.1.1,r5.1.1.2),(r9.1.1.1,r9.1.1.2),())).bind fun r10=>cond (!r10.1.1) (some ((false,()),())) ((q33 n ((b.1,b.2.1,b.2.2),())).bind fun r11=>(q35 n ((r6.1.1.1,r6.1.1.2.1,r6.1.1.2.2),(r11.1.1.1,r11.1.1.2.1,r11.1.1.2.2),())).bind fun r12=>cond (!r12.1.1) (some ((false,()),())) ((q36 n ((r5.1.1.1,r5.1.1.2),(1:Int),())).bind fun r13=>(q37 n ((r6.1.1.1,r6.1.1.2.1,r6.1.1.2.2),r13.1.1,())).bind fun r14=>cond (decide (r14.1.1<(0:Int))) (some ((false,()),())) ((q34 n ((r7.1.1.1,r7.1.1.2),(r4.1.1.1,r4.1.1.2),())).bind fun r15=>cond (!r15.1.1) (some ((false,()),())) (cond (!decide (r7.1.2.1=r4.1.2.1)) (some ((false,()),())) ((q36 n ((r7.1.1.1,r7.1.1.2),(1:Int),())).bind fun r16=>(q38 n ((r16.2.1.1,r7.1.1.2),(1:Int),())).bind fun r17=>cond (decide (r17.1.1<(0:Int))) (some ((false,()),())) (cond (!decide (r17.1.1=r16.1.1)) (some ((false,()),())) ((q32 n ((a.1,a.2),())).bind fun r18=>(q33 n ((b.1,b.2.1,b.2.2),())).bind fun r19=>(q28 n ((r18.1.1.1,r18.1.1.2),(r19.1.1.1,r19.1.1.2.1,r19.1.1.2.2),c,())).bind fun r20=>(q34 n ((r20.1.1.1,r20.1.1.2),(r4.1.1.1,r4.1.1.2),())).bind fun r21=>cond (!r21.1.1) (some ((false,()),())) (cond (!decide (r20.1.2.1=r4.1.2.1)) (some ((false,()),())) ((q38 n ((r16.2.1.1,r7.1.1.2),(1:Int),())).bind fun r22=>cond (decide (r22.1.1<(0:Int))) (some ((false,()),())) (cond (!decide (r22.1.1=r16.1.1)) (some ((false,()),())) (some ((true,()),()))))))))))))))))
noncomputable def p8(n:Nat)(a:List (List NT)×Int)(b:Int×Int×Li)(c:Int):Option R8:=yhh n a b c
noncomputable def q8(n:Nat)(x:zai ps8):Option R8:=p8 n x.1 x.2.1 x.2.2.1
abbrev ps15:List PK:=[.val (.row 5 (.int .u8)) false]
abbrev rs15:List RK:=[.ro 37 (tIn 100) true,.own tCr true,.val i64 false,.val i64 false]
abbrev R15:=zah rs15×zag ps15
noncomputable def ya9(n:Nat)(a:Li):Option R15 :=
 (q55 n (a,())).bind fun r0=>(q56 n ((r0.1.1.1,r0.1.1.2),())).bind fun r1=>(q57 n ((r1.2.1.1,r1.2.1.2),())).bind fun r2=>(q58 n ((r2.2.1.1,r2.2.1.2),())).bind fun r3=>(q59 n ((r3.2.1.1,r3.2.1.2),())).bind fun r4=>some ((r1.1.1,((r2.1.1.1,(r2.1.1.2.1,r2.1.1.2.2)),(r3.1.1,(r4.1.1,())))),())
noncomputable def p15(n:Nat)(a:Li):Option R15:=ya9 n a
noncomputable def q15(n:Nat)(x:zai ps15):Option R15:=p15 n x.1
noncomputable def c3:Code:=(Try.f3.body.getD .skip)
abbrev ps3:List PK:=[.val (.row 5 (.int .u8)) false]
abbrev rs3:List RK:=[.val .bool false]
abbrev R3:=zah rs3×zag ps3
noncomputable def yhm(n:Nat)(a:Li):Option R3 :=
 cond (decide ((1048576:Int)<(↑a.length:Int))) (some ((true,()),())) ((q15 n (a,())).bind fun r0=>(q16 n (r0.1.1,(r0.1.2.1.1,r0.1.2.1.2.1,r0.1.2.1.2.2),r0.1.2.2.1,r0.1.2.2.2.1,())).bind fun r1=>(q17 n (r0.1.1,(r0.1.2.1.1,r0.1.2.1.2.1,r0.1.2.1.2.2),r0.1.2.2.1,r0.1.2.2.2.1,())).bind fun r2=>(q18 n (r1.1.1,r2.1.1,())).bind fun r3=>cond r3.1.1 (cond (!decide (r1.1.2.1=r2.1.2.1)) (some ((decide (r1.1.2.1=r2.1.2.1),()),())) (cond (!!decide (r1.1.2.1=(1:Int))) (some ((decide (r1.1.2.1=r2.1.2.1),()),())) (cond (!decide (r1.1.2.1=(0:Int))) ((q18 n (r0.1.1,r1.1.1,())).bind fun r4=>some ((r4.1.1,()),())) ((q19 n (r1.1.1,())).bind fun r5=>cond r5.1.1 (cond (decide ((0:Int)≤r0.1.2.2.1)) (cond (decide (r0.1.2.2.1<(↑(List.length r1.1.1):Int))) (cond (decide ((List.getD r1.1.1 (Int.toNat r0.1.2.2.1) ZN).2.1=r0.1.2.2.2.1)) (cond (decide (r0.1.2.1.1=(0:Int))) (some ((true,()),())) (cond (decide ((0:Int)≤r0.1.2.2.1)) (cond (decide (r0.1.2.2.1<(↑(List.length r0.1.1):Int))) (some ((decide (r0.1.2.1.1=(List.getD r0.1.1 (Int.toNat r0.1.2.2.1) ZN).2.2.1),()),())) none) none)) (some ((false,()),()))) none) none) (some ((false,()),())))))) (some ((false,()),())))
noncomputable def p3(n:Nat)(a:Li):Option R3:=yhm n a
end Go.Proofs.Ytbjgiioppmkpiaa.Rx.S
namespace Go.Proofs.Ytbjgiioppmkpiaa.Rx.S
open Go Go.Proofs.Ytbjgiioppmkpiaa.Rx Go.RowKit Go.Proofs
theorem zrz{α:Type}{P:Nat→α→List Value→Prop}:∀ {i:Nat} {xs:List α} {cs:List Value} {F:List Nat},RL (fun i x cs f=>P i x cs∧f=[]) i xs cs F→F=[]
 |_,[],_,_,h=>h.2
 |_,x::xs,_,_,h=>by
  obtain⟨c1,c2,F1,F2,_,rfl,h1,h2⟩:=h;rw[h1.2,zrz h2];rfl
theorem ApR.toRo{w:World}{F:List Nat}{e:TypeId}{t:Ty}{xs:List t.den}{v:Value}(h:ApR w F e t xs v):RoR w F e t xs v:=by
 have h0:=h;obtain⟨hd,G,hh,hG,ho⟩:=h;unfold OwRow at ho;rw[if_neg (by rw[hh];simp)]at ho;obtain⟨hv,hl,hle,hmx,h5⟩:=ho;subst hv
 by_cases hc:hd.cap=0
 ·have hn:xs=[]:=List.length_eq_zero_iff.1 (by omega);subst hn;exact⟨⟨hd.A,hd.cap,by rw[← hl],by simp,by rw[hc];exact Nat.zero_le _,.inl rfl,fun _=>hc⟩,⟨_,_,_,rfl,.inl hc⟩,h0⟩
 ·rw[if_neg hc]at h5;obtain⟨hs,g,b,cells,F',hA,rfl,hg,hsz,hr⟩:=h5;have hF':F'=[]:=zrz hr;subst hF';obtain⟨q,_,hgh⟩:=id hg;have hmul:hd.len*t.sz≤hd.cap*t.sz:=Nat.mul_le_mul_right _ hle
  exact ⟨⟨hd.A,hd.cap,by rw [← hl],by rw [hl]; exact hle,hmx,.inr ⟨g,b,cells,e,q,hA,hG g (by simp),hgh,by rw [hl]; omega,
   by rw[hl];exact hr.imp (fun k x c f _ hx=>⟨Cn.imp (fun k hk=>⟨hk.1,rfl⟩) t hx.1,hx.2⟩)⟩,fun hn=>by rw[hA]at hn;cases hn⟩,⟨_,_,_,rfl,.inr ⟨g,b,hA⟩⟩,h0⟩
theorem ym4{w:World}{F:List Nat}{B:List NdT}{v:Value}{i:Nat}(h:RoR w F 37 (tIn 100) B v)(hi:i<B.length) :
  ∃ g b c cells ci,v = .slice (some ⟨g,b,none⟩) B.length c∧g∈F∧HC w g cells 37∧b+i*9+9≤cells.size∧ci.length=9∧(∀ j u,ci[j]? = some u→cells[b+i*9+j]? = some u)∧Cn w (fun k=>k∈F∧k≠g) (tIn 100) (B.getD i NdZ) ci ∧
   ∀ (w':World) (cells':Array Value) (x':NdT) (ci':List Value),(∀ k,k≠g→k∈F→w'.heap[k]? = w.heap[k]?)→HC w' g cells' 37→ci'.length=9 →
    cells'.toList=cells.toList.take (b+i*9)++(ci'++cells.toList.drop (b+i*9+9))→Cn w (fun k=>k∈F∧k≠g) (tIn 100) x' ci'→RoR w' F 37 (tIn 100) (B.set i x') v:=by
 obtain⟨_,_,hd,G,hh,hG,ho⟩:=h;have s9:(tIn 100).sz=9:=rfl;have ho1:=ho;unfold OwRow at ho1;rw[if_neg (by rw[hh];simp)]at ho1;have hlen:=ho1.2.1;have hi':i<hd.len:=by rw[← hlen];exact hi
 obtain⟨g,b,cells,ca,ci,cb,Fa,Fi,Fb,hA,hsz,hGF,hg,hcs,_,hcut,hca,hci,hra,hri,hrb,hv,hle,hmx,hget⟩:=OwRow.elem NdZ (fun k x c f hR=>Cn.len (tIn 100) hR.1) ho hh hi';have e1:=zrz hra;have e3:=zrz hrb;have e2:=hri.2;subst e1;subst e2;subst e3;have hG1:G=[g]:=by simpa using hGF
 subst hG1;rw[s9]at hcs hcut hca hci hget;have hmul:hd.len*9≤hd.cap*9:=Nat.mul_le_mul_right _ hle;have hin:i*9+9≤hd.len*9:=by omega
 refine⟨g,b,hd.cap,cells,ci,by rw[hv,hA,hlen],hG g (by simp),hg,by omega,hci,hget,Cn.imp (fun k hk=>⟨⟨hk.1,by simpa using hk.2⟩,rfl⟩) (tIn 100) hri.1,fun w' cells' x' ci' hfr hg' hci' hcl hx'=>?_⟩;have up:∀ {x:NdT} {cs:List Value},Cn w (fun k=>k∈F∧k∉[g]) (tIn 100) x cs→Cn w' (fun k=>k∈F∧k∉[g]) (tIn 100) x cs:=fun hc=>Cn.imp (fun k hk=>⟨hk,hfr k (by simpa using hk.2) hk.1⟩) (tIn 100) hc;have hsize:cells.toList.length=cells.size:=by simp
 have hL:cells.toList=cells.toList.take b++(ca++(ci++(cb++cells.toList.drop (b+hd.len*9)))):=by
  have h1:cells.toList.drop b=(ca++(ci++cb))++cells.toList.drop (b+hd.len*9):=by
   rw[← hcut,← List.drop_drop,List.take_append_drop]
  conv=>lhs;rw[← List.take_append_drop b cells.toList,h1]
  simp
 have hP:(cells.toList.take b).length=b:=by simp;omega
 have hcb:cb.length=hd.len*9 - (i*9+9):=by
  have:=congrArg List.length hcut;simp only[List.length_take,List.length_drop,List.length_append,hca,hci]at this;omega
 have ht:cells.toList.take (b+i*9)=cells.toList.take b++ca:=by
  conv=>lhs;rw[hL,← List.append_assoc]
  exact List.take_left' (by simp only[List.length_append,hP,hca])
 have hdr:cells.toList.drop (b+i*9+9)=cb++cells.toList.drop (b+hd.len*9):=by
  conv=>lhs;rw[hL,← List.append_assoc,← List.append_assoc]
  exact List.drop_left' (by simp only[List.length_append,hP,hca,hci])
 have hcl2:cells'.toList=cells.toList.take b++(ca++(ci'++cb)++cells.toList.drop (b+hd.len*9)):=by
  rw[hcl,ht,hdr];simp
 have hcut':(cells'.toList.drop b).take (hd.len*9)=ca++(ci'++cb):=by
  rw[hcl2,List.drop_left' hP];exact List.take_left' (by simp only[List.length_append,hca,hci',hcb];omega)
 have hsz':cells'.size=cells.size:=by
  rw[← Array.length_toList,hcl];simp only[List.length_append,List.length_take,List.length_drop,hci',hsize];omega
 refine ApR.toRo ⟨hd,[g],hh,hG,?_⟩;unfold OwRow;rw[if_neg (by rw[hh];simp)];refine⟨hv,by rw[List.length_set];exact hlen,hle,hmx,?_⟩;rw[if_neg (by omega)];refine⟨hsz,g,b,cells',[],hA,rfl,hg',by rw[hsz',s9];exact hcs,?_⟩;rw[s9,hcut'];refine RL.put (Fa:=[]) (Fi:=[]) (Fb:=[]) hi (hra.imp fun _ _ _ _ _ hx=>⟨up hx.1,hx.2⟩) ⟨up (Cn.imp (fun k hk=>⟨⟨hk.1,by simpa using hk.2⟩,rfl⟩) (tIn 100) hx'),rfl⟩ (hrb.imp fun _ _ _ _ _ hx=>⟨up hx.1,hx.2⟩)
abbrev RdT:=Li×Int
def Rdr(w:World)(Z:Nat→Prop)(g0:Nat)(rd:RdT):Prop:=ydi w (.pointer (some ⟨g0,0,none⟩)) [g0] (Cn w Z tRd rd)
theorem Rdr.frame{w w':World}{Z:Nat→Prop}{g0:Nat}{rd:RdT}(h:Rdr w Z g0 rd)(hg:w'.heap[g0]? = w.heap[g0]?)(hZ:∀ k,Z k→w'.heap[k]? = w.heap[k]?):Rdr w' Z g0 rd:=by
 obtain⟨g,T,cells,h1,h2,h3,h4⟩:=h;have:g0=g:=by simpa using h2
 subst this;exact⟨g0,T,cells,h1,h2,hg.trans h3,Cn.imp (fun k hk=>⟨hk,hZ k hk⟩) tRd h4⟩
theorem ybq{w:World}{Z:Nat→Prop}{k:RK}{y:k.den×Unit}{us:List Value}{Gs:List (List Nat)}(h:zic w Z [k] y us Gs):∃ u G,us=[u]∧Gs=[G]∧ResR w Z k y.1 u G:=by
 match us,Gs,h with
 | [u],[G],h=>exact⟨u,G,rfl,rfl,h.1⟩
 | [],[],h=>exact h.elim
 | [],_::_,h=>exact h.elim
 |_::_,[],h=>exact h.elim
 | [_],_::_::_,h=>exact h.2.elim
 |_::_::_,[_],h=>exact h.2.elim
 |_::_::_,_::_::_,h=>exact h.2.elim
theorem rets2{w:World}{Z:Nat→Prop}{k k':RK}{y:k.den×k'.den×Unit}{us:List Value}{Gs:List (List Nat)}(h:zic w Z [k,k'] y us Gs):∃ u u' G G',us=[u,u']∧Gs=[G,G']∧ResR w Z k y.1 u G∧ResR w Z k' y.2.1 u' G':=by
 match us,Gs,h with
 |u::us,G::Gs,h =>
  obtain⟨u',G',rfl,rfl,h2⟩:=ybq h.2;exact⟨u,u',G,G',rfl,rfl,h.1,h2⟩
 | [],[],h=>exact h.elim
 | [],_::_,h=>exact h.elim
 |_::_,[],h=>exact h.elim
theorem zcs{w:World}{Z:Nat→Prop}{g0:Nat}{rd rd':RdT}{n:Nat}{k r:Int}(hZ:∀ k,Z k→k<w.heap.size∧k≠g0)(hg:g0<w.heap.size)(hr:Rdr w Z g0 rd)(hq:q102 n (rd,k,())=some ((r,()),(rd',()))) :
  Calls Try.prog 102 #[.pointer (some ⟨g0,0,none⟩),.int .i64 k] w fun e w'=>e = .returned (.int .i64 r)∧Rdr w' Z g0 rd'∧Kp w (fun k=>k=g0) w':=by
 refine(yom n w Z [.pointer (some ⟨g0,0,none⟩),.int .i64 k] (rd,k,()) [[g0],[]] _ (fun j hj=>⟨(hZ j hj).1,by simpa using (hZ j hj).2⟩) (by simpa using hg) (by simp) ⟨hr,⟨rfl,rfl,rfl⟩,trivial⟩ hq).mono ?_;rintro e w' ⟨us,Gs,Os,rfl,hr1,ho,_,_,hk⟩;obtain⟨u,G,rfl,rfl,_,_,hu⟩:=ybq hr1;have hu:[u]=[.int .i64 r]:=hu;injection hu with hu _
 subst hu;refine⟨rfl,?_,hk.os,hk.tape,hk.output,hk.size,fun j hj hne=>hk.block j hj (by simpa using hne)⟩
 match Os,ho with
 |O::Os,ho =>
  obtain⟨g,T,cells,h1,h2,h3,h4⟩:=ho.1;injection h1 with h1
  injection h1 with h1
  injection h1 with h1 _
  subst h1;exact⟨g0,T,cells,rfl,rfl,h3,h4⟩
theorem ypk{w:World}{Z:Nat→Prop}{g0:Nat}{rd rd':RdT}{n:Nat}{A:List NdT}(hZ:∀ k,Z k→k<w.heap.size∧k≠g0)(hg:g0<w.heap.size)(hr:Rdr w Z g0 rd)(hq:q56 n (rd,())=some ((A,()),(rd',()))) :
  Calls Try.prog 56 #[.pointer (some ⟨g0,0,none⟩)] w fun e w'=>∃ u F,e = .returned (.agg #[u])∧RoR w' F 37 (tIn 100) A u∧F.Nodup∧(∀ k∈F,w.heap.size≤k∧k<w'.heap.size)∧Rdr w' Z g0 rd'∧Kp w (fun k=>k=g0) w':=by
 refine(hh56 n w Z [.pointer (some ⟨g0,0,none⟩)] (rd,()) [[g0]] _ (fun j hj=>⟨(hZ j hj).1,by simpa using (hZ j hj).2⟩) (by simpa using hg) (by simp) ⟨hr,trivial⟩ hq).mono ?_;rintro e w' ⟨us,Gs,Os,rfl,hr1,ho,hnd,hlt,hk⟩;obtain⟨u,G,rfl,rfl,arr,hu,v,hv,hro⟩:=ybq hr1;have hro:RoR w' G 37 (tIn 100) A v:=hro;have harr:arr = #[v]:=Array.toList_inj.1 hv;subst harr;subst hu
 match Os,ho with
 | [O],ho =>
  obtain⟨g,T,cells,h1,h2,h3,h4⟩:=ho.1;injection h1 with h1
  injection h1 with h1
  injection h1 with h1 _
  subst h1;subst h2;have hnd':(g0::G).Nodup:=by simpa using hnd
  have hn:=List.nodup_cons.1 hnd';refine⟨v,G,rfl,hro,hn.2,fun k hkG=>?_,⟨g0,T,cells,rfl,rfl,h3,h4⟩,hk.os,hk.tape,hk.output,hk.size,fun j hj hne=>hk.block j hj (by simpa using hne)⟩;have:=hlt k (by simp[hkG]);refine⟨?_,this.2⟩;rcases this.1 with h|h
  ·have:k=g0:=by simpa using h
   subst this;exact absurd hkG hn.1
  ·exact h
 |O::_::_,ho=>exact ho.2.elim
theorem zuv{w:World}{H:Nat→Path→Hd}{y:List (List NdT)×Int}{F:List Nat}{v:Value}(h:VR true (fun cs=>Ow w (.pair (.row 25 tFs) i64) H 0 y cs F) v):∃ u,v = .agg #[u,.int .i64 y.2]∧OwR w 25 tFs (H 0) y.1 u F:=by
 obtain⟨arr,rfl,c1,c2,F1,F2,hc,hF,⟨u,hu,ho⟩,h2,hF2⟩:=h;have h2:c2=[.int .i64 y.2]:=h2;subst hu;subst h2;subst hF2;refine⟨u,by rw[show arr = #[u,.int .i64 y.2] from Array.toList_inj.1 hc],?_⟩;rw[hF,List.append_nil];exact ho
theorem zyp{w:World}{F:List Nat}{fss fss':List (List NdT)}{mt mt':Int}{u:Value}{n:Nat}(hlt:∀ k∈F,k<w.heap.size)(hr:RoR w F 25 tFs fss u)(hq:q85 n ((fss,mt),())=some (((fss',mt'),()),())) :
  Calls Try.prog 85 #[.agg #[u,.int .i64 mt]] w fun e w'=>∃ v F',e = .returned v∧(∃ H,zd5 H∧VR true (fun cs=>Ow w' (.pair (.row 25 tFs) i64) H 0 (fss',mt') cs F') v)∧F'.Nodup∧(∀ k∈F',w.heap.size≤k∧k<w'.heap.size)∧Kp w (fun _=>False) w':=by
 refine(hh85 n w (fun k=>k∈F) [.agg #[u,.int .i64 mt]] ((fss,mt),()) [[]] _ (fun j hj=>⟨hlt j hj,by simp⟩) (by simp) (by simp) ⟨⟨rfl,_,rfl,[u],[.int .i64 mt],rfl,⟨u,rfl,hr.1⟩,rfl⟩,trivial⟩ hq).mono ?_;rintro e w' ⟨us,Gs,Os,rfl,hr1,ho,hnd,hlt,hk⟩;obtain⟨v,G,rfl,rfl,hv⟩:=ybq hr1
 match Os,ho with
 | [O],ho =>
  obtain⟨hO,_⟩:=ho;subst hO;refine⟨v,G,rfl,hv,by simpa using hnd,fun k hk=>?_,hk.os,hk.tape,hk.output,hk.size,fun j hj hne=>hk.block j hj (by simp)⟩;have:=hlt k (by simp[hk]);simpa using this
theorem zsh{w:World}{F:List Nat}{fss fss':List (List NdT)}{mt mt' id code:Int}{v:Value}{n:Nat}(hv:∃ H,zd5 H∧VR true (fun cs=>Ow w (.pair (.row 25 tFs) i64) H 0 (fss,mt) cs F) v)(hnd:F.Nodup)(hlt:∀ k∈F,k<w.heap.size)
  (hq:q101 n ((fss,mt),(0,0,[]),id,())=some (((fss',mt'),code,()),())) :
  Calls Try.prog 101 #[v,.agg #[.int .i64 0,.int .i64 0,.slice none 0 0],.int .i64 id] w fun e w'=>∃ u F',e = .returned (.tuple #[.agg #[u,.int .i64 mt'],.int .i64 code])∧RoR w' F' 25 tFs fss' u∧F'.Nodup∧(∀ k∈F',(k∈F∨w.heap.size≤k)∧k<w'.heap.size)∧Kp w (fun k=>k∈F) w':=by
 refine(hh101 n w (fun _=>False) [v,.agg #[.int .i64 0,.int .i64 0,.slice none 0 0],.int .i64 id] ((fss,mt),(0,0,[]),id,()) [F,[],[]] _ (fun j hj=>hj.elim) (by simpa using hlt) (by simpa using hnd) ⟨hv,⟨rfl,_,rfl,[.int .i64 0],[.int .i64 0,.slice none 0 0],rfl,rfl,[.int .i64 0],[.slice none 0 0],rfl,rfl,.slice none 0 0,rfl,CnR.nil⟩,⟨rfl,rfl,rfl⟩,trivial⟩ hq).mono ?_;rintro e w' ⟨us,Gs,Os,rfl,hr1,ho,hnd',hlt',hk⟩;obtain⟨u,u',G,G',rfl,rfl,⟨H,hH,hu⟩,hG',_,hu'⟩:=rets2 hr1;have hu':[u']=[.int .i64 code]:=hu';injection hu' with hu' _
 subst hu';subst hG';obtain⟨x,rfl,hx⟩:=zuv hu
 have hOs:Os.flatten=[]:=by
  match Os,ho with
  | [a,b,c],ho =>
   obtain⟨h1,h2,h3,_⟩:=ho;subst h1;subst h2;subst h3;rfl
 rw[hOs]at hnd' hlt';have hn:G.Nodup:=by simpa using hnd'
 refine⟨x,G,rfl,ApR.toRo (OwR.toAp (fun p=>hH 0 p) hn (fun k hk=>hk) hx),hn,fun k hk=>?_,hk.os,hk.tape,hk.output,hk.size,fun j hj hne=>hk.block j hj (by simpa using hne)⟩;simpa using hlt' k (by simpa using hk)
abbrev FsL:=List NdT
def zNd(x:NdT)(i:Nat):NdT:=if x.2.2.2.2.1=0∧0<i then NdZ else x
noncomputable def lpA(n:Nat):Nat→Nat→RdT→FsL→Option (RdT×FsL)
 |0,_,_,_=>none
 |m+1,i,rd,B=>if i<B.length then (q102 n (rd,6,())).bind fun r=>if 0<r.1.1 then lpA n m (i+1) r.2.1 (B.set i (zNd (opsA (B.getD i NdZ) 0) i)) else some (r.2.1,B) else some (rd,B)
noncomputable def lpB(n:Nat):Nat→Nat→RdT→List FsL→Int→Option (RdT×List FsL×Int)
 |0,_,_,_,_=>none
 |m+1,i,rd,f,mt=>if f.length=0 then none else if i<(f.getD 0 []).length then
   (if mt < 0∧((f.getD 0 []).getD i NdZ).1=2 then (q102 n (rd,3,())).bind fun r =>
    (if 0 < r.1.1 then (q85 n ((f,mt),())).bind fun c=>(q101 n ((c.1.1.1,c.1.1.2),(0,0,[]),(i:Int),())).bind fun x =>
     (if x.1.2.1=0 then lpB n m (i+1) r.2.1 x.1.1.1 x.1.1.2 else lpB n m (i+1) r.2.1 f mt)
    else lpB n m (i+1) r.2.1 f mt)
   else lpB n m (i+1) rd f mt)
  else some (rd,f,mt)
noncomputable def p78(n:Nat)(rd:RdT):Option ((List FsL×Int)×RdT) :=
 (q56 n (rd,())).bind fun a=>(q56 n (a.2.1,())).bind fun b=>(lpA n n 0 b.2.1 b.1.1).bind fun l=>(lpB n n 1 l.1 [a.1.1,l.2] (-1)).bind fun s =>
  (q102 n (s.1,20,())).bind fun r=>if r.1.1=0 then (q102 n (r.2.1,5,())).bind fun t=>(if 0≤t.1.1∧t.1.1<5 then some ((s.2.1,[-1,0,1,2,10].getD t.1.1.toNat 0),t.2.1) else none)
   else some ((s.2.1,s.2.2),r.2.1)
structure I1(w0:World)(Z:Nat→Prop)(g0 g2 g3 gv:Nat)(FA FB:List Nat)(va vb:Value)(A:FsL)(w:World)(rd:RdT)(B:FsL):Prop where
 kp:Kp w0 (fun k=>k=g0) w
 rd:Rdr w Z g0 rd
 c2:w.heap[g2]? = some (.cells #[.slice none 0 0,.int .i64 0] 46 (0,0))
 c3:w.heap[g3]? = some (.cells #[.slice (some ⟨gv,0,none⟩) 2 2,.int .i64 (-1)] 46 (0,0))
 cv:w.heap[gv]? = some (.cells #[va,vb] 25 (0,0))
 ra:RoR w FA 37 (tIn 100) A va
 rb:RoR w FB 37 (tIn 100) B vb
 nd:(g2::g3::gv::(FA++FB)).Nodup
 lt:∀ k∈g2::g3::gv::(FA++FB),w0.heap.size≤k∧k<w.heap.size
section
variable{w0 w:World}{Z:Nat→Prop}{g0 g2 g3 gv:Nat}{FA FB:List Nat}{va vb:Value}{A B:FsL}{rd:RdT}
theorem zb2{F:Nat→Prop}(hZ:∀ k,Z k→k<w0.heap.size∧k≠g0)(h:Kp w0 F w):∀ k,Z k→k<w.heap.size∧k≠g0:=fun k hk=>⟨Nat.lt_of_lt_of_le (hZ k hk).1 h.size,(hZ k hk).2⟩
theorem I1.pick(h:I1 w0 Z g0 g2 g3 gv FA FB va vb A w rd B)(hg:g0<w0.heap.size){w':World}{rd':RdT}(hr:Rdr w' Z g0 rd')(hk:Kp w (fun k=>k=g0) w'):I1 w0 Z g0 g2 g3 gv FA FB va vb A w' rd' B:=by
 have e:∀ k∈g2::g3::gv::(FA++FB),w'.heap[k]? = w.heap[k]?:=fun k hk'=>hk.block k (h.lt k hk').2 (fun e=>by have:=(h.lt k hk').1;omega);exact⟨h.kp.trans hk,hr,(e g2 (by simp)).trans h.c2,(e g3 (by simp)).trans h.c3,(e gv (by simp)).trans h.cv,h.ra.frame (fun k hk'=>e k (by simp[hk'])),h.rb.frame (fun k hk'=>e k (by simp[hk'])),h.nd,fun k hk'=>⟨(h.lt k hk').1,Nat.lt_of_lt_of_le (h.lt k hk').2 hk.size⟩⟩
theorem I1.cells(h:I1 w0 Z g0 g2 g3 gv FA FB va vb A w rd B):w.cell? ⟨g3,0,none⟩=some (.slice (some ⟨gv,0,none⟩) 2 2)∧w.cell? ⟨gv,1,none⟩=some vb:=by
 constructor
 ·rw[show w.cell? ⟨g3,0,none⟩=_ from (HC.old h.c3).cell 0];rfl
 ·rw[show w.cell? ⟨gv,1,none⟩=_ from (HC.old h.cv).cell 1];rfl
theorem yp4{w:World}{Z:Nat→Prop}{x:NdT}{ci:List Value}(h:Cn w Z (tIn 100) x ci):∃ u,ci=[.int .i64 x.1,.int .i64 x.2.1,.int .i64 x.2.2.1,.int .i64 x.2.2.2.1,.int .i64 x.2.2.2.2.1,.int .i64 x.2.2.2.2.2.1,.bool x.2.2.2.2.2.2.1,.string x.2.2.2.2.2.2.2.1,u]∧CnR w Z tEn x.2.2.2.2.2.2.2.2 u:=by
 obtain⟨c1,d1,rfl,h1,c2,d2,rfl,h2,c3,d3,rfl,h3,c4,d4,rfl,h4,c5,d5,rfl,h5,c6,d6,rfl,h6,c7,d7,rfl,h7,c8,d8,rfl,h8,u,hu,h9⟩:=h;have h1:c1=_:=h1;have h2:c2=_:=h2;have h3:c3=_:=h3;have h4:c4=_:=h4;have h5:c5=_:=h5;have h6:c6=_:=h6;have h7:c7=_:=h7;have h8:c8=_:=h8;subst h1;subst h2;subst h3;subst h4;subst h5;subst h6;subst h7;subst h8;subst hu;exact⟨u,rfl,h9⟩
theorem yoa{w:World}{Z:Nat→Prop}{x:NdT}{u:Value}(h:CnR w Z tEn x.2.2.2.2.2.2.2.2 u):Cn w Z (tIn 100) x [.int .i64 x.1,.int .i64 x.2.1,.int .i64 x.2.2.1,.int .i64 x.2.2.2.1,.int .i64 x.2.2.2.2.1,.int .i64 x.2.2.2.2.2.1,.bool x.2.2.2.2.2.2.1,.string x.2.2.2.2.2.2.2.1,u] :=
 ⟨[_],_,rfl,rfl,[_],_,rfl,rfl,[_],_,rfl,rfl,[_],_,rfl,rfl,[_],_,rfl,rfl,[_],_,rfl,rfl,[_],_,rfl,rfl,[_],_,rfl,rfl,_,rfl,h⟩
def zCs:List Value:=[.int .i64 0,.int .i64 0,.int .i64 0,.int .i64 0,.int .i64 0,.int .i64 0,.bool false,.string ⟨#[]⟩,.slice none 0 0]
structure NdAt(w:World)(g o:Nat)(x:NdT)(u:Value):Prop where
 c0:w.cell? ⟨g,o,none⟩=some (.int .i64 x.1)
 c1:w.cell? ⟨g,o+1,none⟩=some (.int .i64 x.2.1)
 c2:w.cell? ⟨g,o+2,none⟩=some (.int .i64 x.2.2.1)
 c3:w.cell? ⟨g,o+3,none⟩=some (.int .i64 x.2.2.2.1)
 c4:w.cell? ⟨g,o+4,none⟩=some (.int .i64 x.2.2.2.2.1)
 c5:w.cell? ⟨g,o+5,none⟩=some (.int .i64 x.2.2.2.2.2.1)
 c6:w.cell? ⟨g,o+6,none⟩=some (.bool x.2.2.2.2.2.2.1)
 c7:w.cell? ⟨g,o+7,none⟩=some (.string x.2.2.2.2.2.2.2.1)
 c8:w.cell? ⟨g,o+8,none⟩=some u
 fr:∀ j,j<9→w.frozen? ⟨g,o+j,none⟩=false
def sets:Nat→List Value→List Value→List Value
 |_,[],L=>L
 |o,v::vs,L=>sets (o+1) vs (L.set o v)
theorem zvu:∀ {vs:List Value} {o:Nat} {L:List Value},o+vs.length≤L.length→sets o vs L=L.take o++(vs++L.drop (o+vs.length))
 | [],o,L,h=>by simp[sets]
 |v::vs,o,L,h=>by
  simp only[List.length_cons]at h;rw[sets,zvu (by simp;omega)]
  have h1:(L.set o v).take (o+1)=L.take o++[v]:=by
   rw[List.set_eq_take_append_cons_drop,if_pos (by omega),List.append_cons];exact List.take_left' (by simp;omega)
  have h2:(L.set o v).drop (o+1+vs.length)=L.drop (o+(v::vs).length):=by
   rw[List.drop_set_of_lt (by omega)];congr 1;simp only[List.length_cons];omega
  rw[h1,h2];simp
theorem I1.at(h:I1 w0 Z g0 g2 g3 gv FA FB va vb A w rd B)(hg:g0<w0.heap.size)(hZ:∀ k,Z k→k<w0.heap.size∧k≠g0){i:Nat}(hi:i<B.length) :
  ∃ gb bb c cells u,vb = .slice (some ⟨gb,bb,none⟩) B.length c∧gb≠gv∧gb≠g3∧HC w gb cells 37∧bb+i*9+9≤cells.size∧NdAt w gb (bb+i*9) (B.getD i NdZ) u ∧
   I1 w0 Z g0 g2 g3 gv FA FB va vb A (w.setCell ⟨gb,bb+i*9+5,none⟩ (.int .i64 0)) rd (B.set i (opsA (B.getD i NdZ) 0)) ∧
   ∀ (w':World) (cells':Array Value),Kp w (fun k=>k=gb) w'→HC w' gb cells' 37→cells'.toList=cells.toList.take (bb+i*9)++(zCs++cells.toList.drop (bb+i*9+9))→I1 w0 Z g0 g2 g3 gv FA FB va vb A w' rd (B.set i NdZ):=by
 obtain⟨gb,bb,c,cells,ci,rfl,hgF,hgc,hsz,hlen,hget,hcn,hput⟩:=ym4 h.rb hi;have hnd:=h.nd;simp only[List.nodup_cons,List.mem_cons,List.mem_append,not_or]at hnd;obtain⟨⟨h23,h2v,h2A,h2B⟩,⟨h3v,h3A,h3B⟩,⟨hvA,hvB⟩,hAB⟩:=hnd;have hAB':=List.nodup_append.1 hAB;have n2:g2≠gb:=fun e=>h2B (e ▸ hgF);have n3:g3≠gb:=fun e=>h3B (e ▸ hgF);have nv:gv≠gb:=fun e=>hvB (e ▸ hgF);have nA:∀ k∈FA,k≠gb:=fun k hk e=>hAB'.2.2 k hk gb hgF e;have hge:w0.heap.size≤gb∧gb<w.heap.size:=h.lt gb (by simp[hgF]);have n0:gb≠g0:=by omega
 have gen:∀ (w':World) (cells':Array Value) (x':NdT) (ci':List Value),Kp w (fun k=>k=gb) w'→HC w' gb cells' 37→ci'.length=9→cells'.toList=cells.toList.take (bb+i*9)++(ci'++cells.toList.drop (bb+i*9+9)) →
   Cn w (fun k=>k∈FB∧k≠gb) (tIn 100) x' ci'→I1 w0 Z g0 g2 g3 gv FA FB va (.slice (some ⟨gb,bb,none⟩) (List.length B) c) A w' rd (B.set i x'):=by
  intro w' cells' x' ci' hk hs' hl' hc' hx';have e:∀ k,k<w.heap.size→k≠gb→w'.heap[k]? = w.heap[k]?:=fun k hk1 hk2=>hk.block k hk1 hk2;have e':∀ k∈g2::g3::gv::(FA++FB),k≠gb→w'.heap[k]? = w.heap[k]?:=fun k hk1 hk2=>hk.block k (h.lt k hk1).2 hk2;have hs:=h.kp.size;refine⟨h.kp.step hk (fun k hk=>.inr (by rw[hk];exact hge.1)),h.rd.frame (e g0 (by omega) (Ne.symm n0)) (fun k hk=>e k (by have:=(hZ k hk).1;omega) (fun e=>by have:=(hZ k hk).1;omega)),(e' g2 (by simp) n2).trans h.c2,(e' g3 (by simp) n3).trans h.c3,(e' gv (by simp) nv).trans h.cv,h.ra.frame (fun k hk=>e' k (by simp[hk]) (nA k hk)),?_,h.nd,fun k hk'=>⟨(h.lt k hk').1,Nat.lt_of_lt_of_le (h.lt k hk').2 hk.size⟩⟩;exact hput _ cells' x' ci' (fun k hk hF=>e' k (by simp[hF]) hk) hs' hl' hc' hx'
 obtain⟨u,rfl,hu⟩:=yp4 hcn;have hsl:cells.toList.length=cells.size:=by simp
 have b5:(bb+i*9+5)<cells.size:=by omega
 have cell:∀ j v,([.int .i64 (B.getD i NdZ).1,.int .i64 (B.getD i NdZ).2.1,.int .i64 (B.getD i NdZ).2.2.1,.int .i64 (B.getD i NdZ).2.2.2.1,.int .i64 (B.getD i NdZ).2.2.2.2.1,.int .i64 (B.getD i NdZ).2.2.2.2.2.1,.bool (B.getD i NdZ).2.2.2.2.2.2.1,.string (B.getD i NdZ).2.2.2.2.2.2.2.1,u]:List Value)[j]? = some v→w.cell? ⟨gb,bb+i*9+j,none⟩=some v:=fun j v hv=>by
  rw[hgc.cell];exact hget j v hv
 refine⟨gb,bb,c,cells,u,rfl,Ne.symm nv,Ne.symm n3,hgc,hsz,⟨cell 0 _ rfl,cell 1 _ rfl,cell 2 _ rfl,cell 3 _ rfl,cell 4 _ rfl,cell 5 _ rfl,cell 6 _ rfl,cell 7 _ rfl,cell 8 _ rfl,fun j hj=>hgc.unfrozen (by omega)⟩,?_,fun w' cells' hk hs' hc'=>gen w' cells' _ zCs hk hs' rfl hc' (yoa (x:=NdZ) CnR.nil)⟩;refine gen _ (cells.setIfInBounds (bb+i*9+5) (.int .i64 0)) _ [.int .i64 (B.getD i NdZ).1,.int .i64 (B.getD i NdZ).2.1,.int .i64 (B.getD i NdZ).2.2.1,.int .i64 (B.getD i NdZ).2.2.2.1,.int .i64 (B.getD i NdZ).2.2.2.2.1,.int .i64 0,.bool (B.getD i NdZ).2.2.2.2.2.2.1,.string (B.getD i NdZ).2.2.2.2.2.2.2.1,u] (zbn hgc) (zc3 hgc) rfl ?_ (yoa (x:=opsA (B.getD i NdZ) 0) hu);rw[Array.toList_setIfInBounds]
 have hdec:cells.toList=cells.toList.take (bb+i*9)++([.int .i64 (B.getD i NdZ).1,.int .i64 (B.getD i NdZ).2.1,.int .i64 (B.getD i NdZ).2.2.1,.int .i64 (B.getD i NdZ).2.2.2.1,.int .i64 (B.getD i NdZ).2.2.2.2.1,.int .i64 (B.getD i NdZ).2.2.2.2.2.1,.bool (B.getD i NdZ).2.2.2.2.2.2.1,.string (B.getD i NdZ).2.2.2.2.2.2.2.1,u]++cells.toList.drop (bb+i*9+9)):=by
  have h1:cells.toList.drop (bb+i*9)=[.int .i64 (B.getD i NdZ).1,.int .i64 (B.getD i NdZ).2.1,.int .i64 (B.getD i NdZ).2.2.1,.int .i64 (B.getD i NdZ).2.2.2.1,.int .i64 (B.getD i NdZ).2.2.2.2.1,.int .i64 (B.getD i NdZ).2.2.2.2.2.1,.bool (B.getD i NdZ).2.2.2.2.2.2.1,.string (B.getD i NdZ).2.2.2.2.2.2.2.1,u]++cells.toList.drop (bb+i*9+9):=by
   apply List.ext_getElem?;intro j;rw[List.getElem?_drop,List.getElem?_append];split
   ·rename_i hj;have:=hget j _ (List.getElem?_eq_getElem hj);rw[Array.getElem?_toList,this,List.getElem?_eq_getElem hj]
   ·rename_i hj;have hj:9≤j:=by simpa using hj
    rw[List.getElem?_drop];congr 1;simp only[List.length_cons,List.length_nil];omega
  rw[← h1,List.take_append_drop]
 conv=>lhs;rw[hdec]
 have ht:(cells.toList.take (bb+i*9)).length=bb+i*9:=by simp;omega
 rw[List.set_append,if_neg (by rw[ht];omega),ht,show bb+i*9+5 - (bb+i*9)=5 by omega];rfl
theorem I1.at2(h:I1 w0 Z g0 g2 g3 gv FA FB va vb A w rd B)(hg:g0<w0.heap.size)(hZ:∀ k,Z k→k<w0.heap.size∧k≠g0){i:Nat}(hi:i<B.length){gb bb m c:Nat}(hvb:vb = .slice (some ⟨gb,bb,none⟩) m c) :
  ∃ u,NdAt w gb (bb+i*9) (B.getD i NdZ) u ∧
   I1 w0 Z g0 g2 g3 gv FA FB va vb A (w.setCell ⟨gb,bb+i*9+5,none⟩ (.int .i64 0)) rd (B.set i (opsA (B.getD i NdZ) 0)) ∧
   I1 w0 Z g0 g2 g3 gv FA FB va vb A (((((((((w.setCell ⟨gb,bb+i*9,none⟩ (.int .i64 0)).setCell ⟨gb,bb+i*9+1,none⟩ (.int .i64 0)).setCell ⟨gb,bb+i*9+2,none⟩ (.int .i64 0)).setCell ⟨gb,bb+i*9+3,none⟩ (.int .i64 0)).setCell ⟨gb,bb+i*9+4,none⟩ (.int .i64 0)).setCell ⟨gb,bb+i*9+5,none⟩ (.int .i64 0)).setCell ⟨gb,bb+i*9+6,none⟩ (.bool false)).setCell ⟨gb,bb+i*9+7,none⟩ (.string ⟨#[]⟩)).setCell ⟨gb,bb+i*9+8,none⟩ (.slice none 0 0)) rd (B.set i NdZ):=by
 obtain⟨gb',bb',c',cells,u,hvb',_,_,hgc,hsz,hn,h5,hz⟩:=h.at hg hZ hi;rw[hvb]at hvb';injection hvb' with e1 e2 e3
 injection e1 with e1
 injection e1 with e4 e5
 subst e4;subst e5;refine⟨u,hn,h5,?_⟩
 have st:∀ {w':World} {cs:Array Value} (o:Nat) (v:Value),Kp w (fun k=>k=gb) w'∧HC w' gb cs 37→Kp w (fun k=>k=gb) (w'.setCell ⟨gb,o,none⟩ v)∧HC (w'.setCell ⟨gb,o,none⟩ v) gb (cs.setIfInBounds o v) 37 :=
  fun o v hh=>⟨hh.1.trans (zbn hh.2),zc3 hh.2⟩
 have all:=st (bb+i*9+8) (.slice none 0 0) (st (bb+i*9+7) (.string ⟨#[]⟩) (st (bb+i*9+6) (.bool false) (st (bb+i*9+5) (.int .i64 0) (st (bb+i*9+4) (.int .i64 0) (st (bb+i*9+3) (.int .i64 0) (st (bb+i*9+2) (.int .i64 0) (st (bb+i*9+1) (.int .i64 0) (st (bb+i*9) (.int .i64 0) ⟨Kp.refl w _,hgc⟩))))))));refine hz _ _ all.1 all.2 ?_;simp only[Array.toList_setIfInBounds];exact zvu (vs:=zCs) (o:=bb+i*9) (L:=cells.toList) (by simpa [zCs] using hsz)
theorem I1.len(h:I1 w0 Z g0 g2 g3 gv FA FB va vb A w rd B):B.length≤9223372036854775807:=by
 obtain⟨⟨A,cap,_,h1,h2,_⟩,_⟩:=h.rb;have h2:cap≤9223372036854775807:=h2;omega
theorem I1.vbl(h:I1 w0 Z g0 g2 g3 gv FA FB va vb A w rd B):∃ Ab c,vb = .slice Ab B.length c:=by
 obtain⟨⟨A,cap,h0,h1,h2,_⟩,_⟩:=h.rb;exact⟨A,cap,h0⟩
end
structure I2(w0:World)(Z:Nat→Prop)(g0 g2 g3:Nat)(w:World)(rd:RdT)(f:List FsL)(mt:Int)(u:Value)(F:List Nat):Prop where
 kp:Kp w0 (fun k=>k=g0) w
 rd:Rdr w Z g0 rd
 c2:w.heap[g2]? = some (.cells #[.slice none 0 0,.int .i64 0] 46 (0,0))
 c3:w.heap[g3]? = some (.cells #[u,.int .i64 mt] 46 (0,0))
 rf:RoR w F 25 tFs f u
 nd:(g2::g3::F).Nodup
 lt:∀ k∈g2::g3::F,w0.heap.size≤k∧k<w.heap.size
section
variable{w0 w:World}{Z:Nat→Prop}{g0 g2 g3 gv:Nat}{FA FB F:List Nat}{va vb u:Value}{A B:FsL}{rd:RdT}{f:List FsL}{mt:Int}
theorem za1(w:World)(o:Obj)(D:Nat→Prop):Kp w D (w.alloc o) :=
 ⟨rfl,rfl,rfl,by show w.heap.size≤(w.heap.push o).size;simp,fun k hk _=>by show (w.heap.push o)[k]? = w.heap[k]?;rw[Array.getElem?_push,if_neg (by omega)]⟩
theorem zgz(w:World)(o:Obj):(w.alloc o).heap[w.heap.size]? = some o:=by
 show (w.heap.push o)[w.heap.size]? = some o;simp
theorem I1.init{w w1 w2:World}{Z:Nat→Prop}{g0:Nat}{rd2:RdT}{A B:FsL}{va vb:Value}{FA FB:List Nat}(hZ:∀ k,Z k→k<w.heap.size∧k≠g0)(hg:g0<w.heap.size)
  (hk1:Kp (w.alloc (.cells #[.slice none 0 0,.int .i64 0] 46)) (fun k=>k=g0) w1) (hra:RoR w1 FA 37 (tIn 100) A va) (hna:FA.Nodup) (hla:∀ k∈FA,(w.alloc (.cells #[.slice none 0 0,.int .i64 0] 46)).heap.size≤k∧k<w1.heap.size)
  (hk2:Kp w1 (fun k=>k=g0) w2) (hrb:RoR w2 FB 37 (tIn 100) B vb) (hnb:FB.Nodup) (hlb:∀ k∈FB,w1.heap.size≤k∧k<w2.heap.size) (hr:Rdr w2 Z g0 rd2) :
  I1 w Z g0 w.heap.size (w2.heap.size+1) w2.heap.size FA FB va vb A ((w2.alloc (.cells #[va,vb] 25)).alloc (.cells #[.slice (some ⟨w2.heap.size,0,none⟩) 2 2,.int .i64 (-1)] 46)) rd2 B:=by
 have hs0:(w.alloc (.cells #[.slice none 0 0,.int .i64 0] 46)).heap.size=w.heap.size+1:=by show (w.heap.push _).size=_;simp
 have hs1:(w2.alloc (.cells #[va,vb] 25)).heap.size=w2.heap.size+1:=by show (w2.heap.push _).size=_;simp
 have hs2:((w2.alloc (.cells #[va,vb] 25)).alloc (.cells #[.slice (some ⟨w2.heap.size,0,none⟩) 2 2,.int .i64 (-1)] 46)).heap.size=w2.heap.size+2:=by
  show ((w2.heap.push _).push _).size=_;simp
 have z1:=hk1.size;have z2:=hk2.size;rw[hs0]at z1;have k3:Kp w2 (fun k=>k=g0) ((w2.alloc (.cells #[va,vb] 25)).alloc (.cells #[.slice (some ⟨w2.heap.size,0,none⟩) 2 2,.int .i64 (-1)] 46)):=(za1 _ _ _).trans (za1 _ _ _);have e3:∀ k,k<w2.heap.size→((w2.alloc (.cells #[va,vb] 25)).alloc (.cells #[.slice (some ⟨w2.heap.size,0,none⟩) 2 2,.int .i64 (-1)] 46)).heap[k]? = w2.heap[k]?:=fun k hk=>((za1 w2 (.cells #[va,vb] 25) (fun _=>False)).trans (za1 _ _ _)).block k hk (fun h=>h);have k2:=hk2.trans k3;have k1:=hk1.trans k2;refine⟨(za1 w _ _).trans k1,hr.frame (e3 g0 (by omega)) (fun k hk=>e3 k (by have:=(hZ k hk).1;omega)),?_,?_,?_,hra.frame (fun k hk=>?_),hrb.frame (fun k hk=>e3 k (hlb k hk).2),?_,?_⟩
 ·rw[k1.block _ (by rw[hs0];omega) (by omega)];exact zgz w _
 ·rw[← hs1];exact zgz _ _
 ·rw[(za1 _ _ (fun _=>False)).block _ (by rw[hs1];omega) (fun h=>h)];exact zgz _ _
 ·have:=hla k hk;rw[hs0]at this;exact k2.block k this.2 (by omega)
 ·have nA:∀ k∈FA,w.heap.size+1≤k∧k<w1.heap.size:=fun k hk=>by have:=hla k hk;rw[hs0]at this;exact this
  simp only[List.nodup_cons,List.mem_cons,List.mem_append,not_or];refine⟨⟨by omega,by omega,fun h=>by have:=nA _ h;omega,fun h=>by have:=hlb _ h;omega⟩,⟨by omega,fun h=>by have:=nA _ h;omega,fun h=>by have:=hlb _ h;omega⟩,⟨fun h=>by have:=nA _ h;omega,fun h=>by have:=hlb _ h;omega⟩,List.nodup_append.2 ⟨hna,hnb,fun a ha b hb e=>by have:=nA _ ha;have:=hlb _ hb;omega⟩⟩
 ·intro k hk;rw[hs2];simp only[List.mem_cons,List.mem_append]at hk;rcases hk with rfl|rfl|rfl|hk|hk
  ·omega
  ·omega
  ·omega
  ·have:=hla k hk;rw[hs0]at this;omega
  ·have:=hlb k hk;omega
theorem yig{gv:Nat}(hc:w.heap[gv]? = some (.cells #[va,vb] 25 (0,0)))(ha:RoR w FA 37 (tIn 100) A va)(hb:RoR w FB 37 (tIn 100) B vb)(hA:gv∉FA)(hB:gv∉FB) :
  RoR w (gv::(FA++FB)) 25 tFs [A,B] (.slice (some ⟨gv,0,none⟩) 2 2):=by
 refine ApR.toRo ⟨⟨some ⟨gv,0,none⟩,2,2,1,false⟩,[gv],rfl,(fun k hk=>by simp at hk;simp[hk]),?_⟩;unfold OwRow;rw[if_neg (by simp)];refine⟨rfl,rfl,Nat.le_refl _,(show (2:Nat)≤9223372036854775807 by decide),?_⟩;rw[if_neg (by simp)];refine⟨rfl,gv,0,#[va,vb],[],rfl,rfl,.old hc,(show 0+2*1≤2 by decide),?_⟩;refine⟨[va],[vb],[],[],rfl,rfl,⟨⟨va,rfl,CnR.imp (fun k hk=>⟨⟨by simp[hk],by simp;rintro rfl;exact hA hk⟩,rfl⟩) ha.1⟩,rfl⟩,[vb],[],[],[],rfl,rfl,⟨⟨vb,rfl,CnR.imp (fun k hk=>⟨⟨by simp[hk],by simp;rintro rfl;exact hB hk⟩,rfl⟩) hb.1⟩,rfl⟩,rfl,rfl⟩
theorem I1.to2(h:I1 w0 Z g0 g2 g3 gv FA FB va vb A w rd B):I2 w0 Z g0 g2 g3 w rd [A,B] (-1) (.slice (some ⟨gv,0,none⟩) 2 2) (gv::(FA++FB)):=by
 have hnd:=h.nd;simp only[List.nodup_cons,List.mem_cons,List.mem_append,not_or]at hnd;exact⟨h.kp,h.rd,h.c2,h.c3,yig h.cv h.ra h.rb hnd.2.2.1.1 hnd.2.2.1.2,h.nd,h.lt⟩
theorem I2.pick(h:I2 w0 Z g0 g2 g3 w rd f mt u F)(hg:g0<w0.heap.size){w':World}{rd':RdT}(hr:Rdr w' Z g0 rd')(hk:Kp w (fun k=>k=g0) w'):I2 w0 Z g0 g2 g3 w' rd' f mt u F:=by
 have e:∀ k∈g2::g3::F,w'.heap[k]? = w.heap[k]?:=fun k hk'=>hk.block k (h.lt k hk').2 (fun e=>by have:=(h.lt k hk').1;omega);exact⟨h.kp.trans hk,hr,(e g2 (by simp)).trans h.c2,(e g3 (by simp)).trans h.c3,h.rf.frame (fun k hk'=>e k (by simp[hk'])),h.nd,fun k hk'=>⟨(h.lt k hk').1,Nat.lt_of_lt_of_le (h.lt k hk').2 hk.size⟩⟩
theorem I2.more(h:I2 w0 Z g0 g2 g3 w rd f mt u F)(hg:g0<w0.heap.size)(hZ:∀ k,Z k→k<w0.heap.size∧k≠g0){w':World}(hk:Kp w (fun _=>False) w'):I2 w0 Z g0 g2 g3 w' rd f mt u F :=
 h.pick hg (h.rd.frame (hk.block g0 (Nat.lt_of_lt_of_le hg h.kp.size) (fun h=>h)) (fun k hk'=>hk.block k (Nat.lt_of_lt_of_le (hZ k hk').1 h.kp.size) (fun h=>h))) ⟨hk.os,hk.tape,hk.output,hk.size,fun k h1 _=>hk.block k h1 (fun h=>h)⟩
theorem I2.swap(h:I2 w0 Z g0 g2 g3 w rd f mt u F)(hg:g0<w0.heap.size)(hZ:∀ k,Z k→k<w0.heap.size∧k≠g0){b0:Nat}{f':List FsL}{mt':Int}{u':Value}{F':List Nat}
  (hb:w0.heap.size≤b0∧g2<b0∧g3<b0) (hr:RoR w F' 25 tFs f' u') (hn:F'.Nodup) (hl:∀ k∈F',b0≤k∧k<w.heap.size) :
  I2 w0 Z g0 g2 g3 ((w.setCell ⟨g3,0,none⟩ u').setCell ⟨g3,1,none⟩ (.int .i64 mt')) rd f' mt' u' F':=by
 have hc:=HC.old h.c3;have e1:(w.setCell ⟨g3,0,none⟩ u').heap[g3]? = some (.cells (#[u,.int .i64 mt].setIfInBounds 0 u') 46 (0,0)):=zby w g3 0 u' _ 46 (0,0) h.c3;have e2:((w.setCell ⟨g3,0,none⟩ u').setCell ⟨g3,1,none⟩ (.int .i64 mt')).heap[g3]? = some (.cells ((#[u,.int .i64 mt].setIfInBounds 0 u').setIfInBounds 1 (.int .i64 mt')) 46 (0,0)):=zby _ g3 1 _ _ 46 (0,0) e1;have hk:Kp w (fun k=>k=g3) ((w.setCell ⟨g3,0,none⟩ u').setCell ⟨g3,1,none⟩ (.int .i64 mt')):=(zbn hc).trans (zbn (HC.old e1));have h3:=h.lt g3 (by simp);have h2:=h.lt g2 (by simp);have hnd:=h.nd;simp only[List.nodup_cons,List.mem_cons,not_or]at hnd;have e:∀ k,k<w.heap.size→k≠g3→((w.setCell ⟨g3,0,none⟩ u').setCell ⟨g3,1,none⟩ (.int .i64 mt')).heap[k]? = w.heap[k]?:=fun k h1 h2=>hk.block k h1 h2;have hs:=h.kp.size;refine⟨h.kp.step hk (fun k hk=>.inr (by rw[hk];exact h3.1)),h.rd.frame (e g0 (by omega) (by omega)) (fun k hk=>e k (by have:=(hZ k hk).1;omega) (by have:=(hZ k hk).1;omega)),(e g2 h2.2 hnd.1.1).trans h.c2,e2,hr.frame (fun k hk=>e k (hl k hk).2 (by have:=(hl k hk).1;omega)),?_,?_⟩
 ·simp only[List.nodup_cons,List.mem_cons,not_or];exact⟨⟨hnd.1.1,fun h=>by have:=(hl _ h).1;omega⟩,fun h=>by have:=(hl _ h).1;omega,hn⟩
 ·intro k hk';have:=hk.size;simp only[List.mem_cons]at hk';rcases hk' with rfl|rfl|hk'
  ·omega
  ·omega
  ·have:=hl k hk';omega
theorem I2.num(h:I2 w0 Z g0 g2 g3 w rd f mt u F)(hg:g0<w0.heap.size)(hZ:∀ k,Z k→k<w0.heap.size∧k≠g0)(mt':Int):I2 w0 Z g0 g2 g3 (w.setCell ⟨g3,1,none⟩ (.int .i64 mt')) rd f mt' u F:=by
 have hc:=HC.old h.c3;have e1:(w.setCell ⟨g3,1,none⟩ (.int .i64 mt')).heap[g3]? = some (.cells (#[u,.int .i64 mt].setIfInBounds 1 (.int .i64 mt')) 46 (0,0)):=zby w g3 1 _ _ 46 (0,0) h.c3;have hk:Kp w (fun k=>k=g3) (w.setCell ⟨g3,1,none⟩ (.int .i64 mt')):=zbn hc;have h3:=h.lt g3 (by simp);have h2:=h.lt g2 (by simp);have hnd:=h.nd;simp only[List.nodup_cons,List.mem_cons,not_or]at hnd;have e:∀ k,k<w.heap.size→k≠g3→(w.setCell ⟨g3,1,none⟩ (.int .i64 mt')).heap[k]? = w.heap[k]?:=fun k h1 h2=>hk.block k h1 h2;have hs:=h.kp.size;exact⟨h.kp.step hk (fun k hk=>.inr (by rw[hk];exact h3.1)),h.rd.frame (e g0 (by omega) (by omega)) (fun k hk=>e k (by have:=(hZ k hk).1;omega) (by have:=(hZ k hk).1;omega)),(e g2 h2.2 hnd.1.1).trans h.c2,e1,h.rf.frame (fun k hk=>e k (h.lt k (by simp[hk])).2 (fun e=>hnd.2.1 (e ▸ hk))),h.nd,fun k hk'=>⟨(h.lt k hk').1,Nat.lt_of_lt_of_le (h.lt k hk').2 hk.size⟩⟩
theorem I2.fin(h:I2 w0 Z g0 g2 g3 w rd f mt u F)(hg:g0<w0.heap.size)(hZ:∀ k,Z k→k<w0.heap.size∧k≠g0)(v1 v2:Value):∃ F',RoR ((w.setCell ⟨g2,0,none⟩ v1).setCell ⟨g2,1,none⟩ v2) F' 25 tFs f u∧F'.Nodup∧(∀ k∈F',w0.heap.size≤k∧k<((w.setCell ⟨g2,0,none⟩ v1).setCell ⟨g2,1,none⟩ v2).heap.size)∧Rdr ((w.setCell ⟨g2,0,none⟩ v1).setCell ⟨g2,1,none⟩ v2) Z g0 rd∧Kp w0 (fun k=>k=g0) ((w.setCell ⟨g2,0,none⟩ v1).setCell ⟨g2,1,none⟩ v2)∧((w.setCell ⟨g2,0,none⟩ v1).setCell ⟨g2,1,none⟩ v2).heap[g2]? = some (.cells #[v1,v2] 46 (0,0)):=by
 have hc:=HC.old h.c2;have hk:Kp w (fun k=>k=g2) ((w.setCell ⟨g2,0,none⟩ v1).setCell ⟨g2,1,none⟩ v2):=(zbn hc).trans (zbn (zc3 hc));have h2:=h.lt g2 (by simp);have hnd:=h.nd;simp only[List.nodup_cons,List.mem_cons,not_or]at hnd;have e:∀ k,k<w.heap.size→k≠g2→((w.setCell ⟨g2,0,none⟩ v1).setCell ⟨g2,1,none⟩ v2).heap[k]? = w.heap[k]?:=fun k h1 h2=>hk.block k h1 h2;have hs:=h.kp.size;exact⟨F,h.rf.frame (fun k hk=>e k (h.lt k (by simp[hk])).2 (fun e=>hnd.1.2 (e ▸ hk))),hnd.2.2,fun k hk'=>⟨(h.lt k (by simp[hk'])).1,Nat.lt_of_lt_of_le (h.lt k (by simp[hk'])).2 hk.size⟩,h.rd.frame (e g0 (by omega) (by omega)) (fun k hk=>e k (by have:=(hZ k hk).1;omega) (by have:=(hZ k hk).1;omega)),h.kp.step hk (fun k hk=>.inr (by rw[hk];exact h2.1)),zby _ g2 1 _ _ 46 (0,0) (zby w g2 0 v1 _ 46 (0,0) h.c2)⟩
theorem I2.cells(h:I2 w0 Z g0 g2 g3 w rd f mt u F):w.cell? ⟨g3,0,none⟩=some u∧w.cell? ⟨g3,1,none⟩=some (.int .i64 mt)∧w.frozen? ⟨g3,0,none⟩=false∧w.frozen? ⟨g3,1,none⟩=false ∧
  w.cell? ⟨g2,0,none⟩=some (.slice none 0 0)∧w.cell? ⟨g2,1,none⟩=some (.int .i64 0)∧w.frozen? ⟨g2,0,none⟩=false∧w.frozen? ⟨g2,1,none⟩=false∧g2≠g3:=by
 have h3:=HC.old h.c3;have h2:=HC.old h.c2;have hnd:=h.nd;simp only[List.nodup_cons,List.mem_cons,not_or]at hnd;exact⟨by rw[h3.cell];rfl,by rw[h3.cell];rfl,HC.unfrozen (i:=0) (Nat.lt_of_lt_of_le (show 0<2 by decide) (Nat.le_refl _)) h3,HC.unfrozen (i:=1) (Nat.lt_of_lt_of_le (show 1<2 by decide) (Nat.le_refl _)) h3,by rw[h2.cell];rfl,by rw[h2.cell];rfl,HC.unfrozen (i:=0) (Nat.lt_of_lt_of_le (show 0<2 by decide) (Nat.le_refl _)) h2,HC.unfrozen (i:=1) (Nat.lt_of_lt_of_le (show 1<2 by decide) (Nat.le_refl _)) h2,hnd.1.1⟩
theorem I2.first(h:I2 w0 Z g0 g2 g3 w rd f mt u F)(hf:f.length≠0):∃ gf bf cf Ab cn,u = .slice (some ⟨gf,bf,none⟩) f.length cf∧w.cell? ⟨gf,bf,none⟩=some (.slice Ab (f.getD 0 []).length cn)∧(f.getD 0 []).length≤9223372036854775807 ∧
  ∀ i,i<(f.getD 0 []).length→∃ gn bn,Ab=some ⟨gn,bn,none⟩∧w.cell? ⟨gn,bn+i*9,none⟩=some (.int .i64 ((f.getD 0 []).getD i NdZ).1):=by
 obtain⟨gf,bf,cf,cells,q,fz,ci,hu,_,hh,hcn,hget⟩:=CnR.get h.rf.1 (i:=0) (by omega);obtain⟨v,rfl,hv⟩:=hcn
 have h0:w.cell? ⟨gf,bf,none⟩=some v:=by
  have:=hget 0 v rfl;simp only[World.cell?,hh];simpa using this
 have hv':=hv;obtain⟨Ab,cn,hvv,hl,hm,_⟩:=hv';have hm:cn≤9223372036854775807:=hm;subst hvv;refine⟨gf,bf,cf,Ab,cn,hu,h0,Nat.le_trans hl hm,fun i hi=>?_⟩;obtain⟨gn,bn,cn',cells',q',fz',ci',hvn,_,hh',hcn',hget'⟩:=CnR.get hv (i:=i) hi;injection hvn with hA _ _
 obtain⟨x,rfl,_⟩:=yp4 hcn';refine⟨gn,bn,hA,?_⟩;have:=hget' 0 _ rfl;simp only[World.cell?,hh'];exact this
end
end Go.Proofs.Ytbjgiioppmkpiaa.Rx.S
