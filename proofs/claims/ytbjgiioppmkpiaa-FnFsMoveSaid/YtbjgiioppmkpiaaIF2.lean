/- What the functions of this seat compute, each as a plain function on lists and numbers, with the proof that a call answers so. No condition. -/
import Derived.Test.YtbjgiioppmkpiaaIF1
set_option linter.unusedVariables false
set_option linter.unusedSimpArgs false
namespace Go.Proofs.Ytbjgiioppmkpiaa.Rx.S
open Go Go.RowKit Go.Proofs
set_option maxRecDepth 100000
noncomputable def c4:Code:=(Try.f4.body.getD .skip)
abbrev ps4:List PK:=[.val (.row 5 (.int .u8)) false]
abbrev rs4:List RK:=[.val .bool false]
abbrev R4:=retsD rs4 × outsD ps4
noncomputable def st4_top (n:Nat) (lL14:Int→Int→Int→(List NT)→(List NT)→Option R4) (a:List Int):Option R4 :=
 cond (decide ((1048576:Int) < (↑a.length:Int))) (some ((true,()),())) ((q20 n (a,())).bind fun r0=>(q21 n (r0.1.1,(r0.1.2.1.1,r0.1.2.1.2.1,r0.1.2.1.2.2),r0.1.2.2.1,r0.1.2.2.2.1,())).bind fun r1=>(q22 n (r0.1.1,(r0.1.2.1.1,r0.1.2.1.2.1,r0.1.2.1.2.2),r0.1.2.2.1,r0.1.2.2.2.1,())).bind fun r2=>(q18 n (r1.1.1,r2.1.1,())).bind fun r3=>cond (r3.1.1) (cond (!decide (r1.1.2.1=r2.1.2.1)) (some ((decide (r1.1.2.1=r2.1.2.1),()),())) (cond (!!decide (r1.1.2.1=(1:Int))) (some ((decide (r1.1.2.1=r2.1.2.1),()),())) (cond (!decide (r1.1.2.1=(0:Int))) ((q18 n (r0.1.1,r1.1.1,())).bind fun r4=>some ((r4.1.1,()),())) ((q23 n (r0.1.1,(r0.1.2.1.1,r0.1.2.1.2.1,r0.1.2.1.2.2),r0.1.2.2.1,r0.1.2.2.2.1,())).bind fun r5=>(q23 n (r1.1.1,(r0.1.2.1.1,r0.1.2.1.2.1,r0.1.2.1.2.2),r0.1.2.2.1,r0.1.2.2.2.1,())).bind fun r6=>lL14 (r5.1.1) (r6.1.2.1) ((0:Int)) (r0.1.1) (r1.1.1))))) (some ((false,()),())))
noncomputable def st4_L14 (n:Nat) (lL14:Int→Int→Int→(List NT)→(List NT)→Option R4) (x0:Int) (x1:Int) (x2:Int) (x3:List NT) (x4:List NT):Option R4 :=
 cond (decide (x2 < (↑x3.length:Int))) (cond (!decide (x2=x0)) (cond (decide ((0:Int)≤x2)) (cond (decide (x2 < (↑x3.length:Int))) (cond (decide ((0:Int)≤x2)) (cond (decide (x2 < (↑x4.length:Int))) (cond (!ByteArray.toList (x3.getD x2.toNat ZN).2.2.2.2.2.2.2.1 == ByteArray.toList (x4.getD x2.toNat ZN).2.2.2.2.2.2.2.1) (some ((false,()),())) (lL14 (x0) (x1) (Go.IntKind.i64.wrap (x2 + (1:Int))) (x3) (x4))) (none)) (none)) (none)) (none)) (lL14 (x0) (x1) (Go.IntKind.i64.wrap (x2 + (1:Int))) (x3) (x4))) (cond (decide ((0:Int)≤x0)) (cond (decide (x0 < (↑x3.length:Int))) (cond (decide ((x3.getD x0.toNat ZN).2.2.2.2.1=(1:Int))) (cond (decide ((0:Int)≤x0)) (cond (decide (x0 < (↑x3.length:Int))) ((q19 n (x4,())).bind fun r8=>cond (r8.1.1) (cond (decide (x1=(2:Int))) (cond (decide ((0:Int)≤x0)) (cond (decide (x0 < (↑x4.length:Int))) (some ((decide ((x4.getD x0.toNat ZN).1=(0:Int)) == decide ((x3.getD x0.toNat ZN).2.2.2.2.2.1=(0:Int)),()),())) (none)) (none)) (some ((false,()),()))) (some ((false,()),()))) (none)) (none)) ((q19 n (x4,())).bind fun r9=>cond (r9.1.1) (cond (decide (x1=(2:Int))) (cond (decide ((0:Int)≤x0)) (cond (decide (x0 < (↑x4.length:Int))) (some ((decide ((x4.getD x0.toNat ZN).1=(0:Int)) == false,()),())) (none)) (none)) (some ((false,()),()))) (some ((false,()),())))) (none)) (none))
noncomputable def p4_L14 (n:Nat):Nat→Int→Int→Int→(List NT)→(List NT)→Option R4
 | 0,_,_,_,_,_=>none
 | m + 1,x0,x1,x2,x3,x4=>st4_L14 n (p4_L14 n m) x0 x1 x2 x3 x4
noncomputable def p4 (n:Nat) (a:List Int):Option R4:=st4_top n (p4_L14 n n) a
end Go.Proofs.Ytbjgiioppmkpiaa.Rx.S

namespace Go.Proofs.Ytbjgiioppmkpiaa.Rx.S
open Go Go.RowKit Go.Proofs
set_option maxRecDepth 100000
noncomputable def c109:Code:=(Try.f109.body.getD .skip)
def an109:An:=⟨fun r=>match r with | 2=>⟨[1,11,12,13],[]⟩ | 5=>⟨[1,6,11,12,13,19,20,21],[]⟩ | _=>⟨[],[]⟩,fun _ _=>none⟩
abbrev ps109:List PK:=[.val tFs true,.val i64 false]
abbrev rs109:List RK:=[.val i64 false,.val .str false]
abbrev R109:=retsD rs109 × outsD ps109
noncomputable def G109:Gam:=fun _=>none
theorem h0_109 (hg:GamOK Try.prog G109):Holds Try.prog 109 ⟨ps109,rs109,false,runF TT G109 an109 Try.f109 c109 ps109 rs109⟩:=holds_of tt_ok hg mixed Try.func109 (by kernel_rfl) (by rfl) (by decide +kernel)
noncomputable def at109:Nat→Pt→List Nat→St→Option R109:=atF TT G109 an109 Try.f109 c109 _ _
def sh109_L5 (x0:Int) (x1:Int) (x2:List NT) (x3:Int) (x4:Int) (x5:List (ByteArray × Int)) (x6:Int) (x7:Int):St:=(St.mk (AV.undef :: ((AV.one (SV.int (Go.IntKind.i64) x0)) :: (AV.undef :: (AV.undef :: (AV.undef :: (AV.undef :: ((AV.one (SV.int (Go.IntKind.i64) x1)) :: (AV.undef :: (AV.undef :: (AV.undef :: (AV.undef :: ((AV.one (SV.con (⟨37,(Ty.int Go.IntKind.i64).pair ((Ty.int Go.IntKind.i64).pair ((Ty.int Go.IntKind.i64).pair ((Ty.int Go.IntKind.i64).pair ((Ty.int Go.IntKind.i64).pair ((Ty.int Go.IntKind.i64).pair (Ty.bool.pair (Ty.str.pair (Ty.row (nat_lit 100) (Ty.str.pair (Ty.int Go.IntKind.i64)))))))))),x2⟩:Rw))) :: ((AV.one (SV.int (Go.IntKind.i64) x3)) :: ((AV.one (SV.int (Go.IntKind.i64) x4)) :: (AV.undef :: (AV.undef :: (AV.undef :: (AV.undef :: (AV.undef :: ((AV.one (SV.con (⟨100,Ty.str.pair (Ty.int Go.IntKind.i64),x5⟩:Rw))) :: ((AV.one (SV.int (Go.IntKind.i64) x6)) :: ((AV.one (SV.int (Go.IntKind.i64) x7)) :: (AV.undef :: (AV.undef :: (AV.undef :: (AV.undef :: (AV.undef :: (AV.undef :: (AV.undef :: (AV.undef :: (AV.undef :: (AV.undef :: (AV.undef :: (AV.undef :: [])))))))))))))))))))))))))))))))))) [])
def sh109_L2 (x0:Int) (x1:List NT) (x2:Int) (x3:Int):St:=(St.mk (AV.undef :: ((AV.one (SV.int (Go.IntKind.i64) x0)) :: (AV.undef :: (AV.undef :: (AV.undef :: (AV.undef :: (AV.undef :: (AV.undef :: (AV.undef :: (AV.undef :: (AV.undef :: ((AV.one (SV.con (⟨37,(Ty.int Go.IntKind.i64).pair ((Ty.int Go.IntKind.i64).pair ((Ty.int Go.IntKind.i64).pair ((Ty.int Go.IntKind.i64).pair ((Ty.int Go.IntKind.i64).pair ((Ty.int Go.IntKind.i64).pair (Ty.bool.pair (Ty.str.pair (Ty.row (nat_lit 100) (Ty.str.pair (Ty.int Go.IntKind.i64)))))))))),x1⟩:Rw))) :: ((AV.one (SV.int (Go.IntKind.i64) x2)) :: ((AV.one (SV.int (Go.IntKind.i64) x3)) :: (AV.undef :: (AV.undef :: (AV.undef :: (AV.undef :: (AV.undef :: (AV.undef :: (AV.undef :: (AV.undef :: (AV.undef :: (AV.undef :: (AV.undef :: (AV.undef :: (AV.undef :: (AV.undef :: (AV.undef :: (AV.undef :: (AV.undef :: (AV.undef :: (AV.undef :: (AV.undef :: [])))))))))))))))))))))))))))))))))) [])
noncomputable def st109_top (n:Nat) (lL2:Int→(List NT)→Int→Int→Option R109) (a:List NT) (b:Int):Option R109 :=
 lL2 (b) (a) ((↑a.length:Int)) ((0:Int))
noncomputable def st109_L5 (n:Nat) (lL5:Int→Int→(List NT)→Int→Int→(List (ByteArray × Int))→Int→Int→Option R109) (lL2:Int→(List NT)→Int→Int→Option R109) (x0:Int) (x1:Int) (x2:List NT) (x3:Int) (x4:Int) (x5:List (ByteArray × Int)) (x6:Int) (x7:Int):Option R109 :=
 cond (decide (x7 < x6)) (cond (decide ((0:Int)≤x7)) (cond (decide (x7 < (↑x5.length:Int))) (cond (decide ((x5.getD x7.toNat (ByteArray.empty,(0:Int))).2=x0)) (some ((x1,((x5.getD x7.toNat (ByteArray.empty,(0:Int))).1,())),())) (lL5 (x0) (x1) (x2) (x3) (x4) (x5) (x6) (Go.IntKind.i64.wrap (x7 + (1:Int))))) (none)) (none)) (lL2 (x0) (x2) (x3) (Go.IntKind.i64.wrap (x4 + (1:Int))))
noncomputable def st109_L2 (n:Nat) (lL5:Int→Int→(List NT)→Int→Int→(List (ByteArray × Int))→Int→Int→Option R109) (x0:Int) (x1:List NT) (x2:Int) (x3:Int):Option R109 :=
 cond (decide (x3 < x2)) (cond (decide ((0:Int)≤x3)) (cond (decide (x3 < (↑x1.length:Int))) (lL5 (x0) (x3) (x1) (x2) (x3) ((x1.getD x3.toNat ZN).2.2.2.2.2.2.2.2) ((↑(List.length (x1.getD x3.toNat ZN).2.2.2.2.2.2.2.2):Int)) ((0:Int))) (none)) (none)) (some (((0:Int),(ByteArray.mk #[],())),()))
theorem e109_top (n:Nat) (a:List NT) (b:Int):runF TT G109 an109 Try.f109 c109 ps109 rs109 n (a,b,())=st109_top n (fun x0 x1 x2 x3=>at109 n (.head 2) [n] (sh109_L2 x0 x1 x2 x3)) a b:=by kernel_rfl
theorem e109_L5_0 (n:Nat) (m2:Nat) (x0:Int) (x1:Int) (x2:List NT) (x3:Int) (x4:Int) (x5:List (ByteArray × Int)) (x6:Int) (x7:Int):at109 n (.head 5) [m2,0] (sh109_L5 x0 x1 x2 x3 x4 x5 x6 x7)=none:=by kernel_rfl
theorem e109_L5 (n:Nat) (m2:Nat) (m5:Nat) (x0:Int) (x1:Int) (x2:List NT) (x3:Int) (x4:Int) (x5:List (ByteArray × Int)) (x6:Int) (x7:Int):at109 n (.head 5) [m2,m5 + 1] (sh109_L5 x0 x1 x2 x3 x4 x5 x6 x7)=st109_L5 n (fun x0 x1 x2 x3 x4 x5 x6 x7=>at109 n (.head 5) [m2,m5] (sh109_L5 x0 x1 x2 x3 x4 x5 x6 x7)) (fun x0 x1 x2 x3=>at109 n (.head 2) [m2] (sh109_L2 x0 x1 x2 x3)) x0 x1 x2 x3 x4 x5 x6 x7:=by kernel_rfl
theorem e109_L2_0 (n:Nat) (x0:Int) (x1:List NT) (x2:Int) (x3:Int):at109 n (.head 2) [0] (sh109_L2 x0 x1 x2 x3)=none:=by kernel_rfl
theorem e109_L2 (n:Nat) (m2:Nat) (x0:Int) (x1:List NT) (x2:Int) (x3:Int):at109 n (.head 2) [m2 + 1] (sh109_L2 x0 x1 x2 x3)=st109_L2 n (fun x0 x1 x2 x3 x4 x5 x6 x7=>at109 n (.head 5) [m2,n] (sh109_L5 x0 x1 x2 x3 x4 x5 x6 x7)) x0 x1 x2 x3:=by kernel_rfl
noncomputable def p109_L5 (g2:Int→(List NT)→Int→Int→Option R109) (n:Nat):Nat→Int→Int→(List NT)→Int→Int→(List (ByteArray × Int))→Int→Int→Option R109
 | 0,_,_,_,_,_,_,_,_=>none
 | m + 1,x0,x1,x2,x3,x4,x5,x6,x7=>st109_L5 n (p109_L5 g2 n m) g2 x0 x1 x2 x3 x4 x5 x6 x7
noncomputable def p109_L2 (n:Nat):Nat→Int→(List NT)→Int→Int→Option R109
 | 0,_,_,_,_=>none
 | m + 1,x0,x1,x2,x3=>st109_L2 n (p109_L5 (p109_L2 n m) n n) x0 x1 x2 x3
noncomputable def p109 (n:Nat) (a:List NT) (b:Int):Option R109:=st109_top n (p109_L2 n n) a b
theorem t109_L5 (n:Nat) (m2:Nat):∀ (m5:Nat) (x0:Int) (x1:Int) (x2:List NT) (x3:Int) (x4:Int) (x5:List (ByteArray × Int)) (x6:Int) (x7:Int),at109 n (.head 5) [m2,m5] (sh109_L5 x0 x1 x2 x3 x4 x5 x6 x7)=p109_L5 (fun x0 x1 x2 x3=>at109 n (.head 2) [m2] (sh109_L2 x0 x1 x2 x3)) n m5 x0 x1 x2 x3 x4 x5 x6 x7:=by
 intro m
 induction m with
 | zero=>intros; rw [e109_L5_0]; rfl
 | succ m ih =>
  intros
  rw [e109_L5]
  try simp only [ih]
  rfl
theorem t109_L2 (n:Nat):∀ (m2:Nat) (x0:Int) (x1:List NT) (x2:Int) (x3:Int),at109 n (.head 2) [m2] (sh109_L2 x0 x1 x2 x3)=p109_L2 n m2 x0 x1 x2 x3:=by
 intro m
 induction m with
 | zero=>intros; rw [e109_L2_0]; rfl
 | succ m ih =>
  intros
  rw [e109_L2]
  try simp only [t109_L5,ih]
  rfl
theorem F109_eq (n:Nat) (a:List NT) (b:Int):runF TT G109 an109 Try.f109 c109 ps109 rs109 n (a,b,())=p109 n a b:=by
 rw [e109_top]
 simp only [t109_L2]
 try rfl
noncomputable def q109 (n:Nat) (x:argsD ps109):Option R109:=p109 n x.1 x.2.1
noncomputable def Sm109:Sm:=⟨ps109,rs109,false,q109⟩
theorem holds109 (hg:GamOK Try.prog G109):Holds Try.prog 109 Sm109:=by
 have:=h0_109 hg
 have e:(runF TT G109 an109 Try.f109 c109 ps109 rs109)=q109:=by
  funext n x
  exact F109_eq n x.1 x.2.1
 rw [e] at this
 exact this
theorem gam109:GamOK Try.prog G109:=fun _ _ h=>by cases h
theorem hh109:Holds Try.prog 109 Sm109:=holds109 gam109
end Go.Proofs.Ytbjgiioppmkpiaa.Rx.S

namespace Go.Proofs.Ytbjgiioppmkpiaa.Rx.S
open Go Go.RowKit Go.Proofs
set_option maxRecDepth 100000
noncomputable def c50:Code:=(Try.f50.body.getD .skip)
def an50:An:=⟨fun r=>match r with | 19=>⟨[2,3,4,5,6,12,14,16,21,22],[]⟩ | _=>⟨[],[]⟩,fun _ _=>none⟩
abbrev ps50:List PK:=[.val tFs true,.val tCr true,.val i64 false,.val .str false,.val i64 false,.val .str false]
abbrev rs50:List RK:=[.own tFs true,.val i64 false]
abbrev R50:=retsD rs50 × outsD ps50
noncomputable def G50:Gam:=fun f=>match f with | 60=>some Sm60 | 62=>some Sm62 | 70=>some Sm70 | 72=>some Sm72 | 73=>some Sm73 | 75=>some Sm75 | 105=>some Sm105 | 109=>some Sm109 | _=>none
theorem h0_50 (hg:GamOK Try.prog G50):Holds Try.prog 50 ⟨ps50,rs50,false,runF TT G50 an50 Try.f50 c50 ps50 rs50⟩:=holds_of tt_ok hg mixed Try.func50 (by kernel_rfl) (by rfl) (by decide +kernel)
noncomputable def at50:Nat→Pt→List Nat→St→Option R50:=atF TT G50 an50 Try.f50 c50 _ _
def sh50_L19 (x0:Int) (x1:ByteArray) (x2:Int) (x3:ByteArray) (x4:Int) (x5:Int) (x6:List NT) (x7:Int) (x8:Int) (x9:Int) (x10:Int) (x11:Int) (x12:Int) (x13:Bool) (x14:ByteArray) (x15:List (ByteArray × Int)) (x16:List NT):St:=(St.mk (AV.undef :: (AV.undef :: ((AV.one (SV.int (Go.IntKind.i64) x0)) :: ((AV.one (SV.str x1)) :: ((AV.one (SV.int (Go.IntKind.i64) x2)) :: ((AV.one (SV.str x3)) :: ((AV.one (SV.bptr 1000000 0)) :: (AV.undef :: (AV.undef :: (AV.undef :: (AV.undef :: (AV.undef :: ((AV.one (SV.bptr 1000001 0)) :: (AV.undef :: ((AV.one (SV.bptr 1000002 0)) :: (AV.undef :: ((AV.one (SV.bptr 1000003 0)) :: (AV.undef :: (AV.undef :: (AV.undef :: (AV.undef :: ((AV.one (SV.int (Go.IntKind.i64) x4)) :: ((AV.one (SV.int (Go.IntKind.i64) x5)) :: (AV.undef :: (AV.undef :: (AV.undef :: (AV.undef :: (AV.undef :: (AV.undef :: (AV.undef :: (AV.undef :: (AV.undef :: (AV.undef :: (AV.undef :: (AV.undef :: (AV.undef :: (AV.undef :: (AV.undef :: (AV.undef :: (AV.undef :: (AV.undef :: (AV.undef :: (AV.undef :: (AV.undef :: (AV.undef :: (AV.undef :: (AV.undef :: (AV.undef :: (AV.undef :: (AV.undef :: (AV.undef :: (AV.undef :: (AV.undef :: (AV.undef :: (AV.undef :: (AV.undef :: (AV.undef :: (AV.undef :: (AV.undef :: (AV.undef :: (AV.undef :: (AV.undef :: (AV.undef :: (AV.undef :: (AV.undef :: (AV.undef :: (AV.undef :: (AV.undef :: (AV.undef :: (AV.undef :: (AV.undef :: (AV.undef :: (AV.undef :: (AV.undef :: (AV.undef :: (AV.undef :: (AV.undef :: (AV.undef :: (AV.undef :: (AV.undef :: (AV.undef :: (AV.undef :: (AV.undef :: (AV.undef :: (AV.undef :: (AV.undef :: (AV.undef :: (AV.undef :: (AV.undef :: (AV.undef :: (AV.undef :: (AV.undef :: (AV.undef :: (AV.undef :: (AV.undef :: (AV.undef :: (AV.undef :: (AV.undef :: (AV.undef :: (AV.undef :: (AV.undef :: (AV.undef :: (AV.undef :: (AV.undef :: (AV.undef :: (AV.undef :: (AV.undef :: (AV.undef :: (AV.undef :: (AV.undef :: (AV.undef :: (AV.undef :: (AV.undef :: (AV.undef :: (AV.undef :: (AV.undef :: (AV.undef :: (AV.undef :: (AV.undef :: (AV.undef :: (AV.undef :: (AV.undef :: (AV.undef :: (AV.undef :: (AV.undef :: (AV.undef :: (AV.undef :: (AV.undef :: (AV.undef :: (AV.undef :: (AV.undef :: (AV.undef :: (AV.undef :: (AV.undef :: [])))))))))))))))))))))))))))))))))))))))))))))))))))))))))))))))))))))))))))))))))))))))))))))))))))))))))))))))))))))))))))))))))))))) ((1000000,(Ent.box ((SV.con (⟨37,(Ty.int Go.IntKind.i64).pair ((Ty.int Go.IntKind.i64).pair ((Ty.int Go.IntKind.i64).pair ((Ty.int Go.IntKind.i64).pair ((Ty.int Go.IntKind.i64).pair ((Ty.int Go.IntKind.i64).pair (Ty.bool.pair (Ty.str.pair (Ty.row (nat_lit 100) (Ty.str.pair (Ty.int Go.IntKind.i64)))))))))),x6⟩:Rw)) :: []))) :: ((1000001,(Ent.box (SV.nil :: []))) :: ((1000002,(Ent.box ((SV.ref 1000004 0 [] Option.none) :: []))) :: ((1000003,(Ent.box ((SV.int (Go.IntKind.i64) x7) :: ((SV.int (Go.IntKind.i64) x8) :: ((SV.int (Go.IntKind.i64) x9) :: ((SV.int (Go.IntKind.i64) x10) :: ((SV.int (Go.IntKind.i64) x11) :: ((SV.int (Go.IntKind.i64) x12) :: ((SV.bool x13) :: ((SV.str x14) :: ((SV.con (⟨100,Ty.str.pair (Ty.int Go.IntKind.i64),x15⟩:Rw)) :: []))))))))))) :: ((1000004,(Ent.row (⟨37,(Ty.int Go.IntKind.i64).pair ((Ty.int Go.IntKind.i64).pair ((Ty.int Go.IntKind.i64).pair ((Ty.int Go.IntKind.i64).pair ((Ty.int Go.IntKind.i64).pair ((Ty.int Go.IntKind.i64).pair (Ty.bool.pair (Ty.str.pair (Ty.row (nat_lit 100) (Ty.str.pair (Ty.int Go.IntKind.i64)))))))))),x16⟩:Rw) 0 Option.none)) :: []))))))
noncomputable def st50_top (n:Nat) (lL19:Int→ByteArray→Int→ByteArray→Int→Int→(List NT)→Int→Int→Int→Int→Int→Int→Bool→ByteArray→(List (ByteArray × Int))→(List NT)→Option R50) (a:List NT) (b:Int × Int × List Int) (c:Int) (d:ByteArray) (e:Int) (f:ByteArray):Option R50 :=
 (q60 n (a,(b.1,b.2.1,b.2.2),[c,e],())).bind fun r0=>cond (!r0.1.1) (some (([],((1:Int),())),())) ((q70 n (d,())).bind fun r1=>cond (!r1.1.1) (some (([],((1:Int),())),())) ((q70 n (f,())).bind fun r2=>cond (!r2.1.1) (some (([],((1:Int),())),())) ((q62 n (a,())).bind fun r3=>cond (decide ((0:Int)≤c)) (cond (decide (c < (↑a.length:Int))) (cond (decide ((0:Int)≤e)) (cond (decide (e < (↑a.length:Int))) (cond (!decide ((a.getD c.toNat ZN).1=(2:Int))) (some ((r3.1.1,((4:Int),())),())) (cond (!decide ((a.getD e.toNat ZN).1=(2:Int))) (some ((r3.1.1,((4:Int),())),())) ((q72 n (((a.getD c.toNat ZN).1,(a.getD c.toNat ZN).2.1,(a.getD c.toNat ZN).2.2.1,(a.getD c.toNat ZN).2.2.2.1,(a.getD c.toNat ZN).2.2.2.2.1,(a.getD c.toNat ZN).2.2.2.2.2.1,(a.getD c.toNat ZN).2.2.2.2.2.2.1,(a.getD c.toNat ZN).2.2.2.2.2.2.2.1,(a.getD c.toNat ZN).2.2.2.2.2.2.2.2),(b.1,b.2.1,b.2.2),(3:Int),())).bind fun r4=>cond (!r4.1.1) (some ((r3.1.1,((5:Int),())),())) ((q72 n (((a.getD e.toNat ZN).1,(a.getD e.toNat ZN).2.1,(a.getD e.toNat ZN).2.2.1,(a.getD e.toNat ZN).2.2.2.1,(a.getD e.toNat ZN).2.2.2.2.1,(a.getD e.toNat ZN).2.2.2.2.2.1,(a.getD e.toNat ZN).2.2.2.2.2.2.1,(a.getD e.toNat ZN).2.2.2.2.2.2.2.1,(a.getD e.toNat ZN).2.2.2.2.2.2.2.2),(b.1,b.2.1,b.2.2),(3:Int),())).bind fun r5=>cond (!r5.1.1) (some ((r3.1.1,((5:Int),())),())) ((q73 n (((a.getD c.toNat ZN).1,(a.getD c.toNat ZN).2.1,(a.getD c.toNat ZN).2.2.1,(a.getD c.toNat ZN).2.2.2.1,(a.getD c.toNat ZN).2.2.2.2.1,(a.getD c.toNat ZN).2.2.2.2.2.1,(a.getD c.toNat ZN).2.2.2.2.2.2.1,(a.getD c.toNat ZN).2.2.2.2.2.2.2.1,(a.getD c.toNat ZN).2.2.2.2.2.2.2.2),d,())).bind fun r6=>cond (!r6.1.2.1) (some ((r3.1.1,((2:Int),())),())) ((q73 n (((a.getD e.toNat ZN).1,(a.getD e.toNat ZN).2.1,(a.getD e.toNat ZN).2.2.1,(a.getD e.toNat ZN).2.2.2.1,(a.getD e.toNat ZN).2.2.2.2.1,(a.getD e.toNat ZN).2.2.2.2.2.1,(a.getD e.toNat ZN).2.2.2.2.2.2.1,(a.getD e.toNat ZN).2.2.2.2.2.2.2.1,(a.getD e.toNat ZN).2.2.2.2.2.2.2.2),f,())).bind fun r7=>cond (r7.1.2.1) (some ((r3.1.1,((3:Int),())),())) (cond (decide ((0:Int)≤r6.1.1)) (cond (decide (r6.1.1 < (↑(List.length (a.getD c.toNat ZN).2.2.2.2.2.2.2.2):Int))) (cond (decide ((0:Int)≤(List.getD (a.getD c.toNat ZN).2.2.2.2.2.2.2.2 (Int.toNat r6.1.1) (ByteArray.empty,(0:Int))).2)) (cond (decide ((List.getD (a.getD c.toNat ZN).2.2.2.2.2.2.2.2 (Int.toNat r6.1.1) (ByteArray.empty,(0:Int))).2 < (↑a.length:Int))) (cond (decide ((a.getD (Int.toNat (List.getD (a.getD c.toNat ZN).2.2.2.2.2.2.2.2 (Int.toNat r6.1.1) (ByteArray.empty,(0:Int))).2) ZN).1=(2:Int))) (lL19 (c) (d) (e) (f) ((List.getD (a.getD c.toNat ZN).2.2.2.2.2.2.2.2 (Int.toNat r6.1.1) (ByteArray.empty,(0:Int))).2) (e) (a) ((a.getD e.toNat ZN).1) ((a.getD e.toNat ZN).2.1) ((a.getD e.toNat ZN).2.2.1) ((a.getD e.toNat ZN).2.2.2.1) ((a.getD e.toNat ZN).2.2.2.2.1) ((a.getD e.toNat ZN).2.2.2.2.2.1) ((a.getD e.toNat ZN).2.2.2.2.2.2.1) ((a.getD e.toNat ZN).2.2.2.2.2.2.2.1) ((a.getD e.toNat ZN).2.2.2.2.2.2.2.2) (r3.1.1)) (cond (!decide (c=e)) (cond (decide ((↑(List.length (a.getD e.toNat ZN).2.2.2.2.2.2.2.2):Int)=(6:Int))) (some ((r3.1.1,((7:Int),())),())) ((q75 n (r3.1.1,c,d,())).bind fun r14=>(q105 n (r14.2.1,e,f,(List.getD (a.getD c.toNat ZN).2.2.2.2.2.2.2.2 (Int.toNat r6.1.1) (ByteArray.empty,(0:Int))).2,())).bind fun r15=>some ((r15.2.1,((0:Int),())),()))) ((q75 n (r3.1.1,c,d,())).bind fun r16=>(q105 n (r16.2.1,e,f,(List.getD (a.getD c.toNat ZN).2.2.2.2.2.2.2.2 (Int.toNat r6.1.1) (ByteArray.empty,(0:Int))).2,())).bind fun r17=>some ((r17.2.1,((0:Int),())),())))) (none)) (none)) (none)) (none)))))))) (none)) (none)) (none)) (none))))
noncomputable def st50_L19 (n:Nat) (lL19:Int→ByteArray→Int→ByteArray→Int→Int→(List NT)→Int→Int→Int→Int→Int→Int→Bool→ByteArray→(List (ByteArray × Int))→(List NT)→Option R50) (x0:Int) (x1:ByteArray) (x2:Int) (x3:ByteArray) (x4:Int) (x5:Int) (x6:List NT) (x7:Int) (x8:Int) (x9:Int) (x10:Int) (x11:Int) (x12:Int) (x13:Bool) (x14:ByteArray) (x15:List (ByteArray × Int)) (x16:List NT):Option R50 :=
 cond (decide (x5=x4)) (some ((x16,((6:Int),())),())) (cond (decide (x5=(0:Int))) (cond (!decide (x0=x2)) (cond (decide ((↑x15.length:Int)=(6:Int))) (some ((x16,((7:Int),())),())) ((q75 n (x16,x0,x1,())).bind fun r9=>(q105 n (r9.2.1,x2,x3,x4,())).bind fun r10=>some ((r10.2.1,((0:Int),())),()))) ((q75 n (x16,x0,x1,())).bind fun r11=>(q105 n (r11.2.1,x2,x3,x4,())).bind fun r12=>some ((r12.2.1,((0:Int),())),()))) ((q109 n (x6,x5,())).bind fun r13=>lL19 (x0) (x1) (x2) (x3) (x4) (r13.1.1) (x6) (x7) (x8) (x9) (x10) (x11) (x12) (x13) (x14) (x15) (x16)))
theorem e50_top (n:Nat) (a:List NT) (b:Int × Int × List Int) (c:Int) (d:ByteArray) (e:Int) (f:ByteArray):runF TT G50 an50 Try.f50 c50 ps50 rs50 n (a,b,c,d,e,f,())=st50_top n (fun x0 x1 x2 x3 x4 x5 x6 x7 x8 x9 x10 x11 x12 x13 x14 x15 x16=>at50 n (.head 19) [n] (sh50_L19 x0 x1 x2 x3 x4 x5 x6 x7 x8 x9 x10 x11 x12 x13 x14 x15 x16)) a b c d e f:=by kernel_rfl
theorem e50_L19_0 (n:Nat) (x0:Int) (x1:ByteArray) (x2:Int) (x3:ByteArray) (x4:Int) (x5:Int) (x6:List NT) (x7:Int) (x8:Int) (x9:Int) (x10:Int) (x11:Int) (x12:Int) (x13:Bool) (x14:ByteArray) (x15:List (ByteArray × Int)) (x16:List NT):at50 n (.head 19) [0] (sh50_L19 x0 x1 x2 x3 x4 x5 x6 x7 x8 x9 x10 x11 x12 x13 x14 x15 x16)=none:=by kernel_rfl
theorem e50_L19 (n:Nat) (m19:Nat) (x0:Int) (x1:ByteArray) (x2:Int) (x3:ByteArray) (x4:Int) (x5:Int) (x6:List NT) (x7:Int) (x8:Int) (x9:Int) (x10:Int) (x11:Int) (x12:Int) (x13:Bool) (x14:ByteArray) (x15:List (ByteArray × Int)) (x16:List NT):at50 n (.head 19) [m19 + 1] (sh50_L19 x0 x1 x2 x3 x4 x5 x6 x7 x8 x9 x10 x11 x12 x13 x14 x15 x16)=st50_L19 n (fun x0 x1 x2 x3 x4 x5 x6 x7 x8 x9 x10 x11 x12 x13 x14 x15 x16=>at50 n (.head 19) [m19] (sh50_L19 x0 x1 x2 x3 x4 x5 x6 x7 x8 x9 x10 x11 x12 x13 x14 x15 x16)) x0 x1 x2 x3 x4 x5 x6 x7 x8 x9 x10 x11 x12 x13 x14 x15 x16:=by kernel_rfl
noncomputable def p50_L19 (n:Nat):Nat→Int→ByteArray→Int→ByteArray→Int→Int→(List NT)→Int→Int→Int→Int→Int→Int→Bool→ByteArray→(List (ByteArray × Int))→(List NT)→Option R50
 | 0,_,_,_,_,_,_,_,_,_,_,_,_,_,_,_,_,_=>none
 | m + 1,x0,x1,x2,x3,x4,x5,x6,x7,x8,x9,x10,x11,x12,x13,x14,x15,x16=>st50_L19 n (p50_L19 n m) x0 x1 x2 x3 x4 x5 x6 x7 x8 x9 x10 x11 x12 x13 x14 x15 x16
noncomputable def p50 (n:Nat) (a:List NT) (b:Int × Int × List Int) (c:Int) (d:ByteArray) (e:Int) (f:ByteArray):Option R50:=st50_top n (p50_L19 n n) a b c d e f
theorem t50_L19 (n:Nat):∀ (m19:Nat) (x0:Int) (x1:ByteArray) (x2:Int) (x3:ByteArray) (x4:Int) (x5:Int) (x6:List NT) (x7:Int) (x8:Int) (x9:Int) (x10:Int) (x11:Int) (x12:Int) (x13:Bool) (x14:ByteArray) (x15:List (ByteArray × Int)) (x16:List NT),at50 n (.head 19) [m19] (sh50_L19 x0 x1 x2 x3 x4 x5 x6 x7 x8 x9 x10 x11 x12 x13 x14 x15 x16)=p50_L19 n m19 x0 x1 x2 x3 x4 x5 x6 x7 x8 x9 x10 x11 x12 x13 x14 x15 x16:=by
 intro m
 induction m with
 | zero=>intros; rw [e50_L19_0]; rfl
 | succ m ih =>
  intros
  rw [e50_L19]
  try simp only [ih]
  rfl
theorem F50_eq (n:Nat) (a:List NT) (b:Int × Int × List Int) (c:Int) (d:ByteArray) (e:Int) (f:ByteArray):runF TT G50 an50 Try.f50 c50 ps50 rs50 n (a,b,c,d,e,f,())=p50 n a b c d e f:=by
 rw [e50_top]
 simp only [t50_L19]
 try rfl
noncomputable def q50 (n:Nat) (x:argsD ps50):Option R50:=p50 n x.1 x.2.1 x.2.2.1 x.2.2.2.1 x.2.2.2.2.1 x.2.2.2.2.2.1
noncomputable def Sm50:Sm:=⟨ps50,rs50,false,q50⟩
theorem holds50 (hg:GamOK Try.prog G50):Holds Try.prog 50 Sm50:=by
 have:=h0_50 hg
 have e:(runF TT G50 an50 Try.f50 c50 ps50 rs50)=q50:=by
  funext n x
  exact F50_eq n x.1 x.2.1 x.2.2.1 x.2.2.2.1 x.2.2.2.2.1 x.2.2.2.2.2.1
 rw [e] at this
 exact this
theorem gam50:GamOK Try.prog G50:=by
 intro f s h
 unfold G50 at h
 split at h
 ·injection h with h; subst h; exact ⟨⟨Try.f60,c60,Try.func60,by kernel_rfl,by decide +kernel⟩,hh60⟩
 ·injection h with h; subst h; exact ⟨⟨Try.f62,c62,Try.func62,by kernel_rfl,by decide +kernel⟩,hh62⟩
 ·injection h with h; subst h; exact ⟨⟨Try.f70,c70,Try.func70,by kernel_rfl,by decide +kernel⟩,hh70⟩
 ·injection h with h; subst h; exact ⟨⟨Try.f72,c72,Try.func72,by kernel_rfl,by decide +kernel⟩,hh72⟩
 ·injection h with h; subst h; exact ⟨⟨Try.f73,c73,Try.func73,by kernel_rfl,by decide +kernel⟩,hh73⟩
 ·injection h with h; subst h; exact ⟨⟨Try.f75,c75,Try.func75,by kernel_rfl,by decide +kernel⟩,hh75⟩
 ·injection h with h; subst h; exact ⟨⟨Try.f105,c105,Try.func105,by kernel_rfl,by decide +kernel⟩,hh105⟩
 ·injection h with h; subst h; exact ⟨⟨Try.f109,c109,Try.func109,by kernel_rfl,by decide +kernel⟩,hh109⟩
 ·cases h
theorem hh50:Holds Try.prog 50 Sm50:=holds50 gam50
end Go.Proofs.Ytbjgiioppmkpiaa.Rx.S

namespace Go.Proofs.Ytbjgiioppmkpiaa.Rx.S
open Go Go.RowKit Go.Proofs
set_option maxRecDepth 100000
noncomputable def c51:Code:=(Try.f51.body.getD .skip)
def an51:An:=⟨fun _=>⟨[],[]⟩,fun _ _=>none⟩
abbrev ps51:List PK:=[.val tFs true,.val tCr true,.val i64 false,.val .str false,.val i64 false,.val .str false]
abbrev rs51:List RK:=[.own tFs true,.val i64 false]
abbrev R51:=retsD rs51 × outsD ps51
noncomputable def G51:Gam:=fun f=>match f with | 63=>some Sm63 | 64=>some Sm64 | 65=>some Sm65 | 67=>some Sm67 | 76=>some Sm76 | 110=>some Sm110 | _=>none
theorem h0_51 (hg:GamOK Try.prog G51):Holds Try.prog 51 ⟨ps51,rs51,false,runF TT G51 an51 Try.f51 c51 ps51 rs51⟩:=holds_of tt_ok hg mixed Try.func51 (by kernel_rfl) (by rfl) (by decide +kernel)
noncomputable def st51_top (n:Nat) (a:List NT) (b:Int × Int × List Int) (c:Int) (d:ByteArray) (e:Int) (f:ByteArray):Option R51 :=
 (q63 n (a,())).bind fun r0=>cond (!r0.1.1) (some (([],((1:Int),())),())) ((q64 n ((b.1,b.2.1,b.2.2),())).bind fun r1=>cond (!r1.1.1) (some (([],((1:Int),())),())) ((q65 n (a,c,())).bind fun r2=>cond (!r2.1.1) (some (([],((1:Int),())),())) ((q65 n (a,e,())).bind fun r3=>cond (!r3.1.1) (some (([],((1:Int),())),())) ((q76 n (d,())).bind fun r4=>cond (!r4.1.1) (some (([],((1:Int),())),())) ((q76 n (f,())).bind fun r5=>cond (!r5.1.1) (some (([],((1:Int),())),())) ((q67 n (a,())).bind fun r6=>(q110 n (r6.1.1,(b.1,b.2.1,b.2.2),c,d,e,f,())).bind fun r7=>some ((r7.1.1,(r7.1.2.1,())),())))))))
theorem e51_top (n:Nat) (a:List NT) (b:Int × Int × List Int) (c:Int) (d:ByteArray) (e:Int) (f:ByteArray):runF TT G51 an51 Try.f51 c51 ps51 rs51 n (a,b,c,d,e,f,())=st51_top n a b c d e f:=by kernel_rfl
noncomputable def p51 (n:Nat) (a:List NT) (b:Int × Int × List Int) (c:Int) (d:ByteArray) (e:Int) (f:ByteArray):Option R51:=st51_top n a b c d e f
theorem F51_eq (n:Nat) (a:List NT) (b:Int × Int × List Int) (c:Int) (d:ByteArray) (e:Int) (f:ByteArray):runF TT G51 an51 Try.f51 c51 ps51 rs51 n (a,b,c,d,e,f,())=p51 n a b c d e f:=by
 rw [e51_top]
 skip
 try rfl
noncomputable def q51 (n:Nat) (x:argsD ps51):Option R51:=p51 n x.1 x.2.1 x.2.2.1 x.2.2.2.1 x.2.2.2.2.1 x.2.2.2.2.2.1
noncomputable def Sm51:Sm:=⟨ps51,rs51,false,q51⟩
theorem holds51 (hg:GamOK Try.prog G51):Holds Try.prog 51 Sm51:=by
 have:=h0_51 hg
 have e:(runF TT G51 an51 Try.f51 c51 ps51 rs51)=q51:=by
  funext n x
  exact F51_eq n x.1 x.2.1 x.2.2.1 x.2.2.2.1 x.2.2.2.2.1 x.2.2.2.2.2.1
 rw [e] at this
 exact this
theorem gam51:GamOK Try.prog G51:=by
 intro f s h
 unfold G51 at h
 split at h
 ·injection h with h; subst h; exact ⟨⟨Try.f63,c63,Try.func63,by kernel_rfl,by decide +kernel⟩,hh63⟩
 ·injection h with h; subst h; exact ⟨⟨Try.f64,c64,Try.func64,by kernel_rfl,by decide +kernel⟩,hh64⟩
 ·injection h with h; subst h; exact ⟨⟨Try.f65,c65,Try.func65,by kernel_rfl,by decide +kernel⟩,hh65⟩
 ·injection h with h; subst h; exact ⟨⟨Try.f67,c67,Try.func67,by kernel_rfl,by decide +kernel⟩,hh67⟩
 ·injection h with h; subst h; exact ⟨⟨Try.f76,c76,Try.func76,by kernel_rfl,by decide +kernel⟩,hh76⟩
 ·injection h with h; subst h; exact ⟨⟨Try.f110,c110,Try.func110,by kernel_rfl,by decide +kernel⟩,hh110⟩
 ·cases h
theorem hh51:Holds Try.prog 51 Sm51:=holds51 gam51
end Go.Proofs.Ytbjgiioppmkpiaa.Rx.S

namespace Go.Proofs.Ytbjgiioppmkpiaa.Rx.S
open Go Go.RowKit Go.Proofs
set_option maxRecDepth 100000
noncomputable def c49:Code:=(Try.f49.body.getD .skip)
def an49:An:=⟨fun _=>⟨[],[]⟩,fun _ _=>none⟩
abbrev ps49:List PK:=[.val (.row 5 (.int .u8)) false]
abbrev rs49:List RK:=[.ro 37 (tIn 100) true,.own tCr true,.val i64 false,.val .str false,.val i64 false,.val .str false]
abbrev R49:=retsD rs49 × outsD ps49
noncomputable def G49:Gam:=fun f=>match f with | 55=>some Sm55 | 56=>some Sm56 | 57=>some Sm57 | 58=>some Sm58 | 71=>some Sm71 | _=>none
theorem h0_49 (hg:GamOK Try.prog G49):Holds Try.prog 49 ⟨ps49,rs49,true,runF TT G49 an49 Try.f49 c49 ps49 rs49⟩:=holds_of tt_ok hg mixed Try.func49 (by kernel_rfl) (by rfl) (by decide +kernel)
noncomputable def st49_top (n:Nat) (a:List Int):Option R49 :=
 (q55 n (a,())).bind fun r0=>(q56 n ((r0.1.1.1,r0.1.1.2),())).bind fun r1=>(q57 n ((r1.2.1.1,r1.2.1.2),())).bind fun r2=>(q58 n ((r2.2.1.1,r2.2.1.2),())).bind fun r3=>(q71 n ((r3.2.1.1,r3.2.1.2),())).bind fun r4=>(q58 n ((r4.2.1.1,r4.2.1.2),())).bind fun r5=>(q71 n ((r5.2.1.1,r5.2.1.2),())).bind fun r6=>some ((r1.1.1,((r2.1.1.1,(r2.1.1.2.1,r2.1.1.2.2)),(r3.1.1,(r4.1.1,(r5.1.1,(r6.1.1,())))))),())
theorem e49_top (n:Nat) (a:List Int):runF TT G49 an49 Try.f49 c49 ps49 rs49 n (a,())=st49_top n a:=by kernel_rfl
noncomputable def p49 (n:Nat) (a:List Int):Option R49:=st49_top n a
theorem F49_eq (n:Nat) (a:List Int):runF TT G49 an49 Try.f49 c49 ps49 rs49 n (a,())=p49 n a:=by
 rw [e49_top]
 skip
 try rfl
noncomputable def q49 (n:Nat) (x:argsD ps49):Option R49:=p49 n x.1
noncomputable def Sm49:Sm:=⟨ps49,rs49,true,q49⟩
theorem holds49 (hg:GamOK Try.prog G49):Holds Try.prog 49 Sm49:=by
 have:=h0_49 hg
 have e:(runF TT G49 an49 Try.f49 c49 ps49 rs49)=q49:=by
  funext n x
  exact F49_eq n x.1
 rw [e] at this
 exact this
theorem gam49:GamOK Try.prog G49:=by
 intro f s h
 unfold G49 at h
 split at h
 ·injection h with h; subst h; exact ⟨⟨Try.f55,c55,Try.func55,by kernel_rfl,by decide +kernel⟩,hh55⟩
 ·injection h with h; subst h; exact ⟨⟨Try.f56,c56,Try.func56,by kernel_rfl,by decide +kernel⟩,hh56⟩
 ·injection h with h; subst h; exact ⟨⟨Try.f57,c57,Try.func57,by kernel_rfl,by decide +kernel⟩,hh57⟩
 ·injection h with h; subst h; exact ⟨⟨Try.f58,c58,Try.func58,by kernel_rfl,by decide +kernel⟩,hh58⟩
 ·injection h with h; subst h; exact ⟨⟨Try.f71,c71,Try.func71,by kernel_rfl,by decide +kernel⟩,hh71⟩
 ·cases h
theorem hh49:Holds Try.prog 49 Sm49:=holds49 gam49
end Go.Proofs.Ytbjgiioppmkpiaa.Rx.S

namespace Go.Proofs.Ytbjgiioppmkpiaa.Rx.S
open Go Go.RowKit Go.Proofs
set_option maxRecDepth 100000
noncomputable def c11:Code:=(Try.f11.body.getD .skip)
def an11:An:=⟨fun r=>match r with | 15=>⟨[3,9,14,16,17,19,20],[]⟩ | _=>⟨[],[]⟩,fun _ _=>none⟩
abbrev ps11:List PK:=[.val (.row 5 (.int .u8)) false]
abbrev rs11:List RK:=[.val .bool false]
abbrev R11:=retsD rs11 × outsD ps11
noncomputable def G11:Gam:=fun f=>match f with | 18=>some Sm18 | 19=>some Sm19 | 23=>some Sm23 | 49=>some Sm49 | 50=>some Sm50 | 51=>some Sm51 | _=>none
theorem h0_11 (hg:GamOK Try.prog G11):Holds Try.prog 11 ⟨ps11,rs11,false,runF TT G11 an11 Try.f11 c11 ps11 rs11⟩:=holds_of tt_ok hg mixed Try.func11 (by kernel_rfl) (by rfl) (by decide +kernel)
noncomputable def at11:Nat→Pt→List Nat→St→Option R11:=atF TT G11 an11 Try.f11 c11 _ _
def sh11_L15 (x0:Int) (x1:Int) (x2:Int) (x3:Int) (x4:Int) (x5:List NT) (x6:List NT):St:=(St.mk (AV.undef :: (AV.undef :: (AV.undef :: ((AV.one (SV.bptr 1000000 0)) :: (AV.undef :: (AV.undef :: (AV.undef :: (AV.undef :: (AV.undef :: ((AV.one (SV.bptr 1000001 0)) :: (AV.undef :: (AV.undef :: (AV.undef :: (AV.undef :: ((AV.one (SV.int (Go.IntKind.i64) x0)) :: (AV.undef :: ((AV.one (SV.int (Go.IntKind.i64) x1)) :: ((AV.one (SV.int (Go.IntKind.i64) x2)) :: (AV.undef :: ((AV.one (SV.int (Go.IntKind.i64) x3)) :: ((AV.one (SV.int (Go.IntKind.i64) x4)) :: (AV.undef :: (AV.undef :: (AV.undef :: (AV.undef :: (AV.undef :: (AV.undef :: (AV.undef :: (AV.undef :: (AV.undef :: (AV.undef :: (AV.undef :: (AV.undef :: (AV.undef :: (AV.undef :: (AV.undef :: (AV.undef :: (AV.undef :: (AV.undef :: (AV.undef :: (AV.undef :: (AV.undef :: (AV.undef :: (AV.undef :: (AV.undef :: (AV.undef :: (AV.undef :: (AV.undef :: (AV.undef :: (AV.undef :: (AV.undef :: (AV.undef :: (AV.undef :: (AV.undef :: (AV.undef :: (AV.undef :: (AV.undef :: (AV.undef :: (AV.undef :: (AV.undef :: (AV.undef :: (AV.undef :: (AV.undef :: (AV.undef :: (AV.undef :: (AV.undef :: (AV.undef :: (AV.undef :: (AV.undef :: (AV.undef :: (AV.undef :: (AV.undef :: (AV.undef :: (AV.undef :: (AV.undef :: (AV.undef :: (AV.undef :: (AV.undef :: (AV.undef :: (AV.undef :: (AV.undef :: (AV.undef :: (AV.undef :: (AV.undef :: (AV.undef :: (AV.undef :: (AV.undef :: (AV.undef :: (AV.undef :: (AV.undef :: (AV.undef :: (AV.undef :: (AV.undef :: (AV.undef :: (AV.undef :: (AV.undef :: (AV.undef :: (AV.undef :: (AV.undef :: (AV.undef :: (AV.undef :: (AV.undef :: (AV.undef :: (AV.undef :: (AV.undef :: (AV.undef :: (AV.undef :: (AV.undef :: (AV.undef :: (AV.undef :: (AV.undef :: (AV.undef :: (AV.undef :: (AV.undef :: (AV.undef :: (AV.undef :: (AV.undef :: (AV.undef :: (AV.undef :: (AV.undef :: (AV.undef :: (AV.undef :: (AV.undef :: (AV.undef :: (AV.undef :: (AV.undef :: (AV.undef :: (AV.undef :: (AV.undef :: (AV.undef :: (AV.undef :: (AV.undef :: (AV.undef :: (AV.undef :: (AV.undef :: (AV.undef :: (AV.undef :: (AV.undef :: (AV.undef :: (AV.undef :: (AV.undef :: (AV.undef :: (AV.undef :: (AV.undef :: (AV.undef :: (AV.undef :: (AV.undef :: (AV.undef :: [])))))))))))))))))))))))))))))))))))))))))))))))))))))))))))))))))))))))))))))))))))))))))))))))))))))))))))))))))))))))))))))))))))))))))))))))))))) ((1000000,(Ent.box ((SV.ref 1000002 0 [] Option.none) :: []))) :: ((1000001,(Ent.box ((SV.ref 1000003 0 [] Option.none) :: []))) :: ((1000002,(Ent.ro (⟨37,(Ty.int Go.IntKind.i64).pair ((Ty.int Go.IntKind.i64).pair ((Ty.int Go.IntKind.i64).pair ((Ty.int Go.IntKind.i64).pair ((Ty.int Go.IntKind.i64).pair ((Ty.int Go.IntKind.i64).pair (Ty.bool.pair (Ty.str.pair (Ty.row (nat_lit 100) (Ty.str.pair (Ty.int Go.IntKind.i64)))))))))),x5⟩:Rw))) :: ((1000003,(Ent.row (⟨37,(Ty.int Go.IntKind.i64).pair ((Ty.int Go.IntKind.i64).pair ((Ty.int Go.IntKind.i64).pair ((Ty.int Go.IntKind.i64).pair ((Ty.int Go.IntKind.i64).pair ((Ty.int Go.IntKind.i64).pair (Ty.bool.pair (Ty.str.pair (Ty.row (nat_lit 100) (Ty.str.pair (Ty.int Go.IntKind.i64)))))))))),x6⟩:Rw) 0 Option.none)) :: [])))))
noncomputable def st11_top (n:Nat) (lL15:Int→Int→Int→Int→Int→(List NT)→(List NT)→Option R11) (a:List Int):Option R11 :=
 cond (decide ((1048576:Int) < (↑a.length:Int))) (some ((true,()),())) ((q49 n (a,())).bind fun r0=>(q50 n (r0.1.1,(r0.1.2.1.1,r0.1.2.1.2.1,r0.1.2.1.2.2),r0.1.2.2.1,r0.1.2.2.2.1,r0.1.2.2.2.2.1,r0.1.2.2.2.2.2.1,())).bind fun r1=>(q51 n (r0.1.1,(r0.1.2.1.1,r0.1.2.1.2.1,r0.1.2.1.2.2),r0.1.2.2.1,r0.1.2.2.2.1,r0.1.2.2.2.2.1,r0.1.2.2.2.2.2.1,())).bind fun r2=>(q18 n (r1.1.1,r2.1.1,())).bind fun r3=>cond (r3.1.1) (cond (!decide (r1.1.2.1=r2.1.2.1)) (some ((decide (r1.1.2.1=r2.1.2.1),()),())) (cond (!!decide (r1.1.2.1=(1:Int))) (some ((decide (r1.1.2.1=r2.1.2.1),()),())) (cond (!decide (r1.1.2.1=(0:Int))) ((q18 n (r0.1.1,r1.1.1,())).bind fun r4=>some ((r4.1.1,()),())) ((q23 n (r0.1.1,(r0.1.2.1.1,r0.1.2.1.2.1,r0.1.2.1.2.2),r0.1.2.2.1,r0.1.2.2.2.1,())).bind fun r5=>(q23 n (r1.1.1,(r0.1.2.1.1,r0.1.2.1.2.1,r0.1.2.1.2.2),r0.1.2.2.2.2.1,r0.1.2.2.2.2.2.1,())).bind fun r6=>(q23 n (r1.1.1,(r0.1.2.1.1,r0.1.2.1.2.1,r0.1.2.1.2.2),r0.1.2.2.1,r0.1.2.2.2.1,())).bind fun r7=>lL15 (r5.1.1) (r6.1.1) (r6.1.2.1) (r7.1.2.1) ((0:Int)) (r0.1.1) (r1.1.1))))) (some ((false,()),())))
noncomputable def st11_L15 (n:Nat) (lL15:Int→Int→Int→Int→Int→(List NT)→(List NT)→Option R11) (x0:Int) (x1:Int) (x2:Int) (x3:Int) (x4:Int) (x5:List NT) (x6:List NT):Option R11 :=
 cond (decide (x4 < (↑x5.length:Int))) (cond (decide ((0:Int)≤x4)) (cond (decide (x4 < (↑x5.length:Int))) (cond (decide ((0:Int)≤x4)) (cond (decide (x4 < (↑x6.length:Int))) (cond (!ByteArray.toList (x5.getD x4.toNat ZN).2.2.2.2.2.2.2.1 == ByteArray.toList (x6.getD x4.toNat ZN).2.2.2.2.2.2.2.1) (some ((false,()),())) (cond (decide ((0:Int)≤x4)) (cond (decide (x4 < (↑x5.length:Int))) (cond (decide ((0:Int)≤x4)) (cond (decide (x4 < (↑x6.length:Int))) (cond (!decide ((x5.getD x4.toNat ZN).2.2.2.2.1=(x6.getD x4.toNat ZN).2.2.2.2.1)) (some ((false,()),())) (lL15 (x0) (x1) (x2) (x3) (Go.IntKind.i64.wrap (x4 + (1:Int))) (x5) (x6))) (none)) (none)) (none)) (none))) (none)) (none)) (none)) (none)) ((q19 n (x6,())).bind fun r9=>cond (r9.1.1) (cond (decide (x2=(0:Int))) (cond (decide (x1=x0)) (some ((decide (x3=(2:Int)),()),())) (some ((false,()),()))) (some ((false,()),()))) (some ((false,()),())))
theorem e11_top (n:Nat) (a:List Int):runF TT G11 an11 Try.f11 c11 ps11 rs11 n (a,())=st11_top n (fun x0 x1 x2 x3 x4 x5 x6=>at11 n (.head 15) [n] (sh11_L15 x0 x1 x2 x3 x4 x5 x6)) a:=by kernel_rfl
theorem e11_L15_0 (n:Nat) (x0:Int) (x1:Int) (x2:Int) (x3:Int) (x4:Int) (x5:List NT) (x6:List NT):at11 n (.head 15) [0] (sh11_L15 x0 x1 x2 x3 x4 x5 x6)=none:=by kernel_rfl
theorem e11_L15 (n:Nat) (m15:Nat) (x0:Int) (x1:Int) (x2:Int) (x3:Int) (x4:Int) (x5:List NT) (x6:List NT):at11 n (.head 15) [m15 + 1] (sh11_L15 x0 x1 x2 x3 x4 x5 x6)=st11_L15 n (fun x0 x1 x2 x3 x4 x5 x6=>at11 n (.head 15) [m15] (sh11_L15 x0 x1 x2 x3 x4 x5 x6)) x0 x1 x2 x3 x4 x5 x6:=by kernel_rfl
noncomputable def p11_L15 (n:Nat):Nat→Int→Int→Int→Int→Int→(List NT)→(List NT)→Option R11
 | 0,_,_,_,_,_,_,_=>none
 | m + 1,x0,x1,x2,x3,x4,x5,x6=>st11_L15 n (p11_L15 n m) x0 x1 x2 x3 x4 x5 x6
noncomputable def p11 (n:Nat) (a:List Int):Option R11:=st11_top n (p11_L15 n n) a
theorem t11_L15 (n:Nat):∀ (m15:Nat) (x0:Int) (x1:Int) (x2:Int) (x3:Int) (x4:Int) (x5:List NT) (x6:List NT),at11 n (.head 15) [m15] (sh11_L15 x0 x1 x2 x3 x4 x5 x6)=p11_L15 n m15 x0 x1 x2 x3 x4 x5 x6:=by
 intro m
 induction m with
 | zero=>intros; rw [e11_L15_0]; rfl
 | succ m ih =>
  intros
  rw [e11_L15]
  try simp only [ih]
  rfl
theorem F11_eq (n:Nat) (a:List Int):runF TT G11 an11 Try.f11 c11 ps11 rs11 n (a,())=p11 n a:=by
 rw [e11_top]
 simp only [t11_L15]
 try rfl
noncomputable def q11 (n:Nat) (x:argsD ps11):Option R11:=p11 n x.1
noncomputable def Sm11:Sm:=⟨ps11,rs11,false,q11⟩
theorem holds11 (hg:GamOK Try.prog G11):Holds Try.prog 11 Sm11:=by
 have:=h0_11 hg
 have e:(runF TT G11 an11 Try.f11 c11 ps11 rs11)=q11:=by
  funext n x
  exact F11_eq n x.1
 rw [e] at this
 exact this
theorem gam11:GamOK Try.prog G11:=by
 intro f s h
 unfold G11 at h
 split at h
 ·injection h with h; subst h; exact ⟨⟨Try.f18,c18,Try.func18,by kernel_rfl,by decide +kernel⟩,hh18⟩
 ·injection h with h; subst h; exact ⟨⟨Try.f19,c19,Try.func19,by kernel_rfl,by decide +kernel⟩,hh19⟩
 ·injection h with h; subst h; exact ⟨⟨Try.f23,c23,Try.func23,by kernel_rfl,by decide +kernel⟩,hh23⟩
 ·injection h with h; subst h; exact ⟨⟨Try.f49,c49,Try.func49,by kernel_rfl,by decide +kernel⟩,hh49⟩
 ·injection h with h; subst h; exact ⟨⟨Try.f50,c50,Try.func50,by kernel_rfl,by decide +kernel⟩,hh50⟩
 ·injection h with h; subst h; exact ⟨⟨Try.f51,c51,Try.func51,by kernel_rfl,by decide +kernel⟩,hh51⟩
 ·cases h
theorem hh11:Holds Try.prog 11 Sm11:=holds11 gam11
end Go.Proofs.Ytbjgiioppmkpiaa.Rx.S

