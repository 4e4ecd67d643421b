/- What the functions of this seat compute, each as a plain function on lists and numbers, with the proof that a call answers so. No condition. -/
import Derived.Test.YtbjgiioppmkpiaaDF1
set_option linter.unusedVariables false
set_option linter.unusedSimpArgs false
namespace Go.Proofs.Ytbjgiioppmkpiaa.Rx.S
open Go Go.RowKit Go.Proofs
set_option maxRecDepth 100000
noncomputable def c20:Code:=(Try.f20.body.getD .skip)
def an20:An:=⟨fun _=>⟨[],[]⟩,fun _ _=>none⟩
abbrev ps20:List PK:=[.val (.row 5 (.int .u8)) false]
abbrev rs20:List RK:=[.ro 37 (tIn 100) true,.own tCr true,.val i64 false,.val .str false]
abbrev R20:=retsD rs20 × outsD ps20
noncomputable def G20:Gam:=fun f=>match f with | 55=>some Sm55 | 56=>some Sm56 | 57=>some Sm57 | 58=>some Sm58 | 71=>some Sm71 | _=>none
theorem h0_20 (hg:GamOK Try.prog G20):Holds Try.prog 20 ⟨ps20,rs20,true,runF TT G20 an20 Try.f20 c20 ps20 rs20⟩:=holds_of tt_ok hg mixed Try.func20 (by kernel_rfl) (by rfl) (by decide +kernel)
noncomputable def st20_top (n:Nat) (a:List Int):Option R20 :=
 (q55 n (a,())).bind fun r0=>(q56 n ((r0.1.1.1,r0.1.1.2),())).bind fun r1=>(q57 n ((r1.2.1.1,r1.2.1.2),())).bind fun r2=>(q58 n ((r2.2.1.1,r2.2.1.2),())).bind fun r3=>(q71 n ((r3.2.1.1,r3.2.1.2),())).bind fun r4=>some ((r1.1.1,((r2.1.1.1,(r2.1.1.2.1,r2.1.1.2.2)),(r3.1.1,(r4.1.1,())))),())
theorem e20_top (n:Nat) (a:List Int):runF TT G20 an20 Try.f20 c20 ps20 rs20 n (a,())=st20_top n a:=by kernel_rfl
noncomputable def p20 (n:Nat) (a:List Int):Option R20:=st20_top n a
theorem F20_eq (n:Nat) (a:List Int):runF TT G20 an20 Try.f20 c20 ps20 rs20 n (a,())=p20 n a:=by
 rw [e20_top]
 skip
 try rfl
noncomputable def q20 (n:Nat) (x:argsD ps20):Option R20:=p20 n x.1
noncomputable def Sm20:Sm:=⟨ps20,rs20,true,q20⟩
theorem holds20 (hg:GamOK Try.prog G20):Holds Try.prog 20 Sm20:=by
 have:=h0_20 hg
 have e:(runF TT G20 an20 Try.f20 c20 ps20 rs20)=q20:=by
  funext n x
  exact F20_eq n x.1
 rw [e] at this
 exact this
theorem gam20:GamOK Try.prog G20:=by
 intro f s h
 unfold G20 at h
 split at h
 ·injection h with h; subst h; exact ⟨⟨Try.f55,c55,Try.func55,by kernel_rfl,by decide +kernel⟩,hh55⟩
 ·injection h with h; subst h; exact ⟨⟨Try.f56,c56,Try.func56,by kernel_rfl,by decide +kernel⟩,hh56⟩
 ·injection h with h; subst h; exact ⟨⟨Try.f57,c57,Try.func57,by kernel_rfl,by decide +kernel⟩,hh57⟩
 ·injection h with h; subst h; exact ⟨⟨Try.f58,c58,Try.func58,by kernel_rfl,by decide +kernel⟩,hh58⟩
 ·injection h with h; subst h; exact ⟨⟨Try.f71,c71,Try.func71,by kernel_rfl,by decide +kernel⟩,hh71⟩
 ·cases h
theorem hh20:Holds Try.prog 20 Sm20:=holds20 gam20
end Go.Proofs.Ytbjgiioppmkpiaa.Rx.S

namespace Go.Proofs.Ytbjgiioppmkpiaa.Rx.S
open Go Go.RowKit Go.Proofs
set_option maxRecDepth 100000
noncomputable def c3:Code:=(Try.f3.body.getD .skip)
abbrev ps3:List PK:=[.val (.row 5 (.int .u8)) false]
abbrev rs3:List RK:=[.val .bool false]
abbrev R3:=retsD rs3 × outsD ps3
noncomputable def st3_top (n:Nat) (a:List Int):Option R3 :=
 cond (decide ((1048576:Int) < (↑a.length:Int))) (some ((true,()),())) ((q15 n (a,())).bind fun r0=>(q16 n (r0.1.1,(r0.1.2.1.1,r0.1.2.1.2.1,r0.1.2.1.2.2),r0.1.2.2.1,r0.1.2.2.2.1,())).bind fun r1=>(q17 n (r0.1.1,(r0.1.2.1.1,r0.1.2.1.2.1,r0.1.2.1.2.2),r0.1.2.2.1,r0.1.2.2.2.1,())).bind fun r2=>(q18 n (r1.1.1,r2.1.1,())).bind fun r3=>cond (r3.1.1) (cond (!decide (r1.1.2.1=r2.1.2.1)) (some ((decide (r1.1.2.1=r2.1.2.1),()),())) (cond (!!decide (r1.1.2.1=(1:Int))) (some ((decide (r1.1.2.1=r2.1.2.1),()),())) (cond (!decide (r1.1.2.1=(0:Int))) ((q18 n (r0.1.1,r1.1.1,())).bind fun r4=>some ((r4.1.1,()),())) ((q19 n (r1.1.1,())).bind fun r5=>cond (r5.1.1) (cond (decide ((0:Int)≤r0.1.2.2.1)) (cond (decide (r0.1.2.2.1 < (↑(List.length r1.1.1):Int))) (cond (decide ((List.getD r1.1.1 (Int.toNat r0.1.2.2.1) ZN).2.1=r0.1.2.2.2.1)) (cond (decide (r0.1.2.1.1=(0:Int))) (some ((true,()),())) (cond (decide ((0:Int)≤r0.1.2.2.1)) (cond (decide (r0.1.2.2.1 < (↑(List.length r0.1.1):Int))) (some ((decide (r0.1.2.1.1=(List.getD r0.1.1 (Int.toNat r0.1.2.2.1) ZN).2.2.1),()),())) (none)) (none))) (some ((false,()),()))) (none)) (none)) (some ((false,()),())))))) (some ((false,()),())))
noncomputable def p3 (n:Nat) (a:List Int):Option R3:=st3_top n a
end Go.Proofs.Ytbjgiioppmkpiaa.Rx.S

namespace Go.Proofs.Ytbjgiioppmkpiaa.Rx.S
open Go Go.RowKit Go.Proofs
set_option maxRecDepth 100000
noncomputable def c4:Code:=(Try.f4.body.getD .skip)
def an4:An:=⟨fun r=>match r with | 14=>⟨[3,7,12,15,16],[]⟩ | _=>⟨[],[]⟩,fun _ _=>none⟩
abbrev ps4:List PK:=[.val (.row 5 (.int .u8)) false]
abbrev rs4:List RK:=[.val .bool false]
abbrev R4:=retsD rs4 × outsD ps4
noncomputable def G4:Gam:=fun f=>match f with | 18=>some Sm18 | 19=>some Sm19 | 20=>some Sm20 | 21=>some Sm21 | 22=>some Sm22 | 23=>some Sm23 | _=>none
theorem h0_4 (hg:GamOK Try.prog G4):Holds Try.prog 4 ⟨ps4,rs4,false,runF TT G4 an4 Try.f4 c4 ps4 rs4⟩:=holds_of tt_ok hg mixed Try.func4 (by kernel_rfl) (by rfl) (by decide +kernel)
noncomputable def at4:Nat→Pt→List Nat→St→Option R4:=atF TT G4 an4 Try.f4 c4 _ _
def sh4_L14 (x0:Int) (x1:Int) (x2:Int) (x3:List NT) (x4:List NT):St:=(St.mk (AV.undef :: (AV.undef :: (AV.undef :: ((AV.one (SV.bptr 1000000 0)) :: (AV.undef :: (AV.undef :: (AV.undef :: ((AV.one (SV.bptr 1000001 0)) :: (AV.undef :: (AV.undef :: (AV.undef :: (AV.undef :: ((AV.one (SV.int (Go.IntKind.i64) x0)) :: (AV.undef :: (AV.undef :: ((AV.one (SV.int (Go.IntKind.i64) x1)) :: ((AV.one (SV.int (Go.IntKind.i64) x2)) :: (AV.undef :: (AV.undef :: (AV.undef :: (AV.undef :: (AV.undef :: (AV.undef :: (AV.undef :: (AV.undef :: (AV.undef :: (AV.undef :: (AV.undef :: (AV.undef :: (AV.undef :: (AV.undef :: (AV.undef :: (AV.undef :: (AV.undef :: (AV.undef :: (AV.undef :: (AV.undef :: (AV.undef :: (AV.undef :: (AV.undef :: (AV.undef :: (AV.undef :: (AV.undef :: (AV.undef :: (AV.undef :: (AV.undef :: (AV.undef :: (AV.undef :: (AV.undef :: (AV.undef :: (AV.undef :: (AV.undef :: (AV.undef :: (AV.undef :: (AV.undef :: (AV.undef :: (AV.undef :: (AV.undef :: (AV.undef :: (AV.undef :: (AV.undef :: (AV.undef :: (AV.undef :: (AV.undef :: (AV.undef :: (AV.undef :: (AV.undef :: (AV.undef :: (AV.undef :: (AV.undef :: (AV.undef :: (AV.undef :: (AV.undef :: (AV.undef :: (AV.undef :: (AV.undef :: (AV.undef :: (AV.undef :: (AV.undef :: (AV.undef :: (AV.undef :: (AV.undef :: (AV.undef :: (AV.undef :: (AV.undef :: (AV.undef :: (AV.undef :: (AV.undef :: (AV.undef :: (AV.undef :: (AV.undef :: (AV.undef :: (AV.undef :: (AV.undef :: (AV.undef :: (AV.undef :: (AV.undef :: (AV.undef :: (AV.undef :: (AV.undef :: (AV.undef :: (AV.undef :: (AV.undef :: (AV.undef :: (AV.undef :: (AV.undef :: (AV.undef :: (AV.undef :: (AV.undef :: (AV.undef :: (AV.undef :: (AV.undef :: (AV.undef :: (AV.undef :: (AV.undef :: (AV.undef :: (AV.undef :: (AV.undef :: (AV.undef :: (AV.undef :: (AV.undef :: (AV.undef :: (AV.undef :: (AV.undef :: (AV.undef :: (AV.undef :: (AV.undef :: (AV.undef :: (AV.undef :: (AV.undef :: (AV.undef :: (AV.undef :: (AV.undef :: (AV.undef :: (AV.undef :: (AV.undef :: (AV.undef :: (AV.undef :: (AV.undef :: []))))))))))))))))))))))))))))))))))))))))))))))))))))))))))))))))))))))))))))))))))))))))))))))))))))))))))))))))))))))))))))))))))))))))))) ((1000000,(Ent.box ((SV.ref 1000002 0 [] Option.none) :: []))) :: ((1000001,(Ent.box ((SV.ref 1000003 0 [] Option.none) :: []))) :: ((1000002,(Ent.ro (⟨37,(Ty.int Go.IntKind.i64).pair ((Ty.int Go.IntKind.i64).pair ((Ty.int Go.IntKind.i64).pair ((Ty.int Go.IntKind.i64).pair ((Ty.int Go.IntKind.i64).pair ((Ty.int Go.IntKind.i64).pair (Ty.bool.pair (Ty.str.pair (Ty.row (nat_lit 100) (Ty.str.pair (Ty.int Go.IntKind.i64)))))))))),x3⟩:Rw))) :: ((1000003,(Ent.row (⟨37,(Ty.int Go.IntKind.i64).pair ((Ty.int Go.IntKind.i64).pair ((Ty.int Go.IntKind.i64).pair ((Ty.int Go.IntKind.i64).pair ((Ty.int Go.IntKind.i64).pair ((Ty.int Go.IntKind.i64).pair (Ty.bool.pair (Ty.str.pair (Ty.row (nat_lit 100) (Ty.str.pair (Ty.int Go.IntKind.i64)))))))))),x4⟩:Rw) 0 Option.none)) :: [])))))
noncomputable def st4_top (n:Nat) (lL14:Int→Int→Int→(List NT)→(List NT)→Option R4) (a:List Int):Option R4 :=
 cond (decide ((1048576:Int) < (↑a.length:Int))) (some ((true,()),())) ((q20 n (a,())).bind fun r0=>(q21 n (r0.1.1,(r0.1.2.1.1,r0.1.2.1.2.1,r0.1.2.1.2.2),r0.1.2.2.1,r0.1.2.2.2.1,())).bind fun r1=>(q22 n (r0.1.1,(r0.1.2.1.1,r0.1.2.1.2.1,r0.1.2.1.2.2),r0.1.2.2.1,r0.1.2.2.2.1,())).bind fun r2=>(q18 n (r1.1.1,r2.1.1,())).bind fun r3=>cond (r3.1.1) (cond (!decide (r1.1.2.1=r2.1.2.1)) (some ((decide (r1.1.2.1=r2.1.2.1),()),())) (cond (!!decide (r1.1.2.1=(1:Int))) (some ((decide (r1.1.2.1=r2.1.2.1),()),())) (cond (!decide (r1.1.2.1=(0:Int))) ((q18 n (r0.1.1,r1.1.1,())).bind fun r4=>some ((r4.1.1,()),())) ((q23 n (r0.1.1,(r0.1.2.1.1,r0.1.2.1.2.1,r0.1.2.1.2.2),r0.1.2.2.1,r0.1.2.2.2.1,())).bind fun r5=>(q23 n (r1.1.1,(r0.1.2.1.1,r0.1.2.1.2.1,r0.1.2.1.2.2),r0.1.2.2.1,r0.1.2.2.2.1,())).bind fun r6=>lL14 (r5.1.1) (r6.1.2.1) ((0:Int)) (r0.1.1) (r1.1.1))))) (some ((false,()),())))
noncomputable def st4_L14 (n:Nat) (lL14:Int→Int→Int→(List NT)→(List NT)→Option R4) (x0:Int) (x1:Int) (x2:Int) (x3:List NT) (x4:List NT):Option R4 :=
 cond (decide (x2 < (↑x3.length:Int))) (cond (!decide (x2=x0)) (cond (decide ((0:Int)≤x2)) (cond (decide (x2 < (↑x3.length:Int))) (cond (decide ((0:Int)≤x2)) (cond (decide (x2 < (↑x4.length:Int))) (cond (!ByteArray.toList (x3.getD x2.toNat ZN).2.2.2.2.2.2.2.1 == ByteArray.toList (x4.getD x2.toNat ZN).2.2.2.2.2.2.2.1) (some ((false,()),())) (lL14 (x0) (x1) (Go.IntKind.i64.wrap (x2 + (1:Int))) (x3) (x4))) (none)) (none)) (none)) (none)) (lL14 (x0) (x1) (Go.IntKind.i64.wrap (x2 + (1:Int))) (x3) (x4))) (cond (decide ((0:Int)≤x0)) (cond (decide (x0 < (↑x3.length:Int))) (cond (decide ((x3.getD x0.toNat ZN).2.2.2.2.1=(1:Int))) (cond (decide ((0:Int)≤x0)) (cond (decide (x0 < (↑x3.length:Int))) ((q19 n (x4,())).bind fun r8=>cond (r8.1.1) (cond (decide (x1=(2:Int))) (cond (decide ((0:Int)≤x0)) (cond (decide (x0 < (↑x4.length:Int))) (some ((decide ((x4.getD x0.toNat ZN).1=(0:Int)) == decide ((x3.getD x0.toNat ZN).2.2.2.2.2.1=(0:Int)),()),())) (none)) (none)) (some ((false,()),()))) (some ((false,()),()))) (none)) (none)) ((q19 n (x4,())).bind fun r9=>cond (r9.1.1) (cond (decide (x1=(2:Int))) (cond (decide ((0:Int)≤x0)) (cond (decide (x0 < (↑x4.length:Int))) (some ((decide ((x4.getD x0.toNat ZN).1=(0:Int)) == false,()),())) (none)) (none)) (some ((false,()),()))) (some ((false,()),())))) (none)) (none))
theorem e4_top (n:Nat) (a:List Int):runF TT G4 an4 Try.f4 c4 ps4 rs4 n (a,())=st4_top n (fun x0 x1 x2 x3 x4=>at4 n (.head 14) [n] (sh4_L14 x0 x1 x2 x3 x4)) a:=by kernel_rfl
theorem e4_L14_0 (n:Nat) (x0:Int) (x1:Int) (x2:Int) (x3:List NT) (x4:List NT):at4 n (.head 14) [0] (sh4_L14 x0 x1 x2 x3 x4)=none:=by kernel_rfl
theorem e4_L14 (n:Nat) (m14:Nat) (x0:Int) (x1:Int) (x2:Int) (x3:List NT) (x4:List NT):at4 n (.head 14) [m14 + 1] (sh4_L14 x0 x1 x2 x3 x4)=st4_L14 n (fun x0 x1 x2 x3 x4=>at4 n (.head 14) [m14] (sh4_L14 x0 x1 x2 x3 x4)) x0 x1 x2 x3 x4:=by kernel_rfl
noncomputable def p4_L14 (n:Nat):Nat→Int→Int→Int→(List NT)→(List NT)→Option R4
 | 0,_,_,_,_,_=>none
 | m + 1,x0,x1,x2,x3,x4=>st4_L14 n (p4_L14 n m) x0 x1 x2 x3 x4
noncomputable def p4 (n:Nat) (a:List Int):Option R4:=st4_top n (p4_L14 n n) a
theorem t4_L14 (n:Nat):∀ (m14:Nat) (x0:Int) (x1:Int) (x2:Int) (x3:List NT) (x4:List NT),at4 n (.head 14) [m14] (sh4_L14 x0 x1 x2 x3 x4)=p4_L14 n m14 x0 x1 x2 x3 x4:=by
 intro m
 induction m with
 | zero=>intros; rw [e4_L14_0]; rfl
 | succ m ih =>
  intros
  rw [e4_L14]
  try simp only [ih]
  rfl
theorem F4_eq (n:Nat) (a:List Int):runF TT G4 an4 Try.f4 c4 ps4 rs4 n (a,())=p4 n a:=by
 rw [e4_top]
 simp only [t4_L14]
 try rfl
noncomputable def q4 (n:Nat) (x:argsD ps4):Option R4:=p4 n x.1
noncomputable def Sm4:Sm:=⟨ps4,rs4,false,q4⟩
theorem holds4 (hg:GamOK Try.prog G4):Holds Try.prog 4 Sm4:=by
 have:=h0_4 hg
 have e:(runF TT G4 an4 Try.f4 c4 ps4 rs4)=q4:=by
  funext n x
  exact F4_eq n x.1
 rw [e] at this
 exact this
theorem gam4:GamOK Try.prog G4:=by
 intro f s h
 unfold G4 at h
 split at h
 ·injection h with h; subst h; exact ⟨⟨Try.f18,c18,Try.func18,by kernel_rfl,by decide +kernel⟩,hh18⟩
 ·injection h with h; subst h; exact ⟨⟨Try.f19,c19,Try.func19,by kernel_rfl,by decide +kernel⟩,hh19⟩
 ·injection h with h; subst h; exact ⟨⟨Try.f20,c20,Try.func20,by kernel_rfl,by decide +kernel⟩,hh20⟩
 ·injection h with h; subst h; exact ⟨⟨Try.f21,c21,Try.func21,by kernel_rfl,by decide +kernel⟩,hh21⟩
 ·injection h with h; subst h; exact ⟨⟨Try.f22,c22,Try.func22,by kernel_rfl,by decide +kernel⟩,hh22⟩
 ·injection h with h; subst h; exact ⟨⟨Try.f23,c23,Try.func23,by kernel_rfl,by decide +kernel⟩,hh23⟩
 ·cases h
theorem hh4:Holds Try.prog 4 Sm4:=holds4 gam4
end Go.Proofs.Ytbjgiioppmkpiaa.Rx.S

