/- What the functions of this seat compute, each as a plain function on lists and numbers, with the proof that a call answers so. No condition. -/
import Derived.Test.YtbjgiioppmkpiaaFF1
set_option linter.unusedVariables false
set_option linter.unusedSimpArgs false
namespace Go.Proofs.Ytbjgiioppmkpiaa.Rx.S
open Go Go.RowKit Go.Proofs
set_option maxRecDepth 100000
noncomputable def c18:Code:=(Try.f18.body.getD .skip)
def an18:An:=⟨fun r=>match r with | 4=>⟨[2,3,5],[]⟩ | _=>⟨[],[]⟩,fun _ _=>none⟩
abbrev ps18:List PK:=[.val tFs true,.val tFs true]
abbrev rs18:List RK:=[.val .bool false]
abbrev R18:=retsD rs18 × outsD ps18
noncomputable def G18:Gam:=fun f=>match f with | 68=>some Sm68 | _=>none
theorem h0_18 (hg:GamOK Try.prog G18):Holds Try.prog 18 ⟨ps18,rs18,false,runF TT G18 an18 Try.f18 c18 ps18 rs18⟩:=holds_of tt_ok hg mixed Try.func18 (by kernel_rfl) (by rfl) (by decide +kernel)
noncomputable def at18:Nat→Pt→List Nat→St→Option R18:=atF TT G18 an18 Try.f18 c18 _ _
def sh18_L4 (x0:Int) (x1:List NT) (x2:List NT):St:=(St.mk (AV.undef :: (AV.undef :: ((AV.one (SV.bptr 1000000 0)) :: ((AV.one (SV.bptr 1000001 0)) :: (AV.undef :: ((AV.one (SV.int (Go.IntKind.i64) x0)) :: (AV.undef :: (AV.undef :: (AV.undef :: (AV.undef :: (AV.undef :: (AV.undef :: (AV.undef :: (AV.undef :: (AV.undef :: (AV.undef :: (AV.undef :: (AV.undef :: (AV.undef :: (AV.undef :: (AV.undef :: (AV.undef :: (AV.undef :: (AV.undef :: (AV.undef :: (AV.undef :: (AV.undef :: (AV.undef :: (AV.undef :: (AV.undef :: (AV.undef :: (AV.undef :: [])))))))))))))))))))))))))))))))) ((1000000,(Ent.box ((SV.con (⟨37,(Ty.int Go.IntKind.i64).pair ((Ty.int Go.IntKind.i64).pair ((Ty.int Go.IntKind.i64).pair ((Ty.int Go.IntKind.i64).pair ((Ty.int Go.IntKind.i64).pair ((Ty.int Go.IntKind.i64).pair (Ty.bool.pair (Ty.str.pair (Ty.row (nat_lit 100) (Ty.str.pair (Ty.int Go.IntKind.i64)))))))))),x1⟩:Rw)) :: []))) :: ((1000001,(Ent.box ((SV.con (⟨37,(Ty.int Go.IntKind.i64).pair ((Ty.int Go.IntKind.i64).pair ((Ty.int Go.IntKind.i64).pair ((Ty.int Go.IntKind.i64).pair ((Ty.int Go.IntKind.i64).pair ((Ty.int Go.IntKind.i64).pair (Ty.bool.pair (Ty.str.pair (Ty.row (nat_lit 100) (Ty.str.pair (Ty.int Go.IntKind.i64)))))))))),x2⟩:Rw)) :: []))) :: [])))
noncomputable def st18_top (n:Nat) (lL4:Int→(List NT)→(List NT)→Option R18) (a:List NT) (b:List NT):Option R18 :=
 cond (!decide ((↑a.length:Int)=(↑b.length:Int))) (some ((false,()),())) (lL4 ((0:Int)) (a) (b))
noncomputable def st18_L4 (n:Nat) (lL4:Int→(List NT)→(List NT)→Option R18) (x0:Int) (x1:List NT) (x2:List NT):Option R18 :=
 cond (decide (x0 < (↑x1.length:Int))) (cond (decide ((0:Int)≤x0)) (cond (decide (x0 < (↑x1.length:Int))) (cond (decide ((0:Int)≤x0)) (cond (decide (x0 < (↑x2.length:Int))) ((q68 n (((x1.getD x0.toNat ZN).1,(x1.getD x0.toNat ZN).2.1,(x1.getD x0.toNat ZN).2.2.1,(x1.getD x0.toNat ZN).2.2.2.1,(x1.getD x0.toNat ZN).2.2.2.2.1,(x1.getD x0.toNat ZN).2.2.2.2.2.1,(x1.getD x0.toNat ZN).2.2.2.2.2.2.1,(x1.getD x0.toNat ZN).2.2.2.2.2.2.2.1,(x1.getD x0.toNat ZN).2.2.2.2.2.2.2.2),((x2.getD x0.toNat ZN).1,(x2.getD x0.toNat ZN).2.1,(x2.getD x0.toNat ZN).2.2.1,(x2.getD x0.toNat ZN).2.2.2.1,(x2.getD x0.toNat ZN).2.2.2.2.1,(x2.getD x0.toNat ZN).2.2.2.2.2.1,(x2.getD x0.toNat ZN).2.2.2.2.2.2.1,(x2.getD x0.toNat ZN).2.2.2.2.2.2.2.1,(x2.getD x0.toNat ZN).2.2.2.2.2.2.2.2),())).bind fun r1=>cond (!r1.1.1) (some ((false,()),())) (lL4 (Go.IntKind.i64.wrap (x0 + (1:Int))) (x1) (x2))) (none)) (none)) (none)) (none)) (some ((true,()),()))
theorem e18_top (n:Nat) (a:List NT) (b:List NT):runF TT G18 an18 Try.f18 c18 ps18 rs18 n (a,b,())=st18_top n (fun x0 x1 x2=>at18 n (.head 4) [n] (sh18_L4 x0 x1 x2)) a b:=by kernel_rfl
theorem e18_L4_0 (n:Nat) (x0:Int) (x1:List NT) (x2:List NT):at18 n (.head 4) [0] (sh18_L4 x0 x1 x2)=none:=by kernel_rfl
theorem e18_L4 (n:Nat) (m4:Nat) (x0:Int) (x1:List NT) (x2:List NT):at18 n (.head 4) [m4 + 1] (sh18_L4 x0 x1 x2)=st18_L4 n (fun x0 x1 x2=>at18 n (.head 4) [m4] (sh18_L4 x0 x1 x2)) x0 x1 x2:=by kernel_rfl
noncomputable def p18_L4 (n:Nat):Nat→Int→(List NT)→(List NT)→Option R18
 | 0,_,_,_=>none
 | m + 1,x0,x1,x2=>st18_L4 n (p18_L4 n m) x0 x1 x2
noncomputable def p18 (n:Nat) (a:List NT) (b:List NT):Option R18:=st18_top n (p18_L4 n n) a b
theorem t18_L4 (n:Nat):∀ (m4:Nat) (x0:Int) (x1:List NT) (x2:List NT),at18 n (.head 4) [m4] (sh18_L4 x0 x1 x2)=p18_L4 n m4 x0 x1 x2:=by
 intro m
 induction m with
 | zero=>intros; rw [e18_L4_0]; rfl
 | succ m ih =>
  intros
  rw [e18_L4]
  try simp only [ih]
  rfl
theorem F18_eq (n:Nat) (a:List NT) (b:List NT):runF TT G18 an18 Try.f18 c18 ps18 rs18 n (a,b,())=p18 n a b:=by
 rw [e18_top]
 simp only [t18_L4]
 try rfl
noncomputable def q18 (n:Nat) (x:argsD ps18):Option R18:=p18 n x.1 x.2.1
noncomputable def Sm18:Sm:=⟨ps18,rs18,false,q18⟩
theorem holds18 (hg:GamOK Try.prog G18):Holds Try.prog 18 Sm18:=by
 have:=h0_18 hg
 have e:(runF TT G18 an18 Try.f18 c18 ps18 rs18)=q18:=by
  funext n x
  exact F18_eq n x.1 x.2.1
 rw [e] at this
 exact this
theorem gam18:GamOK Try.prog G18:=by
 intro f s h
 unfold G18 at h
 split at h
 ·injection h with h; subst h; exact ⟨⟨Try.f68,c68,Try.func68,by kernel_rfl,by decide +kernel⟩,hh68⟩
 ·cases h
theorem hh18:Holds Try.prog 18 Sm18:=holds18 gam18
end Go.Proofs.Ytbjgiioppmkpiaa.Rx.S

namespace Go.Proofs.Ytbjgiioppmkpiaa.Rx.S
open Go Go.RowKit Go.Proofs
set_option maxRecDepth 100000
abbrev ps22:List PK:=[.val tFs true,.val tCr true,.val i64 false,.val .str false]
abbrev rs22:List RK:=[.own tFs true,.val i64 false]
abbrev R22:=retsD rs22 × outsD ps22
noncomputable def st22_top (n:Nat) (a:List NT) (b:Int × Int × List Int) (c:Int) (d:ByteArray):Option R22 :=
 (q63 n (a,())).bind fun r0=>cond (!r0.1.1) (some (([],((1:Int),())),())) ((q64 n ((b.1,b.2.1,b.2.2),())).bind fun r1=>cond (!r1.1.1) (some (([],((1:Int),())),())) ((q65 n (a,c,())).bind fun r2=>cond (!r2.1.1) (some (([],((1:Int),())),())) ((q76 n (d,())).bind fun r3=>cond (!r3.1.1) (some (([],((1:Int),())),())) ((q67 n (a,())).bind fun r4=>(q77 n (r4.1.1,(b.1,b.2.1,b.2.2),c,d,())).bind fun r5=>some ((r5.1.1,(r5.1.2.1,())),())))))
noncomputable def p22 (n:Nat) (a:List NT) (b:Int × Int × List Int) (c:Int) (d:ByteArray):Option R22:=st22_top n a b c d
noncomputable def q22 (n:Nat) (x:argsD ps22):Option R22:=p22 n x.1 x.2.1 x.2.2.1 x.2.2.2.1
end Go.Proofs.Ytbjgiioppmkpiaa.Rx.S

namespace Go.Proofs.Ytbjgiioppmkpiaa.Rx.S
open Go Go.RowKit Go.Proofs
set_option maxRecDepth 100000
abbrev ps7:List PK:=[.val tLf true,.val tCr true,.val i64 false,.val .str false]
abbrev rs7:List RK:=[.val .bool false]
abbrev R7:=retsD rs7 × outsD ps7
noncomputable def st7_top (n:Nat) (a:List NT) (b:Int × Int × List Int) (c:Int) (d:ByteArray):Option R7 :=
 cond (decide ((1048576:Int) < (↑d.size:Int))) (some ((true,()),())) ((q39 n (a,(1048576:Int),())).bind fun r0=>cond (decide (r0.1.1 < (0:Int))) (some ((true,()),())) ((q31 n ((b.1,b.2.1,b.2.2),r0.1.1,())).bind fun r1=>cond (decide (r1.1.1 < (0:Int))) (some ((true,()),())) ((q40 n (a,())).bind fun r2=>(q33 n ((b.1,b.2.1,b.2.2),())).bind fun r3=>(q22 n (r2.1.1,(r3.1.1.1,r3.1.1.2.1,r3.1.1.2.2),c,d,())).bind fun r4=>(q40 n (a,())).bind fun r5=>(q33 n ((b.1,b.2.1,b.2.2),())).bind fun r6=>(q21 n (r5.1.1,(r6.1.1.1,r6.1.1.2.1,r6.1.1.2.2),c,d,())).bind fun r7=>(q41 n (r7.1.1,r4.1.1,())).bind fun r8=>cond (!r8.1.1) (some ((false,()),())) (cond (!decide (r7.1.2.1=r4.1.2.1)) (some ((false,()),())) ((q40 n (a,())).bind fun r9=>(q41 n (r5.1.1,r9.1.1,())).bind fun r10=>cond (!r10.1.1) (some ((false,()),())) ((q33 n ((b.1,b.2.1,b.2.2),())).bind fun r11=>(q35 n ((r6.1.1.1,r6.1.1.2.1,r6.1.1.2.2),(r11.1.1.1,r11.1.1.2.1,r11.1.1.2.2),())).bind fun r12=>cond (!r12.1.1) (some ((false,()),())) ((q42 n (r5.1.1,(1:Int),())).bind fun r13=>(q37 n ((r6.1.1.1,r6.1.1.2.1,r6.1.1.2.2),r13.1.1,())).bind fun r14=>cond (decide (r14.1.1 < (0:Int))) (some ((false,()),())) ((q41 n (r7.1.1,r4.1.1,())).bind fun r15=>cond (!r15.1.1) (some ((false,()),())) (cond (!decide (r7.1.2.1=r4.1.2.1)) (some ((false,()),())) ((q42 n (r7.1.1,(1:Int),())).bind fun r16=>(q43 n (r16.2.1,(1:Int),())).bind fun r17=>cond (decide (r17.1.1 < (0:Int))) (some ((false,()),())) (cond (!decide (r17.1.1=r16.1.1)) (some ((false,()),())) ((q40 n (a,())).bind fun r18=>(q33 n ((b.1,b.2.1,b.2.2),())).bind fun r19=>(q21 n (r18.1.1,(r19.1.1.1,r19.1.1.2.1,r19.1.1.2.2),c,d,())).bind fun r20=>(q41 n (r20.1.1,r4.1.1,())).bind fun r21=>cond (!r21.1.1) (some ((false,()),())) (cond (!decide (r20.1.2.1=r4.1.2.1)) (some ((false,()),())) ((q43 n (r16.2.1,(1:Int),())).bind fun r22=>cond (decide (r22.1.1 < (0:Int))) (some ((false,()),())) (cond (!decide (r22.1.1=r16.1.1)) (some ((false,()),())) (some ((true,()),())))))))))))))))))
noncomputable def p7 (n:Nat) (a:List NT) (b:Int × Int × List Int) (c:Int) (d:ByteArray):Option R7:=st7_top n a b c d
noncomputable def q7 (n:Nat) (x:argsD ps7):Option R7:=p7 n x.1 x.2.1 x.2.2.1 x.2.2.2.1
end Go.Proofs.Ytbjgiioppmkpiaa.Rx.S

namespace Go.Proofs.Ytbjgiioppmkpiaa.Rx.S
open Go Go.RowKit Go.Proofs
set_option maxRecDepth 100000
abbrev ps23:List PK:=[.val tFs true,.val tCr true,.val i64 false,.val .str false]
abbrev rs23:List RK:=[.val i64 false,.val i64 false]
abbrev R23:=retsD rs23 × outsD ps23
noncomputable def st23_top (n:Nat) (a:List NT) (b:Int × Int × List Int) (c:Int) (d:ByteArray):Option R23 :=
 (q60 n (a,(b.1,b.2.1,b.2.2),[c],())).bind fun r0=>cond (!r0.1.1) (some (((-1:Int),((1:Int),())),())) ((q70 n (d,())).bind fun r1=>cond (!r1.1.1) (some (((-1:Int),((1:Int),())),())) (cond (decide ((0:Int)≤c)) (cond (decide (c < (↑a.length:Int))) (cond (!decide ((a.getD c.toNat ZN).1=(2:Int))) (some (((-1:Int),((4:Int),())),())) ((q72 n (((a.getD c.toNat ZN).1,(a.getD c.toNat ZN).2.1,(a.getD c.toNat ZN).2.2.1,(a.getD c.toNat ZN).2.2.2.1,(a.getD c.toNat ZN).2.2.2.2.1,(a.getD c.toNat ZN).2.2.2.2.2.1,(a.getD c.toNat ZN).2.2.2.2.2.2.1,(a.getD c.toNat ZN).2.2.2.2.2.2.2.1,(a.getD c.toNat ZN).2.2.2.2.2.2.2.2),(b.1,b.2.1,b.2.2),(1:Int),())).bind fun r2=>cond (!r2.1.1) (some (((-1:Int),((5:Int),())),())) ((q73 n (((a.getD c.toNat ZN).1,(a.getD c.toNat ZN).2.1,(a.getD c.toNat ZN).2.2.1,(a.getD c.toNat ZN).2.2.2.1,(a.getD c.toNat ZN).2.2.2.2.1,(a.getD c.toNat ZN).2.2.2.2.2.1,(a.getD c.toNat ZN).2.2.2.2.2.2.1,(a.getD c.toNat ZN).2.2.2.2.2.2.2.1,(a.getD c.toNat ZN).2.2.2.2.2.2.2.2),d,())).bind fun r3=>cond (!r3.1.2.1) (some (((-1:Int),((2:Int),())),())) (cond (decide ((0:Int)≤r3.1.1)) (cond (decide (r3.1.1 < (↑(List.length (a.getD c.toNat ZN).2.2.2.2.2.2.2.2):Int))) (some (((List.getD (a.getD c.toNat ZN).2.2.2.2.2.2.2.2 (Int.toNat r3.1.1) (ByteArray.empty,(0:Int))).2,((0:Int),())),())) (none)) (none))))) (none)) (none)))
noncomputable def p23 (n:Nat) (a:List NT) (b:Int × Int × List Int) (c:Int) (d:ByteArray):Option R23:=st23_top n a b c d
noncomputable def q23 (n:Nat) (x:argsD ps23):Option R23:=p23 n x.1 x.2.1 x.2.2.1 x.2.2.2.1
end Go.Proofs.Ytbjgiioppmkpiaa.Rx.S

namespace Go.Proofs.Ytbjgiioppmkpiaa.Rx.S
open Go Go.RowKit Go.Proofs
set_option maxRecDepth 100000
abbrev ps15:List PK:=[.val (.row 5 (.int .u8)) false]
abbrev rs15:List RK:=[.ro 37 (tIn 100) true,.own tCr true,.val i64 false,.val i64 false]
abbrev R15:=retsD rs15 × outsD ps15
noncomputable def st15_top (n:Nat) (a:List Int):Option R15 :=
 (q55 n (a,())).bind fun r0=>(q56 n ((r0.1.1.1,r0.1.1.2),())).bind fun r1=>(q57 n ((r1.2.1.1,r1.2.1.2),())).bind fun r2=>(q58 n ((r2.2.1.1,r2.2.1.2),())).bind fun r3=>(q59 n ((r3.2.1.1,r3.2.1.2),())).bind fun r4=>some ((r1.1.1,((r2.1.1.1,(r2.1.1.2.1,r2.1.1.2.2)),(r3.1.1,(r4.1.1,())))),())
noncomputable def p15 (n:Nat) (a:List Int):Option R15:=st15_top n a
noncomputable def q15 (n:Nat) (x:argsD ps15):Option R15:=p15 n x.1
end Go.Proofs.Ytbjgiioppmkpiaa.Rx.S

namespace Go.Proofs.Ytbjgiioppmkpiaa.Rx.S
open Go Go.RowKit Go.Proofs
set_option maxRecDepth 100000
abbrev ps20:List PK:=[.val (.row 5 (.int .u8)) false]
abbrev rs20:List RK:=[.ro 37 (tIn 100) true,.own tCr true,.val i64 false,.val .str false]
abbrev R20:=retsD rs20 × outsD ps20
noncomputable def st20_top (n:Nat) (a:List Int):Option R20 :=
 (q55 n (a,())).bind fun r0=>(q56 n ((r0.1.1.1,r0.1.1.2),())).bind fun r1=>(q57 n ((r1.2.1.1,r1.2.1.2),())).bind fun r2=>(q58 n ((r2.2.1.1,r2.2.1.2),())).bind fun r3=>(q71 n ((r3.2.1.1,r3.2.1.2),())).bind fun r4=>some ((r1.1.1,((r2.1.1.1,(r2.1.1.2.1,r2.1.1.2.2)),(r3.1.1,(r4.1.1,())))),())
noncomputable def p20 (n:Nat) (a:List Int):Option R20:=st20_top n a
noncomputable def q20 (n:Nat) (x:argsD ps20):Option R20:=p20 n x.1
end Go.Proofs.Ytbjgiioppmkpiaa.Rx.S

namespace Go.Proofs.Ytbjgiioppmkpiaa.Rx.S
open Go Go.RowKit Go.Proofs
set_option maxRecDepth 100000
noncomputable def c3:Code:=(Try.f3.body.getD .skip)
abbrev ps3:List PK:=[.val (.row 5 (.int .u8)) false]
abbrev rs3:List RK:=[.val .bool false]
abbrev R3:=retsD rs3 × outsD ps3
noncomputable def st3_top (n:Nat) (a:List Int):Option R3 :=
 cond (decide ((1048576:Int) < (↑a.length:Int))) (some ((true,()),())) ((q15 n (a,())).bind fun r0=>(q16 n (r0.1.1,(r0.1.2.1.1,r0.1.2.1.2.1,r0.1.2.1.2.2),r0.1.2.2.1,r0.1.2.2.2.1,())).bind fun r1=>(q17 n (r0.1.1,(r0.1.2.1.1,r0.1.2.1.2.1,r0.1.2.1.2.2),r0.1.2.2.1,r0.1.2.2.2.1,())).bind fun r2=>(q18 n (r1.1.1,r2.1.1,())).bind fun r3=>cond (r3.1.1) (cond (!decide (r1.1.2.1=r2.1.2.1)) (some ((decide (r1.1.2.1=r2.1.2.1),()),())) (cond (!!decide (r1.1.2.1=(1:Int))) (some ((decide (r1.1.2.1=r2.1.2.1),()),())) (cond (!decide (r1.1.2.1=(0:Int))) ((q18 n (r0.1.1,r1.1.1,())).bind fun r4=>some ((r4.1.1,()),())) ((q19 n (r1.1.1,())).bind fun r5=>cond (r5.1.1) (cond (decide ((0:Int)≤r0.1.2.2.1)) (cond (decide (r0.1.2.2.1 < (↑(List.length r1.1.1):Int))) (cond (decide ((List.getD r1.1.1 (Int.toNat r0.1.2.2.1) ZN).2.1=r0.1.2.2.2.1)) (cond (decide (r0.1.2.1.1=(0:Int))) (some ((true,()),())) (cond (decide ((0:Int)≤r0.1.2.2.1)) (cond (decide (r0.1.2.2.1 < (↑(List.length r0.1.1):Int))) (some ((decide (r0.1.2.1.1=(List.getD r0.1.1 (Int.toNat r0.1.2.2.1) ZN).2.2.1),()),())) (none)) (none))) (some ((false,()),()))) (none)) (none)) (some ((false,()),())))))) (some ((false,()),())))
noncomputable def p3 (n:Nat) (a:List Int):Option R3:=st3_top n a
end Go.Proofs.Ytbjgiioppmkpiaa.Rx.S

namespace Go.Proofs.Ytbjgiioppmkpiaa.Rx.S
open Go Go.RowKit Go.Proofs
set_option maxRecDepth 100000
noncomputable def c4:Code:=(Try.f4.body.getD .skip)
abbrev ps4:List PK:=[.val (.row 5 (.int .u8)) false]
abbrev rs4:List RK:=[.val .bool false]
abbrev R4:=retsD rs4 × outsD ps4
noncomputable def st4_top (n:Nat) (lL14:Int→Int→Int→(List NT)→(List NT)→Option R4) (a:List Int):Option R4 :=
 cond (decide ((1048576:Int) < (↑a.length:Int))) (some ((true,()),())) ((q20 n (a,())).bind fun r0=>(q21 n (r0.1.1,(r0.1.2.1.1,r0.1.2.1.2.1,r0.1.2.1.2.2),r0.1.2.2.1,r0.1.2.2.2.1,())).bind fun r1=>(q22 n (r0.1.1,(r0.1.2.1.1,r0.1.2.1.2.1,r0.1.2.1.2.2),r0.1.2.2.1,r0.1.2.2.2.1,())).bind fun r2=>(q18 n (r1.1.1,r2.1.1,())).bind fun r3=>cond (r3.1.1) (cond (!decide (r1.1.2.1=r2.1.2.1)) (some ((decide (r1.1.2.1=r2.1.2.1),()),())) (cond (!!decide (r1.1.2.1=(1:Int))) (some ((decide (r1.1.2.1=r2.1.2.1),()),())) (cond (!decide (r1.1.2.1=(0:Int))) ((q18 n (r0.1.1,r1.1.1,())).bind fun r4=>some ((r4.1.1,()),())) ((q23 n (r0.1.1,(r0.1.2.1.1,r0.1.2.1.2.1,r0.1.2.1.2.2),r0.1.2.2.1,r0.1.2.2.2.1,())).bind fun r5=>(q23 n (r1.1.1,(r0.1.2.1.1,r0.1.2.1.2.1,r0.1.2.1.2.2),r0.1.2.2.1,r0.1.2.2.2.1,())).bind fun r6=>lL14 (r5.1.1) (r6.1.2.1) ((0:Int)) (r0.1.1) (r1.1.1))))) (some ((false,()),())))
noncomputable def st4_L14 (n:Nat) (lL14:Int→Int→Int→(List NT)→(List NT)→Option R4) (x0:Int) (x1:Int) (x2:Int) (x3:List NT) (x4:List NT):Option R4 :=
 cond (decide (x2 < (↑x3.length:Int))) (cond (!decide (x2=x0)) (cond (decide ((0:Int)≤x2)) (cond (decide (x2 < (↑x3.length:Int))) (cond (decide ((0:Int)≤x2)) (cond (decide (x2 < (↑x4.length:Int))) (cond (!ByteArray.toList (x3.getD x2.toNat ZN).2.2.2.2.2.2.2.1 == ByteArray.toList (x4.getD x2.toNat ZN).2.2.2.2.2.2.2.1) (some ((false,()),())) (lL14 (x0) (x1) (Go.IntKind.i64.wrap (x2 + (1:Int))) (x3) (x4))) (none)) (none)) (none)) (none)) (lL14 (x0) (x1) (Go.IntKind.i64.wrap (x2 + (1:Int))) (x3) (x4))) (cond (decide ((0:Int)≤x0)) (cond (decide (x0 < (↑x3.length:Int))) (cond (decide ((x3.getD x0.toNat ZN).2.2.2.2.1=(1:Int))) (cond (decide ((0:Int)≤x0)) (cond (decide (x0 < (↑x3.length:Int))) ((q19 n (x4,())).bind fun r8=>cond (r8.1.1) (cond (decide (x1=(2:Int))) (cond (decide ((0:Int)≤x0)) (cond (decide (x0 < (↑x4.length:Int))) (some ((decide ((x4.getD x0.toNat ZN).1=(0:Int)) == decide ((x3.getD x0.toNat ZN).2.2.2.2.2.1=(0:Int)),()),())) (none)) (none)) (some ((false,()),()))) (some ((false,()),()))) (none)) (none)) ((q19 n (x4,())).bind fun r9=>cond (r9.1.1) (cond (decide (x1=(2:Int))) (cond (decide ((0:Int)≤x0)) (cond (decide (x0 < (↑x4.length:Int))) (some ((decide ((x4.getD x0.toNat ZN).1=(0:Int)) == false,()),())) (none)) (none)) (some ((false,()),()))) (some ((false,()),())))) (none)) (none))
noncomputable def p4_L14 (n:Nat):Nat→Int→Int→Int→(List NT)→(List NT)→Option R4
 | 0,_,_,_,_,_=>none
 | m + 1,x0,x1,x2,x3,x4=>st4_L14 n (p4_L14 n m) x0 x1 x2 x3 x4
noncomputable def p4 (n:Nat) (a:List Int):Option R4:=st4_top n (p4_L14 n n) a
end Go.Proofs.Ytbjgiioppmkpiaa.Rx.S

namespace Go.Proofs.Ytbjgiioppmkpiaa.Rx.S
open Go Go.RowKit Go.Proofs
set_option maxRecDepth 100000
noncomputable def c13:Code:=(Try.f13.body.getD .skip)
def an13:An:=⟨fun _=>⟨[],[]⟩,fun _ _=>none⟩
abbrev ps13:List PK:=[.val (.row 5 (.int .u8)) false]
abbrev rs13:List RK:=[.val .bool false]
abbrev R13:=retsD rs13 × outsD ps13
noncomputable def G13:Gam:=fun f=>match f with | 18=>some Sm18 | 21=>some Sm21 | 45=>some Sm45 | 46=>some Sm46 | 47=>some Sm47 | _=>none
theorem h0_13 (hg:GamOK Try.prog G13):Holds Try.prog 13 ⟨ps13,rs13,false,runF TT G13 an13 Try.f13 c13 ps13 rs13⟩:=holds_of tt_ok hg mixed Try.func13 (by kernel_rfl) (by rfl) (by decide +kernel)
noncomputable def st13_top (n:Nat) (a:List Int):Option R13 :=
 cond (decide ((1048576:Int) < (↑a.length:Int))) (some ((true,()),())) ((q45 n (a,())).bind fun r0=>(q46 n (r0.1.1,(r0.1.2.1.1,r0.1.2.1.2.1,r0.1.2.1.2.2),r0.1.2.2.1,r0.1.2.2.2.1,r0.1.2.2.2.2.1,r0.1.2.2.2.2.2.1,())).bind fun r1=>(q47 n (r0.1.1,(r0.1.2.1.1,r0.1.2.1.2.1,r0.1.2.1.2.2),r0.1.2.2.1,r0.1.2.2.2.1,r0.1.2.2.2.2.1,r0.1.2.2.2.2.2.1,())).bind fun r2=>cond (!decide (r1.1.2.2.1=r2.1.2.2.1)) (cond (decide (r1.1.2.2.1=r2.1.2.2.1)) (cond (decide (r1.1.2.1=r2.1.2.1)) ((q18 n (r1.1.1,r2.1.1,())).bind fun r3=>some ((r3.1.1,()),())) (some ((false,()),()))) (some ((false,()),()))) (cond (!decide (r1.1.2.1=r2.1.2.1)) (cond (decide (r1.1.2.2.1=r2.1.2.2.1)) (cond (decide (r1.1.2.1=r2.1.2.1)) ((q18 n (r1.1.1,r2.1.1,())).bind fun r4=>some ((r4.1.1,()),())) (some ((false,()),()))) (some ((false,()),()))) ((q18 n (r1.1.1,r2.1.1,())).bind fun r5=>cond (!r5.1.1) (cond (decide (r1.1.2.2.1=r2.1.2.2.1)) (cond (decide (r1.1.2.1=r2.1.2.1)) ((q18 n (r1.1.1,r2.1.1,())).bind fun r6=>some ((r6.1.1,()),())) (some ((false,()),()))) (some ((false,()),()))) (cond (!decide (r1.1.2.2.1=(0:Int))) (cond (decide (r1.1.2.2.1=r2.1.2.2.1)) (cond (decide (r1.1.2.1=r2.1.2.1)) ((q18 n (r1.1.1,r2.1.1,())).bind fun r7=>some ((r7.1.1,()),())) (some ((false,()),()))) (some ((false,()),()))) ((q21 n (r1.1.1,(r0.1.2.1.1,r0.1.2.1.2.1,r0.1.2.1.2.2),r0.1.2.2.1,r0.1.2.2.2.1,())).bind fun r8=>cond (decide (r8.1.2.1=(0:Int))) ((q18 n (r8.1.1,r0.1.1,())).bind fun r9=>some ((r9.1.1,()),())) (some ((false,()),())))))))
theorem e13_top (n:Nat) (a:List Int):runF TT G13 an13 Try.f13 c13 ps13 rs13 n (a,())=st13_top n a:=by kernel_rfl
noncomputable def p13 (n:Nat) (a:List Int):Option R13:=st13_top n a
theorem F13_eq (n:Nat) (a:List Int):runF TT G13 an13 Try.f13 c13 ps13 rs13 n (a,())=p13 n a:=by
 rw [e13_top]
 skip
 try rfl
noncomputable def q13 (n:Nat) (x:argsD ps13):Option R13:=p13 n x.1
noncomputable def Sm13:Sm:=⟨ps13,rs13,false,q13⟩
theorem holds13 (hg:GamOK Try.prog G13):Holds Try.prog 13 Sm13:=by
 have:=h0_13 hg
 have e:(runF TT G13 an13 Try.f13 c13 ps13 rs13)=q13:=by
  funext n x
  exact F13_eq n x.1
 rw [e] at this
 exact this
theorem gam13:GamOK Try.prog G13:=by
 intro f s h
 unfold G13 at h
 split at h
 ·injection h with h; subst h; exact ⟨⟨Try.f18,c18,Try.func18,by kernel_rfl,by decide +kernel⟩,hh18⟩
 ·injection h with h; subst h; exact ⟨⟨Try.f21,c21,Try.func21,by kernel_rfl,by decide +kernel⟩,hh21⟩
 ·injection h with h; subst h; exact ⟨⟨Try.f45,c45,Try.func45,by kernel_rfl,by decide +kernel⟩,hh45⟩
 ·injection h with h; subst h; exact ⟨⟨Try.f46,c46,Try.func46,by kernel_rfl,by decide +kernel⟩,hh46⟩
 ·injection h with h; subst h; exact ⟨⟨Try.f47,c47,Try.func47,by kernel_rfl,by decide +kernel⟩,hh47⟩
 ·cases h
theorem hh13:Holds Try.prog 13 Sm13:=holds13 gam13
end Go.Proofs.Ytbjgiioppmkpiaa.Rx.S

