/- What the functions of this seat compute, each as a plain function on lists and numbers, with the proof that a call answers so. No condition. -/
import Derived.Test.YtbjgiioppmkpiaaGF1
set_option linter.unusedVariables false
set_option linter.unusedSimpArgs false
namespace Go.Proofs.Ytbjgiioppmkpiaa.Rx.S
open Go Go.RowKit Go.Proofs
set_option maxRecDepth 100000
abbrev ps7:List PK:=[.val tLf true,.val tCr true,.val i64 false,.val .str false]
abbrev rs7:List RK:=[.val .bool false]
abbrev R7:=retsD rs7 × outsD ps7
noncomputable def st7_top (n:Nat) (a:List NT) (b:Int × Int × List Int) (c:Int) (d:ByteArray):Option R7 :=
 cond (decide ((1048576:Int) < (↑d.size:Int))) (some ((true,()),())) ((q39 n (a,(1048576:Int),())).bind fun r0=>cond (decide (r0.1.1 < (0:Int))) (some ((true,()),())) ((q31 n ((b.1,b.2.1,b.2.2),r0.1.1,())).bind fun r1=>cond (decide (r1.1.1 < (0:Int))) (some ((true,()),())) ((q40 n (a,())).bind fun r2=>(q33 n ((b.1,b.2.1,b.2.2),())).bind fun r3=>(q22 n (r2.1.1,(r3.1.1.1,r3.1.1.2.1,r3.1.1.2.2),c,d,())).bind fun r4=>(q40 n (a,())).bind fun r5=>(q33 n ((b.1,b.2.1,b.2.2),())).bind fun r6=>(q21 n (r5.1.1,(r6.1.1.1,r6.1.1.2.1,r6.1.1.2.2),c,d,())).bind fun r7=>(q41 n (r7.1.1,r4.1.1,())).bind fun r8=>cond (!r8.1.1) (some ((false,()),())) (cond (!decide (r7.1.2.1=r4.1.2.1)) (some ((false,()),())) ((q40 n (a,())).bind fun r9=>(q41 n (r5.1.1,r9.1.1,())).bind fun r10=>cond (!r10.1.1) (some ((false,()),())) ((q33 n ((b.1,b.2.1,b.2.2),())).bind fun r11=>(q35 n ((r6.1.1.1,r6.1.1.2.1,r6.1.1.2.2),(r11.1.1.1,r11.1.1.2.1,r11.1.1.2.2),())).bind fun r12=>cond (!r12.1.1) (some ((false,()),())) ((q42 n (r5.1.1,(1:Int),())).bind fun r13=>(q37 n ((r6.1.1.1,r6.1.1.2.1,r6.1.1.2.2),r13.1.1,())).bind fun r14=>cond (decide (r14.1.1 < (0:Int))) (some ((false,()),())) ((q41 n (r7.1.1,r4.1.1,())).bind fun r15=>cond (!r15.1.1) (some ((false,()),())) (cond (!decide (r7.1.2.1=r4.1.2.1)) (some ((false,()),())) ((q42 n (r7.1.1,(1:Int),())).bind fun r16=>(q43 n (r16.2.1,(1:Int),())).bind fun r17=>cond (decide (r17.1.1 < (0:Int))) (some ((false,()),())) (cond (!decide (r17.1.1=r16.1.1)) (some ((false,()),())) ((q40 n (a,())).bind fun r18=>(q33 n ((b.1,b.2.1,b.2.2),())).bind fun r19=>(q21 n (r18.1.1,(r19.1.1.1,r19.1.1.2.1,r19.1.1.2.2),c,d,())).bind fun r20=>(q41 n (r20.1.1,r4.1.1,())).bind fun r21=>cond (!r21.1.1) (some ((false,()),())) (cond (!decide (r20.1.2.1=r4.1.2.1)) (some ((false,()),())) ((q43 n (r16.2.1,(1:Int),())).bind fun r22=>cond (decide (r22.1.1 < (0:Int))) (some ((false,()),())) (cond (!decide (r22.1.1=r16.1.1)) (some ((false,()),())) (some ((true,()),())))))))))))))))))
noncomputable def p7 (n:Nat) (a:List NT) (b:Int × Int × List Int) (c:Int) (d:ByteArray):Option R7:=st7_top n a b c d
noncomputable def q7 (n:Nat) (x:argsD ps7):Option R7:=p7 n x.1 x.2.1 x.2.2.1 x.2.2.2.1
end Go.Proofs.Ytbjgiioppmkpiaa.Rx.S

namespace Go.Proofs.Ytbjgiioppmkpiaa.Rx.S
open Go Go.RowKit Go.Proofs
set_option maxRecDepth 100000
noncomputable def c23:Code:=(Try.f23.body.getD .skip)
def an23:An:=⟨fun _=>⟨[],[]⟩,fun _ _=>none⟩
abbrev ps23:List PK:=[.val tFs true,.val tCr true,.val i64 false,.val .str false]
abbrev rs23:List RK:=[.val i64 false,.val i64 false]
abbrev R23:=retsD rs23 × outsD ps23
noncomputable def G23:Gam:=fun f=>match f with | 60=>some Sm60 | 70=>some Sm70 | 72=>some Sm72 | 73=>some Sm73 | _=>none
theorem h0_23 (hg:GamOK Try.prog G23):Holds Try.prog 23 ⟨ps23,rs23,false,runF TT G23 an23 Try.f23 c23 ps23 rs23⟩:=holds_of tt_ok hg mixed Try.func23 (by kernel_rfl) (by rfl) (by decide +kernel)
noncomputable def st23_top (n:Nat) (a:List NT) (b:Int × Int × List Int) (c:Int) (d:ByteArray):Option R23 :=
 (q60 n (a,(b.1,b.2.1,b.2.2),[c],())).bind fun r0=>cond (!r0.1.1) (some (((-1:Int),((1:Int),())),())) ((q70 n (d,())).bind fun r1=>cond (!r1.1.1) (some (((-1:Int),((1:Int),())),())) (cond (decide ((0:Int)≤c)) (cond (decide (c < (↑a.length:Int))) (cond (!decide ((a.getD c.toNat ZN).1=(2:Int))) (some (((-1:Int),((4:Int),())),())) ((q72 n (((a.getD c.toNat ZN).1,(a.getD c.toNat ZN).2.1,(a.getD c.toNat ZN).2.2.1,(a.getD c.toNat ZN).2.2.2.1,(a.getD c.toNat ZN).2.2.2.2.1,(a.getD c.toNat ZN).2.2.2.2.2.1,(a.getD c.toNat ZN).2.2.2.2.2.2.1,(a.getD c.toNat ZN).2.2.2.2.2.2.2.1,(a.getD c.toNat ZN).2.2.2.2.2.2.2.2),(b.1,b.2.1,b.2.2),(1:Int),())).bind fun r2=>cond (!r2.1.1) (some (((-1:Int),((5:Int),())),())) ((q73 n (((a.getD c.toNat ZN).1,(a.getD c.toNat ZN).2.1,(a.getD c.toNat ZN).2.2.1,(a.getD c.toNat ZN).2.2.2.1,(a.getD c.toNat ZN).2.2.2.2.1,(a.getD c.toNat ZN).2.2.2.2.2.1,(a.getD c.toNat ZN).2.2.2.2.2.2.1,(a.getD c.toNat ZN).2.2.2.2.2.2.2.1,(a.getD c.toNat ZN).2.2.2.2.2.2.2.2),d,())).bind fun r3=>cond (!r3.1.2.1) (some (((-1:Int),((2:Int),())),())) (cond (decide ((0:Int)≤r3.1.1)) (cond (decide (r3.1.1 < (↑(List.length (a.getD c.toNat ZN).2.2.2.2.2.2.2.2):Int))) (some (((List.getD (a.getD c.toNat ZN).2.2.2.2.2.2.2.2 (Int.toNat r3.1.1) (ByteArray.empty,(0:Int))).2,((0:Int),())),())) (none)) (none))))) (none)) (none)))
theorem e23_top (n:Nat) (a:List NT) (b:Int × Int × List Int) (c:Int) (d:ByteArray):runF TT G23 an23 Try.f23 c23 ps23 rs23 n (a,b,c,d,())=st23_top n a b c d:=by kernel_rfl
noncomputable def p23 (n:Nat) (a:List NT) (b:Int × Int × List Int) (c:Int) (d:ByteArray):Option R23:=st23_top n a b c d
theorem F23_eq (n:Nat) (a:List NT) (b:Int × Int × List Int) (c:Int) (d:ByteArray):runF TT G23 an23 Try.f23 c23 ps23 rs23 n (a,b,c,d,())=p23 n a b c d:=by
 rw [e23_top]
 skip
 try rfl
noncomputable def q23 (n:Nat) (x:argsD ps23):Option R23:=p23 n x.1 x.2.1 x.2.2.1 x.2.2.2.1
noncomputable def Sm23:Sm:=⟨ps23,rs23,false,q23⟩
theorem holds23 (hg:GamOK Try.prog G23):Holds Try.prog 23 Sm23:=by
 have:=h0_23 hg
 have e:(runF TT G23 an23 Try.f23 c23 ps23 rs23)=q23:=by
  funext n x
  exact F23_eq n x.1 x.2.1 x.2.2.1 x.2.2.2.1
 rw [e] at this
 exact this
theorem gam23:GamOK Try.prog G23:=by
 intro f s h
 unfold G23 at h
 split at h
 ·injection h with h; subst h; exact ⟨⟨Try.f60,c60,Try.func60,by kernel_rfl,by decide +kernel⟩,hh60⟩
 ·injection h with h; subst h; exact ⟨⟨Try.f70,c70,Try.func70,by kernel_rfl,by decide +kernel⟩,hh70⟩
 ·injection h with h; subst h; exact ⟨⟨Try.f72,c72,Try.func72,by kernel_rfl,by decide +kernel⟩,hh72⟩
 ·injection h with h; subst h; exact ⟨⟨Try.f73,c73,Try.func73,by kernel_rfl,by decide +kernel⟩,hh73⟩
 ·cases h
theorem hh23:Holds Try.prog 23 Sm23:=holds23 gam23
end Go.Proofs.Ytbjgiioppmkpiaa.Rx.S

namespace Go.Proofs.Ytbjgiioppmkpiaa.Rx.S
open Go Go.RowKit Go.Proofs
set_option maxRecDepth 100000
abbrev ps15:List PK:=[.val (.row 5 (.int .u8)) false]
abbrev rs15:List RK:=[.ro 37 (tIn 100) true,.own tCr true,.val i64 false,.val i64 false]
abbrev R15:=retsD rs15 × outsD ps15
noncomputable def st15_top (n:Nat) (a:List Int):Option R15 :=
 (q55 n (a,())).bind fun r0=>(q56 n ((r0.1.1.1,r0.1.1.2),())).bind fun r1=>(q57 n ((r1.2.1.1,r1.2.1.2),())).bind fun r2=>(q58 n ((r2.2.1.1,r2.2.1.2),())).bind fun r3=>(q59 n ((r3.2.1.1,r3.2.1.2),())).bind fun r4=>some ((r1.1.1,((r2.1.1.1,(r2.1.1.2.1,r2.1.1.2.2)),(r3.1.1,(r4.1.1,())))),())
noncomputable def p15 (n:Nat) (a:List Int):Option R15:=st15_top n a
noncomputable def q15 (n:Nat) (x:argsD ps15):Option R15:=p15 n x.1
end Go.Proofs.Ytbjgiioppmkpiaa.Rx.S

namespace Go.Proofs.Ytbjgiioppmkpiaa.Rx.S
open Go Go.RowKit Go.Proofs
set_option maxRecDepth 100000
abbrev ps20:List PK:=[.val (.row 5 (.int .u8)) false]
abbrev rs20:List RK:=[.ro 37 (tIn 100) true,.own tCr true,.val i64 false,.val .str false]
abbrev R20:=retsD rs20 × outsD ps20
noncomputable def st20_top (n:Nat) (a:List Int):Option R20 :=
 (q55 n (a,())).bind fun r0=>(q56 n ((r0.1.1.1,r0.1.1.2),())).bind fun r1=>(q57 n ((r1.2.1.1,r1.2.1.2),())).bind fun r2=>(q58 n ((r2.2.1.1,r2.2.1.2),())).bind fun r3=>(q71 n ((r3.2.1.1,r3.2.1.2),())).bind fun r4=>some ((r1.1.1,((r2.1.1.1,(r2.1.1.2.1,r2.1.1.2.2)),(r3.1.1,(r4.1.1,())))),())
noncomputable def p20 (n:Nat) (a:List Int):Option R20:=st20_top n a
noncomputable def q20 (n:Nat) (x:argsD ps20):Option R20:=p20 n x.1
end Go.Proofs.Ytbjgiioppmkpiaa.Rx.S

namespace Go.Proofs.Ytbjgiioppmkpiaa.Rx.S
open Go Go.RowKit Go.Proofs
set_option maxRecDepth 100000
noncomputable def c52:Code:=(Try.f52.body.getD .skip)
def an52:An:=⟨fun _=>⟨[],[]⟩,fun _ _=>none⟩
abbrev ps52:List PK:=[.val (.row 5 (.int .u8)) false]
abbrev rs52:List RK:=[.ro 37 (tIn 100) true,.own tCr true,.val i64 false,.val i64 false,.val .str false]
abbrev R52:=retsD rs52 × outsD ps52
noncomputable def G52:Gam:=fun f=>match f with | 55=>some Sm55 | 56=>some Sm56 | 57=>some Sm57 | 58=>some Sm58 | 71=>some Sm71 | _=>none
theorem h0_52 (hg:GamOK Try.prog G52):Holds Try.prog 52 ⟨ps52,rs52,true,runF TT G52 an52 Try.f52 c52 ps52 rs52⟩:=holds_of tt_ok hg mixed Try.func52 (by kernel_rfl) (by rfl) (by decide +kernel)
noncomputable def st52_top (n:Nat) (a:List Int):Option R52 :=
 (q55 n (a,())).bind fun r0=>(q56 n ((r0.1.1.1,r0.1.1.2),())).bind fun r1=>(q57 n ((r1.2.1.1,r1.2.1.2),())).bind fun r2=>(q58 n ((r2.2.1.1,r2.2.1.2),())).bind fun r3=>(q58 n ((r3.2.1.1,r3.2.1.2),())).bind fun r4=>(q71 n ((r4.2.1.1,r4.2.1.2),())).bind fun r5=>some ((r1.1.1,((r2.1.1.1,(r2.1.1.2.1,r2.1.1.2.2)),(r3.1.1,(r4.1.1,(r5.1.1,()))))),())
theorem e52_top (n:Nat) (a:List Int):runF TT G52 an52 Try.f52 c52 ps52 rs52 n (a,())=st52_top n a:=by kernel_rfl
noncomputable def p52 (n:Nat) (a:List Int):Option R52:=st52_top n a
theorem F52_eq (n:Nat) (a:List Int):runF TT G52 an52 Try.f52 c52 ps52 rs52 n (a,())=p52 n a:=by
 rw [e52_top]
 skip
 try rfl
noncomputable def q52 (n:Nat) (x:argsD ps52):Option R52:=p52 n x.1
noncomputable def Sm52:Sm:=⟨ps52,rs52,true,q52⟩
theorem holds52 (hg:GamOK Try.prog G52):Holds Try.prog 52 Sm52:=by
 have:=h0_52 hg
 have e:(runF TT G52 an52 Try.f52 c52 ps52 rs52)=q52:=by
  funext n x
  exact F52_eq n x.1
 rw [e] at this
 exact this
theorem gam52:GamOK Try.prog G52:=by
 intro f s h
 unfold G52 at h
 split at h
 ·injection h with h; subst h; exact ⟨⟨Try.f55,c55,Try.func55,by kernel_rfl,by decide +kernel⟩,hh55⟩
 ·injection h with h; subst h; exact ⟨⟨Try.f56,c56,Try.func56,by kernel_rfl,by decide +kernel⟩,hh56⟩
 ·injection h with h; subst h; exact ⟨⟨Try.f57,c57,Try.func57,by kernel_rfl,by decide +kernel⟩,hh57⟩
 ·injection h with h; subst h; exact ⟨⟨Try.f58,c58,Try.func58,by kernel_rfl,by decide +kernel⟩,hh58⟩
 ·injection h with h; subst h; exact ⟨⟨Try.f71,c71,Try.func71,by kernel_rfl,by decide +kernel⟩,hh71⟩
 ·cases h
theorem hh52:Holds Try.prog 52 Sm52:=holds52 gam52
end Go.Proofs.Ytbjgiioppmkpiaa.Rx.S

namespace Go.Proofs.Ytbjgiioppmkpiaa.Rx.S
open Go Go.RowKit Go.Proofs
set_option maxRecDepth 100000
noncomputable def c3:Code:=(Try.f3.body.getD .skip)
abbrev ps3:List PK:=[.val (.row 5 (.int .u8)) false]
abbrev rs3:List RK:=[.val .bool false]
abbrev R3:=retsD rs3 × outsD ps3
noncomputable def st3_top (n:Nat) (a:List Int):Option R3 :=
 cond (decide ((1048576:Int) < (↑a.length:Int))) (some ((true,()),())) ((q15 n (a,())).bind fun r0=>(q16 n (r0.1.1,(r0.1.2.1.1,r0.1.2.1.2.1,r0.1.2.1.2.2),r0.1.2.2.1,r0.1.2.2.2.1,())).bind fun r1=>(q17 n (r0.1.1,(r0.1.2.1.1,r0.1.2.1.2.1,r0.1.2.1.2.2),r0.1.2.2.1,r0.1.2.2.2.1,())).bind fun r2=>(q18 n (r1.1.1,r2.1.1,())).bind fun r3=>cond (r3.1.1) (cond (!decide (r1.1.2.1=r2.1.2.1)) (some ((decide (r1.1.2.1=r2.1.2.1),()),())) (cond (!!decide (r1.1.2.1=(1:Int))) (some ((decide (r1.1.2.1=r2.1.2.1),()),())) (cond (!decide (r1.1.2.1=(0:Int))) ((q18 n (r0.1.1,r1.1.1,())).bind fun r4=>some ((r4.1.1,()),())) ((q19 n (r1.1.1,())).bind fun r5=>cond (r5.1.1) (cond (decide ((0:Int)≤r0.1.2.2.1)) (cond (decide (r0.1.2.2.1 < (↑(List.length r1.1.1):Int))) (cond (decide ((List.getD r1.1.1 (Int.toNat r0.1.2.2.1) ZN).2.1=r0.1.2.2.2.1)) (cond (decide (r0.1.2.1.1=(0:Int))) (some ((true,()),())) (cond (decide ((0:Int)≤r0.1.2.2.1)) (cond (decide (r0.1.2.2.1 < (↑(List.length r0.1.1):Int))) (some ((decide (r0.1.2.1.1=(List.getD r0.1.1 (Int.toNat r0.1.2.2.1) ZN).2.2.1),()),())) (none)) (none))) (some ((false,()),()))) (none)) (none)) (some ((false,()),())))))) (some ((false,()),())))
noncomputable def p3 (n:Nat) (a:List Int):Option R3:=st3_top n a
end Go.Proofs.Ytbjgiioppmkpiaa.Rx.S

namespace Go.Proofs.Ytbjgiioppmkpiaa.Rx.S
open Go Go.RowKit Go.Proofs
set_option maxRecDepth 100000
noncomputable def c4:Code:=(Try.f4.body.getD .skip)
abbrev ps4:List PK:=[.val (.row 5 (.int .u8)) false]
abbrev rs4:List RK:=[.val .bool false]
abbrev R4:=retsD rs4 × outsD ps4
noncomputable def st4_top (n:Nat) (lL14:Int→Int→Int→(List NT)→(List NT)→Option R4) (a:List Int):Option R4 :=
 cond (decide ((1048576:Int) < (↑a.length:Int))) (some ((true,()),())) ((q20 n (a,())).bind fun r0=>(q21 n (r0.1.1,(r0.1.2.1.1,r0.1.2.1.2.1,r0.1.2.1.2.2),r0.1.2.2.1,r0.1.2.2.2.1,())).bind fun r1=>(q22 n (r0.1.1,(r0.1.2.1.1,r0.1.2.1.2.1,r0.1.2.1.2.2),r0.1.2.2.1,r0.1.2.2.2.1,())).bind fun r2=>(q18 n (r1.1.1,r2.1.1,())).bind fun r3=>cond (r3.1.1) (cond (!decide (r1.1.2.1=r2.1.2.1)) (some ((decide (r1.1.2.1=r2.1.2.1),()),())) (cond (!!decide (r1.1.2.1=(1:Int))) (some ((decide (r1.1.2.1=r2.1.2.1),()),())) (cond (!decide (r1.1.2.1=(0:Int))) ((q18 n (r0.1.1,r1.1.1,())).bind fun r4=>some ((r4.1.1,()),())) ((q23 n (r0.1.1,(r0.1.2.1.1,r0.1.2.1.2.1,r0.1.2.1.2.2),r0.1.2.2.1,r0.1.2.2.2.1,())).bind fun r5=>(q23 n (r1.1.1,(r0.1.2.1.1,r0.1.2.1.2.1,r0.1.2.1.2.2),r0.1.2.2.1,r0.1.2.2.2.1,())).bind fun r6=>lL14 (r5.1.1) (r6.1.2.1) ((0:Int)) (r0.1.1) (r1.1.1))))) (some ((false,()),())))
noncomputable def st4_L14 (n:Nat) (lL14:Int→Int→Int→(List NT)→(List NT)→Option R4) (x0:Int) (x1:Int) (x2:Int) (x3:List NT) (x4:List NT):Option R4 :=
 cond (decide (x2 < (↑x3.length:Int))) (cond (!decide (x2=x0)) (cond (decide ((0:Int)≤x2)) (cond (decide (x2 < (↑x3.length:Int))) (cond (decide ((0:Int)≤x2)) (cond (decide (x2 < (↑x4.length:Int))) (cond (!ByteArray.toList (x3.getD x2.toNat ZN).2.2.2.2.2.2.2.1 == ByteArray.toList (x4.getD x2.toNat ZN).2.2.2.2.2.2.2.1) (some ((false,()),())) (lL14 (x0) (x1) (Go.IntKind.i64.wrap (x2 + (1:Int))) (x3) (x4))) (none)) (none)) (none)) (none)) (lL14 (x0) (x1) (Go.IntKind.i64.wrap (x2 + (1:Int))) (x3) (x4))) (cond (decide ((0:Int)≤x0)) (cond (decide (x0 < (↑x3.length:Int))) (cond (decide ((x3.getD x0.toNat ZN).2.2.2.2.1=(1:Int))) (cond (decide ((0:Int)≤x0)) (cond (decide (x0 < (↑x3.length:Int))) ((q19 n (x4,())).bind fun r8=>cond (r8.1.1) (cond (decide (x1=(2:Int))) (cond (decide ((0:Int)≤x0)) (cond (decide (x0 < (↑x4.length:Int))) (some ((decide ((x4.getD x0.toNat ZN).1=(0:Int)) == decide ((x3.getD x0.toNat ZN).2.2.2.2.2.1=(0:Int)),()),())) (none)) (none)) (some ((false,()),()))) (some ((false,()),()))) (none)) (none)) ((q19 n (x4,())).bind fun r9=>cond (r9.1.1) (cond (decide (x1=(2:Int))) (cond (decide ((0:Int)≤x0)) (cond (decide (x0 < (↑x4.length:Int))) (some ((decide ((x4.getD x0.toNat ZN).1=(0:Int)) == false,()),())) (none)) (none)) (some ((false,()),()))) (some ((false,()),())))) (none)) (none))
noncomputable def p4_L14 (n:Nat):Nat→Int→Int→Int→(List NT)→(List NT)→Option R4
 | 0,_,_,_,_,_=>none
 | m + 1,x0,x1,x2,x3,x4=>st4_L14 n (p4_L14 n m) x0 x1 x2 x3 x4
noncomputable def p4 (n:Nat) (a:List Int):Option R4:=st4_top n (p4_L14 n n) a
end Go.Proofs.Ytbjgiioppmkpiaa.Rx.S

namespace Go.Proofs.Ytbjgiioppmkpiaa.Rx.S
open Go Go.RowKit Go.Proofs
set_option maxRecDepth 100000
noncomputable def c12:Code:=(Try.f12.body.getD .skip)
def an12:An:=⟨fun _=>⟨[],[]⟩,fun _ _=>none⟩
abbrev ps12:List PK:=[.val (.row 5 (.int .u8)) false]
abbrev rs12:List RK:=[.val .bool false]
abbrev R12:=retsD rs12 × outsD ps12
noncomputable def G12:Gam:=fun f=>match f with | 18=>some Sm18 | 19=>some Sm19 | 21=>some Sm21 | 23=>some Sm23 | 52=>some Sm52 | 53=>some Sm53 | 54=>some Sm54 | _=>none
theorem h0_12 (hg:GamOK Try.prog G12):Holds Try.prog 12 ⟨ps12,rs12,false,runF TT G12 an12 Try.f12 c12 ps12 rs12⟩:=holds_of tt_ok hg mixed Try.func12 (by kernel_rfl) (by rfl) (by decide +kernel)
noncomputable def st12_top (n:Nat) (a:List Int):Option R12 :=
 cond (decide ((1048576:Int) < (↑a.length:Int))) (some ((true,()),())) ((q52 n (a,())).bind fun r0=>(q53 n (r0.1.1,(r0.1.2.1.1,r0.1.2.1.2.1,r0.1.2.1.2.2),r0.1.2.2.1,r0.1.2.2.2.1,r0.1.2.2.2.2.1,())).bind fun r1=>(q54 n (r0.1.1,(r0.1.2.1.1,r0.1.2.1.2.1,r0.1.2.1.2.2),r0.1.2.2.1,r0.1.2.2.2.1,r0.1.2.2.2.2.1,())).bind fun r2=>(q18 n (r1.1.1,r2.1.1,())).bind fun r3=>cond (r3.1.1) (cond (!decide (r1.1.2.1=r2.1.2.1)) (some ((decide (r1.1.2.1=r2.1.2.1),()),())) (cond (!!decide (r1.1.2.1=(1:Int))) (some ((decide (r1.1.2.1=r2.1.2.1),()),())) (cond (!decide (r1.1.2.1=(0:Int))) ((q18 n (r0.1.1,r1.1.1,())).bind fun r4=>some ((r4.1.1,()),())) ((q23 n (r1.1.1,(r0.1.2.1.1,r0.1.2.1.2.1,r0.1.2.1.2.2),r0.1.2.2.2.1,r0.1.2.2.2.2.1,())).bind fun r5=>(q21 n (r1.1.1,(r0.1.2.1.1,r0.1.2.1.2.1,r0.1.2.1.2.2),r0.1.2.2.2.1,r0.1.2.2.2.2.1,())).bind fun r6=>(q19 n (r1.1.1,())).bind fun r7=>cond (r7.1.1) (cond (decide (r5.1.2.1=(0:Int))) (cond (decide (r5.1.1=r0.1.2.2.1)) (cond (decide ((0:Int)≤r0.1.2.2.1)) (cond (decide (r0.1.2.2.1 < (↑(List.length r1.1.1):Int))) (cond (decide ((0:Int)≤r0.1.2.2.1)) (cond (decide (r0.1.2.2.1 < (↑(List.length r0.1.1):Int))) (cond (decide ((List.getD r1.1.1 (Int.toNat r0.1.2.2.1) ZN).2.2.2.2.1=Go.IntKind.i64.wrap ((List.getD r0.1.1 (Int.toNat r0.1.2.2.1) ZN).2.2.2.2.1 + (1:Int)))) (cond (decide (r6.1.2.1=(0:Int))) ((q18 n (r6.1.1,r0.1.1,())).bind fun r8=>cond (r8.1.1) (some ((true,()),())) (cond (decide ((0:Int)≤r0.1.2.2.1)) (cond (decide (r0.1.2.2.1 < (↑(List.length r0.1.1):Int))) (some ((decide ((List.getD r0.1.1 (Int.toNat r0.1.2.2.1) ZN).2.2.2.2.1=(0:Int)),()),())) (none)) (none))) (some ((false,()),()))) (some ((false,()),()))) (none)) (none)) (none)) (none)) (some ((false,()),()))) (some ((false,()),()))) (some ((false,()),())))))) (some ((false,()),())))
theorem e12_top (n:Nat) (a:List Int):runF TT G12 an12 Try.f12 c12 ps12 rs12 n (a,())=st12_top n a:=by kernel_rfl
noncomputable def p12 (n:Nat) (a:List Int):Option R12:=st12_top n a
theorem F12_eq (n:Nat) (a:List Int):runF TT G12 an12 Try.f12 c12 ps12 rs12 n (a,())=p12 n a:=by
 rw [e12_top]
 skip
 try rfl
noncomputable def q12 (n:Nat) (x:argsD ps12):Option R12:=p12 n x.1
noncomputable def Sm12:Sm:=⟨ps12,rs12,false,q12⟩
theorem holds12 (hg:GamOK Try.prog G12):Holds Try.prog 12 Sm12:=by
 have:=h0_12 hg
 have e:(runF TT G12 an12 Try.f12 c12 ps12 rs12)=q12:=by
  funext n x
  exact F12_eq n x.1
 rw [e] at this
 exact this
theorem gam12:GamOK Try.prog G12:=by
 intro f s h
 unfold G12 at h
 split at h
 ·injection h with h; subst h; exact ⟨⟨Try.f18,c18,Try.func18,by kernel_rfl,by decide +kernel⟩,hh18⟩
 ·injection h with h; subst h; exact ⟨⟨Try.f19,c19,Try.func19,by kernel_rfl,by decide +kernel⟩,hh19⟩
 ·injection h with h; subst h; exact ⟨⟨Try.f21,c21,Try.func21,by kernel_rfl,by decide +kernel⟩,hh21⟩
 ·injection h with h; subst h; exact ⟨⟨Try.f23,c23,Try.func23,by kernel_rfl,by decide +kernel⟩,hh23⟩
 ·injection h with h; subst h; exact ⟨⟨Try.f52,c52,Try.func52,by kernel_rfl,by decide +kernel⟩,hh52⟩
 ·injection h with h; subst h; exact ⟨⟨Try.f53,c53,Try.func53,by kernel_rfl,by decide +kernel⟩,hh53⟩
 ·injection h with h; subst h; exact ⟨⟨Try.f54,c54,Try.func54,by kernel_rfl,by decide +kernel⟩,hh54⟩
 ·cases h
theorem hh12:Holds Try.prog 12 Sm12:=holds12 gam12
end Go.Proofs.Ytbjgiioppmkpiaa.Rx.S

