/- What the functions of this seat compute, each as a plain function on lists and numbers, with the proof that a call answers so. No condition. -/
import Derived.Test.YthhopbicmaipgaaHF1
set_option linter.unusedVariables false
set_option linter.unusedSimpArgs false
namespace Go.Proofs.Ythhopbicmaipgaa.Rx.S
open Go Go.RowKit Go.Proofs
set_option maxRecDepth 100000
noncomputable def c16:Code:=(Try.f16.body.getD .skip)
def an16:An:=⟨fun _=>⟨[],[]⟩,fun _ _=>none⟩
abbrev ps16:List PK:=[.val tFs true,.val tCr true,.val i64 false,.val .str false,.val i64 false,.val i64 false]
abbrev rs16:List RK:=[.own tFs true,.val i64 false,.val i64 false]
abbrev R16:=retsD rs16 × outsD ps16
noncomputable def G16:Gam:=fun f=>match f with | 53=>some Sm53 | 54=>some Sm54 | 55=>some Sm55 | 56=>some Sm56 | 57=>some Sm57 | 59=>some Sm59 | 60=>some Sm60 | 61=>some Sm61 | _=>none
theorem h0_16 (hg:GamOK Try.prog G16):Holds Try.prog 16 ⟨ps16,rs16,false,runF TT G16 an16 Try.f16 c16 ps16 rs16⟩:=holds_of tt_ok hg mixed Try.func16 (by kernel_rfl) (by rfl) (by decide +kernel)
noncomputable def st16_top (n:Nat) (a:List NT) (b:Int × Int × List Int) (c:Int) (d:ByteArray) (e:Int) (f:Int):Option R16 :=
 (q53 n (a,(b.1,b.2.1,b.2.2),[c],())).bind fun r0=>cond (!r0.1.1) (some (([],((-1:Int),((1:Int),()))),())) ((q54 n (d,())).bind fun r1=>cond (!r1.1.1) (some (([],((-1:Int),((1:Int),()))),())) ((q55 n (e,(1:Int),(2:Int),())).bind fun r2=>cond (!r2.1.1) (some (([],((-1:Int),((1:Int),()))),())) ((q55 n (f,(0:Int),(511:Int),())).bind fun r3=>cond (!r3.1.1) (some (([],((-1:Int),((1:Int),()))),())) ((q56 n (a,())).bind fun r4=>cond (decide ((0:Int)≤c)) (cond (decide (c < (↑a.length:Int))) ((q57 n (a,(),())).bind fun r5=>(q59 n (((a.getD c.toNat ZN).1,(a.getD c.toNat ZN).2.1,(a.getD c.toNat ZN).2.2.1,(a.getD c.toNat ZN).2.2.2.1,(a.getD c.toNat ZN).2.2.2.2.1,(a.getD c.toNat ZN).2.2.2.2.2.1,(a.getD c.toNat ZN).2.2.2.2.2.2.1,(a.getD c.toNat ZN).2.2.2.2.2.2.2.1,(a.getD c.toNat ZN).2.2.2.2.2.2.2.2),d,())).bind fun r6=>cond (!decide ((a.getD c.toNat ZN).1=(2:Int))) (some ((r4.1.1,((-1:Int),((4:Int),()))),())) ((q60 n (((a.getD c.toNat ZN).1,(a.getD c.toNat ZN).2.1,(a.getD c.toNat ZN).2.2.1,(a.getD c.toNat ZN).2.2.2.1,(a.getD c.toNat ZN).2.2.2.2.1,(a.getD c.toNat ZN).2.2.2.2.2.1,(a.getD c.toNat ZN).2.2.2.2.2.2.1,(a.getD c.toNat ZN).2.2.2.2.2.2.2.1,(a.getD c.toNat ZN).2.2.2.2.2.2.2.2),(b.1,b.2.1,b.2.2),(3:Int),())).bind fun r7=>cond (!r7.1.1) (some ((r4.1.1,((-1:Int),((5:Int),()))),())) (cond (r6.1.2.1) (some ((r4.1.1,((-1:Int),((3:Int),()))),())) (cond (decide (r5.1.1 < (0:Int))) (some ((r4.1.1,((-1:Int),((7:Int),()))),())) (cond (decide ((↑(List.length (a.getD c.toNat ZN).2.2.2.2.2.2.2.2):Int)=(6:Int))) (some ((r4.1.1,((-1:Int),((7:Int),()))),())) (cond (decide ((0:Int) < (↑(List.length b.2.2):Int))) (cond (decide ((0:Int) < (↑(List.length b.2.2):Int))) (cond (decide ((0:Int)≤r5.1.1)) (cond (decide (r5.1.1 < (↑(List.length r4.1.1):Int))) ((q61 n (List.set r4.1.1 (Int.toNat r5.1.1) (e,f,b.1,List.getD b.2.2 (Int.toNat (0:Int)) (0:Int),(0:Int),(0:Int),false,ByteArray.empty,[]),c,d,r5.1.1,())).bind fun r8=>some ((r8.2.1,(r5.1.1,((0:Int),()))),())) (none)) (none)) (none)) (cond (decide ((0:Int)≤r5.1.1)) (cond (decide (r5.1.1 < (↑(List.length r4.1.1):Int))) ((q61 n (List.set r4.1.1 (Int.toNat r5.1.1) (e,f,b.1,b.1,(0:Int),(0:Int),false,ByteArray.empty,[]),c,d,r5.1.1,())).bind fun r9=>some ((r9.2.1,(r5.1.1,((0:Int),()))),())) (none)) (none)))))))) (none)) (none)))))
theorem e16_top (n:Nat) (a:List NT) (b:Int × Int × List Int) (c:Int) (d:ByteArray) (e:Int) (f:Int):runF TT G16 an16 Try.f16 c16 ps16 rs16 n (a,b,c,d,e,f,())=st16_top n a b c d e f:=by kernel_rfl
noncomputable def p16 (n:Nat) (a:List NT) (b:Int × Int × List Int) (c:Int) (d:ByteArray) (e:Int) (f:Int):Option R16:=st16_top n a b c d e f
theorem F16_eq (n:Nat) (a:List NT) (b:Int × Int × List Int) (c:Int) (d:ByteArray) (e:Int) (f:Int):runF TT G16 an16 Try.f16 c16 ps16 rs16 n (a,b,c,d,e,f,())=p16 n a b c d e f:=by
 rw [e16_top]
 skip
 try rfl
noncomputable def q16 (n:Nat) (x:argsD ps16):Option R16:=p16 n x.1 x.2.1 x.2.2.1 x.2.2.2.1 x.2.2.2.2.1 x.2.2.2.2.2.1
noncomputable def Sm16:Sm:=⟨ps16,rs16,false,q16⟩
theorem holds16 (hg:GamOK Try.prog G16):Holds Try.prog 16 Sm16:=by
 have:=h0_16 hg
 have e:(runF TT G16 an16 Try.f16 c16 ps16 rs16)=q16:=by
  funext n x
  exact F16_eq n x.1 x.2.1 x.2.2.1 x.2.2.2.1 x.2.2.2.2.1 x.2.2.2.2.2.1
 rw [e] at this
 exact this
theorem gam16:GamOK Try.prog G16:=by
 intro f s h
 unfold G16 at h
 split at h
 ·injection h with h; subst h; exact ⟨⟨Try.f53,c53,Try.func53,by kernel_rfl,by decide +kernel⟩,hh53⟩
 ·injection h with h; subst h; exact ⟨⟨Try.f54,c54,Try.func54,by kernel_rfl,by decide +kernel⟩,hh54⟩
 ·injection h with h; subst h; exact ⟨⟨Try.f55,c55,Try.func55,by kernel_rfl,by decide +kernel⟩,hh55⟩
 ·injection h with h; subst h; exact ⟨⟨Try.f56,c56,Try.func56,by kernel_rfl,by decide +kernel⟩,hh56⟩
 ·injection h with h; subst h; exact ⟨⟨Try.f57,c57,Try.func57,by kernel_rfl,by decide +kernel⟩,hh57⟩
 ·injection h with h; subst h; exact ⟨⟨Try.f59,c59,Try.func59,by kernel_rfl,by decide +kernel⟩,hh59⟩
 ·injection h with h; subst h; exact ⟨⟨Try.f60,c60,Try.func60,by kernel_rfl,by decide +kernel⟩,hh60⟩
 ·injection h with h; subst h; exact ⟨⟨Try.f61,c61,Try.func61,by kernel_rfl,by decide +kernel⟩,hh61⟩
 ·cases h
theorem hh16:Holds Try.prog 16 Sm16:=holds16 gam16
end Go.Proofs.Ythhopbicmaipgaa.Rx.S

namespace Go.Proofs.Ythhopbicmaipgaa.Rx.S
open Go Go.RowKit Go.Proofs
set_option maxRecDepth 100000
noncomputable def c17:Code:=(Try.f17.body.getD .skip)
def an17:An:=⟨fun _=>⟨[],[]⟩,fun _ _=>none⟩
abbrev ps17:List PK:=[.val tFs true,.val tCr true,.val i64 false,.val .str false,.val i64 false,.val i64 false]
abbrev rs17:List RK:=[.own tFs true,.val i64 false,.val i64 false]
abbrev R17:=retsD rs17 × outsD ps17
noncomputable def G17:Gam:=fun f=>match f with | 62=>some Sm62 | 63=>some Sm63 | 64=>some Sm64 | 65=>some Sm65 | 66=>some Sm66 | 67=>some Sm67 | 68=>some Sm68 | _=>none
theorem h0_17 (hg:GamOK Try.prog G17):Holds Try.prog 17 ⟨ps17,rs17,false,runF TT G17 an17 Try.f17 c17 ps17 rs17⟩:=holds_of tt_ok hg mixed Try.func17 (by kernel_rfl) (by rfl) (by decide +kernel)
noncomputable def st17_top (n:Nat) (a:List NT) (b:Int × Int × List Int) (c:Int) (d:ByteArray) (e:Int) (f:Int):Option R17 :=
 (q62 n (a,())).bind fun r0=>cond (!r0.1.1) (some (([],((-1:Int),((1:Int),()))),())) ((q63 n ((b.1,b.2.1,b.2.2),())).bind fun r1=>cond (!r1.1.1) (some (([],((-1:Int),((1:Int),()))),())) ((q64 n (a,c,())).bind fun r2=>cond (!r2.1.1) (some (([],((-1:Int),((1:Int),()))),())) ((q65 n (d,())).bind fun r3=>cond (!r3.1.1) (some (([],((-1:Int),((1:Int),()))),())) ((q66 n (e,(1:Int),(2:Int),())).bind fun r4=>cond (!r4.1.1) (some (([],((-1:Int),((1:Int),()))),())) ((q66 n (f,(0:Int),(511:Int),())).bind fun r5=>cond (!r5.1.1) (some (([],((-1:Int),((1:Int),()))),())) ((q68 n (a,())).bind fun r6=>(q67 n (r6.1.1,(b.1,b.2.1,b.2.2),c,d,e,f,())).bind fun r7=>some ((r7.1.1,(r7.1.2.1,(r7.1.2.2.1,()))),())))))))
theorem e17_top (n:Nat) (a:List NT) (b:Int × Int × List Int) (c:Int) (d:ByteArray) (e:Int) (f:Int):runF TT G17 an17 Try.f17 c17 ps17 rs17 n (a,b,c,d,e,f,())=st17_top n a b c d e f:=by kernel_rfl
noncomputable def p17 (n:Nat) (a:List NT) (b:Int × Int × List Int) (c:Int) (d:ByteArray) (e:Int) (f:Int):Option R17:=st17_top n a b c d e f
theorem F17_eq (n:Nat) (a:List NT) (b:Int × Int × List Int) (c:Int) (d:ByteArray) (e:Int) (f:Int):runF TT G17 an17 Try.f17 c17 ps17 rs17 n (a,b,c,d,e,f,())=p17 n a b c d e f:=by
 rw [e17_top]
 skip
 try rfl
noncomputable def q17 (n:Nat) (x:argsD ps17):Option R17:=p17 n x.1 x.2.1 x.2.2.1 x.2.2.2.1 x.2.2.2.2.1 x.2.2.2.2.2.1
noncomputable def Sm17:Sm:=⟨ps17,rs17,false,q17⟩
theorem holds17 (hg:GamOK Try.prog G17):Holds Try.prog 17 Sm17:=by
 have:=h0_17 hg
 have e:(runF TT G17 an17 Try.f17 c17 ps17 rs17)=q17:=by
  funext n x
  exact F17_eq n x.1 x.2.1 x.2.2.1 x.2.2.2.1 x.2.2.2.2.1 x.2.2.2.2.2.1
 rw [e] at this
 exact this
theorem gam17:GamOK Try.prog G17:=by
 intro f s h
 unfold G17 at h
 split at h
 ·injection h with h; subst h; exact ⟨⟨Try.f62,c62,Try.func62,by kernel_rfl,by decide +kernel⟩,hh62⟩
 ·injection h with h; subst h; exact ⟨⟨Try.f63,c63,Try.func63,by kernel_rfl,by decide +kernel⟩,hh63⟩
 ·injection h with h; subst h; exact ⟨⟨Try.f64,c64,Try.func64,by kernel_rfl,by decide +kernel⟩,hh64⟩
 ·injection h with h; subst h; exact ⟨⟨Try.f65,c65,Try.func65,by kernel_rfl,by decide +kernel⟩,hh65⟩
 ·injection h with h; subst h; exact ⟨⟨Try.f66,c66,Try.func66,by kernel_rfl,by decide +kernel⟩,hh66⟩
 ·injection h with h; subst h; exact ⟨⟨Try.f67,c67,Try.func67,by kernel_rfl,by decide +kernel⟩,hh67⟩
 ·injection h with h; subst h; exact ⟨⟨Try.f68,c68,Try.func68,by kernel_rfl,by decide +kernel⟩,hh68⟩
 ·cases h
theorem hh17:Holds Try.prog 17 Sm17:=holds17 gam17
end Go.Proofs.Ythhopbicmaipgaa.Rx.S

namespace Go.Proofs.Ythhopbicmaipgaa.Rx.S
open Go Go.RowKit Go.Proofs
set_option maxRecDepth 100000
abbrev ps19:List PK:=[.val tFs true,.val tCr true,.val i64 false,.val i64 false,.val .str false]
abbrev rs19:List RK:=[.own tFs true,.val i64 false]
abbrev R19:=retsD rs19 × outsD ps19
noncomputable def st19_top (n:Nat) (a:List NT) (b:Int × Int × List Int) (c:Int) (d:Int) (e:ByteArray):Option R19 :=
 (q53 n (a,(b.1,b.2.1,b.2.2),[c,d],())).bind fun r0=>cond (!r0.1.1) (some (([],((1:Int),())),())) ((q54 n (e,())).bind fun r1=>cond (!r1.1.1) (some (([],((1:Int),())),())) ((q56 n (a,())).bind fun r2=>cond (decide ((0:Int)≤d)) (cond (decide (d < (↑a.length:Int))) ((q59 n (((a.getD d.toNat ZN).1,(a.getD d.toNat ZN).2.1,(a.getD d.toNat ZN).2.2.1,(a.getD d.toNat ZN).2.2.2.1,(a.getD d.toNat ZN).2.2.2.2.1,(a.getD d.toNat ZN).2.2.2.2.2.1,(a.getD d.toNat ZN).2.2.2.2.2.2.1,(a.getD d.toNat ZN).2.2.2.2.2.2.2.1,(a.getD d.toNat ZN).2.2.2.2.2.2.2.2),e,())).bind fun r3=>cond (decide ((0:Int)≤c)) (cond (decide (c < (↑a.length:Int))) (cond (!decide ((a.getD c.toNat ZN).1=(1:Int))) (some ((r2.1.1,((4:Int),())),())) (cond (!decide ((a.getD d.toNat ZN).1=(2:Int))) (some ((r2.1.1,((4:Int),())),())) ((q60 n (((a.getD d.toNat ZN).1,(a.getD d.toNat ZN).2.1,(a.getD d.toNat ZN).2.2.1,(a.getD d.toNat ZN).2.2.2.1,(a.getD d.toNat ZN).2.2.2.2.1,(a.getD d.toNat ZN).2.2.2.2.2.1,(a.getD d.toNat ZN).2.2.2.2.2.2.1,(a.getD d.toNat ZN).2.2.2.2.2.2.2.1,(a.getD d.toNat ZN).2.2.2.2.2.2.2.2),(b.1,b.2.1,b.2.2),(3:Int),())).bind fun r4=>cond (!r4.1.1) (some ((r2.1.1,((5:Int),())),())) (cond (r3.1.2.1) (some ((r2.1.1,((3:Int),())),())) (cond (decide ((↑(List.length (a.getD d.toNat ZN).2.2.2.2.2.2.2.2):Int)=(6:Int))) (some ((r2.1.1,((7:Int),())),())) (cond (decide ((0:Int)≤c)) (cond (decide (c < (↑a.length:Int))) (cond (decide ((a.getD c.toNat ZN).2.2.2.2.1=(99:Int))) (some ((r2.1.1,((7:Int),())),())) ((q61 n (r2.1.1,d,e,c,())).bind fun r5=>some ((r5.2.1,((0:Int),())),()))) (none)) (none))))))) (none)) (none)) (none)) (none)))
noncomputable def p19 (n:Nat) (a:List NT) (b:Int × Int × List Int) (c:Int) (d:Int) (e:ByteArray):Option R19:=st19_top n a b c d e
noncomputable def q19 (n:Nat) (x:argsD ps19):Option R19:=p19 n x.1 x.2.1 x.2.2.1 x.2.2.2.1 x.2.2.2.2.1
end Go.Proofs.Ythhopbicmaipgaa.Rx.S

namespace Go.Proofs.Ythhopbicmaipgaa.Rx.S
open Go Go.RowKit Go.Proofs
set_option maxRecDepth 100000
abbrev ps20:List PK:=[.val tFs true,.val tCr true,.val i64 false,.val .str false]
abbrev rs20:List RK:=[.own tFs true,.val i64 false]
abbrev R20:=retsD rs20 × outsD ps20
noncomputable def st20_top (n:Nat) (a:List NT) (b:Int × Int × List Int) (c:Int) (d:ByteArray):Option R20 :=
 (q53 n (a,(b.1,b.2.1,b.2.2),[c],())).bind fun r0=>cond (!r0.1.1) (some (([],((1:Int),())),())) ((q54 n (d,())).bind fun r1=>cond (!r1.1.1) (some (([],((1:Int),())),())) ((q56 n (a,())).bind fun r2=>cond (decide ((0:Int)≤c)) (cond (decide (c < (↑a.length:Int))) (cond (!decide ((a.getD c.toNat ZN).1=(2:Int))) (some ((r2.1.1,((4:Int),())),())) ((q60 n (((a.getD c.toNat ZN).1,(a.getD c.toNat ZN).2.1,(a.getD c.toNat ZN).2.2.1,(a.getD c.toNat ZN).2.2.2.1,(a.getD c.toNat ZN).2.2.2.2.1,(a.getD c.toNat ZN).2.2.2.2.2.1,(a.getD c.toNat ZN).2.2.2.2.2.2.1,(a.getD c.toNat ZN).2.2.2.2.2.2.2.1,(a.getD c.toNat ZN).2.2.2.2.2.2.2.2),(b.1,b.2.1,b.2.2),(3:Int),())).bind fun r3=>cond (!r3.1.1) (some ((r2.1.1,((5:Int),())),())) ((q59 n (((a.getD c.toNat ZN).1,(a.getD c.toNat ZN).2.1,(a.getD c.toNat ZN).2.2.1,(a.getD c.toNat ZN).2.2.2.1,(a.getD c.toNat ZN).2.2.2.2.1,(a.getD c.toNat ZN).2.2.2.2.2.1,(a.getD c.toNat ZN).2.2.2.2.2.2.1,(a.getD c.toNat ZN).2.2.2.2.2.2.2.1,(a.getD c.toNat ZN).2.2.2.2.2.2.2.2),d,())).bind fun r4=>cond (!r4.1.2.1) (some ((r2.1.1,((2:Int),())),())) (cond (decide ((0:Int)≤r4.1.1)) (cond (decide (r4.1.1 < (↑(List.length (a.getD c.toNat ZN).2.2.2.2.2.2.2.2):Int))) (cond (decide ((0:Int)≤(List.getD (a.getD c.toNat ZN).2.2.2.2.2.2.2.2 (Int.toNat r4.1.1) (ByteArray.empty,(0:Int))).2)) (cond (decide ((List.getD (a.getD c.toNat ZN).2.2.2.2.2.2.2.2 (Int.toNat r4.1.1) (ByteArray.empty,(0:Int))).2 < (↑a.length:Int))) (cond (decide ((a.getD (Int.toNat (List.getD (a.getD c.toNat ZN).2.2.2.2.2.2.2.2 (Int.toNat r4.1.1) (ByteArray.empty,(0:Int))).2) ZN).1=(2:Int))) (cond (decide ((0:Int) < (↑(List.length (a.getD (Int.toNat (List.getD (a.getD c.toNat ZN).2.2.2.2.2.2.2.2 (Int.toNat r4.1.1) (ByteArray.empty,(0:Int))).2) ZN).2.2.2.2.2.2.2.2):Int))) (some ((r2.1.1,((6:Int),())),())) (cond (decide ((0:Int) < (a.getD (Int.toNat (List.getD (a.getD c.toNat ZN).2.2.2.2.2.2.2.2 (Int.toNat r4.1.1) (ByteArray.empty,(0:Int))).2) ZN).2.2.2.2.2.1)) (some ((r2.1.1,((6:Int),())),())) ((q71 n (r2.1.1,c,d,())).bind fun r5=>(q70 n (r5.2.1,r5.1.1,())).bind fun r6=>some ((r6.2.1,((0:Int),())),())))) ((q71 n (r2.1.1,c,d,())).bind fun r7=>(q70 n (r7.2.1,r7.1.1,())).bind fun r8=>some ((r8.2.1,((0:Int),())),()))) (none)) (none)) (none)) (none))))) (none)) (none)))
noncomputable def p20 (n:Nat) (a:List NT) (b:Int × Int × List Int) (c:Int) (d:ByteArray):Option R20:=st20_top n a b c d
noncomputable def q20 (n:Nat) (x:argsD ps20):Option R20:=p20 n x.1 x.2.1 x.2.2.1 x.2.2.2.1
end Go.Proofs.Ythhopbicmaipgaa.Rx.S

namespace Go.Proofs.Ythhopbicmaipgaa.Rx.S
open Go Go.RowKit Go.Proofs
set_option maxRecDepth 100000
abbrev ps69:List PK:=[.val (tIn 95) true,.val (tIn 95) true]
abbrev rs69:List RK:=[.val .bool false]
abbrev R69:=retsD rs69 × outsD ps69
noncomputable def st69_top (n:Nat) (lL4:Int→Int→Int→Int→Int→Int→Int→Bool→ByteArray→(List (ByteArray × Int))→Int→Int→Int→Int→Int→Int→Bool→ByteArray→(List (ByteArray × Int))→Option R69) (a:NT) (b:NT):Option R69 :=
 cond (!decide (a.1=b.1)) (some ((false,()),())) (cond (!decide (a.2.1=b.2.1)) (some ((false,()),())) (cond (!decide (a.2.2.1=b.2.2.1)) (some ((false,()),())) (cond (!decide (a.2.2.2.1=b.2.2.2.1)) (some ((false,()),())) (cond (!decide (a.2.2.2.2.1=b.2.2.2.2.1)) (some ((false,()),())) (cond (!decide (a.2.2.2.2.2.1=b.2.2.2.2.2.1)) (some ((false,()),())) (cond (!a.2.2.2.2.2.2.1 == b.2.2.2.2.2.2.1) (some ((false,()),())) (cond (!ByteArray.toList a.2.2.2.2.2.2.2.1 == ByteArray.toList b.2.2.2.2.2.2.2.1) (some ((false,()),())) (cond (!decide ((↑(List.length a.2.2.2.2.2.2.2.2):Int)=(↑(List.length b.2.2.2.2.2.2.2.2):Int))) (some ((false,()),())) (lL4 ((0:Int)) (a.1) (a.2.1) (a.2.2.1) (a.2.2.2.1) (a.2.2.2.2.1) (a.2.2.2.2.2.1) (a.2.2.2.2.2.2.1) (a.2.2.2.2.2.2.2.1) (a.2.2.2.2.2.2.2.2) (b.1) (b.2.1) (b.2.2.1) (b.2.2.2.1) (b.2.2.2.2.1) (b.2.2.2.2.2.1) (b.2.2.2.2.2.2.1) (b.2.2.2.2.2.2.2.1) (b.2.2.2.2.2.2.2.2))))))))))
noncomputable def st69_L4 (n:Nat) (lL4:Int→Int→Int→Int→Int→Int→Int→Bool→ByteArray→(List (ByteArray × Int))→Int→Int→Int→Int→Int→Int→Bool→ByteArray→(List (ByteArray × Int))→Option R69) (x0:Int) (x1:Int) (x2:Int) (x3:Int) (x4:Int) (x5:Int) (x6:Int) (x7:Bool) (x8:ByteArray) (x9:List (ByteArray × Int)) (x10:Int) (x11:Int) (x12:Int) (x13:Int) (x14:Int) (x15:Int) (x16:Bool) (x17:ByteArray) (x18:List (ByteArray × Int)):Option R69 :=
 cond (decide (x0 < (↑x9.length:Int))) (cond (decide ((0:Int)≤x0)) (cond (decide (x0 < (↑x9.length:Int))) (cond (decide ((0:Int)≤x0)) (cond (decide (x0 < (↑x18.length:Int))) (cond (!(ByteArray.toList (x9.getD x0.toNat (ByteArray.empty,(0:Int))).1 == ByteArray.toList (x18.getD x0.toNat (ByteArray.empty,(0:Int))).1&&(decide ((x9.getD x0.toNat (ByteArray.empty,(0:Int))).2=(x18.getD x0.toNat (ByteArray.empty,(0:Int))).2)&&true))) (some ((false,()),())) (lL4 (Go.IntKind.i64.wrap (x0 + (1:Int))) (x1) (x2) (x3) (x4) (x5) (x6) (x7) (x8) (x9) (x10) (x11) (x12) (x13) (x14) (x15) (x16) (x17) (x18))) (none)) (none)) (none)) (none)) (some ((true,()),()))
noncomputable def p69_L4 (n:Nat):Nat→Int→Int→Int→Int→Int→Int→Int→Bool→ByteArray→(List (ByteArray × Int))→Int→Int→Int→Int→Int→Int→Bool→ByteArray→(List (ByteArray × Int))→Option R69
 | 0,_,_,_,_,_,_,_,_,_,_,_,_,_,_,_,_,_,_,_=>none
 | m + 1,x0,x1,x2,x3,x4,x5,x6,x7,x8,x9,x10,x11,x12,x13,x14,x15,x16,x17,x18=>st69_L4 n (p69_L4 n m) x0 x1 x2 x3 x4 x5 x6 x7 x8 x9 x10 x11 x12 x13 x14 x15 x16 x17 x18
noncomputable def p69 (n:Nat) (a:NT) (b:NT):Option R69:=st69_top n (p69_L4 n n) a b
noncomputable def q69 (n:Nat) (x:argsD ps69):Option R69:=p69 n x.1 x.2.1
end Go.Proofs.Ythhopbicmaipgaa.Rx.S

namespace Go.Proofs.Ythhopbicmaipgaa.Rx.S
open Go Go.RowKit Go.Proofs
set_option maxRecDepth 100000
abbrev ps18:List PK:=[.val tFs true,.val tFs true]
abbrev rs18:List RK:=[.val .bool false]
abbrev R18:=retsD rs18 × outsD ps18
noncomputable def st18_top (n:Nat) (lL4:Int→(List NT)→(List NT)→Option R18) (a:List NT) (b:List NT):Option R18 :=
 cond (!decide ((↑a.length:Int)=(↑b.length:Int))) (some ((false,()),())) (lL4 ((0:Int)) (a) (b))
noncomputable def st18_L4 (n:Nat) (lL4:Int→(List NT)→(List NT)→Option R18) (x0:Int) (x1:List NT) (x2:List NT):Option R18 :=
 cond (decide (x0 < (↑x1.length:Int))) (cond (decide ((0:Int)≤x0)) (cond (decide (x0 < (↑x1.length:Int))) (cond (decide ((0:Int)≤x0)) (cond (decide (x0 < (↑x2.length:Int))) ((q69 n (((x1.getD x0.toNat ZN).1,(x1.getD x0.toNat ZN).2.1,(x1.getD x0.toNat ZN).2.2.1,(x1.getD x0.toNat ZN).2.2.2.1,(x1.getD x0.toNat ZN).2.2.2.2.1,(x1.getD x0.toNat ZN).2.2.2.2.2.1,(x1.getD x0.toNat ZN).2.2.2.2.2.2.1,(x1.getD x0.toNat ZN).2.2.2.2.2.2.2.1,(x1.getD x0.toNat ZN).2.2.2.2.2.2.2.2),((x2.getD x0.toNat ZN).1,(x2.getD x0.toNat ZN).2.1,(x2.getD x0.toNat ZN).2.2.1,(x2.getD x0.toNat ZN).2.2.2.1,(x2.getD x0.toNat ZN).2.2.2.2.1,(x2.getD x0.toNat ZN).2.2.2.2.2.1,(x2.getD x0.toNat ZN).2.2.2.2.2.2.1,(x2.getD x0.toNat ZN).2.2.2.2.2.2.2.1,(x2.getD x0.toNat ZN).2.2.2.2.2.2.2.2),())).bind fun r1=>cond (!r1.1.1) (some ((false,()),())) (lL4 (Go.IntKind.i64.wrap (x0 + (1:Int))) (x1) (x2))) (none)) (none)) (none)) (none)) (some ((true,()),()))
noncomputable def p18_L4 (n:Nat):Nat→Int→(List NT)→(List NT)→Option R18
 | 0,_,_,_=>none
 | m + 1,x0,x1,x2=>st18_L4 n (p18_L4 n m) x0 x1 x2
noncomputable def p18 (n:Nat) (a:List NT) (b:List NT):Option R18:=st18_top n (p18_L4 n n) a b
noncomputable def q18 (n:Nat) (x:argsD ps18):Option R18:=p18 n x.1 x.2.1
end Go.Proofs.Ythhopbicmaipgaa.Rx.S

namespace Go.Proofs.Ythhopbicmaipgaa.Rx.S
open Go Go.RowKit Go.Proofs
set_option maxRecDepth 100000
abbrev ps52:List PK:=[.bx tRd]
abbrev rs52:List RK:=[.val i64 false]
abbrev R52:=retsD rs52 × outsD ps52
noncomputable def st52_top (n:Nat) (a:List Int × Int):Option R52 :=
 (q51 n ((a.1,a.2),(20:Int),())).bind fun r0=>cond (decide (r0.1.1=(0:Int))) ((q51 n ((r0.2.1.1,r0.2.1.2),(3:Int),())).bind fun r1=>cond (decide ((0:Int)≤r1.1.1)) (cond (decide (r1.1.1 < (↑[(-1:Int),(512:Int),(511:Int)].length:Int))) (some (([(-1:Int),(512:Int),(511:Int)].getD (Int.toNat r1.1.1) (0:Int),()),((r1.2.1.1,r1.2.1.2),()))) (none)) (none)) ((q51 n ((r0.2.1.1,r0.2.1.2),(8:Int),())).bind fun r2=>(q51 n ((r2.2.1.1,r2.2.1.2),(64:Int),())).bind fun r3=>(q51 n ((r3.2.1.1,r3.2.1.2),(8:Int),())).bind fun r4=>(q51 n ((r4.2.1.1,r4.2.1.2),(7:Int),())).bind fun r5=>cond (decide ((0:Int)≤r5.1.1)) (cond (decide (r5.1.1 < (↑[(493:Int),(420:Int),(448:Int),(511:Int),(0:Int),Go.IntKind.i64.wrap (Go.IntKind.i64.wrap (r2.1.1 * (64:Int)) + r3.1.1),Go.IntKind.i64.wrap (r4.1.1 * (73:Int))].length:Int))) (some (([(493:Int),(420:Int),(448:Int),(511:Int),(0:Int),Go.IntKind.i64.wrap (Go.IntKind.i64.wrap (r2.1.1 * (64:Int)) + r3.1.1),Go.IntKind.i64.wrap (r4.1.1 * (73:Int))].getD (Int.toNat r5.1.1) (0:Int),()),((r5.2.1.1,r5.2.1.2),()))) (none)) (none))
noncomputable def p52 (n:Nat) (a:List Int × Int):Option R52:=st52_top n a
noncomputable def q52 (n:Nat) (x:argsD ps52):Option R52:=p52 n x.1
end Go.Proofs.Ythhopbicmaipgaa.Rx.S

namespace Go.Proofs.Ythhopbicmaipgaa.Rx.S
open Go Go.RowKit Go.Proofs
set_option maxRecDepth 100000
abbrev ps15:List PK:=[.val (.row 5 (.int .u8)) false]
abbrev rs15:List RK:=[.ro 39 (tIn 95) true,.own tCr true,.val i64 false,.val .str false,.val i64 false,.val i64 false]
abbrev R15:=retsD rs15 × outsD ps15
noncomputable def st15_top (n:Nat) (a:List Int):Option R15 :=
 (q46 n (a,())).bind fun r0=>(q47 n ((r0.1.1.1,r0.1.1.2),())).bind fun r1=>(q48 n ((r1.2.1.1,r1.2.1.2),())).bind fun r2=>(q49 n ((r2.2.1.1,r2.2.1.2),())).bind fun r3=>(q50 n ((r3.2.1.1,r3.2.1.2),())).bind fun r4=>(q51 n ((r4.2.1.1,r4.2.1.2),(4:Int),())).bind fun r5=>(q52 n ((r5.2.1.1,r5.2.1.2),())).bind fun r6=>some ((r1.1.1,((r2.1.1.1,(r2.1.1.2.1,r2.1.1.2.2)),(r3.1.1,(r4.1.1,(r5.1.1,(r6.1.1,())))))),())
noncomputable def p15 (n:Nat) (a:List Int):Option R15:=st15_top n a
noncomputable def q15 (n:Nat) (x:argsD ps15):Option R15:=p15 n x.1
end Go.Proofs.Ythhopbicmaipgaa.Rx.S

namespace Go.Proofs.Ythhopbicmaipgaa.Rx.S
open Go Go.RowKit Go.Proofs
set_option maxRecDepth 100000
noncomputable def c3:Code:=(Try.f3.body.getD .skip)
abbrev ps3:List PK:=[.val (.row 5 (.int .u8)) false,.val (.row 5 (.int .u8)) false]
abbrev rs3:List RK:=[.val .bool false]
abbrev R3:=retsD rs3 × outsD ps3
noncomputable def st3_top (n:Nat) (lL17:Int→Int→Int→(List NT)→Option R3) (a:List Int) (b:List Int):Option R3 :=
 cond (decide ((1048576:Int) < (↑a.length:Int))) (some ((true,()),())) (cond (decide ((1048576:Int) < (↑b.length:Int))) (some ((true,()),())) ((q15 n (a,())).bind fun r0=>(q16 n (r0.1.1,(r0.1.2.1.1,r0.1.2.1.2.1,r0.1.2.1.2.2),r0.1.2.2.1,r0.1.2.2.2.1,r0.1.2.2.2.2.1,r0.1.2.2.2.2.2.1,())).bind fun r1=>(q17 n (r0.1.1,(r0.1.2.1.1,r0.1.2.1.2.1,r0.1.2.1.2.2),r0.1.2.2.1,r0.1.2.2.2.1,r0.1.2.2.2.2.1,r0.1.2.2.2.2.2.1,())).bind fun r2=>cond (!decide (r1.1.2.2.1=r2.1.2.2.1)) (cond (decide (r1.1.2.2.1=r2.1.2.2.1)) ((q18 n (r1.1.1,r2.1.1,())).bind fun r3=>some ((r3.1.1,()),())) (some ((false,()),()))) ((q18 n (r1.1.1,r2.1.1,())).bind fun r4=>cond (!r4.1.1) (cond (decide (r1.1.2.2.1=r2.1.2.2.1)) ((q18 n (r1.1.1,r2.1.1,())).bind fun r5=>some ((r5.1.1,()),())) (some ((false,()),()))) (cond (decide (r1.1.2.2.1=(1:Int))) (cond (decide (r1.1.2.2.1=r2.1.2.2.1)) ((q18 n (r1.1.1,r2.1.1,())).bind fun r6=>some ((r6.1.1,()),())) (some ((false,()),()))) ((q19 n (r1.1.1,(r0.1.2.1.1,r0.1.2.1.2.1,r0.1.2.1.2.2),Go.IntKind.i64.wrap ((1:Int) + (↑b.length:Int).tmod (5:Int)),r0.1.2.2.1,ByteArray.mk #[(122:UInt8),(122:UInt8)],())).bind fun r7=>cond (decide (r7.1.2.1=(1:Int))) ((q20 n (r1.1.1,(r0.1.2.1.1,r0.1.2.1.2.1,r0.1.2.1.2.2),r0.1.2.2.1,r0.1.2.2.2.1,())).bind fun r8=>cond (decide (r8.1.2.1=(1:Int))) (lL17 ((0:Int)) ((0:Int)) ((0:Int)) (r1.1.1)) (lL17 ((0:Int)) ((0:Int)) ((0:Int)) (r8.1.1))) ((q20 n (r7.1.1,(r0.1.2.1.1,r0.1.2.1.2.1,r0.1.2.1.2.2),r0.1.2.2.1,r0.1.2.2.2.1,())).bind fun r10=>cond (decide (r10.1.2.1=(1:Int))) (lL17 ((0:Int)) ((0:Int)) ((0:Int)) (r7.1.1)) (lL17 ((0:Int)) ((0:Int)) ((0:Int)) (r10.1.1))))))))
noncomputable def st3_L17 (n:Nat) (lL17:Int→Int→Int→(List NT)→Option R3) (x0:Int) (x1:Int) (x2:Int) (x3:List NT):Option R3 :=
 cond (decide (x2 < (↑x3.length:Int))) (cond (decide ((0:Int)≤x2)) (cond (decide (x2 < (↑x3.length:Int))) (cond (decide ((0:Int)≤x2)) (cond (decide (x2 < (↑x3.length:Int))) (lL17 (Go.IntKind.i64.wrap (x0 + (x3.getD x2.toNat ZN).2.2.2.2.1)) (Go.IntKind.i64.wrap (x1 + (↑(List.length (x3.getD x2.toNat ZN).2.2.2.2.2.2.2.2):Int))) (Go.IntKind.i64.wrap (x2 + (1:Int))) (x3)) (none)) (none)) (none)) (none)) (some ((decide (x0=x1),()),()))
noncomputable def p3_L17 (n:Nat):Nat→Int→Int→Int→(List NT)→Option R3
 | 0,_,_,_,_=>none
 | m + 1,x0,x1,x2,x3=>st3_L17 n (p3_L17 n m) x0 x1 x2 x3
noncomputable def p3 (n:Nat) (a:List Int) (b:List Int):Option R3:=st3_top n (p3_L17 n n) a b
noncomputable def q3 (n:Nat) (x:argsD ps3):Option R3:=p3 n x.1 x.2.1
end Go.Proofs.Ythhopbicmaipgaa.Rx.S

namespace Go.Proofs.Ythhopbicmaipgaa.Rx.S
open Go Go.RowKit Go.Proofs
set_option maxRecDepth 100000
noncomputable def c4:Code:=(Try.f4.body.getD .skip)
def an4:An:=⟨fun _=>⟨[],[]⟩,fun _ _=>none⟩
abbrev ps4:List PK:=[.val tLf true,.val tCr true,.val i64 false,.val .str false,.val i64 false,.val i64 false]
abbrev rs4:List RK:=[.val .bool false]
abbrev R4:=retsD rs4 × outsD ps4
noncomputable def G4:Gam:=fun f=>match f with | 16=>some Sm16 | 17=>some Sm17 | 21=>some Sm21 | 22=>some Sm22 | 23=>some Sm23 | 24=>some Sm24 | 25=>some Sm25 | 26=>some Sm26 | 27=>some Sm27 | 28=>some Sm28 | 29=>some Sm29 | _=>none
theorem h0_4 (hg:GamOK Try.prog G4):Holds Try.prog 4 ⟨ps4,rs4,false,runF TT G4 an4 Try.f4 c4 ps4 rs4⟩:=holds_of tt_ok hg mixed Try.func4 (by kernel_rfl) (by rfl) (by decide +kernel)
noncomputable def st4_top (n:Nat) (a:List NT) (b:Int × Int × List Int) (c:Int) (d:ByteArray) (e:Int) (f:Int):Option R4 :=
 cond (decide ((1048576:Int) < (↑d.size:Int))) (some ((true,()),())) ((q21 n (a,(1048576:Int),())).bind fun r0=>cond (decide (r0.1.1 < (0:Int))) (some ((true,()),())) ((q22 n ((b.1,b.2.1,b.2.2),r0.1.1,())).bind fun r1=>cond (decide (r1.1.1 < (0:Int))) (some ((true,()),())) ((q23 n (a,())).bind fun r2=>(q24 n ((b.1,b.2.1,b.2.2),())).bind fun r3=>(q17 n (r2.1.1,(r3.1.1.1,r3.1.1.2.1,r3.1.1.2.2),c,d,e,f,())).bind fun r4=>(q23 n (a,())).bind fun r5=>(q24 n ((b.1,b.2.1,b.2.2),())).bind fun r6=>(q16 n (r5.1.1,(r6.1.1.1,r6.1.1.2.1,r6.1.1.2.2),c,d,e,f,())).bind fun r7=>(q25 n (r7.1.1,r4.1.1,())).bind fun r8=>cond (!r8.1.1) (some ((false,()),())) (cond (!decide (r7.1.2.1=r4.1.2.1)) (some ((false,()),())) (cond (!decide (r7.1.2.2.1=r4.1.2.2.1)) (some ((false,()),())) ((q23 n (a,())).bind fun r9=>(q25 n (r5.1.1,r9.1.1,())).bind fun r10=>cond (!r10.1.1) (some ((false,()),())) ((q24 n ((b.1,b.2.1,b.2.2),())).bind fun r11=>(q26 n ((r6.1.1.1,r6.1.1.2.1,r6.1.1.2.2),(r11.1.1.1,r11.1.1.2.1,r11.1.1.2.2),())).bind fun r12=>cond (!r12.1.1) (some ((false,()),())) ((q27 n (r5.1.1,(1:Int),())).bind fun r13=>(q28 n ((r6.1.1.1,r6.1.1.2.1,r6.1.1.2.2),r13.1.1,())).bind fun r14=>cond (decide (r14.1.1 < (0:Int))) (some ((false,()),())) ((q25 n (r7.1.1,r4.1.1,())).bind fun r15=>cond (!r15.1.1) (some ((false,()),())) (cond (!decide (r7.1.2.1=r4.1.2.1)) (some ((false,()),())) (cond (!decide (r7.1.2.2.1=r4.1.2.2.1)) (some ((false,()),())) ((q27 n (r7.1.1,(1:Int),())).bind fun r16=>(q29 n (r16.2.1,(1:Int),())).bind fun r17=>cond (decide (r17.1.1 < (0:Int))) (some ((false,()),())) (cond (!decide (r17.1.1=r16.1.1)) (some ((false,()),())) ((q23 n (a,())).bind fun r18=>(q24 n ((b.1,b.2.1,b.2.2),())).bind fun r19=>(q16 n (r18.1.1,(r19.1.1.1,r19.1.1.2.1,r19.1.1.2.2),c,d,e,f,())).bind fun r20=>(q25 n (r20.1.1,r4.1.1,())).bind fun r21=>cond (!r21.1.1) (some ((false,()),())) (cond (!decide (r20.1.2.1=r4.1.2.1)) (some ((false,()),())) (cond (!decide (r20.1.2.2.1=r4.1.2.2.1)) (some ((false,()),())) ((q29 n (r16.2.1,(1:Int),())).bind fun r22=>cond (decide (r22.1.1 < (0:Int))) (some ((false,()),())) (cond (!decide (r22.1.1=r16.1.1)) (some ((false,()),())) (some ((true,()),()))))))))))))))))))))
theorem e4_top (n:Nat) (a:List NT) (b:Int × Int × List Int) (c:Int) (d:ByteArray) (e:Int) (f:Int):runF TT G4 an4 Try.f4 c4 ps4 rs4 n (a,b,c,d,e,f,())=st4_top n a b c d e f:=by kernel_rfl
noncomputable def p4 (n:Nat) (a:List NT) (b:Int × Int × List Int) (c:Int) (d:ByteArray) (e:Int) (f:Int):Option R4:=st4_top n a b c d e f
theorem F4_eq (n:Nat) (a:List NT) (b:Int × Int × List Int) (c:Int) (d:ByteArray) (e:Int) (f:Int):runF TT G4 an4 Try.f4 c4 ps4 rs4 n (a,b,c,d,e,f,())=p4 n a b c d e f:=by
 rw [e4_top]
 skip
 try rfl
noncomputable def q4 (n:Nat) (x:argsD ps4):Option R4:=p4 n x.1 x.2.1 x.2.2.1 x.2.2.2.1 x.2.2.2.2.1 x.2.2.2.2.2.1
noncomputable def Sm4:Sm:=⟨ps4,rs4,false,q4⟩
theorem holds4 (hg:GamOK Try.prog G4):Holds Try.prog 4 Sm4:=by
 have:=h0_4 hg
 have e:(runF TT G4 an4 Try.f4 c4 ps4 rs4)=q4:=by
  funext n x
  exact F4_eq n x.1 x.2.1 x.2.2.1 x.2.2.2.1 x.2.2.2.2.1 x.2.2.2.2.2.1
 rw [e] at this
 exact this
theorem gam4:GamOK Try.prog G4:=by
 intro f s h
 unfold G4 at h
 split at h
 ·injection h with h; subst h; exact ⟨⟨Try.f16,c16,Try.func16,by kernel_rfl,by decide +kernel⟩,hh16⟩
 ·injection h with h; subst h; exact ⟨⟨Try.f17,c17,Try.func17,by kernel_rfl,by decide +kernel⟩,hh17⟩
 ·injection h with h; subst h; exact ⟨⟨Try.f21,c21,Try.func21,by kernel_rfl,by decide +kernel⟩,hh21⟩
 ·injection h with h; subst h; exact ⟨⟨Try.f22,c22,Try.func22,by kernel_rfl,by decide +kernel⟩,hh22⟩
 ·injection h with h; subst h; exact ⟨⟨Try.f23,c23,Try.func23,by kernel_rfl,by decide +kernel⟩,hh23⟩
 ·injection h with h; subst h; exact ⟨⟨Try.f24,c24,Try.func24,by kernel_rfl,by decide +kernel⟩,hh24⟩
 ·injection h with h; subst h; exact ⟨⟨Try.f25,c25,Try.func25,by kernel_rfl,by decide +kernel⟩,hh25⟩
 ·injection h with h; subst h; exact ⟨⟨Try.f26,c26,Try.func26,by kernel_rfl,by decide +kernel⟩,hh26⟩
 ·injection h with h; subst h; exact ⟨⟨Try.f27,c27,Try.func27,by kernel_rfl,by decide +kernel⟩,hh27⟩
 ·injection h with h; subst h; exact ⟨⟨Try.f28,c28,Try.func28,by kernel_rfl,by decide +kernel⟩,hh28⟩
 ·injection h with h; subst h; exact ⟨⟨Try.f29,c29,Try.func29,by kernel_rfl,by decide +kernel⟩,hh29⟩
 ·cases h
theorem hh4:Holds Try.prog 4 Sm4:=holds4 gam4
end Go.Proofs.Ythhopbicmaipgaa.Rx.S

