/- What the functions of this seat compute, each as a plain function on lists and numbers, with the proof that a call answers so. No condition. -/
import Derived.Test.YthhopbicmaipgaaGF1
set_option linter.unusedVariables false
set_option linter.unusedSimpArgs false
namespace Go.Proofs.Ythhopbicmaipgaa.Rx.S
open Go Go.RowKit Go.Proofs
set_option maxRecDepth 100000
noncomputable def c18:Code:=(Try.f18.body.getD .skip)
def an18:An:=⟨fun r=>match r with | 4=>⟨[2,3,5],[]⟩ | _=>⟨[],[]⟩,fun _ _=>none⟩
abbrev ps18:List PK:=[.val tFs true,.val tFs true]
abbrev rs18:List RK:=[.val .bool false]
abbrev R18:=retsD rs18 × outsD ps18
noncomputable def G18:Gam:=fun f=>match f with | 69=>some Sm69 | _=>none
theorem h0_18 (hg:GamOK Try.prog G18):Holds Try.prog 18 ⟨ps18,rs18,false,runF TT G18 an18 Try.f18 c18 ps18 rs18⟩:=holds_of tt_ok hg mixed Try.func18 (by kernel_rfl) (by rfl) (by decide +kernel)
noncomputable def at18:Nat→Pt→List Nat→St→Option R18:=atF TT G18 an18 Try.f18 c18 _ _
def sh18_L4 (x0:Int) (x1:List NT) (x2:List NT):St:=(St.mk (AV.undef :: (AV.undef :: ((AV.one (SV.bptr 1000000 0)) :: ((AV.one (SV.bptr 1000001 0)) :: (AV.undef :: ((AV.one (SV.int (Go.IntKind.i64) x0)) :: (AV.undef :: (AV.undef :: (AV.undef :: (AV.undef :: (AV.undef :: (AV.undef :: (AV.undef :: (AV.undef :: (AV.undef :: (AV.undef :: (AV.undef :: (AV.undef :: (AV.undef :: (AV.undef :: (AV.undef :: (AV.undef :: (AV.undef :: (AV.undef :: (AV.undef :: (AV.undef :: (AV.undef :: (AV.undef :: (AV.undef :: (AV.undef :: (AV.undef :: (AV.undef :: [])))))))))))))))))))))))))))))))) ((1000000,(Ent.box ((SV.con (⟨39,(Ty.int Go.IntKind.i64).pair ((Ty.int Go.IntKind.i64).pair ((Ty.int Go.IntKind.i64).pair ((Ty.int Go.IntKind.i64).pair ((Ty.int Go.IntKind.i64).pair ((Ty.int Go.IntKind.i64).pair (Ty.bool.pair (Ty.str.pair (Ty.row (nat_lit 95) (Ty.str.pair (Ty.int Go.IntKind.i64)))))))))),x1⟩:Rw)) :: []))) :: ((1000001,(Ent.box ((SV.con (⟨39,(Ty.int Go.IntKind.i64).pair ((Ty.int Go.IntKind.i64).pair ((Ty.int Go.IntKind.i64).pair ((Ty.int Go.IntKind.i64).pair ((Ty.int Go.IntKind.i64).pair ((Ty.int Go.IntKind.i64).pair (Ty.bool.pair (Ty.str.pair (Ty.row (nat_lit 95) (Ty.str.pair (Ty.int Go.IntKind.i64)))))))))),x2⟩:Rw)) :: []))) :: [])))
noncomputable def st18_top (n:Nat) (lL4:Int→(List NT)→(List NT)→Option R18) (a:List NT) (b:List NT):Option R18 :=
 cond (!decide ((↑a.length:Int)=(↑b.length:Int))) (some ((false,()),())) (lL4 ((0:Int)) (a) (b))
noncomputable def st18_L4 (n:Nat) (lL4:Int→(List NT)→(List NT)→Option R18) (x0:Int) (x1:List NT) (x2:List NT):Option R18 :=
 cond (decide (x0 < (↑x1.length:Int))) (cond (decide ((0:Int)≤x0)) (cond (decide (x0 < (↑x1.length:Int))) (cond (decide ((0:Int)≤x0)) (cond (decide (x0 < (↑x2.length:Int))) ((q69 n (((x1.getD x0.toNat ZN).1,(x1.getD x0.toNat ZN).2.1,(x1.getD x0.toNat ZN).2.2.1,(x1.getD x0.toNat ZN).2.2.2.1,(x1.getD x0.toNat ZN).2.2.2.2.1,(x1.getD x0.toNat ZN).2.2.2.2.2.1,(x1.getD x0.toNat ZN).2.2.2.2.2.2.1,(x1.getD x0.toNat ZN).2.2.2.2.2.2.2.1,(x1.getD x0.toNat ZN).2.2.2.2.2.2.2.2),((x2.getD x0.toNat ZN).1,(x2.getD x0.toNat ZN).2.1,(x2.getD x0.toNat ZN).2.2.1,(x2.getD x0.toNat ZN).2.2.2.1,(x2.getD x0.toNat ZN).2.2.2.2.1,(x2.getD x0.toNat ZN).2.2.2.2.2.1,(x2.getD x0.toNat ZN).2.2.2.2.2.2.1,(x2.getD x0.toNat ZN).2.2.2.2.2.2.2.1,(x2.getD x0.toNat ZN).2.2.2.2.2.2.2.2),())).bind fun r1=>cond (!r1.1.1) (some ((false,()),())) (lL4 (Go.IntKind.i64.wrap (x0 + (1:Int))) (x1) (x2))) (none)) (none)) (none)) (none)) (some ((true,()),()))
theorem e18_top (n:Nat) (a:List NT) (b:List NT):runF TT G18 an18 Try.f18 c18 ps18 rs18 n (a,b,())=st18_top n (fun x0 x1 x2=>at18 n (.head 4) [n] (sh18_L4 x0 x1 x2)) a b:=by kernel_rfl
theorem e18_L4_0 (n:Nat) (x0:Int) (x1:List NT) (x2:List NT):at18 n (.head 4) [0] (sh18_L4 x0 x1 x2)=none:=by kernel_rfl
theorem e18_L4 (n:Nat) (m4:Nat) (x0:Int) (x1:List NT) (x2:List NT):at18 n (.head 4) [m4 + 1] (sh18_L4 x0 x1 x2)=st18_L4 n (fun x0 x1 x2=>at18 n (.head 4) [m4] (sh18_L4 x0 x1 x2)) x0 x1 x2:=by kernel_rfl
noncomputable def p18_L4 (n:Nat):Nat→Int→(List NT)→(List NT)→Option R18
 | 0,_,_,_=>none
 | m + 1,x0,x1,x2=>st18_L4 n (p18_L4 n m) x0 x1 x2
noncomputable def p18 (n:Nat) (a:List NT) (b:List NT):Option R18:=st18_top n (p18_L4 n n) a b
theorem t18_L4 (n:Nat):∀ (m4:Nat) (x0:Int) (x1:List NT) (x2:List NT),at18 n (.head 4) [m4] (sh18_L4 x0 x1 x2)=p18_L4 n m4 x0 x1 x2:=by
 intro m
 induction m with
 | zero=>intros; rw [e18_L4_0]; rfl
 | succ m ih =>
  intros
  rw [e18_L4]
  try simp only [ih]
  rfl
theorem F18_eq (n:Nat) (a:List NT) (b:List NT):runF TT G18 an18 Try.f18 c18 ps18 rs18 n (a,b,())=p18 n a b:=by
 rw [e18_top]
 simp only [t18_L4]
 try rfl
noncomputable def q18 (n:Nat) (x:argsD ps18):Option R18:=p18 n x.1 x.2.1
noncomputable def Sm18:Sm:=⟨ps18,rs18,false,q18⟩
theorem holds18 (hg:GamOK Try.prog G18):Holds Try.prog 18 Sm18:=by
 have:=h0_18 hg
 have e:(runF TT G18 an18 Try.f18 c18 ps18 rs18)=q18:=by
  funext n x
  exact F18_eq n x.1 x.2.1
 rw [e] at this
 exact this
theorem gam18:GamOK Try.prog G18:=by
 intro f s h
 unfold G18 at h
 split at h
 ·injection h with h; subst h; exact ⟨⟨Try.f69,c69,Try.func69,by kernel_rfl,by decide +kernel⟩,hh69⟩
 ·cases h
theorem hh18:Holds Try.prog 18 Sm18:=holds18 gam18
end Go.Proofs.Ythhopbicmaipgaa.Rx.S

namespace Go.Proofs.Ythhopbicmaipgaa.Rx.S
open Go Go.RowKit Go.Proofs
set_option maxRecDepth 100000
abbrev ps35:List PK:=[.val (.row 5 (.int .u8)) false]
abbrev rs35:List RK:=[.ro 39 (tIn 95) true,.val i64 false,.val .bool false]
abbrev R35:=retsD rs35 × outsD ps35
noncomputable def st35_top (n:Nat) (a:List Int):Option R35 :=
 (q46 n (a,())).bind fun r0=>(q47 n ((r0.1.1.1,r0.1.1.2),())).bind fun r1=>(q49 n ((r1.2.1.1,r1.2.1.2),())).bind fun r2=>(q51 n ((r2.2.1.1,r2.2.1.2),(3:Int),())).bind fun r3=>some ((r1.1.1,(r2.1.1,(decide ((0:Int) < r3.1.1),()))),())
noncomputable def p35 (n:Nat) (a:List Int):Option R35:=st35_top n a
noncomputable def q35 (n:Nat) (x:argsD ps35):Option R35:=p35 n x.1
end Go.Proofs.Ythhopbicmaipgaa.Rx.S

namespace Go.Proofs.Ythhopbicmaipgaa.Rx.S
open Go Go.RowKit Go.Proofs
set_option maxRecDepth 100000
abbrev ps8:List PK:=[.val (.row 5 (.int .u8)) false]
abbrev rs8:List RK:=[.val .bool false]
abbrev R8:=retsD rs8 × outsD ps8
noncomputable def st8_top (n:Nat) (a:List Int):Option R8 :=
 cond (decide ((1048576:Int) < (↑a.length:Int))) (some ((true,()),())) ((q35 n (a,())).bind fun r0=>(q33 n (r0.1.1,r0.1.2.1,r0.1.2.2.1,())).bind fun r1=>(q32 n (r0.1.1,r0.1.2.1,r0.1.2.2.1,())).bind fun r2=>(q18 n (r1.1.1,r2.1.1,())).bind fun r3=>cond (r3.1.1) (cond (!decide (r1.1.2.1=r2.1.2.1)) (some ((decide (r1.1.2.1=r2.1.2.1),()),())) (cond (!!decide (r1.1.2.1=(1:Int))) (some ((decide (r1.1.2.1=r2.1.2.1),()),())) (cond (!decide (r1.1.2.1=(0:Int))) ((q18 n (r0.1.1,r1.1.1,())).bind fun r4=>some ((r4.1.1,()),())) (cond (!r0.1.2.2.1) ((q36 n (r1.1.1,())).bind fun r5=>some ((r5.1.1,()),())) ((q33 n (r1.1.1,r0.1.2.1,false,())).bind fun r6=>(q36 n (r1.1.1,())).bind fun r7=>cond (r7.1.1) (cond (decide (r6.1.2.1=(0:Int))) ((q18 n (r6.1.1,r0.1.1,())).bind fun r8=>some ((r8.1.1,()),())) (some ((false,()),()))) (some ((false,()),()))))))) (some ((false,()),())))
noncomputable def p8 (n:Nat) (a:List Int):Option R8:=st8_top n a
noncomputable def q8 (n:Nat) (x:argsD ps8):Option R8:=p8 n x.1
end Go.Proofs.Ythhopbicmaipgaa.Rx.S

namespace Go.Proofs.Ythhopbicmaipgaa.Rx.S
open Go Go.RowKit Go.Proofs
set_option maxRecDepth 100000
noncomputable def c52:Code:=(Try.f52.body.getD .skip)
def an52:An:=⟨fun _=>⟨[],[]⟩,fun _ _=>none⟩
abbrev ps52:List PK:=[.bx tRd]
abbrev rs52:List RK:=[.val i64 false]
abbrev R52:=retsD rs52 × outsD ps52
noncomputable def G52:Gam:=fun f=>match f with | 51=>some Sm51 | _=>none
theorem h0_52 (hg:GamOK Try.prog G52):Holds Try.prog 52 ⟨ps52,rs52,true,runF TT G52 an52 Try.f52 c52 ps52 rs52⟩:=holds_of tt_ok hg mixed Try.func52 (by kernel_rfl) (by rfl) (by decide +kernel)
noncomputable def st52_top (n:Nat) (a:List Int × Int):Option R52 :=
 (q51 n ((a.1,a.2),(20:Int),())).bind fun r0=>cond (decide (r0.1.1=(0:Int))) ((q51 n ((r0.2.1.1,r0.2.1.2),(3:Int),())).bind fun r1=>cond (decide ((0:Int)≤r1.1.1)) (cond (decide (r1.1.1 < (↑[(-1:Int),(512:Int),(511:Int)].length:Int))) (some (([(-1:Int),(512:Int),(511:Int)].getD (Int.toNat r1.1.1) (0:Int),()),((r1.2.1.1,r1.2.1.2),()))) (none)) (none)) ((q51 n ((r0.2.1.1,r0.2.1.2),(8:Int),())).bind fun r2=>(q51 n ((r2.2.1.1,r2.2.1.2),(64:Int),())).bind fun r3=>(q51 n ((r3.2.1.1,r3.2.1.2),(8:Int),())).bind fun r4=>(q51 n ((r4.2.1.1,r4.2.1.2),(7:Int),())).bind fun r5=>cond (decide ((0:Int)≤r5.1.1)) (cond (decide (r5.1.1 < (↑[(493:Int),(420:Int),(448:Int),(511:Int),(0:Int),Go.IntKind.i64.wrap (Go.IntKind.i64.wrap (r2.1.1 * (64:Int)) + r3.1.1),Go.IntKind.i64.wrap (r4.1.1 * (73:Int))].length:Int))) (some (([(493:Int),(420:Int),(448:Int),(511:Int),(0:Int),Go.IntKind.i64.wrap (Go.IntKind.i64.wrap (r2.1.1 * (64:Int)) + r3.1.1),Go.IntKind.i64.wrap (r4.1.1 * (73:Int))].getD (Int.toNat r5.1.1) (0:Int),()),((r5.2.1.1,r5.2.1.2),()))) (none)) (none))
theorem e52_top (n:Nat) (a:List Int × Int):runF TT G52 an52 Try.f52 c52 ps52 rs52 n (a,())=st52_top n a:=by kernel_rfl
noncomputable def p52 (n:Nat) (a:List Int × Int):Option R52:=st52_top n a
theorem F52_eq (n:Nat) (a:List Int × Int):runF TT G52 an52 Try.f52 c52 ps52 rs52 n (a,())=p52 n a:=by
 rw [e52_top]
 skip
 try rfl
noncomputable def q52 (n:Nat) (x:argsD ps52):Option R52:=p52 n x.1
noncomputable def Sm52:Sm:=⟨ps52,rs52,true,q52⟩
theorem holds52 (hg:GamOK Try.prog G52):Holds Try.prog 52 Sm52:=by
 have:=h0_52 hg
 have e:(runF TT G52 an52 Try.f52 c52 ps52 rs52)=q52:=by
  funext n x
  exact F52_eq n x.1
 rw [e] at this
 exact this
theorem gam52:GamOK Try.prog G52:=by
 intro f s h
 unfold G52 at h
 split at h
 ·injection h with h; subst h; exact ⟨⟨Try.f51,c51,Try.func51,by kernel_rfl,by decide +kernel⟩,hh51⟩
 ·cases h
theorem hh52:Holds Try.prog 52 Sm52:=holds52 gam52
end Go.Proofs.Ythhopbicmaipgaa.Rx.S

namespace Go.Proofs.Ythhopbicmaipgaa.Rx.S
open Go Go.RowKit Go.Proofs
set_option maxRecDepth 100000
noncomputable def c15:Code:=(Try.f15.body.getD .skip)
def an15:An:=⟨fun _=>⟨[],[]⟩,fun _ _=>none⟩
abbrev ps15:List PK:=[.val (.row 5 (.int .u8)) false]
abbrev rs15:List RK:=[.ro 39 (tIn 95) true,.own tCr true,.val i64 false,.val .str false,.val i64 false,.val i64 false]
abbrev R15:=retsD rs15 × outsD ps15
noncomputable def G15:Gam:=fun f=>match f with | 46=>some Sm46 | 47=>some Sm47 | 48=>some Sm48 | 49=>some Sm49 | 50=>some Sm50 | 51=>some Sm51 | 52=>some Sm52 | _=>none
theorem h0_15 (hg:GamOK Try.prog G15):Holds Try.prog 15 ⟨ps15,rs15,true,runF TT G15 an15 Try.f15 c15 ps15 rs15⟩:=holds_of tt_ok hg mixed Try.func15 (by kernel_rfl) (by rfl) (by decide +kernel)
noncomputable def st15_top (n:Nat) (a:List Int):Option R15 :=
 (q46 n (a,())).bind fun r0=>(q47 n ((r0.1.1.1,r0.1.1.2),())).bind fun r1=>(q48 n ((r1.2.1.1,r1.2.1.2),())).bind fun r2=>(q49 n ((r2.2.1.1,r2.2.1.2),())).bind fun r3=>(q50 n ((r3.2.1.1,r3.2.1.2),())).bind fun r4=>(q51 n ((r4.2.1.1,r4.2.1.2),(4:Int),())).bind fun r5=>(q52 n ((r5.2.1.1,r5.2.1.2),())).bind fun r6=>some ((r1.1.1,((r2.1.1.1,(r2.1.1.2.1,r2.1.1.2.2)),(r3.1.1,(r4.1.1,(r5.1.1,(r6.1.1,())))))),())
theorem e15_top (n:Nat) (a:List Int):runF TT G15 an15 Try.f15 c15 ps15 rs15 n (a,())=st15_top n a:=by kernel_rfl
noncomputable def p15 (n:Nat) (a:List Int):Option R15:=st15_top n a
theorem F15_eq (n:Nat) (a:List Int):runF TT G15 an15 Try.f15 c15 ps15 rs15 n (a,())=p15 n a:=by
 rw [e15_top]
 skip
 try rfl
noncomputable def q15 (n:Nat) (x:argsD ps15):Option R15:=p15 n x.1
noncomputable def Sm15:Sm:=⟨ps15,rs15,true,q15⟩
theorem holds15 (hg:GamOK Try.prog G15):Holds Try.prog 15 Sm15:=by
 have:=h0_15 hg
 have e:(runF TT G15 an15 Try.f15 c15 ps15 rs15)=q15:=by
  funext n x
  exact F15_eq n x.1
 rw [e] at this
 exact this
theorem gam15:GamOK Try.prog G15:=by
 intro f s h
 unfold G15 at h
 split at h
 ·injection h with h; subst h; exact ⟨⟨Try.f46,c46,Try.func46,by kernel_rfl,by decide +kernel⟩,hh46⟩
 ·injection h with h; subst h; exact ⟨⟨Try.f47,c47,Try.func47,by kernel_rfl,by decide +kernel⟩,hh47⟩
 ·injection h with h; subst h; exact ⟨⟨Try.f48,c48,Try.func48,by kernel_rfl,by decide +kernel⟩,hh48⟩
 ·injection h with h; subst h; exact ⟨⟨Try.f49,c49,Try.func49,by kernel_rfl,by decide +kernel⟩,hh49⟩
 ·injection h with h; subst h; exact ⟨⟨Try.f50,c50,Try.func50,by kernel_rfl,by decide +kernel⟩,hh50⟩
 ·injection h with h; subst h; exact ⟨⟨Try.f51,c51,Try.func51,by kernel_rfl,by decide +kernel⟩,hh51⟩
 ·injection h with h; subst h; exact ⟨⟨Try.f52,c52,Try.func52,by kernel_rfl,by decide +kernel⟩,hh52⟩
 ·cases h
theorem hh15:Holds Try.prog 15 Sm15:=holds15 gam15
end Go.Proofs.Ythhopbicmaipgaa.Rx.S

namespace Go.Proofs.Ythhopbicmaipgaa.Rx.S
open Go Go.RowKit Go.Proofs
set_option maxRecDepth 100000
noncomputable def c3:Code:=(Try.f3.body.getD .skip)
def an3:An:=⟨fun r=>match r with | 17=>⟨[19,21,22,23],[]⟩ | _=>⟨[],[]⟩,fun _ _=>none⟩
abbrev ps3:List PK:=[.val (.row 5 (.int .u8)) false,.val (.row 5 (.int .u8)) false]
abbrev rs3:List RK:=[.val .bool false]
abbrev R3:=retsD rs3 × outsD ps3
noncomputable def G3:Gam:=fun f=>match f with | 15=>some Sm15 | 16=>some Sm16 | 17=>some Sm17 | 18=>some Sm18 | 19=>some Sm19 | 20=>some Sm20 | _=>none
theorem h0_3 (hg:GamOK Try.prog G3):Holds Try.prog 3 ⟨ps3,rs3,false,runF TT G3 an3 Try.f3 c3 ps3 rs3⟩:=holds_of tt_ok hg mixed Try.func3 (by kernel_rfl) (by rfl) (by decide +kernel)
noncomputable def at3:Nat→Pt→List Nat→St→Option R3:=atF TT G3 an3 Try.f3 c3 _ _
def sh3_L17 (x0:Int) (x1:Int) (x2:Int) (x3:List NT):St:=(St.mk (AV.undef :: (AV.undef :: (AV.undef :: (AV.undef :: (AV.undef :: (AV.undef :: (AV.undef :: (AV.undef :: (AV.undef :: (AV.undef :: (AV.undef :: (AV.undef :: (AV.undef :: (AV.undef :: (AV.undef :: (AV.undef :: (AV.undef :: (AV.undef :: (AV.undef :: ((AV.one (SV.bptr 1000000 0)) :: (AV.undef :: ((AV.one (SV.int (Go.IntKind.i64) x0)) :: ((AV.one (SV.int (Go.IntKind.i64) x1)) :: ((AV.one (SV.int (Go.IntKind.i64) x2)) :: (AV.undef :: (AV.undef :: (AV.undef :: (AV.undef :: (AV.undef :: (AV.undef :: (AV.undef :: (AV.undef :: (AV.undef :: (AV.undef :: (AV.undef :: (AV.undef :: (AV.undef :: (AV.undef :: (AV.undef :: (AV.undef :: (AV.undef :: (AV.undef :: (AV.undef :: (AV.undef :: (AV.undef :: (AV.undef :: (AV.undef :: (AV.undef :: (AV.undef :: (AV.undef :: (AV.undef :: (AV.undef :: (AV.undef :: (AV.undef :: (AV.undef :: (AV.undef :: (AV.undef :: (AV.undef :: (AV.undef :: (AV.undef :: (AV.undef :: (AV.undef :: (AV.undef :: (AV.undef :: (AV.undef :: (AV.undef :: (AV.undef :: (AV.undef :: (AV.undef :: (AV.undef :: (AV.undef :: (AV.undef :: (AV.undef :: (AV.undef :: (AV.undef :: (AV.undef :: (AV.undef :: (AV.undef :: (AV.undef :: (AV.undef :: (AV.undef :: (AV.undef :: (AV.undef :: (AV.undef :: (AV.undef :: (AV.undef :: (AV.undef :: (AV.undef :: (AV.undef :: (AV.undef :: (AV.undef :: (AV.undef :: (AV.undef :: (AV.undef :: (AV.undef :: (AV.undef :: (AV.undef :: (AV.undef :: (AV.undef :: (AV.undef :: (AV.undef :: (AV.undef :: (AV.undef :: (AV.undef :: (AV.undef :: (AV.undef :: (AV.undef :: (AV.undef :: (AV.undef :: (AV.undef :: (AV.undef :: (AV.undef :: (AV.undef :: (AV.undef :: (AV.undef :: (AV.undef :: (AV.undef :: (AV.undef :: (AV.undef :: (AV.undef :: (AV.undef :: (AV.undef :: (AV.undef :: (AV.undef :: (AV.undef :: (AV.undef :: (AV.undef :: (AV.undef :: (AV.undef :: (AV.undef :: (AV.undef :: (AV.undef :: (AV.undef :: (AV.undef :: (AV.undef :: (AV.undef :: [])))))))))))))))))))))))))))))))))))))))))))))))))))))))))))))))))))))))))))))))))))))))))))))))))))))))))))))))))))))))))))))))))))))))) ((1000000,(Ent.box ((SV.ref 1000001 0 [] Option.none) :: []))) :: ((1000001,(Ent.row (⟨39,(Ty.int Go.IntKind.i64).pair ((Ty.int Go.IntKind.i64).pair ((Ty.int Go.IntKind.i64).pair ((Ty.int Go.IntKind.i64).pair ((Ty.int Go.IntKind.i64).pair ((Ty.int Go.IntKind.i64).pair (Ty.bool.pair (Ty.str.pair (Ty.row (nat_lit 95) (Ty.str.pair (Ty.int Go.IntKind.i64)))))))))),x3⟩:Rw) 0 Option.none)) :: [])))
noncomputable def st3_top (n:Nat) (lL17:Int→Int→Int→(List NT)→Option R3) (a:List Int) (b:List Int):Option R3 :=
 cond (decide ((1048576:Int) < (↑a.length:Int))) (some ((true,()),())) (cond (decide ((1048576:Int) < (↑b.length:Int))) (some ((true,()),())) ((q15 n (a,())).bind fun r0=>(q16 n (r0.1.1,(r0.1.2.1.1,r0.1.2.1.2.1,r0.1.2.1.2.2),r0.1.2.2.1,r0.1.2.2.2.1,r0.1.2.2.2.2.1,r0.1.2.2.2.2.2.1,())).bind fun r1=>(q17 n (r0.1.1,(r0.1.2.1.1,r0.1.2.1.2.1,r0.1.2.1.2.2),r0.1.2.2.1,r0.1.2.2.2.1,r0.1.2.2.2.2.1,r0.1.2.2.2.2.2.1,())).bind fun r2=>cond (!decide (r1.1.2.2.1=r2.1.2.2.1)) (cond (decide (r1.1.2.2.1=r2.1.2.2.1)) ((q18 n (r1.1.1,r2.1.1,())).bind fun r3=>some ((r3.1.1,()),())) (some ((false,()),()))) ((q18 n (r1.1.1,r2.1.1,())).bind fun r4=>cond (!r4.1.1) (cond (decide (r1.1.2.2.1=r2.1.2.2.1)) ((q18 n (r1.1.1,r2.1.1,())).bind fun r5=>some ((r5.1.1,()),())) (some ((false,()),()))) (cond (decide (r1.1.2.2.1=(1:Int))) (cond (decide (r1.1.2.2.1=r2.1.2.2.1)) ((q18 n (r1.1.1,r2.1.1,())).bind fun r6=>some ((r6.1.1,()),())) (some ((false,()),()))) ((q19 n (r1.1.1,(r0.1.2.1.1,r0.1.2.1.2.1,r0.1.2.1.2.2),Go.IntKind.i64.wrap ((1:Int) + (↑b.length:Int).tmod (5:Int)),r0.1.2.2.1,ByteArray.mk #[(122:UInt8),(122:UInt8)],())).bind fun r7=>cond (decide (r7.1.2.1=(1:Int))) ((q20 n (r1.1.1,(r0.1.2.1.1,r0.1.2.1.2.1,r0.1.2.1.2.2),r0.1.2.2.1,r0.1.2.2.2.1,())).bind fun r8=>cond (decide (r8.1.2.1=(1:Int))) (lL17 ((0:Int)) ((0:Int)) ((0:Int)) (r1.1.1)) (lL17 ((0:Int)) ((0:Int)) ((0:Int)) (r8.1.1))) ((q20 n (r7.1.1,(r0.1.2.1.1,r0.1.2.1.2.1,r0.1.2.1.2.2),r0.1.2.2.1,r0.1.2.2.2.1,())).bind fun r10=>cond (decide (r10.1.2.1=(1:Int))) (lL17 ((0:Int)) ((0:Int)) ((0:Int)) (r7.1.1)) (lL17 ((0:Int)) ((0:Int)) ((0:Int)) (r10.1.1))))))))
noncomputable def st3_L17 (n:Nat) (lL17:Int→Int→Int→(List NT)→Option R3) (x0:Int) (x1:Int) (x2:Int) (x3:List NT):Option R3 :=
 cond (decide (x2 < (↑x3.length:Int))) (cond (decide ((0:Int)≤x2)) (cond (decide (x2 < (↑x3.length:Int))) (cond (decide ((0:Int)≤x2)) (cond (decide (x2 < (↑x3.length:Int))) (lL17 (Go.IntKind.i64.wrap (x0 + (x3.getD x2.toNat ZN).2.2.2.2.1)) (Go.IntKind.i64.wrap (x1 + (↑(List.length (x3.getD x2.toNat ZN).2.2.2.2.2.2.2.2):Int))) (Go.IntKind.i64.wrap (x2 + (1:Int))) (x3)) (none)) (none)) (none)) (none)) (some ((decide (x0=x1),()),()))
theorem e3_top (n:Nat) (a:List Int) (b:List Int):runF TT G3 an3 Try.f3 c3 ps3 rs3 n (a,b,())=st3_top n (fun x0 x1 x2 x3=>at3 n (.head 17) [n] (sh3_L17 x0 x1 x2 x3)) a b:=by kernel_rfl
theorem e3_L17_0 (n:Nat) (x0:Int) (x1:Int) (x2:Int) (x3:List NT):at3 n (.head 17) [0] (sh3_L17 x0 x1 x2 x3)=none:=by kernel_rfl
theorem e3_L17 (n:Nat) (m17:Nat) (x0:Int) (x1:Int) (x2:Int) (x3:List NT):at3 n (.head 17) [m17 + 1] (sh3_L17 x0 x1 x2 x3)=st3_L17 n (fun x0 x1 x2 x3=>at3 n (.head 17) [m17] (sh3_L17 x0 x1 x2 x3)) x0 x1 x2 x3:=by kernel_rfl
noncomputable def p3_L17 (n:Nat):Nat→Int→Int→Int→(List NT)→Option R3
 | 0,_,_,_,_=>none
 | m + 1,x0,x1,x2,x3=>st3_L17 n (p3_L17 n m) x0 x1 x2 x3
noncomputable def p3 (n:Nat) (a:List Int) (b:List Int):Option R3:=st3_top n (p3_L17 n n) a b
theorem t3_L17 (n:Nat):∀ (m17:Nat) (x0:Int) (x1:Int) (x2:Int) (x3:List NT),at3 n (.head 17) [m17] (sh3_L17 x0 x1 x2 x3)=p3_L17 n m17 x0 x1 x2 x3:=by
 intro m
 induction m with
 | zero=>intros; rw [e3_L17_0]; rfl
 | succ m ih =>
  intros
  rw [e3_L17]
  try simp only [ih]
  rfl
theorem F3_eq (n:Nat) (a:List Int) (b:List Int):runF TT G3 an3 Try.f3 c3 ps3 rs3 n (a,b,())=p3 n a b:=by
 rw [e3_top]
 simp only [t3_L17]
 try rfl
noncomputable def q3 (n:Nat) (x:argsD ps3):Option R3:=p3 n x.1 x.2.1
noncomputable def Sm3:Sm:=⟨ps3,rs3,false,q3⟩
theorem holds3 (hg:GamOK Try.prog G3):Holds Try.prog 3 Sm3:=by
 have:=h0_3 hg
 have e:(runF TT G3 an3 Try.f3 c3 ps3 rs3)=q3:=by
  funext n x
  exact F3_eq n x.1 x.2.1
 rw [e] at this
 exact this
theorem gam3:GamOK Try.prog G3:=by
 intro f s h
 unfold G3 at h
 split at h
 ·injection h with h; subst h; exact ⟨⟨Try.f15,c15,Try.func15,by kernel_rfl,by decide +kernel⟩,hh15⟩
 ·injection h with h; subst h; exact ⟨⟨Try.f16,c16,Try.func16,by kernel_rfl,by decide +kernel⟩,hh16⟩
 ·injection h with h; subst h; exact ⟨⟨Try.f17,c17,Try.func17,by kernel_rfl,by decide +kernel⟩,hh17⟩
 ·injection h with h; subst h; exact ⟨⟨Try.f18,c18,Try.func18,by kernel_rfl,by decide +kernel⟩,hh18⟩
 ·injection h with h; subst h; exact ⟨⟨Try.f19,c19,Try.func19,by kernel_rfl,by decide +kernel⟩,hh19⟩
 ·injection h with h; subst h; exact ⟨⟨Try.f20,c20,Try.func20,by kernel_rfl,by decide +kernel⟩,hh20⟩
 ·cases h
theorem hh3:Holds Try.prog 3 Sm3:=holds3 gam3
end Go.Proofs.Ythhopbicmaipgaa.Rx.S

