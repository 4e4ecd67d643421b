/- What the functions of this seat compute, each as a plain function on lists and numbers, with the proof that a call answers so. No condition. -/
import Derived.Test.YtbjgiioppmkpiaaCF0
set_option linter.unusedVariables false
set_option linter.unusedSimpArgs false
namespace Go.Proofs.Ytbjgiioppmkpiaa.Rx.S
open Go Go.RowKit Go.Proofs
set_option maxRecDepth 100000
noncomputable def c86:Code:=(Try.f86.body.getD .skip)
def an86:An:=⟨fun _=>⟨[],[]⟩,fun _ _=>none⟩
abbrev ps86:List PK:=[.val tFs true,.val i64 false]
abbrev rs86:List RK:=[.val .bool false]
abbrev R86:=retsD rs86 × outsD ps86
noncomputable def G86:Gam:=fun f=>match f with | 61=>some Sm61 | _=>none
theorem h0_86 (hg:GamOK Try.prog G86):Holds Try.prog 86 ⟨ps86,rs86,false,runF TT G86 an86 Try.f86 c86 ps86 rs86⟩:=holds_of tt_ok hg mixed Try.func86 (by kernel_rfl) (by rfl) (by decide +kernel)
noncomputable def st86_top (n:Nat) (a:List NT) (b:Int):Option R86 :=
 (q61 n (b,(0:Int),Go.IntKind.i64.wrap ((↑a.length:Int) - (1:Int)),())).bind fun r0=>cond (r0.1.1) (cond (decide ((0:Int)≤b)) (cond (decide (b < (↑a.length:Int))) (some ((!decide ((a.getD b.toNat ZN).1=(0:Int)),()),())) (none)) (none)) (some ((false,()),()))
theorem e86_top (n:Nat) (a:List NT) (b:Int):runF TT G86 an86 Try.f86 c86 ps86 rs86 n (a,b,())=st86_top n a b:=by kernel_rfl
noncomputable def p86 (n:Nat) (a:List NT) (b:Int):Option R86:=st86_top n a b
theorem F86_eq (n:Nat) (a:List NT) (b:Int):runF TT G86 an86 Try.f86 c86 ps86 rs86 n (a,b,())=p86 n a b:=by
 rw [e86_top]
 skip
 try rfl
noncomputable def q86 (n:Nat) (x:argsD ps86):Option R86:=p86 n x.1 x.2.1
noncomputable def Sm86:Sm:=⟨ps86,rs86,false,q86⟩
theorem holds86 (hg:GamOK Try.prog G86):Holds Try.prog 86 Sm86:=by
 have:=h0_86 hg
 have e:(runF TT G86 an86 Try.f86 c86 ps86 rs86)=q86:=by
  funext n x
  exact F86_eq n x.1 x.2.1
 rw [e] at this
 exact this
theorem gam86:GamOK Try.prog G86:=by
 intro f s h
 unfold G86 at h
 split at h
 ·injection h with h; subst h; exact ⟨⟨Try.f61,c61,Try.func61,by kernel_rfl,by decide +kernel⟩,hh61⟩
 ·cases h
theorem hh86:Holds Try.prog 86 Sm86:=holds86 gam86
end Go.Proofs.Ytbjgiioppmkpiaa.Rx.S

namespace Go.Proofs.Ytbjgiioppmkpiaa.Rx.S
open Go Go.RowKit Go.Proofs
set_option maxRecDepth 100000
noncomputable def c79:Code:=(Try.f79.body.getD .skip)
def an79:An:=⟨fun r=>match r with | 2=>⟨[1,6,7,8],[]⟩ | _=>⟨[],[]⟩,fun _ _=>none⟩
abbrev ps79:List PK:=[.val tCr true]
abbrev rs79:List RK:=[.val .bool false]
abbrev R79:=retsD rs79 × outsD ps79
noncomputable def G79:Gam:=fun f=>match f with | 61=>some Sm61 | _=>none
theorem h0_79 (hg:GamOK Try.prog G79):Holds Try.prog 79 ⟨ps79,rs79,false,runF TT G79 an79 Try.f79 c79 ps79 rs79⟩:=holds_of tt_ok hg mixed Try.func79 (by kernel_rfl) (by rfl) (by decide +kernel)
noncomputable def at79:Nat→Pt→List Nat→St→Option R79:=atF TT G79 an79 Try.f79 c79 _ _
def sh79_L2 (x0:List Int) (x1:Int) (x2:Int) (x3:Int) (x4:Int) (x5:List Int):St:=(St.mk (AV.undef :: ((AV.one (SV.bptr 1000000 0)) :: (AV.undef :: (AV.undef :: (AV.undef :: (AV.undef :: ((AV.one (SV.con (⟨3,Ty.int Go.IntKind.i64,x0⟩:Rw))) :: ((AV.one (SV.int (Go.IntKind.i64) x1)) :: ((AV.one (SV.int (Go.IntKind.i64) x2)) :: (AV.undef :: (AV.undef :: (AV.undef :: (AV.undef :: (AV.undef :: (AV.undef :: (AV.undef :: (AV.undef :: (AV.undef :: (AV.undef :: (AV.undef :: (AV.undef :: (AV.undef :: (AV.undef :: (AV.undef :: (AV.undef :: (AV.undef :: (AV.undef :: (AV.undef :: (AV.undef :: (AV.undef :: (AV.undef :: (AV.undef :: (AV.undef :: (AV.undef :: (AV.undef :: (AV.undef :: (AV.undef :: (AV.undef :: (AV.undef :: (AV.undef :: (AV.undef :: (AV.undef :: (AV.undef :: (AV.undef :: (AV.undef :: []))))))))))))))))))))))))))))))))))))))))))))) ((1000000,(Ent.box ((SV.int (Go.IntKind.i64) x3) :: ((SV.int (Go.IntKind.i64) x4) :: ((SV.con (⟨3,Ty.int Go.IntKind.i64,x5⟩:Rw)) :: []))))) :: []))
noncomputable def st79_top (n:Nat) (lL2:(List Int)→Int→Int→Int→Int→(List Int)→Option R79) (a:Int × Int × List Int):Option R79 :=
 lL2 (a.2.2) ((↑(List.length a.2.2):Int)) ((0:Int)) (a.1) (a.2.1) (a.2.2)
noncomputable def st79_L2 (n:Nat) (lL2:(List Int)→Int→Int→Int→Int→(List Int)→Option R79) (x0:List Int) (x1:Int) (x2:Int) (x3:Int) (x4:Int) (x5:List Int):Option R79 :=
 cond (decide (x2 < x1)) (cond (decide ((0:Int)≤x2)) (cond (decide (x2 < (↑x0.length:Int))) ((q61 n (x0.getD x2.toNat (0:Int),(0:Int),(9:Int),())).bind fun r1=>cond (!r1.1.1) (some ((false,()),())) (cond (decide ((0:Int) < x2)) (cond (decide ((0:Int)≤Go.IntKind.i64.wrap (x2 - (1:Int)))) (cond (decide (Go.IntKind.i64.wrap (x2 - (1:Int)) < (↑x5.length:Int))) (cond (decide (x0.getD x2.toNat (0:Int)≤x5.getD (Go.IntKind.i64.wrap (x2 - (1:Int))).toNat (0:Int))) (some ((false,()),())) (lL2 (x0) (x1) (Go.IntKind.i64.wrap (x2 + (1:Int))) (x3) (x4) (x5))) (none)) (none)) (lL2 (x0) (x1) (Go.IntKind.i64.wrap (x2 + (1:Int))) (x3) (x4) (x5)))) (none)) (none)) ((q61 n (x3,(0:Int),(9:Int),())).bind fun r2=>cond (r2.1.1) ((q61 n (x4,(0:Int),(9:Int),())).bind fun r3=>cond (r3.1.1) (some ((decide ((↑x5.length:Int)≤(3:Int)),()),())) (some ((false,()),()))) (some ((false,()),())))
theorem e79_top (n:Nat) (a:Int × Int × List Int):runF TT G79 an79 Try.f79 c79 ps79 rs79 n (a,())=st79_top n (fun x0 x1 x2 x3 x4 x5=>at79 n (.head 2) [n] (sh79_L2 x0 x1 x2 x3 x4 x5)) a:=by kernel_rfl
theorem e79_L2_0 (n:Nat) (x0:List Int) (x1:Int) (x2:Int) (x3:Int) (x4:Int) (x5:List Int):at79 n (.head 2) [0] (sh79_L2 x0 x1 x2 x3 x4 x5)=none:=by kernel_rfl
theorem e79_L2 (n:Nat) (m2:Nat) (x0:List Int) (x1:Int) (x2:Int) (x3:Int) (x4:Int) (x5:List Int):at79 n (.head 2) [m2 + 1] (sh79_L2 x0 x1 x2 x3 x4 x5)=st79_L2 n (fun x0 x1 x2 x3 x4 x5=>at79 n (.head 2) [m2] (sh79_L2 x0 x1 x2 x3 x4 x5)) x0 x1 x2 x3 x4 x5:=by kernel_rfl
noncomputable def p79_L2 (n:Nat):Nat→(List Int)→Int→Int→Int→Int→(List Int)→Option R79
 | 0,_,_,_,_,_,_=>none
 | m + 1,x0,x1,x2,x3,x4,x5=>st79_L2 n (p79_L2 n m) x0 x1 x2 x3 x4 x5
noncomputable def p79 (n:Nat) (a:Int × Int × List Int):Option R79:=st79_top n (p79_L2 n n) a
theorem t79_L2 (n:Nat):∀ (m2:Nat) (x0:List Int) (x1:Int) (x2:Int) (x3:Int) (x4:Int) (x5:List Int),at79 n (.head 2) [m2] (sh79_L2 x0 x1 x2 x3 x4 x5)=p79_L2 n m2 x0 x1 x2 x3 x4 x5:=by
 intro m
 induction m with
 | zero=>intros; rw [e79_L2_0]; rfl
 | succ m ih =>
  intros
  rw [e79_L2]
  try simp only [ih]
  rfl
theorem F79_eq (n:Nat) (a:Int × Int × List Int):runF TT G79 an79 Try.f79 c79 ps79 rs79 n (a,())=p79 n a:=by
 rw [e79_top]
 simp only [t79_L2]
 try rfl
noncomputable def q79 (n:Nat) (x:argsD ps79):Option R79:=p79 n x.1
noncomputable def Sm79:Sm:=⟨ps79,rs79,false,q79⟩
theorem holds79 (hg:GamOK Try.prog G79):Holds Try.prog 79 Sm79:=by
 have:=h0_79 hg
 have e:(runF TT G79 an79 Try.f79 c79 ps79 rs79)=q79:=by
  funext n x
  exact F79_eq n x.1
 rw [e] at this
 exact this
theorem gam79:GamOK Try.prog G79:=by
 intro f s h
 unfold G79 at h
 split at h
 ·injection h with h; subst h; exact ⟨⟨Try.f61,c61,Try.func61,by kernel_rfl,by decide +kernel⟩,hh61⟩
 ·cases h
theorem hh79:Holds Try.prog 79 Sm79:=holds79 gam79
end Go.Proofs.Ytbjgiioppmkpiaa.Rx.S

namespace Go.Proofs.Ytbjgiioppmkpiaa.Rx.S
open Go Go.RowKit Go.Proofs
set_option maxRecDepth 100000
noncomputable def c60:Code:=(Try.f60.body.getD .skip)
def an60:An:=⟨fun r=>match r with | 4=>⟨[3,17,18,19],[]⟩ | _=>⟨[],[]⟩,fun _ _=>none⟩
abbrev ps60:List PK:=[.val tFs true,.val tCr true,.val (.row 3 i64) false]
abbrev rs60:List RK:=[.val .bool false]
abbrev R60:=retsD rs60 × outsD ps60
noncomputable def G60:Gam:=fun f=>match f with | 19=>some Sm19 | 86=>some Sm86 | 79=>some Sm79 | _=>none
theorem h0_60 (hg:GamOK Try.prog G60):Holds Try.prog 60 ⟨ps60,rs60,false,runF TT G60 an60 Try.f60 c60 ps60 rs60⟩:=holds_of tt_ok hg mixed Try.func60 (by kernel_rfl) (by rfl) (by decide +kernel)
noncomputable def at60:Nat→Pt→List Nat→St→Option R60:=atF TT G60 an60 Try.f60 c60 _ _
def sh60_L4 (x0:List Int) (x1:Int) (x2:Int) (x3:List NT):St:=(St.mk (AV.undef :: (AV.undef :: (AV.undef :: ((AV.one (SV.bptr 1000000 0)) :: (AV.undef :: (AV.undef :: (AV.undef :: (AV.undef :: (AV.undef :: (AV.undef :: (AV.undef :: (AV.undef :: (AV.undef :: (AV.undef :: (AV.undef :: (AV.undef :: (AV.undef :: ((AV.one (SV.con (⟨3,Ty.int Go.IntKind.i64,x0⟩:Rw))) :: ((AV.one (SV.int (Go.IntKind.i64) x1)) :: ((AV.one (SV.int (Go.IntKind.i64) x2)) :: (AV.undef :: (AV.undef :: (AV.undef :: (AV.undef :: (AV.undef :: (AV.undef :: (AV.undef :: (AV.undef :: [])))))))))))))))))))))))))))) ((1000000,(Ent.box ((SV.con (⟨37,(Ty.int Go.IntKind.i64).pair ((Ty.int Go.IntKind.i64).pair ((Ty.int Go.IntKind.i64).pair ((Ty.int Go.IntKind.i64).pair ((Ty.int Go.IntKind.i64).pair ((Ty.int Go.IntKind.i64).pair (Ty.bool.pair (Ty.str.pair (Ty.row (nat_lit 100) (Ty.str.pair (Ty.int Go.IntKind.i64)))))))))),x3⟩:Rw)) :: []))) :: []))
noncomputable def st60_top (n:Nat) (lL4:(List Int)→Int→Int→(List NT)→Option R60) (a:List NT) (b:Int × Int × List Int) (c:List Int):Option R60 :=
 (q19 n (a,())).bind fun r0=>cond (!r0.1.1) (some ((false,()),())) ((q79 n ((b.1,b.2.1,b.2.2),())).bind fun r1=>cond (!r1.1.1) (some ((false,()),())) (lL4 (c) ((↑c.length:Int)) ((0:Int)) (a)))
noncomputable def st60_L4 (n:Nat) (lL4:(List Int)→Int→Int→(List NT)→Option R60) (x0:List Int) (x1:Int) (x2:Int) (x3:List NT):Option R60 :=
 cond (decide (x2 < x1)) (cond (decide ((0:Int)≤x2)) (cond (decide (x2 < (↑x0.length:Int))) ((q86 n (x3,x0.getD x2.toNat (0:Int),())).bind fun r3=>cond (!r3.1.1) (some ((false,()),())) (lL4 (x0) (x1) (Go.IntKind.i64.wrap (x2 + (1:Int))) (x3))) (none)) (none)) (some ((true,()),()))
theorem e60_top (n:Nat) (a:List NT) (b:Int × Int × List Int) (c:List Int):runF TT G60 an60 Try.f60 c60 ps60 rs60 n (a,b,c,())=st60_top n (fun x0 x1 x2 x3=>at60 n (.head 4) [n] (sh60_L4 x0 x1 x2 x3)) a b c:=by kernel_rfl
theorem e60_L4_0 (n:Nat) (x0:List Int) (x1:Int) (x2:Int) (x3:List NT):at60 n (.head 4) [0] (sh60_L4 x0 x1 x2 x3)=none:=by kernel_rfl
theorem e60_L4 (n:Nat) (m4:Nat) (x0:List Int) (x1:Int) (x2:Int) (x3:List NT):at60 n (.head 4) [m4 + 1] (sh60_L4 x0 x1 x2 x3)=st60_L4 n (fun x0 x1 x2 x3=>at60 n (.head 4) [m4] (sh60_L4 x0 x1 x2 x3)) x0 x1 x2 x3:=by kernel_rfl
noncomputable def p60_L4 (n:Nat):Nat→(List Int)→Int→Int→(List NT)→Option R60
 | 0,_,_,_,_=>none
 | m + 1,x0,x1,x2,x3=>st60_L4 n (p60_L4 n m) x0 x1 x2 x3
noncomputable def p60 (n:Nat) (a:List NT) (b:Int × Int × List Int) (c:List Int):Option R60:=st60_top n (p60_L4 n n) a b c
theorem t60_L4 (n:Nat):∀ (m4:Nat) (x0:List Int) (x1:Int) (x2:Int) (x3:List NT),at60 n (.head 4) [m4] (sh60_L4 x0 x1 x2 x3)=p60_L4 n m4 x0 x1 x2 x3:=by
 intro m
 induction m with
 | zero=>intros; rw [e60_L4_0]; rfl
 | succ m ih =>
  intros
  rw [e60_L4]
  try simp only [ih]
  rfl
theorem F60_eq (n:Nat) (a:List NT) (b:Int × Int × List Int) (c:List Int):runF TT G60 an60 Try.f60 c60 ps60 rs60 n (a,b,c,())=p60 n a b c:=by
 rw [e60_top]
 simp only [t60_L4]
 try rfl
noncomputable def q60 (n:Nat) (x:argsD ps60):Option R60:=p60 n x.1 x.2.1 x.2.2.1
noncomputable def Sm60:Sm:=⟨ps60,rs60,false,q60⟩
theorem holds60 (hg:GamOK Try.prog G60):Holds Try.prog 60 Sm60:=by
 have:=h0_60 hg
 have e:(runF TT G60 an60 Try.f60 c60 ps60 rs60)=q60:=by
  funext n x
  exact F60_eq n x.1 x.2.1 x.2.2.1
 rw [e] at this
 exact this
theorem gam60:GamOK Try.prog G60:=by
 intro f s h
 unfold G60 at h
 split at h
 ·injection h with h; subst h; exact ⟨⟨Try.f19,c19,Try.func19,by kernel_rfl,by decide +kernel⟩,hh19⟩
 ·injection h with h; subst h; exact ⟨⟨Try.f86,c86,Try.func86,by kernel_rfl,by decide +kernel⟩,hh86⟩
 ·injection h with h; subst h; exact ⟨⟨Try.f79,c79,Try.func79,by kernel_rfl,by decide +kernel⟩,hh79⟩
 ·cases h
theorem hh60:Holds Try.prog 60 Sm60:=holds60 gam60
end Go.Proofs.Ytbjgiioppmkpiaa.Rx.S

namespace Go.Proofs.Ytbjgiioppmkpiaa.Rx.S
open Go Go.RowKit Go.Proofs
set_option maxRecDepth 100000
noncomputable def c114:Code:=(Try.f114.body.getD .skip)
abbrev ps114:List PK:=[.val (.row 37 (tIn 100)) false]
abbrev rs114:List RK:=[.half 37 (tIn 100) 8]
abbrev R114:=retsD rs114 × outsD ps114
noncomputable def p114 (n:Nat) (a:List NT):Option R114:=cond (decide (a.length * (96:Nat)≤(140737488355328:Nat))) (some ((a,()),())) none
noncomputable def q114 (n:Nat) (x:argsD ps114):Option R114:=p114 n x.1
noncomputable def Sm114:Sm:=⟨ps114,rs114,true,q114⟩
noncomputable def S0_93 (n:Nat) (xs:List NT):St:=(initS Try.f114.ntmps ps114 (xs,())).put (some 2) (.one .nil)
noncomputable def S1_93 (n:Nat) (xs:List NT):St:=(S0_93 n xs).put (some 3) (.one (.con ⟨37,(tIn 100),xs⟩))
theorem gam0_93:GamOK Try.prog (fun _=>none):=fun f s h=>by cases h
theorem hh114:Holds Try.prog 114 Sm114:=by
 refine holds_nilq tt_ok gam0_93 mixed (an:=⟨fun _=>⟨[],[]⟩,fun _ _=>none⟩) Try.func114 (by rfl) rfl (by first | exact Try.underlying23 | kernel_rfl) (by decide +kernel) S0_93 (fun n xs=>by kernel_rfl) S1_93 (fun n xs=>by kernel_rfl) (fun n xs=>rfl) (fun n xs b=>by kernel_rfl) (fun n y h=>?_) (fun n xs y h=>?_)
 ·have h':some (([],()),())=some y:=h
  refine Eq.trans ?_ h'
  kernel_rfl
 ·have h':cond (decide (xs.length * (96:Nat)≤(140737488355328:Nat))) (some ((xs,()),())) none=some y:=h
  refine Eq.trans ?_ h'
  kernel_rfl
end Go.Proofs.Ytbjgiioppmkpiaa.Rx.S

namespace Go.Proofs.Ytbjgiioppmkpiaa.Rx.S
open Go Go.RowKit Go.Proofs
set_option maxRecDepth 100000
noncomputable def c115:Code:=(Try.f115.body.getD .skip)
abbrev ps115:List PK:=[.val (.row 100 tEn) false]
abbrev rs115:List RK:=[.own (.row 100 tEn) false]
abbrev R115:=retsD rs115 × outsD ps115
noncomputable def p115 (n:Nat) (a:List (ByteArray × Int)):Option R115:=cond (decide ((0 + a.length) * (24:Nat)≤(140737488355328:Nat))) (some ((a,()),())) none
noncomputable def q115 (n:Nat) (x:argsD ps115):Option R115:=p115 n x.1
noncomputable def Sm115:Sm:=⟨ps115,rs115,false,q115⟩
noncomputable def S0_94 (n:Nat) (xs:List (ByteArray × Int)):St:=(initS Try.f115.ntmps ps115 (xs,())).put (some 2) (.one .nil)
noncomputable def S1_94 (n:Nat) (xs:List (ByteArray × Int)):St:=(S0_94 n xs).put (some 3) (.one (.con ⟨100,tEn,xs⟩))
theorem gam0_94:GamOK Try.prog (fun _=>none):=fun f s h=>by cases h
theorem hh115:Holds Try.prog 115 Sm115:=by
 refine holds_nilq tt_ok gam0_94 mixed (an:=⟨fun _=>⟨[],[]⟩,fun _ _=>none⟩) Try.func115 (by rfl) rfl (by first | exact Try.underlying37 | kernel_rfl) (by decide +kernel) S0_94 (fun n xs=>by kernel_rfl) S1_94 (fun n xs=>by kernel_rfl) (fun n xs=>rfl) (fun n xs b=>by kernel_rfl) (fun n y h=>?_) (fun n xs y h=>?_)
 ·have h':some (([],()),())=some y:=h
  refine Eq.trans ?_ h'
  kernel_rfl
 ·have h':cond (decide ((0 + xs.length) * (24:Nat)≤(140737488355328:Nat))) (some ((xs,()),())) none=some y:=h
  refine Eq.trans ?_ h'
  kernel_rfl
end Go.Proofs.Ytbjgiioppmkpiaa.Rx.S

namespace Go.Proofs.Ytbjgiioppmkpiaa.Rx.S
open Go Go.RowKit Go.Proofs
set_option maxRecDepth 100000
noncomputable def c62:Code:=(Try.f62.body.getD .skip)
def an62:An:=⟨fun r=>match r with | 3=>⟨[2,3,11,12],[]⟩ | _=>⟨[],[]⟩,fun _ _=>none⟩
abbrev ps62:List PK:=[.val tFs true]
abbrev rs62:List RK:=[.own tFs true]
abbrev R62:=retsD rs62 × outsD ps62
noncomputable def G62:Gam:=fun f=>match f with | 114=>some Sm114 | 115=>some Sm115 | _=>none
theorem h0_62 (hg:GamOK Try.prog G62):Holds Try.prog 62 ⟨ps62,rs62,false,runF TT G62 an62 Try.f62 c62 ps62 rs62⟩:=holds_of tt_ok hg mixed Try.func62 (by kernel_rfl) (by rfl) (by decide +kernel)
noncomputable def at62:Nat→Pt→List Nat→St→Option R62:=atF TT G62 an62 Try.f62 c62 _ _
def sh62_L3 (x0:Int) (x1:Int) (x2:List NT) (x3:Int):St:=(St.mk (AV.undef :: (AV.undef :: ((AV.one (SV.bptr 1000000 0)) :: ((AV.one (SV.bptr 1000001 0)) :: (AV.undef :: (AV.undef :: (AV.undef :: (AV.undef :: (AV.undef :: (AV.undef :: (AV.undef :: ((AV.one (SV.int (Go.IntKind.i64) x0)) :: ((AV.one (SV.int (Go.IntKind.i64) x1)) :: (AV.undef :: (AV.undef :: (AV.undef :: (AV.undef :: (AV.undef :: (AV.undef :: (AV.undef :: (AV.undef :: (AV.undef :: (AV.undef :: (AV.undef :: (AV.undef :: (AV.undef :: (AV.undef :: (AV.undef :: (AV.undef :: []))))))))))))))))))))))))))))) ((1000000,(Ent.box (SV.nil :: []))) :: ((1000001,(Ent.box ((SV.ref 1000002 0 [] Option.none) :: []))) :: ((1000002,(Ent.half (⟨37,(Ty.int Go.IntKind.i64).pair ((Ty.int Go.IntKind.i64).pair ((Ty.int Go.IntKind.i64).pair ((Ty.int Go.IntKind.i64).pair ((Ty.int Go.IntKind.i64).pair ((Ty.int Go.IntKind.i64).pair (Ty.bool.pair (Ty.str.pair (Ty.row (nat_lit 100) (Ty.str.pair (Ty.int Go.IntKind.i64)))))))))),x2⟩:Rw) x3 8)) :: []))))
noncomputable def st62_top (n:Nat) (lL3:Int→Int→(List NT)→Int→Option R62) (a:List NT):Option R62 :=
 (q114 n (a,())).bind fun r0=>lL3 ((↑(List.length r0.1.1):Int)) ((0:Int)) (r0.1.1) ((0:Int))
noncomputable def st62_L3 (n:Nat) (lL3:Int→Int→(List NT)→Int→Option R62) (x0:Int) (x1:Int) (x2:List NT) (x3:Int):Option R62 :=
 cond (decide (x1 < x0)) (cond (decide ((0:Int)≤x1)) (cond (decide (x1 < (↑x2.length:Int))) (cond (decide (x3≤(↑x1.toNat:Int))) ((q115 n ((x2.getD x1.toNat ZN).2.2.2.2.2.2.2.2,())).bind fun r2=>cond (decide ((0:Int)≤x1)) (cond (decide (x1 < (↑x2.length:Int))) (cond (decide (x3=(↑x1.toNat:Int))) (lL3 (x0) (Go.IntKind.i64.wrap (x1 + (1:Int))) (x2.set x1.toNat ((x2.getD x1.toNat ZN).1,(x2.getD x1.toNat ZN).2.1,(x2.getD x1.toNat ZN).2.2.1,(x2.getD x1.toNat ZN).2.2.2.1,(x2.getD x1.toNat ZN).2.2.2.2.1,(x2.getD x1.toNat ZN).2.2.2.2.2.1,(x2.getD x1.toNat ZN).2.2.2.2.2.2.1,(x2.getD x1.toNat ZN).2.2.2.2.2.2.2.1,r2.1.1)) (x3 + (1:Int))) (none)) (none)) (none)) (none)) (none)) (none)) (cond (decide ((↑x2.length:Int)≤x3)) (some ((x2,()),())) (none))
theorem e62_top (n:Nat) (a:List NT):runF TT G62 an62 Try.f62 c62 ps62 rs62 n (a,())=st62_top n (fun x0 x1 x2 x3=>at62 n (.head 3) [n] (sh62_L3 x0 x1 x2 x3)) a:=by kernel_rfl
theorem e62_L3_0 (n:Nat) (x0:Int) (x1:Int) (x2:List NT) (x3:Int):at62 n (.head 3) [0] (sh62_L3 x0 x1 x2 x3)=none:=by kernel_rfl
theorem e62_L3 (n:Nat) (m3:Nat) (x0:Int) (x1:Int) (x2:List NT) (x3:Int):at62 n (.head 3) [m3 + 1] (sh62_L3 x0 x1 x2 x3)=st62_L3 n (fun x0 x1 x2 x3=>at62 n (.head 3) [m3] (sh62_L3 x0 x1 x2 x3)) x0 x1 x2 x3:=by kernel_rfl
noncomputable def p62_L3 (n:Nat):Nat→Int→Int→(List NT)→Int→Option R62
 | 0,_,_,_,_=>none
 | m + 1,x0,x1,x2,x3=>st62_L3 n (p62_L3 n m) x0 x1 x2 x3
noncomputable def p62 (n:Nat) (a:List NT):Option R62:=st62_top n (p62_L3 n n) a
theorem t62_L3 (n:Nat):∀ (m3:Nat) (x0:Int) (x1:Int) (x2:List NT) (x3:Int),at62 n (.head 3) [m3] (sh62_L3 x0 x1 x2 x3)=p62_L3 n m3 x0 x1 x2 x3:=by
 intro m
 induction m with
 | zero=>intros; rw [e62_L3_0]; rfl
 | succ m ih =>
  intros
  rw [e62_L3]
  try simp only [ih]
  rfl
theorem F62_eq (n:Nat) (a:List NT):runF TT G62 an62 Try.f62 c62 ps62 rs62 n (a,())=p62 n a:=by
 rw [e62_top]
 simp only [t62_L3]
 try rfl
noncomputable def q62 (n:Nat) (x:argsD ps62):Option R62:=p62 n x.1
noncomputable def Sm62:Sm:=⟨ps62,rs62,false,q62⟩
theorem holds62 (hg:GamOK Try.prog G62):Holds Try.prog 62 Sm62:=by
 have:=h0_62 hg
 have e:(runF TT G62 an62 Try.f62 c62 ps62 rs62)=q62:=by
  funext n x
  exact F62_eq n x.1
 rw [e] at this
 exact this
theorem gam62:GamOK Try.prog G62:=by
 intro f s h
 unfold G62 at h
 split at h
 ·injection h with h; subst h; exact ⟨⟨Try.f114,c114,Try.func114,by kernel_rfl,by decide +kernel⟩,hh114⟩
 ·injection h with h; subst h; exact ⟨⟨Try.f115,c115,Try.func115,by kernel_rfl,by decide +kernel⟩,hh115⟩
 ·cases h
theorem hh62:Holds Try.prog 62 Sm62:=holds62 gam62
end Go.Proofs.Ytbjgiioppmkpiaa.Rx.S

namespace Go.Proofs.Ytbjgiioppmkpiaa.Rx.S
open Go Go.RowKit Go.Proofs
set_option maxRecDepth 100000
abbrev ps107:List PK:=[.val i64 false,.val i64 false]
abbrev rs107:List RK:=[.val i64 false]
abbrev R107:=retsD rs107 × outsD ps107
noncomputable def st107_top (n:Nat) (a:Int) (b:Int):Option R107 :=
 cond (decide ((0:Int)≤Go.IntKind.i64.wrap ((3:Int) * Go.IntKind.i64.wrap ((2:Int) - b)))) (some ((Go.IntKind.i64.wrap (↑(BitVec.ofInt Go.IntKind.i64.bits (a.fdiv ((2:Int) ^ min (Go.IntKind.i64.wrap ((3:Int) * Go.IntKind.i64.wrap ((2:Int) - b))).toNat Go.IntKind.i64.bits)) &&& BitVec.ofInt Go.IntKind.i64.bits (7:Int)).toNat:Int),()),())) (none)
noncomputable def p107 (n:Nat) (a:Int) (b:Int):Option R107:=st107_top n a b
noncomputable def q107 (n:Nat) (x:argsD ps107):Option R107:=p107 n x.1 x.2.1
end Go.Proofs.Ytbjgiioppmkpiaa.Rx.S

namespace Go.Proofs.Ytbjgiioppmkpiaa.Rx.S
open Go Go.RowKit Go.Proofs
set_option maxRecDepth 100000
abbrev ps141:List PK:=[.val (.row 3 i64) false,.val i64 false]
abbrev rs141:List RK:=[.val i64 false]
abbrev R141:=retsD rs141 × outsD ps141
noncomputable def st141_top (n:Nat) (lL2:(List Int)→Int→Int→Int→Option R141) (a:List Int) (b:Int):Option R141 :=
 lL2 (a) (b) ((↑a.length:Int)) ((0:Int))
noncomputable def st141_L2 (n:Nat) (lL2:(List Int)→Int→Int→Int→Option R141) (x0:List Int) (x1:Int) (x2:Int) (x3:Int):Option R141 :=
 cond (decide (x3 < x2)) (cond (decide ((0:Int)≤x3)) (cond (decide (x3 < (↑x0.length:Int))) (cond (decide (x1=x0.getD x3.toNat (0:Int))) (some ((x3,()),())) (lL2 (x0) (x1) (x2) (Go.IntKind.i64.wrap (x3 + (1:Int))))) (none)) (none)) (some (((-1:Int),()),()))
noncomputable def p141_L2 (n:Nat):Nat→(List Int)→Int→Int→Int→Option R141
 | 0,_,_,_,_=>none
 | m + 1,x0,x1,x2,x3=>st141_L2 n (p141_L2 n m) x0 x1 x2 x3
noncomputable def p141 (n:Nat) (a:List Int) (b:Int):Option R141:=st141_top n (p141_L2 n n) a b
noncomputable def q141 (n:Nat) (x:argsD ps141):Option R141:=p141 n x.1 x.2.1
end Go.Proofs.Ytbjgiioppmkpiaa.Rx.S

namespace Go.Proofs.Ytbjgiioppmkpiaa.Rx.S
open Go Go.RowKit Go.Proofs
set_option maxRecDepth 100000
abbrev ps108:List PK:=[.val (.row 3 i64) false,.val i64 false]
abbrev rs108:List RK:=[.val .bool false]
abbrev R108:=retsD rs108 × outsD ps108
noncomputable def st108_top (n:Nat) (a:List Int) (b:Int):Option R108 :=
 (q141 n (a,b,())).bind fun r0=>some ((decide ((0:Int)≤r0.1.1),()),())
noncomputable def p108 (n:Nat) (a:List Int) (b:Int):Option R108:=st108_top n a b
noncomputable def q108 (n:Nat) (x:argsD ps108):Option R108:=p108 n x.1 x.2.1
end Go.Proofs.Ytbjgiioppmkpiaa.Rx.S

namespace Go.Proofs.Ytbjgiioppmkpiaa.Rx.S
open Go Go.RowKit Go.Proofs
set_option maxRecDepth 100000
abbrev ps48:List PK:=[.val tCr true,.val i64 false,.val i64 false,.val i64 false,.val i64 false]
abbrev rs48:List RK:=[.val .bool false]
abbrev R48:=retsD rs48 × outsD ps48
noncomputable def st48_top (n:Nat) (a:Int × Int × List Int) (b:Int) (c:Int) (d:Int) (e:Int):Option R48 :=
 (q79 n ((a.1,a.2.1,a.2.2),())).bind fun r0=>cond (!r0.1.1) (some ((false,()),())) ((q61 n (b,(0:Int),(9:Int),())).bind fun r1=>cond (!r1.1.1) (some ((false,()),())) ((q61 n (c,(0:Int),(9:Int),())).bind fun r2=>cond (!r2.1.1) (some ((false,()),())) ((q61 n (d,(0:Int),(511:Int),())).bind fun r3=>cond (!r3.1.1) (some ((false,()),())) ((q61 n (e,(1:Int),(7:Int),())).bind fun r4=>cond (!r4.1.1) (some ((false,()),())) (cond (decide (a.1=(0:Int))) (cond (decide (Go.IntKind.i64.wrap (↑(BitVec.ofInt Go.IntKind.i64.bits e &&& BitVec.ofInt Go.IntKind.i64.bits (1:Int)).toNat:Int)=(0:Int))) (some ((true,()),())) ((q107 n (d,(0:Int),())).bind fun r5=>(q107 n (d,(1:Int),())).bind fun r6=>(q107 n (d,(2:Int),())).bind fun r7=>some ((decide (Go.IntKind.i64.wrap (↑(BitVec.ofInt Go.IntKind.i64.bits (Go.IntKind.i64.wrap (↑(BitVec.ofInt Go.IntKind.i64.bits (Go.IntKind.i64.wrap (↑(BitVec.ofInt Go.IntKind.i64.bits r5.1.1|||BitVec.ofInt Go.IntKind.i64.bits r6.1.1).toNat:Int))|||BitVec.ofInt Go.IntKind.i64.bits r7.1.1).toNat:Int)) &&& BitVec.ofInt Go.IntKind.i64.bits (1:Int)).toNat:Int)=(1:Int)),()),()))) (cond (decide (a.1=b)) ((q107 n (d,(0:Int),())).bind fun r8=>some ((decide (Go.IntKind.i64.wrap (↑(BitVec.ofInt Go.IntKind.i64.bits r8.1.1 &&& BitVec.ofInt Go.IntKind.i64.bits e).toNat:Int)=e),()),())) ((q108 n (a.2.2,c,())).bind fun r9=>cond (r9.1.1) ((q107 n (d,(1:Int),())).bind fun r10=>some ((decide (Go.IntKind.i64.wrap (↑(BitVec.ofInt Go.IntKind.i64.bits r10.1.1 &&& BitVec.ofInt Go.IntKind.i64.bits e).toNat:Int)=e),()),())) ((q107 n (d,(2:Int),())).bind fun r11=>some ((decide (Go.IntKind.i64.wrap (↑(BitVec.ofInt Go.IntKind.i64.bits r11.1.1 &&& BitVec.ofInt Go.IntKind.i64.bits e).toNat:Int)=e),()),())))))))))
noncomputable def p48 (n:Nat) (a:Int × Int × List Int) (b:Int) (c:Int) (d:Int) (e:Int):Option R48:=st48_top n a b c d e
noncomputable def q48 (n:Nat) (x:argsD ps48):Option R48:=p48 n x.1 x.2.1 x.2.2.1 x.2.2.2.1 x.2.2.2.2.1
end Go.Proofs.Ytbjgiioppmkpiaa.Rx.S

namespace Go.Proofs.Ytbjgiioppmkpiaa.Rx.S
open Go Go.RowKit Go.Proofs
set_option maxRecDepth 100000
abbrev ps72:List PK:=[.val (tIn 100) true,.val tCr true,.val i64 false]
abbrev rs72:List RK:=[.val .bool false]
abbrev R72:=retsD rs72 × outsD ps72
noncomputable def st72_top (n:Nat) (a:NT) (b:Int × Int × List Int) (c:Int):Option R72 :=
 (q48 n ((b.1,b.2.1,b.2.2),a.2.2.1,a.2.2.2.1,a.2.1,c,())).bind fun r0=>some ((r0.1.1,()),())
noncomputable def p72 (n:Nat) (a:NT) (b:Int × Int × List Int) (c:Int):Option R72:=st72_top n a b c
noncomputable def q72 (n:Nat) (x:argsD ps72):Option R72:=p72 n x.1 x.2.1 x.2.2.1
end Go.Proofs.Ytbjgiioppmkpiaa.Rx.S

namespace Go.Proofs.Ytbjgiioppmkpiaa.Rx.S
open Go Go.RowKit Go.Proofs
set_option maxRecDepth 100000
abbrev ps74:List PK:=[.bo tFs,.val i64 false]
abbrev rs74:List RK:=[]
abbrev R74:=retsD rs74 × outsD ps74
noncomputable def st74_top (n:Nat) (a:List NT) (b:Int):Option R74 :=
 cond (decide ((0:Int)≤b)) (cond (decide (b < (↑a.length:Int))) (cond (!decide (b=(0:Int))) (cond (decide ((a.getD b.toNat ZN).2.2.2.2.1=(0:Int))) (cond (decide ((a.getD b.toNat ZN).2.2.2.2.2.1=(0:Int))) (some ((),(a.set b.toNat ZN,()))) (some ((),(a,())))) (some ((),(a,())))) (some ((),(a,())))) (none)) (none)
noncomputable def p74 (n:Nat) (a:List NT) (b:Int):Option R74:=st74_top n a b
noncomputable def q74 (n:Nat) (x:argsD ps74):Option R74:=p74 n x.1 x.2.1
end Go.Proofs.Ytbjgiioppmkpiaa.Rx.S

namespace Go.Proofs.Ytbjgiioppmkpiaa.Rx.S
open Go Go.Proofs.Ytbjgiioppmkpiaa.Rx Go.RowKit Go.Proofs
abbrev ps124:List PK:=[.own (.row 100 tEn) false,.val i64 false,.val i64 false]
abbrev rs124:List RK:=[.own (.row 100 tEn) false]
abbrev R124:=retsD rs124 × outsD ps124
def p124 (n:Nat) (a:List (ByteArray × Int)) (b:Int) (c:Int):Option R124 :=
 cond (decide (0≤b)) (cond (decide (b < a.length)) (cond (decide (c=b + 1)) (some ((a.take b.toNat ++ a.drop (b.toNat + 1),()),())) none) none) none
noncomputable def q124 (n:Nat) (x:argsD ps124):Option R124:=p124 n x.1 x.2.1 x.2.2.1
end Go.Proofs.Ytbjgiioppmkpiaa.Rx.S

namespace Go.Proofs.Ytbjgiioppmkpiaa.Rx.S
open Go Go.RowKit Go.Proofs
set_option maxRecDepth 100000
abbrev ps75:List PK:=[.bo tFs,.val i64 false,.val .str false]
abbrev rs75:List RK:=[.val i64 false]
abbrev R75:=retsD rs75 × outsD ps75
noncomputable def st75_top (n:Nat) (a:List NT) (b:Int) (c:ByteArray):Option R75 :=
 cond (decide ((0:Int)≤b)) (cond (decide (b < (↑a.length:Int))) ((q73 n (((a.getD b.toNat ZN).1,(a.getD b.toNat ZN).2.1,(a.getD b.toNat ZN).2.2.1,(a.getD b.toNat ZN).2.2.2.1,(a.getD b.toNat ZN).2.2.2.2.1,(a.getD b.toNat ZN).2.2.2.2.2.1,(a.getD b.toNat ZN).2.2.2.2.2.2.1,(a.getD b.toNat ZN).2.2.2.2.2.2.2.1,(a.getD b.toNat ZN).2.2.2.2.2.2.2.2),c,())).bind fun r0=>cond (decide ((0:Int)≤r0.1.1)) (cond (decide (r0.1.1 < (↑(List.length (a.getD b.toNat ZN).2.2.2.2.2.2.2.2):Int))) ((q124 n ((a.getD b.toNat ZN).2.2.2.2.2.2.2.2,r0.1.1,Go.IntKind.i64.wrap (r0.1.1 + (1:Int)),())).bind fun r1=>cond (decide ((↑b.toNat:Int)=(↑b.toNat:Int))) (cond (decide ((0:Int)≤(List.getD (a.getD b.toNat ZN).2.2.2.2.2.2.2.2 (Int.toNat r0.1.1) (ByteArray.empty,(0:Int))).2)) (cond (decide ((List.getD (a.getD b.toNat ZN).2.2.2.2.2.2.2.2 (Int.toNat r0.1.1) (ByteArray.empty,(0:Int))).2 < (↑(a.set b.toNat ((a.getD b.toNat ZN).1,(a.getD b.toNat ZN).2.1,(a.getD b.toNat ZN).2.2.1,(a.getD b.toNat ZN).2.2.2.1,(a.getD b.toNat ZN).2.2.2.2.1,(a.getD b.toNat ZN).2.2.2.2.2.1,(a.getD b.toNat ZN).2.2.2.2.2.2.1,(a.getD b.toNat ZN).2.2.2.2.2.2.2.1,r1.1.1)).length:Int))) (cond (decide ((0:Int)≤(List.getD (a.getD b.toNat ZN).2.2.2.2.2.2.2.2 (Int.toNat r0.1.1) (ByteArray.empty,(0:Int))).2)) (cond (decide ((List.getD (a.getD b.toNat ZN).2.2.2.2.2.2.2.2 (Int.toNat r0.1.1) (ByteArray.empty,(0:Int))).2 < (↑(a.set b.toNat ((a.getD b.toNat ZN).1,(a.getD b.toNat ZN).2.1,(a.getD b.toNat ZN).2.2.1,(a.getD b.toNat ZN).2.2.2.1,(a.getD b.toNat ZN).2.2.2.2.1,(a.getD b.toNat ZN).2.2.2.2.2.1,(a.getD b.toNat ZN).2.2.2.2.2.2.1,(a.getD b.toNat ZN).2.2.2.2.2.2.2.1,r1.1.1)).length:Int))) (some (((List.getD (a.getD b.toNat ZN).2.2.2.2.2.2.2.2 (Int.toNat r0.1.1) (ByteArray.empty,(0:Int))).2,()),((a.set b.toNat ((a.getD b.toNat ZN).1,(a.getD b.toNat ZN).2.1,(a.getD b.toNat ZN).2.2.1,(a.getD b.toNat ZN).2.2.2.1,(a.getD b.toNat ZN).2.2.2.2.1,(a.getD b.toNat ZN).2.2.2.2.2.1,(a.getD b.toNat ZN).2.2.2.2.2.2.1,(a.getD b.toNat ZN).2.2.2.2.2.2.2.1,r1.1.1)).set (Int.toNat (List.getD (a.getD b.toNat ZN).2.2.2.2.2.2.2.2 (Int.toNat r0.1.1) (ByteArray.empty,(0:Int))).2) (((a.set b.toNat ((a.getD b.toNat ZN).1,(a.getD b.toNat ZN).2.1,(a.getD b.toNat ZN).2.2.1,(a.getD b.toNat ZN).2.2.2.1,(a.getD b.toNat ZN).2.2.2.2.1,(a.getD b.toNat ZN).2.2.2.2.2.1,(a.getD b.toNat ZN).2.2.2.2.2.2.1,(a.getD b.toNat ZN).2.2.2.2.2.2.2.1,r1.1.1)).getD (Int.toNat (List.getD (a.getD b.toNat ZN).2.2.2.2.2.2.2.2 (Int.toNat r0.1.1) (ByteArray.empty,(0:Int))).2) ZN).1,((a.set b.toNat ((a.getD b.toNat ZN).1,(a.getD b.toNat ZN).2.1,(a.getD b.toNat ZN).2.2.1,(a.getD b.toNat ZN).2.2.2.1,(a.getD b.toNat ZN).2.2.2.2.1,(a.getD b.toNat ZN).2.2.2.2.2.1,(a.getD b.toNat ZN).2.2.2.2.2.2.1,(a.getD b.toNat ZN).2.2.2.2.2.2.2.1,r1.1.1)).getD (Int.toNat (List.getD (a.getD b.toNat ZN).2.2.2.2.2.2.2.2 (Int.toNat r0.1.1) (ByteArray.empty,(0:Int))).2) ZN).2.1,((a.set b.toNat ((a.getD b.toNat ZN).1,(a.getD b.toNat ZN).2.1,(a.getD b.toNat ZN).2.2.1,(a.getD b.toNat ZN).2.2.2.1,(a.getD b.toNat ZN).2.2.2.2.1,(a.getD b.toNat ZN).2.2.2.2.2.1,(a.getD b.toNat ZN).2.2.2.2.2.2.1,(a.getD b.toNat ZN).2.2.2.2.2.2.2.1,r1.1.1)).getD (Int.toNat (List.getD (a.getD b.toNat ZN).2.2.2.2.2.2.2.2 (Int.toNat r0.1.1) (ByteArray.empty,(0:Int))).2) ZN).2.2.1,((a.set b.toNat ((a.getD b.toNat ZN).1,(a.getD b.toNat ZN).2.1,(a.getD b.toNat ZN).2.2.1,(a.getD b.toNat ZN).2.2.2.1,(a.getD b.toNat ZN).2.2.2.2.1,(a.getD b.toNat ZN).2.2.2.2.2.1,(a.getD b.toNat ZN).2.2.2.2.2.2.1,(a.getD b.toNat ZN).2.2.2.2.2.2.2.1,r1.1.1)).getD (Int.toNat (List.getD (a.getD b.toNat ZN).2.2.2.2.2.2.2.2 (Int.toNat r0.1.1) (ByteArray.empty,(0:Int))).2) ZN).2.2.2.1,Go.IntKind.i64.wrap (((a.set b.toNat ((a.getD b.toNat ZN).1,(a.getD b.toNat ZN).2.1,(a.getD b.toNat ZN).2.2.1,(a.getD b.toNat ZN).2.2.2.1,(a.getD b.toNat ZN).2.2.2.2.1,(a.getD b.toNat ZN).2.2.2.2.2.1,(a.getD b.toNat ZN).2.2.2.2.2.2.1,(a.getD b.toNat ZN).2.2.2.2.2.2.2.1,r1.1.1)).getD (Int.toNat (List.getD (a.getD b.toNat ZN).2.2.2.2.2.2.2.2 (Int.toNat r0.1.1) (ByteArray.empty,(0:Int))).2) ZN).2.2.2.2.1 - (1:Int)),((a.set b.toNat ((a.getD b.toNat ZN).1,(a.getD b.toNat ZN).2.1,(a.getD b.toNat ZN).2.2.1,(a.getD b.toNat ZN).2.2.2.1,(a.getD b.toNat ZN).2.2.2.2.1,(a.getD b.toNat ZN).2.2.2.2.2.1,(a.getD b.toNat ZN).2.2.2.2.2.2.1,(a.getD b.toNat ZN).2.2.2.2.2.2.2.1,r1.1.1)).getD (Int.toNat (List.getD (a.getD b.toNat ZN).2.2.2.2.2.2.2.2 (Int.toNat r0.1.1) (ByteArray.empty,(0:Int))).2) ZN).2.2.2.2.2),()))) (none)) (none)) (none)) (none)) (none)) (none)) (none)) (none)) (none)
noncomputable def p75 (n:Nat) (a:List NT) (b:Int) (c:ByteArray):Option R75:=st75_top n a b c
noncomputable def q75 (n:Nat) (x:argsD ps75):Option R75:=p75 n x.1 x.2.1 x.2.2.1
end Go.Proofs.Ytbjgiioppmkpiaa.Rx.S

namespace Go.Proofs.Ytbjgiioppmkpiaa.Rx.S
open Go Go.RowKit Go.Proofs
set_option maxRecDepth 100000
abbrev ps21:List PK:=[.val tFs true,.val tCr true,.val i64 false,.val .str false]
abbrev rs21:List RK:=[.own tFs true,.val i64 false]
abbrev R21:=retsD rs21 × outsD ps21
noncomputable def st21_top (n:Nat) (a:List NT) (b:Int × Int × List Int) (c:Int) (d:ByteArray):Option R21 :=
 (q60 n (a,(b.1,b.2.1,b.2.2),[c],())).bind fun r0=>cond (!r0.1.1) (some (([],((1:Int),())),())) ((q70 n (d,())).bind fun r1=>cond (!r1.1.1) (some (([],((1:Int),())),())) ((q62 n (a,())).bind fun r2=>cond (decide ((0:Int)≤c)) (cond (decide (c < (↑a.length:Int))) (cond (!decide ((a.getD c.toNat ZN).1=(2:Int))) (some ((r2.1.1,((4:Int),())),())) ((q72 n (((a.getD c.toNat ZN).1,(a.getD c.toNat ZN).2.1,(a.getD c.toNat ZN).2.2.1,(a.getD c.toNat ZN).2.2.2.1,(a.getD c.toNat ZN).2.2.2.2.1,(a.getD c.toNat ZN).2.2.2.2.2.1,(a.getD c.toNat ZN).2.2.2.2.2.2.1,(a.getD c.toNat ZN).2.2.2.2.2.2.2.1,(a.getD c.toNat ZN).2.2.2.2.2.2.2.2),(b.1,b.2.1,b.2.2),(3:Int),())).bind fun r3=>cond (!r3.1.1) (some ((r2.1.1,((5:Int),())),())) ((q73 n (((a.getD c.toNat ZN).1,(a.getD c.toNat ZN).2.1,(a.getD c.toNat ZN).2.2.1,(a.getD c.toNat ZN).2.2.2.1,(a.getD c.toNat ZN).2.2.2.2.1,(a.getD c.toNat ZN).2.2.2.2.2.1,(a.getD c.toNat ZN).2.2.2.2.2.2.1,(a.getD c.toNat ZN).2.2.2.2.2.2.2.1,(a.getD c.toNat ZN).2.2.2.2.2.2.2.2),d,())).bind fun r4=>cond (!r4.1.2.1) (some ((r2.1.1,((2:Int),())),())) (cond (decide ((0:Int)≤r4.1.1)) (cond (decide (r4.1.1 < (↑(List.length (a.getD c.toNat ZN).2.2.2.2.2.2.2.2):Int))) (cond (decide ((0:Int)≤(List.getD (a.getD c.toNat ZN).2.2.2.2.2.2.2.2 (Int.toNat r4.1.1) (ByteArray.empty,(0:Int))).2)) (cond (decide ((List.getD (a.getD c.toNat ZN).2.2.2.2.2.2.2.2 (Int.toNat r4.1.1) (ByteArray.empty,(0:Int))).2 < (↑a.length:Int))) (cond (decide ((a.getD (Int.toNat (List.getD (a.getD c.toNat ZN).2.2.2.2.2.2.2.2 (Int.toNat r4.1.1) (ByteArray.empty,(0:Int))).2) ZN).1=(2:Int))) (cond (decide ((0:Int) < (↑(List.length (a.getD (Int.toNat (List.getD (a.getD c.toNat ZN).2.2.2.2.2.2.2.2 (Int.toNat r4.1.1) (ByteArray.empty,(0:Int))).2) ZN).2.2.2.2.2.2.2.2):Int))) (some ((r2.1.1,((6:Int),())),())) (cond (decide ((0:Int) < (a.getD (Int.toNat (List.getD (a.getD c.toNat ZN).2.2.2.2.2.2.2.2 (Int.toNat r4.1.1) (ByteArray.empty,(0:Int))).2) ZN).2.2.2.2.2.1)) (some ((r2.1.1,((6:Int),())),())) ((q75 n (r2.1.1,c,d,())).bind fun r5=>(q74 n (r5.2.1,r5.1.1,())).bind fun r6=>some ((r6.2.1,((0:Int),())),())))) ((q75 n (r2.1.1,c,d,())).bind fun r7=>(q74 n (r7.2.1,r7.1.1,())).bind fun r8=>some ((r8.2.1,((0:Int),())),()))) (none)) (none)) (none)) (none))))) (none)) (none)))
noncomputable def p21 (n:Nat) (a:List NT) (b:Int × Int × List Int) (c:Int) (d:ByteArray):Option R21:=st21_top n a b c d
noncomputable def q21 (n:Nat) (x:argsD ps21):Option R21:=p21 n x.1 x.2.1 x.2.2.1 x.2.2.2.1
end Go.Proofs.Ytbjgiioppmkpiaa.Rx.S

namespace Go.Proofs.Ytbjgiioppmkpiaa.Rx.S
open Go Go.RowKit Go.Proofs
set_option maxRecDepth 100000
noncomputable def c76:Code:=(Try.f76.body.getD .skip)
def an76:An:=⟨fun r=>match r with | 2=>⟨[0,3],[]⟩ | _=>⟨[],[]⟩,fun _ _=>none⟩
abbrev ps76:List PK:=[.val .str false]
abbrev rs76:List RK:=[.val .bool false]
abbrev R76:=retsD rs76 × outsD ps76
noncomputable def G76:Gam:=fun f=>match f with | 66=>some Sm66 | _=>none
theorem h0_76 (hg:GamOK Try.prog G76):Holds Try.prog 76 ⟨ps76,rs76,false,runF TT G76 an76 Try.f76 c76 ps76 rs76⟩:=holds_of tt_ok hg mixed Try.func76 (by kernel_rfl) (by rfl) (by decide +kernel)
noncomputable def at76:Nat→Pt→List Nat→St→Option R76:=atF TT G76 an76 Try.f76 c76 _ _
def sh76_L2 (x0:ByteArray) (x1:Int):St:=(St.mk ((AV.one (SV.str x0)) :: (AV.undef :: (AV.undef :: ((AV.one (SV.int (Go.IntKind.i64) x1)) :: (AV.undef :: (AV.undef :: (AV.undef :: (AV.undef :: (AV.undef :: (AV.undef :: (AV.undef :: (AV.undef :: (AV.undef :: (AV.undef :: (AV.undef :: (AV.undef :: (AV.undef :: (AV.undef :: (AV.undef :: (AV.undef :: (AV.undef :: (AV.undef :: (AV.undef :: []))))))))))))))))))))))) [])
noncomputable def st76_top (n:Nat) (lL2:ByteArray→Int→Option R76) (a:ByteArray):Option R76 :=
 lL2 (a) ((0:Int))
noncomputable def st76_L2 (n:Nat) (lL2:ByteArray→Int→Option R76) (x0:ByteArray) (x1:Int):Option R76 :=
 cond (decide (x1 < (↑x0.size:Int))) (cond (decide ((0:Int)≤x1)) (cond (decide (x1 < (↑x0.size:Int))) (cond (decide ((↑(x0.data.toList.getD x1.toNat (0:UInt8)).toNat:Int) < (97:Int))) (some ((false,()),())) (cond (decide ((0:Int)≤x1)) (cond (decide (x1 < (↑x0.size:Int))) (cond (decide ((122:Int) < (↑(x0.data.toList.getD x1.toNat (0:UInt8)).toNat:Int))) (some ((false,()),())) (lL2 (x0) (Go.IntKind.i64.wrap (x1 + (1:Int))))) (none)) (none))) (none)) (none)) ((q66 n ((↑x0.size:Int),(1:Int),(3:Int),())).bind fun r1=>some ((r1.1.1,()),()))
theorem e76_top (n:Nat) (a:ByteArray):runF TT G76 an76 Try.f76 c76 ps76 rs76 n (a,())=st76_top n (fun x0 x1=>at76 n (.head 2) [n] (sh76_L2 x0 x1)) a:=by kernel_rfl
theorem e76_L2_0 (n:Nat) (x0:ByteArray) (x1:Int):at76 n (.head 2) [0] (sh76_L2 x0 x1)=none:=by kernel_rfl
theorem e76_L2 (n:Nat) (m2:Nat) (x0:ByteArray) (x1:Int):at76 n (.head 2) [m2 + 1] (sh76_L2 x0 x1)=st76_L2 n (fun x0 x1=>at76 n (.head 2) [m2] (sh76_L2 x0 x1)) x0 x1:=by kernel_rfl
noncomputable def p76_L2 (n:Nat):Nat→ByteArray→Int→Option R76
 | 0,_,_=>none
 | m + 1,x0,x1=>st76_L2 n (p76_L2 n m) x0 x1
noncomputable def p76 (n:Nat) (a:ByteArray):Option R76:=st76_top n (p76_L2 n n) a
theorem t76_L2 (n:Nat):∀ (m2:Nat) (x0:ByteArray) (x1:Int),at76 n (.head 2) [m2] (sh76_L2 x0 x1)=p76_L2 n m2 x0 x1:=by
 intro m
 induction m with
 | zero=>intros; rw [e76_L2_0]; rfl
 | succ m ih =>
  intros
  rw [e76_L2]
  try simp only [ih]
  rfl
theorem F76_eq (n:Nat) (a:ByteArray):runF TT G76 an76 Try.f76 c76 ps76 rs76 n (a,())=p76 n a:=by
 rw [e76_top]
 simp only [t76_L2]
 try rfl
noncomputable def q76 (n:Nat) (x:argsD ps76):Option R76:=p76 n x.1
noncomputable def Sm76:Sm:=⟨ps76,rs76,false,q76⟩
theorem holds76 (hg:GamOK Try.prog G76):Holds Try.prog 76 Sm76:=by
 have:=h0_76 hg
 have e:(runF TT G76 an76 Try.f76 c76 ps76 rs76)=q76:=by
  funext n x
  exact F76_eq n x.1
 rw [e] at this
 exact this
theorem gam76:GamOK Try.prog G76:=by
 intro f s h
 unfold G76 at h
 split at h
 ·injection h with h; subst h; exact ⟨⟨Try.f66,c66,Try.func66,by kernel_rfl,by decide +kernel⟩,hh66⟩
 ·cases h
theorem hh76:Holds Try.prog 76 Sm76:=holds76 gam76
end Go.Proofs.Ytbjgiioppmkpiaa.Rx.S

namespace Go.Proofs.Ytbjgiioppmkpiaa.Rx.S
open Go Go.RowKit Go.Proofs
set_option maxRecDepth 100000
noncomputable def c146:Code:=(Try.f146.body.getD .skip)
def an146:An:=⟨fun _=>⟨[],[]⟩,fun _ _=>none⟩
abbrev ps146:List PK:=[.val (tIn 100) true]
abbrev rs146:List RK:=[.val .bool false]
abbrev R146:=retsD rs146 × outsD ps146
noncomputable def G146:Gam:=fun _=>none
theorem h0_146 (hg:GamOK Try.prog G146):Holds Try.prog 146 ⟨ps146,rs146,false,runF TT G146 an146 Try.f146 c146 ps146 rs146⟩:=holds_of tt_ok hg mixed Try.func146 (by kernel_rfl) (by rfl) (by decide +kernel)
noncomputable def st146_top (n:Nat) (a:NT):Option R146 :=
 cond (decide (a.1=(0:Int))) (cond (decide (a.2.1=(0:Int))) (cond (decide (a.2.2.1=(0:Int))) (cond (decide (a.2.2.2.1=(0:Int))) (cond (decide (a.2.2.2.2.1=(0:Int))) (cond (decide (a.2.2.2.2.2.1=(0:Int))) (cond (!a.2.2.2.2.2.2.1) (cond (ByteArray.toList a.2.2.2.2.2.2.2.1 == (ByteArray.mk #[]).toList) (some ((decide ((↑(List.length a.2.2.2.2.2.2.2.2):Int)=(0:Int)),()),())) (some ((false,()),()))) (some ((false,()),()))) (some ((false,()),()))) (some ((false,()),()))) (some ((false,()),()))) (some ((false,()),()))) (some ((false,()),()))) (some ((false,()),()))
theorem e146_top (n:Nat) (a:NT):runF TT G146 an146 Try.f146 c146 ps146 rs146 n (a,())=st146_top n a:=by kernel_rfl
noncomputable def p146 (n:Nat) (a:NT):Option R146:=st146_top n a
theorem F146_eq (n:Nat) (a:NT):runF TT G146 an146 Try.f146 c146 ps146 rs146 n (a,())=p146 n a:=by
 rw [e146_top]
 skip
 try rfl
noncomputable def q146 (n:Nat) (x:argsD ps146):Option R146:=p146 n x.1
noncomputable def Sm146:Sm:=⟨ps146,rs146,false,q146⟩
theorem holds146 (hg:GamOK Try.prog G146):Holds Try.prog 146 Sm146:=by
 have:=h0_146 hg
 have e:(runF TT G146 an146 Try.f146 c146 ps146 rs146)=q146:=by
  funext n x
  exact F146_eq n x.1
 rw [e] at this
 exact this
theorem gam146:GamOK Try.prog G146:=fun _ _ h=>by cases h
theorem hh146:Holds Try.prog 146 Sm146:=holds146 gam146
end Go.Proofs.Ytbjgiioppmkpiaa.Rx.S

namespace Go.Proofs.Ytbjgiioppmkpiaa.Rx.S
open Go Go.RowKit Go.Proofs
set_option maxRecDepth 100000
noncomputable def c116:Code:=(Try.f116.body.getD .skip)
def an116:An:=⟨fun r=>match r with | 8=>⟨[1,3],[]⟩ | _=>⟨[],[]⟩,fun _ _=>none⟩
abbrev ps116:List PK:=[.val (tIn 100) true]
abbrev rs116:List RK:=[.val .bool false]
abbrev R116:=retsD rs116 × outsD ps116
noncomputable def G116:Gam:=fun f=>match f with | 76=>some Sm76 | 66=>some Sm66 | 118=>some Sm118 | 146=>some Sm146 | _=>none
theorem h0_116 (hg:GamOK Try.prog G116):Holds Try.prog 116 ⟨ps116,rs116,false,runF TT G116 an116 Try.f116 c116 ps116 rs116⟩:=holds_of tt_ok hg mixed Try.func116 (by kernel_rfl) (by rfl) (by decide +kernel)
noncomputable def at116:Nat→Pt→List Nat→St→Option R116:=atF TT G116 an116 Try.f116 c116 _ _
def sh116_L8 (x0:Int) (x1:Int) (x2:Int) (x3:Int) (x4:Int) (x5:Int) (x6:Int) (x7:Bool) (x8:ByteArray) (x9:List (ByteArray × Int)):St:=(St.mk (AV.undef :: ((AV.one (SV.bptr 1000000 0)) :: (AV.undef :: ((AV.one (SV.int (Go.IntKind.i64) x0)) :: (AV.undef :: (AV.undef :: (AV.undef :: (AV.undef :: (AV.undef :: (AV.undef :: (AV.undef :: (AV.undef :: (AV.undef :: (AV.undef :: (AV.undef :: (AV.undef :: (AV.undef :: (AV.undef :: (AV.undef :: (AV.undef :: (AV.undef :: (AV.undef :: (AV.undef :: (AV.undef :: (AV.undef :: (AV.undef :: (AV.undef :: (AV.undef :: (AV.undef :: (AV.undef :: (AV.undef :: (AV.undef :: (AV.undef :: (AV.undef :: (AV.undef :: (AV.undef :: (AV.undef :: (AV.undef :: (AV.undef :: (AV.undef :: (AV.undef :: (AV.undef :: (AV.undef :: (AV.undef :: (AV.undef :: (AV.undef :: (AV.undef :: (AV.undef :: (AV.undef :: (AV.undef :: (AV.undef :: (AV.undef :: (AV.undef :: (AV.undef :: (AV.undef :: (AV.undef :: (AV.undef :: (AV.undef :: (AV.undef :: (AV.undef :: (AV.undef :: (AV.undef :: (AV.undef :: (AV.undef :: (AV.undef :: (AV.undef :: (AV.undef :: (AV.undef :: (AV.undef :: (AV.undef :: (AV.undef :: (AV.undef :: (AV.undef :: (AV.undef :: (AV.undef :: (AV.undef :: (AV.undef :: (AV.undef :: (AV.undef :: (AV.undef :: (AV.undef :: (AV.undef :: (AV.undef :: (AV.undef :: (AV.undef :: (AV.undef :: (AV.undef :: (AV.undef :: (AV.undef :: (AV.undef :: (AV.undef :: (AV.undef :: (AV.undef :: (AV.undef :: (AV.undef :: (AV.undef :: (AV.undef :: (AV.undef :: (AV.undef :: (AV.undef :: (AV.undef :: (AV.undef :: (AV.undef :: (AV.undef :: (AV.undef :: (AV.undef :: (AV.undef :: (AV.undef :: (AV.undef :: (AV.undef :: (AV.undef :: (AV.undef :: (AV.undef :: (AV.undef :: (AV.undef :: (AV.undef :: (AV.undef :: []))))))))))))))))))))))))))))))))))))))))))))))))))))))))))))))))))))))))))))))))))))))))))))))))))))))))))))))))))))) ((1000000,(Ent.box ((SV.int (Go.IntKind.i64) x1) :: ((SV.int (Go.IntKind.i64) x2) :: ((SV.int (Go.IntKind.i64) x3) :: ((SV.int (Go.IntKind.i64) x4) :: ((SV.int (Go.IntKind.i64) x5) :: ((SV.int (Go.IntKind.i64) x6) :: ((SV.bool x7) :: ((SV.str x8) :: ((SV.con (⟨100,Ty.str.pair (Ty.int Go.IntKind.i64),x9⟩:Rw)) :: []))))))))))) :: []))
noncomputable def st116_top (n:Nat) (lL8:Int→Int→Int→Int→Int→Int→Int→Bool→ByteArray→(List (ByteArray × Int))→Option R116) (a:NT):Option R116 :=
 cond (decide (a.1=(0:Int))) ((q146 n ((a.1,a.2.1,a.2.2.1,a.2.2.2.1,a.2.2.2.2.1,a.2.2.2.2.2.1,a.2.2.2.2.2.2.1,a.2.2.2.2.2.2.2.1,a.2.2.2.2.2.2.2.2),())).bind fun r0=>some ((r0.1.1,()),())) ((q66 n (a.1,(1:Int),(2:Int),())).bind fun r1=>cond (!r1.1.1) (some ((false,()),())) ((q66 n (a.2.1,(0:Int),(511:Int),())).bind fun r2=>cond (!r2.1.1) (some ((false,()),())) ((q118 n (a.2.2.1,())).bind fun r3=>cond (!r3.1.1) (some ((false,()),())) ((q118 n (a.2.2.2.1,())).bind fun r4=>cond (!r4.1.1) (some ((false,()),())) ((q66 n (a.2.2.2.2.2.1,(0:Int),(99:Int),())).bind fun r5=>cond (!r5.1.1) (some ((false,()),())) ((q66 n (a.2.2.2.2.1,(0:Int),(99:Int),())).bind fun r6=>cond (!r6.1.1) (some ((false,()),())) (cond (decide ((40:Int) < (↑(ByteArray.size a.2.2.2.2.2.2.2.1):Int))) (some ((false,()),())) (cond (decide ((6:Int) < (↑(List.length a.2.2.2.2.2.2.2.2):Int))) (some ((false,()),())) (cond (decide (a.1=(2:Int))) (cond (!ByteArray.toList a.2.2.2.2.2.2.2.1 == (ByteArray.mk #[]).toList) (some ((false,()),())) (cond (a.2.2.2.2.2.2.1) (some ((false,()),())) (cond (decide (a.1=(1:Int))) (cond (decide ((0:Int) < (↑(List.length a.2.2.2.2.2.2.2.2):Int))) (some ((false,()),())) (lL8 ((0:Int)) (a.1) (a.2.1) (a.2.2.1) (a.2.2.2.1) (a.2.2.2.2.1) (a.2.2.2.2.2.1) (a.2.2.2.2.2.2.1) (a.2.2.2.2.2.2.2.1) (a.2.2.2.2.2.2.2.2))) (lL8 ((0:Int)) (a.1) (a.2.1) (a.2.2.1) (a.2.2.2.1) (a.2.2.2.2.1) (a.2.2.2.2.2.1) (a.2.2.2.2.2.2.1) (a.2.2.2.2.2.2.2.1) (a.2.2.2.2.2.2.2.2))))) (cond (decide (a.1=(1:Int))) (cond (decide ((0:Int) < (↑(List.length a.2.2.2.2.2.2.2.2):Int))) (some ((false,()),())) (lL8 ((0:Int)) (a.1) (a.2.1) (a.2.2.1) (a.2.2.2.1) (a.2.2.2.2.1) (a.2.2.2.2.2.1) (a.2.2.2.2.2.2.1) (a.2.2.2.2.2.2.2.1) (a.2.2.2.2.2.2.2.2))) (lL8 ((0:Int)) (a.1) (a.2.1) (a.2.2.1) (a.2.2.2.1) (a.2.2.2.2.1) (a.2.2.2.2.2.1) (a.2.2.2.2.2.2.1) (a.2.2.2.2.2.2.2.1) (a.2.2.2.2.2.2.2.2))))))))))))
noncomputable def st116_L8 (n:Nat) (lL8:Int→Int→Int→Int→Int→Int→Int→Bool→ByteArray→(List (ByteArray × Int))→Option R116) (x0:Int) (x1:Int) (x2:Int) (x3:Int) (x4:Int) (x5:Int) (x6:Int) (x7:Bool) (x8:ByteArray) (x9:List (ByteArray × Int)):Option R116 :=
 cond (decide (x0 < (↑x9.length:Int))) (cond (decide ((0:Int)≤x0)) (cond (decide (x0 < (↑x9.length:Int))) ((q76 n ((x9.getD x0.toNat (ByteArray.empty,(0:Int))).1,())).bind fun r8=>cond (!r8.1.1) (some ((false,()),())) ((q66 n ((x9.getD x0.toNat (ByteArray.empty,(0:Int))).2,(1:Int),(9:Int),())).bind fun r9=>cond (!r9.1.1) (some ((false,()),())) (cond (decide ((0:Int) < x0)) (cond (decide ((0:Int)≤Go.IntKind.i64.wrap (x0 - (1:Int)))) (cond (decide (Go.IntKind.i64.wrap (x0 - (1:Int)) < (↑x9.length:Int))) (cond (!Go.Op.bytesLess (ByteArray.toList (x9.getD (Go.IntKind.i64.wrap (x0 - (1:Int))).toNat (ByteArray.empty,(0:Int))).1) (ByteArray.toList (x9.getD x0.toNat (ByteArray.empty,(0:Int))).1)) (some ((false,()),())) (lL8 (Go.IntKind.i64.wrap (x0 + (1:Int))) (x1) (x2) (x3) (x4) (x5) (x6) (x7) (x8) (x9))) (none)) (none)) (lL8 (Go.IntKind.i64.wrap (x0 + (1:Int))) (x1) (x2) (x3) (x4) (x5) (x6) (x7) (x8) (x9))))) (none)) (none)) (some ((true,()),()))
theorem e116_top (n:Nat) (a:NT):runF TT G116 an116 Try.f116 c116 ps116 rs116 n (a,())=st116_top n (fun x0 x1 x2 x3 x4 x5 x6 x7 x8 x9=>at116 n (.head 8) [n] (sh116_L8 x0 x1 x2 x3 x4 x5 x6 x7 x8 x9)) a:=by kernel_rfl
theorem e116_L8_0 (n:Nat) (x0:Int) (x1:Int) (x2:Int) (x3:Int) (x4:Int) (x5:Int) (x6:Int) (x7:Bool) (x8:ByteArray) (x9:List (ByteArray × Int)):at116 n (.head 8) [0] (sh116_L8 x0 x1 x2 x3 x4 x5 x6 x7 x8 x9)=none:=by kernel_rfl
theorem e116_L8 (n:Nat) (m8:Nat) (x0:Int) (x1:Int) (x2:Int) (x3:Int) (x4:Int) (x5:Int) (x6:Int) (x7:Bool) (x8:ByteArray) (x9:List (ByteArray × Int)):at116 n (.head 8) [m8 + 1] (sh116_L8 x0 x1 x2 x3 x4 x5 x6 x7 x8 x9)=st116_L8 n (fun x0 x1 x2 x3 x4 x5 x6 x7 x8 x9=>at116 n (.head 8) [m8] (sh116_L8 x0 x1 x2 x3 x4 x5 x6 x7 x8 x9)) x0 x1 x2 x3 x4 x5 x6 x7 x8 x9:=by kernel_rfl
noncomputable def p116_L8 (n:Nat):Nat→Int→Int→Int→Int→Int→Int→Int→Bool→ByteArray→(List (ByteArray × Int))→Option R116
 | 0,_,_,_,_,_,_,_,_,_,_=>none
 | m + 1,x0,x1,x2,x3,x4,x5,x6,x7,x8,x9=>st116_L8 n (p116_L8 n m) x0 x1 x2 x3 x4 x5 x6 x7 x8 x9
noncomputable def p116 (n:Nat) (a:NT):Option R116:=st116_top n (p116_L8 n n) a
theorem t116_L8 (n:Nat):∀ (m8:Nat) (x0:Int) (x1:Int) (x2:Int) (x3:Int) (x4:Int) (x5:Int) (x6:Int) (x7:Bool) (x8:ByteArray) (x9:List (ByteArray × Int)),at116 n (.head 8) [m8] (sh116_L8 x0 x1 x2 x3 x4 x5 x6 x7 x8 x9)=p116_L8 n m8 x0 x1 x2 x3 x4 x5 x6 x7 x8 x9:=by
 intro m
 induction m with
 | zero=>intros; rw [e116_L8_0]; rfl
 | succ m ih =>
  intros
  rw [e116_L8]
  try simp only [ih]
  rfl
theorem F116_eq (n:Nat) (a:NT):runF TT G116 an116 Try.f116 c116 ps116 rs116 n (a,())=p116 n a:=by
 rw [e116_top]
 simp only [t116_L8]
 try rfl
noncomputable def q116 (n:Nat) (x:argsD ps116):Option R116:=p116 n x.1
noncomputable def Sm116:Sm:=⟨ps116,rs116,false,q116⟩
theorem holds116 (hg:GamOK Try.prog G116):Holds Try.prog 116 Sm116:=by
 have:=h0_116 hg
 have e:(runF TT G116 an116 Try.f116 c116 ps116 rs116)=q116:=by
  funext n x
  exact F116_eq n x.1
 rw [e] at this
 exact this
theorem gam116:GamOK Try.prog G116:=by
 intro f s h
 unfold G116 at h
 split at h
 ·injection h with h; subst h; exact ⟨⟨Try.f76,c76,Try.func76,by kernel_rfl,by decide +kernel⟩,hh76⟩
 ·injection h with h; subst h; exact ⟨⟨Try.f66,c66,Try.func66,by kernel_rfl,by decide +kernel⟩,hh66⟩
 ·injection h with h; subst h; exact ⟨⟨Try.f118,c118,Try.func118,by kernel_rfl,by decide +kernel⟩,hh118⟩
 ·injection h with h; subst h; exact ⟨⟨Try.f146,c146,Try.func146,by kernel_rfl,by decide +kernel⟩,hh146⟩
 ·cases h
theorem hh116:Holds Try.prog 116 Sm116:=holds116 gam116
end Go.Proofs.Ytbjgiioppmkpiaa.Rx.S

namespace Go.Proofs.Ytbjgiioppmkpiaa.Rx.S
open Go Go.RowKit Go.Proofs
set_option maxRecDepth 100000
noncomputable def c117:Code:=(Try.f117.body.getD .skip)
def an117:An:=⟨fun r=>match r with | 3=>⟨[1,4,5],[]⟩ | 10=>⟨[1,4,5,6,7],[]⟩ | _=>⟨[],[]⟩,fun _ _=>none⟩
abbrev ps117:List PK:=[.val tFs true]
abbrev rs117:List RK:=[.own (.row 4 .bool) false,.val .bool false]
abbrev R117:=retsD rs117 × outsD ps117
noncomputable def G117:Gam:=fun _=>none
theorem h0_117 (hg:GamOK Try.prog G117):Holds Try.prog 117 ⟨ps117,rs117,false,runF TT G117 an117 Try.f117 c117 ps117 rs117⟩:=holds_of tt_ok hg mixed Try.func117 (by kernel_rfl) (by rfl) (by decide +kernel)
noncomputable def at117:Nat→Pt→List Nat→St→Option R117:=atF TT G117 an117 Try.f117 c117 _ _
def sh117_L10 (x0:Int) (x1:Int) (x2:List NT) (x3:List Bool) (x4:List Int):St:=(St.mk (AV.undef :: ((AV.one (SV.bptr 1000000 0)) :: (AV.undef :: (AV.undef :: ((AV.one (SV.ref 1000001 0 [] Option.none)) :: ((AV.one (SV.ref 1000002 0 [] Option.none)) :: ((AV.one (SV.int (Go.IntKind.i64) x0)) :: ((AV.one (SV.int (Go.IntKind.i64) x1)) :: (AV.undef :: (AV.undef :: (AV.undef :: (AV.undef :: (AV.undef :: (AV.undef :: (AV.undef :: (AV.undef :: (AV.undef :: (AV.undef :: (AV.undef :: (AV.undef :: (AV.undef :: (AV.undef :: (AV.undef :: (AV.undef :: (AV.undef :: (AV.undef :: (AV.undef :: (AV.undef :: (AV.undef :: (AV.undef :: (AV.undef :: (AV.undef :: (AV.undef :: (AV.undef :: (AV.undef :: (AV.undef :: (AV.undef :: (AV.undef :: (AV.undef :: (AV.undef :: (AV.undef :: (AV.undef :: (AV.undef :: (AV.undef :: (AV.undef :: (AV.undef :: (AV.undef :: (AV.undef :: (AV.undef :: (AV.undef :: (AV.undef :: (AV.undef :: (AV.undef :: (AV.undef :: (AV.undef :: (AV.undef :: (AV.undef :: (AV.undef :: (AV.undef :: (AV.undef :: (AV.undef :: (AV.undef :: (AV.undef :: (AV.undef :: (AV.undef :: []))))))))))))))))))))))))))))))))))))))))))))))))))))))))))))))))) ((1000000,(Ent.box ((SV.con (⟨37,(Ty.int Go.IntKind.i64).pair ((Ty.int Go.IntKind.i64).pair ((Ty.int Go.IntKind.i64).pair ((Ty.int Go.IntKind.i64).pair ((Ty.int Go.IntKind.i64).pair ((Ty.int Go.IntKind.i64).pair (Ty.bool.pair (Ty.str.pair (Ty.row (nat_lit 100) (Ty.str.pair (Ty.int Go.IntKind.i64)))))))))),x2⟩:Rw)) :: []))) :: ((1000001,(Ent.row (⟨4,Ty.bool,x3⟩:Rw) 0 Option.none)) :: ((1000002,(Ent.row (⟨3,Ty.int Go.IntKind.i64,x4⟩:Rw) 0 Option.none)) :: []))))
def sh117_L3 (x0:List NT) (x1:List Bool) (x2:List Int):St:=(St.mk (AV.undef :: ((AV.one (SV.bptr 1000000 0)) :: (AV.undef :: (AV.undef :: ((AV.one (SV.ref 1000001 0 [] Option.none)) :: ((AV.one (SV.ref 1000002 0 [] Option.none)) :: (AV.undef :: (AV.undef :: (AV.undef :: (AV.undef :: (AV.undef :: (AV.undef :: (AV.undef :: (AV.undef :: (AV.undef :: (AV.undef :: (AV.undef :: (AV.undef :: (AV.undef :: (AV.undef :: (AV.undef :: (AV.undef :: (AV.undef :: (AV.undef :: (AV.undef :: (AV.undef :: (AV.undef :: (AV.undef :: (AV.undef :: (AV.undef :: (AV.undef :: (AV.undef :: (AV.undef :: (AV.undef :: (AV.undef :: (AV.undef :: (AV.undef :: (AV.undef :: (AV.undef :: (AV.undef :: (AV.undef :: (AV.undef :: (AV.undef :: (AV.undef :: (AV.undef :: (AV.undef :: (AV.undef :: (AV.undef :: (AV.undef :: (AV.undef :: (AV.undef :: (AV.undef :: (AV.undef :: (AV.undef :: (AV.undef :: (AV.undef :: (AV.undef :: (AV.undef :: (AV.undef :: (AV.undef :: (AV.undef :: (AV.undef :: (AV.undef :: (AV.undef :: (AV.undef :: []))))))))))))))))))))))))))))))))))))))))))))))))))))))))))))))))) ((1000000,(Ent.box ((SV.con (⟨37,(Ty.int Go.IntKind.i64).pair ((Ty.int Go.IntKind.i64).pair ((Ty.int Go.IntKind.i64).pair ((Ty.int Go.IntKind.i64).pair ((Ty.int Go.IntKind.i64).pair ((Ty.int Go.IntKind.i64).pair (Ty.bool.pair (Ty.str.pair (Ty.row (nat_lit 100) (Ty.str.pair (Ty.int Go.IntKind.i64)))))))))),x0⟩:Rw)) :: []))) :: ((1000001,(Ent.row (⟨4,Ty.bool,x1⟩:Rw) 0 Option.none)) :: ((1000002,(Ent.row (⟨3,Ty.int Go.IntKind.i64,x2⟩:Rw) 0 Option.none)) :: []))))
noncomputable def st117_top (n:Nat) (lL3:(List NT)→(List Bool)→(List Int)→Option R117) (a:List NT):Option R117 :=
 cond (decide ((↑a.length:Int) * (↑(1:Nat):Int)≤(140737488355328:Int))) (lL3 (a) (List.replicate (↑a.length:Int).toNat false) ([(0:Int)])) (none)
noncomputable def st117_L10 (n:Nat) (lL10:Int→Int→(List NT)→(List Bool)→(List Int)→Option R117) (lL3:(List NT)→(List Bool)→(List Int)→Option R117) (x0:Int) (x1:Int) (x2:List NT) (x3:List Bool) (x4:List Int):Option R117 :=
 cond (decide ((0:Int)≤x0)) (cond (decide (x0 < (↑x2.length:Int))) (cond (decide (x1 < (↑(List.length (x2.getD x0.toNat ZN).2.2.2.2.2.2.2.2):Int))) (cond (decide ((0:Int)≤x0)) (cond (decide (x0 < (↑x2.length:Int))) (cond (decide ((0:Int)≤x1)) (cond (decide (x1 < (↑(List.length (x2.getD x0.toNat ZN).2.2.2.2.2.2.2.2):Int))) (cond (decide ((0:Int)≤(List.getD (x2.getD x0.toNat ZN).2.2.2.2.2.2.2.2 x1.toNat (ByteArray.empty,(0:Int))).2)) (cond (decide ((List.getD (x2.getD x0.toNat ZN).2.2.2.2.2.2.2.2 x1.toNat (ByteArray.empty,(0:Int))).2 < (↑x2.length:Int))) (cond (decide ((x2.getD (Int.toNat (List.getD (x2.getD x0.toNat ZN).2.2.2.2.2.2.2.2 x1.toNat (ByteArray.empty,(0:Int))).2) ZN).1=(2:Int))) (cond (decide ((x4.length + [(List.getD (x2.getD x0.toNat ZN).2.2.2.2.2.2.2.2 x1.toNat (ByteArray.empty,(0:Int))).2].length) * (8:Nat)≤(140737488355328:Nat))) (lL10 (x0) (Go.IntKind.i64.wrap (x1 + (1:Int))) (x2) (x3) (x4 ++ [(List.getD (x2.getD x0.toNat ZN).2.2.2.2.2.2.2.2 x1.toNat (ByteArray.empty,(0:Int))).2])) (none)) (lL10 (x0) (Go.IntKind.i64.wrap (x1 + (1:Int))) (x2) (x3) (x4))) (none)) (none)) (none)) (none)) (none)) (none)) (lL3 (x2) (x3) (x4))) (none)) (none)
noncomputable def st117_L3 (n:Nat) (lL10:Int→Int→(List NT)→(List Bool)→(List Int)→Option R117) (x0:List NT) (x1:List Bool) (x2:List Int):Option R117 :=
 cond (decide ((0:Int) < (↑x2.length:Int))) (cond (decide ((0:Int) < (↑x2.length:Int))) (cond (decide ((1:Int)≤(↑x2.length:Int))) (cond (decide (((0:Nat) + (List.take ((↑x2.length:Int) - (1:Int)).toNat (List.drop ((0:Nat) + Int.toNat (1:Int)) x2)).length) * (8:Nat)≤(140737488355328:Nat))) (cond (decide ((0:Int)≤x2.getD (Int.toNat (0:Int)) (0:Int))) (cond (decide (x2.getD (Int.toNat (0:Int)) (0:Int) < (↑x1.length:Int))) (cond (x1.getD (Int.toNat (x2.getD (Int.toNat (0:Int)) (0:Int))) false) (some ((x1,(false,())),())) (cond (decide ((0:Int)≤x2.getD (Int.toNat (0:Int)) (0:Int))) (cond (decide (x2.getD (Int.toNat (0:Int)) (0:Int) < (↑x1.length:Int))) (lL10 (x2.getD (Int.toNat (0:Int)) (0:Int)) ((0:Int)) (x0) (x1.set (Int.toNat (x2.getD (Int.toNat (0:Int)) (0:Int))) true) (List.take ((↑x2.length:Int) - (1:Int)).toNat (List.drop ((0:Nat) + Int.toNat (1:Int)) x2))) (none)) (none))) (none)) (none)) (none)) (none)) (none)) (some ((x1,(true,())),()))
theorem e117_top (n:Nat) (a:List NT):runF TT G117 an117 Try.f117 c117 ps117 rs117 n (a,())=st117_top n (fun x0 x1 x2=>at117 n (.head 3) [n] (sh117_L3 x0 x1 x2)) a:=by kernel_rfl
theorem e117_L10_0 (n:Nat) (m3:Nat) (x0:Int) (x1:Int) (x2:List NT) (x3:List Bool) (x4:List Int):at117 n (.head 10) [m3,0] (sh117_L10 x0 x1 x2 x3 x4)=none:=by kernel_rfl
theorem e117_L10 (n:Nat) (m3:Nat) (m10:Nat) (x0:Int) (x1:Int) (x2:List NT) (x3:List Bool) (x4:List Int):at117 n (.head 10) [m3,m10 + 1] (sh117_L10 x0 x1 x2 x3 x4)=st117_L10 n (fun x0 x1 x2 x3 x4=>at117 n (.head 10) [m3,m10] (sh117_L10 x0 x1 x2 x3 x4)) (fun x0 x1 x2=>at117 n (.head 3) [m3] (sh117_L3 x0 x1 x2)) x0 x1 x2 x3 x4:=by kernel_rfl
theorem e117_L3_0 (n:Nat) (x0:List NT) (x1:List Bool) (x2:List Int):at117 n (.head 3) [0] (sh117_L3 x0 x1 x2)=none:=by kernel_rfl
theorem e117_L3 (n:Nat) (m3:Nat) (x0:List NT) (x1:List Bool) (x2:List Int):at117 n (.head 3) [m3 + 1] (sh117_L3 x0 x1 x2)=st117_L3 n (fun x0 x1 x2 x3 x4=>at117 n (.head 10) [m3,n] (sh117_L10 x0 x1 x2 x3 x4)) x0 x1 x2:=by kernel_rfl
noncomputable def p117_L10 (g3:(List NT)→(List Bool)→(List Int)→Option R117) (n:Nat):Nat→Int→Int→(List NT)→(List Bool)→(List Int)→Option R117
 | 0,_,_,_,_,_=>none
 | m + 1,x0,x1,x2,x3,x4=>st117_L10 n (p117_L10 g3 n m) g3 x0 x1 x2 x3 x4
noncomputable def p117_L3 (n:Nat):Nat→(List NT)→(List Bool)→(List Int)→Option R117
 | 0,_,_,_=>none
 | m + 1,x0,x1,x2=>st117_L3 n (p117_L10 (p117_L3 n m) n n) x0 x1 x2
noncomputable def p117 (n:Nat) (a:List NT):Option R117:=st117_top n (p117_L3 n n) a
theorem t117_L10 (n:Nat) (m3:Nat):∀ (m10:Nat) (x0:Int) (x1:Int) (x2:List NT) (x3:List Bool) (x4:List Int),at117 n (.head 10) [m3,m10] (sh117_L10 x0 x1 x2 x3 x4)=p117_L10 (fun x0 x1 x2=>at117 n (.head 3) [m3] (sh117_L3 x0 x1 x2)) n m10 x0 x1 x2 x3 x4:=by
 intro m
 induction m with
 | zero=>intros; rw [e117_L10_0]; rfl
 | succ m ih =>
  intros
  rw [e117_L10]
  try simp only [ih]
  rfl
theorem t117_L3 (n:Nat):∀ (m3:Nat) (x0:List NT) (x1:List Bool) (x2:List Int),at117 n (.head 3) [m3] (sh117_L3 x0 x1 x2)=p117_L3 n m3 x0 x1 x2:=by
 intro m
 induction m with
 | zero=>intros; rw [e117_L3_0]; rfl
 | succ m ih =>
  intros
  rw [e117_L3]
  try simp only [t117_L10,ih]
  rfl
theorem F117_eq (n:Nat) (a:List NT):runF TT G117 an117 Try.f117 c117 ps117 rs117 n (a,())=p117 n a:=by
 rw [e117_top]
 simp only [t117_L3]
 try rfl
noncomputable def q117 (n:Nat) (x:argsD ps117):Option R117:=p117 n x.1
noncomputable def Sm117:Sm:=⟨ps117,rs117,false,q117⟩
theorem holds117 (hg:GamOK Try.prog G117):Holds Try.prog 117 Sm117:=by
 have:=h0_117 hg
 have e:(runF TT G117 an117 Try.f117 c117 ps117 rs117)=q117:=by
  funext n x
  exact F117_eq n x.1
 rw [e] at this
 exact this
theorem gam117:GamOK Try.prog G117:=fun _ _ h=>by cases h
theorem hh117:Holds Try.prog 117 Sm117:=holds117 gam117
end Go.Proofs.Ytbjgiioppmkpiaa.Rx.S

namespace Go.Proofs.Ytbjgiioppmkpiaa.Rx.S
open Go Go.RowKit Go.Proofs
set_option maxRecDepth 100000
noncomputable def c63:Code:=(Try.f63.body.getD .skip)
def an63:An:=⟨fun r=>match r with | 5=>⟨[1,3,4],[]⟩ | 10=>⟨[1,3,4,5],[]⟩ | 17=>⟨[1,3,6,7,8],[]⟩ | _=>⟨[],[]⟩,fun _ _=>none⟩
abbrev ps63:List PK:=[.val tFs true]
abbrev rs63:List RK:=[.val .bool false]
abbrev R63:=retsD rs63 × outsD ps63
noncomputable def G63:Gam:=fun f=>match f with | 116=>some Sm116 | 117=>some Sm117 | _=>none
theorem h0_63 (hg:GamOK Try.prog G63):Holds Try.prog 63 ⟨ps63,rs63,false,runF TT G63 an63 Try.f63 c63 ps63 rs63⟩:=holds_of tt_ok hg mixed Try.func63 (by kernel_rfl) (by rfl) (by decide +kernel)
noncomputable def at63:Nat→Pt→List Nat→St→Option R63:=atF TT G63 an63 Try.f63 c63 _ _
def sh63_L10 (x0:Int) (x1:Int) (x2:List NT) (x3:List Int):St:=(St.mk (AV.undef :: ((AV.one (SV.bptr 1000000 0)) :: (AV.undef :: ((AV.one (SV.ref 1000001 0 [] Option.none)) :: ((AV.one (SV.int (Go.IntKind.i64) x0)) :: ((AV.one (SV.int (Go.IntKind.i64) x1)) :: (AV.undef :: (AV.undef :: (AV.undef :: (AV.undef :: (AV.undef :: (AV.undef :: (AV.undef :: (AV.undef :: (AV.undef :: (AV.undef :: (AV.undef :: (AV.undef :: (AV.undef :: (AV.undef :: (AV.undef :: (AV.undef :: (AV.undef :: (AV.undef :: (AV.undef :: (AV.undef :: (AV.undef :: (AV.undef :: (AV.undef :: (AV.undef :: (AV.undef :: (AV.undef :: (AV.undef :: (AV.undef :: (AV.undef :: (AV.undef :: (AV.undef :: (AV.undef :: (AV.undef :: (AV.undef :: (AV.undef :: (AV.undef :: (AV.undef :: (AV.undef :: (AV.undef :: (AV.undef :: (AV.undef :: (AV.undef :: (AV.undef :: (AV.undef :: (AV.undef :: (AV.undef :: (AV.undef :: (AV.undef :: (AV.undef :: (AV.undef :: (AV.undef :: (AV.undef :: (AV.undef :: (AV.undef :: (AV.undef :: (AV.undef :: (AV.undef :: (AV.undef :: (AV.undef :: (AV.undef :: (AV.undef :: (AV.undef :: (AV.undef :: (AV.undef :: (AV.undef :: (AV.undef :: (AV.undef :: (AV.undef :: (AV.undef :: (AV.undef :: (AV.undef :: (AV.undef :: (AV.undef :: (AV.undef :: (AV.undef :: (AV.undef :: (AV.undef :: (AV.undef :: (AV.undef :: (AV.undef :: (AV.undef :: (AV.undef :: (AV.undef :: (AV.undef :: (AV.undef :: (AV.undef :: (AV.undef :: (AV.undef :: (AV.undef :: (AV.undef :: (AV.undef :: (AV.undef :: (AV.undef :: (AV.undef :: (AV.undef :: (AV.undef :: (AV.undef :: (AV.undef :: (AV.undef :: (AV.undef :: (AV.undef :: (AV.undef :: (AV.undef :: (AV.undef :: (AV.undef :: (AV.undef :: (AV.undef :: (AV.undef :: (AV.undef :: (AV.undef :: (AV.undef :: (AV.undef :: (AV.undef :: (AV.undef :: (AV.undef :: (AV.undef :: (AV.undef :: (AV.undef :: (AV.undef :: (AV.undef :: (AV.undef :: (AV.undef :: (AV.undef :: (AV.undef :: (AV.undef :: (AV.undef :: (AV.undef :: (AV.undef :: (AV.undef :: (AV.undef :: (AV.undef :: (AV.undef :: [])))))))))))))))))))))))))))))))))))))))))))))))))))))))))))))))))))))))))))))))))))))))))))))))))))))))))))))))))))))))))))))))))))))))))) ((1000000,(Ent.box ((SV.con (⟨37,(Ty.int Go.IntKind.i64).pair ((Ty.int Go.IntKind.i64).pair ((Ty.int Go.IntKind.i64).pair ((Ty.int Go.IntKind.i64).pair ((Ty.int Go.IntKind.i64).pair ((Ty.int Go.IntKind.i64).pair (Ty.bool.pair (Ty.str.pair (Ty.row (nat_lit 100) (Ty.str.pair (Ty.int Go.IntKind.i64)))))))))),x2⟩:Rw)) :: []))) :: ((1000001,(Ent.row (⟨3,Ty.int Go.IntKind.i64,x3⟩:Rw) 0 Option.none)) :: [])))
def sh63_L17 (x0:Bool) (x1:Int) (x2:List NT) (x3:List Int) (x4:List Bool):St:=(St.mk (AV.undef :: ((AV.one (SV.bptr 1000000 0)) :: (AV.undef :: ((AV.one (SV.ref 1000001 0 [] Option.none)) :: (AV.undef :: (AV.undef :: ((AV.one (SV.ref 1000002 0 [] Option.none)) :: ((AV.one (SV.bool x0)) :: ((AV.one (SV.int (Go.IntKind.i64) x1)) :: (AV.undef :: (AV.undef :: (AV.undef :: (AV.undef :: (AV.undef :: (AV.undef :: (AV.undef :: (AV.undef :: (AV.undef :: (AV.undef :: (AV.undef :: (AV.undef :: (AV.undef :: (AV.undef :: (AV.undef :: (AV.undef :: (AV.undef :: (AV.undef :: (AV.undef :: (AV.undef :: (AV.undef :: (AV.undef :: (AV.undef :: (AV.undef :: (AV.undef :: (AV.undef :: (AV.undef :: (AV.undef :: (AV.undef :: (AV.undef :: (AV.undef :: (AV.undef :: (AV.undef :: (AV.undef :: (AV.undef :: (AV.undef :: (AV.undef :: (AV.undef :: (AV.undef :: (AV.undef :: (AV.undef :: (AV.undef :: (AV.undef :: (AV.undef :: (AV.undef :: (AV.undef :: (AV.undef :: (AV.undef :: (AV.undef :: (AV.undef :: (AV.undef :: (AV.undef :: (AV.undef :: (AV.undef :: (AV.undef :: (AV.undef :: (AV.undef :: (AV.undef :: (AV.undef :: (AV.undef :: (AV.undef :: (AV.undef :: (AV.undef :: (AV.undef :: (AV.undef :: (AV.undef :: (AV.undef :: (AV.undef :: (AV.undef :: (AV.undef :: (AV.undef :: (AV.undef :: (AV.undef :: (AV.undef :: (AV.undef :: (AV.undef :: (AV.undef :: (AV.undef :: (AV.undef :: (AV.undef :: (AV.undef :: (AV.undef :: (AV.undef :: (AV.undef :: (AV.undef :: (AV.undef :: (AV.undef :: (AV.undef :: (AV.undef :: (AV.undef :: (AV.undef :: (AV.undef :: (AV.undef :: (AV.undef :: (AV.undef :: (AV.undef :: (AV.undef :: (AV.undef :: (AV.undef :: (AV.undef :: (AV.undef :: (AV.undef :: (AV.undef :: (AV.undef :: (AV.undef :: (AV.undef :: (AV.undef :: (AV.undef :: (AV.undef :: (AV.undef :: (AV.undef :: (AV.undef :: (AV.undef :: (AV.undef :: (AV.undef :: (AV.undef :: (AV.undef :: (AV.undef :: (AV.undef :: (AV.undef :: (AV.undef :: (AV.undef :: (AV.undef :: (AV.undef :: (AV.undef :: (AV.undef :: (AV.undef :: (AV.undef :: (AV.undef :: [])))))))))))))))))))))))))))))))))))))))))))))))))))))))))))))))))))))))))))))))))))))))))))))))))))))))))))))))))))))))))))))))))))))))))) ((1000000,(Ent.box ((SV.con (⟨37,(Ty.int Go.IntKind.i64).pair ((Ty.int Go.IntKind.i64).pair ((Ty.int Go.IntKind.i64).pair ((Ty.int Go.IntKind.i64).pair ((Ty.int Go.IntKind.i64).pair ((Ty.int Go.IntKind.i64).pair (Ty.bool.pair (Ty.str.pair (Ty.row (nat_lit 100) (Ty.str.pair (Ty.int Go.IntKind.i64)))))))))),x2⟩:Rw)) :: []))) :: ((1000001,(Ent.row (⟨3,Ty.int Go.IntKind.i64,x3⟩:Rw) 0 Option.none)) :: ((1000002,(Ent.row (⟨4,Ty.bool,x4⟩:Rw) 0 Option.none)) :: []))))
def sh63_L5 (x0:Int) (x1:List NT) (x2:List Int):St:=(St.mk (AV.undef :: ((AV.one (SV.bptr 1000000 0)) :: (AV.undef :: ((AV.one (SV.ref 1000001 0 [] Option.none)) :: ((AV.one (SV.int (Go.IntKind.i64) x0)) :: (AV.undef :: (AV.undef :: (AV.undef :: (AV.undef :: (AV.undef :: (AV.undef :: (AV.undef :: (AV.undef :: (AV.undef :: (AV.undef :: (AV.undef :: (AV.undef :: (AV.undef :: (AV.undef :: (AV.undef :: (AV.undef :: (AV.undef :: (AV.undef :: (AV.undef :: (AV.undef :: (AV.undef :: (AV.undef :: (AV.undef :: (AV.undef :: (AV.undef :: (AV.undef :: (AV.undef :: (AV.undef :: (AV.undef :: (AV.undef :: (AV.undef :: (AV.undef :: (AV.undef :: (AV.undef :: (AV.undef :: (AV.undef :: (AV.undef :: (AV.undef :: (AV.undef :: (AV.undef :: (AV.undef :: (AV.undef :: (AV.undef :: (AV.undef :: (AV.undef :: (AV.undef :: (AV.undef :: (AV.undef :: (AV.undef :: (AV.undef :: (AV.undef :: (AV.undef :: (AV.undef :: (AV.undef :: (AV.undef :: (AV.undef :: (AV.undef :: (AV.undef :: (AV.undef :: (AV.undef :: (AV.undef :: (AV.undef :: (AV.undef :: (AV.undef :: (AV.undef :: (AV.undef :: (AV.undef :: (AV.undef :: (AV.undef :: (AV.undef :: (AV.undef :: (AV.undef :: (AV.undef :: (AV.undef :: (AV.undef :: (AV.undef :: (AV.undef :: (AV.undef :: (AV.undef :: (AV.undef :: (AV.undef :: (AV.undef :: (AV.undef :: (AV.undef :: (AV.undef :: (AV.undef :: (AV.undef :: (AV.undef :: (AV.undef :: (AV.undef :: (AV.undef :: (AV.undef :: (AV.undef :: (AV.undef :: (AV.undef :: (AV.undef :: (AV.undef :: (AV.undef :: (AV.undef :: (AV.undef :: (AV.undef :: (AV.undef :: (AV.undef :: (AV.undef :: (AV.undef :: (AV.undef :: (AV.undef :: (AV.undef :: (AV.undef :: (AV.undef :: (AV.undef :: (AV.undef :: (AV.undef :: (AV.undef :: (AV.undef :: (AV.undef :: (AV.undef :: (AV.undef :: (AV.undef :: (AV.undef :: (AV.undef :: (AV.undef :: (AV.undef :: (AV.undef :: (AV.undef :: (AV.undef :: (AV.undef :: (AV.undef :: (AV.undef :: (AV.undef :: (AV.undef :: (AV.undef :: (AV.undef :: [])))))))))))))))))))))))))))))))))))))))))))))))))))))))))))))))))))))))))))))))))))))))))))))))))))))))))))))))))))))))))))))))))))))))))) ((1000000,(Ent.box ((SV.con (⟨37,(Ty.int Go.IntKind.i64).pair ((Ty.int Go.IntKind.i64).pair ((Ty.int Go.IntKind.i64).pair ((Ty.int Go.IntKind.i64).pair ((Ty.int Go.IntKind.i64).pair ((Ty.int Go.IntKind.i64).pair (Ty.bool.pair (Ty.str.pair (Ty.row (nat_lit 100) (Ty.str.pair (Ty.int Go.IntKind.i64)))))))))),x1⟩:Rw)) :: []))) :: ((1000001,(Ent.row (⟨3,Ty.int Go.IntKind.i64,x2⟩:Rw) 0 Option.none)) :: [])))
noncomputable def st63_top (n:Nat) (lL5:Int→(List NT)→(List Int)→Option R63) (a:List NT):Option R63 :=
 cond (!decide ((↑a.length:Int)=(10:Int))) (some ((false,()),())) (lL5 ((0:Int)) (a) (List.replicate (Int.toNat (10:Int)) (0:Int)))
noncomputable def st63_L10 (n:Nat) (lL10:Int→Int→(List NT)→(List Int)→Option R63) (lL5:Int→(List NT)→(List Int)→Option R63) (x0:Int) (x1:Int) (x2:List NT) (x3:List Int):Option R63 :=
 cond (decide ((0:Int)≤x0)) (cond (decide (x0 < (↑x2.length:Int))) (cond (decide (x1 < (↑(List.length (x2.getD x0.toNat ZN).2.2.2.2.2.2.2.2):Int))) (cond (decide ((0:Int)≤x0)) (cond (decide (x0 < (↑x2.length:Int))) (cond (decide ((0:Int)≤x1)) (cond (decide (x1 < (↑(List.length (x2.getD x0.toNat ZN).2.2.2.2.2.2.2.2):Int))) (cond (decide ((0:Int)≤x0)) (cond (decide (x0 < (↑x2.length:Int))) (cond (decide ((0:Int)≤x1)) (cond (decide (x1 < (↑(List.length (x2.getD x0.toNat ZN).2.2.2.2.2.2.2.2):Int))) (cond (decide ((0:Int)≤(List.getD (x2.getD x0.toNat ZN).2.2.2.2.2.2.2.2 x1.toNat (ByteArray.empty,(0:Int))).2)) (cond (decide ((List.getD (x2.getD x0.toNat ZN).2.2.2.2.2.2.2.2 x1.toNat (ByteArray.empty,(0:Int))).2 < (↑x3.length:Int))) (cond (decide ((0:Int)≤(List.getD (x2.getD x0.toNat ZN).2.2.2.2.2.2.2.2 x1.toNat (ByteArray.empty,(0:Int))).2)) (cond (decide ((List.getD (x2.getD x0.toNat ZN).2.2.2.2.2.2.2.2 x1.toNat (ByteArray.empty,(0:Int))).2 < (↑x3.length:Int))) (lL10 (x0) (Go.IntKind.i64.wrap (x1 + (1:Int))) (x2) (x3.set (Int.toNat (List.getD (x2.getD x0.toNat ZN).2.2.2.2.2.2.2.2 x1.toNat (ByteArray.empty,(0:Int))).2) (Go.IntKind.i64.wrap (x3.getD (Int.toNat (List.getD (x2.getD x0.toNat ZN).2.2.2.2.2.2.2.2 x1.toNat (ByteArray.empty,(0:Int))).2) (0:Int) + (1:Int))))) (none)) (none)) (none)) (none)) (none)) (none)) (none)) (none)) (none)) (none)) (none)) (none)) (lL5 (Go.IntKind.i64.wrap (x0 + (1:Int))) (x2) (x3))) (none)) (none)
noncomputable def st63_L17 (n:Nat) (lL17:Bool→Int→(List NT)→(List Int)→(List Bool)→Option R63) (x0:Bool) (x1:Int) (x2:List NT) (x3:List Int) (x4:List Bool):Option R63 :=
 cond (decide (x1 < (10:Int))) (cond (x0) (cond (decide ((0:Int)≤x1)) (cond (decide (x1 < (↑x2.length:Int))) (cond (decide ((0:Int)≤x1)) (cond (decide (x1 < (↑x3.length:Int))) (cond (decide ((0:Int) < x3.getD x1.toNat (0:Int))) (cond (decide ((x2.getD x1.toNat ZN).1=(0:Int))) (some ((false,()),())) (cond (!decide ((x2.getD x1.toNat ZN).1=(0:Int))) (cond (decide ((0:Int)≤x1)) (cond (decide (x1 < (↑x3.length:Int))) (cond (!decide ((x2.getD x1.toNat ZN).2.2.2.2.1=x3.getD x1.toNat (0:Int))) (some ((false,()),())) (cond (decide ((x2.getD x1.toNat ZN).1=(2:Int))) (cond (decide ((0:Int)≤x1)) (cond (decide (x1 < (↑x4.length:Int))) (cond (!x4.getD x1.toNat false) (some ((false,()),())) (cond (decide ((x2.getD x1.toNat ZN).1=(1:Int))) (cond (decide ((x2.getD x1.toNat ZN).2.2.2.2.1=(0:Int))) (cond (decide ((x2.getD x1.toNat ZN).2.2.2.2.2.1=(0:Int))) (some ((false,()),())) (lL17 (x0) (Go.IntKind.i64.wrap (x1 + (1:Int))) (x2) (x3) (x4))) (lL17 (x0) (Go.IntKind.i64.wrap (x1 + (1:Int))) (x2) (x3) (x4))) (lL17 (x0) (Go.IntKind.i64.wrap (x1 + (1:Int))) (x2) (x3) (x4)))) (none)) (none)) (cond (decide ((x2.getD x1.toNat ZN).1=(1:Int))) (cond (decide ((x2.getD x1.toNat ZN).2.2.2.2.1=(0:Int))) (cond (decide ((x2.getD x1.toNat ZN).2.2.2.2.2.1=(0:Int))) (some ((false,()),())) (lL17 (x0) (Go.IntKind.i64.wrap (x1 + (1:Int))) (x2) (x3) (x4))) (lL17 (x0) (Go.IntKind.i64.wrap (x1 + (1:Int))) (x2) (x3) (x4))) (lL17 (x0) (Go.IntKind.i64.wrap (x1 + (1:Int))) (x2) (x3) (x4))))) (none)) (none)) (cond (decide ((x2.getD x1.toNat ZN).1=(2:Int))) (cond (decide ((0:Int)≤x1)) (cond (decide (x1 < (↑x4.length:Int))) (cond (!x4.getD x1.toNat false) (some ((false,()),())) (cond (decide ((x2.getD x1.toNat ZN).1=(1:Int))) (cond (decide ((x2.getD x1.toNat ZN).2.2.2.2.1=(0:Int))) (cond (decide ((x2.getD x1.toNat ZN).2.2.2.2.2.1=(0:Int))) (some ((false,()),())) (lL17 (x0) (Go.IntKind.i64.wrap (x1 + (1:Int))) (x2) (x3) (x4))) (lL17 (x0) (Go.IntKind.i64.wrap (x1 + (1:Int))) (x2) (x3) (x4))) (lL17 (x0) (Go.IntKind.i64.wrap (x1 + (1:Int))) (x2) (x3) (x4)))) (none)) (none)) (cond (decide ((x2.getD x1.toNat ZN).1=(1:Int))) (cond (decide ((x2.getD x1.toNat ZN).2.2.2.2.1=(0:Int))) (cond (decide ((x2.getD x1.toNat ZN).2.2.2.2.2.1=(0:Int))) (some ((false,()),())) (lL17 (x0) (Go.IntKind.i64.wrap (x1 + (1:Int))) (x2) (x3) (x4))) (lL17 (x0) (Go.IntKind.i64.wrap (x1 + (1:Int))) (x2) (x3) (x4))) (lL17 (x0) (Go.IntKind.i64.wrap (x1 + (1:Int))) (x2) (x3) (x4)))))) (cond (!decide ((x2.getD x1.toNat ZN).1=(0:Int))) (cond (decide ((0:Int)≤x1)) (cond (decide (x1 < (↑x3.length:Int))) (cond (!decide ((x2.getD x1.toNat ZN).2.2.2.2.1=x3.getD x1.toNat (0:Int))) (some ((false,()),())) (cond (decide ((x2.getD x1.toNat ZN).1=(2:Int))) (cond (decide ((0:Int)≤x1)) (cond (decide (x1 < (↑x4.length:Int))) (cond (!x4.getD x1.toNat false) (some ((false,()),())) (cond (decide ((x2.getD x1.toNat ZN).1=(1:Int))) (cond (decide ((x2.getD x1.toNat ZN).2.2.2.2.1=(0:Int))) (cond (decide ((x2.getD x1.toNat ZN).2.2.2.2.2.1=(0:Int))) (some ((false,()),())) (lL17 (x0) (Go.IntKind.i64.wrap (x1 + (1:Int))) (x2) (x3) (x4))) (lL17 (x0) (Go.IntKind.i64.wrap (x1 + (1:Int))) (x2) (x3) (x4))) (lL17 (x0) (Go.IntKind.i64.wrap (x1 + (1:Int))) (x2) (x3) (x4)))) (none)) (none)) (cond (decide ((x2.getD x1.toNat ZN).1=(1:Int))) (cond (decide ((x2.getD x1.toNat ZN).2.2.2.2.1=(0:Int))) (cond (decide ((x2.getD x1.toNat ZN).2.2.2.2.2.1=(0:Int))) (some ((false,()),())) (lL17 (x0) (Go.IntKind.i64.wrap (x1 + (1:Int))) (x2) (x3) (x4))) (lL17 (x0) (Go.IntKind.i64.wrap (x1 + (1:Int))) (x2) (x3) (x4))) (lL17 (x0) (Go.IntKind.i64.wrap (x1 + (1:Int))) (x2) (x3) (x4))))) (none)) (none)) (cond (decide ((x2.getD x1.toNat ZN).1=(2:Int))) (cond (decide ((0:Int)≤x1)) (cond (decide (x1 < (↑x4.length:Int))) (cond (!x4.getD x1.toNat false) (some ((false,()),())) (cond (decide ((x2.getD x1.toNat ZN).1=(1:Int))) (cond (decide ((x2.getD x1.toNat ZN).2.2.2.2.1=(0:Int))) (cond (decide ((x2.getD x1.toNat ZN).2.2.2.2.2.1=(0:Int))) (some ((false,()),())) (lL17 (x0) (Go.IntKind.i64.wrap (x1 + (1:Int))) (x2) (x3) (x4))) (lL17 (x0) (Go.IntKind.i64.wrap (x1 + (1:Int))) (x2) (x3) (x4))) (lL17 (x0) (Go.IntKind.i64.wrap (x1 + (1:Int))) (x2) (x3) (x4)))) (none)) (none)) (cond (decide ((x2.getD x1.toNat ZN).1=(1:Int))) (cond (decide ((x2.getD x1.toNat ZN).2.2.2.2.1=(0:Int))) (cond (decide ((x2.getD x1.toNat ZN).2.2.2.2.2.1=(0:Int))) (some ((false,()),())) (lL17 (x0) (Go.IntKind.i64.wrap (x1 + (1:Int))) (x2) (x3) (x4))) (lL17 (x0) (Go.IntKind.i64.wrap (x1 + (1:Int))) (x2) (x3) (x4))) (lL17 (x0) (Go.IntKind.i64.wrap (x1 + (1:Int))) (x2) (x3) (x4)))))) (none)) (none)) (none)) (none)) (some ((x0,()),()))) (some ((x0,()),()))
noncomputable def st63_L5 (n:Nat) (lL10:Int→Int→(List NT)→(List Int)→Option R63) (lL17:Bool→Int→(List NT)→(List Int)→(List Bool)→Option R63) (x0:Int) (x1:List NT) (x2:List Int):Option R63 :=
 cond (decide (x0 < (10:Int))) (cond (decide ((0:Int)≤x0)) (cond (decide (x0 < (↑x1.length:Int))) ((q116 n (((x1.getD x0.toNat ZN).1,(x1.getD x0.toNat ZN).2.1,(x1.getD x0.toNat ZN).2.2.1,(x1.getD x0.toNat ZN).2.2.2.1,(x1.getD x0.toNat ZN).2.2.2.2.1,(x1.getD x0.toNat ZN).2.2.2.2.2.1,(x1.getD x0.toNat ZN).2.2.2.2.2.2.1,(x1.getD x0.toNat ZN).2.2.2.2.2.2.2.1,(x1.getD x0.toNat ZN).2.2.2.2.2.2.2.2),())).bind fun r1=>cond (!r1.1.1) (some ((false,()),())) (lL10 (x0) ((0:Int)) (x1) (x2))) (none)) (none)) (cond (decide ((0:Int) < (↑x1.length:Int))) (cond (!decide ((x1.getD (Int.toNat (0:Int)) ZN).1=(2:Int))) (some ((false,()),())) ((q117 n (x1,())).bind fun r3=>lL17 (r3.1.2.1) ((0:Int)) (x1) (x2) (r3.1.1))) (none))
theorem e63_top (n:Nat) (a:List NT):runF TT G63 an63 Try.f63 c63 ps63 rs63 n (a,())=st63_top n (fun x0 x1 x2=>at63 n (.head 5) [n] (sh63_L5 x0 x1 x2)) a:=by kernel_rfl
theorem e63_L10_0 (n:Nat) (m5:Nat) (x0:Int) (x1:Int) (x2:List NT) (x3:List Int):at63 n (.head 10) [m5,0] (sh63_L10 x0 x1 x2 x3)=none:=by kernel_rfl
theorem e63_L10 (n:Nat) (m5:Nat) (m10:Nat) (x0:Int) (x1:Int) (x2:List NT) (x3:List Int):at63 n (.head 10) [m5,m10 + 1] (sh63_L10 x0 x1 x2 x3)=st63_L10 n (fun x0 x1 x2 x3=>at63 n (.head 10) [m5,m10] (sh63_L10 x0 x1 x2 x3)) (fun x0 x1 x2=>at63 n (.head 5) [m5] (sh63_L5 x0 x1 x2)) x0 x1 x2 x3:=by kernel_rfl
theorem e63_L17_0 (n:Nat) (x0:Bool) (x1:Int) (x2:List NT) (x3:List Int) (x4:List Bool):at63 n (.head 17) [0] (sh63_L17 x0 x1 x2 x3 x4)=none:=by kernel_rfl
theorem e63_L17 (n:Nat) (m17:Nat) (x0:Bool) (x1:Int) (x2:List NT) (x3:List Int) (x4:List Bool):at63 n (.head 17) [m17 + 1] (sh63_L17 x0 x1 x2 x3 x4)=st63_L17 n (fun x0 x1 x2 x3 x4=>at63 n (.head 17) [m17] (sh63_L17 x0 x1 x2 x3 x4)) x0 x1 x2 x3 x4:=by kernel_rfl
theorem e63_L5_0 (n:Nat) (x0:Int) (x1:List NT) (x2:List Int):at63 n (.head 5) [0] (sh63_L5 x0 x1 x2)=none:=by kernel_rfl
theorem e63_L5 (n:Nat) (m5:Nat) (x0:Int) (x1:List NT) (x2:List Int):at63 n (.head 5) [m5 + 1] (sh63_L5 x0 x1 x2)=st63_L5 n (fun x0 x1 x2 x3=>at63 n (.head 10) [m5,n] (sh63_L10 x0 x1 x2 x3)) (fun x0 x1 x2 x3 x4=>at63 n (.head 17) [n] (sh63_L17 x0 x1 x2 x3 x4)) x0 x1 x2:=by kernel_rfl
noncomputable def p63_L10 (g5:Int→(List NT)→(List Int)→Option R63) (n:Nat):Nat→Int→Int→(List NT)→(List Int)→Option R63
 | 0,_,_,_,_=>none
 | m + 1,x0,x1,x2,x3=>st63_L10 n (p63_L10 g5 n m) g5 x0 x1 x2 x3
noncomputable def p63_L17 (n:Nat):Nat→Bool→Int→(List NT)→(List Int)→(List Bool)→Option R63
 | 0,_,_,_,_,_=>none
 | m + 1,x0,x1,x2,x3,x4=>st63_L17 n (p63_L17 n m) x0 x1 x2 x3 x4
noncomputable def p63_L5 (n:Nat):Nat→Int→(List NT)→(List Int)→Option R63
 | 0,_,_,_=>none
 | m + 1,x0,x1,x2=>st63_L5 n (p63_L10 (p63_L5 n m) n n) (p63_L17 n n) x0 x1 x2
noncomputable def p63 (n:Nat) (a:List NT):Option R63:=st63_top n (p63_L5 n n) a
theorem t63_L10 (n:Nat) (m5:Nat):∀ (m10:Nat) (x0:Int) (x1:Int) (x2:List NT) (x3:List Int),at63 n (.head 10) [m5,m10] (sh63_L10 x0 x1 x2 x3)=p63_L10 (fun x0 x1 x2=>at63 n (.head 5) [m5] (sh63_L5 x0 x1 x2)) n m10 x0 x1 x2 x3:=by
 intro m
 induction m with
 | zero=>intros; rw [e63_L10_0]; rfl
 | succ m ih =>
  intros
  rw [e63_L10]
  try simp only [ih]
  rfl
theorem t63_L17 (n:Nat):∀ (m17:Nat) (x0:Bool) (x1:Int) (x2:List NT) (x3:List Int) (x4:List Bool),at63 n (.head 17) [m17] (sh63_L17 x0 x1 x2 x3 x4)=p63_L17 n m17 x0 x1 x2 x3 x4:=by
 intro m
 induction m with
 | zero=>intros; rw [e63_L17_0]; rfl
 | succ m ih =>
  intros
  rw [e63_L17]
  try simp only [ih]
  rfl
theorem t63_L5 (n:Nat):∀ (m5:Nat) (x0:Int) (x1:List NT) (x2:List Int),at63 n (.head 5) [m5] (sh63_L5 x0 x1 x2)=p63_L5 n m5 x0 x1 x2:=by
 intro m
 induction m with
 | zero=>intros; rw [e63_L5_0]; rfl
 | succ m ih =>
  intros
  rw [e63_L5]
  try simp only [t63_L10,t63_L17,ih]
  rfl
theorem F63_eq (n:Nat) (a:List NT):runF TT G63 an63 Try.f63 c63 ps63 rs63 n (a,())=p63 n a:=by
 rw [e63_top]
 simp only [t63_L5]
 try rfl
noncomputable def q63 (n:Nat) (x:argsD ps63):Option R63:=p63 n x.1
noncomputable def Sm63:Sm:=⟨ps63,rs63,false,q63⟩
theorem holds63 (hg:GamOK Try.prog G63):Holds Try.prog 63 Sm63:=by
 have:=h0_63 hg
 have e:(runF TT G63 an63 Try.f63 c63 ps63 rs63)=q63:=by
  funext n x
  exact F63_eq n x.1
 rw [e] at this
 exact this
theorem gam63:GamOK Try.prog G63:=by
 intro f s h
 unfold G63 at h
 split at h
 ·injection h with h; subst h; exact ⟨⟨Try.f116,c116,Try.func116,by kernel_rfl,by decide +kernel⟩,hh116⟩
 ·injection h with h; subst h; exact ⟨⟨Try.f117,c117,Try.func117,by kernel_rfl,by decide +kernel⟩,hh117⟩
 ·cases h
theorem hh63:Holds Try.prog 63 Sm63:=holds63 gam63
end Go.Proofs.Ytbjgiioppmkpiaa.Rx.S

namespace Go.Proofs.Ytbjgiioppmkpiaa.Rx.S
open Go Go.RowKit Go.Proofs
set_option maxRecDepth 100000
noncomputable def c64:Code:=(Try.f64.body.getD .skip)
def an64:An:=⟨fun r=>match r with | 2=>⟨[1,3],[]⟩ | _=>⟨[],[]⟩,fun _ _=>none⟩
abbrev ps64:List PK:=[.val tCr true]
abbrev rs64:List RK:=[.val .bool false]
abbrev R64:=retsD rs64 × outsD ps64
noncomputable def G64:Gam:=fun f=>match f with | 118=>some Sm118 | _=>none
theorem h0_64 (hg:GamOK Try.prog G64):Holds Try.prog 64 ⟨ps64,rs64,false,runF TT G64 an64 Try.f64 c64 ps64 rs64⟩:=holds_of tt_ok hg mixed Try.func64 (by kernel_rfl) (by rfl) (by decide +kernel)
noncomputable def at64:Nat→Pt→List Nat→St→Option R64:=atF TT G64 an64 Try.f64 c64 _ _
def sh64_L2 (x0:Int) (x1:Int) (x2:Int) (x3:List Int):St:=(St.mk (AV.undef :: ((AV.one (SV.bptr 1000000 0)) :: (AV.undef :: ((AV.one (SV.int (Go.IntKind.i64) x0)) :: (AV.undef :: (AV.undef :: (AV.undef :: (AV.undef :: (AV.undef :: (AV.undef :: (AV.undef :: (AV.undef :: (AV.undef :: (AV.undef :: (AV.undef :: (AV.undef :: (AV.undef :: (AV.undef :: (AV.undef :: (AV.undef :: (AV.undef :: (AV.undef :: (AV.undef :: (AV.undef :: (AV.undef :: (AV.undef :: (AV.undef :: (AV.undef :: (AV.undef :: (AV.undef :: (AV.undef :: (AV.undef :: (AV.undef :: (AV.undef :: (AV.undef :: (AV.undef :: (AV.undef :: (AV.undef :: (AV.undef :: (AV.undef :: (AV.undef :: (AV.undef :: (AV.undef :: (AV.undef :: (AV.undef :: (AV.undef :: (AV.undef :: (AV.undef :: (AV.undef :: (AV.undef :: [])))))))))))))))))))))))))))))))))))))))))))))))))) ((1000000,(Ent.box ((SV.int (Go.IntKind.i64) x1) :: ((SV.int (Go.IntKind.i64) x2) :: ((SV.con (⟨3,Ty.int Go.IntKind.i64,x3⟩:Rw)) :: []))))) :: []))
noncomputable def st64_top (n:Nat) (lL2:Int→Int→Int→(List Int)→Option R64) (a:Int × Int × List Int):Option R64 :=
 lL2 ((0:Int)) (a.1) (a.2.1) (a.2.2)
noncomputable def st64_L2 (n:Nat) (lL2:Int→Int→Int→(List Int)→Option R64) (x0:Int) (x1:Int) (x2:Int) (x3:List Int):Option R64 :=
 cond (decide (x0 < (↑x3.length:Int))) (cond (decide ((0:Int)≤x0)) (cond (decide (x0 < (↑x3.length:Int))) ((q118 n (x3.getD x0.toNat (0:Int),())).bind fun r1=>cond (!r1.1.1) (some ((false,()),())) (cond (decide ((0:Int) < x0)) (cond (decide ((0:Int)≤Go.IntKind.i64.wrap (x0 - (1:Int)))) (cond (decide (Go.IntKind.i64.wrap (x0 - (1:Int)) < (↑x3.length:Int))) (cond (decide ((0:Int)≤x0)) (cond (decide (x0 < (↑x3.length:Int))) (cond (decide (x3.getD x0.toNat (0:Int)≤x3.getD (Go.IntKind.i64.wrap (x0 - (1:Int))).toNat (0:Int))) (some ((false,()),())) (lL2 (Go.IntKind.i64.wrap (x0 + (1:Int))) (x1) (x2) (x3))) (none)) (none)) (none)) (none)) (lL2 (Go.IntKind.i64.wrap (x0 + (1:Int))) (x1) (x2) (x3)))) (none)) (none)) ((q118 n (x1,())).bind fun r2=>cond (r2.1.1) ((q118 n (x2,())).bind fun r3=>cond (r3.1.1) (some ((decide ((↑x3.length:Int)≤(3:Int)),()),())) (some ((false,()),()))) (some ((false,()),())))
theorem e64_top (n:Nat) (a:Int × Int × List Int):runF TT G64 an64 Try.f64 c64 ps64 rs64 n (a,())=st64_top n (fun x0 x1 x2 x3=>at64 n (.head 2) [n] (sh64_L2 x0 x1 x2 x3)) a:=by kernel_rfl
theorem e64_L2_0 (n:Nat) (x0:Int) (x1:Int) (x2:Int) (x3:List Int):at64 n (.head 2) [0] (sh64_L2 x0 x1 x2 x3)=none:=by kernel_rfl
theorem e64_L2 (n:Nat) (m2:Nat) (x0:Int) (x1:Int) (x2:Int) (x3:List Int):at64 n (.head 2) [m2 + 1] (sh64_L2 x0 x1 x2 x3)=st64_L2 n (fun x0 x1 x2 x3=>at64 n (.head 2) [m2] (sh64_L2 x0 x1 x2 x3)) x0 x1 x2 x3:=by kernel_rfl
noncomputable def p64_L2 (n:Nat):Nat→Int→Int→Int→(List Int)→Option R64
 | 0,_,_,_,_=>none
 | m + 1,x0,x1,x2,x3=>st64_L2 n (p64_L2 n m) x0 x1 x2 x3
noncomputable def p64 (n:Nat) (a:Int × Int × List Int):Option R64:=st64_top n (p64_L2 n n) a
theorem t64_L2 (n:Nat):∀ (m2:Nat) (x0:Int) (x1:Int) (x2:Int) (x3:List Int),at64 n (.head 2) [m2] (sh64_L2 x0 x1 x2 x3)=p64_L2 n m2 x0 x1 x2 x3:=by
 intro m
 induction m with
 | zero=>intros; rw [e64_L2_0]; rfl
 | succ m ih =>
  intros
  rw [e64_L2]
  try simp only [ih]
  rfl
theorem F64_eq (n:Nat) (a:Int × Int × List Int):runF TT G64 an64 Try.f64 c64 ps64 rs64 n (a,())=p64 n a:=by
 rw [e64_top]
 simp only [t64_L2]
 try rfl
noncomputable def q64 (n:Nat) (x:argsD ps64):Option R64:=p64 n x.1
noncomputable def Sm64:Sm:=⟨ps64,rs64,false,q64⟩
theorem holds64 (hg:GamOK Try.prog G64):Holds Try.prog 64 Sm64:=by
 have:=h0_64 hg
 have e:(runF TT G64 an64 Try.f64 c64 ps64 rs64)=q64:=by
  funext n x
  exact F64_eq n x.1
 rw [e] at this
 exact this
theorem gam64:GamOK Try.prog G64:=by
 intro f s h
 unfold G64 at h
 split at h
 ·injection h with h; subst h; exact ⟨⟨Try.f118,c118,Try.func118,by kernel_rfl,by decide +kernel⟩,hh118⟩
 ·cases h
theorem hh64:Holds Try.prog 64 Sm64:=holds64 gam64
end Go.Proofs.Ytbjgiioppmkpiaa.Rx.S

namespace Go.Proofs.Ytbjgiioppmkpiaa.Rx.S
open Go Go.RowKit Go.Proofs
set_option maxRecDepth 100000
noncomputable def c16:Code:=(Try.f16.body.getD .skip)
def an16:An:=⟨fun _=>⟨[],[]⟩,fun _ _=>none⟩
abbrev ps16:List PK:=[.val tFs true,.val tCr true,.val i64 false,.val i64 false]
abbrev rs16:List RK:=[.own tFs true,.val i64 false]
abbrev R16:=retsD rs16 × outsD ps16
noncomputable def G16:Gam:=fun f=>match f with | 60=>some Sm60 | 61=>some Sm61 | 62=>some Sm62 | _=>none
theorem h0_16 (hg:GamOK Try.prog G16):Holds Try.prog 16 ⟨ps16,rs16,false,runF TT G16 an16 Try.f16 c16 ps16 rs16⟩:=holds_of tt_ok hg mixed Try.func16 (by kernel_rfl) (by rfl) (by decide +kernel)
noncomputable def st16_top (n:Nat) (a:List NT) (b:Int × Int × List Int) (c:Int) (d:Int):Option R16 :=
 (q60 n (a,(b.1,b.2.1,b.2.2),[c],())).bind fun r0=>cond (!r0.1.1) (some (([],((1:Int),())),())) ((q61 n (d,(0:Int),(511:Int),())).bind fun r1=>cond (!r1.1.1) (some (([],((1:Int),())),())) ((q62 n (a,())).bind fun r2=>cond (!decide (b.1=(0:Int))) (cond (decide ((0:Int)≤c)) (cond (decide (c < (↑a.length:Int))) (cond (!decide (b.1=(a.getD c.toNat ZN).2.2.1)) (some ((r2.1.1,((5:Int),())),())) (cond (decide ((0:Int)≤c)) (cond (decide (c < (↑(List.length r2.1.1):Int))) (some ((List.set r2.1.1 c.toNat ((List.getD r2.1.1 c.toNat ZN).1,d,(List.getD r2.1.1 c.toNat ZN).2.2),((0:Int),())),())) (none)) (none))) (none)) (none)) (cond (decide ((0:Int)≤c)) (cond (decide (c < (↑(List.length r2.1.1):Int))) (some ((List.set r2.1.1 c.toNat ((List.getD r2.1.1 c.toNat ZN).1,d,(List.getD r2.1.1 c.toNat ZN).2.2),((0:Int),())),())) (none)) (none))))
theorem e16_top (n:Nat) (a:List NT) (b:Int × Int × List Int) (c:Int) (d:Int):runF TT G16 an16 Try.f16 c16 ps16 rs16 n (a,b,c,d,())=st16_top n a b c d:=by kernel_rfl
noncomputable def p16 (n:Nat) (a:List NT) (b:Int × Int × List Int) (c:Int) (d:Int):Option R16:=st16_top n a b c d
theorem F16_eq (n:Nat) (a:List NT) (b:Int × Int × List Int) (c:Int) (d:Int):runF TT G16 an16 Try.f16 c16 ps16 rs16 n (a,b,c,d,())=p16 n a b c d:=by
 rw [e16_top]
 skip
 try rfl
noncomputable def q16 (n:Nat) (x:argsD ps16):Option R16:=p16 n x.1 x.2.1 x.2.2.1 x.2.2.2.1
noncomputable def Sm16:Sm:=⟨ps16,rs16,false,q16⟩
theorem holds16 (hg:GamOK Try.prog G16):Holds Try.prog 16 Sm16:=by
 have:=h0_16 hg
 have e:(runF TT G16 an16 Try.f16 c16 ps16 rs16)=q16:=by
  funext n x
  exact F16_eq n x.1 x.2.1 x.2.2.1 x.2.2.2.1
 rw [e] at this
 exact this
theorem gam16:GamOK Try.prog G16:=by
 intro f s h
 unfold G16 at h
 split at h
 ·injection h with h; subst h; exact ⟨⟨Try.f60,c60,Try.func60,by kernel_rfl,by decide +kernel⟩,hh60⟩
 ·injection h with h; subst h; exact ⟨⟨Try.f61,c61,Try.func61,by kernel_rfl,by decide +kernel⟩,hh61⟩
 ·injection h with h; subst h; exact ⟨⟨Try.f62,c62,Try.func62,by kernel_rfl,by decide +kernel⟩,hh62⟩
 ·cases h
theorem hh16:Holds Try.prog 16 Sm16:=holds16 gam16
end Go.Proofs.Ytbjgiioppmkpiaa.Rx.S

namespace Go.Proofs.Ytbjgiioppmkpiaa.Rx.S
open Go Go.RowKit Go.Proofs
set_option maxRecDepth 100000
noncomputable def c17:Code:=(Try.f17.body.getD .skip)
def an17:An:=⟨fun _=>⟨[],[]⟩,fun _ _=>none⟩
abbrev ps17:List PK:=[.val tFs true,.val tCr true,.val i64 false,.val i64 false]
abbrev rs17:List RK:=[.own tFs true,.val i64 false]
abbrev R17:=retsD rs17 × outsD ps17
noncomputable def G17:Gam:=fun f=>match f with | 63=>some Sm63 | 64=>some Sm64 | 65=>some Sm65 | 66=>some Sm66 | 67=>some Sm67 | _=>none
theorem h0_17 (hg:GamOK Try.prog G17):Holds Try.prog 17 ⟨ps17,rs17,false,runF TT G17 an17 Try.f17 c17 ps17 rs17⟩:=holds_of tt_ok hg mixed Try.func17 (by kernel_rfl) (by rfl) (by decide +kernel)
noncomputable def st17_top (n:Nat) (a:List NT) (b:Int × Int × List Int) (c:Int) (d:Int):Option R17 :=
 (q63 n (a,())).bind fun r0=>cond (!r0.1.1) (some (([],((1:Int),())),())) ((q64 n ((b.1,b.2.1,b.2.2),())).bind fun r1=>cond (!r1.1.1) (some (([],((1:Int),())),())) ((q65 n (a,c,())).bind fun r2=>cond (!r2.1.1) (some (([],((1:Int),())),())) ((q66 n (d,(0:Int),(511:Int),())).bind fun r3=>cond (!r3.1.1) (some (([],((1:Int),())),())) ((q67 n (a,())).bind fun r4=>cond (!decide (b.1=(0:Int))) (cond (decide ((0:Int)≤c)) (cond (decide (c < (↑a.length:Int))) (cond (!decide (b.1=(a.getD c.toNat ZN).2.2.1)) (some ((r4.1.1,((5:Int),())),())) (cond (decide ((0:Int)≤c)) (cond (decide (c < (↑(List.length r4.1.1):Int))) (some ((List.set r4.1.1 c.toNat ((List.getD r4.1.1 c.toNat ZN).1,d,(List.getD r4.1.1 c.toNat ZN).2.2),((0:Int),())),())) (none)) (none))) (none)) (none)) (cond (decide ((0:Int)≤c)) (cond (decide (c < (↑(List.length r4.1.1):Int))) (some ((List.set r4.1.1 c.toNat ((List.getD r4.1.1 c.toNat ZN).1,d,(List.getD r4.1.1 c.toNat ZN).2.2),((0:Int),())),())) (none)) (none))))))
theorem e17_top (n:Nat) (a:List NT) (b:Int × Int × List Int) (c:Int) (d:Int):runF TT G17 an17 Try.f17 c17 ps17 rs17 n (a,b,c,d,())=st17_top n a b c d:=by kernel_rfl
noncomputable def p17 (n:Nat) (a:List NT) (b:Int × Int × List Int) (c:Int) (d:Int):Option R17:=st17_top n a b c d
theorem F17_eq (n:Nat) (a:List NT) (b:Int × Int × List Int) (c:Int) (d:Int):runF TT G17 an17 Try.f17 c17 ps17 rs17 n (a,b,c,d,())=p17 n a b c d:=by
 rw [e17_top]
 skip
 try rfl
noncomputable def q17 (n:Nat) (x:argsD ps17):Option R17:=p17 n x.1 x.2.1 x.2.2.1 x.2.2.2.1
noncomputable def Sm17:Sm:=⟨ps17,rs17,false,q17⟩
theorem holds17 (hg:GamOK Try.prog G17):Holds Try.prog 17 Sm17:=by
 have:=h0_17 hg
 have e:(runF TT G17 an17 Try.f17 c17 ps17 rs17)=q17:=by
  funext n x
  exact F17_eq n x.1 x.2.1 x.2.2.1 x.2.2.2.1
 rw [e] at this
 exact this
theorem gam17:GamOK Try.prog G17:=by
 intro f s h
 unfold G17 at h
 split at h
 ·injection h with h; subst h; exact ⟨⟨Try.f63,c63,Try.func63,by kernel_rfl,by decide +kernel⟩,hh63⟩
 ·injection h with h; subst h; exact ⟨⟨Try.f64,c64,Try.func64,by kernel_rfl,by decide +kernel⟩,hh64⟩
 ·injection h with h; subst h; exact ⟨⟨Try.f65,c65,Try.func65,by kernel_rfl,by decide +kernel⟩,hh65⟩
 ·injection h with h; subst h; exact ⟨⟨Try.f66,c66,Try.func66,by kernel_rfl,by decide +kernel⟩,hh66⟩
 ·injection h with h; subst h; exact ⟨⟨Try.f67,c67,Try.func67,by kernel_rfl,by decide +kernel⟩,hh67⟩
 ·cases h
theorem hh17:Holds Try.prog 17 Sm17:=holds17 gam17
end Go.Proofs.Ytbjgiioppmkpiaa.Rx.S

namespace Go.Proofs.Ytbjgiioppmkpiaa.Rx.S
open Go Go.RowKit Go.Proofs
set_option maxRecDepth 100000
abbrev ps136:List PK:=[.val i64 false]
abbrev rs136:List RK:=[.val .str false]
abbrev R136:=retsD rs136 × outsD ps136
noncomputable def st136_top (n:Nat) (lL4:Int→ByteArray→Option R136) (a:Int):Option R136 :=
 cond (decide (a≤(0:Int))) (some ((ByteArray.mk #[(109:UInt8),(48:UInt8)],()),())) (lL4 (a) (ByteArray.mk #[]))
noncomputable def st136_L4 (n:Nat) (lL4:Int→ByteArray→Option R136) (x0:Int) (x1:ByteArray):Option R136 :=
 cond (decide ((0:Int) < x0)) (cond (decide ((List.foldl (fun r n=>r.push (UInt8.ofNat n.toNat)) ByteArray.empty [Go.IntKind.u8.wrap (Go.IntKind.i64.wrap ((48:Int) + x0.tmod (10:Int)))]).size + x1.size≤(9223372036854775807:Nat))) (lL4 (Go.IntKind.i64.wrap (x0.tdiv (10:Int))) (List.foldl (fun r n=>r.push (UInt8.ofNat n.toNat)) ByteArray.empty [Go.IntKind.u8.wrap (Go.IntKind.i64.wrap ((48:Int) + x0.tmod (10:Int)))] ++ x1)) (none)) (cond (decide ((ByteArray.mk #[(109:UInt8)]).size + x1.size≤(9223372036854775807:Nat))) (some ((ByteArray.mk #[(109:UInt8)] ++ x1,()),())) (none))
noncomputable def p136_L4 (n:Nat):Nat→Int→ByteArray→Option R136
 | 0,_,_=>none
 | m + 1,x0,x1=>st136_L4 n (p136_L4 n m) x0 x1
noncomputable def p136 (n:Nat) (a:Int):Option R136:=st136_top n (p136_L4 n n) a
noncomputable def q136 (n:Nat) (x:argsD ps136):Option R136:=p136 n x.1
end Go.Proofs.Ytbjgiioppmkpiaa.Rx.S

namespace Go.Proofs.Ytbjgiioppmkpiaa.Rx.S
open Go Go.RowKit Go.Proofs
set_option maxRecDepth 100000
abbrev ps138:List PK:=[.val (.row 100 tEn) false,.val i64 false]
abbrev rs138:List RK:=[.val i64 false]
abbrev R138:=retsD rs138 × outsD ps138
noncomputable def st138_top (n:Nat) (lL2:(List (ByteArray × Int))→Int→Int→Option R138) (a:List (ByteArray × Int)) (b:Int):Option R138 :=
 lL2 (a) (b) ((0:Int))
noncomputable def st138_L2 (n:Nat) (lL2:(List (ByteArray × Int))→Int→Int→Option R138) (x0:List (ByteArray × Int)) (x1:Int) (x2:Int):Option R138 :=
 cond (decide (x2 < (↑x0.length:Int))) (cond (decide ((0:Int)≤x2)) (cond (decide (x2 < (↑x0.length:Int))) ((q136 n (x1,())).bind fun r1=>cond (!ByteArray.toList (x0.getD x2.toNat (ByteArray.empty,(0:Int))).1 == ByteArray.toList r1.1.1) (some (((-1:Int),()),())) (cond (decide ((0:Int)≤x2)) (cond (decide (x2 < (↑x0.length:Int))) (cond (!decide ((x0.getD x2.toNat (ByteArray.empty,(0:Int))).2=Go.IntKind.i64.wrap (x1 + (1:Int)))) (some (((-1:Int),()),())) (lL2 (x0) (Go.IntKind.i64.wrap (Go.IntKind.i64.wrap (x1 + (1:Int)) + (1:Int))) (Go.IntKind.i64.wrap (x2 + (1:Int))))) (none)) (none))) (none)) (none)) (some ((x1,()),()))
noncomputable def p138_L2 (n:Nat):Nat→(List (ByteArray × Int))→Int→Int→Option R138
 | 0,_,_,_=>none
 | m + 1,x0,x1,x2=>st138_L2 n (p138_L2 n m) x0 x1 x2
noncomputable def p138 (n:Nat) (a:List (ByteArray × Int)) (b:Int):Option R138:=st138_top n (p138_L2 n n) a b
noncomputable def q138 (n:Nat) (x:argsD ps138):Option R138:=p138 n x.1 x.2.1
end Go.Proofs.Ytbjgiioppmkpiaa.Rx.S

namespace Go.Proofs.Ytbjgiioppmkpiaa.Rx.S
open Go Go.RowKit Go.Proofs
set_option maxRecDepth 100000
abbrev ps100:List PK:=[.val tFs false,.val i64 false]
abbrev rs100:List RK:=[.val i64 false]
abbrev R100:=retsD rs100 × outsD ps100
noncomputable def st100_top (n:Nat) (lL2:(List NT)→Int→Int→Option R100) (a:List NT) (b:Int):Option R100 :=
 lL2 (a) (b) ((0:Int))
noncomputable def st100_L2 (n:Nat) (lL2:(List NT)→Int→Int→Option R100) (x0:List NT) (x1:Int) (x2:Int):Option R100 :=
 cond (decide (x2 < (↑x0.length:Int))) (cond (decide ((0:Int)≤x2)) (cond (decide (x2 < (↑x0.length:Int))) (cond (!decide ((x0.getD x2.toNat ZN).1=x1)) (some (((-1:Int),()),())) (cond (decide ((0:Int)≤x2)) (cond (decide (x2 < (↑x0.length:Int))) (cond (!decide ((x0.getD x2.toNat ZN).2.1=Go.IntKind.i64.wrap (x1 + (1:Int)))) (some (((-1:Int),()),())) (cond (decide ((0:Int)≤x2)) (cond (decide (x2 < (↑x0.length:Int))) (cond (!decide ((x0.getD x2.toNat ZN).2.2.1=Go.IntKind.i64.wrap (Go.IntKind.i64.wrap (x1 + (1:Int)) + (1:Int)))) (some (((-1:Int),()),())) (cond (decide ((0:Int)≤x2)) (cond (decide (x2 < (↑x0.length:Int))) (cond (!decide ((x0.getD x2.toNat ZN).2.2.2.1=Go.IntKind.i64.wrap (Go.IntKind.i64.wrap (Go.IntKind.i64.wrap (x1 + (1:Int)) + (1:Int)) + (1:Int)))) (some (((-1:Int),()),())) (cond (decide ((0:Int)≤x2)) (cond (decide (x2 < (↑x0.length:Int))) (cond (!decide ((x0.getD x2.toNat ZN).2.2.2.2.1=Go.IntKind.i64.wrap (Go.IntKind.i64.wrap (Go.IntKind.i64.wrap (Go.IntKind.i64.wrap (x1 + (1:Int)) + (1:Int)) + (1:Int)) + (1:Int)))) (some (((-1:Int),()),())) (cond (decide ((0:Int)≤x2)) (cond (decide (x2 < (↑x0.length:Int))) (cond (!decide ((x0.getD x2.toNat ZN).2.2.2.2.2.1=Go.IntKind.i64.wrap (Go.IntKind.i64.wrap (Go.IntKind.i64.wrap (Go.IntKind.i64.wrap (Go.IntKind.i64.wrap (x1 + (1:Int)) + (1:Int)) + (1:Int)) + (1:Int)) + (1:Int)))) (some (((-1:Int),()),())) (cond (decide ((0:Int)≤x2)) (cond (decide (x2 < (↑x0.length:Int))) (cond (!(x0.getD x2.toNat ZN).2.2.2.2.2.2.1 == decide ((Go.IntKind.i64.wrap (Go.IntKind.i64.wrap (Go.IntKind.i64.wrap (Go.IntKind.i64.wrap (Go.IntKind.i64.wrap (Go.IntKind.i64.wrap (x1 + (1:Int)) + (1:Int)) + (1:Int)) + (1:Int)) + (1:Int)) + (1:Int))).tmod (3:Int)=(0:Int))) (some (((-1:Int),()),())) (cond (decide ((0:Int)≤x2)) (cond (decide (x2 < (↑x0.length:Int))) ((q136 n (Go.IntKind.i64.wrap (Go.IntKind.i64.wrap (Go.IntKind.i64.wrap (Go.IntKind.i64.wrap (Go.IntKind.i64.wrap (Go.IntKind.i64.wrap (Go.IntKind.i64.wrap (x1 + (1:Int)) + (1:Int)) + (1:Int)) + (1:Int)) + (1:Int)) + (1:Int)) + (1:Int)),())).bind fun r1=>cond (!ByteArray.toList (x0.getD x2.toNat ZN).2.2.2.2.2.2.2.1 == ByteArray.toList r1.1.1) (some (((-1:Int),()),())) (cond (decide ((0:Int)≤x2)) (cond (decide (x2 < (↑x0.length:Int))) ((q138 n ((x0.getD x2.toNat ZN).2.2.2.2.2.2.2.2,Go.IntKind.i64.wrap (Go.IntKind.i64.wrap (Go.IntKind.i64.wrap (Go.IntKind.i64.wrap (Go.IntKind.i64.wrap (Go.IntKind.i64.wrap (Go.IntKind.i64.wrap (Go.IntKind.i64.wrap (x1 + (1:Int)) + (1:Int)) + (1:Int)) + (1:Int)) + (1:Int)) + (1:Int)) + (1:Int)) + (1:Int)),())).bind fun r2=>cond (decide (r2.1.1 < (0:Int))) (some (((-1:Int),()),())) (lL2 (x0) (r2.1.1) (Go.IntKind.i64.wrap (x2 + (1:Int))))) (none)) (none))) (none)) (none))) (none)) (none))) (none)) (none))) (none)) (none))) (none)) (none))) (none)) (none))) (none)) (none))) (none)) (none)) (some ((x1,()),()))
noncomputable def p100_L2 (n:Nat):Nat→(List NT)→Int→Int→Option R100
 | 0,_,_,_=>none
 | m + 1,x0,x1,x2=>st100_L2 n (p100_L2 n m) x0 x1 x2
noncomputable def p100 (n:Nat) (a:List NT) (b:Int):Option R100:=st100_top n (p100_L2 n n) a b
noncomputable def q100 (n:Nat) (x:argsD ps100):Option R100:=p100 n x.1 x.2.1
end Go.Proofs.Ytbjgiioppmkpiaa.Rx.S

namespace Go.Proofs.Ytbjgiioppmkpiaa.Rx.S
open Go Go.RowKit Go.Proofs
set_option maxRecDepth 100000
abbrev ps137:List PK:=[.io (.row 100 tEn) false,.val i64 false]
abbrev rs137:List RK:=[.val i64 false]
abbrev R137:=retsD rs137 × outsD ps137
noncomputable def st137_top (n:Nat) (lL2:Int→Int→(List (ByteArray × Int))→Option R137) (a:List (ByteArray × Int)) (b:Int):Option R137 :=
 lL2 (b) ((0:Int)) (a)
noncomputable def st137_L2 (n:Nat) (lL2:Int→Int→(List (ByteArray × Int))→Option R137) (x0:Int) (x1:Int) (x2:List (ByteArray × Int)):Option R137 :=
 cond (decide (x1 < (↑x2.length:Int))) ((q136 n (x0,())).bind fun r1=>cond (decide ((0:Int)≤x1)) (cond (decide (x1 < (↑x2.length:Int))) (cond (decide ((0:Int)≤x1)) (cond (decide (x1 < (↑(x2.set x1.toNat (r1.1.1,(x2.getD x1.toNat (ByteArray.empty,(0:Int))).2)).length:Int))) (lL2 (Go.IntKind.i64.wrap (Go.IntKind.i64.wrap (x0 + (1:Int)) + (1:Int))) (Go.IntKind.i64.wrap (x1 + (1:Int))) ((x2.set x1.toNat (r1.1.1,(x2.getD x1.toNat (ByteArray.empty,(0:Int))).2)).set x1.toNat (((x2.set x1.toNat (r1.1.1,(x2.getD x1.toNat (ByteArray.empty,(0:Int))).2)).getD x1.toNat (ByteArray.empty,(0:Int))).1,Go.IntKind.i64.wrap (x0 + (1:Int))))) (none)) (none)) (none)) (none)) (some ((x0,()),(x2,())))
noncomputable def p137_L2 (n:Nat):Nat→Int→Int→(List (ByteArray × Int))→Option R137
 | 0,_,_,_=>none
 | m + 1,x0,x1,x2=>st137_L2 n (p137_L2 n m) x0 x1 x2
noncomputable def p137 (n:Nat) (a:List (ByteArray × Int)) (b:Int):Option R137:=st137_top n (p137_L2 n n) a b
noncomputable def q137 (n:Nat) (x:argsD ps137):Option R137:=p137 n x.1 x.2.1
end Go.Proofs.Ytbjgiioppmkpiaa.Rx.S

namespace Go.Proofs.Ytbjgiioppmkpiaa.Rx.S
open Go Go.RowKit Go.Proofs
set_option maxRecDepth 100000
abbrev ps94:List PK:=[.io (.row 3 i64) false,.val i64 false]
abbrev rs94:List RK:=[.val i64 false]
abbrev R94:=retsD rs94 × outsD ps94
noncomputable def st94_top (n:Nat) (lL2:Int→Int→(List Int)→Option R94) (a:List Int) (b:Int):Option R94 :=
 lL2 (b) ((0:Int)) (a)
noncomputable def st94_L2 (n:Nat) (lL2:Int→Int→(List Int)→Option R94) (x0:Int) (x1:Int) (x2:List Int):Option R94 :=
 cond (decide (x1 < (↑x2.length:Int))) (cond (decide ((0:Int)≤x1)) (cond (decide (x1 < (↑x2.length:Int))) (lL2 (Go.IntKind.i64.wrap (x0 + (1:Int))) (Go.IntKind.i64.wrap (x1 + (1:Int))) (x2.set x1.toNat x0)) (none)) (none)) (some ((x0,()),(x2,())))
noncomputable def p94_L2 (n:Nat):Nat→Int→Int→(List Int)→Option R94
 | 0,_,_,_=>none
 | m + 1,x0,x1,x2=>st94_L2 n (p94_L2 n m) x0 x1 x2
noncomputable def p94 (n:Nat) (a:List Int) (b:Int):Option R94:=st94_top n (p94_L2 n n) a b
noncomputable def q94 (n:Nat) (x:argsD ps94):Option R94:=p94 n x.1 x.2.1
end Go.Proofs.Ytbjgiioppmkpiaa.Rx.S

namespace Go.Proofs.Ytbjgiioppmkpiaa.Rx.S
open Go Go.RowKit Go.Proofs
set_option maxRecDepth 100000
abbrev ps37:List PK:=[.io tCr true,.val i64 false]
abbrev rs37:List RK:=[.val i64 false]
abbrev R37:=retsD rs37 × outsD ps37
noncomputable def st37_top (n:Nat) (a:Int × Int × List Int) (b:Int):Option R37 :=
 (q94 n (a.2.2,b,())).bind fun r0=>some ((r0.1.1,()),((a.1,(a.2.1,r0.2.1)),()))
noncomputable def p37 (n:Nat) (a:Int × Int × List Int) (b:Int):Option R37:=st37_top n a b
noncomputable def q37 (n:Nat) (x:argsD ps37):Option R37:=p37 n x.1 x.2.1
end Go.Proofs.Ytbjgiioppmkpiaa.Rx.S

namespace Go.Proofs.Ytbjgiioppmkpiaa.Rx.S
open Go Go.RowKit Go.Proofs
set_option maxRecDepth 100000
abbrev ps99:List PK:=[.io tFs false,.val i64 false]
abbrev rs99:List RK:=[.val i64 false]
abbrev R99:=retsD rs99 × outsD ps99
noncomputable def st99_top (n:Nat) (lL2:Int→Int→(List NT)→Option R99) (a:List NT) (b:Int):Option R99 :=
 lL2 (b) ((0:Int)) (a)
noncomputable def st99_C20_0 (n:Nat) (lL2:Int→Int→(List NT)→Option R99) (x0:Int) (x1:Int) (x2:List NT):Option R99 :=
 cond (decide ((0:Int)≤x1)) (cond (decide (x1 < (↑x2.length:Int))) ((q137 n ((x2.getD x1.toNat ZN).2.2.2.2.2.2.2.2,x0,())).bind fun r10=>lL2 (r10.1.1) (Go.IntKind.i64.wrap (x1 + (1:Int))) (x2.set x1.toNat ((x2.getD x1.toNat ZN).1,(x2.getD x1.toNat ZN).2.1,(x2.getD x1.toNat ZN).2.2.1,(x2.getD x1.toNat ZN).2.2.2.1,(x2.getD x1.toNat ZN).2.2.2.2.1,(x2.getD x1.toNat ZN).2.2.2.2.2.1,(x2.getD x1.toNat ZN).2.2.2.2.2.2.1,(x2.getD x1.toNat ZN).2.2.2.2.2.2.2.1,r10.2.1))) (none)) (none)
noncomputable def st99_C18_0 (n:Nat) (lC20_0:Int→Int→(List NT)→Option R99) (x0:Int) (x1:Int) (x2:List NT):Option R99 :=
 (q136 n (x0,())).bind fun r8=>cond (decide ((0:Int)≤x1)) (cond (decide (x1 < (↑x2.length:Int))) (lC20_0 (Go.IntKind.i64.wrap (x0 + (1:Int))) (x1) (x2.set x1.toNat ((x2.getD x1.toNat ZN).1,(x2.getD x1.toNat ZN).2.1,(x2.getD x1.toNat ZN).2.2.1,(x2.getD x1.toNat ZN).2.2.2.1,(x2.getD x1.toNat ZN).2.2.2.2.1,(x2.getD x1.toNat ZN).2.2.2.2.2.1,(x2.getD x1.toNat ZN).2.2.2.2.2.2.1,r8.1.1,(x2.getD x1.toNat ZN).2.2.2.2.2.2.2.2))) (none)) (none)
noncomputable def st99_C16_0 (n:Nat) (lC18_0:Int→Int→(List NT)→Option R99) (x0:Int) (x1:Int) (x2:List NT):Option R99 :=
 cond (decide ((0:Int)≤x1)) (cond (decide (x1 < (↑x2.length:Int))) (lC18_0 (Go.IntKind.i64.wrap (x0 + (1:Int))) (x1) (x2.set x1.toNat ((x2.getD x1.toNat ZN).1,(x2.getD x1.toNat ZN).2.1,(x2.getD x1.toNat ZN).2.2.1,(x2.getD x1.toNat ZN).2.2.2.1,(x2.getD x1.toNat ZN).2.2.2.2.1,(x2.getD x1.toNat ZN).2.2.2.2.2.1,decide (x0.tmod (3:Int)=(0:Int)),(x2.getD x1.toNat ZN).2.2.2.2.2.2.2))) (none)) (none)
noncomputable def st99_C14_0 (n:Nat) (lC16_0:Int→Int→(List NT)→Option R99) (x0:Int) (x1:Int) (x2:List NT):Option R99 :=
 cond (decide ((0:Int)≤x1)) (cond (decide (x1 < (↑x2.length:Int))) (lC16_0 (Go.IntKind.i64.wrap (x0 + (1:Int))) (x1) (x2.set x1.toNat ((x2.getD x1.toNat ZN).1,(x2.getD x1.toNat ZN).2.1,(x2.getD x1.toNat ZN).2.2.1,(x2.getD x1.toNat ZN).2.2.2.1,(x2.getD x1.toNat ZN).2.2.2.2.1,x0,(x2.getD x1.toNat ZN).2.2.2.2.2.2))) (none)) (none)
noncomputable def st99_C12_0 (n:Nat) (lC14_0:Int→Int→(List NT)→Option R99) (x0:Int) (x1:Int) (x2:List NT):Option R99 :=
 cond (decide ((0:Int)≤x1)) (cond (decide (x1 < (↑x2.length:Int))) (lC14_0 (Go.IntKind.i64.wrap (x0 + (1:Int))) (x1) (x2.set x1.toNat ((x2.getD x1.toNat ZN).1,(x2.getD x1.toNat ZN).2.1,(x2.getD x1.toNat ZN).2.2.1,(x2.getD x1.toNat ZN).2.2.2.1,x0,(x2.getD x1.toNat ZN).2.2.2.2.2))) (none)) (none)
noncomputable def st99_C10_0 (n:Nat) (lC12_0:Int→Int→(List NT)→Option R99) (x0:Int) (x1:Int) (x2:List NT):Option R99 :=
 cond (decide ((0:Int)≤x1)) (cond (decide (x1 < (↑x2.length:Int))) (lC12_0 (Go.IntKind.i64.wrap (x0 + (1:Int))) (x1) (x2.set x1.toNat ((x2.getD x1.toNat ZN).1,(x2.getD x1.toNat ZN).2.1,(x2.getD x1.toNat ZN).2.2.1,x0,(x2.getD x1.toNat ZN).2.2.2.2))) (none)) (none)
noncomputable def st99_C8_0 (n:Nat) (lC10_0:Int→Int→(List NT)→Option R99) (x0:Int) (x1:Int) (x2:List NT):Option R99 :=
 cond (decide ((0:Int)≤x1)) (cond (decide (x1 < (↑x2.length:Int))) (lC10_0 (Go.IntKind.i64.wrap (x0 + (1:Int))) (x1) (x2.set x1.toNat ((x2.getD x1.toNat ZN).1,(x2.getD x1.toNat ZN).2.1,x0,(x2.getD x1.toNat ZN).2.2.2))) (none)) (none)
noncomputable def st99_C6_0 (n:Nat) (lC8_0:Int→Int→(List NT)→Option R99) (x0:Int) (x1:Int) (x2:List NT):Option R99 :=
 cond (decide ((0:Int)≤x1)) (cond (decide (x1 < (↑x2.length:Int))) (lC8_0 (Go.IntKind.i64.wrap (x0 + (1:Int))) (x1) (x2.set x1.toNat ((x2.getD x1.toNat ZN).1,x0,(x2.getD x1.toNat ZN).2.2))) (none)) (none)
noncomputable def st99_L2 (n:Nat) (lC6_0:Int→Int→(List NT)→Option R99) (x0:Int) (x1:Int) (x2:List NT):Option R99 :=
 cond (decide (x1 < (↑x2.length:Int))) (cond (decide ((0:Int)≤x1)) (cond (decide (x1 < (↑x2.length:Int))) (lC6_0 (Go.IntKind.i64.wrap (x0 + (1:Int))) (x1) (x2.set x1.toNat (x0,(x2.getD x1.toNat ZN).2))) (none)) (none)) (some ((x0,()),(x2,())))
noncomputable def p99_C20_0 (g2:Int→Int→(List NT)→Option R99) (n:Nat) (x0:Int) (x1:Int) (x2:List NT):Option R99:=st99_C20_0 n g2 x0 x1 x2
noncomputable def p99_C18_0 (g2:Int→Int→(List NT)→Option R99) (n:Nat) (x0:Int) (x1:Int) (x2:List NT):Option R99:=st99_C18_0 n (p99_C20_0 g2 n) x0 x1 x2
noncomputable def p99_C16_0 (g2:Int→Int→(List NT)→Option R99) (n:Nat) (x0:Int) (x1:Int) (x2:List NT):Option R99:=st99_C16_0 n (p99_C18_0 g2 n) x0 x1 x2
noncomputable def p99_C14_0 (g2:Int→Int→(List NT)→Option R99) (n:Nat) (x0:Int) (x1:Int) (x2:List NT):Option R99:=st99_C14_0 n (p99_C16_0 g2 n) x0 x1 x2
noncomputable def p99_C12_0 (g2:Int→Int→(List NT)→Option R99) (n:Nat) (x0:Int) (x1:Int) (x2:List NT):Option R99:=st99_C12_0 n (p99_C14_0 g2 n) x0 x1 x2
noncomputable def p99_C10_0 (g2:Int→Int→(List NT)→Option R99) (n:Nat) (x0:Int) (x1:Int) (x2:List NT):Option R99:=st99_C10_0 n (p99_C12_0 g2 n) x0 x1 x2
noncomputable def p99_C8_0 (g2:Int→Int→(List NT)→Option R99) (n:Nat) (x0:Int) (x1:Int) (x2:List NT):Option R99:=st99_C8_0 n (p99_C10_0 g2 n) x0 x1 x2
noncomputable def p99_C6_0 (g2:Int→Int→(List NT)→Option R99) (n:Nat) (x0:Int) (x1:Int) (x2:List NT):Option R99:=st99_C6_0 n (p99_C8_0 g2 n) x0 x1 x2
noncomputable def p99_L2 (n:Nat):Nat→Int→Int→(List NT)→Option R99
 | 0,_,_,_=>none
 | m + 1,x0,x1,x2=>st99_L2 n (p99_C6_0 (p99_L2 n m) n) x0 x1 x2
noncomputable def p99 (n:Nat) (a:List NT) (b:Int):Option R99:=st99_top n (p99_L2 n n) a b
noncomputable def q99 (n:Nat) (x:argsD ps99):Option R99:=p99 n x.1 x.2.1
end Go.Proofs.Ytbjgiioppmkpiaa.Rx.S

namespace Go.Proofs.Ytbjgiioppmkpiaa.Rx.S
open Go Go.RowKit Go.Proofs
set_option maxRecDepth 100000
abbrev ps42:List PK:=[.io tFs true,.val i64 false]
abbrev rs42:List RK:=[.val i64 false]
abbrev R42:=retsD rs42 × outsD ps42
noncomputable def st42_top (n:Nat) (a:List NT) (b:Int):Option R42 :=
 (q99 n (a,b,())).bind fun r0=>some ((r0.1.1,()),(r0.2.1,()))
noncomputable def p42 (n:Nat) (a:List NT) (b:Int):Option R42:=st42_top n a b
noncomputable def q42 (n:Nat) (x:argsD ps42):Option R42:=p42 n x.1 x.2.1
end Go.Proofs.Ytbjgiioppmkpiaa.Rx.S

namespace Go.Proofs.Ytbjgiioppmkpiaa.Rx.S
open Go Go.RowKit Go.Proofs
set_option maxRecDepth 100000
abbrev ps43:List PK:=[.val tFs true,.val i64 false]
abbrev rs43:List RK:=[.val i64 false]
abbrev R43:=retsD rs43 × outsD ps43
noncomputable def st43_top (n:Nat) (a:List NT) (b:Int):Option R43 :=
 (q100 n (a,b,())).bind fun r0=>cond (decide (r0.1.1 < (0:Int))) (some (((-1:Int),()),())) (some ((r0.1.1,()),()))
noncomputable def p43 (n:Nat) (a:List NT) (b:Int):Option R43:=st43_top n a b
noncomputable def q43 (n:Nat) (x:argsD ps43):Option R43:=p43 n x.1 x.2.1
end Go.Proofs.Ytbjgiioppmkpiaa.Rx.S

namespace Go.Proofs.Ytbjgiioppmkpiaa.Rx.S
open Go Go.RowKit Go.Proofs
set_option maxRecDepth 100000
abbrev ps156:List PK:=[.val tEn true,.val i64 false]
abbrev rs156:List RK:=[.val i64 false]
abbrev R156:=retsD rs156 × outsD ps156
noncomputable def st156_top (n:Nat) (a:ByteArray × Int) (b:Int):Option R156 :=
 cond (decide (Go.IntKind.i64.wrap (b - (↑(ByteArray.size a.1):Int)) < (0:Int))) (some (((-1:Int),()),())) (some ((Go.IntKind.i64.wrap (b - (↑(ByteArray.size a.1):Int)),()),()))
noncomputable def p156 (n:Nat) (a:ByteArray × Int) (b:Int):Option R156:=st156_top n a b
noncomputable def q156 (n:Nat) (x:argsD ps156):Option R156:=p156 n x.1 x.2.1
end Go.Proofs.Ytbjgiioppmkpiaa.Rx.S

namespace Go.Proofs.Ytbjgiioppmkpiaa.Rx.S
open Go Go.RowKit Go.Proofs
set_option maxRecDepth 100000
abbrev ps149:List PK:=[.val (.row 178 tEn) false,.val i64 false]
abbrev rs149:List RK:=[.val i64 false]
abbrev R149:=retsD rs149 × outsD ps149
noncomputable def st149_top (n:Nat) (lL5:(List (ByteArray × Int))→Int→Int→Option R149) (a:List (ByteArray × Int)) (b:Int):Option R149 :=
 cond (decide (Go.IntKind.i64.wrap (b - (↑a.length:Int)) < (0:Int))) (some (((-1:Int),()),())) (lL5 (a) (Go.IntKind.i64.wrap (b - (↑a.length:Int))) ((0:Int)))
noncomputable def st149_L5 (n:Nat) (lL5:(List (ByteArray × Int))→Int→Int→Option R149) (x0:List (ByteArray × Int)) (x1:Int) (x2:Int):Option R149 :=
 cond (decide (x2 < (↑x0.length:Int))) (cond (decide ((0:Int)≤x2)) (cond (decide (x2 < (↑x0.length:Int))) ((q156 n (((x0.getD x2.toNat (ByteArray.empty,(0:Int))).1,(x0.getD x2.toNat (ByteArray.empty,(0:Int))).2),x1,())).bind fun r1=>cond (decide (r1.1.1 < (0:Int))) (some (((-1:Int),()),())) (lL5 (x0) (r1.1.1) (Go.IntKind.i64.wrap (x2 + (1:Int))))) (none)) (none)) (some ((x1,()),()))
noncomputable def p149_L5 (n:Nat):Nat→(List (ByteArray × Int))→Int→Int→Option R149
 | 0,_,_,_=>none
 | m + 1,x0,x1,x2=>st149_L5 n (p149_L5 n m) x0 x1 x2
noncomputable def p149 (n:Nat) (a:List (ByteArray × Int)) (b:Int):Option R149:=st149_top n (p149_L5 n n) a b
noncomputable def q149 (n:Nat) (x:argsD ps149):Option R149:=p149 n x.1 x.2.1
end Go.Proofs.Ytbjgiioppmkpiaa.Rx.S

namespace Go.Proofs.Ytbjgiioppmkpiaa.Rx.S
open Go Go.RowKit Go.Proofs
set_option maxRecDepth 100000
abbrev ps133:List PK:=[.val (tIn 178) true,.val i64 false]
abbrev rs133:List RK:=[.val i64 false]
abbrev R133:=retsD rs133 × outsD ps133
noncomputable def st133_top (n:Nat) (a:NT) (b:Int):Option R133 :=
 cond (decide (Go.IntKind.i64.wrap (b - (↑(ByteArray.size a.2.2.2.2.2.2.2.1):Int)) < (0:Int))) (some (((-1:Int),()),())) ((q149 n (a.2.2.2.2.2.2.2.2,Go.IntKind.i64.wrap (b - (↑(ByteArray.size a.2.2.2.2.2.2.2.1):Int)),())).bind fun r0=>cond (decide (r0.1.1 < (0:Int))) (some (((-1:Int),()),())) (some ((r0.1.1,()),())))
noncomputable def p133 (n:Nat) (a:NT) (b:Int):Option R133:=st133_top n a b
noncomputable def q133 (n:Nat) (x:argsD ps133):Option R133:=p133 n x.1 x.2.1
end Go.Proofs.Ytbjgiioppmkpiaa.Rx.S

namespace Go.Proofs.Ytbjgiioppmkpiaa.Rx.S
open Go Go.RowKit Go.Proofs
set_option maxRecDepth 100000
abbrev ps157:List PK:=[.val tEn true]
abbrev rs157:List RK:=[.val tEn true]
abbrev R157:=retsD rs157 × outsD ps157
noncomputable def st157_top (n:Nat) (a:ByteArray × Int):Option R157 :=
 some (((a.1,a.2),()),())
noncomputable def p157 (n:Nat) (a:ByteArray × Int):Option R157:=st157_top n a
noncomputable def q157 (n:Nat) (x:argsD ps157):Option R157:=p157 n x.1
end Go.Proofs.Ytbjgiioppmkpiaa.Rx.S

namespace Go.Proofs.Ytbjgiioppmkpiaa.Rx.S
open Go Go.RowKit Go.Proofs
set_option maxRecDepth 100000
abbrev ps150:List PK:=[.val (.row 178 tEn) false]
abbrev rs150:List RK:=[.own (.row 100 tEn) false]
abbrev R150:=retsD rs150 × outsD ps150
noncomputable def st150_top (n:Nat) (lL3:(List (ByteArray × Int))→Int→(List (ByteArray × Int))→Option R150) (a:List (ByteArray × Int)):Option R150 :=
 cond (decide ((↑a.length:Int) * (↑(24:Nat):Int)≤(140737488355328:Int))) (lL3 (a) ((0:Int)) (List.replicate (↑a.length:Int).toNat (ByteArray.empty,(0:Int)))) (none)
noncomputable def st150_L3 (n:Nat) (lL3:(List (ByteArray × Int))→Int→(List (ByteArray × Int))→Option R150) (x0:List (ByteArray × Int)) (x1:Int) (x2:List (ByteArray × Int)):Option R150 :=
 cond (decide (x1 < (↑x0.length:Int))) (cond (decide ((0:Int)≤x1)) (cond (decide (x1 < (↑x0.length:Int))) ((q157 n (((x0.getD x1.toNat (ByteArray.empty,(0:Int))).1,(x0.getD x1.toNat (ByteArray.empty,(0:Int))).2),())).bind fun r1=>cond (decide ((0:Int)≤x1)) (cond (decide (x1 < (↑x2.length:Int))) (lL3 (x0) (Go.IntKind.i64.wrap (x1 + (1:Int))) (x2.set x1.toNat (r1.1.1.1,r1.1.1.2))) (none)) (none)) (none)) (none)) (some ((x2,()),()))
noncomputable def p150_L3 (n:Nat):Nat→(List (ByteArray × Int))→Int→(List (ByteArray × Int))→Option R150
 | 0,_,_,_=>none
 | m + 1,x0,x1,x2=>st150_L3 n (p150_L3 n m) x0 x1 x2
noncomputable def p150 (n:Nat) (a:List (ByteArray × Int)):Option R150:=st150_top n (p150_L3 n n) a
noncomputable def q150 (n:Nat) (x:argsD ps150):Option R150:=p150 n x.1
end Go.Proofs.Ytbjgiioppmkpiaa.Rx.S

namespace Go.Proofs.Ytbjgiioppmkpiaa.Rx.S
open Go Go.RowKit Go.Proofs
set_option maxRecDepth 100000
abbrev ps134:List PK:=[.val (tIn 178) true]
abbrev rs134:List RK:=[.own (tIn 100) true]
abbrev R134:=retsD rs134 × outsD ps134
noncomputable def st134_top (n:Nat) (a:NT):Option R134 :=
 (q150 n (a.2.2.2.2.2.2.2.2,())).bind fun r0=>some (((a.1,(a.2.1,(a.2.2.1,(a.2.2.2.1,(a.2.2.2.2.1,(a.2.2.2.2.2.1,(a.2.2.2.2.2.2.1,(a.2.2.2.2.2.2.2.1,r0.1.1)))))))),()),())
noncomputable def p134 (n:Nat) (a:NT):Option R134:=st134_top n a
noncomputable def q134 (n:Nat) (x:argsD ps134):Option R134:=p134 n x.1
end Go.Proofs.Ytbjgiioppmkpiaa.Rx.S

namespace Go.Proofs.Ytbjgiioppmkpiaa.Rx.S
open Go Go.RowKit Go.Proofs
set_option maxRecDepth 100000
abbrev ps158:List PK:=[.val tEn true,.val tEn true]
abbrev rs158:List RK:=[.val .bool false]
abbrev R158:=retsD rs158 × outsD ps158
noncomputable def st158_top (n:Nat) (a:ByteArray × Int) (b:ByteArray × Int):Option R158 :=
 cond (!ByteArray.toList a.1 == ByteArray.toList b.1) (some ((false,()),())) (cond (!decide (a.2=b.2)) (some ((false,()),())) (some ((true,()),())))
noncomputable def p158 (n:Nat) (a:ByteArray × Int) (b:ByteArray × Int):Option R158:=st158_top n a b
noncomputable def q158 (n:Nat) (x:argsD ps158):Option R158:=p158 n x.1 x.2.1
end Go.Proofs.Ytbjgiioppmkpiaa.Rx.S

namespace Go.Proofs.Ytbjgiioppmkpiaa.Rx.S
open Go Go.RowKit Go.Proofs
set_option maxRecDepth 100000
abbrev ps151:List PK:=[.val (.row 100 tEn) false,.val (.row 100 tEn) false]
abbrev rs151:List RK:=[.val .bool false]
abbrev R151:=retsD rs151 × outsD ps151
noncomputable def st151_top (n:Nat) (lL4:(List (ByteArray × Int))→(List (ByteArray × Int))→Int→Option R151) (a:List (ByteArray × Int)) (b:List (ByteArray × Int)):Option R151 :=
 cond (!decide ((↑a.length:Int)=(↑b.length:Int))) (some ((false,()),())) (lL4 (a) (b) ((0:Int)))
noncomputable def st151_L4 (n:Nat) (lL4:(List (ByteArray × Int))→(List (ByteArray × Int))→Int→Option R151) (x0:List (ByteArray × Int)) (x1:List (ByteArray × Int)) (x2:Int):Option R151 :=
 cond (decide (x2 < (↑x0.length:Int))) (cond (decide ((0:Int)≤x2)) (cond (decide (x2 < (↑x0.length:Int))) (cond (decide ((0:Int)≤x2)) (cond (decide (x2 < (↑x1.length:Int))) ((q158 n (((x0.getD x2.toNat (ByteArray.empty,(0:Int))).1,(x0.getD x2.toNat (ByteArray.empty,(0:Int))).2),((x1.getD x2.toNat (ByteArray.empty,(0:Int))).1,(x1.getD x2.toNat (ByteArray.empty,(0:Int))).2),())).bind fun r1=>cond (!r1.1.1) (some ((false,()),())) (lL4 (x0) (x1) (Go.IntKind.i64.wrap (x2 + (1:Int))))) (none)) (none)) (none)) (none)) (some ((true,()),()))
noncomputable def p151_L4 (n:Nat):Nat→(List (ByteArray × Int))→(List (ByteArray × Int))→Int→Option R151
 | 0,_,_,_=>none
 | m + 1,x0,x1,x2=>st151_L4 n (p151_L4 n m) x0 x1 x2
noncomputable def p151 (n:Nat) (a:List (ByteArray × Int)) (b:List (ByteArray × Int)):Option R151:=st151_top n (p151_L4 n n) a b
noncomputable def q151 (n:Nat) (x:argsD ps151):Option R151:=p151 n x.1 x.2.1
end Go.Proofs.Ytbjgiioppmkpiaa.Rx.S

namespace Go.Proofs.Ytbjgiioppmkpiaa.Rx.S
open Go Go.RowKit Go.Proofs
set_option maxRecDepth 100000
abbrev ps135:List PK:=[.val (tIn 100) true,.val (tIn 100) true]
abbrev rs135:List RK:=[.val .bool false]
abbrev R135:=retsD rs135 × outsD ps135
noncomputable def st135_top (n:Nat) (a:NT) (b:NT):Option R135 :=
 cond (!decide (a.1=b.1)) (some ((false,()),())) (cond (!decide (a.2.1=b.2.1)) (some ((false,()),())) (cond (!decide (a.2.2.1=b.2.2.1)) (some ((false,()),())) (cond (!decide (a.2.2.2.1=b.2.2.2.1)) (some ((false,()),())) (cond (!decide (a.2.2.2.2.1=b.2.2.2.2.1)) (some ((false,()),())) (cond (!decide (a.2.2.2.2.2.1=b.2.2.2.2.2.1)) (some ((false,()),())) (cond (!a.2.2.2.2.2.2.1 == b.2.2.2.2.2.2.1) (some ((false,()),())) (cond (!ByteArray.toList a.2.2.2.2.2.2.2.1 == ByteArray.toList b.2.2.2.2.2.2.2.1) (some ((false,()),())) ((q151 n (a.2.2.2.2.2.2.2.2,b.2.2.2.2.2.2.2.2,())).bind fun r0=>cond (!r0.1.1) (some ((false,()),())) (some ((true,()),()))))))))))
noncomputable def p135 (n:Nat) (a:NT) (b:NT):Option R135:=st135_top n a b
noncomputable def q135 (n:Nat) (x:argsD ps135):Option R135:=p135 n x.1 x.2.1
end Go.Proofs.Ytbjgiioppmkpiaa.Rx.S

namespace Go.Proofs.Ytbjgiioppmkpiaa.Rx.S
open Go Go.RowKit Go.Proofs
set_option maxRecDepth 100000
abbrev ps88:List PK:=[.val (.row 3 i64) false,.val i64 false]
abbrev rs88:List RK:=[.val i64 false]
abbrev R88:=retsD rs88 × outsD ps88
noncomputable def st88_top (n:Nat) (a:List Int) (b:Int):Option R88 :=
 cond (decide (Go.IntKind.i64.wrap (b - (↑a.length:Int)) < (0:Int))) (some (((-1:Int),()),())) (some ((Go.IntKind.i64.wrap (b - (↑a.length:Int)),()),()))
noncomputable def p88 (n:Nat) (a:List Int) (b:Int):Option R88:=st88_top n a b
noncomputable def q88 (n:Nat) (x:argsD ps88):Option R88:=p88 n x.1 x.2.1
end Go.Proofs.Ytbjgiioppmkpiaa.Rx.S

namespace Go.Proofs.Ytbjgiioppmkpiaa.Rx.S
open Go Go.RowKit Go.Proofs
set_option maxRecDepth 100000
abbrev ps31:List PK:=[.val tCr true,.val i64 false]
abbrev rs31:List RK:=[.val i64 false]
abbrev R31:=retsD rs31 × outsD ps31
noncomputable def st31_top (n:Nat) (a:Int × Int × List Int) (b:Int):Option R31 :=
 (q88 n (a.2.2,b,())).bind fun r0=>cond (decide (r0.1.1 < (0:Int))) (some (((-1:Int),()),())) (some ((r0.1.1,()),()))
noncomputable def p31 (n:Nat) (a:Int × Int × List Int) (b:Int):Option R31:=st31_top n a b
noncomputable def q31 (n:Nat) (x:argsD ps31):Option R31:=p31 n x.1 x.2.1
end Go.Proofs.Ytbjgiioppmkpiaa.Rx.S

namespace Go.Proofs.Ytbjgiioppmkpiaa.Rx.S
open Go Go.RowKit Go.Proofs
set_option maxRecDepth 100000
abbrev ps90:List PK:=[.val (.row 3 i64) false]
abbrev rs90:List RK:=[.own (.row 3 i64) false]
abbrev R90:=retsD rs90 × outsD ps90
noncomputable def st90_top (n:Nat) (lL3:(List Int)→Int→(List Int)→Option R90) (a:List Int):Option R90 :=
 cond (decide ((↑a.length:Int) * (↑(8:Nat):Int)≤(140737488355328:Int))) (lL3 (a) ((0:Int)) (List.replicate (↑a.length:Int).toNat (0:Int))) (none)
noncomputable def st90_L3 (n:Nat) (lL3:(List Int)→Int→(List Int)→Option R90) (x0:List Int) (x1:Int) (x2:List Int):Option R90 :=
 cond (decide (x1 < (↑x0.length:Int))) (cond (decide ((0:Int)≤x1)) (cond (decide (x1 < (↑x0.length:Int))) (cond (decide ((0:Int)≤x1)) (cond (decide (x1 < (↑x2.length:Int))) (lL3 (x0) (Go.IntKind.i64.wrap (x1 + (1:Int))) (x2.set x1.toNat (x0.getD x1.toNat (0:Int)))) (none)) (none)) (none)) (none)) (some ((x2,()),()))
noncomputable def p90_L3 (n:Nat):Nat→(List Int)→Int→(List Int)→Option R90
 | 0,_,_,_=>none
 | m + 1,x0,x1,x2=>st90_L3 n (p90_L3 n m) x0 x1 x2
noncomputable def p90 (n:Nat) (a:List Int):Option R90:=st90_top n (p90_L3 n n) a
noncomputable def q90 (n:Nat) (x:argsD ps90):Option R90:=p90 n x.1
end Go.Proofs.Ytbjgiioppmkpiaa.Rx.S

namespace Go.Proofs.Ytbjgiioppmkpiaa.Rx.S
open Go Go.RowKit Go.Proofs
set_option maxRecDepth 100000
abbrev ps33:List PK:=[.val tCr true]
abbrev rs33:List RK:=[.own tCr true]
abbrev R33:=retsD rs33 × outsD ps33
noncomputable def st33_top (n:Nat) (a:Int × Int × List Int):Option R33 :=
 (q90 n (a.2.2,())).bind fun r0=>some (((a.1,(a.2.1,r0.1.1)),()),())
noncomputable def p33 (n:Nat) (a:Int × Int × List Int):Option R33:=st33_top n a
noncomputable def q33 (n:Nat) (x:argsD ps33):Option R33:=p33 n x.1
end Go.Proofs.Ytbjgiioppmkpiaa.Rx.S

namespace Go.Proofs.Ytbjgiioppmkpiaa.Rx.S
open Go Go.RowKit Go.Proofs
set_option maxRecDepth 100000
abbrev ps92:List PK:=[.val (.row 3 i64) false,.val (.row 3 i64) false]
abbrev rs92:List RK:=[.val .bool false]
abbrev R92:=retsD rs92 × outsD ps92
noncomputable def st92_top (n:Nat) (lL4:(List Int)→(List Int)→Int→Option R92) (a:List Int) (b:List Int):Option R92 :=
 cond (!decide ((↑a.length:Int)=(↑b.length:Int))) (some ((false,()),())) (lL4 (a) (b) ((0:Int)))
noncomputable def st92_L4 (n:Nat) (lL4:(List Int)→(List Int)→Int→Option R92) (x0:List Int) (x1:List Int) (x2:Int):Option R92 :=
 cond (decide (x2 < (↑x0.length:Int))) (cond (decide ((0:Int)≤x2)) (cond (decide (x2 < (↑x0.length:Int))) (cond (decide ((0:Int)≤x2)) (cond (decide (x2 < (↑x1.length:Int))) (cond (!decide (x0.getD x2.toNat (0:Int)=x1.getD x2.toNat (0:Int))) (some ((false,()),())) (lL4 (x0) (x1) (Go.IntKind.i64.wrap (x2 + (1:Int))))) (none)) (none)) (none)) (none)) (some ((true,()),()))
noncomputable def p92_L4 (n:Nat):Nat→(List Int)→(List Int)→Int→Option R92
 | 0,_,_,_=>none
 | m + 1,x0,x1,x2=>st92_L4 n (p92_L4 n m) x0 x1 x2
noncomputable def p92 (n:Nat) (a:List Int) (b:List Int):Option R92:=st92_top n (p92_L4 n n) a b
noncomputable def q92 (n:Nat) (x:argsD ps92):Option R92:=p92 n x.1 x.2.1
end Go.Proofs.Ytbjgiioppmkpiaa.Rx.S

namespace Go.Proofs.Ytbjgiioppmkpiaa.Rx.S
open Go Go.RowKit Go.Proofs
set_option maxRecDepth 100000
abbrev ps35:List PK:=[.val tCr true,.val tCr true]
abbrev rs35:List RK:=[.val .bool false]
abbrev R35:=retsD rs35 × outsD ps35
noncomputable def st35_top (n:Nat) (a:Int × Int × List Int) (b:Int × Int × List Int):Option R35 :=
 cond (!decide (a.1=b.1)) (some ((false,()),())) (cond (!decide (a.2.1=b.2.1)) (some ((false,()),())) ((q92 n (a.2.2,b.2.2,())).bind fun r0=>cond (!r0.1.1) (some ((false,()),())) (some ((true,()),()))))
noncomputable def p35 (n:Nat) (a:Int × Int × List Int) (b:Int × Int × List Int):Option R35:=st35_top n a b
noncomputable def q35 (n:Nat) (x:argsD ps35):Option R35:=p35 n x.1 x.2.1
end Go.Proofs.Ytbjgiioppmkpiaa.Rx.S

namespace Go.Proofs.Ytbjgiioppmkpiaa.Rx.S
open Go Go.RowKit Go.Proofs
set_option maxRecDepth 100000
abbrev ps96:List PK:=[.val tLf false,.val i64 false]
abbrev rs96:List RK:=[.val i64 false]
abbrev R96:=retsD rs96 × outsD ps96
noncomputable def st96_top (n:Nat) (lL5:(List NT)→Int→Int→Option R96) (a:List NT) (b:Int):Option R96 :=
 cond (decide (Go.IntKind.i64.wrap (b - (↑a.length:Int)) < (0:Int))) (some (((-1:Int),()),())) (lL5 (a) (Go.IntKind.i64.wrap (b - (↑a.length:Int))) ((0:Int)))
noncomputable def st96_L5 (n:Nat) (lL5:(List NT)→Int→Int→Option R96) (x0:List NT) (x1:Int) (x2:Int):Option R96 :=
 cond (decide (x2 < (↑x0.length:Int))) (cond (decide ((0:Int)≤x2)) (cond (decide (x2 < (↑x0.length:Int))) ((q133 n (((x0.getD x2.toNat ZN).1,(x0.getD x2.toNat ZN).2.1,(x0.getD x2.toNat ZN).2.2.1,(x0.getD x2.toNat ZN).2.2.2.1,(x0.getD x2.toNat ZN).2.2.2.2.1,(x0.getD x2.toNat ZN).2.2.2.2.2.1,(x0.getD x2.toNat ZN).2.2.2.2.2.2.1,(x0.getD x2.toNat ZN).2.2.2.2.2.2.2.1,(x0.getD x2.toNat ZN).2.2.2.2.2.2.2.2),x1,())).bind fun r1=>cond (decide (r1.1.1 < (0:Int))) (some (((-1:Int),()),())) (lL5 (x0) (r1.1.1) (Go.IntKind.i64.wrap (x2 + (1:Int))))) (none)) (none)) (some ((x1,()),()))
noncomputable def p96_L5 (n:Nat):Nat→(List NT)→Int→Int→Option R96
 | 0,_,_,_=>none
 | m + 1,x0,x1,x2=>st96_L5 n (p96_L5 n m) x0 x1 x2
noncomputable def p96 (n:Nat) (a:List NT) (b:Int):Option R96:=st96_top n (p96_L5 n n) a b
noncomputable def q96 (n:Nat) (x:argsD ps96):Option R96:=p96 n x.1 x.2.1
end Go.Proofs.Ytbjgiioppmkpiaa.Rx.S

namespace Go.Proofs.Ytbjgiioppmkpiaa.Rx.S
open Go Go.RowKit Go.Proofs
set_option maxRecDepth 100000
abbrev ps39:List PK:=[.val tLf true,.val i64 false]
abbrev rs39:List RK:=[.val i64 false]
abbrev R39:=retsD rs39 × outsD ps39
noncomputable def st39_top (n:Nat) (a:List NT) (b:Int):Option R39 :=
 (q96 n (a,b,())).bind fun r0=>cond (decide (r0.1.1 < (0:Int))) (some (((-1:Int),()),())) (some ((r0.1.1,()),()))
noncomputable def p39 (n:Nat) (a:List NT) (b:Int):Option R39:=st39_top n a b
noncomputable def q39 (n:Nat) (x:argsD ps39):Option R39:=p39 n x.1 x.2.1
end Go.Proofs.Ytbjgiioppmkpiaa.Rx.S

namespace Go.Proofs.Ytbjgiioppmkpiaa.Rx.S
open Go Go.RowKit Go.Proofs
set_option maxRecDepth 100000
abbrev ps97:List PK:=[.val tLf false]
abbrev rs97:List RK:=[.own tFs false]
abbrev R97:=retsD rs97 × outsD ps97
noncomputable def st97_top (n:Nat) (lL3:(List NT)→Int→(List NT)→Option R97) (a:List NT):Option R97 :=
 cond (decide ((↑a.length:Int) * (↑(96:Nat):Int)≤(140737488355328:Int))) (lL3 (a) ((0:Int)) (List.replicate (↑a.length:Int).toNat ZN)) (none)
noncomputable def st97_L3 (n:Nat) (lL3:(List NT)→Int→(List NT)→Option R97) (x0:List NT) (x1:Int) (x2:List NT):Option R97 :=
 cond (decide (x1 < (↑x0.length:Int))) (cond (decide ((0:Int)≤x1)) (cond (decide (x1 < (↑x0.length:Int))) ((q134 n (((x0.getD x1.toNat ZN).1,(x0.getD x1.toNat ZN).2.1,(x0.getD x1.toNat ZN).2.2.1,(x0.getD x1.toNat ZN).2.2.2.1,(x0.getD x1.toNat ZN).2.2.2.2.1,(x0.getD x1.toNat ZN).2.2.2.2.2.1,(x0.getD x1.toNat ZN).2.2.2.2.2.2.1,(x0.getD x1.toNat ZN).2.2.2.2.2.2.2.1,(x0.getD x1.toNat ZN).2.2.2.2.2.2.2.2),())).bind fun r1=>cond (decide ((0:Int)≤x1)) (cond (decide (x1 < (↑x2.length:Int))) (lL3 (x0) (Go.IntKind.i64.wrap (x1 + (1:Int))) (x2.set x1.toNat (r1.1.1.1,r1.1.1.2.1,r1.1.1.2.2.1,r1.1.1.2.2.2.1,r1.1.1.2.2.2.2.1,r1.1.1.2.2.2.2.2.1,r1.1.1.2.2.2.2.2.2.1,r1.1.1.2.2.2.2.2.2.2.1,r1.1.1.2.2.2.2.2.2.2.2))) (none)) (none)) (none)) (none)) (some ((x2,()),()))
noncomputable def p97_L3 (n:Nat):Nat→(List NT)→Int→(List NT)→Option R97
 | 0,_,_,_=>none
 | m + 1,x0,x1,x2=>st97_L3 n (p97_L3 n m) x0 x1 x2
noncomputable def p97 (n:Nat) (a:List NT):Option R97:=st97_top n (p97_L3 n n) a
noncomputable def q97 (n:Nat) (x:argsD ps97):Option R97:=p97 n x.1
end Go.Proofs.Ytbjgiioppmkpiaa.Rx.S

namespace Go.Proofs.Ytbjgiioppmkpiaa.Rx.S
open Go Go.RowKit Go.Proofs
set_option maxRecDepth 100000
abbrev ps40:List PK:=[.val tLf true]
abbrev rs40:List RK:=[.own tFs true]
abbrev R40:=retsD rs40 × outsD ps40
noncomputable def st40_top (n:Nat) (a:List NT):Option R40 :=
 (q97 n (a,())).bind fun r0=>some ((r0.1.1,()),())
noncomputable def p40 (n:Nat) (a:List NT):Option R40:=st40_top n a
noncomputable def q40 (n:Nat) (x:argsD ps40):Option R40:=p40 n x.1
end Go.Proofs.Ytbjgiioppmkpiaa.Rx.S

namespace Go.Proofs.Ytbjgiioppmkpiaa.Rx.S
open Go Go.RowKit Go.Proofs
set_option maxRecDepth 100000
abbrev ps98:List PK:=[.val tFs false,.val tFs false]
abbrev rs98:List RK:=[.val .bool false]
abbrev R98:=retsD rs98 × outsD ps98
noncomputable def st98_top (n:Nat) (lL4:(List NT)→(List NT)→Int→Option R98) (a:List NT) (b:List NT):Option R98 :=
 cond (!decide ((↑a.length:Int)=(↑b.length:Int))) (some ((false,()),())) (lL4 (a) (b) ((0:Int)))
noncomputable def st98_L4 (n:Nat) (lL4:(List NT)→(List NT)→Int→Option R98) (x0:List NT) (x1:List NT) (x2:Int):Option R98 :=
 cond (decide (x2 < (↑x0.length:Int))) (cond (decide ((0:Int)≤x2)) (cond (decide (x2 < (↑x0.length:Int))) (cond (decide ((0:Int)≤x2)) (cond (decide (x2 < (↑x1.length:Int))) ((q135 n (((x0.getD x2.toNat ZN).1,(x0.getD x2.toNat ZN).2.1,(x0.getD x2.toNat ZN).2.2.1,(x0.getD x2.toNat ZN).2.2.2.1,(x0.getD x2.toNat ZN).2.2.2.2.1,(x0.getD x2.toNat ZN).2.2.2.2.2.1,(x0.getD x2.toNat ZN).2.2.2.2.2.2.1,(x0.getD x2.toNat ZN).2.2.2.2.2.2.2.1,(x0.getD x2.toNat ZN).2.2.2.2.2.2.2.2),((x1.getD x2.toNat ZN).1,(x1.getD x2.toNat ZN).2.1,(x1.getD x2.toNat ZN).2.2.1,(x1.getD x2.toNat ZN).2.2.2.1,(x1.getD x2.toNat ZN).2.2.2.2.1,(x1.getD x2.toNat ZN).2.2.2.2.2.1,(x1.getD x2.toNat ZN).2.2.2.2.2.2.1,(x1.getD x2.toNat ZN).2.2.2.2.2.2.2.1,(x1.getD x2.toNat ZN).2.2.2.2.2.2.2.2),())).bind fun r1=>cond (!r1.1.1) (some ((false,()),())) (lL4 (x0) (x1) (Go.IntKind.i64.wrap (x2 + (1:Int))))) (none)) (none)) (none)) (none)) (some ((true,()),()))
noncomputable def p98_L4 (n:Nat):Nat→(List NT)→(List NT)→Int→Option R98
 | 0,_,_,_=>none
 | m + 1,x0,x1,x2=>st98_L4 n (p98_L4 n m) x0 x1 x2
noncomputable def p98 (n:Nat) (a:List NT) (b:List NT):Option R98:=st98_top n (p98_L4 n n) a b
noncomputable def q98 (n:Nat) (x:argsD ps98):Option R98:=p98 n x.1 x.2.1
end Go.Proofs.Ytbjgiioppmkpiaa.Rx.S

namespace Go.Proofs.Ytbjgiioppmkpiaa.Rx.S
open Go Go.RowKit Go.Proofs
set_option maxRecDepth 100000
abbrev ps41:List PK:=[.val tFs true,.val tFs true]
abbrev rs41:List RK:=[.val .bool false]
abbrev R41:=retsD rs41 × outsD ps41
noncomputable def st41_top (n:Nat) (a:List NT) (b:List NT):Option R41 :=
 (q98 n (a,b,())).bind fun r0=>cond (!r0.1.1) (some ((false,()),())) (some ((true,()),()))
noncomputable def p41 (n:Nat) (a:List NT) (b:List NT):Option R41:=st41_top n a b
noncomputable def q41 (n:Nat) (x:argsD ps41):Option R41:=p41 n x.1 x.2.1
end Go.Proofs.Ytbjgiioppmkpiaa.Rx.S

namespace Go.Proofs.Ytbjgiioppmkpiaa.Rx.S
open Go Go.RowKit Go.Proofs
set_option maxRecDepth 100000
noncomputable def c68:Code:=(Try.f68.body.getD .skip)
def an68:An:=⟨fun r=>match r with | 4=>⟨[2,3,5],[]⟩ | _=>⟨[],[]⟩,fun _ _=>none⟩
abbrev ps68:List PK:=[.val (tIn 100) true,.val (tIn 100) true]
abbrev rs68:List RK:=[.val .bool false]
abbrev R68:=retsD rs68 × outsD ps68
noncomputable def G68:Gam:=fun _=>none
theorem h0_68 (hg:GamOK Try.prog G68):Holds Try.prog 68 ⟨ps68,rs68,false,runF TT G68 an68 Try.f68 c68 ps68 rs68⟩:=holds_of tt_ok hg mixed Try.func68 (by kernel_rfl) (by rfl) (by decide +kernel)
noncomputable def at68:Nat→Pt→List Nat→St→Option R68:=atF TT G68 an68 Try.f68 c68 _ _
def sh68_L4 (x0:Int) (x1:Int) (x2:Int) (x3:Int) (x4:Int) (x5:Int) (x6:Int) (x7:Bool) (x8:ByteArray) (x9:List (ByteArray × Int)) (x10:Int) (x11:Int) (x12:Int) (x13:Int) (x14:Int) (x15:Int) (x16:Bool) (x17:ByteArray) (x18:List (ByteArray × Int)):St:=(St.mk (AV.undef :: (AV.undef :: ((AV.one (SV.bptr 1000000 0)) :: ((AV.one (SV.bptr 1000001 0)) :: (AV.undef :: ((AV.one (SV.int (Go.IntKind.i64) x0)) :: (AV.undef :: (AV.undef :: (AV.undef :: (AV.undef :: (AV.undef :: (AV.undef :: (AV.undef :: (AV.undef :: (AV.undef :: (AV.undef :: (AV.undef :: (AV.undef :: (AV.undef :: (AV.undef :: (AV.undef :: (AV.undef :: (AV.undef :: (AV.undef :: (AV.undef :: (AV.undef :: (AV.undef :: (AV.undef :: (AV.undef :: (AV.undef :: (AV.undef :: (AV.undef :: (AV.undef :: (AV.undef :: (AV.undef :: (AV.undef :: (AV.undef :: (AV.undef :: (AV.undef :: (AV.undef :: (AV.undef :: (AV.undef :: (AV.undef :: (AV.undef :: (AV.undef :: (AV.undef :: (AV.undef :: (AV.undef :: (AV.undef :: (AV.undef :: (AV.undef :: (AV.undef :: (AV.undef :: (AV.undef :: (AV.undef :: (AV.undef :: (AV.undef :: (AV.undef :: (AV.undef :: (AV.undef :: (AV.undef :: (AV.undef :: (AV.undef :: (AV.undef :: (AV.undef :: (AV.undef :: (AV.undef :: (AV.undef :: (AV.undef :: (AV.undef :: (AV.undef :: (AV.undef :: (AV.undef :: (AV.undef :: (AV.undef :: (AV.undef :: (AV.undef :: (AV.undef :: (AV.undef :: (AV.undef :: (AV.undef :: (AV.undef :: (AV.undef :: (AV.undef :: (AV.undef :: (AV.undef :: (AV.undef :: []))))))))))))))))))))))))))))))))))))))))))))))))))))))))))))))))))))))))))))))))))))))) ((1000000,(Ent.box ((SV.int (Go.IntKind.i64) x1) :: ((SV.int (Go.IntKind.i64) x2) :: ((SV.int (Go.IntKind.i64) x3) :: ((SV.int (Go.IntKind.i64) x4) :: ((SV.int (Go.IntKind.i64) x5) :: ((SV.int (Go.IntKind.i64) x6) :: ((SV.bool x7) :: ((SV.str x8) :: ((SV.con (⟨100,Ty.str.pair (Ty.int Go.IntKind.i64),x9⟩:Rw)) :: []))))))))))) :: ((1000001,(Ent.box ((SV.int (Go.IntKind.i64) x10) :: ((SV.int (Go.IntKind.i64) x11) :: ((SV.int (Go.IntKind.i64) x12) :: ((SV.int (Go.IntKind.i64) x13) :: ((SV.int (Go.IntKind.i64) x14) :: ((SV.int (Go.IntKind.i64) x15) :: ((SV.bool x16) :: ((SV.str x17) :: ((SV.con (⟨100,Ty.str.pair (Ty.int Go.IntKind.i64),x18⟩:Rw)) :: []))))))))))) :: [])))
noncomputable def st68_top (n:Nat) (lL4:Int→Int→Int→Int→Int→Int→Int→Bool→ByteArray→(List (ByteArray × Int))→Int→Int→Int→Int→Int→Int→Bool→ByteArray→(List (ByteArray × Int))→Option R68) (a:NT) (b:NT):Option R68 :=
 cond (!decide (a.1=b.1)) (some ((false,()),())) (cond (!decide (a.2.1=b.2.1)) (some ((false,()),())) (cond (!decide (a.2.2.1=b.2.2.1)) (some ((false,()),())) (cond (!decide (a.2.2.2.1=b.2.2.2.1)) (some ((false,()),())) (cond (!decide (a.2.2.2.2.1=b.2.2.2.2.1)) (some ((false,()),())) (cond (!decide (a.2.2.2.2.2.1=b.2.2.2.2.2.1)) (some ((false,()),())) (cond (!a.2.2.2.2.2.2.1 == b.2.2.2.2.2.2.1) (some ((false,()),())) (cond (!ByteArray.toList a.2.2.2.2.2.2.2.1 == ByteArray.toList b.2.2.2.2.2.2.2.1) (some ((false,()),())) (cond (!decide ((↑(List.length a.2.2.2.2.2.2.2.2):Int)=(↑(List.length b.2.2.2.2.2.2.2.2):Int))) (some ((false,()),())) (lL4 ((0:Int)) (a.1) (a.2.1) (a.2.2.1) (a.2.2.2.1) (a.2.2.2.2.1) (a.2.2.2.2.2.1) (a.2.2.2.2.2.2.1) (a.2.2.2.2.2.2.2.1) (a.2.2.2.2.2.2.2.2) (b.1) (b.2.1) (b.2.2.1) (b.2.2.2.1) (b.2.2.2.2.1) (b.2.2.2.2.2.1) (b.2.2.2.2.2.2.1) (b.2.2.2.2.2.2.2.1) (b.2.2.2.2.2.2.2.2))))))))))
noncomputable def st68_L4 (n:Nat) (lL4:Int→Int→Int→Int→Int→Int→Int→Bool→ByteArray→(List (ByteArray × Int))→Int→Int→Int→Int→Int→Int→Bool→ByteArray→(List (ByteArray × Int))→Option R68) (x0:Int) (x1:Int) (x2:Int) (x3:Int) (x4:Int) (x5:Int) (x6:Int) (x7:Bool) (x8:ByteArray) (x9:List (ByteArray × Int)) (x10:Int) (x11:Int) (x12:Int) (x13:Int) (x14:Int) (x15:Int) (x16:Bool) (x17:ByteArray) (x18:List (ByteArray × Int)):Option R68 :=
 cond (decide (x0 < (↑x9.length:Int))) (cond (decide ((0:Int)≤x0)) (cond (decide (x0 < (↑x9.length:Int))) (cond (decide ((0:Int)≤x0)) (cond (decide (x0 < (↑x18.length:Int))) (cond (!(ByteArray.toList (x9.getD x0.toNat (ByteArray.empty,(0:Int))).1 == ByteArray.toList (x18.getD x0.toNat (ByteArray.empty,(0:Int))).1&&(decide ((x9.getD x0.toNat (ByteArray.empty,(0:Int))).2=(x18.getD x0.toNat (ByteArray.empty,(0:Int))).2)&&true))) (some ((false,()),())) (lL4 (Go.IntKind.i64.wrap (x0 + (1:Int))) (x1) (x2) (x3) (x4) (x5) (x6) (x7) (x8) (x9) (x10) (x11) (x12) (x13) (x14) (x15) (x16) (x17) (x18))) (none)) (none)) (none)) (none)) (some ((true,()),()))
theorem e68_top (n:Nat) (a:NT) (b:NT):runF TT G68 an68 Try.f68 c68 ps68 rs68 n (a,b,())=st68_top n (fun x0 x1 x2 x3 x4 x5 x6 x7 x8 x9 x10 x11 x12 x13 x14 x15 x16 x17 x18=>at68 n (.head 4) [n] (sh68_L4 x0 x1 x2 x3 x4 x5 x6 x7 x8 x9 x10 x11 x12 x13 x14 x15 x16 x17 x18)) a b:=by kernel_rfl
theorem e68_L4_0 (n:Nat) (x0:Int) (x1:Int) (x2:Int) (x3:Int) (x4:Int) (x5:Int) (x6:Int) (x7:Bool) (x8:ByteArray) (x9:List (ByteArray × Int)) (x10:Int) (x11:Int) (x12:Int) (x13:Int) (x14:Int) (x15:Int) (x16:Bool) (x17:ByteArray) (x18:List (ByteArray × Int)):at68 n (.head 4) [0] (sh68_L4 x0 x1 x2 x3 x4 x5 x6 x7 x8 x9 x10 x11 x12 x13 x14 x15 x16 x17 x18)=none:=by kernel_rfl
theorem e68_L4 (n:Nat) (m4:Nat) (x0:Int) (x1:Int) (x2:Int) (x3:Int) (x4:Int) (x5:Int) (x6:Int) (x7:Bool) (x8:ByteArray) (x9:List (ByteArray × Int)) (x10:Int) (x11:Int) (x12:Int) (x13:Int) (x14:Int) (x15:Int) (x16:Bool) (x17:ByteArray) (x18:List (ByteArray × Int)):at68 n (.head 4) [m4 + 1] (sh68_L4 x0 x1 x2 x3 x4 x5 x6 x7 x8 x9 x10 x11 x12 x13 x14 x15 x16 x17 x18)=st68_L4 n (fun x0 x1 x2 x3 x4 x5 x6 x7 x8 x9 x10 x11 x12 x13 x14 x15 x16 x17 x18=>at68 n (.head 4) [m4] (sh68_L4 x0 x1 x2 x3 x4 x5 x6 x7 x8 x9 x10 x11 x12 x13 x14 x15 x16 x17 x18)) x0 x1 x2 x3 x4 x5 x6 x7 x8 x9 x10 x11 x12 x13 x14 x15 x16 x17 x18:=by kernel_rfl
noncomputable def p68_L4 (n:Nat):Nat→Int→Int→Int→Int→Int→Int→Int→Bool→ByteArray→(List (ByteArray × Int))→Int→Int→Int→Int→Int→Int→Bool→ByteArray→(List (ByteArray × Int))→Option R68
 | 0,_,_,_,_,_,_,_,_,_,_,_,_,_,_,_,_,_,_,_=>none
 | m + 1,x0,x1,x2,x3,x4,x5,x6,x7,x8,x9,x10,x11,x12,x13,x14,x15,x16,x17,x18=>st68_L4 n (p68_L4 n m) x0 x1 x2 x3 x4 x5 x6 x7 x8 x9 x10 x11 x12 x13 x14 x15 x16 x17 x18
noncomputable def p68 (n:Nat) (a:NT) (b:NT):Option R68:=st68_top n (p68_L4 n n) a b
theorem t68_L4 (n:Nat):∀ (m4:Nat) (x0:Int) (x1:Int) (x2:Int) (x3:Int) (x4:Int) (x5:Int) (x6:Int) (x7:Bool) (x8:ByteArray) (x9:List (ByteArray × Int)) (x10:Int) (x11:Int) (x12:Int) (x13:Int) (x14:Int) (x15:Int) (x16:Bool) (x17:ByteArray) (x18:List (ByteArray × Int)),at68 n (.head 4) [m4] (sh68_L4 x0 x1 x2 x3 x4 x5 x6 x7 x8 x9 x10 x11 x12 x13 x14 x15 x16 x17 x18)=p68_L4 n m4 x0 x1 x2 x3 x4 x5 x6 x7 x8 x9 x10 x11 x12 x13 x14 x15 x16 x17 x18:=by
 intro m
 induction m with
 | zero=>intros; rw [e68_L4_0]; rfl
 | succ m ih =>
  intros
  rw [e68_L4]
  try simp only [ih]
  rfl
theorem F68_eq (n:Nat) (a:NT) (b:NT):runF TT G68 an68 Try.f68 c68 ps68 rs68 n (a,b,())=p68 n a b:=by
 rw [e68_top]
 simp only [t68_L4]
 try rfl
noncomputable def q68 (n:Nat) (x:argsD ps68):Option R68:=p68 n x.1 x.2.1
noncomputable def Sm68:Sm:=⟨ps68,rs68,false,q68⟩
theorem holds68 (hg:GamOK Try.prog G68):Holds Try.prog 68 Sm68:=by
 have:=h0_68 hg
 have e:(runF TT G68 an68 Try.f68 c68 ps68 rs68)=q68:=by
  funext n x
  exact F68_eq n x.1 x.2.1
 rw [e] at this
 exact this
theorem gam68:GamOK Try.prog G68:=fun _ _ h=>by cases h
theorem hh68:Holds Try.prog 68 Sm68:=holds68 gam68
end Go.Proofs.Ytbjgiioppmkpiaa.Rx.S

namespace Go.Proofs.Ytbjgiioppmkpiaa.Rx.S
open Go Go.RowKit Go.Proofs
set_option maxRecDepth 100000
noncomputable def c18:Code:=(Try.f18.body.getD .skip)
def an18:An:=⟨fun r=>match r with | 4=>⟨[2,3,5],[]⟩ | _=>⟨[],[]⟩,fun _ _=>none⟩
abbrev ps18:List PK:=[.val tFs true,.val tFs true]
abbrev rs18:List RK:=[.val .bool false]
abbrev R18:=retsD rs18 × outsD ps18
noncomputable def G18:Gam:=fun f=>match f with | 68=>some Sm68 | _=>none
theorem h0_18 (hg:GamOK Try.prog G18):Holds Try.prog 18 ⟨ps18,rs18,false,runF TT G18 an18 Try.f18 c18 ps18 rs18⟩:=holds_of tt_ok hg mixed Try.func18 (by kernel_rfl) (by rfl) (by decide +kernel)
noncomputable def at18:Nat→Pt→List Nat→St→Option R18:=atF TT G18 an18 Try.f18 c18 _ _
def sh18_L4 (x0:Int) (x1:List NT) (x2:List NT):St:=(St.mk (AV.undef :: (AV.undef :: ((AV.one (SV.bptr 1000000 0)) :: ((AV.one (SV.bptr 1000001 0)) :: (AV.undef :: ((AV.one (SV.int (Go.IntKind.i64) x0)) :: (AV.undef :: (AV.undef :: (AV.undef :: (AV.undef :: (AV.undef :: (AV.undef :: (AV.undef :: (AV.undef :: (AV.undef :: (AV.undef :: (AV.undef :: (AV.undef :: (AV.undef :: (AV.undef :: (AV.undef :: (AV.undef :: (AV.undef :: (AV.undef :: (AV.undef :: (AV.undef :: (AV.undef :: (AV.undef :: (AV.undef :: (AV.undef :: (AV.undef :: (AV.undef :: [])))))))))))))))))))))))))))))))) ((1000000,(Ent.box ((SV.con (⟨37,(Ty.int Go.IntKind.i64).pair ((Ty.int Go.IntKind.i64).pair ((Ty.int Go.IntKind.i64).pair ((Ty.int Go.IntKind.i64).pair ((Ty.int Go.IntKind.i64).pair ((Ty.int Go.IntKind.i64).pair (Ty.bool.pair (Ty.str.pair (Ty.row (nat_lit 100) (Ty.str.pair (Ty.int Go.IntKind.i64)))))))))),x1⟩:Rw)) :: []))) :: ((1000001,(Ent.box ((SV.con (⟨37,(Ty.int Go.IntKind.i64).pair ((Ty.int Go.IntKind.i64).pair ((Ty.int Go.IntKind.i64).pair ((Ty.int Go.IntKind.i64).pair ((Ty.int Go.IntKind.i64).pair ((Ty.int Go.IntKind.i64).pair (Ty.bool.pair (Ty.str.pair (Ty.row (nat_lit 100) (Ty.str.pair (Ty.int Go.IntKind.i64)))))))))),x2⟩:Rw)) :: []))) :: [])))
noncomputable def st18_top (n:Nat) (lL4:Int→(List NT)→(List NT)→Option R18) (a:List NT) (b:List NT):Option R18 :=
 cond (!decide ((↑a.length:Int)=(↑b.length:Int))) (some ((false,()),())) (lL4 ((0:Int)) (a) (b))
noncomputable def st18_L4 (n:Nat) (lL4:Int→(List NT)→(List NT)→Option R18) (x0:Int) (x1:List NT) (x2:List NT):Option R18 :=
 cond (decide (x0 < (↑x1.length:Int))) (cond (decide ((0:Int)≤x0)) (cond (decide (x0 < (↑x1.length:Int))) (cond (decide ((0:Int)≤x0)) (cond (decide (x0 < (↑x2.length:Int))) ((q68 n (((x1.getD x0.toNat ZN).1,(x1.getD x0.toNat ZN).2.1,(x1.getD x0.toNat ZN).2.2.1,(x1.getD x0.toNat ZN).2.2.2.1,(x1.getD x0.toNat ZN).2.2.2.2.1,(x1.getD x0.toNat ZN).2.2.2.2.2.1,(x1.getD x0.toNat ZN).2.2.2.2.2.2.1,(x1.getD x0.toNat ZN).2.2.2.2.2.2.2.1,(x1.getD x0.toNat ZN).2.2.2.2.2.2.2.2),((x2.getD x0.toNat ZN).1,(x2.getD x0.toNat ZN).2.1,(x2.getD x0.toNat ZN).2.2.1,(x2.getD x0.toNat ZN).2.2.2.1,(x2.getD x0.toNat ZN).2.2.2.2.1,(x2.getD x0.toNat ZN).2.2.2.2.2.1,(x2.getD x0.toNat ZN).2.2.2.2.2.2.1,(x2.getD x0.toNat ZN).2.2.2.2.2.2.2.1,(x2.getD x0.toNat ZN).2.2.2.2.2.2.2.2),())).bind fun r1=>cond (!r1.1.1) (some ((false,()),())) (lL4 (Go.IntKind.i64.wrap (x0 + (1:Int))) (x1) (x2))) (none)) (none)) (none)) (none)) (some ((true,()),()))
theorem e18_top (n:Nat) (a:List NT) (b:List NT):runF TT G18 an18 Try.f18 c18 ps18 rs18 n (a,b,())=st18_top n (fun x0 x1 x2=>at18 n (.head 4) [n] (sh18_L4 x0 x1 x2)) a b:=by kernel_rfl
theorem e18_L4_0 (n:Nat) (x0:Int) (x1:List NT) (x2:List NT):at18 n (.head 4) [0] (sh18_L4 x0 x1 x2)=none:=by kernel_rfl
theorem e18_L4 (n:Nat) (m4:Nat) (x0:Int) (x1:List NT) (x2:List NT):at18 n (.head 4) [m4 + 1] (sh18_L4 x0 x1 x2)=st18_L4 n (fun x0 x1 x2=>at18 n (.head 4) [m4] (sh18_L4 x0 x1 x2)) x0 x1 x2:=by kernel_rfl
noncomputable def p18_L4 (n:Nat):Nat→Int→(List NT)→(List NT)→Option R18
 | 0,_,_,_=>none
 | m + 1,x0,x1,x2=>st18_L4 n (p18_L4 n m) x0 x1 x2
noncomputable def p18 (n:Nat) (a:List NT) (b:List NT):Option R18:=st18_top n (p18_L4 n n) a b
theorem t18_L4 (n:Nat):∀ (m4:Nat) (x0:Int) (x1:List NT) (x2:List NT),at18 n (.head 4) [m4] (sh18_L4 x0 x1 x2)=p18_L4 n m4 x0 x1 x2:=by
 intro m
 induction m with
 | zero=>intros; rw [e18_L4_0]; rfl
 | succ m ih =>
  intros
  rw [e18_L4]
  try simp only [ih]
  rfl
theorem F18_eq (n:Nat) (a:List NT) (b:List NT):runF TT G18 an18 Try.f18 c18 ps18 rs18 n (a,b,())=p18 n a b:=by
 rw [e18_top]
 simp only [t18_L4]
 try rfl
noncomputable def q18 (n:Nat) (x:argsD ps18):Option R18:=p18 n x.1 x.2.1
noncomputable def Sm18:Sm:=⟨ps18,rs18,false,q18⟩
theorem holds18 (hg:GamOK Try.prog G18):Holds Try.prog 18 Sm18:=by
 have:=h0_18 hg
 have e:(runF TT G18 an18 Try.f18 c18 ps18 rs18)=q18:=by
  funext n x
  exact F18_eq n x.1 x.2.1
 rw [e] at this
 exact this
theorem gam18:GamOK Try.prog G18:=by
 intro f s h
 unfold G18 at h
 split at h
 ·injection h with h; subst h; exact ⟨⟨Try.f68,c68,Try.func68,by kernel_rfl,by decide +kernel⟩,hh68⟩
 ·cases h
theorem hh18:Holds Try.prog 18 Sm18:=holds18 gam18
end Go.Proofs.Ytbjgiioppmkpiaa.Rx.S

namespace Go.Proofs.Ytbjgiioppmkpiaa.Rx.S
open Go Go.RowKit Go.Proofs
set_option maxRecDepth 100000
abbrev ps22:List PK:=[.val tFs true,.val tCr true,.val i64 false,.val .str false]
abbrev rs22:List RK:=[.own tFs true,.val i64 false]
abbrev R22:=retsD rs22 × outsD ps22
noncomputable def st22_top (n:Nat) (a:List NT) (b:Int × Int × List Int) (c:Int) (d:ByteArray):Option R22 :=
 (q63 n (a,())).bind fun r0=>cond (!r0.1.1) (some (([],((1:Int),())),())) ((q64 n ((b.1,b.2.1,b.2.2),())).bind fun r1=>cond (!r1.1.1) (some (([],((1:Int),())),())) ((q65 n (a,c,())).bind fun r2=>cond (!r2.1.1) (some (([],((1:Int),())),())) ((q76 n (d,())).bind fun r3=>cond (!r3.1.1) (some (([],((1:Int),())),())) ((q67 n (a,())).bind fun r4=>(q77 n (r4.1.1,(b.1,b.2.1,b.2.2),c,d,())).bind fun r5=>some ((r5.1.1,(r5.1.2.1,())),())))))
noncomputable def p22 (n:Nat) (a:List NT) (b:Int × Int × List Int) (c:Int) (d:ByteArray):Option R22:=st22_top n a b c d
noncomputable def q22 (n:Nat) (x:argsD ps22):Option R22:=p22 n x.1 x.2.1 x.2.2.1 x.2.2.2.1
end Go.Proofs.Ytbjgiioppmkpiaa.Rx.S

namespace Go.Proofs.Ytbjgiioppmkpiaa.Rx.S
open Go Go.RowKit Go.Proofs
set_option maxRecDepth 100000
abbrev ps7:List PK:=[.val tLf true,.val tCr true,.val i64 false,.val .str false]
abbrev rs7:List RK:=[.val .bool false]
abbrev R7:=retsD rs7 × outsD ps7
noncomputable def st7_top (n:Nat) (a:List NT) (b:Int × Int × List Int) (c:Int) (d:ByteArray):Option R7 :=
 cond (decide ((1048576:Int) < (↑d.size:Int))) (some ((true,()),())) ((q39 n (a,(1048576:Int),())).bind fun r0=>cond (decide (r0.1.1 < (0:Int))) (some ((true,()),())) ((q31 n ((b.1,b.2.1,b.2.2),r0.1.1,())).bind fun r1=>cond (decide (r1.1.1 < (0:Int))) (some ((true,()),())) ((q40 n (a,())).bind fun r2=>(q33 n ((b.1,b.2.1,b.2.2),())).bind fun r3=>(q22 n (r2.1.1,(r3.1.1.1,r3.1.1.2.1,r3.1.1.2.2),c,d,())).bind fun r4=>(q40 n (a,())).bind fun r5=>(q33 n ((b.1,b.2.1,b.2.2),())).bind fun r6=>(q21 n (r5.1.1,(r6.1.1.1,r6.1.1.2.1,r6.1.1.2.2),c,d,())).bind fun r7=>(q41 n (r7.1.1,r4.1.1,())).bind fun r8=>cond (!r8.1.1) (some ((false,()),())) (cond (!decide (r7.1.2.1=r4.1.2.1)) (some ((false,()),())) ((q40 n (a,())).bind fun r9=>(q41 n (r5.1.1,r9.1.1,())).bind fun r10=>cond (!r10.1.1) (some ((false,()),())) ((q33 n ((b.1,b.2.1,b.2.2),())).bind fun r11=>(q35 n ((r6.1.1.1,r6.1.1.2.1,r6.1.1.2.2),(r11.1.1.1,r11.1.1.2.1,r11.1.1.2.2),())).bind fun r12=>cond (!r12.1.1) (some ((false,()),())) ((q42 n (r5.1.1,(1:Int),())).bind fun r13=>(q37 n ((r6.1.1.1,r6.1.1.2.1,r6.1.1.2.2),r13.1.1,())).bind fun r14=>cond (decide (r14.1.1 < (0:Int))) (some ((false,()),())) ((q41 n (r7.1.1,r4.1.1,())).bind fun r15=>cond (!r15.1.1) (some ((false,()),())) (cond (!decide (r7.1.2.1=r4.1.2.1)) (some ((false,()),())) ((q42 n (r7.1.1,(1:Int),())).bind fun r16=>(q43 n (r16.2.1,(1:Int),())).bind fun r17=>cond (decide (r17.1.1 < (0:Int))) (some ((false,()),())) (cond (!decide (r17.1.1=r16.1.1)) (some ((false,()),())) ((q40 n (a,())).bind fun r18=>(q33 n ((b.1,b.2.1,b.2.2),())).bind fun r19=>(q21 n (r18.1.1,(r19.1.1.1,r19.1.1.2.1,r19.1.1.2.2),c,d,())).bind fun r20=>(q41 n (r20.1.1,r4.1.1,())).bind fun r21=>cond (!r21.1.1) (some ((false,()),())) (cond (!decide (r20.1.2.1=r4.1.2.1)) (some ((false,()),())) ((q43 n (r16.2.1,(1:Int),())).bind fun r22=>cond (decide (r22.1.1 < (0:Int))) (some ((false,()),())) (cond (!decide (r22.1.1=r16.1.1)) (some ((false,()),())) (some ((true,()),())))))))))))))))))
noncomputable def p7 (n:Nat) (a:List NT) (b:Int × Int × List Int) (c:Int) (d:ByteArray):Option R7:=st7_top n a b c d
noncomputable def q7 (n:Nat) (x:argsD ps7):Option R7:=p7 n x.1 x.2.1 x.2.2.1 x.2.2.2.1
end Go.Proofs.Ytbjgiioppmkpiaa.Rx.S

namespace Go.Proofs.Ytbjgiioppmkpiaa.Rx.S
open Go Go.RowKit Go.Proofs
set_option maxRecDepth 100000
noncomputable def c15:Code:=(Try.f15.body.getD .skip)
def an15:An:=⟨fun _=>⟨[],[]⟩,fun _ _=>none⟩
abbrev ps15:List PK:=[.val (.row 5 (.int .u8)) false]
abbrev rs15:List RK:=[.ro 37 (tIn 100) true,.own tCr true,.val i64 false,.val i64 false]
abbrev R15:=retsD rs15 × outsD ps15
noncomputable def G15:Gam:=fun f=>match f with | 55=>some Sm55 | 56=>some Sm56 | 57=>some Sm57 | 58=>some Sm58 | 59=>some Sm59 | _=>none
theorem h0_15 (hg:GamOK Try.prog G15):Holds Try.prog 15 ⟨ps15,rs15,true,runF TT G15 an15 Try.f15 c15 ps15 rs15⟩:=holds_of tt_ok hg mixed Try.func15 (by kernel_rfl) (by rfl) (by decide +kernel)
noncomputable def st15_top (n:Nat) (a:List Int):Option R15 :=
 (q55 n (a,())).bind fun r0=>(q56 n ((r0.1.1.1,r0.1.1.2),())).bind fun r1=>(q57 n ((r1.2.1.1,r1.2.1.2),())).bind fun r2=>(q58 n ((r2.2.1.1,r2.2.1.2),())).bind fun r3=>(q59 n ((r3.2.1.1,r3.2.1.2),())).bind fun r4=>some ((r1.1.1,((r2.1.1.1,(r2.1.1.2.1,r2.1.1.2.2)),(r3.1.1,(r4.1.1,())))),())
theorem e15_top (n:Nat) (a:List Int):runF TT G15 an15 Try.f15 c15 ps15 rs15 n (a,())=st15_top n a:=by kernel_rfl
noncomputable def p15 (n:Nat) (a:List Int):Option R15:=st15_top n a
theorem F15_eq (n:Nat) (a:List Int):runF TT G15 an15 Try.f15 c15 ps15 rs15 n (a,())=p15 n a:=by
 rw [e15_top]
 skip
 try rfl
noncomputable def q15 (n:Nat) (x:argsD ps15):Option R15:=p15 n x.1
noncomputable def Sm15:Sm:=⟨ps15,rs15,true,q15⟩
theorem holds15 (hg:GamOK Try.prog G15):Holds Try.prog 15 Sm15:=by
 have:=h0_15 hg
 have e:(runF TT G15 an15 Try.f15 c15 ps15 rs15)=q15:=by
  funext n x
  exact F15_eq n x.1
 rw [e] at this
 exact this
theorem gam15:GamOK Try.prog G15:=by
 intro f s h
 unfold G15 at h
 split at h
 ·injection h with h; subst h; exact ⟨⟨Try.f55,c55,Try.func55,by kernel_rfl,by decide +kernel⟩,hh55⟩
 ·injection h with h; subst h; exact ⟨⟨Try.f56,c56,Try.func56,by kernel_rfl,by decide +kernel⟩,hh56⟩
 ·injection h with h; subst h; exact ⟨⟨Try.f57,c57,Try.func57,by kernel_rfl,by decide +kernel⟩,hh57⟩
 ·injection h with h; subst h; exact ⟨⟨Try.f58,c58,Try.func58,by kernel_rfl,by decide +kernel⟩,hh58⟩
 ·injection h with h; subst h; exact ⟨⟨Try.f59,c59,Try.func59,by kernel_rfl,by decide +kernel⟩,hh59⟩
 ·cases h
theorem hh15:Holds Try.prog 15 Sm15:=holds15 gam15
end Go.Proofs.Ytbjgiioppmkpiaa.Rx.S

namespace Go.Proofs.Ytbjgiioppmkpiaa.Rx.S
open Go Go.RowKit Go.Proofs
set_option maxRecDepth 100000
noncomputable def c3:Code:=(Try.f3.body.getD .skip)
def an3:An:=⟨fun _=>⟨[],[]⟩,fun _ _=>none⟩
abbrev ps3:List PK:=[.val (.row 5 (.int .u8)) false]
abbrev rs3:List RK:=[.val .bool false]
abbrev R3:=retsD rs3 × outsD ps3
noncomputable def G3:Gam:=fun f=>match f with | 15=>some Sm15 | 16=>some Sm16 | 17=>some Sm17 | 18=>some Sm18 | 19=>some Sm19 | _=>none
theorem h0_3 (hg:GamOK Try.prog G3):Holds Try.prog 3 ⟨ps3,rs3,false,runF TT G3 an3 Try.f3 c3 ps3 rs3⟩:=holds_of tt_ok hg mixed Try.func3 (by kernel_rfl) (by rfl) (by decide +kernel)
noncomputable def st3_top (n:Nat) (a:List Int):Option R3 :=
 cond (decide ((1048576:Int) < (↑a.length:Int))) (some ((true,()),())) ((q15 n (a,())).bind fun r0=>(q16 n (r0.1.1,(r0.1.2.1.1,r0.1.2.1.2.1,r0.1.2.1.2.2),r0.1.2.2.1,r0.1.2.2.2.1,())).bind fun r1=>(q17 n (r0.1.1,(r0.1.2.1.1,r0.1.2.1.2.1,r0.1.2.1.2.2),r0.1.2.2.1,r0.1.2.2.2.1,())).bind fun r2=>(q18 n (r1.1.1,r2.1.1,())).bind fun r3=>cond (r3.1.1) (cond (!decide (r1.1.2.1=r2.1.2.1)) (some ((decide (r1.1.2.1=r2.1.2.1),()),())) (cond (!!decide (r1.1.2.1=(1:Int))) (some ((decide (r1.1.2.1=r2.1.2.1),()),())) (cond (!decide (r1.1.2.1=(0:Int))) ((q18 n (r0.1.1,r1.1.1,())).bind fun r4=>some ((r4.1.1,()),())) ((q19 n (r1.1.1,())).bind fun r5=>cond (r5.1.1) (cond (decide ((0:Int)≤r0.1.2.2.1)) (cond (decide (r0.1.2.2.1 < (↑(List.length r1.1.1):Int))) (cond (decide ((List.getD r1.1.1 (Int.toNat r0.1.2.2.1) ZN).2.1=r0.1.2.2.2.1)) (cond (decide (r0.1.2.1.1=(0:Int))) (some ((true,()),())) (cond (decide ((0:Int)≤r0.1.2.2.1)) (cond (decide (r0.1.2.2.1 < (↑(List.length r0.1.1):Int))) (some ((decide (r0.1.2.1.1=(List.getD r0.1.1 (Int.toNat r0.1.2.2.1) ZN).2.2.1),()),())) (none)) (none))) (some ((false,()),()))) (none)) (none)) (some ((false,()),())))))) (some ((false,()),())))
theorem e3_top (n:Nat) (a:List Int):runF TT G3 an3 Try.f3 c3 ps3 rs3 n (a,())=st3_top n a:=by kernel_rfl
noncomputable def p3 (n:Nat) (a:List Int):Option R3:=st3_top n a
theorem F3_eq (n:Nat) (a:List Int):runF TT G3 an3 Try.f3 c3 ps3 rs3 n (a,())=p3 n a:=by
 rw [e3_top]
 skip
 try rfl
noncomputable def q3 (n:Nat) (x:argsD ps3):Option R3:=p3 n x.1
noncomputable def Sm3:Sm:=⟨ps3,rs3,false,q3⟩
theorem holds3 (hg:GamOK Try.prog G3):Holds Try.prog 3 Sm3:=by
 have:=h0_3 hg
 have e:(runF TT G3 an3 Try.f3 c3 ps3 rs3)=q3:=by
  funext n x
  exact F3_eq n x.1
 rw [e] at this
 exact this
theorem gam3:GamOK Try.prog G3:=by
 intro f s h
 unfold G3 at h
 split at h
 ·injection h with h; subst h; exact ⟨⟨Try.f15,c15,Try.func15,by kernel_rfl,by decide +kernel⟩,hh15⟩
 ·injection h with h; subst h; exact ⟨⟨Try.f16,c16,Try.func16,by kernel_rfl,by decide +kernel⟩,hh16⟩
 ·injection h with h; subst h; exact ⟨⟨Try.f17,c17,Try.func17,by kernel_rfl,by decide +kernel⟩,hh17⟩
 ·injection h with h; subst h; exact ⟨⟨Try.f18,c18,Try.func18,by kernel_rfl,by decide +kernel⟩,hh18⟩
 ·injection h with h; subst h; exact ⟨⟨Try.f19,c19,Try.func19,by kernel_rfl,by decide +kernel⟩,hh19⟩
 ·cases h
theorem hh3:Holds Try.prog 3 Sm3:=holds3 gam3
end Go.Proofs.Ytbjgiioppmkpiaa.Rx.S

