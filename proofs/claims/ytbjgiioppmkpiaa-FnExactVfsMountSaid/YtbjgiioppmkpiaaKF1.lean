/- What the functions of this seat compute, each as a plain function on lists and numbers, with the proof that a call answers so. No condition. -/
import Derived.WalkKit
import Derived.Deep.LoopGhost
import Derived.Lib.Walk
import Derived.Laws.Rows
import Derived.Laws.ResultCell
import Derived.Test.YtbjgiioppmkpiaaKF0
set_option linter.unusedVariables false
set_option linter.unusedSimpArgs false
namespace Go.Proofs.Ytbjgiioppmkpiaa.Rx.S
open Go Go.RowKit Go.Proofs
set_option maxRecDepth 100000
noncomputable def c150:Code:=(Try.f150.body.getD .skip)
def an150:An:=⟨fun r=>match r with | 3=>⟨[0,3,4],[]⟩ | _=>⟨[],[]⟩,fun _ _=>none⟩
abbrev ps150:List PK:=[.val (.row 178 tEn) false]
abbrev rs150:List RK:=[.own (.row 100 tEn) false]
abbrev R150:=retsD rs150 × outsD ps150
noncomputable def G150:Gam:=fun f=>match f with | 157=>some Sm157 | _=>none
theorem h0_150 (hg:GamOK Try.prog G150):Holds Try.prog 150 ⟨ps150,rs150,false,runF TT G150 an150 Try.f150 c150 ps150 rs150⟩:=holds_of tt_ok hg mixed Try.func150 (by kernel_rfl) (by rfl) (by decide +kernel)
noncomputable def at150:Nat→Pt→List Nat→St→Option R150:=atF TT G150 an150 Try.f150 c150 _ _
def sh150_L3 (x0:List (ByteArray × Int)) (x1:Int) (x2:List (ByteArray × Int)):St:=(St.mk ((AV.one (SV.con (⟨178,Ty.str.pair (Ty.int Go.IntKind.i64),x0⟩:Rw))) :: (AV.undef :: (AV.undef :: ((AV.one (SV.ref 1000000 0 [] Option.none)) :: ((AV.one (SV.int (Go.IntKind.i64) x1)) :: (AV.undef :: (AV.undef :: (AV.undef :: (AV.undef :: (AV.undef :: (AV.undef :: (AV.undef :: (AV.undef :: (AV.undef :: (AV.undef :: (AV.undef :: (AV.undef :: (AV.undef :: (AV.undef :: (AV.undef :: (AV.undef :: (AV.undef :: (AV.undef :: []))))))))))))))))))))))) ((1000000,(Ent.row (⟨100,Ty.str.pair (Ty.int Go.IntKind.i64),x2⟩:Rw) 0 Option.none)) :: []))
noncomputable def st150_top (n:Nat) (lL3:(List (ByteArray × Int))→Int→(List (ByteArray × Int))→Option R150) (a:List (ByteArray × Int)):Option R150 :=
 cond (decide ((↑a.length:Int) * (↑(24:Nat):Int)≤(140737488355328:Int))) (lL3 (a) ((0:Int)) (List.replicate (↑a.length:Int).toNat (ByteArray.empty,(0:Int)))) (none)
noncomputable def st150_L3 (n:Nat) (lL3:(List (ByteArray × Int))→Int→(List (ByteArray × Int))→Option R150) (x0:List (ByteArray × Int)) (x1:Int) (x2:List (ByteArray × Int)):Option R150 :=
 cond (decide (x1 < (↑x0.length:Int))) (cond (decide ((0:Int)≤x1)) (cond (decide (x1 < (↑x0.length:Int))) ((q157 n (((x0.getD x1.toNat (ByteArray.empty,(0:Int))).1,(x0.getD x1.toNat (ByteArray.empty,(0:Int))).2),())).bind fun r1=>cond (decide ((0:Int)≤x1)) (cond (decide (x1 < (↑x2.length:Int))) (lL3 (x0) (Go.IntKind.i64.wrap (x1 + (1:Int))) (x2.set x1.toNat (r1.1.1.1,r1.1.1.2))) (none)) (none)) (none)) (none)) (some ((x2,()),()))
theorem e150_top (n:Nat) (a:List (ByteArray × Int)):runF TT G150 an150 Try.f150 c150 ps150 rs150 n (a,())=st150_top n (fun x0 x1 x2=>at150 n (.head 3) [n] (sh150_L3 x0 x1 x2)) a:=by kernel_rfl
theorem e150_L3_0 (n:Nat) (x0:List (ByteArray × Int)) (x1:Int) (x2:List (ByteArray × Int)):at150 n (.head 3) [0] (sh150_L3 x0 x1 x2)=none:=by kernel_rfl
theorem e150_L3 (n:Nat) (m3:Nat) (x0:List (ByteArray × Int)) (x1:Int) (x2:List (ByteArray × Int)):at150 n (.head 3) [m3 + 1] (sh150_L3 x0 x1 x2)=st150_L3 n (fun x0 x1 x2=>at150 n (.head 3) [m3] (sh150_L3 x0 x1 x2)) x0 x1 x2:=by kernel_rfl
noncomputable def p150_L3 (n:Nat):Nat→(List (ByteArray × Int))→Int→(List (ByteArray × Int))→Option R150
 | 0,_,_,_=>none
 | m + 1,x0,x1,x2=>st150_L3 n (p150_L3 n m) x0 x1 x2
noncomputable def p150 (n:Nat) (a:List (ByteArray × Int)):Option R150:=st150_top n (p150_L3 n n) a
theorem t150_L3 (n:Nat):∀ (m3:Nat) (x0:List (ByteArray × Int)) (x1:Int) (x2:List (ByteArray × Int)),at150 n (.head 3) [m3] (sh150_L3 x0 x1 x2)=p150_L3 n m3 x0 x1 x2:=by
 intro m
 induction m with
 | zero=>intros; rw [e150_L3_0]; rfl
 | succ m ih =>
  intros
  rw [e150_L3]
  try simp only [ih]
  rfl
theorem F150_eq (n:Nat) (a:List (ByteArray × Int)):runF TT G150 an150 Try.f150 c150 ps150 rs150 n (a,())=p150 n a:=by
 rw [e150_top]
 simp only [t150_L3]
 try rfl
noncomputable def q150 (n:Nat) (x:argsD ps150):Option R150:=p150 n x.1
noncomputable def Sm150:Sm:=⟨ps150,rs150,false,q150⟩
theorem holds150 (hg:GamOK Try.prog G150):Holds Try.prog 150 Sm150:=by
 have:=h0_150 hg
 have e:(runF TT G150 an150 Try.f150 c150 ps150 rs150)=q150:=by
  funext n x
  exact F150_eq n x.1
 rw [e] at this
 exact this
theorem gam150:GamOK Try.prog G150:=by
 intro f s h
 unfold G150 at h
 split at h
 ·injection h with h; subst h; exact ⟨⟨Try.f157,c157,Try.func157,by kernel_rfl,by decide +kernel⟩,hh157⟩
 ·cases h
theorem hh150:Holds Try.prog 150 Sm150:=holds150 gam150
end Go.Proofs.Ytbjgiioppmkpiaa.Rx.S

namespace Go.Proofs.Ytbjgiioppmkpiaa.Rx.S
open Go Go.RowKit Go.Proofs
set_option maxRecDepth 100000
noncomputable def c134:Code:=(Try.f134.body.getD .skip)
def an134:An:=⟨fun _=>⟨[],[]⟩,fun _ _=>none⟩
abbrev ps134:List PK:=[.val (tIn 178) true]
abbrev rs134:List RK:=[.own (tIn 100) true]
abbrev R134:=retsD rs134 × outsD ps134
noncomputable def G134:Gam:=fun f=>match f with | 150=>some Sm150 | _=>none
theorem h0_134 (hg:GamOK Try.prog G134):Holds Try.prog 134 ⟨ps134,rs134,false,runF TT G134 an134 Try.f134 c134 ps134 rs134⟩:=holds_of tt_ok hg mixed Try.func134 (by kernel_rfl) (by rfl) (by decide +kernel)
noncomputable def st134_top (n:Nat) (a:NT):Option R134 :=
 (q150 n (a.2.2.2.2.2.2.2.2,())).bind fun r0=>some (((a.1,(a.2.1,(a.2.2.1,(a.2.2.2.1,(a.2.2.2.2.1,(a.2.2.2.2.2.1,(a.2.2.2.2.2.2.1,(a.2.2.2.2.2.2.2.1,r0.1.1)))))))),()),())
theorem e134_top (n:Nat) (a:NT):runF TT G134 an134 Try.f134 c134 ps134 rs134 n (a,())=st134_top n a:=by kernel_rfl
noncomputable def p134 (n:Nat) (a:NT):Option R134:=st134_top n a
theorem F134_eq (n:Nat) (a:NT):runF TT G134 an134 Try.f134 c134 ps134 rs134 n (a,())=p134 n a:=by
 rw [e134_top]
 skip
 try rfl
noncomputable def q134 (n:Nat) (x:argsD ps134):Option R134:=p134 n x.1
noncomputable def Sm134:Sm:=⟨ps134,rs134,false,q134⟩
theorem holds134 (hg:GamOK Try.prog G134):Holds Try.prog 134 Sm134:=by
 have:=h0_134 hg
 have e:(runF TT G134 an134 Try.f134 c134 ps134 rs134)=q134:=by
  funext n x
  exact F134_eq n x.1
 rw [e] at this
 exact this
theorem gam134:GamOK Try.prog G134:=by
 intro f s h
 unfold G134 at h
 split at h
 ·injection h with h; subst h; exact ⟨⟨Try.f150,c150,Try.func150,by kernel_rfl,by decide +kernel⟩,hh150⟩
 ·cases h
theorem hh134:Holds Try.prog 134 Sm134:=holds134 gam134
end Go.Proofs.Ytbjgiioppmkpiaa.Rx.S

namespace Go.Proofs.Ytbjgiioppmkpiaa.Rx.S
open Go Go.RowKit Go.Proofs
set_option maxRecDepth 100000
noncomputable def c158:Code:=(Try.f158.body.getD .skip)
def an158:An:=⟨fun _=>⟨[],[]⟩,fun _ _=>none⟩
abbrev ps158:List PK:=[.val tEn true,.val tEn true]
abbrev rs158:List RK:=[.val .bool false]
abbrev R158:=retsD rs158 × outsD ps158
noncomputable def G158:Gam:=fun _=>none
theorem h0_158 (hg:GamOK Try.prog G158):Holds Try.prog 158 ⟨ps158,rs158,false,runF TT G158 an158 Try.f158 c158 ps158 rs158⟩:=holds_of tt_ok hg mixed Try.func158 (by kernel_rfl) (by rfl) (by decide +kernel)
noncomputable def st158_top (n:Nat) (a:ByteArray × Int) (b:ByteArray × Int):Option R158 :=
 cond (!ByteArray.toList a.1 == ByteArray.toList b.1) (some ((false,()),())) (cond (!decide (a.2=b.2)) (some ((false,()),())) (some ((true,()),())))
theorem e158_top (n:Nat) (a:ByteArray × Int) (b:ByteArray × Int):runF TT G158 an158 Try.f158 c158 ps158 rs158 n (a,b,())=st158_top n a b:=by kernel_rfl
noncomputable def p158 (n:Nat) (a:ByteArray × Int) (b:ByteArray × Int):Option R158:=st158_top n a b
theorem F158_eq (n:Nat) (a:ByteArray × Int) (b:ByteArray × Int):runF TT G158 an158 Try.f158 c158 ps158 rs158 n (a,b,())=p158 n a b:=by
 rw [e158_top]
 skip
 try rfl
noncomputable def q158 (n:Nat) (x:argsD ps158):Option R158:=p158 n x.1 x.2.1
noncomputable def Sm158:Sm:=⟨ps158,rs158,false,q158⟩
theorem holds158 (hg:GamOK Try.prog G158):Holds Try.prog 158 Sm158:=by
 have:=h0_158 hg
 have e:(runF TT G158 an158 Try.f158 c158 ps158 rs158)=q158:=by
  funext n x
  exact F158_eq n x.1 x.2.1
 rw [e] at this
 exact this
theorem gam158:GamOK Try.prog G158:=fun _ _ h=>by cases h
theorem hh158:Holds Try.prog 158 Sm158:=holds158 gam158
end Go.Proofs.Ytbjgiioppmkpiaa.Rx.S

namespace Go.Proofs.Ytbjgiioppmkpiaa.Rx.S
open Go Go.RowKit Go.Proofs
set_option maxRecDepth 100000
noncomputable def c151:Code:=(Try.f151.body.getD .skip)
def an151:An:=⟨fun r=>match r with | 4=>⟨[0,1,5],[]⟩ | _=>⟨[],[]⟩,fun _ _=>none⟩
abbrev ps151:List PK:=[.val (.row 100 tEn) false,.val (.row 100 tEn) false]
abbrev rs151:List RK:=[.val .bool false]
abbrev R151:=retsD rs151 × outsD ps151
noncomputable def G151:Gam:=fun f=>match f with | 158=>some Sm158 | _=>none
theorem h0_151 (hg:GamOK Try.prog G151):Holds Try.prog 151 ⟨ps151,rs151,false,runF TT G151 an151 Try.f151 c151 ps151 rs151⟩:=holds_of tt_ok hg mixed Try.func151 (by kernel_rfl) (by rfl) (by decide +kernel)
noncomputable def at151:Nat→Pt→List Nat→St→Option R151:=atF TT G151 an151 Try.f151 c151 _ _
def sh151_L4 (x0:List (ByteArray × Int)) (x1:List (ByteArray × Int)) (x2:Int):St:=(St.mk ((AV.one (SV.con (⟨100,Ty.str.pair (Ty.int Go.IntKind.i64),x0⟩:Rw))) :: ((AV.one (SV.con (⟨100,Ty.str.pair (Ty.int Go.IntKind.i64),x1⟩:Rw))) :: (AV.undef :: (AV.undef :: (AV.undef :: ((AV.one (SV.int (Go.IntKind.i64) x2)) :: (AV.undef :: (AV.undef :: (AV.undef :: (AV.undef :: (AV.undef :: (AV.undef :: (AV.undef :: (AV.undef :: (AV.undef :: (AV.undef :: (AV.undef :: (AV.undef :: (AV.undef :: (AV.undef :: (AV.undef :: (AV.undef :: (AV.undef :: (AV.undef :: (AV.undef :: (AV.undef :: (AV.undef :: []))))))))))))))))))))))))))) [])
noncomputable def st151_top (n:Nat) (lL4:(List (ByteArray × Int))→(List (ByteArray × Int))→Int→Option R151) (a:List (ByteArray × Int)) (b:List (ByteArray × Int)):Option R151 :=
 cond (!decide ((↑a.length:Int)=(↑b.length:Int))) (some ((false,()),())) (lL4 (a) (b) ((0:Int)))
noncomputable def st151_L4 (n:Nat) (lL4:(List (ByteArray × Int))→(List (ByteArray × Int))→Int→Option R151) (x0:List (ByteArray × Int)) (x1:List (ByteArray × Int)) (x2:Int):Option R151 :=
 cond (decide (x2 < (↑x0.length:Int))) (cond (decide ((0:Int)≤x2)) (cond (decide (x2 < (↑x0.length:Int))) (cond (decide ((0:Int)≤x2)) (cond (decide (x2 < (↑x1.length:Int))) ((q158 n (((x0.getD x2.toNat (ByteArray.empty,(0:Int))).1,(x0.getD x2.toNat (ByteArray.empty,(0:Int))).2),((x1.getD x2.toNat (ByteArray.empty,(0:Int))).1,(x1.getD x2.toNat (ByteArray.empty,(0:Int))).2),())).bind fun r1=>cond (!r1.1.1) (some ((false,()),())) (lL4 (x0) (x1) (Go.IntKind.i64.wrap (x2 + (1:Int))))) (none)) (none)) (none)) (none)) (some ((true,()),()))
theorem e151_top (n:Nat) (a:List (ByteArray × Int)) (b:List (ByteArray × Int)):runF TT G151 an151 Try.f151 c151 ps151 rs151 n (a,b,())=st151_top n (fun x0 x1 x2=>at151 n (.head 4) [n] (sh151_L4 x0 x1 x2)) a b:=by kernel_rfl
theorem e151_L4_0 (n:Nat) (x0:List (ByteArray × Int)) (x1:List (ByteArray × Int)) (x2:Int):at151 n (.head 4) [0] (sh151_L4 x0 x1 x2)=none:=by kernel_rfl
theorem e151_L4 (n:Nat) (m4:Nat) (x0:List (ByteArray × Int)) (x1:List (ByteArray × Int)) (x2:Int):at151 n (.head 4) [m4 + 1] (sh151_L4 x0 x1 x2)=st151_L4 n (fun x0 x1 x2=>at151 n (.head 4) [m4] (sh151_L4 x0 x1 x2)) x0 x1 x2:=by kernel_rfl
noncomputable def p151_L4 (n:Nat):Nat→(List (ByteArray × Int))→(List (ByteArray × Int))→Int→Option R151
 | 0,_,_,_=>none
 | m + 1,x0,x1,x2=>st151_L4 n (p151_L4 n m) x0 x1 x2
noncomputable def p151 (n:Nat) (a:List (ByteArray × Int)) (b:List (ByteArray × Int)):Option R151:=st151_top n (p151_L4 n n) a b
theorem t151_L4 (n:Nat):∀ (m4:Nat) (x0:List (ByteArray × Int)) (x1:List (ByteArray × Int)) (x2:Int),at151 n (.head 4) [m4] (sh151_L4 x0 x1 x2)=p151_L4 n m4 x0 x1 x2:=by
 intro m
 induction m with
 | zero=>intros; rw [e151_L4_0]; rfl
 | succ m ih =>
  intros
  rw [e151_L4]
  try simp only [ih]
  rfl
theorem F151_eq (n:Nat) (a:List (ByteArray × Int)) (b:List (ByteArray × Int)):runF TT G151 an151 Try.f151 c151 ps151 rs151 n (a,b,())=p151 n a b:=by
 rw [e151_top]
 simp only [t151_L4]
 try rfl
noncomputable def q151 (n:Nat) (x:argsD ps151):Option R151:=p151 n x.1 x.2.1
noncomputable def Sm151:Sm:=⟨ps151,rs151,false,q151⟩
theorem holds151 (hg:GamOK Try.prog G151):Holds Try.prog 151 Sm151:=by
 have:=h0_151 hg
 have e:(runF TT G151 an151 Try.f151 c151 ps151 rs151)=q151:=by
  funext n x
  exact F151_eq n x.1 x.2.1
 rw [e] at this
 exact this
theorem gam151:GamOK Try.prog G151:=by
 intro f s h
 unfold G151 at h
 split at h
 ·injection h with h; subst h; exact ⟨⟨Try.f158,c158,Try.func158,by kernel_rfl,by decide +kernel⟩,hh158⟩
 ·cases h
theorem hh151:Holds Try.prog 151 Sm151:=holds151 gam151
end Go.Proofs.Ytbjgiioppmkpiaa.Rx.S

namespace Go.Proofs.Ytbjgiioppmkpiaa.Rx.S
open Go Go.RowKit Go.Proofs
set_option maxRecDepth 100000
noncomputable def c135:Code:=(Try.f135.body.getD .skip)
def an135:An:=⟨fun _=>⟨[],[]⟩,fun _ _=>none⟩
abbrev ps135:List PK:=[.val (tIn 100) true,.val (tIn 100) true]
abbrev rs135:List RK:=[.val .bool false]
abbrev R135:=retsD rs135 × outsD ps135
noncomputable def G135:Gam:=fun f=>match f with | 151=>some Sm151 | _=>none
theorem h0_135 (hg:GamOK Try.prog G135):Holds Try.prog 135 ⟨ps135,rs135,false,runF TT G135 an135 Try.f135 c135 ps135 rs135⟩:=holds_of tt_ok hg mixed Try.func135 (by kernel_rfl) (by rfl) (by decide +kernel)
noncomputable def st135_top (n:Nat) (a:NT) (b:NT):Option R135 :=
 cond (!decide (a.1=b.1)) (some ((false,()),())) (cond (!decide (a.2.1=b.2.1)) (some ((false,()),())) (cond (!decide (a.2.2.1=b.2.2.1)) (some ((false,()),())) (cond (!decide (a.2.2.2.1=b.2.2.2.1)) (some ((false,()),())) (cond (!decide (a.2.2.2.2.1=b.2.2.2.2.1)) (some ((false,()),())) (cond (!decide (a.2.2.2.2.2.1=b.2.2.2.2.2.1)) (some ((false,()),())) (cond (!a.2.2.2.2.2.2.1 == b.2.2.2.2.2.2.1) (some ((false,()),())) (cond (!ByteArray.toList a.2.2.2.2.2.2.2.1 == ByteArray.toList b.2.2.2.2.2.2.2.1) (some ((false,()),())) ((q151 n (a.2.2.2.2.2.2.2.2,b.2.2.2.2.2.2.2.2,())).bind fun r0=>cond (!r0.1.1) (some ((false,()),())) (some ((true,()),()))))))))))
theorem e135_top (n:Nat) (a:NT) (b:NT):runF TT G135 an135 Try.f135 c135 ps135 rs135 n (a,b,())=st135_top n a b:=by kernel_rfl
noncomputable def p135 (n:Nat) (a:NT) (b:NT):Option R135:=st135_top n a b
theorem F135_eq (n:Nat) (a:NT) (b:NT):runF TT G135 an135 Try.f135 c135 ps135 rs135 n (a,b,())=p135 n a b:=by
 rw [e135_top]
 skip
 try rfl
noncomputable def q135 (n:Nat) (x:argsD ps135):Option R135:=p135 n x.1 x.2.1
noncomputable def Sm135:Sm:=⟨ps135,rs135,false,q135⟩
theorem holds135 (hg:GamOK Try.prog G135):Holds Try.prog 135 Sm135:=by
 have:=h0_135 hg
 have e:(runF TT G135 an135 Try.f135 c135 ps135 rs135)=q135:=by
  funext n x
  exact F135_eq n x.1 x.2.1
 rw [e] at this
 exact this
theorem gam135:GamOK Try.prog G135:=by
 intro f s h
 unfold G135 at h
 split at h
 ·injection h with h; subst h; exact ⟨⟨Try.f151,c151,Try.func151,by kernel_rfl,by decide +kernel⟩,hh151⟩
 ·cases h
theorem hh135:Holds Try.prog 135 Sm135:=holds135 gam135
end Go.Proofs.Ytbjgiioppmkpiaa.Rx.S

namespace Go.Proofs.Ytbjgiioppmkpiaa.Rx.S
open Go Go.RowKit Go.Proofs
set_option maxRecDepth 100000
noncomputable def c88:Code:=(Try.f88.body.getD .skip)
def an88:An:=⟨fun _=>⟨[],[]⟩,fun _ _=>none⟩
abbrev ps88:List PK:=[.val (.row 3 i64) false,.val i64 false]
abbrev rs88:List RK:=[.val i64 false]
abbrev R88:=retsD rs88 × outsD ps88
noncomputable def G88:Gam:=fun _=>none
theorem h0_88 (hg:GamOK Try.prog G88):Holds Try.prog 88 ⟨ps88,rs88,false,runF TT G88 an88 Try.f88 c88 ps88 rs88⟩:=holds_of tt_ok hg mixed Try.func88 (by kernel_rfl) (by rfl) (by decide +kernel)
noncomputable def st88_top (n:Nat) (a:List Int) (b:Int):Option R88 :=
 cond (decide (Go.IntKind.i64.wrap (b - (↑a.length:Int)) < (0:Int))) (some (((-1:Int),()),())) (some ((Go.IntKind.i64.wrap (b - (↑a.length:Int)),()),()))
theorem e88_top (n:Nat) (a:List Int) (b:Int):runF TT G88 an88 Try.f88 c88 ps88 rs88 n (a,b,())=st88_top n a b:=by kernel_rfl
noncomputable def p88 (n:Nat) (a:List Int) (b:Int):Option R88:=st88_top n a b
theorem F88_eq (n:Nat) (a:List Int) (b:Int):runF TT G88 an88 Try.f88 c88 ps88 rs88 n (a,b,())=p88 n a b:=by
 rw [e88_top]
 skip
 try rfl
noncomputable def q88 (n:Nat) (x:argsD ps88):Option R88:=p88 n x.1 x.2.1
noncomputable def Sm88:Sm:=⟨ps88,rs88,false,q88⟩
theorem holds88 (hg:GamOK Try.prog G88):Holds Try.prog 88 Sm88:=by
 have:=h0_88 hg
 have e:(runF TT G88 an88 Try.f88 c88 ps88 rs88)=q88:=by
  funext n x
  exact F88_eq n x.1 x.2.1
 rw [e] at this
 exact this
theorem gam88:GamOK Try.prog G88:=fun _ _ h=>by cases h
theorem hh88:Holds Try.prog 88 Sm88:=holds88 gam88
end Go.Proofs.Ytbjgiioppmkpiaa.Rx.S

namespace Go.Proofs.Ytbjgiioppmkpiaa.Rx.S
open Go Go.RowKit Go.Proofs
set_option maxRecDepth 100000
noncomputable def c31:Code:=(Try.f31.body.getD .skip)
def an31:An:=⟨fun _=>⟨[],[]⟩,fun _ _=>none⟩
abbrev ps31:List PK:=[.val tCr true,.val i64 false]
abbrev rs31:List RK:=[.val i64 false]
abbrev R31:=retsD rs31 × outsD ps31
noncomputable def G31:Gam:=fun f=>match f with | 88=>some Sm88 | _=>none
theorem h0_31 (hg:GamOK Try.prog G31):Holds Try.prog 31 ⟨ps31,rs31,false,runF TT G31 an31 Try.f31 c31 ps31 rs31⟩:=holds_of tt_ok hg mixed Try.func31 (by kernel_rfl) (by rfl) (by decide +kernel)
noncomputable def st31_top (n:Nat) (a:Int × Int × List Int) (b:Int):Option R31 :=
 (q88 n (a.2.2,b,())).bind fun r0=>cond (decide (r0.1.1 < (0:Int))) (some (((-1:Int),()),())) (some ((r0.1.1,()),()))
theorem e31_top (n:Nat) (a:Int × Int × List Int) (b:Int):runF TT G31 an31 Try.f31 c31 ps31 rs31 n (a,b,())=st31_top n a b:=by kernel_rfl
noncomputable def p31 (n:Nat) (a:Int × Int × List Int) (b:Int):Option R31:=st31_top n a b
theorem F31_eq (n:Nat) (a:Int × Int × List Int) (b:Int):runF TT G31 an31 Try.f31 c31 ps31 rs31 n (a,b,())=p31 n a b:=by
 rw [e31_top]
 skip
 try rfl
noncomputable def q31 (n:Nat) (x:argsD ps31):Option R31:=p31 n x.1 x.2.1
noncomputable def Sm31:Sm:=⟨ps31,rs31,false,q31⟩
theorem holds31 (hg:GamOK Try.prog G31):Holds Try.prog 31 Sm31:=by
 have:=h0_31 hg
 have e:(runF TT G31 an31 Try.f31 c31 ps31 rs31)=q31:=by
  funext n x
  exact F31_eq n x.1 x.2.1
 rw [e] at this
 exact this
theorem gam31:GamOK Try.prog G31:=by
 intro f s h
 unfold G31 at h
 split at h
 ·injection h with h; subst h; exact ⟨⟨Try.f88,c88,Try.func88,by kernel_rfl,by decide +kernel⟩,hh88⟩
 ·cases h
theorem hh31:Holds Try.prog 31 Sm31:=holds31 gam31
end Go.Proofs.Ytbjgiioppmkpiaa.Rx.S

namespace Go.Proofs.Ytbjgiioppmkpiaa.Rx.S
open Go Go.RowKit Go.Proofs
set_option maxRecDepth 100000
noncomputable def c90:Code:=(Try.f90.body.getD .skip)
def an90:An:=⟨fun r=>match r with | 3=>⟨[0,3,4],[]⟩ | _=>⟨[],[]⟩,fun _ _=>none⟩
abbrev ps90:List PK:=[.val (.row 3 i64) false]
abbrev rs90:List RK:=[.own (.row 3 i64) false]
abbrev R90:=retsD rs90 × outsD ps90
noncomputable def G90:Gam:=fun _=>none
theorem h0_90 (hg:GamOK Try.prog G90):Holds Try.prog 90 ⟨ps90,rs90,false,runF TT G90 an90 Try.f90 c90 ps90 rs90⟩:=holds_of tt_ok hg mixed Try.func90 (by kernel_rfl) (by rfl) (by decide +kernel)
noncomputable def at90:Nat→Pt→List Nat→St→Option R90:=atF TT G90 an90 Try.f90 c90 _ _
def sh90_L3 (x0:List Int) (x1:Int) (x2:List Int):St:=(St.mk ((AV.one (SV.con (⟨3,Ty.int Go.IntKind.i64,x0⟩:Rw))) :: (AV.undef :: (AV.undef :: ((AV.one (SV.ref 1000000 0 [] Option.none)) :: ((AV.one (SV.int (Go.IntKind.i64) x1)) :: (AV.undef :: (AV.undef :: (AV.undef :: (AV.undef :: (AV.undef :: (AV.undef :: (AV.undef :: (AV.undef :: (AV.undef :: (AV.undef :: (AV.undef :: (AV.undef :: (AV.undef :: (AV.undef :: (AV.undef :: (AV.undef :: (AV.undef :: [])))))))))))))))))))))) ((1000000,(Ent.row (⟨3,Ty.int Go.IntKind.i64,x2⟩:Rw) 0 Option.none)) :: []))
noncomputable def st90_top (n:Nat) (lL3:(List Int)→Int→(List Int)→Option R90) (a:List Int):Option R90 :=
 cond (decide ((↑a.length:Int) * (↑(8:Nat):Int)≤(140737488355328:Int))) (lL3 (a) ((0:Int)) (List.replicate (↑a.length:Int).toNat (0:Int))) (none)
noncomputable def st90_L3 (n:Nat) (lL3:(List Int)→Int→(List Int)→Option R90) (x0:List Int) (x1:Int) (x2:List Int):Option R90 :=
 cond (decide (x1 < (↑x0.length:Int))) (cond (decide ((0:Int)≤x1)) (cond (decide (x1 < (↑x0.length:Int))) (cond (decide ((0:Int)≤x1)) (cond (decide (x1 < (↑x2.length:Int))) (lL3 (x0) (Go.IntKind.i64.wrap (x1 + (1:Int))) (x2.set x1.toNat (x0.getD x1.toNat (0:Int)))) (none)) (none)) (none)) (none)) (some ((x2,()),()))
theorem e90_top (n:Nat) (a:List Int):runF TT G90 an90 Try.f90 c90 ps90 rs90 n (a,())=st90_top n (fun x0 x1 x2=>at90 n (.head 3) [n] (sh90_L3 x0 x1 x2)) a:=by kernel_rfl
theorem e90_L3_0 (n:Nat) (x0:List Int) (x1:Int) (x2:List Int):at90 n (.head 3) [0] (sh90_L3 x0 x1 x2)=none:=by kernel_rfl
theorem e90_L3 (n:Nat) (m3:Nat) (x0:List Int) (x1:Int) (x2:List Int):at90 n (.head 3) [m3 + 1] (sh90_L3 x0 x1 x2)=st90_L3 n (fun x0 x1 x2=>at90 n (.head 3) [m3] (sh90_L3 x0 x1 x2)) x0 x1 x2:=by kernel_rfl
noncomputable def p90_L3 (n:Nat):Nat→(List Int)→Int→(List Int)→Option R90
 | 0,_,_,_=>none
 | m + 1,x0,x1,x2=>st90_L3 n (p90_L3 n m) x0 x1 x2
noncomputable def p90 (n:Nat) (a:List Int):Option R90:=st90_top n (p90_L3 n n) a
theorem t90_L3 (n:Nat):∀ (m3:Nat) (x0:List Int) (x1:Int) (x2:List Int),at90 n (.head 3) [m3] (sh90_L3 x0 x1 x2)=p90_L3 n m3 x0 x1 x2:=by
 intro m
 induction m with
 | zero=>intros; rw [e90_L3_0]; rfl
 | succ m ih =>
  intros
  rw [e90_L3]
  try simp only [ih]
  rfl
theorem F90_eq (n:Nat) (a:List Int):runF TT G90 an90 Try.f90 c90 ps90 rs90 n (a,())=p90 n a:=by
 rw [e90_top]
 simp only [t90_L3]
 try rfl
noncomputable def q90 (n:Nat) (x:argsD ps90):Option R90:=p90 n x.1
noncomputable def Sm90:Sm:=⟨ps90,rs90,false,q90⟩
theorem holds90 (hg:GamOK Try.prog G90):Holds Try.prog 90 Sm90:=by
 have:=h0_90 hg
 have e:(runF TT G90 an90 Try.f90 c90 ps90 rs90)=q90:=by
  funext n x
  exact F90_eq n x.1
 rw [e] at this
 exact this
theorem gam90:GamOK Try.prog G90:=fun _ _ h=>by cases h
theorem hh90:Holds Try.prog 90 Sm90:=holds90 gam90
end Go.Proofs.Ytbjgiioppmkpiaa.Rx.S

namespace Go.Proofs.Ytbjgiioppmkpiaa.Rx.S
open Go Go.RowKit Go.Proofs
set_option maxRecDepth 100000
noncomputable def c33:Code:=(Try.f33.body.getD .skip)
def an33:An:=⟨fun _=>⟨[],[]⟩,fun _ _=>none⟩
abbrev ps33:List PK:=[.val tCr true]
abbrev rs33:List RK:=[.own tCr true]
abbrev R33:=retsD rs33 × outsD ps33
noncomputable def G33:Gam:=fun f=>match f with | 90=>some Sm90 | _=>none
theorem h0_33 (hg:GamOK Try.prog G33):Holds Try.prog 33 ⟨ps33,rs33,false,runF TT G33 an33 Try.f33 c33 ps33 rs33⟩:=holds_of tt_ok hg mixed Try.func33 (by kernel_rfl) (by rfl) (by decide +kernel)
noncomputable def st33_top (n:Nat) (a:Int × Int × List Int):Option R33 :=
 (q90 n (a.2.2,())).bind fun r0=>some (((a.1,(a.2.1,r0.1.1)),()),())
theorem e33_top (n:Nat) (a:Int × Int × List Int):runF TT G33 an33 Try.f33 c33 ps33 rs33 n (a,())=st33_top n a:=by kernel_rfl
noncomputable def p33 (n:Nat) (a:Int × Int × List Int):Option R33:=st33_top n a
theorem F33_eq (n:Nat) (a:Int × Int × List Int):runF TT G33 an33 Try.f33 c33 ps33 rs33 n (a,())=p33 n a:=by
 rw [e33_top]
 skip
 try rfl
noncomputable def q33 (n:Nat) (x:argsD ps33):Option R33:=p33 n x.1
noncomputable def Sm33:Sm:=⟨ps33,rs33,false,q33⟩
theorem holds33 (hg:GamOK Try.prog G33):Holds Try.prog 33 Sm33:=by
 have:=h0_33 hg
 have e:(runF TT G33 an33 Try.f33 c33 ps33 rs33)=q33:=by
  funext n x
  exact F33_eq n x.1
 rw [e] at this
 exact this
theorem gam33:GamOK Try.prog G33:=by
 intro f s h
 unfold G33 at h
 split at h
 ·injection h with h; subst h; exact ⟨⟨Try.f90,c90,Try.func90,by kernel_rfl,by decide +kernel⟩,hh90⟩
 ·cases h
theorem hh33:Holds Try.prog 33 Sm33:=holds33 gam33
end Go.Proofs.Ytbjgiioppmkpiaa.Rx.S

namespace Go.Proofs.Ytbjgiioppmkpiaa.Rx.S
open Go Go.RowKit Go.Proofs
set_option maxRecDepth 100000
noncomputable def c92:Code:=(Try.f92.body.getD .skip)
def an92:An:=⟨fun r=>match r with | 4=>⟨[0,1,5],[]⟩ | _=>⟨[],[]⟩,fun _ _=>none⟩
abbrev ps92:List PK:=[.val (.row 3 i64) false,.val (.row 3 i64) false]
abbrev rs92:List RK:=[.val .bool false]
abbrev R92:=retsD rs92 × outsD ps92
noncomputable def G92:Gam:=fun _=>none
theorem h0_92 (hg:GamOK Try.prog G92):Holds Try.prog 92 ⟨ps92,rs92,false,runF TT G92 an92 Try.f92 c92 ps92 rs92⟩:=holds_of tt_ok hg mixed Try.func92 (by kernel_rfl) (by rfl) (by decide +kernel)
noncomputable def at92:Nat→Pt→List Nat→St→Option R92:=atF TT G92 an92 Try.f92 c92 _ _
def sh92_L4 (x0:List Int) (x1:List Int) (x2:Int):St:=(St.mk ((AV.one (SV.con (⟨3,Ty.int Go.IntKind.i64,x0⟩:Rw))) :: ((AV.one (SV.con (⟨3,Ty.int Go.IntKind.i64,x1⟩:Rw))) :: (AV.undef :: (AV.undef :: (AV.undef :: ((AV.one (SV.int (Go.IntKind.i64) x2)) :: (AV.undef :: (AV.undef :: (AV.undef :: (AV.undef :: (AV.undef :: (AV.undef :: (AV.undef :: (AV.undef :: (AV.undef :: (AV.undef :: (AV.undef :: (AV.undef :: (AV.undef :: (AV.undef :: (AV.undef :: (AV.undef :: (AV.undef :: (AV.undef :: (AV.undef :: (AV.undef :: [])))))))))))))))))))))))))) [])
noncomputable def st92_top (n:Nat) (lL4:(List Int)→(List Int)→Int→Option R92) (a:List Int) (b:List Int):Option R92 :=
 cond (!decide ((↑a.length:Int)=(↑b.length:Int))) (some ((false,()),())) (lL4 (a) (b) ((0:Int)))
noncomputable def st92_L4 (n:Nat) (lL4:(List Int)→(List Int)→Int→Option R92) (x0:List Int) (x1:List Int) (x2:Int):Option R92 :=
 cond (decide (x2 < (↑x0.length:Int))) (cond (decide ((0:Int)≤x2)) (cond (decide (x2 < (↑x0.length:Int))) (cond (decide ((0:Int)≤x2)) (cond (decide (x2 < (↑x1.length:Int))) (cond (!decide (x0.getD x2.toNat (0:Int)=x1.getD x2.toNat (0:Int))) (some ((false,()),())) (lL4 (x0) (x1) (Go.IntKind.i64.wrap (x2 + (1:Int))))) (none)) (none)) (none)) (none)) (some ((true,()),()))
theorem e92_top (n:Nat) (a:List Int) (b:List Int):runF TT G92 an92 Try.f92 c92 ps92 rs92 n (a,b,())=st92_top n (fun x0 x1 x2=>at92 n (.head 4) [n] (sh92_L4 x0 x1 x2)) a b:=by kernel_rfl
theorem e92_L4_0 (n:Nat) (x0:List Int) (x1:List Int) (x2:Int):at92 n (.head 4) [0] (sh92_L4 x0 x1 x2)=none:=by kernel_rfl
theorem e92_L4 (n:Nat) (m4:Nat) (x0:List Int) (x1:List Int) (x2:Int):at92 n (.head 4) [m4 + 1] (sh92_L4 x0 x1 x2)=st92_L4 n (fun x0 x1 x2=>at92 n (.head 4) [m4] (sh92_L4 x0 x1 x2)) x0 x1 x2:=by kernel_rfl
noncomputable def p92_L4 (n:Nat):Nat→(List Int)→(List Int)→Int→Option R92
 | 0,_,_,_=>none
 | m + 1,x0,x1,x2=>st92_L4 n (p92_L4 n m) x0 x1 x2
noncomputable def p92 (n:Nat) (a:List Int) (b:List Int):Option R92:=st92_top n (p92_L4 n n) a b
theorem t92_L4 (n:Nat):∀ (m4:Nat) (x0:List Int) (x1:List Int) (x2:Int),at92 n (.head 4) [m4] (sh92_L4 x0 x1 x2)=p92_L4 n m4 x0 x1 x2:=by
 intro m
 induction m with
 | zero=>intros; rw [e92_L4_0]; rfl
 | succ m ih =>
  intros
  rw [e92_L4]
  try simp only [ih]
  rfl
theorem F92_eq (n:Nat) (a:List Int) (b:List Int):runF TT G92 an92 Try.f92 c92 ps92 rs92 n (a,b,())=p92 n a b:=by
 rw [e92_top]
 simp only [t92_L4]
 try rfl
noncomputable def q92 (n:Nat) (x:argsD ps92):Option R92:=p92 n x.1 x.2.1
noncomputable def Sm92:Sm:=⟨ps92,rs92,false,q92⟩
theorem holds92 (hg:GamOK Try.prog G92):Holds Try.prog 92 Sm92:=by
 have:=h0_92 hg
 have e:(runF TT G92 an92 Try.f92 c92 ps92 rs92)=q92:=by
  funext n x
  exact F92_eq n x.1 x.2.1
 rw [e] at this
 exact this
theorem gam92:GamOK Try.prog G92:=fun _ _ h=>by cases h
theorem hh92:Holds Try.prog 92 Sm92:=holds92 gam92
end Go.Proofs.Ytbjgiioppmkpiaa.Rx.S

namespace Go.Proofs.Ytbjgiioppmkpiaa.Rx.S
open Go Go.RowKit Go.Proofs
set_option maxRecDepth 100000
noncomputable def c35:Code:=(Try.f35.body.getD .skip)
def an35:An:=⟨fun _=>⟨[],[]⟩,fun _ _=>none⟩
abbrev ps35:List PK:=[.val tCr true,.val tCr true]
abbrev rs35:List RK:=[.val .bool false]
abbrev R35:=retsD rs35 × outsD ps35
noncomputable def G35:Gam:=fun f=>match f with | 92=>some Sm92 | _=>none
theorem h0_35 (hg:GamOK Try.prog G35):Holds Try.prog 35 ⟨ps35,rs35,false,runF TT G35 an35 Try.f35 c35 ps35 rs35⟩:=holds_of tt_ok hg mixed Try.func35 (by kernel_rfl) (by rfl) (by decide +kernel)
noncomputable def st35_top (n:Nat) (a:Int × Int × List Int) (b:Int × Int × List Int):Option R35 :=
 cond (!decide (a.1=b.1)) (some ((false,()),())) (cond (!decide (a.2.1=b.2.1)) (some ((false,()),())) ((q92 n (a.2.2,b.2.2,())).bind fun r0=>cond (!r0.1.1) (some ((false,()),())) (some ((true,()),()))))
theorem e35_top (n:Nat) (a:Int × Int × List Int) (b:Int × Int × List Int):runF TT G35 an35 Try.f35 c35 ps35 rs35 n (a,b,())=st35_top n a b:=by kernel_rfl
noncomputable def p35 (n:Nat) (a:Int × Int × List Int) (b:Int × Int × List Int):Option R35:=st35_top n a b
theorem F35_eq (n:Nat) (a:Int × Int × List Int) (b:Int × Int × List Int):runF TT G35 an35 Try.f35 c35 ps35 rs35 n (a,b,())=p35 n a b:=by
 rw [e35_top]
 skip
 try rfl
noncomputable def q35 (n:Nat) (x:argsD ps35):Option R35:=p35 n x.1 x.2.1
noncomputable def Sm35:Sm:=⟨ps35,rs35,false,q35⟩
theorem holds35 (hg:GamOK Try.prog G35):Holds Try.prog 35 Sm35:=by
 have:=h0_35 hg
 have e:(runF TT G35 an35 Try.f35 c35 ps35 rs35)=q35:=by
  funext n x
  exact F35_eq n x.1 x.2.1
 rw [e] at this
 exact this
theorem gam35:GamOK Try.prog G35:=by
 intro f s h
 unfold G35 at h
 split at h
 ·injection h with h; subst h; exact ⟨⟨Try.f92,c92,Try.func92,by kernel_rfl,by decide +kernel⟩,hh92⟩
 ·cases h
theorem hh35:Holds Try.prog 35 Sm35:=holds35 gam35
end Go.Proofs.Ytbjgiioppmkpiaa.Rx.S

namespace Go.Proofs.Ytbjgiioppmkpiaa.Rx.S
open Go Go.RowKit Go.Proofs
set_option maxRecDepth 100000
noncomputable def c96:Code:=(Try.f96.body.getD .skip)
def an96:An:=⟨fun r=>match r with | 5=>⟨[0,1,5],[]⟩ | _=>⟨[],[]⟩,fun _ _=>none⟩
abbrev ps96:List PK:=[.val tLf false,.val i64 false]
abbrev rs96:List RK:=[.val i64 false]
abbrev R96:=retsD rs96 × outsD ps96
noncomputable def G96:Gam:=fun f=>match f with | 133=>some Sm133 | _=>none
theorem h0_96 (hg:GamOK Try.prog G96):Holds Try.prog 96 ⟨ps96,rs96,false,runF TT G96 an96 Try.f96 c96 ps96 rs96⟩:=holds_of tt_ok hg mixed Try.func96 (by kernel_rfl) (by rfl) (by decide +kernel)
noncomputable def at96:Nat→Pt→List Nat→St→Option R96:=atF TT G96 an96 Try.f96 c96 _ _
def sh96_L5 (x0:List NT) (x1:Int) (x2:Int):St:=(St.mk ((AV.one (SV.con (⟨161,(Ty.int Go.IntKind.i64).pair ((Ty.int Go.IntKind.i64).pair ((Ty.int Go.IntKind.i64).pair ((Ty.int Go.IntKind.i64).pair ((Ty.int Go.IntKind.i64).pair ((Ty.int Go.IntKind.i64).pair (Ty.bool.pair (Ty.str.pair (Ty.row (nat_lit 178) (Ty.str.pair (Ty.int Go.IntKind.i64)))))))))),x0⟩:Rw))) :: ((AV.one (SV.int (Go.IntKind.i64) x1)) :: (AV.undef :: (AV.undef :: (AV.undef :: ((AV.one (SV.int (Go.IntKind.i64) x2)) :: (AV.undef :: (AV.undef :: (AV.undef :: (AV.undef :: (AV.undef :: (AV.undef :: (AV.undef :: (AV.undef :: (AV.undef :: (AV.undef :: (AV.undef :: (AV.undef :: (AV.undef :: (AV.undef :: (AV.undef :: (AV.undef :: (AV.undef :: (AV.undef :: (AV.undef :: (AV.undef :: (AV.undef :: []))))))))))))))))))))))))))) [])
noncomputable def st96_top (n:Nat) (lL5:(List NT)→Int→Int→Option R96) (a:List NT) (b:Int):Option R96 :=
 cond (decide (Go.IntKind.i64.wrap (b - (↑a.length:Int)) < (0:Int))) (some (((-1:Int),()),())) (lL5 (a) (Go.IntKind.i64.wrap (b - (↑a.length:Int))) ((0:Int)))
noncomputable def st96_L5 (n:Nat) (lL5:(List NT)→Int→Int→Option R96) (x0:List NT) (x1:Int) (x2:Int):Option R96 :=
 cond (decide (x2 < (↑x0.length:Int))) (cond (decide ((0:Int)≤x2)) (cond (decide (x2 < (↑x0.length:Int))) ((q133 n (((x0.getD x2.toNat ZN).1,(x0.getD x2.toNat ZN).2.1,(x0.getD x2.toNat ZN).2.2.1,(x0.getD x2.toNat ZN).2.2.2.1,(x0.getD x2.toNat ZN).2.2.2.2.1,(x0.getD x2.toNat ZN).2.2.2.2.2.1,(x0.getD x2.toNat ZN).2.2.2.2.2.2.1,(x0.getD x2.toNat ZN).2.2.2.2.2.2.2.1,(x0.getD x2.toNat ZN).2.2.2.2.2.2.2.2),x1,())).bind fun r1=>cond (decide (r1.1.1 < (0:Int))) (some (((-1:Int),()),())) (lL5 (x0) (r1.1.1) (Go.IntKind.i64.wrap (x2 + (1:Int))))) (none)) (none)) (some ((x1,()),()))
theorem e96_top (n:Nat) (a:List NT) (b:Int):runF TT G96 an96 Try.f96 c96 ps96 rs96 n (a,b,())=st96_top n (fun x0 x1 x2=>at96 n (.head 5) [n] (sh96_L5 x0 x1 x2)) a b:=by kernel_rfl
theorem e96_L5_0 (n:Nat) (x0:List NT) (x1:Int) (x2:Int):at96 n (.head 5) [0] (sh96_L5 x0 x1 x2)=none:=by kernel_rfl
theorem e96_L5 (n:Nat) (m5:Nat) (x0:List NT) (x1:Int) (x2:Int):at96 n (.head 5) [m5 + 1] (sh96_L5 x0 x1 x2)=st96_L5 n (fun x0 x1 x2=>at96 n (.head 5) [m5] (sh96_L5 x0 x1 x2)) x0 x1 x2:=by kernel_rfl
noncomputable def p96_L5 (n:Nat):Nat→(List NT)→Int→Int→Option R96
 | 0,_,_,_=>none
 | m + 1,x0,x1,x2=>st96_L5 n (p96_L5 n m) x0 x1 x2
noncomputable def p96 (n:Nat) (a:List NT) (b:Int):Option R96:=st96_top n (p96_L5 n n) a b
theorem t96_L5 (n:Nat):∀ (m5:Nat) (x0:List NT) (x1:Int) (x2:Int),at96 n (.head 5) [m5] (sh96_L5 x0 x1 x2)=p96_L5 n m5 x0 x1 x2:=by
 intro m
 induction m with
 | zero=>intros; rw [e96_L5_0]; rfl
 | succ m ih =>
  intros
  rw [e96_L5]
  try simp only [ih]
  rfl
theorem F96_eq (n:Nat) (a:List NT) (b:Int):runF TT G96 an96 Try.f96 c96 ps96 rs96 n (a,b,())=p96 n a b:=by
 rw [e96_top]
 simp only [t96_L5]
 try rfl
noncomputable def q96 (n:Nat) (x:argsD ps96):Option R96:=p96 n x.1 x.2.1
noncomputable def Sm96:Sm:=⟨ps96,rs96,false,q96⟩
theorem holds96 (hg:GamOK Try.prog G96):Holds Try.prog 96 Sm96:=by
 have:=h0_96 hg
 have e:(runF TT G96 an96 Try.f96 c96 ps96 rs96)=q96:=by
  funext n x
  exact F96_eq n x.1 x.2.1
 rw [e] at this
 exact this
theorem gam96:GamOK Try.prog G96:=by
 intro f s h
 unfold G96 at h
 split at h
 ·injection h with h; subst h; exact ⟨⟨Try.f133,c133,Try.func133,by kernel_rfl,by decide +kernel⟩,hh133⟩
 ·cases h
theorem hh96:Holds Try.prog 96 Sm96:=holds96 gam96
end Go.Proofs.Ytbjgiioppmkpiaa.Rx.S

namespace Go.Proofs.Ytbjgiioppmkpiaa.Rx.S
open Go Go.RowKit Go.Proofs
set_option maxRecDepth 100000
noncomputable def c39:Code:=(Try.f39.body.getD .skip)
def an39:An:=⟨fun _=>⟨[],[]⟩,fun _ _=>none⟩
abbrev ps39:List PK:=[.val tLf true,.val i64 false]
abbrev rs39:List RK:=[.val i64 false]
abbrev R39:=retsD rs39 × outsD ps39
noncomputable def G39:Gam:=fun f=>match f with | 96=>some Sm96 | _=>none
theorem h0_39 (hg:GamOK Try.prog G39):Holds Try.prog 39 ⟨ps39,rs39,false,runF TT G39 an39 Try.f39 c39 ps39 rs39⟩:=holds_of tt_ok hg mixed Try.func39 (by kernel_rfl) (by rfl) (by decide +kernel)
noncomputable def st39_top (n:Nat) (a:List NT) (b:Int):Option R39 :=
 (q96 n (a,b,())).bind fun r0=>cond (decide (r0.1.1 < (0:Int))) (some (((-1:Int),()),())) (some ((r0.1.1,()),()))
theorem e39_top (n:Nat) (a:List NT) (b:Int):runF TT G39 an39 Try.f39 c39 ps39 rs39 n (a,b,())=st39_top n a b:=by kernel_rfl
noncomputable def p39 (n:Nat) (a:List NT) (b:Int):Option R39:=st39_top n a b
theorem F39_eq (n:Nat) (a:List NT) (b:Int):runF TT G39 an39 Try.f39 c39 ps39 rs39 n (a,b,())=p39 n a b:=by
 rw [e39_top]
 skip
 try rfl
noncomputable def q39 (n:Nat) (x:argsD ps39):Option R39:=p39 n x.1 x.2.1
noncomputable def Sm39:Sm:=⟨ps39,rs39,false,q39⟩
theorem holds39 (hg:GamOK Try.prog G39):Holds Try.prog 39 Sm39:=by
 have:=h0_39 hg
 have e:(runF TT G39 an39 Try.f39 c39 ps39 rs39)=q39:=by
  funext n x
  exact F39_eq n x.1 x.2.1
 rw [e] at this
 exact this
theorem gam39:GamOK Try.prog G39:=by
 intro f s h
 unfold G39 at h
 split at h
 ·injection h with h; subst h; exact ⟨⟨Try.f96,c96,Try.func96,by kernel_rfl,by decide +kernel⟩,hh96⟩
 ·cases h
theorem hh39:Holds Try.prog 39 Sm39:=holds39 gam39
end Go.Proofs.Ytbjgiioppmkpiaa.Rx.S

namespace Go.Proofs.Ytbjgiioppmkpiaa.Rx.S
open Go Go.RowKit Go.Proofs
set_option maxRecDepth 100000
noncomputable def c97:Code:=(Try.f97.body.getD .skip)
def an97:An:=⟨fun r=>match r with | 3=>⟨[0,3,4],[]⟩ | _=>⟨[],[]⟩,fun _ _=>none⟩
abbrev ps97:List PK:=[.val tLf false]
abbrev rs97:List RK:=[.own tFs false]
abbrev R97:=retsD rs97 × outsD ps97
noncomputable def G97:Gam:=fun f=>match f with | 134=>some Sm134 | _=>none
theorem h0_97 (hg:GamOK Try.prog G97):Holds Try.prog 97 ⟨ps97,rs97,false,runF TT G97 an97 Try.f97 c97 ps97 rs97⟩:=holds_of tt_ok hg mixed Try.func97 (by kernel_rfl) (by rfl) (by decide +kernel)
noncomputable def at97:Nat→Pt→List Nat→St→Option R97:=atF TT G97 an97 Try.f97 c97 _ _
def sh97_L3 (x0:List NT) (x1:Int) (x2:List NT):St:=(St.mk ((AV.one (SV.con (⟨161,(Ty.int Go.IntKind.i64).pair ((Ty.int Go.IntKind.i64).pair ((Ty.int Go.IntKind.i64).pair ((Ty.int Go.IntKind.i64).pair ((Ty.int Go.IntKind.i64).pair ((Ty.int Go.IntKind.i64).pair (Ty.bool.pair (Ty.str.pair (Ty.row (nat_lit 178) (Ty.str.pair (Ty.int Go.IntKind.i64)))))))))),x0⟩:Rw))) :: (AV.undef :: (AV.undef :: ((AV.one (SV.ref 1000000 0 [] Option.none)) :: ((AV.one (SV.int (Go.IntKind.i64) x1)) :: (AV.undef :: (AV.undef :: (AV.undef :: (AV.undef :: (AV.undef :: (AV.undef :: (AV.undef :: (AV.undef :: (AV.undef :: (AV.undef :: (AV.undef :: (AV.undef :: (AV.undef :: (AV.undef :: (AV.undef :: (AV.undef :: (AV.undef :: (AV.undef :: []))))))))))))))))))))))) ((1000000,(Ent.row (⟨37,(Ty.int Go.IntKind.i64).pair ((Ty.int Go.IntKind.i64).pair ((Ty.int Go.IntKind.i64).pair ((Ty.int Go.IntKind.i64).pair ((Ty.int Go.IntKind.i64).pair ((Ty.int Go.IntKind.i64).pair (Ty.bool.pair (Ty.str.pair (Ty.row (nat_lit 100) (Ty.str.pair (Ty.int Go.IntKind.i64)))))))))),x2⟩:Rw) 0 Option.none)) :: []))
noncomputable def st97_top (n:Nat) (lL3:(List NT)→Int→(List NT)→Option R97) (a:List NT):Option R97 :=
 cond (decide ((↑a.length:Int) * (↑(96:Nat):Int)≤(140737488355328:Int))) (lL3 (a) ((0:Int)) (List.replicate (↑a.length:Int).toNat ZN)) (none)
noncomputable def st97_L3 (n:Nat) (lL3:(List NT)→Int→(List NT)→Option R97) (x0:List NT) (x1:Int) (x2:List NT):Option R97 :=
 cond (decide (x1 < (↑x0.length:Int))) (cond (decide ((0:Int)≤x1)) (cond (decide (x1 < (↑x0.length:Int))) ((q134 n (((x0.getD x1.toNat ZN).1,(x0.getD x1.toNat ZN).2.1,(x0.getD x1.toNat ZN).2.2.1,(x0.getD x1.toNat ZN).2.2.2.1,(x0.getD x1.toNat ZN).2.2.2.2.1,(x0.getD x1.toNat ZN).2.2.2.2.2.1,(x0.getD x1.toNat ZN).2.2.2.2.2.2.1,(x0.getD x1.toNat ZN).2.2.2.2.2.2.2.1,(x0.getD x1.toNat ZN).2.2.2.2.2.2.2.2),())).bind fun r1=>cond (decide ((0:Int)≤x1)) (cond (decide (x1 < (↑x2.length:Int))) (lL3 (x0) (Go.IntKind.i64.wrap (x1 + (1:Int))) (x2.set x1.toNat (r1.1.1.1,r1.1.1.2.1,r1.1.1.2.2.1,r1.1.1.2.2.2.1,r1.1.1.2.2.2.2.1,r1.1.1.2.2.2.2.2.1,r1.1.1.2.2.2.2.2.2.1,r1.1.1.2.2.2.2.2.2.2.1,r1.1.1.2.2.2.2.2.2.2.2))) (none)) (none)) (none)) (none)) (some ((x2,()),()))
theorem e97_top (n:Nat) (a:List NT):runF TT G97 an97 Try.f97 c97 ps97 rs97 n (a,())=st97_top n (fun x0 x1 x2=>at97 n (.head 3) [n] (sh97_L3 x0 x1 x2)) a:=by kernel_rfl
theorem e97_L3_0 (n:Nat) (x0:List NT) (x1:Int) (x2:List NT):at97 n (.head 3) [0] (sh97_L3 x0 x1 x2)=none:=by kernel_rfl
theorem e97_L3 (n:Nat) (m3:Nat) (x0:List NT) (x1:Int) (x2:List NT):at97 n (.head 3) [m3 + 1] (sh97_L3 x0 x1 x2)=st97_L3 n (fun x0 x1 x2=>at97 n (.head 3) [m3] (sh97_L3 x0 x1 x2)) x0 x1 x2:=by kernel_rfl
noncomputable def p97_L3 (n:Nat):Nat→(List NT)→Int→(List NT)→Option R97
 | 0,_,_,_=>none
 | m + 1,x0,x1,x2=>st97_L3 n (p97_L3 n m) x0 x1 x2
noncomputable def p97 (n:Nat) (a:List NT):Option R97:=st97_top n (p97_L3 n n) a
theorem t97_L3 (n:Nat):∀ (m3:Nat) (x0:List NT) (x1:Int) (x2:List NT),at97 n (.head 3) [m3] (sh97_L3 x0 x1 x2)=p97_L3 n m3 x0 x1 x2:=by
 intro m
 induction m with
 | zero=>intros; rw [e97_L3_0]; rfl
 | succ m ih =>
  intros
  rw [e97_L3]
  try simp only [ih]
  rfl
theorem F97_eq (n:Nat) (a:List NT):runF TT G97 an97 Try.f97 c97 ps97 rs97 n (a,())=p97 n a:=by
 rw [e97_top]
 simp only [t97_L3]
 try rfl
noncomputable def q97 (n:Nat) (x:argsD ps97):Option R97:=p97 n x.1
noncomputable def Sm97:Sm:=⟨ps97,rs97,false,q97⟩
theorem holds97 (hg:GamOK Try.prog G97):Holds Try.prog 97 Sm97:=by
 have:=h0_97 hg
 have e:(runF TT G97 an97 Try.f97 c97 ps97 rs97)=q97:=by
  funext n x
  exact F97_eq n x.1
 rw [e] at this
 exact this
theorem gam97:GamOK Try.prog G97:=by
 intro f s h
 unfold G97 at h
 split at h
 ·injection h with h; subst h; exact ⟨⟨Try.f134,c134,Try.func134,by kernel_rfl,by decide +kernel⟩,hh134⟩
 ·cases h
theorem hh97:Holds Try.prog 97 Sm97:=holds97 gam97
end Go.Proofs.Ytbjgiioppmkpiaa.Rx.S

namespace Go.Proofs.Ytbjgiioppmkpiaa.Rx.S
open Go Go.RowKit Go.Proofs
set_option maxRecDepth 100000
noncomputable def c40:Code:=(Try.f40.body.getD .skip)
def an40:An:=⟨fun _=>⟨[],[]⟩,fun _ _=>none⟩
abbrev ps40:List PK:=[.val tLf true]
abbrev rs40:List RK:=[.own tFs true]
abbrev R40:=retsD rs40 × outsD ps40
noncomputable def G40:Gam:=fun f=>match f with | 97=>some Sm97 | _=>none
theorem h0_40 (hg:GamOK Try.prog G40):Holds Try.prog 40 ⟨ps40,rs40,false,runF TT G40 an40 Try.f40 c40 ps40 rs40⟩:=holds_of tt_ok hg mixed Try.func40 (by kernel_rfl) (by rfl) (by decide +kernel)
noncomputable def st40_top (n:Nat) (a:List NT):Option R40 :=
 (q97 n (a,())).bind fun r0=>some ((r0.1.1,()),())
theorem e40_top (n:Nat) (a:List NT):runF TT G40 an40 Try.f40 c40 ps40 rs40 n (a,())=st40_top n a:=by kernel_rfl
noncomputable def p40 (n:Nat) (a:List NT):Option R40:=st40_top n a
theorem F40_eq (n:Nat) (a:List NT):runF TT G40 an40 Try.f40 c40 ps40 rs40 n (a,())=p40 n a:=by
 rw [e40_top]
 skip
 try rfl
noncomputable def q40 (n:Nat) (x:argsD ps40):Option R40:=p40 n x.1
noncomputable def Sm40:Sm:=⟨ps40,rs40,false,q40⟩
theorem holds40 (hg:GamOK Try.prog G40):Holds Try.prog 40 Sm40:=by
 have:=h0_40 hg
 have e:(runF TT G40 an40 Try.f40 c40 ps40 rs40)=q40:=by
  funext n x
  exact F40_eq n x.1
 rw [e] at this
 exact this
theorem gam40:GamOK Try.prog G40:=by
 intro f s h
 unfold G40 at h
 split at h
 ·injection h with h; subst h; exact ⟨⟨Try.f97,c97,Try.func97,by kernel_rfl,by decide +kernel⟩,hh97⟩
 ·cases h
theorem hh40:Holds Try.prog 40 Sm40:=holds40 gam40
end Go.Proofs.Ytbjgiioppmkpiaa.Rx.S

namespace Go.Proofs.Ytbjgiioppmkpiaa.Rx.S
open Go Go.RowKit Go.Proofs
set_option maxRecDepth 100000
noncomputable def c98:Code:=(Try.f98.body.getD .skip)
def an98:An:=⟨fun r=>match r with | 4=>⟨[0,1,5],[]⟩ | _=>⟨[],[]⟩,fun _ _=>none⟩
abbrev ps98:List PK:=[.val tFs false,.val tFs false]
abbrev rs98:List RK:=[.val .bool false]
abbrev R98:=retsD rs98 × outsD ps98
noncomputable def G98:Gam:=fun f=>match f with | 135=>some Sm135 | _=>none
theorem h0_98 (hg:GamOK Try.prog G98):Holds Try.prog 98 ⟨ps98,rs98,false,runF TT G98 an98 Try.f98 c98 ps98 rs98⟩:=holds_of tt_ok hg mixed Try.func98 (by kernel_rfl) (by rfl) (by decide +kernel)
noncomputable def at98:Nat→Pt→List Nat→St→Option R98:=atF TT G98 an98 Try.f98 c98 _ _
def sh98_L4 (x0:List NT) (x1:List NT) (x2:Int):St:=(St.mk ((AV.one (SV.con (⟨37,(Ty.int Go.IntKind.i64).pair ((Ty.int Go.IntKind.i64).pair ((Ty.int Go.IntKind.i64).pair ((Ty.int Go.IntKind.i64).pair ((Ty.int Go.IntKind.i64).pair ((Ty.int Go.IntKind.i64).pair (Ty.bool.pair (Ty.str.pair (Ty.row (nat_lit 100) (Ty.str.pair (Ty.int Go.IntKind.i64)))))))))),x0⟩:Rw))) :: ((AV.one (SV.con (⟨37,(Ty.int Go.IntKind.i64).pair ((Ty.int Go.IntKind.i64).pair ((Ty.int Go.IntKind.i64).pair ((Ty.int Go.IntKind.i64).pair ((Ty.int Go.IntKind.i64).pair ((Ty.int Go.IntKind.i64).pair (Ty.bool.pair (Ty.str.pair (Ty.row (nat_lit 100) (Ty.str.pair (Ty.int Go.IntKind.i64)))))))))),x1⟩:Rw))) :: (AV.undef :: (AV.undef :: (AV.undef :: ((AV.one (SV.int (Go.IntKind.i64) x2)) :: (AV.undef :: (AV.undef :: (AV.undef :: (AV.undef :: (AV.undef :: (AV.undef :: (AV.undef :: (AV.undef :: (AV.undef :: (AV.undef :: (AV.undef :: (AV.undef :: (AV.undef :: (AV.undef :: (AV.undef :: (AV.undef :: (AV.undef :: (AV.undef :: (AV.undef :: (AV.undef :: (AV.undef :: []))))))))))))))))))))))))))) [])
noncomputable def st98_top (n:Nat) (lL4:(List NT)→(List NT)→Int→Option R98) (a:List NT) (b:List NT):Option R98 :=
 cond (!decide ((↑a.length:Int)=(↑b.length:Int))) (some ((false,()),())) (lL4 (a) (b) ((0:Int)))
noncomputable def st98_L4 (n:Nat) (lL4:(List NT)→(List NT)→Int→Option R98) (x0:List NT) (x1:List NT) (x2:Int):Option R98 :=
 cond (decide (x2 < (↑x0.length:Int))) (cond (decide ((0:Int)≤x2)) (cond (decide (x2 < (↑x0.length:Int))) (cond (decide ((0:Int)≤x2)) (cond (decide (x2 < (↑x1.length:Int))) ((q135 n (((x0.getD x2.toNat ZN).1,(x0.getD x2.toNat ZN).2.1,(x0.getD x2.toNat ZN).2.2.1,(x0.getD x2.toNat ZN).2.2.2.1,(x0.getD x2.toNat ZN).2.2.2.2.1,(x0.getD x2.toNat ZN).2.2.2.2.2.1,(x0.getD x2.toNat ZN).2.2.2.2.2.2.1,(x0.getD x2.toNat ZN).2.2.2.2.2.2.2.1,(x0.getD x2.toNat ZN).2.2.2.2.2.2.2.2),((x1.getD x2.toNat ZN).1,(x1.getD x2.toNat ZN).2.1,(x1.getD x2.toNat ZN).2.2.1,(x1.getD x2.toNat ZN).2.2.2.1,(x1.getD x2.toNat ZN).2.2.2.2.1,(x1.getD x2.toNat ZN).2.2.2.2.2.1,(x1.getD x2.toNat ZN).2.2.2.2.2.2.1,(x1.getD x2.toNat ZN).2.2.2.2.2.2.2.1,(x1.getD x2.toNat ZN).2.2.2.2.2.2.2.2),())).bind fun r1=>cond (!r1.1.1) (some ((false,()),())) (lL4 (x0) (x1) (Go.IntKind.i64.wrap (x2 + (1:Int))))) (none)) (none)) (none)) (none)) (some ((true,()),()))
theorem e98_top (n:Nat) (a:List NT) (b:List NT):runF TT G98 an98 Try.f98 c98 ps98 rs98 n (a,b,())=st98_top n (fun x0 x1 x2=>at98 n (.head 4) [n] (sh98_L4 x0 x1 x2)) a b:=by kernel_rfl
theorem e98_L4_0 (n:Nat) (x0:List NT) (x1:List NT) (x2:Int):at98 n (.head 4) [0] (sh98_L4 x0 x1 x2)=none:=by kernel_rfl
theorem e98_L4 (n:Nat) (m4:Nat) (x0:List NT) (x1:List NT) (x2:Int):at98 n (.head 4) [m4 + 1] (sh98_L4 x0 x1 x2)=st98_L4 n (fun x0 x1 x2=>at98 n (.head 4) [m4] (sh98_L4 x0 x1 x2)) x0 x1 x2:=by kernel_rfl
noncomputable def p98_L4 (n:Nat):Nat→(List NT)→(List NT)→Int→Option R98
 | 0,_,_,_=>none
 | m + 1,x0,x1,x2=>st98_L4 n (p98_L4 n m) x0 x1 x2
noncomputable def p98 (n:Nat) (a:List NT) (b:List NT):Option R98:=st98_top n (p98_L4 n n) a b
theorem t98_L4 (n:Nat):∀ (m4:Nat) (x0:List NT) (x1:List NT) (x2:Int),at98 n (.head 4) [m4] (sh98_L4 x0 x1 x2)=p98_L4 n m4 x0 x1 x2:=by
 intro m
 induction m with
 | zero=>intros; rw [e98_L4_0]; rfl
 | succ m ih =>
  intros
  rw [e98_L4]
  try simp only [ih]
  rfl
theorem F98_eq (n:Nat) (a:List NT) (b:List NT):runF TT G98 an98 Try.f98 c98 ps98 rs98 n (a,b,())=p98 n a b:=by
 rw [e98_top]
 simp only [t98_L4]
 try rfl
noncomputable def q98 (n:Nat) (x:argsD ps98):Option R98:=p98 n x.1 x.2.1
noncomputable def Sm98:Sm:=⟨ps98,rs98,false,q98⟩
theorem holds98 (hg:GamOK Try.prog G98):Holds Try.prog 98 Sm98:=by
 have:=h0_98 hg
 have e:(runF TT G98 an98 Try.f98 c98 ps98 rs98)=q98:=by
  funext n x
  exact F98_eq n x.1 x.2.1
 rw [e] at this
 exact this
theorem gam98:GamOK Try.prog G98:=by
 intro f s h
 unfold G98 at h
 split at h
 ·injection h with h; subst h; exact ⟨⟨Try.f135,c135,Try.func135,by kernel_rfl,by decide +kernel⟩,hh135⟩
 ·cases h
theorem hh98:Holds Try.prog 98 Sm98:=holds98 gam98
end Go.Proofs.Ytbjgiioppmkpiaa.Rx.S

namespace Go.Proofs.Ytbjgiioppmkpiaa.Rx.S
open Go Go.RowKit Go.Proofs
set_option maxRecDepth 100000
noncomputable def c41:Code:=(Try.f41.body.getD .skip)
def an41:An:=⟨fun _=>⟨[],[]⟩,fun _ _=>none⟩
abbrev ps41:List PK:=[.val tFs true,.val tFs true]
abbrev rs41:List RK:=[.val .bool false]
abbrev R41:=retsD rs41 × outsD ps41
noncomputable def G41:Gam:=fun f=>match f with | 98=>some Sm98 | _=>none
theorem h0_41 (hg:GamOK Try.prog G41):Holds Try.prog 41 ⟨ps41,rs41,false,runF TT G41 an41 Try.f41 c41 ps41 rs41⟩:=holds_of tt_ok hg mixed Try.func41 (by kernel_rfl) (by rfl) (by decide +kernel)
noncomputable def st41_top (n:Nat) (a:List NT) (b:List NT):Option R41 :=
 (q98 n (a,b,())).bind fun r0=>cond (!r0.1.1) (some ((false,()),())) (some ((true,()),()))
theorem e41_top (n:Nat) (a:List NT) (b:List NT):runF TT G41 an41 Try.f41 c41 ps41 rs41 n (a,b,())=st41_top n a b:=by kernel_rfl
noncomputable def p41 (n:Nat) (a:List NT) (b:List NT):Option R41:=st41_top n a b
theorem F41_eq (n:Nat) (a:List NT) (b:List NT):runF TT G41 an41 Try.f41 c41 ps41 rs41 n (a,b,())=p41 n a b:=by
 rw [e41_top]
 skip
 try rfl
noncomputable def q41 (n:Nat) (x:argsD ps41):Option R41:=p41 n x.1 x.2.1
noncomputable def Sm41:Sm:=⟨ps41,rs41,false,q41⟩
theorem holds41 (hg:GamOK Try.prog G41):Holds Try.prog 41 Sm41:=by
 have:=h0_41 hg
 have e:(runF TT G41 an41 Try.f41 c41 ps41 rs41)=q41:=by
  funext n x
  exact F41_eq n x.1 x.2.1
 rw [e] at this
 exact this
theorem gam41:GamOK Try.prog G41:=by
 intro f s h
 unfold G41 at h
 split at h
 ·injection h with h; subst h; exact ⟨⟨Try.f98,c98,Try.func98,by kernel_rfl,by decide +kernel⟩,hh98⟩
 ·cases h
theorem hh41:Holds Try.prog 41 Sm41:=holds41 gam41
end Go.Proofs.Ytbjgiioppmkpiaa.Rx.S

namespace Go.Proofs.Ytbjgiioppmkpiaa.Rx.S
open Go Go.RowKit Go.Proofs
set_option maxRecDepth 100000
noncomputable def c130:Code:=(Try.f130.body.getD .skip)
def an130:An:=⟨fun _=>⟨[],[]⟩,fun _ _=>none⟩
abbrev ps130:List PK:=[.val (tIn 100) true]
abbrev rs130:List RK:=[.val .bool false]
abbrev R130:=retsD rs130 × outsD ps130
noncomputable def G130:Gam:=fun _=>none
theorem h0_130 (hg:GamOK Try.prog G130):Holds Try.prog 130 ⟨ps130,rs130,false,runF TT G130 an130 Try.f130 c130 ps130 rs130⟩:=holds_of tt_ok hg mixed Try.func130 (by kernel_rfl) (by rfl) (by decide +kernel)
noncomputable def st130_top (n:Nat) (a:NT):Option R130 :=
 some ((decide ((0:Int) < a.2.2.2.2.2.1),()),())
theorem e130_top (n:Nat) (a:NT):runF TT G130 an130 Try.f130 c130 ps130 rs130 n (a,())=st130_top n a:=by kernel_rfl
noncomputable def p130 (n:Nat) (a:NT):Option R130:=st130_top n a
theorem F130_eq (n:Nat) (a:NT):runF TT G130 an130 Try.f130 c130 ps130 rs130 n (a,())=p130 n a:=by
 rw [e130_top]
 skip
 try rfl
noncomputable def q130 (n:Nat) (x:argsD ps130):Option R130:=p130 n x.1
noncomputable def Sm130:Sm:=⟨ps130,rs130,false,q130⟩
theorem holds130 (hg:GamOK Try.prog G130):Holds Try.prog 130 Sm130:=by
 have:=h0_130 hg
 have e:(runF TT G130 an130 Try.f130 c130 ps130 rs130)=q130:=by
  funext n x
  exact F130_eq n x.1
 rw [e] at this
 exact this
theorem gam130:GamOK Try.prog G130:=fun _ _ h=>by cases h
theorem hh130:Holds Try.prog 130 Sm130:=holds130 gam130
end Go.Proofs.Ytbjgiioppmkpiaa.Rx.S

namespace Go.Proofs.Ytbjgiioppmkpiaa.Rx.S
open Go Go.RowKit Go.Proofs
set_option maxRecDepth 100000
noncomputable def c9103:Code:=(Try.f103.body.getD .skip)
def an9103:An:=⟨fun r=>match r with | 2=>⟨[0,1,7,8],[]⟩ | _=>⟨[],[]⟩,fun _ _=>none⟩
abbrev ps9103:List PK:=[.val tFs false,.fn 130 []]
abbrev rs9103:List RK:=[.val i64 false]
abbrev R9103:=retsD rs9103 × outsD ps9103
noncomputable def G9103:Gam:=fun f=>match f with | 130=>some Sm130 | _=>none
theorem h0_9103 (hg:GamOK Try.prog G9103):Holds Try.prog 103 ⟨ps9103,rs9103,false,runF TT G9103 an9103 Try.f103 c9103 ps9103 rs9103⟩:=holds_of tt_ok hg mixed Try.func103 (by kernel_rfl) (by rfl) (by decide +kernel)
noncomputable def at9103:Nat→Pt→List Nat→St→Option R9103:=atF TT G9103 an9103 Try.f103 c9103 _ _
def sh9103_L2 (x0:List NT) (x1:Int) (x2:Int):St:=(St.mk ((AV.one (SV.con (⟨37,(Ty.int Go.IntKind.i64).pair ((Ty.int Go.IntKind.i64).pair ((Ty.int Go.IntKind.i64).pair ((Ty.int Go.IntKind.i64).pair ((Ty.int Go.IntKind.i64).pair ((Ty.int Go.IntKind.i64).pair (Ty.bool.pair (Ty.str.pair (Ty.row (nat_lit 100) (Ty.str.pair (Ty.int Go.IntKind.i64)))))))))),x0⟩:Rw))) :: ((AV.fn 130 []) :: (AV.undef :: (AV.undef :: (AV.undef :: (AV.undef :: (AV.undef :: ((AV.one (SV.int (Go.IntKind.i64) x1)) :: ((AV.one (SV.int (Go.IntKind.i64) x2)) :: (AV.undef :: (AV.undef :: (AV.undef :: (AV.undef :: (AV.undef :: (AV.undef :: (AV.undef :: (AV.undef :: (AV.undef :: (AV.undef :: []))))))))))))))))))) [])
noncomputable def st9103_top (n:Nat) (lL2:(List NT)→Int→Int→Option R9103) (a:List NT) (b:Unit):Option R9103 :=
 lL2 (a) ((↑a.length:Int)) ((0:Int))
noncomputable def st9103_L2 (n:Nat) (lL2:(List NT)→Int→Int→Option R9103) (x0:List NT) (x1:Int) (x2:Int):Option R9103 :=
 cond (decide (x2 < x1)) (cond (decide ((0:Int)≤x2)) (cond (decide (x2 < (↑x0.length:Int))) ((q130 n (((x0.getD x2.toNat ZN).1,(x0.getD x2.toNat ZN).2.1,(x0.getD x2.toNat ZN).2.2.1,(x0.getD x2.toNat ZN).2.2.2.1,(x0.getD x2.toNat ZN).2.2.2.2.1,(x0.getD x2.toNat ZN).2.2.2.2.2.1,(x0.getD x2.toNat ZN).2.2.2.2.2.2.1,(x0.getD x2.toNat ZN).2.2.2.2.2.2.2.1,(x0.getD x2.toNat ZN).2.2.2.2.2.2.2.2),())).bind fun r1=>cond (r1.1.1) (some ((x2,()),())) (lL2 (x0) (x1) (Go.IntKind.i64.wrap (x2 + (1:Int))))) (none)) (none)) (some (((-1:Int),()),()))
theorem e9103_top (n:Nat) (a:List NT) (b:Unit):runF TT G9103 an9103 Try.f103 c9103 ps9103 rs9103 n (a,b,())=st9103_top n (fun x0 x1 x2=>at9103 n (.head 2) [n] (sh9103_L2 x0 x1 x2)) a b:=by kernel_rfl
theorem e9103_L2_0 (n:Nat) (x0:List NT) (x1:Int) (x2:Int):at9103 n (.head 2) [0] (sh9103_L2 x0 x1 x2)=none:=by kernel_rfl
theorem e9103_L2 (n:Nat) (m2:Nat) (x0:List NT) (x1:Int) (x2:Int):at9103 n (.head 2) [m2 + 1] (sh9103_L2 x0 x1 x2)=st9103_L2 n (fun x0 x1 x2=>at9103 n (.head 2) [m2] (sh9103_L2 x0 x1 x2)) x0 x1 x2:=by kernel_rfl
noncomputable def p9103_L2 (n:Nat):Nat→(List NT)→Int→Int→Option R9103
 | 0,_,_,_=>none
 | m + 1,x0,x1,x2=>st9103_L2 n (p9103_L2 n m) x0 x1 x2
noncomputable def p9103 (n:Nat) (a:List NT) (b:Unit):Option R9103:=st9103_top n (p9103_L2 n n) a b
theorem t9103_L2 (n:Nat):∀ (m2:Nat) (x0:List NT) (x1:Int) (x2:Int),at9103 n (.head 2) [m2] (sh9103_L2 x0 x1 x2)=p9103_L2 n m2 x0 x1 x2:=by
 intro m
 induction m with
 | zero=>intros; rw [e9103_L2_0]; rfl
 | succ m ih =>
  intros
  rw [e9103_L2]
  try simp only [ih]
  rfl
theorem F9103_eq (n:Nat) (a:List NT) (b:Unit):runF TT G9103 an9103 Try.f103 c9103 ps9103 rs9103 n (a,b,())=p9103 n a b:=by
 rw [e9103_top]
 simp only [t9103_L2]
 try rfl
noncomputable def q9103 (n:Nat) (x:argsD ps9103):Option R9103:=p9103 n x.1 x.2.1
noncomputable def Sm9103:Sm:=⟨ps9103,rs9103,false,q9103⟩
theorem holds9103 (hg:GamOK Try.prog G9103):Holds Try.prog 103 Sm9103:=by
 have:=h0_9103 hg
 have e:(runF TT G9103 an9103 Try.f103 c9103 ps9103 rs9103)=q9103:=by
  funext n x
  exact F9103_eq n x.1 x.2.1
 rw [e] at this
 exact this
theorem gam9103:GamOK Try.prog G9103:=by
 intro f s h
 unfold G9103 at h
 split at h
 ·injection h with h; subst h; exact ⟨⟨Try.f130,c130,Try.func130,by kernel_rfl,by decide +kernel⟩,hh130⟩
 ·cases h
theorem hh9103:Holds Try.prog 103 Sm9103:=holds9103 gam9103
end Go.Proofs.Ytbjgiioppmkpiaa.Rx.S

namespace Go.Proofs.Ytbjgiioppmkpiaa.Rx.S
open Go Go.RowKit Go.Proofs
set_option maxRecDepth 100000
noncomputable def c129:Code:=(Try.f129.body.getD .skip)
def an129:An:=⟨fun _=>⟨[],[]⟩,fun _ _=>none⟩
abbrev ps129:List PK:=[.val tFs false,.fn 130 []]
abbrev rs129:List RK:=[.val .bool false]
abbrev R129:=retsD rs129 × outsD ps129
noncomputable def G129:Gam:=fun f=>match f with | 103=>some Sm9103 | 130=>some Sm130 | _=>none
theorem h0_129 (hg:GamOK Try.prog G129):Holds Try.prog 129 ⟨ps129,rs129,false,runF TT G129 an129 Try.f129 c129 ps129 rs129⟩:=holds_of tt_ok hg mixed Try.func129 (by kernel_rfl) (by rfl) (by decide +kernel)
noncomputable def st129_top (n:Nat) (a:List NT) (b:Unit):Option R129 :=
 (q9103 n (a,(),())).bind fun r0=>some ((decide ((0:Int)≤r0.1.1),()),())
theorem e129_top (n:Nat) (a:List NT) (b:Unit):runF TT G129 an129 Try.f129 c129 ps129 rs129 n (a,b,())=st129_top n a b:=by kernel_rfl
noncomputable def p129 (n:Nat) (a:List NT) (b:Unit):Option R129:=st129_top n a b
theorem F129_eq (n:Nat) (a:List NT) (b:Unit):runF TT G129 an129 Try.f129 c129 ps129 rs129 n (a,b,())=p129 n a b:=by
 rw [e129_top]
 skip
 try rfl
noncomputable def q129 (n:Nat) (x:argsD ps129):Option R129:=p129 n x.1 x.2.1
noncomputable def Sm129:Sm:=⟨ps129,rs129,false,q129⟩
theorem holds129 (hg:GamOK Try.prog G129):Holds Try.prog 129 Sm129:=by
 have:=h0_129 hg
 have e:(runF TT G129 an129 Try.f129 c129 ps129 rs129)=q129:=by
  funext n x
  exact F129_eq n x.1 x.2.1
 rw [e] at this
 exact this
theorem gam129:GamOK Try.prog G129:=by
 intro f s h
 unfold G129 at h
 split at h
 ·injection h with h; subst h; exact ⟨⟨Try.f103,c9103,Try.func103,by kernel_rfl,by decide +kernel⟩,hh9103⟩
 ·injection h with h; subst h; exact ⟨⟨Try.f130,c130,Try.func130,by kernel_rfl,by decide +kernel⟩,hh130⟩
 ·cases h
theorem hh129:Holds Try.prog 129 Sm129:=holds129 gam129
end Go.Proofs.Ytbjgiioppmkpiaa.Rx.S

namespace Go.Proofs.Ytbjgiioppmkpiaa.Rx.S
open Go Go.RowKit Go.Proofs
set_option maxRecDepth 100000
noncomputable def c81:Code:=(Try.f81.body.getD .skip)
def an81:An:=⟨fun _=>⟨[],[]⟩,fun _ _=>none⟩
abbrev ps81:List PK:=[.val tFs true]
abbrev rs81:List RK:=[.val .bool false]
abbrev R81:=retsD rs81 × outsD ps81
noncomputable def G81:Gam:=fun f=>match f with | 129=>some Sm129 | 130=>some Sm130 | _=>none
theorem h0_81 (hg:GamOK Try.prog G81):Holds Try.prog 81 ⟨ps81,rs81,false,runF TT G81 an81 Try.f81 c81 ps81 rs81⟩:=holds_of tt_ok hg mixed Try.func81 (by kernel_rfl) (by rfl) (by decide +kernel)
noncomputable def st81_top (n:Nat) (a:List NT):Option R81 :=
 (q129 n (a,(),())).bind fun r0=>some ((r0.1.1,()),())
theorem e81_top (n:Nat) (a:List NT):runF TT G81 an81 Try.f81 c81 ps81 rs81 n (a,())=st81_top n a:=by kernel_rfl
noncomputable def p81 (n:Nat) (a:List NT):Option R81:=st81_top n a
theorem F81_eq (n:Nat) (a:List NT):runF TT G81 an81 Try.f81 c81 ps81 rs81 n (a,())=p81 n a:=by
 rw [e81_top]
 skip
 try rfl
noncomputable def q81 (n:Nat) (x:argsD ps81):Option R81:=p81 n x.1
noncomputable def Sm81:Sm:=⟨ps81,rs81,false,q81⟩
theorem holds81 (hg:GamOK Try.prog G81):Holds Try.prog 81 Sm81:=by
 have:=h0_81 hg
 have e:(runF TT G81 an81 Try.f81 c81 ps81 rs81)=q81:=by
  funext n x
  exact F81_eq n x.1
 rw [e] at this
 exact this
theorem gam81:GamOK Try.prog G81:=by
 intro f s h
 unfold G81 at h
 split at h
 ·injection h with h; subst h; exact ⟨⟨Try.f129,c129,Try.func129,by kernel_rfl,by decide +kernel⟩,hh129⟩
 ·injection h with h; subst h; exact ⟨⟨Try.f130,c130,Try.func130,by kernel_rfl,by decide +kernel⟩,hh130⟩
 ·cases h
theorem hh81:Holds Try.prog 81 Sm81:=holds81 gam81
end Go.Proofs.Ytbjgiioppmkpiaa.Rx.S

namespace Go.Proofs.Ytbjgiioppmkpiaa.Rx.S
open Go Go.RowKit Go.Proofs
set_option maxRecDepth 100000
noncomputable def c29:Code:=(Try.f29.body.getD .skip)
def an29:An:=⟨fun _=>⟨[],[]⟩,fun _ _=>none⟩
abbrev ps29:List PK:=[.val (.pair (.row 25 tFs) i64) true]
abbrev rs29:List RK:=[.val .bool false]
abbrev R29:=retsD rs29 × outsD ps29
noncomputable def G29:Gam:=fun f=>match f with | 19=>some Sm19 | 61=>some Sm61 | 81=>some Sm81 | _=>none
theorem h0_29 (hg:GamOK Try.prog G29):Holds Try.prog 29 ⟨ps29,rs29,false,runF TT G29 an29 Try.f29 c29 ps29 rs29⟩:=holds_of tt_ok hg mixed Try.func29 (by kernel_rfl) (by rfl) (by decide +kernel)
noncomputable def st29_top (n:Nat) (a:List (List NT) × Int):Option R29 :=
 cond (!decide ((↑(List.length a.1):Int)=(2:Int))) (some ((false,()),())) (cond (decide ((0:Int) < (↑(List.length a.1):Int))) ((q19 n (List.getD a.1 (Int.toNat (0:Int)) [],())).bind fun r0=>cond (!r0.1.1) (some ((false,()),())) (cond (decide ((1:Int) < (↑(List.length a.1):Int))) ((q19 n (List.getD a.1 (Int.toNat (1:Int)) [],())).bind fun r1=>cond (!r1.1.1) (some ((false,()),())) (cond (decide (a.2=(-1:Int))) (cond (decide ((1:Int) < (↑(List.length a.1):Int))) ((q81 n (List.getD a.1 (Int.toNat (1:Int)) [],())).bind fun r2=>some ((!r2.1.1,()),())) (none)) ((q61 n (a.2,(1:Int),(9:Int),())).bind fun r3=>cond (r3.1.1) (cond (decide ((0:Int) < (↑(List.length a.1):Int))) (cond (decide ((0:Int)≤a.2)) (cond (decide (a.2 < (↑(List.length (List.getD a.1 (Int.toNat (0:Int)) [])):Int))) (cond (decide ((List.getD (List.getD a.1 (Int.toNat (0:Int)) []) (Int.toNat a.2) ZN).1=(2:Int))) (cond (decide ((0:Int) < (↑(List.length a.1):Int))) (cond (decide ((0:Int)≤a.2)) (cond (decide (a.2 < (↑(List.length (List.getD a.1 (Int.toNat (0:Int)) [])):Int))) (some ((decide ((0:Int) < (List.getD (List.getD a.1 (Int.toNat (0:Int)) []) (Int.toNat a.2) ZN).2.2.2.2.2.1),()),())) (none)) (none)) (none)) (some ((false,()),()))) (none)) (none)) (none)) (some ((false,()),()))))) (none))) (none))
theorem e29_top (n:Nat) (a:List (List NT) × Int):runF TT G29 an29 Try.f29 c29 ps29 rs29 n (a,())=st29_top n a:=by kernel_rfl
noncomputable def p29 (n:Nat) (a:List (List NT) × Int):Option R29:=st29_top n a
theorem F29_eq (n:Nat) (a:List (List NT) × Int):runF TT G29 an29 Try.f29 c29 ps29 rs29 n (a,())=p29 n a:=by
 rw [e29_top]
 skip
 try rfl
noncomputable def q29 (n:Nat) (x:argsD ps29):Option R29:=p29 n x.1
noncomputable def Sm29:Sm:=⟨ps29,rs29,false,q29⟩
theorem holds29 (hg:GamOK Try.prog G29):Holds Try.prog 29 Sm29:=by
 have:=h0_29 hg
 have e:(runF TT G29 an29 Try.f29 c29 ps29 rs29)=q29:=by
  funext n x
  exact F29_eq n x.1
 rw [e] at this
 exact this
theorem gam29:GamOK Try.prog G29:=by
 intro f s h
 unfold G29 at h
 split at h
 ·injection h with h; subst h; exact ⟨⟨Try.f19,c19,Try.func19,by kernel_rfl,by decide +kernel⟩,hh19⟩
 ·injection h with h; subst h; exact ⟨⟨Try.f61,c61,Try.func61,by kernel_rfl,by decide +kernel⟩,hh61⟩
 ·injection h with h; subst h; exact ⟨⟨Try.f81,c81,Try.func81,by kernel_rfl,by decide +kernel⟩,hh81⟩
 ·cases h
theorem hh29:Holds Try.prog 29 Sm29:=holds29 gam29
end Go.Proofs.Ytbjgiioppmkpiaa.Rx.S

namespace Go.Proofs.Ytbjgiioppmkpiaa.Rx.S
open Go Go.RowKit Go.Proofs
set_option maxRecDepth 100000
noncomputable def c80:Code:=(Try.f80.body.getD .skip)
def an80:An:=⟨fun r=>match r with | 3=>⟨[2,3,10,11,12],[(1003,25,tFs)]⟩ | _=>⟨[],[]⟩,fun _ _=>none⟩
abbrev ps80:List PK:=[.val (.pair (.row 25 tFs) i64) true]
abbrev rs80:List RK:=[.own (.pair (.row 25 tFs) i64) true]
abbrev R80:=retsD rs80 × outsD ps80
noncomputable def G80:Gam:=fun f=>match f with | 62=>some Sm62 | _=>none
theorem h0_80 (hg:GamOK Try.prog G80):Holds Try.prog 80 ⟨ps80,rs80,false,runF TT G80 an80 Try.f80 c80 ps80 rs80⟩:=holds_of tt_ok hg mixed Try.func80 (by kernel_rfl) (by rfl) (by decide +kernel)
noncomputable def at80:Nat→Pt→List Nat→St→Option R80:=atF TT G80 an80 Try.f80 c80 _ _
def sh80_L3 (x0:List (List NT)) (x1:Int) (x2:Int) (x3:Int) (x4:Int) (x5:List (List NT)):St:=(St.mk (AV.undef :: (AV.undef :: ((AV.one (SV.bptr 1000000 0)) :: ((AV.one (SV.bptr 1000001 0)) :: (AV.undef :: (AV.undef :: (AV.undef :: (AV.undef :: (AV.undef :: (AV.undef :: ((AV.one (SV.con (⟨25,Ty.row (nat_lit 37) ((Ty.int Go.IntKind.i64).pair ((Ty.int Go.IntKind.i64).pair ((Ty.int Go.IntKind.i64).pair ((Ty.int Go.IntKind.i64).pair ((Ty.int Go.IntKind.i64).pair ((Ty.int Go.IntKind.i64).pair (Ty.bool.pair (Ty.str.pair (Ty.row (nat_lit 100) (Ty.str.pair (Ty.int Go.IntKind.i64))))))))))),x0⟩:Rw))) :: ((AV.one (SV.int (Go.IntKind.i64) x1)) :: ((AV.one (SV.int (Go.IntKind.i64) x2)) :: (AV.undef :: (AV.undef :: (AV.undef :: (AV.undef :: (AV.undef :: (AV.undef :: (AV.undef :: (AV.undef :: (AV.undef :: (AV.undef :: (AV.undef :: (AV.undef :: []))))))))))))))))))))))))) ((1000000,(Ent.box (SV.nil :: ((SV.int (Go.IntKind.i64) x3) :: [])))) :: ((1000001,(Ent.box ((SV.ref 1000002 0 [] Option.none) :: ((SV.int (Go.IntKind.i64) x4) :: [])))) :: ((1000002,(Ent.row (⟨25,Ty.row (nat_lit 37) ((Ty.int Go.IntKind.i64).pair ((Ty.int Go.IntKind.i64).pair ((Ty.int Go.IntKind.i64).pair ((Ty.int Go.IntKind.i64).pair ((Ty.int Go.IntKind.i64).pair ((Ty.int Go.IntKind.i64).pair (Ty.bool.pair (Ty.str.pair (Ty.row (nat_lit 100) (Ty.str.pair (Ty.int Go.IntKind.i64))))))))))),x5⟩:Rw) 0 Option.none)) :: []))))
noncomputable def st80_top (n:Nat) (lL3:(List (List NT))→Int→Int→Int→Int→(List (List NT))→Option R80) (a:List (List NT) × Int):Option R80 :=
 lL3 (a.1) ((↑(List.length a.1):Int)) ((0:Int)) ((0:Int)) (a.2) ([])
noncomputable def st80_L3 (n:Nat) (lL3:(List (List NT))→Int→Int→Int→Int→(List (List NT))→Option R80) (x0:List (List NT)) (x1:Int) (x2:Int) (x3:Int) (x4:Int) (x5:List (List NT)):Option R80 :=
 cond (decide (x2 < x1)) (cond (decide ((0:Int)≤x2)) (cond (decide (x2 < (↑x0.length:Int))) ((q62 n (x0.getD x2.toNat [],())).bind fun r1=>cond (decide ((x5.length + [r1.1.1].length) * (24:Nat)≤(140737488355328:Nat))) (lL3 (x0) (x1) (Go.IntKind.i64.wrap (x2 + (1:Int))) (x3) (x4) (x5 ++ [r1.1.1])) (none)) (none)) (none)) (some (((x5,x4),()),()))
theorem e80_top (n:Nat) (a:List (List NT) × Int):runF TT G80 an80 Try.f80 c80 ps80 rs80 n (a,())=st80_top n (fun x0 x1 x2 x3 x4 x5=>at80 n (.head 3) [n] (sh80_L3 x0 x1 x2 x3 x4 x5)) a:=by kernel_rfl
theorem e80_L3_0 (n:Nat) (x0:List (List NT)) (x1:Int) (x2:Int) (x3:Int) (x4:Int) (x5:List (List NT)):at80 n (.head 3) [0] (sh80_L3 x0 x1 x2 x3 x4 x5)=none:=by kernel_rfl
theorem e80_L3 (n:Nat) (m3:Nat) (x0:List (List NT)) (x1:Int) (x2:Int) (x3:Int) (x4:Int) (x5:List (List NT)):at80 n (.head 3) [m3 + 1] (sh80_L3 x0 x1 x2 x3 x4 x5)=st80_L3 n (fun x0 x1 x2 x3 x4 x5=>at80 n (.head 3) [m3] (sh80_L3 x0 x1 x2 x3 x4 x5)) x0 x1 x2 x3 x4 x5:=by kernel_rfl
noncomputable def p80_L3 (n:Nat):Nat→(List (List NT))→Int→Int→Int→Int→(List (List NT))→Option R80
 | 0,_,_,_,_,_,_=>none
 | m + 1,x0,x1,x2,x3,x4,x5=>st80_L3 n (p80_L3 n m) x0 x1 x2 x3 x4 x5
noncomputable def p80 (n:Nat) (a:List (List NT) × Int):Option R80:=st80_top n (p80_L3 n n) a
theorem t80_L3 (n:Nat):∀ (m3:Nat) (x0:List (List NT)) (x1:Int) (x2:Int) (x3:Int) (x4:Int) (x5:List (List NT)),at80 n (.head 3) [m3] (sh80_L3 x0 x1 x2 x3 x4 x5)=p80_L3 n m3 x0 x1 x2 x3 x4 x5:=by
 intro m
 induction m with
 | zero=>intros; rw [e80_L3_0]; rfl
 | succ m ih =>
  intros
  rw [e80_L3]
  try simp only [ih]
  rfl
theorem F80_eq (n:Nat) (a:List (List NT) × Int):runF TT G80 an80 Try.f80 c80 ps80 rs80 n (a,())=p80 n a:=by
 rw [e80_top]
 simp only [t80_L3]
 try rfl
noncomputable def q80 (n:Nat) (x:argsD ps80):Option R80:=p80 n x.1
noncomputable def Sm80:Sm:=⟨ps80,rs80,false,q80⟩
theorem holds80 (hg:GamOK Try.prog G80):Holds Try.prog 80 Sm80:=by
 have:=h0_80 hg
 have e:(runF TT G80 an80 Try.f80 c80 ps80 rs80)=q80:=by
  funext n x
  exact F80_eq n x.1
 rw [e] at this
 exact this
theorem gam80:GamOK Try.prog G80:=by
 intro f s h
 unfold G80 at h
 split at h
 ·injection h with h; subst h; exact ⟨⟨Try.f62,c62,Try.func62,by kernel_rfl,by decide +kernel⟩,hh62⟩
 ·cases h
theorem hh80:Holds Try.prog 80 Sm80:=holds80 gam80
end Go.Proofs.Ytbjgiioppmkpiaa.Rx.S

namespace Go.Proofs.Ytbjgiioppmkpiaa.Rx.S
open Go Go.Proofs.Ytbjgiioppmkpiaa.Rx Go.RowKit Go.Lib Go.Proofs
set_option linter.unusedVariables false
set_option linter.unusedSimpArgs false
set_option maxHeartbeats 4000000 in
set_option maxRecDepth 1000000 in
theorem open_up (gp bp g b n c id:Nat) (op:Int) (w:World) (hp:w.cell? ⟨gp,bp,none⟩=some (.slice (some ⟨g,b,none⟩) n c)) (hid:id < n)
  (hc:w.cell? ⟨g,b + id * 9 + 5,none⟩=some (.int .i64 op)) (hf:w.frozen? ⟨g,b + id * 9 + 5,none⟩=false) :
  Calls Try.prog 82 #[.pointer (some ⟨gp,bp,none⟩),.int .i64 id,.bool true] w fun e w'=>e = .returned (.tuple #[]) ∧
   w'=w.setCell ⟨g,b + id * 9 + 5,none⟩ (.int .i64 (wrap64 (op + 1))):=by
 have mixed:Try.prog.follows .mixedOrders=true:=by kernel_rfl
 go_enter Try.func82,Try.ntmps82
 go_wp2
 exact bodyPost_ret (results_none rfl _ _ _) rfl ⟨rfl,rfl⟩
set_option maxHeartbeats 4000000 in
set_option maxRecDepth 1000000 in
theorem free_no (gp bp g b n c id:Nat) (lk op:Int) (w:World) (hp:w.cell? ⟨gp,bp,none⟩=some (.slice (some ⟨g,b,none⟩) n c)) (hid:id < n)
  (hl:w.cell? ⟨g,b + id * 9 + 4,none⟩=some (.int .i64 lk)) (hc:w.cell? ⟨g,b + id * 9 + 5,none⟩=some (.int .i64 op)) (hlk:(lk == 0)=false) :
  Calls Try.prog 74 #[.pointer (some ⟨gp,bp,none⟩),.int .i64 id] w fun e w'=>e = .returned (.tuple #[])∧w'=w:=by
 have mixed:Try.prog.follows .mixedOrders=true:=by kernel_rfl
 by_cases h0:id=0
 ·have h1:((id:Int) != 0)=false:=by simp [h0]
  clear h0
  go_enter Try.func74,Try.ntmps74
  go_wp2
  go_end0
  exact ⟨rfl,rfl⟩
 ·have h1:((id:Int) != 0)=true:=by simp [h0]
  clear h0
  go_enter Try.func74,Try.ntmps74
  go_wp2
  go_end0
  exact ⟨rfl,rfl⟩
set_option maxHeartbeats 4000000 in
set_option maxRecDepth 1000000 in
theorem open_dn (gp bp g b n c id:Nat) (lk op:Int) (w:World) (hp:w.cell? ⟨gp,bp,none⟩=some (.slice (some ⟨g,b,none⟩) n c)) (hid:id < n) (hgp:gp ≠ g)
  (hl:w.cell? ⟨g,b + id * 9 + 4,none⟩=some (.int .i64 lk)) (hlk:(lk == 0)=false) (hc:w.cell? ⟨g,b + id * 9 + 5,none⟩=some (.int .i64 op)) (hf:w.frozen? ⟨g,b + id * 9 + 5,none⟩=false) :
  Calls Try.prog 82 #[.pointer (some ⟨gp,bp,none⟩),.int .i64 id,.bool false] w fun e w'=>e = .returned (.tuple #[]) ∧
   w'=w.setCell ⟨g,b + id * 9 + 5,none⟩ (.int .i64 (wrap64 (op - 1))):=by
 have mixed:Try.prog.follows .mixedOrders=true:=by kernel_rfl
 have hp2:Hid (∀ v,(w.setCell ⟨g,b + id * 9 + 5,none⟩ v).cell? ⟨gp,bp,none⟩=some (.slice (some ⟨g,b,none⟩) n c)):=fun v=>by
  rw [← hp]; unfold World.cell? World.setCell; simp [Array.getElem?_modify,hgp,Ne.symm hgp]
 have hl2:Hid (∀ v,(w.setCell ⟨g,b + id * 9 + 5,none⟩ v).cell? ⟨g,b + id * 9 + 4,none⟩=some (.int .i64 lk)):=fun v=>by
  rw [← hl]; exact World.cell?_setCell_other _ _ _ _ (fun h=>by injection h with _ h2 _; omega)
 have hc2:Hid (∀ v,(w.setCell ⟨g,b + id * 9 + 5,none⟩ v).cell? ⟨g,b + id * 9 + 5,none⟩=some v):=fun v=>by
  exact World.cell?_setCell_same _ _ _ hc
 go_enter Try.func82,Try.ntmps82
 go_wp2_with ((refine (free_no gp bp g b n c id lk _ _ (hp2.out _) hid (hl2.out _) (hc2.out _) hlk).mono ?_); rintro e w' ⟨rfl,rfl⟩)
 go_end0
 exact ⟨rfl,rfl⟩
end Go.Proofs.Ytbjgiioppmkpiaa.Rx.S

namespace Go.Proofs.Ytbjgiioppmkpiaa.Rx.S
open Go Go.Proofs.Ytbjgiioppmkpiaa.Rx Go.RowKit Go.Lib Go.Proofs
set_option linter.unusedVariables false
set_option linter.unusedSimpArgs false
theorem und25:∃ fs,Try.prog.underlying 25=some (.struct fs):=by
 have h:((Try.prog.underlying 25).bind (fun d=>match d with | .struct fs=>some fs | _=>none)).isSome=true:=by kernel_rfl
 obtain ⟨fs,h1⟩:=Option.isSome_iff_exists.1 h
 obtain ⟨d,h2,h3⟩:=Option.bind_eq_some_iff.1 h1
 cases d with
 | struct fs'=>exact ⟨fs',h2⟩
 | _=>cases h3
theorem siz25:(Try.prog.info? 25).map (·.size)=some 1:=by kernel_rfl
theorem res_one {fn:Func} {p:Tmp} (h:fn.results = #[.cell p 25]) {W:World} {k:Nat} (hk:W.heap.size + 1=k) (tmps:Array Value) (ht:tmps.getD p undef = .pointer (some ⟨k,0,none⟩)) (v:Value) (o1:Obj) :
  (results fn tmps).run Try.prog ((W.alloc o1).alloc (.cells #[v] 25)) = .ok (.agg #[v]) ((W.alloc o1).alloc (.cells #[v] 25)):=by
 obtain ⟨fs,hd⟩:=und25
 subst hk
 exact results_cell_row h tmps _ (W.heap.size + 1) 25 #[v] (0,0) (.struct fs) ht (heap_alloc2_new W o1 _) hd rfl siz25
theorem res_two {fn:Func} {p u:Tmp} (h:fn.results = #[.cell p 25,.tmp u]) {W:World} {k:Nat} {v:Value} (hg:W.heap[k]? = some (.cells #[v] 25 (0,0))) (tmps:Array Value) (ht:tmps.getD p undef = .pointer (some ⟨k,0,none⟩)) :
  (results fn tmps).run Try.prog W = .ok (.tuple #[.agg #[v],tmps.getD u undef]) W:=by
 obtain ⟨fs,hd⟩:=und25
 rw [results_cell_tmp h,ht]
 have:=run_loadVar_row (P:=Try.prog) W k 25 25 #[v] (0,0) (.struct fs) hg hd rfl siz25
 simp [asAddr,this,Result.andThen]
theorem setCell_size (w:World) (a:Addr) (v:Value):(w.setCell a v).heap.size=w.heap.size:=by simp [World.setCell]
set_option maxHeartbeats 4000000 in
set_option maxRecDepth 1000000 in
theorem lfree_no (g b n c id:Nat) (lk op:Int) (w:World) (hid:id < n)
  (hl:w.cell? ⟨g,b + id * 9 + 4,none⟩=some (.int .i64 lk)) (hc:w.cell? ⟨g,b + id * 9 + 5,none⟩=some (.int .i64 op)) (hlk:(lk == 0)=false) (hg:g < w.heap.size) :
  Calls Try.prog 127 #[.agg #[.slice (some ⟨g,b,none⟩) n c],.int .i64 id] w fun e w'=>e = .returned (.agg #[.slice (some ⟨g,b,none⟩) n c]) ∧
   w'=(w.alloc (.cells #[.slice (some ⟨g,b,none⟩) n c] 25)).alloc (.cells #[.slice (some ⟨g,b,none⟩) n c] 25):=by
 have mixed:Try.prog.follows .mixedOrders=true:=by kernel_rfl
 go_enter Try.func127,Try.ntmps127
 go_wp2
 ·exact bodyPost_ret (res_one rfl rfl _ rfl _ _) rfl ⟨rfl,rfl⟩
 ·exact bodyPost_ret (res_one rfl rfl _ rfl _ _) rfl ⟨rfl,rfl⟩
abbrev slN (g b n c:Nat):Value:=.slice (some ⟨g,b,none⟩) n c
abbrev bxN (g b n c:Nat):Obj:=.cells #[slN g b n c] 25
set_option maxHeartbeats 4000000 in
set_option maxRecDepth 1000000 in
theorem lopen_up6 (g b n c id:Nat) (op:Int) (w:World) (hid:id < n) (hc:w.cell? ⟨g,b + id * 9 + 5,none⟩=some (.int .i64 op)) (hg:g < w.heap.size) (h99:99≤op) :
  Calls Try.prog 132 #[.agg #[slN g b n c],.int .i64 id,.bool true] w fun e w' =>
   e = .returned (.tuple #[.agg #[slN g b n c],.int .i64 6])∧w'=(w.alloc (bxN g b n c)).alloc (bxN g b n c):=by
 have mixed:Try.prog.follows .mixedOrders=true:=by kernel_rfl
 go_enter Try.func132,Try.ntmps132
 go_wp2
 exact bodyPost_ret (res_two rfl (k:=w.heap.size + 1) (v:=slN g b n c) (heap_alloc2_new w _ _) _ rfl) rfl ⟨rfl,rfl⟩
set_option maxHeartbeats 4000000 in
set_option maxRecDepth 1000000 in
theorem lopen_up0 (g b n c id:Nat) (op:Int) (w:World) (hid:id < n) (hc:w.cell? ⟨g,b + id * 9 + 5,none⟩=some (.int .i64 op)) (hf:w.frozen? ⟨g,b + id * 9 + 5,none⟩=false) (hg:g < w.heap.size) (h99:¬ 99≤op) :
  Calls Try.prog 132 #[.agg #[slN g b n c],.int .i64 id,.bool true] w fun e w' =>
   e = .returned (.tuple #[.agg #[slN g b n c],.int .i64 0])∧w'=((w.setCell ⟨g,b + id * 9 + 5,none⟩ (.int .i64 (wrap64 (op + 1)))).alloc (bxN g b n c)).alloc (bxN g b n c):=by
 have mixed:Try.prog.follows .mixedOrders=true:=by kernel_rfl
 have hh:Hid (∀ v:Value,((((w.setCell ⟨g,b + id * 9 + 5,none⟩ v).alloc (bxN g b n c)).alloc (bxN g b n c)).heap)[w.heap.size + 1]? = some (bxN g b n c)):=fun v=>by
  have:=heap_alloc2_new (w.setCell ⟨g,b + id * 9 + 5,none⟩ v) (bxN g b n c) (bxN g b n c)
  rw [setCell_size] at this
  exact this
 go_enter Try.func132,Try.ntmps132
 go_wp2
 exact bodyPost_ret (res_two rfl (k:=w.heap.size + 1) (v:=slN g b n c) (hh.out _) _ rfl) rfl ⟨rfl,rfl⟩
set_option maxHeartbeats 4000000 in
set_option maxRecDepth 1000000 in
theorem lopen_dn6 (g b n c id:Nat) (op:Int) (w:World) (hid:id < n) (hc:w.cell? ⟨g,b + id * 9 + 5,none⟩=some (.int .i64 op)) (hg:g < w.heap.size) (h0:(op == 0)=true) :
  Calls Try.prog 132 #[.agg #[slN g b n c],.int .i64 id,.bool false] w fun e w' =>
   e = .returned (.tuple #[.agg #[slN g b n c],.int .i64 6])∧w'=(w.alloc (bxN g b n c)).alloc (bxN g b n c):=by
 have mixed:Try.prog.follows .mixedOrders=true:=by kernel_rfl
 go_enter Try.func132,Try.ntmps132
 go_wp2
 exact bodyPost_ret (res_two rfl (k:=w.heap.size + 1) (v:=slN g b n c) (heap_alloc2_new w _ _) _ rfl) rfl ⟨rfl,rfl⟩
set_option maxHeartbeats 4000000 in
set_option maxRecDepth 1000000 in
theorem lopen_dn0 (g b n c id:Nat) (lk op:Int) (w:World) (hid:id < n) (hl:w.cell? ⟨g,b + id * 9 + 4,none⟩=some (.int .i64 lk)) (hlk:(lk == 0)=false)
  (hc:w.cell? ⟨g,b + id * 9 + 5,none⟩=some (.int .i64 op)) (hf:w.frozen? ⟨g,b + id * 9 + 5,none⟩=false) (hg:g < w.heap.size) (h0:(op == 0)=false) :
  Calls Try.prog 132 #[.agg #[slN g b n c],.int .i64 id,.bool false] w fun e w' =>
   e = .returned (.tuple #[.agg #[slN g b n c],.int .i64 0])∧∃ o1 o2 o3 o4,w'=((((w.setCell ⟨g,b + id * 9 + 5,none⟩ (.int .i64 (wrap64 (op - 1)))).alloc o1).alloc o2).alloc o3).alloc o4:=by
 have mixed:Try.prog.follows .mixedOrders=true:=by kernel_rfl
 have hl2:Hid (∀ v o1 o2,(((w.setCell ⟨g,b + id * 9 + 5,none⟩ v).alloc o1).alloc o2).cell? ⟨g,b + id * 9 + 4,none⟩=some (.int .i64 lk)):=fun v o1 o2=>by
  rw [World.cell?_alloc_old _ _ _ (by simp [setCell_size]; omega),World.cell?_alloc_old _ _ _ (by simp [setCell_size]; omega),← hl]; exact World.cell?_setCell_other _ _ _ _ (fun h=>by injection h with _ h2 _; omega)
 have hc2:Hid (∀ v o1 o2,(((w.setCell ⟨g,b + id * 9 + 5,none⟩ v).alloc o1).alloc o2).cell? ⟨g,b + id * 9 + 5,none⟩=some v):=fun v o1 o2=>by
  rw [World.cell?_alloc_old _ _ _ (by simp [setCell_size]; omega),World.cell?_alloc_old _ _ _ (by simp [setCell_size]; omega)]; exact World.cell?_setCell_same _ _ _ hc
 have hg2:Hid (∀ v o1 o2,g < (((w.setCell ⟨g,b + id * 9 + 5,none⟩ v).alloc o1).alloc o2).heap.size):=fun v o1 o2=>by simp [setCell_size]; omega
 have hh:Hid (∀ (v:Value) (o3 o4:Obj),((((((w.setCell ⟨g,b + id * 9 + 5,none⟩ v).alloc (bxN g b n c)).alloc (bxN g b n c)).alloc o3).alloc o4).heap)[w.heap.size + 1]? = some (bxN g b n c)):=fun v o3 o4=>by
  have:=heap_alloc2_new (w.setCell ⟨g,b + id * 9 + 5,none⟩ v) (bxN g b n c) (bxN g b n c)
  rw [setCell_size] at this
  rw [Below.heap_alloc _ _ _ (by simp [setCell_size]),Below.heap_alloc _ _ _ (by simp [setCell_size])]
  exact this
 go_enter Try.func132,Try.ntmps132
 go_wp2_with ((refine (lfree_no g b n c id lk _ _ hid (hl2.out _ _ _) (hc2.out _ _ _) hlk (hg2.out _ _ _)).mono ?_); rintro e w' ⟨rfl,rfl⟩)
 exact bodyPost_ret (res_two rfl (k:=w.heap.size + 1) (v:=slN g b n c) (hh.out _ _ _) _ rfl) rfl ⟨rfl,_,_,_,_,rfl⟩
end Go.Proofs.Ytbjgiioppmkpiaa.Rx.S

namespace Go.Proofs.Ytbjgiioppmkpiaa.Rx.S
open Go Go.Proofs.Ytbjgiioppmkpiaa.Rx Go.RowKit Go.Proofs
set_option linter.unusedVariables false
set_option linter.unusedSimpArgs false
abbrev NdT:=(tIn 100).den
abbrev NdZ:NdT:=((0:Int),(0:Int),(0:Int),(0:Int),(0:Int),(0:Int),false,ByteArray.mk #[],([]:List (ByteArray × Int)))
def opsA (x:NdT) (n:Int):NdT:=(x.1,x.2.1,x.2.2.1,x.2.2.2.1,x.2.2.2.2.1,n,x.2.2.2.2.2.2.1,x.2.2.2.2.2.2.2.1,x.2.2.2.2.2.2.2.2)
def setI (n:Int):(b:Sb)→Option b.s.den
 | ⟨.int _,_⟩=>some n
 | _=>none
theorem hc_same {w:World} {g:Nat} {c1 c2:Array Value} {e1 e2:TypeId} (h1:HC w g c1 e1) (h2:HC w g c2 e2):c1=c2:=by
 obtain ⟨q1,_,h1⟩:=h1
 obtain ⟨q2,_,h2⟩:=h2
 rw [h1] at h2
 injection h2 with h2
 injection h2
theorem own_open {w:World} {H:Path→Hd} {xs:List NdT} {v:Value} {F:List Nat} {id:Nat} (h:OwR w 37 (tIn 100) H xs v F) (hh:(H []).hole=false) (hnd:F.Nodup) (hid:id < xs.length) :
  ∃ g b n c cells,v = .slice (some ⟨g,b,none⟩) n c∧id < n∧g ∈ F∧HC w g cells 37∧cells[b + id * 9 + 4]? = some (.int .i64 (xs.getD id NdZ).2.2.2.2.1)∧cells[b + id * 9 + 5]? = some (.int .i64 (xs.getD id NdZ).2.2.2.2.2.1) ∧
   ∀ (n':Int) (w':World),(∀ k,k ≠ g→k ∈ F→w'.heap[k]? = w.heap[k]?)→HC w' g (cells.setIfInBounds (b + id * 9 + 5) (.int .i64 n')) 37→OwR w' 37 (tIn 100) H (xs.set id (opsA (xs.getD id NdZ) n')) v F:=by
 have h0:=h
 unfold OwR OwRow at h0
 rw [if_neg (by simp [hh])] at h0
 obtain ⟨hv,hl,hle,hmx,h5⟩:=h0
 have hi:id < (H []).len:=by rw [← hl]; exact hid
 obtain ⟨g,b,u5,Fa,Fs,Fb,cells,hA,hsz,hF,hg,hgc,hu5,ho5,hput⟩:=h.cell (b:=⟨.int .i64,(xs.getD id NdZ).2.2.2.2.2.1⟩) (c:=5) hh hi rfl
 obtain ⟨g',b',u4,Fa',Fs',Fb',cells',hA',_,_,_,hgc',hu4,ho4,_⟩:=h.cell (b:=⟨.int .i64,(xs.getD id NdZ).2.2.2.2.1⟩) (c:=4) hh hi rfl
 rw [hA] at hA'
 injection hA' with hA'
 injection hA' with e1 e2
 subst e1; subst e2
 have e3:=hc_same hgc hgc'
 subst e3
 obtain ⟨hc5,hFs⟩:=ho5
 obtain ⟨hc4,_⟩:=ho4
 injection hc5 with hc5 _
 injection hc4 with hc4 _
 subst hc5; subst hc4; subst hFs
 have s9:(tIn 100).sz=9:=rfl
 rw [s9] at hu5 hu4
 refine ⟨g,b,(H []).len,(H []).cap,cells,by rw [hv,hA],hi,by rw [hF]; simp [hg],hgc,hu4,hu5,fun n' w' hfr hg'=>?_⟩
 have hFF:F=Fa ++ Fb:=by rw [hF]; simp
 rw [hFF] at hnd
 have hnd1:=List.nodup_append.1 hnd
 have:=hput w' H n' (.int .i64 n') [] (opsA (xs.getD id NdZ) n') (setI n') rfl rfl (fun k hk hne=>hfr k hne (by rw [hFF]; exact hk)) (by rw [s9]; exact hg') (by
   cases Fa with
   | nil=>simp
   | cons a l =>
    have hag:a=g:=by
     rw [if_neg (by omega)] at h5
     obtain ⟨_,g2,b2,_,F2,hA2,hF2,_⟩:=h5
     rw [hA] at hA2
     injection hA2 with hA2
     injection hA2 with e4 _
     rw [hFF] at hF2
     injection hF2 with e5 _
     rw [e5,e4]
    subst hag
    exact (List.nodup_cons.1 hnd1.1).1) (fun hk=>hnd1.2.2 g hg g hk rfl) rfl (fun _ _ _ _=>rfl) ⟨rfl,rfl⟩
 rw [hFF]
 simpa using this
theorem hc_setCell {w:World} {g i:Nat} {cells:Array Value} {e:TypeId} {v:Value} (h:HC w g cells e):HC (w.setCell ⟨g,i,none⟩ v) g (cells.setIfInBounds i v) e:=by
 obtain ⟨q,hq,hg⟩:=h
 rw [setCell_eq_setRow w g i cells e q v hg]
 exact HC.set (by simp) ⟨q,hq,hg⟩
theorem kp_setCell {w:World} {g i:Nat} {cells:Array Value} {e:TypeId} {v:Value} (h:HC w g cells e):Kp w (fun k=>k=g) (w.setCell ⟨g,i,none⟩ v):=by
 obtain ⟨q,hq,hg⟩:=h
 rw [setCell_eq_setRow w g i cells e q v hg]
 exact Kp_setRow w g _
theorem wrap_eq (n:Int):wrap64 n=IntKind.i64.wrap n:=(IntWalk.i64_left n).symm
def openF (xs:List NdT) (id:Int) (more:Bool):Option (List NdT) :=
 cond (decide (0≤id)) (cond (decide (id < xs.length)) (cond more (some (xs.set id.toNat (opsA (xs.getD id.toNat NdZ) (IntKind.i64.wrap ((xs.getD id.toNat NdZ).2.2.2.2.2.1 + 1)))))
  (cond (!decide ((xs.getD id.toNat NdZ).2.2.2.2.1=0)) (some (xs.set id.toNat (opsA (xs.getD id.toNat NdZ) (IntKind.i64.wrap ((xs.getD id.toNat NdZ).2.2.2.2.2.1 - 1))))) none)) none) none
end Go.Proofs.Ytbjgiioppmkpiaa.Rx.S

namespace Go.Proofs.Ytbjgiioppmkpiaa.Rx.S
open Go Go.Proofs.Ytbjgiioppmkpiaa.Rx Go.RowKit Go.Proofs
set_option linter.unusedVariables false
set_option linter.unusedSimpArgs false
noncomputable def c1000082:Code:=(Try.f82.body.getD .skip)
abbrev ps1000082:List PK:=[.io (.row 37 (tIn 100)) false,.val i64 false,.val .bool false]
abbrev rs1000082:List RK:=[]
abbrev R1000082:=retsD rs1000082 × outsD ps1000082
def p1000082 (n:Nat) (a:List NdT) (b:Int) (c:Bool):Option R1000082:=(openF a b c).map fun r=>((),(r,()))
noncomputable def q1000082 (n:Nat) (x:argsD ps1000082):Option R1000082:=p1000082 n x.1 x.2.1 x.2.2.1
noncomputable def Sm1000082:Sm:=⟨ps1000082,rs1000082,false,q1000082⟩
theorem core1000082:HoldsC (CQ Try.prog 82) Sm1000082:=by
 rintro n w Z vs ⟨xs,id,more,_⟩ Fs y hZ hlt hnd ha hF
 rcases vs with _ | ⟨v0,_ | ⟨v1,_ | ⟨v2,_ | ⟨v3,vs⟩⟩⟩⟩ <;> rcases Fs with _ | ⟨F0,_ | ⟨F1,_ | ⟨F2,_ | ⟨F3,Fs⟩⟩⟩⟩ <;> simp only [ArgsR,Sm1000082,and_false] at ha
 obtain ⟨⟨H,hH,_,v0',hv0,h0⟩,⟨rfl,_,hv1⟩,⟨rfl,_,hv2⟩,_⟩:=ha
 have hv1:[v1]=[.int .i64 id]:=hv1
 have hv2:[v2]=[.bool more]:=hv2
 injection hv0 with hv0 _
 subst hv0
 injection hv1 with hv1 _
 injection hv2 with hv2 _
 subst hv1; subst hv2
 have hnd0:F0.Nodup:=by simpa using hnd
 have h0:OwR w 37 (tIn 100) (H 0) xs v0 F0:=h0
 have hF:(openF xs id more).map (fun r=>(((),(r,())):R1000082))=some y:=hF
 obtain ⟨r,hr,rfl⟩:=Option.map_eq_some_iff.1 hF
 intro g0 b0 u vs' hvs hcell hg0 hgs
 injection hvs with hvs1 hvs2
 subst hvs1; subst hvs2
 unfold openF at hr
 by_cases c1:0≤id
 ·rw [decide_eq_true c1] at hr
  by_cases c2:id < (xs.length:Int)
  ·rw [decide_eq_true c2] at hr
   obtain ⟨i,rfl⟩:=Int.eq_ofNat_of_zero_le c1
   have hi:i < List.length (α:=NdT) xs:=Int.ofNat_lt.1 c2
   obtain ⟨g,b,n',c,cells,rfl,hin,hgF,hgc,h4,h5,hput⟩:=own_open h0 (hH 0 []) hnd0 hi
   have hgg:g0 ≠ g:=by rintro rfl; exact hg0 (by simpa using hgF)
   have hlt4:=(Array.getElem?_eq_some_iff.1 h4).1
   have hlt5:=(Array.getElem?_eq_some_iff.1 h5).1
   have e4:w.cell? ⟨g,b + i * 9 + 4,none⟩=some (.int .i64 (xs.getD i NdZ).2.2.2.2.1):=by rw [hgc.cell]; exact h4
   have e5:w.cell? ⟨g,b + i * 9 + 5,none⟩=some (.int .i64 (xs.getD i NdZ).2.2.2.2.2.1):=by rw [hgc.cell]; exact h5
   have ef:=hgc.unfrozen hlt5
   have fin:∀ (m:Int) (e:Ending) (w':World),e = .returned (.tuple #[])∧w'=w.setCell ⟨g,b + i * 9 + 5,none⟩ (.int .i64 m)→r=xs.set i (opsA (xs.getD i NdZ) m) →
     ∃ us Gs Os,e = .returned (retV us)∧RetsR w' Z [] () us Gs∧OutsR w' Z ps1000082 (r,()) [.slice (some ⟨g,b,none⟩) n' c,.int .i64 (i:Int),.bool more] Os∧(Os.flatten ++ Gs.flatten).Nodup ∧
      (∀ k ∈ Os.flatten ++ Gs.flatten,(k ∈ [F0,[],[]].flatten∨w.heap.size≤k)∧k < w'.heap.size)∧Kp w (fun k=>k ∈ [F0,[],[]].flatten) w':=by
    rintro m e w' ⟨rfl,rfl⟩ rfl
    have hK:=kp_setCell (v:=.int .i64 m) (i:=b + i * 9 + 5) hgc
    have ho:=hput m _ (fun k hk hkF=>hK.block k (by have:=hlt k (by simpa using hkF); exact this) hk) (hc_setCell hgc)
    refine ⟨[],[],[F0,[],[]],rfl,trivial,⟨⟨H,hH,rfl,_,rfl,ho⟩,rfl,rfl,trivial⟩,by simpa using hnd0,fun k hk=>?_,?_⟩
    ·have hk:k ∈ F0:=by simpa using hk
     exact ⟨.inl (by simpa using hk),Nat.lt_of_lt_of_le (hlt k (by simpa using hk)) hK.size⟩
    ·exact ⟨hK.os,hK.tape,hK.output,hK.size,fun k h1 h2=>hK.block k h1 (fun h=>h2 (by subst h; simpa using hgF))⟩
   cases more with
   | true =>
    simp only [cond_true,Option.some.injEq] at hr
    refine (open_up g0 b0 g b n' c i _ w hcell hin e5 ef).mono ?_
    rintro e w' ⟨rfl,rfl⟩
    exact fin (IntKind.i64.wrap ((List.getD (α:=NdT) xs i NdZ).2.2.2.2.2.1 + 1)) _ _ ⟨rfl,by rw [wrap_eq]⟩ hr.symm
   | false =>
    simp only [cond_true,cond_false] at hr
    by_cases c3:(xs.getD i NdZ).2.2.2.2.1=0
    ·have c3':(xs.getD ((i:Nat):Int).toNat NdZ).2.2.2.2.1=0:=c3
     rw [decide_eq_true c3'] at hr; cases hr
    ·have c3':¬ (xs.getD ((i:Nat):Int).toNat NdZ).2.2.2.2.1=0:=c3
     rw [decide_eq_false c3'] at hr
     simp only [Bool.not_false,cond_true,Option.some.injEq] at hr
     refine (open_dn g0 b0 g b n' c i _ _ w hcell hin hgg e4 (by simpa using c3) e5 ef).mono ?_
     rintro e w' ⟨rfl,rfl⟩
     exact fin (IntKind.i64.wrap ((List.getD (α:=NdT) xs i NdZ).2.2.2.2.2.1 - 1)) _ _ ⟨rfl,by rw [wrap_eq]⟩ hr.symm
  ·rw [decide_eq_false c2] at hr; cases hr
 ·rw [decide_eq_false c1] at hr; cases hr
theorem hh1000082:HoldsX Try.prog 1000082 Sm1000082:=core1000082
end Go.Proofs.Ytbjgiioppmkpiaa.Rx.S

namespace Go.Proofs.Ytbjgiioppmkpiaa.Rx.S
open Go Go.RowKit Go.Proofs
set_option maxRecDepth 100000
noncomputable def c131:Code:=(Try.f131.body.getD .skip)
def an131:An:=⟨fun r=>match r with | 3=>⟨[1,3,4],[]⟩ | _=>⟨[],[]⟩,fun _ _=>none⟩
abbrev ps131:List PK:=[.val tFs true]
abbrev rs131:List RK:=[.val i64 false]
abbrev R131:=retsD rs131 × outsD ps131
noncomputable def G131:Gam:=fun _=>none
theorem h0_131 (hg:GamOK Try.prog G131):Holds Try.prog 131 ⟨ps131,rs131,false,runF TT G131 an131 Try.f131 c131 ps131 rs131⟩:=holds_of tt_ok hg mixed Try.func131 (by kernel_rfl) (by rfl) (by decide +kernel)
noncomputable def at131:Nat→Pt→List Nat→St→Option R131:=atF TT G131 an131 Try.f131 c131 _ _
def sh131_L3 (x0:Int) (x1:Int) (x2:List NT):St:=(St.mk (AV.undef :: ((AV.one (SV.bptr 1000000 0)) :: (AV.undef :: ((AV.one (SV.int (Go.IntKind.i64) x0)) :: ((AV.one (SV.int (Go.IntKind.i64) x1)) :: (AV.undef :: (AV.undef :: (AV.undef :: (AV.undef :: (AV.undef :: (AV.undef :: (AV.undef :: (AV.undef :: (AV.undef :: (AV.undef :: (AV.undef :: (AV.undef :: (AV.undef :: (AV.undef :: (AV.undef :: (AV.undef :: []))))))))))))))))))))) ((1000000,(Ent.box ((SV.con (⟨37,(Ty.int Go.IntKind.i64).pair ((Ty.int Go.IntKind.i64).pair ((Ty.int Go.IntKind.i64).pair ((Ty.int Go.IntKind.i64).pair ((Ty.int Go.IntKind.i64).pair ((Ty.int Go.IntKind.i64).pair (Ty.bool.pair (Ty.str.pair (Ty.row (nat_lit 100) (Ty.str.pair (Ty.int Go.IntKind.i64)))))))))),x2⟩:Rw)) :: []))) :: []))
noncomputable def st131_top (n:Nat) (lL3:Int→Int→(List NT)→Option R131) (a:List NT):Option R131 :=
 lL3 ((0:Int)) ((0:Int)) (a)
noncomputable def st131_L3 (n:Nat) (lL3:Int→Int→(List NT)→Option R131) (x0:Int) (x1:Int) (x2:List NT):Option R131 :=
 cond (decide (x1 < (↑x2.length:Int))) (cond (decide ((0:Int)≤x1)) (cond (decide (x1 < (↑x2.length:Int))) (lL3 (Go.IntKind.i64.wrap (x0 + (x2.getD x1.toNat ZN).2.2.2.2.2.1)) (Go.IntKind.i64.wrap (x1 + (1:Int))) (x2)) (none)) (none)) (some ((x0,()),()))
theorem e131_top (n:Nat) (a:List NT):runF TT G131 an131 Try.f131 c131 ps131 rs131 n (a,())=st131_top n (fun x0 x1 x2=>at131 n (.head 3) [n] (sh131_L3 x0 x1 x2)) a:=by kernel_rfl
theorem e131_L3_0 (n:Nat) (x0:Int) (x1:Int) (x2:List NT):at131 n (.head 3) [0] (sh131_L3 x0 x1 x2)=none:=by kernel_rfl
theorem e131_L3 (n:Nat) (m3:Nat) (x0:Int) (x1:Int) (x2:List NT):at131 n (.head 3) [m3 + 1] (sh131_L3 x0 x1 x2)=st131_L3 n (fun x0 x1 x2=>at131 n (.head 3) [m3] (sh131_L3 x0 x1 x2)) x0 x1 x2:=by kernel_rfl
noncomputable def p131_L3 (n:Nat):Nat→Int→Int→(List NT)→Option R131
 | 0,_,_,_=>none
 | m + 1,x0,x1,x2=>st131_L3 n (p131_L3 n m) x0 x1 x2
noncomputable def p131 (n:Nat) (a:List NT):Option R131:=st131_top n (p131_L3 n n) a
theorem t131_L3 (n:Nat):∀ (m3:Nat) (x0:Int) (x1:Int) (x2:List NT),at131 n (.head 3) [m3] (sh131_L3 x0 x1 x2)=p131_L3 n m3 x0 x1 x2:=by
 intro m
 induction m with
 | zero=>intros; rw [e131_L3_0]; rfl
 | succ m ih =>
  intros
  rw [e131_L3]
  try simp only [ih]
  rfl
theorem F131_eq (n:Nat) (a:List NT):runF TT G131 an131 Try.f131 c131 ps131 rs131 n (a,())=p131 n a:=by
 rw [e131_top]
 simp only [t131_L3]
 try rfl
noncomputable def q131 (n:Nat) (x:argsD ps131):Option R131:=p131 n x.1
noncomputable def Sm131:Sm:=⟨ps131,rs131,false,q131⟩
theorem holds131 (hg:GamOK Try.prog G131):Holds Try.prog 131 Sm131:=by
 have:=h0_131 hg
 have e:(runF TT G131 an131 Try.f131 c131 ps131 rs131)=q131:=by
  funext n x
  exact F131_eq n x.1
 rw [e] at this
 exact this
theorem gam131:GamOK Try.prog G131:=fun _ _ h=>by cases h
theorem hh131:Holds Try.prog 131 Sm131:=holds131 gam131
end Go.Proofs.Ytbjgiioppmkpiaa.Rx.S

namespace Go.Proofs.Ytbjgiioppmkpiaa.Rx.S
open Go Go.RowKit Go.Proofs
set_option maxRecDepth 100000
noncomputable def c83:Code:=(Try.f83.body.getD .skip)
def an83:An:=⟨fun _=>⟨[],[]⟩,fun _ _=>none⟩
abbrev ps83:List PK:=[.val (.pair (.row 25 tFs) i64) true]
abbrev rs83:List RK:=[.val .bool false]
abbrev R83:=retsD rs83 × outsD ps83
noncomputable def G83:Gam:=fun f=>match f with | 63=>some Sm63 | 66=>some Sm66 | 131=>some Sm131 | _=>none
theorem h0_83 (hg:GamOK Try.prog G83):Holds Try.prog 83 ⟨ps83,rs83,false,runF TT G83 an83 Try.f83 c83 ps83 rs83⟩:=holds_of tt_ok hg mixed Try.func83 (by kernel_rfl) (by rfl) (by decide +kernel)
noncomputable def st83_top (n:Nat) (a:List (List NT) × Int):Option R83 :=
 cond (!decide ((↑(List.length a.1):Int)=(2:Int))) (some ((false,()),())) (cond (decide ((0:Int) < (↑(List.length a.1):Int))) ((q63 n (List.getD a.1 (Int.toNat (0:Int)) [],())).bind fun r0=>cond (!r0.1.1) (some ((false,()),())) (cond (decide ((1:Int) < (↑(List.length a.1):Int))) ((q63 n (List.getD a.1 (Int.toNat (1:Int)) [],())).bind fun r1=>cond (!r1.1.1) (some ((false,()),())) ((q66 n (a.2,(-1:Int),(9:Int),())).bind fun r2=>cond (!r2.1.1) (some ((false,()),())) (cond (decide (a.2=(0:Int))) (some ((false,()),())) (cond (decide (a.2 < (0:Int))) (cond (decide ((1:Int) < (↑(List.length a.1):Int))) ((q131 n (List.getD a.1 (Int.toNat (1:Int)) [],())).bind fun r3=>some ((decide (r3.1.1=(0:Int)),()),())) (none)) (cond (decide ((0:Int) < (↑(List.length a.1):Int))) (cond (decide ((0:Int)≤a.2)) (cond (decide (a.2 < (↑(List.length (List.getD a.1 (Int.toNat (0:Int)) [])):Int))) (cond (decide ((List.getD (List.getD a.1 (Int.toNat (0:Int)) []) (Int.toNat a.2) ZN).1=(2:Int))) (some ((decide ((0:Int) < (List.getD (List.getD a.1 (Int.toNat (0:Int)) []) (Int.toNat a.2) ZN).2.2.2.2.2.1),()),())) (some ((false,()),()))) (none)) (none)) (none)))))) (none))) (none))
theorem e83_top (n:Nat) (a:List (List NT) × Int):runF TT G83 an83 Try.f83 c83 ps83 rs83 n (a,())=st83_top n a:=by kernel_rfl
noncomputable def p83 (n:Nat) (a:List (List NT) × Int):Option R83:=st83_top n a
theorem F83_eq (n:Nat) (a:List (List NT) × Int):runF TT G83 an83 Try.f83 c83 ps83 rs83 n (a,())=p83 n a:=by
 rw [e83_top]
 skip
 try rfl
noncomputable def q83 (n:Nat) (x:argsD ps83):Option R83:=p83 n x.1
noncomputable def Sm83:Sm:=⟨ps83,rs83,false,q83⟩
theorem holds83 (hg:GamOK Try.prog G83):Holds Try.prog 83 Sm83:=by
 have:=h0_83 hg
 have e:(runF TT G83 an83 Try.f83 c83 ps83 rs83)=q83:=by
  funext n x
  exact F83_eq n x.1
 rw [e] at this
 exact this
theorem gam83:GamOK Try.prog G83:=by
 intro f s h
 unfold G83 at h
 split at h
 ·injection h with h; subst h; exact ⟨⟨Try.f63,c63,Try.func63,by kernel_rfl,by decide +kernel⟩,hh63⟩
 ·injection h with h; subst h; exact ⟨⟨Try.f66,c66,Try.func66,by kernel_rfl,by decide +kernel⟩,hh66⟩
 ·injection h with h; subst h; exact ⟨⟨Try.f131,c131,Try.func131,by kernel_rfl,by decide +kernel⟩,hh131⟩
 ·cases h
theorem hh83:Holds Try.prog 83 Sm83:=holds83 gam83
end Go.Proofs.Ytbjgiioppmkpiaa.Rx.S

namespace Go.Proofs.Ytbjgiioppmkpiaa.Rx.S
open Go Go.Proofs.Ytbjgiioppmkpiaa.Rx Go.RowKit Go.Proofs
set_option linter.unusedVariables false
set_option linter.unusedSimpArgs false
noncomputable def c2000132:Code:=(Try.f132.body.getD .skip)
abbrev ps2000132:List PK:=[.io tFs true,.val i64 false,.val .bool false]
abbrev rs2000132:List RK:=[.val i64 false]
abbrev R2000132:=retsD rs2000132 × outsD ps2000132
def lopenF (xs:List NdT) (id:Int) (more:Bool):Option (Int × List NdT) :=
 cond (decide (0≤id)) (cond (decide (id < xs.length)) (cond more
   (cond (decide (99≤(xs.getD id.toNat NdZ).2.2.2.2.2.1)) (some (6,xs)) (some (0,xs.set id.toNat (opsA (xs.getD id.toNat NdZ) (IntKind.i64.wrap ((xs.getD id.toNat NdZ).2.2.2.2.2.1 + 1))))))
   (cond (decide ((xs.getD id.toNat NdZ).2.2.2.2.2.1=0)) (some (6,xs))
    (cond (!decide ((xs.getD id.toNat NdZ).2.2.2.2.1=0)) (some (0,xs.set id.toNat (opsA (xs.getD id.toNat NdZ) (IntKind.i64.wrap ((xs.getD id.toNat NdZ).2.2.2.2.2.1 - 1))))) none))) none) none
def p2000132 (n:Nat) (a:List NdT) (b:Int) (c:Bool):Option R2000132:=(lopenF a b c).map fun r=>((r.1,()),(r.2,()))
noncomputable def q2000132 (n:Nat) (x:argsD ps2000132):Option R2000132:=p2000132 n x.1 x.2.1 x.2.2.1
noncomputable def Sm2000132:Sm:=⟨ps2000132,rs2000132,false,q2000132⟩
theorem core2000132:HoldsC (CB Try.prog 132) Sm2000132:=by
 rintro n w Z vs ⟨xs,id,more,_⟩ Fs y hZ hlt hnd ha hF
 rcases vs with _ | ⟨v0,_ | ⟨v1,_ | ⟨v2,_ | ⟨v3,vs⟩⟩⟩⟩ <;> rcases Fs with _ | ⟨F0,_ | ⟨F1,_ | ⟨F2,_ | ⟨F3,Fs⟩⟩⟩⟩ <;> simp only [ArgsR,Sm2000132,and_false] at ha
 obtain ⟨⟨H,hH,arr,rfl,v0',hv0,h0⟩,⟨rfl,_,hv1⟩,⟨rfl,_,hv2⟩,_⟩:=ha
 have hv1:[v1]=[.int .i64 id]:=hv1
 have hv2:[v2]=[.bool more]:=hv2
 injection hv1 with hv1 _
 injection hv2 with hv2 _
 subst hv1; subst hv2
 have hnd0:F0.Nodup:=by simpa using hnd
 have h0:OwR w 37 (tIn 100) (H 0) xs v0' F0:=h0
 have hF:(lopenF xs id more).map (fun r=>(((r.1,()),(r.2,())):R2000132))=some y:=hF
 obtain ⟨⟨code,r⟩,hr,rfl⟩:=Option.map_eq_some_iff.1 hF
 intro u vs' hvs
 injection hvs with hvs1 hvs2
 injection hvs1 with hvs1
 subst hvs1; subst hvs2
 have hv0:[u]=[v0']:=hv0
 injection hv0 with hv0 _
 subst hv0
 unfold lopenF at hr
 by_cases c1:0≤id
 ·rw [decide_eq_true c1] at hr
  by_cases c2:id < (xs.length:Int)
  ·rw [decide_eq_true c2] at hr
   obtain ⟨i,rfl⟩:=Int.eq_ofNat_of_zero_le c1
   have hi:i < List.length (α:=NdT) xs:=Int.ofNat_lt.1 c2
   obtain ⟨g,b,n',c,cells,rfl,hin,hgF,hgc,h4,h5,hput⟩:=own_open h0 (hH 0 []) hnd0 hi
   have hlt5:=(Array.getElem?_eq_some_iff.1 h5).1
   have hgw:g < w.heap.size:=hlt g (by simpa using hgF)
   have e4:w.cell? ⟨g,b + i * 9 + 4,none⟩=some (.int .i64 (xs.getD i NdZ).2.2.2.2.1):=by rw [hgc.cell]; exact h4
   have e5:w.cell? ⟨g,b + i * 9 + 5,none⟩=some (.int .i64 (xs.getD i NdZ).2.2.2.2.2.1):=by rw [hgc.cell]; exact h5
   have ef:=hgc.unfrozen hlt5
   -- what is left,whatever was allocated besides
   have fin:∀ (w1 w':World) (r':List NdT) (cd:Int),Kp w (fun k=>k=g) w1→OwR w1 37 (tIn 100) (H 0) r' (slN g b n' c) F0→Kp w1 (fun _=>False) w' →
     ∃ us Gs Os,(Ending.returned (.int .i64 cd)) = .returned (retV us)∧RetsR w' Z rs2000132 (cd,()) us Gs∧OutsR w' Z ps2000132 (r',()) [.agg #[slN g b n' c],.int .i64 (i:Int),.bool more] Os∧(Os.flatten ++ Gs.flatten).Nodup ∧
      (∀ k ∈ Os.flatten ++ Gs.flatten,(k ∈ [F0,[],[]].flatten∨w.heap.size≤k)∧k < w'.heap.size)∧Kp w (fun k=>k ∈ [F0,[],[]].flatten) w':=by
    intro w1 w' r' cd hK1 ho hK2
    have ho2:OwR w' 37 (tIn 100) (H 0) r' (slN g b n' c) F0:=ho.frame (fun k hk=>hK2.block k (Nat.lt_of_lt_of_le (hlt k (by simpa using hk)) hK1.size) (fun h=>h))
    have hK:Kp w (fun k=>k=g) w':=hK1.step hK2 (fun k h=>h.elim)
    refine ⟨[.int .i64 cd],[[]],[F0,[],[]],rfl,⟨⟨rfl,rfl,rfl⟩,trivial⟩,⟨⟨H,hH,_,rfl,_,rfl,ho2⟩,rfl,rfl,trivial⟩,by simpa using hnd0,fun k hk=>?_,?_⟩
    ·have hk:k ∈ F0:=by simpa using hk
     exact ⟨.inl (by simpa using hk),Nat.lt_of_lt_of_le (hlt k (by simpa using hk)) hK.size⟩
    ·exact ⟨hK.os,hK.tape,hK.output,hK.size,fun k h1 h2=>hK.block k h1 (fun h=>h2 (by subst h; simpa using hgF))⟩
   have al:∀ (w1:World) (o1 o2:Obj),Kp w1 (fun _=>False) ((w1.alloc o1).alloc o2):=fun w1 o1 o2=>(Kp_alloc w1 o1 _).trans (Kp_alloc _ o2 _)
   have same:∀ (e:Ending) (w':World),e = .returned (.tuple #[.agg #[slN g b n' c],.int .i64 6])∧w'=(w.alloc (bxN g b n' c)).alloc (bxN g b n' c)→code=6→r=xs→∃ rr,e = .returned (.tuple #[.agg #[slN g b n' c],rr]) ∧
     ∃ us Gs Os,(Ending.returned rr) = .returned (retV us)∧RetsR w' Z rs2000132 (code,()) us Gs∧OutsR w' Z ps2000132 (r,()) [.agg #[slN g b n' c],.int .i64 (i:Int),.bool more] Os∧(Os.flatten ++ Gs.flatten).Nodup ∧
      (∀ k ∈ Os.flatten ++ Gs.flatten,(k ∈ [F0,[],[]].flatten∨w.heap.size≤k)∧k < w'.heap.size)∧Kp w (fun k=>k ∈ [F0,[],[]].flatten) w':=by
    rintro e w' ⟨rfl,rfl⟩ rfl rfl
    exact ⟨_,rfl,fin w _ _ _ (Kp.refl _ _) h0 (al _ _ _)⟩
   have done:∀ (m:Int) (e:Ending) (w':World),e = .returned (.tuple #[.agg #[slN g b n' c],.int .i64 0])→Kp (w.setCell ⟨g,b + i * 9 + 5,none⟩ (.int .i64 m)) (fun _=>False) w'→code=0→r=xs.set i (opsA (xs.getD i NdZ) m) →
     ∃ rr,e = .returned (.tuple #[.agg #[slN g b n' c],rr]) ∧
     ∃ us Gs Os,(Ending.returned rr) = .returned (retV us)∧RetsR w' Z rs2000132 (code,()) us Gs∧OutsR w' Z ps2000132 (r,()) [.agg #[slN g b n' c],.int .i64 (i:Int),.bool more] Os∧(Os.flatten ++ Gs.flatten).Nodup ∧
      (∀ k ∈ Os.flatten ++ Gs.flatten,(k ∈ [F0,[],[]].flatten∨w.heap.size≤k)∧k < w'.heap.size)∧Kp w (fun k=>k ∈ [F0,[],[]].flatten) w':=by
    rintro m e w' rfl hk2 rfl rfl
    have hK:=kp_setCell (v:=.int .i64 m) (i:=b + i * 9 + 5) hgc
    have ho:=hput m _ (fun k hk hkF=>hK.block k (hlt k (by simpa using hkF)) hk) (hc_setCell hgc)
    exact ⟨_,rfl,fin _ _ _ _ hK ho hk2⟩
   cases more with
   | true =>
    simp only [cond_true] at hr
    by_cases c3:99≤(List.getD (α:=NdT) xs i NdZ).2.2.2.2.2.1
    ·have c3':99≤(List.getD (α:=NdT) xs ((i:Nat):Int).toNat NdZ).2.2.2.2.2.1:=c3
     rw [decide_eq_true c3'] at hr
     simp only [cond_true,Option.some.injEq,Prod.mk.injEq] at hr
     refine (lopen_up6 g b n' c i _ w hin e5 hgw c3).mono ?_
     intro e w' hh
     exact same e w' hh hr.1.symm hr.2.symm
    ·have c3':¬ 99≤(List.getD (α:=NdT) xs ((i:Nat):Int).toNat NdZ).2.2.2.2.2.1:=c3
     rw [decide_eq_false c3'] at hr
     simp only [cond_false,Option.some.injEq,Prod.mk.injEq] at hr
     refine (lopen_up0 g b n' c i _ w hin e5 ef hgw c3).mono ?_
     rintro e w' ⟨h1,rfl⟩
     exact done (IntKind.i64.wrap ((List.getD (α:=NdT) xs i NdZ).2.2.2.2.2.1 + 1)) e _ h1 (by rw [wrap_eq]; exact al _ _ _) hr.1.symm hr.2.symm
   | false =>
    simp only [cond_true,cond_false] at hr
    by_cases c3:(List.getD (α:=NdT) xs i NdZ).2.2.2.2.2.1=0
    ·have c3':(List.getD (α:=NdT) xs ((i:Nat):Int).toNat NdZ).2.2.2.2.2.1=0:=c3
     rw [decide_eq_true c3'] at hr
     simp only [cond_true,Option.some.injEq,Prod.mk.injEq] at hr
     refine (lopen_dn6 g b n' c i _ w hin e5 hgw (by rw [c3]; rfl)).mono ?_
     intro e w' hh
     exact same e w' hh hr.1.symm hr.2.symm
    ·have c3':¬ (List.getD (α:=NdT) xs ((i:Nat):Int).toNat NdZ).2.2.2.2.2.1=0:=c3
     rw [decide_eq_false c3'] at hr
     simp only [cond_false] at hr
     by_cases c4:(List.getD (α:=NdT) xs i NdZ).2.2.2.2.1=0
     ·have c4':(List.getD (α:=NdT) xs ((i:Nat):Int).toNat NdZ).2.2.2.2.1=0:=c4
      rw [decide_eq_true c4'] at hr; cases hr
     ·have c4':¬ (List.getD (α:=NdT) xs ((i:Nat):Int).toNat NdZ).2.2.2.2.1=0:=c4
      rw [decide_eq_false c4'] at hr
      simp only [Bool.not_false,cond_true,Option.some.injEq,Prod.mk.injEq] at hr
      refine (lopen_dn0 g b n' c i _ _ w hin e4 (by simpa using c4) e5 ef hgw (by simpa using c3)).mono ?_
      rintro e w' ⟨h1,o1,o2,o3,o4,rfl⟩
      exact done (IntKind.i64.wrap ((List.getD (α:=NdT) xs i NdZ).2.2.2.2.2.1 - 1)) e _ h1 (by rw [wrap_eq]; exact (al _ o1 o2).trans (al _ o3 o4)) hr.1.symm hr.2.symm
  ·rw [decide_eq_false c2] at hr; cases hr
 ·rw [decide_eq_false c1] at hr; cases hr
theorem hh2000132:HoldsX Try.prog 2000132 Sm2000132:=core2000132
end Go.Proofs.Ytbjgiioppmkpiaa.Rx.S

namespace Go.Proofs.Ytbjgiioppmkpiaa.Rx.S
open Go Go.RowKit Go.Proofs
set_option maxRecDepth 100000
noncomputable def c85:Code:=(Try.f85.body.getD .skip)
def an85:An:=⟨fun r=>match r with | 3=>⟨[1,2,3,4],[]⟩ | _=>⟨[],[]⟩,fun _ _=>none⟩
abbrev ps85:List PK:=[.val (.pair (.row 25 tFs) i64) true]
abbrev rs85:List RK:=[.own (.pair (.row 25 tFs) i64) true]
abbrev R85:=retsD rs85 × outsD ps85
noncomputable def G85:Gam:=fun f=>match f with | 67=>some Sm67 | _=>none
theorem h0_85 (hg:GamOK Try.prog G85):Holds Try.prog 85 ⟨ps85,rs85,false,runF TT G85 an85 Try.f85 c85 ps85 rs85⟩:=holds_of tt_ok hg mixed Try.func85 (by kernel_rfl) (by rfl) (by decide +kernel)
noncomputable def at85:Nat→Pt→List Nat→St→Option R85:=atF TT G85 an85 Try.f85 c85 _ _
def sh85_L3 (x0:Int) (x1:List (List NT)) (x2:Int) (x3:Int) (x4:Int) (x5:List (List NT)):St:=(St.mk (AV.undef :: ((AV.one (SV.bptr 1000000 0)) :: ((AV.one (SV.bptr 1000001 0)) :: ((AV.one (SV.bptr 1000002 0)) :: ((AV.one (SV.int (Go.IntKind.i64) x0)) :: (AV.undef :: (AV.undef :: (AV.undef :: (AV.undef :: (AV.undef :: (AV.undef :: (AV.undef :: (AV.undef :: (AV.undef :: (AV.undef :: (AV.undef :: (AV.undef :: (AV.undef :: (AV.undef :: (AV.undef :: (AV.undef :: (AV.undef :: (AV.undef :: (AV.undef :: (AV.undef :: (AV.undef :: (AV.undef :: (AV.undef :: [])))))))))))))))))))))))))))) ((1000000,(Ent.box ((SV.con (⟨25,Ty.row (nat_lit 37) ((Ty.int Go.IntKind.i64).pair ((Ty.int Go.IntKind.i64).pair ((Ty.int Go.IntKind.i64).pair ((Ty.int Go.IntKind.i64).pair ((Ty.int Go.IntKind.i64).pair ((Ty.int Go.IntKind.i64).pair (Ty.bool.pair (Ty.str.pair (Ty.row (nat_lit 100) (Ty.str.pair (Ty.int Go.IntKind.i64))))))))))),x1⟩:Rw)) :: ((SV.int (Go.IntKind.i64) x2) :: [])))) :: ((1000001,(Ent.box (SV.nil :: ((SV.int (Go.IntKind.i64) x3) :: [])))) :: ((1000002,(Ent.box ((SV.ref 1000003 0 [] Option.none) :: ((SV.int (Go.IntKind.i64) x4) :: [])))) :: ((1000003,(Ent.row (⟨25,Ty.row (nat_lit 37) ((Ty.int Go.IntKind.i64).pair ((Ty.int Go.IntKind.i64).pair ((Ty.int Go.IntKind.i64).pair ((Ty.int Go.IntKind.i64).pair ((Ty.int Go.IntKind.i64).pair ((Ty.int Go.IntKind.i64).pair (Ty.bool.pair (Ty.str.pair (Ty.row (nat_lit 100) (Ty.str.pair (Ty.int Go.IntKind.i64))))))))))),x5⟩:Rw) 0 Option.none)) :: [])))))
noncomputable def st85_top (n:Nat) (lL3:Int→(List (List NT))→Int→Int→Int→(List (List NT))→Option R85) (a:List (List NT) × Int):Option R85 :=
 lL3 ((0:Int)) (a.1) (a.2) ((0:Int)) (a.2) ([])
noncomputable def st85_L3 (n:Nat) (lL3:Int→(List (List NT))→Int→Int→Int→(List (List NT))→Option R85) (x0:Int) (x1:List (List NT)) (x2:Int) (x3:Int) (x4:Int) (x5:List (List NT)):Option R85 :=
 cond (decide (x0 < (↑x1.length:Int))) (cond (decide ((0:Int)≤x0)) (cond (decide (x0 < (↑x1.length:Int))) ((q67 n (x1.getD x0.toNat [],())).bind fun r1=>cond (decide ((x5.length + [r1.1.1].length) * (24:Nat)≤(140737488355328:Nat))) (lL3 (Go.IntKind.i64.wrap (x0 + (1:Int))) (x1) (x2) (x3) (x4) (x5 ++ [r1.1.1])) (none)) (none)) (none)) (some (((x5,x4),()),()))
theorem e85_top (n:Nat) (a:List (List NT) × Int):runF TT G85 an85 Try.f85 c85 ps85 rs85 n (a,())=st85_top n (fun x0 x1 x2 x3 x4 x5=>at85 n (.head 3) [n] (sh85_L3 x0 x1 x2 x3 x4 x5)) a:=by kernel_rfl
theorem e85_L3_0 (n:Nat) (x0:Int) (x1:List (List NT)) (x2:Int) (x3:Int) (x4:Int) (x5:List (List NT)):at85 n (.head 3) [0] (sh85_L3 x0 x1 x2 x3 x4 x5)=none:=by kernel_rfl
theorem e85_L3 (n:Nat) (m3:Nat) (x0:Int) (x1:List (List NT)) (x2:Int) (x3:Int) (x4:Int) (x5:List (List NT)):at85 n (.head 3) [m3 + 1] (sh85_L3 x0 x1 x2 x3 x4 x5)=st85_L3 n (fun x0 x1 x2 x3 x4 x5=>at85 n (.head 3) [m3] (sh85_L3 x0 x1 x2 x3 x4 x5)) x0 x1 x2 x3 x4 x5:=by kernel_rfl
noncomputable def p85_L3 (n:Nat):Nat→Int→(List (List NT))→Int→Int→Int→(List (List NT))→Option R85
 | 0,_,_,_,_,_,_=>none
 | m + 1,x0,x1,x2,x3,x4,x5=>st85_L3 n (p85_L3 n m) x0 x1 x2 x3 x4 x5
noncomputable def p85 (n:Nat) (a:List (List NT) × Int):Option R85:=st85_top n (p85_L3 n n) a
theorem t85_L3 (n:Nat):∀ (m3:Nat) (x0:Int) (x1:List (List NT)) (x2:Int) (x3:Int) (x4:Int) (x5:List (List NT)),at85 n (.head 3) [m3] (sh85_L3 x0 x1 x2 x3 x4 x5)=p85_L3 n m3 x0 x1 x2 x3 x4 x5:=by
 intro m
 induction m with
 | zero=>intros; rw [e85_L3_0]; rfl
 | succ m ih =>
  intros
  rw [e85_L3]
  try simp only [ih]
  rfl
theorem F85_eq (n:Nat) (a:List (List NT) × Int):runF TT G85 an85 Try.f85 c85 ps85 rs85 n (a,())=p85 n a:=by
 rw [e85_top]
 simp only [t85_L3]
 try rfl
noncomputable def q85 (n:Nat) (x:argsD ps85):Option R85:=p85 n x.1
noncomputable def Sm85:Sm:=⟨ps85,rs85,false,q85⟩
theorem holds85 (hg:GamOK Try.prog G85):Holds Try.prog 85 Sm85:=by
 have:=h0_85 hg
 have e:(runF TT G85 an85 Try.f85 c85 ps85 rs85)=q85:=by
  funext n x
  exact F85_eq n x.1
 rw [e] at this
 exact this
theorem gam85:GamOK Try.prog G85:=by
 intro f s h
 unfold G85 at h
 split at h
 ·injection h with h; subst h; exact ⟨⟨Try.f67,c67,Try.func67,by kernel_rfl,by decide +kernel⟩,hh67⟩
 ·cases h
theorem hh85:Holds Try.prog 85 Sm85:=holds85 gam85
end Go.Proofs.Ytbjgiioppmkpiaa.Rx.S

namespace Go.Proofs.Ytbjgiioppmkpiaa.Rx.S
open Go Go.RowKit Go.Proofs
set_option maxRecDepth 100000
noncomputable def c87:Code:=(Try.f87.body.getD .skip)
def an87:An:=⟨fun r=>match r with | 5=>⟨[0,1,5],[]⟩ | _=>⟨[],[]⟩,fun _ _=>none⟩
abbrev ps87:List PK:=[.val (.row 68 tLf) false,.val i64 false]
abbrev rs87:List RK:=[.val i64 false]
abbrev R87:=retsD rs87 × outsD ps87
noncomputable def G87:Gam:=fun f=>match f with | 39=>some Sm39 | _=>none
theorem h0_87 (hg:GamOK Try.prog G87):Holds Try.prog 87 ⟨ps87,rs87,false,runF TT G87 an87 Try.f87 c87 ps87 rs87⟩:=holds_of tt_ok hg mixed Try.func87 (by kernel_rfl) (by rfl) (by decide +kernel)
noncomputable def at87:Nat→Pt→List Nat→St→Option R87:=atF TT G87 an87 Try.f87 c87 _ _
def sh87_L5 (x0:List (List NT)) (x1:Int) (x2:Int):St:=(St.mk ((AV.one (SV.con (⟨68,Ty.row (nat_lit 161) ((Ty.int Go.IntKind.i64).pair ((Ty.int Go.IntKind.i64).pair ((Ty.int Go.IntKind.i64).pair ((Ty.int Go.IntKind.i64).pair ((Ty.int Go.IntKind.i64).pair ((Ty.int Go.IntKind.i64).pair (Ty.bool.pair (Ty.str.pair (Ty.row (nat_lit 178) (Ty.str.pair (Ty.int Go.IntKind.i64))))))))))),x0⟩:Rw))) :: ((AV.one (SV.int (Go.IntKind.i64) x1)) :: (AV.undef :: (AV.undef :: (AV.undef :: ((AV.one (SV.int (Go.IntKind.i64) x2)) :: (AV.undef :: (AV.undef :: (AV.undef :: (AV.undef :: (AV.undef :: (AV.undef :: (AV.undef :: (AV.undef :: (AV.undef :: (AV.undef :: (AV.undef :: (AV.undef :: (AV.undef :: (AV.undef :: (AV.undef :: (AV.undef :: (AV.undef :: (AV.undef :: (AV.undef :: (AV.undef :: (AV.undef :: []))))))))))))))))))))))))))) [])
noncomputable def st87_top (n:Nat) (lL5:(List (List NT))→Int→Int→Option R87) (a:List (List NT)) (b:Int):Option R87 :=
 cond (decide (Go.IntKind.i64.wrap (b - (↑a.length:Int)) < (0:Int))) (some (((-1:Int),()),())) (lL5 (a) (Go.IntKind.i64.wrap (b - (↑a.length:Int))) ((0:Int)))
noncomputable def st87_L5 (n:Nat) (lL5:(List (List NT))→Int→Int→Option R87) (x0:List (List NT)) (x1:Int) (x2:Int):Option R87 :=
 cond (decide (x2 < (↑x0.length:Int))) (cond (decide ((0:Int)≤x2)) (cond (decide (x2 < (↑x0.length:Int))) ((q39 n (x0.getD x2.toNat [],x1,())).bind fun r1=>cond (decide (r1.1.1 < (0:Int))) (some (((-1:Int),()),())) (lL5 (x0) (r1.1.1) (Go.IntKind.i64.wrap (x2 + (1:Int))))) (none)) (none)) (some ((x1,()),()))
theorem e87_top (n:Nat) (a:List (List NT)) (b:Int):runF TT G87 an87 Try.f87 c87 ps87 rs87 n (a,b,())=st87_top n (fun x0 x1 x2=>at87 n (.head 5) [n] (sh87_L5 x0 x1 x2)) a b:=by kernel_rfl
theorem e87_L5_0 (n:Nat) (x0:List (List NT)) (x1:Int) (x2:Int):at87 n (.head 5) [0] (sh87_L5 x0 x1 x2)=none:=by kernel_rfl
theorem e87_L5 (n:Nat) (m5:Nat) (x0:List (List NT)) (x1:Int) (x2:Int):at87 n (.head 5) [m5 + 1] (sh87_L5 x0 x1 x2)=st87_L5 n (fun x0 x1 x2=>at87 n (.head 5) [m5] (sh87_L5 x0 x1 x2)) x0 x1 x2:=by kernel_rfl
noncomputable def p87_L5 (n:Nat):Nat→(List (List NT))→Int→Int→Option R87
 | 0,_,_,_=>none
 | m + 1,x0,x1,x2=>st87_L5 n (p87_L5 n m) x0 x1 x2
noncomputable def p87 (n:Nat) (a:List (List NT)) (b:Int):Option R87:=st87_top n (p87_L5 n n) a b
theorem t87_L5 (n:Nat):∀ (m5:Nat) (x0:List (List NT)) (x1:Int) (x2:Int),at87 n (.head 5) [m5] (sh87_L5 x0 x1 x2)=p87_L5 n m5 x0 x1 x2:=by
 intro m
 induction m with
 | zero=>intros; rw [e87_L5_0]; rfl
 | succ m ih =>
  intros
  rw [e87_L5]
  try simp only [ih]
  rfl
theorem F87_eq (n:Nat) (a:List (List NT)) (b:Int):runF TT G87 an87 Try.f87 c87 ps87 rs87 n (a,b,())=p87 n a b:=by
 rw [e87_top]
 simp only [t87_L5]
 try rfl
noncomputable def q87 (n:Nat) (x:argsD ps87):Option R87:=p87 n x.1 x.2.1
noncomputable def Sm87:Sm:=⟨ps87,rs87,false,q87⟩
theorem holds87 (hg:GamOK Try.prog G87):Holds Try.prog 87 Sm87:=by
 have:=h0_87 hg
 have e:(runF TT G87 an87 Try.f87 c87 ps87 rs87)=q87:=by
  funext n x
  exact F87_eq n x.1 x.2.1
 rw [e] at this
 exact this
theorem gam87:GamOK Try.prog G87:=by
 intro f s h
 unfold G87 at h
 split at h
 ·injection h with h; subst h; exact ⟨⟨Try.f39,c39,Try.func39,by kernel_rfl,by decide +kernel⟩,hh39⟩
 ·cases h
theorem hh87:Holds Try.prog 87 Sm87:=holds87 gam87
end Go.Proofs.Ytbjgiioppmkpiaa.Rx.S

namespace Go.Proofs.Ytbjgiioppmkpiaa.Rx.S
open Go Go.RowKit Go.Proofs
set_option maxRecDepth 100000
noncomputable def c30:Code:=(Try.f30.body.getD .skip)
def an30:An:=⟨fun _=>⟨[],[]⟩,fun _ _=>none⟩
abbrev ps30:List PK:=[.val (.pair (.row 68 tLf) i64) true,.val i64 false]
abbrev rs30:List RK:=[.val i64 false]
abbrev R30:=retsD rs30 × outsD ps30
noncomputable def G30:Gam:=fun f=>match f with | 87=>some Sm87 | _=>none
theorem h0_30 (hg:GamOK Try.prog G30):Holds Try.prog 30 ⟨ps30,rs30,false,runF TT G30 an30 Try.f30 c30 ps30 rs30⟩:=holds_of tt_ok hg mixed Try.func30 (by kernel_rfl) (by rfl) (by decide +kernel)
noncomputable def st30_top (n:Nat) (a:List (List NT) × Int) (b:Int):Option R30 :=
 (q87 n (a.1,b,())).bind fun r0=>cond (decide (r0.1.1 < (0:Int))) (some (((-1:Int),()),())) (some ((r0.1.1,()),()))
theorem e30_top (n:Nat) (a:List (List NT) × Int) (b:Int):runF TT G30 an30 Try.f30 c30 ps30 rs30 n (a,b,())=st30_top n a b:=by kernel_rfl
noncomputable def p30 (n:Nat) (a:List (List NT) × Int) (b:Int):Option R30:=st30_top n a b
theorem F30_eq (n:Nat) (a:List (List NT) × Int) (b:Int):runF TT G30 an30 Try.f30 c30 ps30 rs30 n (a,b,())=p30 n a b:=by
 rw [e30_top]
 skip
 try rfl
noncomputable def q30 (n:Nat) (x:argsD ps30):Option R30:=p30 n x.1 x.2.1
noncomputable def Sm30:Sm:=⟨ps30,rs30,false,q30⟩
theorem holds30 (hg:GamOK Try.prog G30):Holds Try.prog 30 Sm30:=by
 have:=h0_30 hg
 have e:(runF TT G30 an30 Try.f30 c30 ps30 rs30)=q30:=by
  funext n x
  exact F30_eq n x.1 x.2.1
 rw [e] at this
 exact this
theorem gam30:GamOK Try.prog G30:=by
 intro f s h
 unfold G30 at h
 split at h
 ·injection h with h; subst h; exact ⟨⟨Try.f87,c87,Try.func87,by kernel_rfl,by decide +kernel⟩,hh87⟩
 ·cases h
theorem hh30:Holds Try.prog 30 Sm30:=holds30 gam30
end Go.Proofs.Ytbjgiioppmkpiaa.Rx.S

namespace Go.Proofs.Ytbjgiioppmkpiaa.Rx.S
open Go Go.RowKit Go.Proofs
set_option maxRecDepth 100000
noncomputable def c89:Code:=(Try.f89.body.getD .skip)
def an89:An:=⟨fun r=>match r with | 3=>⟨[0,3,4],[]⟩ | _=>⟨[],[]⟩,fun _ _=>none⟩
abbrev ps89:List PK:=[.val (.row 68 tLf) false]
abbrev rs89:List RK:=[.own (.row 25 tFs) false]
abbrev R89:=retsD rs89 × outsD ps89
noncomputable def G89:Gam:=fun f=>match f with | 40=>some Sm40 | _=>none
theorem h0_89 (hg:GamOK Try.prog G89):Holds Try.prog 89 ⟨ps89,rs89,false,runF TT G89 an89 Try.f89 c89 ps89 rs89⟩:=holds_of tt_ok hg mixed Try.func89 (by kernel_rfl) (by rfl) (by decide +kernel)
noncomputable def at89:Nat→Pt→List Nat→St→Option R89:=atF TT G89 an89 Try.f89 c89 _ _
def sh89_L3 (x0:List (List NT)) (x1:Int) (x2:List (List NT)):St:=(St.mk ((AV.one (SV.con (⟨68,Ty.row (nat_lit 161) ((Ty.int Go.IntKind.i64).pair ((Ty.int Go.IntKind.i64).pair ((Ty.int Go.IntKind.i64).pair ((Ty.int Go.IntKind.i64).pair ((Ty.int Go.IntKind.i64).pair ((Ty.int Go.IntKind.i64).pair (Ty.bool.pair (Ty.str.pair (Ty.row (nat_lit 178) (Ty.str.pair (Ty.int Go.IntKind.i64))))))))))),x0⟩:Rw))) :: (AV.undef :: (AV.undef :: ((AV.one (SV.ref 1000000 0 [] Option.none)) :: ((AV.one (SV.int (Go.IntKind.i64) x1)) :: (AV.undef :: (AV.undef :: (AV.undef :: (AV.undef :: (AV.undef :: (AV.undef :: (AV.undef :: (AV.undef :: (AV.undef :: (AV.undef :: (AV.undef :: (AV.undef :: (AV.undef :: (AV.undef :: (AV.undef :: (AV.undef :: (AV.undef :: (AV.undef :: []))))))))))))))))))))))) ((1000000,(Ent.row (⟨25,Ty.row (nat_lit 37) ((Ty.int Go.IntKind.i64).pair ((Ty.int Go.IntKind.i64).pair ((Ty.int Go.IntKind.i64).pair ((Ty.int Go.IntKind.i64).pair ((Ty.int Go.IntKind.i64).pair ((Ty.int Go.IntKind.i64).pair (Ty.bool.pair (Ty.str.pair (Ty.row (nat_lit 100) (Ty.str.pair (Ty.int Go.IntKind.i64))))))))))),x2⟩:Rw) 0 Option.none)) :: []))
noncomputable def st89_top (n:Nat) (lL3:(List (List NT))→Int→(List (List NT))→Option R89) (a:List (List NT)):Option R89 :=
 cond (decide ((↑a.length:Int) * (↑(24:Nat):Int)≤(140737488355328:Int))) (lL3 (a) ((0:Int)) (List.replicate (↑a.length:Int).toNat [])) (none)
noncomputable def st89_L3 (n:Nat) (lL3:(List (List NT))→Int→(List (List NT))→Option R89) (x0:List (List NT)) (x1:Int) (x2:List (List NT)):Option R89 :=
 cond (decide (x1 < (↑x0.length:Int))) (cond (decide ((0:Int)≤x1)) (cond (decide (x1 < (↑x0.length:Int))) ((q40 n (x0.getD x1.toNat [],())).bind fun r1=>cond (decide ((0:Int)≤x1)) (cond (decide (x1 < (↑x2.length:Int))) (lL3 (x0) (Go.IntKind.i64.wrap (x1 + (1:Int))) (x2.set x1.toNat r1.1.1)) (none)) (none)) (none)) (none)) (some ((x2,()),()))
theorem e89_top (n:Nat) (a:List (List NT)):runF TT G89 an89 Try.f89 c89 ps89 rs89 n (a,())=st89_top n (fun x0 x1 x2=>at89 n (.head 3) [n] (sh89_L3 x0 x1 x2)) a:=by kernel_rfl
theorem e89_L3_0 (n:Nat) (x0:List (List NT)) (x1:Int) (x2:List (List NT)):at89 n (.head 3) [0] (sh89_L3 x0 x1 x2)=none:=by kernel_rfl
theorem e89_L3 (n:Nat) (m3:Nat) (x0:List (List NT)) (x1:Int) (x2:List (List NT)):at89 n (.head 3) [m3 + 1] (sh89_L3 x0 x1 x2)=st89_L3 n (fun x0 x1 x2=>at89 n (.head 3) [m3] (sh89_L3 x0 x1 x2)) x0 x1 x2:=by kernel_rfl
noncomputable def p89_L3 (n:Nat):Nat→(List (List NT))→Int→(List (List NT))→Option R89
 | 0,_,_,_=>none
 | m + 1,x0,x1,x2=>st89_L3 n (p89_L3 n m) x0 x1 x2
noncomputable def p89 (n:Nat) (a:List (List NT)):Option R89:=st89_top n (p89_L3 n n) a
theorem t89_L3 (n:Nat):∀ (m3:Nat) (x0:List (List NT)) (x1:Int) (x2:List (List NT)),at89 n (.head 3) [m3] (sh89_L3 x0 x1 x2)=p89_L3 n m3 x0 x1 x2:=by
 intro m
 induction m with
 | zero=>intros; rw [e89_L3_0]; rfl
 | succ m ih =>
  intros
  rw [e89_L3]
  try simp only [ih]
  rfl
theorem F89_eq (n:Nat) (a:List (List NT)):runF TT G89 an89 Try.f89 c89 ps89 rs89 n (a,())=p89 n a:=by
 rw [e89_top]
 simp only [t89_L3]
 try rfl
noncomputable def q89 (n:Nat) (x:argsD ps89):Option R89:=p89 n x.1
noncomputable def Sm89:Sm:=⟨ps89,rs89,false,q89⟩
theorem holds89 (hg:GamOK Try.prog G89):Holds Try.prog 89 Sm89:=by
 have:=h0_89 hg
 have e:(runF TT G89 an89 Try.f89 c89 ps89 rs89)=q89:=by
  funext n x
  exact F89_eq n x.1
 rw [e] at this
 exact this
theorem gam89:GamOK Try.prog G89:=by
 intro f s h
 unfold G89 at h
 split at h
 ·injection h with h; subst h; exact ⟨⟨Try.f40,c40,Try.func40,by kernel_rfl,by decide +kernel⟩,hh40⟩
 ·cases h
theorem hh89:Holds Try.prog 89 Sm89:=holds89 gam89
end Go.Proofs.Ytbjgiioppmkpiaa.Rx.S

namespace Go.Proofs.Ytbjgiioppmkpiaa.Rx.S
open Go Go.RowKit Go.Proofs
set_option maxRecDepth 100000
noncomputable def c32:Code:=(Try.f32.body.getD .skip)
def an32:An:=⟨fun _=>⟨[],[]⟩,fun _ _=>none⟩
abbrev ps32:List PK:=[.val (.pair (.row 68 tLf) i64) true]
abbrev rs32:List RK:=[.own (.pair (.row 25 tFs) i64) true]
abbrev R32:=retsD rs32 × outsD ps32
noncomputable def G32:Gam:=fun f=>match f with | 89=>some Sm89 | _=>none
theorem h0_32 (hg:GamOK Try.prog G32):Holds Try.prog 32 ⟨ps32,rs32,false,runF TT G32 an32 Try.f32 c32 ps32 rs32⟩:=holds_of tt_ok hg mixed Try.func32 (by kernel_rfl) (by rfl) (by decide +kernel)
noncomputable def st32_top (n:Nat) (a:List (List NT) × Int):Option R32 :=
 (q89 n (a.1,())).bind fun r0=>some (((r0.1.1,a.2),()),())
theorem e32_top (n:Nat) (a:List (List NT) × Int):runF TT G32 an32 Try.f32 c32 ps32 rs32 n (a,())=st32_top n a:=by kernel_rfl
noncomputable def p32 (n:Nat) (a:List (List NT) × Int):Option R32:=st32_top n a
theorem F32_eq (n:Nat) (a:List (List NT) × Int):runF TT G32 an32 Try.f32 c32 ps32 rs32 n (a,())=p32 n a:=by
 rw [e32_top]
 skip
 try rfl
noncomputable def q32 (n:Nat) (x:argsD ps32):Option R32:=p32 n x.1
noncomputable def Sm32:Sm:=⟨ps32,rs32,false,q32⟩
theorem holds32 (hg:GamOK Try.prog G32):Holds Try.prog 32 Sm32:=by
 have:=h0_32 hg
 have e:(runF TT G32 an32 Try.f32 c32 ps32 rs32)=q32:=by
  funext n x
  exact F32_eq n x.1
 rw [e] at this
 exact this
theorem gam32:GamOK Try.prog G32:=by
 intro f s h
 unfold G32 at h
 split at h
 ·injection h with h; subst h; exact ⟨⟨Try.f89,c89,Try.func89,by kernel_rfl,by decide +kernel⟩,hh89⟩
 ·cases h
theorem hh32:Holds Try.prog 32 Sm32:=holds32 gam32
end Go.Proofs.Ytbjgiioppmkpiaa.Rx.S

namespace Go.Proofs.Ytbjgiioppmkpiaa.Rx.S
open Go Go.RowKit Go.Proofs
set_option maxRecDepth 100000
noncomputable def c91:Code:=(Try.f91.body.getD .skip)
def an91:An:=⟨fun r=>match r with | 4=>⟨[0,1,5],[]⟩ | _=>⟨[],[]⟩,fun _ _=>none⟩
abbrev ps91:List PK:=[.val (.row 25 tFs) false,.val (.row 25 tFs) false]
abbrev rs91:List RK:=[.val .bool false]
abbrev R91:=retsD rs91 × outsD ps91
noncomputable def G91:Gam:=fun f=>match f with | 41=>some Sm41 | _=>none
theorem h0_91 (hg:GamOK Try.prog G91):Holds Try.prog 91 ⟨ps91,rs91,false,runF TT G91 an91 Try.f91 c91 ps91 rs91⟩:=holds_of tt_ok hg mixed Try.func91 (by kernel_rfl) (by rfl) (by decide +kernel)
noncomputable def at91:Nat→Pt→List Nat→St→Option R91:=atF TT G91 an91 Try.f91 c91 _ _
def sh91_L4 (x0:List (List NT)) (x1:List (List NT)) (x2:Int):St:=(St.mk ((AV.one (SV.con (⟨25,Ty.row (nat_lit 37) ((Ty.int Go.IntKind.i64).pair ((Ty.int Go.IntKind.i64).pair ((Ty.int Go.IntKind.i64).pair ((Ty.int Go.IntKind.i64).pair ((Ty.int Go.IntKind.i64).pair ((Ty.int Go.IntKind.i64).pair (Ty.bool.pair (Ty.str.pair (Ty.row (nat_lit 100) (Ty.str.pair (Ty.int Go.IntKind.i64))))))))))),x0⟩:Rw))) :: ((AV.one (SV.con (⟨25,Ty.row (nat_lit 37) ((Ty.int Go.IntKind.i64).pair ((Ty.int Go.IntKind.i64).pair ((Ty.int Go.IntKind.i64).pair ((Ty.int Go.IntKind.i64).pair ((Ty.int Go.IntKind.i64).pair ((Ty.int Go.IntKind.i64).pair (Ty.bool.pair (Ty.str.pair (Ty.row (nat_lit 100) (Ty.str.pair (Ty.int Go.IntKind.i64))))))))))),x1⟩:Rw))) :: (AV.undef :: (AV.undef :: (AV.undef :: ((AV.one (SV.int (Go.IntKind.i64) x2)) :: (AV.undef :: (AV.undef :: (AV.undef :: (AV.undef :: (AV.undef :: (AV.undef :: (AV.undef :: (AV.undef :: (AV.undef :: (AV.undef :: (AV.undef :: (AV.undef :: (AV.undef :: (AV.undef :: (AV.undef :: (AV.undef :: (AV.undef :: (AV.undef :: (AV.undef :: (AV.undef :: (AV.undef :: []))))))))))))))))))))))))))) [])
noncomputable def st91_top (n:Nat) (lL4:(List (List NT))→(List (List NT))→Int→Option R91) (a:List (List NT)) (b:List (List NT)):Option R91 :=
 cond (!decide ((↑a.length:Int)=(↑b.length:Int))) (some ((false,()),())) (lL4 (a) (b) ((0:Int)))
noncomputable def st91_L4 (n:Nat) (lL4:(List (List NT))→(List (List NT))→Int→Option R91) (x0:List (List NT)) (x1:List (List NT)) (x2:Int):Option R91 :=
 cond (decide (x2 < (↑x0.length:Int))) (cond (decide ((0:Int)≤x2)) (cond (decide (x2 < (↑x0.length:Int))) (cond (decide ((0:Int)≤x2)) (cond (decide (x2 < (↑x1.length:Int))) ((q41 n (x0.getD x2.toNat [],x1.getD x2.toNat [],())).bind fun r1=>cond (!r1.1.1) (some ((false,()),())) (lL4 (x0) (x1) (Go.IntKind.i64.wrap (x2 + (1:Int))))) (none)) (none)) (none)) (none)) (some ((true,()),()))
theorem e91_top (n:Nat) (a:List (List NT)) (b:List (List NT)):runF TT G91 an91 Try.f91 c91 ps91 rs91 n (a,b,())=st91_top n (fun x0 x1 x2=>at91 n (.head 4) [n] (sh91_L4 x0 x1 x2)) a b:=by kernel_rfl
theorem e91_L4_0 (n:Nat) (x0:List (List NT)) (x1:List (List NT)) (x2:Int):at91 n (.head 4) [0] (sh91_L4 x0 x1 x2)=none:=by kernel_rfl
theorem e91_L4 (n:Nat) (m4:Nat) (x0:List (List NT)) (x1:List (List NT)) (x2:Int):at91 n (.head 4) [m4 + 1] (sh91_L4 x0 x1 x2)=st91_L4 n (fun x0 x1 x2=>at91 n (.head 4) [m4] (sh91_L4 x0 x1 x2)) x0 x1 x2:=by kernel_rfl
noncomputable def p91_L4 (n:Nat):Nat→(List (List NT))→(List (List NT))→Int→Option R91
 | 0,_,_,_=>none
 | m + 1,x0,x1,x2=>st91_L4 n (p91_L4 n m) x0 x1 x2
noncomputable def p91 (n:Nat) (a:List (List NT)) (b:List (List NT)):Option R91:=st91_top n (p91_L4 n n) a b
theorem t91_L4 (n:Nat):∀ (m4:Nat) (x0:List (List NT)) (x1:List (List NT)) (x2:Int),at91 n (.head 4) [m4] (sh91_L4 x0 x1 x2)=p91_L4 n m4 x0 x1 x2:=by
 intro m
 induction m with
 | zero=>intros; rw [e91_L4_0]; rfl
 | succ m ih =>
  intros
  rw [e91_L4]
  try simp only [ih]
  rfl
theorem F91_eq (n:Nat) (a:List (List NT)) (b:List (List NT)):runF TT G91 an91 Try.f91 c91 ps91 rs91 n (a,b,())=p91 n a b:=by
 rw [e91_top]
 simp only [t91_L4]
 try rfl
noncomputable def q91 (n:Nat) (x:argsD ps91):Option R91:=p91 n x.1 x.2.1
noncomputable def Sm91:Sm:=⟨ps91,rs91,false,q91⟩
theorem holds91 (hg:GamOK Try.prog G91):Holds Try.prog 91 Sm91:=by
 have:=h0_91 hg
 have e:(runF TT G91 an91 Try.f91 c91 ps91 rs91)=q91:=by
  funext n x
  exact F91_eq n x.1 x.2.1
 rw [e] at this
 exact this
theorem gam91:GamOK Try.prog G91:=by
 intro f s h
 unfold G91 at h
 split at h
 ·injection h with h; subst h; exact ⟨⟨Try.f41,c41,Try.func41,by kernel_rfl,by decide +kernel⟩,hh41⟩
 ·cases h
theorem hh91:Holds Try.prog 91 Sm91:=holds91 gam91
end Go.Proofs.Ytbjgiioppmkpiaa.Rx.S

namespace Go.Proofs.Ytbjgiioppmkpiaa.Rx.S
open Go Go.RowKit Go.Proofs
set_option maxRecDepth 100000
noncomputable def c34:Code:=(Try.f34.body.getD .skip)
def an34:An:=⟨fun _=>⟨[],[]⟩,fun _ _=>none⟩
abbrev ps34:List PK:=[.val (.pair (.row 25 tFs) i64) true,.val (.pair (.row 25 tFs) i64) true]
abbrev rs34:List RK:=[.val .bool false]
abbrev R34:=retsD rs34 × outsD ps34
noncomputable def G34:Gam:=fun f=>match f with | 91=>some Sm91 | _=>none
theorem h0_34 (hg:GamOK Try.prog G34):Holds Try.prog 34 ⟨ps34,rs34,false,runF TT G34 an34 Try.f34 c34 ps34 rs34⟩:=holds_of tt_ok hg mixed Try.func34 (by kernel_rfl) (by rfl) (by decide +kernel)
noncomputable def st34_top (n:Nat) (a:List (List NT) × Int) (b:List (List NT) × Int):Option R34 :=
 (q91 n (a.1,b.1,())).bind fun r0=>cond (!r0.1.1) (some ((false,()),())) (cond (!decide (a.2=b.2)) (some ((false,()),())) (some ((true,()),())))
theorem e34_top (n:Nat) (a:List (List NT) × Int) (b:List (List NT) × Int):runF TT G34 an34 Try.f34 c34 ps34 rs34 n (a,b,())=st34_top n a b:=by kernel_rfl
noncomputable def p34 (n:Nat) (a:List (List NT) × Int) (b:List (List NT) × Int):Option R34:=st34_top n a b
theorem F34_eq (n:Nat) (a:List (List NT) × Int) (b:List (List NT) × Int):runF TT G34 an34 Try.f34 c34 ps34 rs34 n (a,b,())=p34 n a b:=by
 rw [e34_top]
 skip
 try rfl
noncomputable def q34 (n:Nat) (x:argsD ps34):Option R34:=p34 n x.1 x.2.1
noncomputable def Sm34:Sm:=⟨ps34,rs34,false,q34⟩
theorem holds34 (hg:GamOK Try.prog G34):Holds Try.prog 34 Sm34:=by
 have:=h0_34 hg
 have e:(runF TT G34 an34 Try.f34 c34 ps34 rs34)=q34:=by
  funext n x
  exact F34_eq n x.1 x.2.1
 rw [e] at this
 exact this
theorem gam34:GamOK Try.prog G34:=by
 intro f s h
 unfold G34 at h
 split at h
 ·injection h with h; subst h; exact ⟨⟨Try.f91,c91,Try.func91,by kernel_rfl,by decide +kernel⟩,hh91⟩
 ·cases h
theorem hh34:Holds Try.prog 34 Sm34:=holds34 gam34
end Go.Proofs.Ytbjgiioppmkpiaa.Rx.S

namespace Go.Proofs.Ytbjgiioppmkpiaa.Rx.S
open Go Go.RowKit Go.Proofs
set_option maxRecDepth 100000
noncomputable def c93:Code:=(Try.f93.body.getD .skip)
def an93:An:=⟨fun r=>match r with | 2=>⟨[0,1,5],[]⟩ | _=>⟨[],[]⟩,fun _ _=>none⟩
abbrev ps93:List PK:=[.io (.row 25 tFs) false,.val i64 false]
abbrev rs93:List RK:=[.val i64 false]
abbrev R93:=retsD rs93 × outsD ps93
noncomputable def G93:Gam:=fun f=>match f with | 99=>some Sm99 | _=>none
theorem h0_93 (hg:GamOK Try.prog G93):Holds Try.prog 93 ⟨ps93,rs93,false,runF TT G93 an93 Try.f93 c93 ps93 rs93⟩:=holds_of tt_ok hg mixed Try.func93 (by kernel_rfl) (by rfl) (by decide +kernel)
noncomputable def at93:Nat→Pt→List Nat→St→Option R93:=atF TT G93 an93 Try.f93 c93 _ _
def sh93_L2 (x0:Int) (x1:Int) (x2:List (List NT)):St:=(St.mk ((AV.par 0 false ((SV.ref 1000000 0 [] Option.none) :: [])) :: ((AV.one (SV.int (Go.IntKind.i64) x0)) :: (AV.undef :: (AV.undef :: (AV.undef :: ((AV.one (SV.int (Go.IntKind.i64) x1)) :: (AV.undef :: (AV.undef :: (AV.undef :: (AV.undef :: (AV.undef :: (AV.undef :: (AV.undef :: (AV.undef :: (AV.undef :: (AV.undef :: (AV.undef :: (AV.undef :: (AV.undef :: (AV.undef :: [])))))))))))))))))))) ((1000000,(Ent.row (⟨25,Ty.row (nat_lit 37) ((Ty.int Go.IntKind.i64).pair ((Ty.int Go.IntKind.i64).pair ((Ty.int Go.IntKind.i64).pair ((Ty.int Go.IntKind.i64).pair ((Ty.int Go.IntKind.i64).pair ((Ty.int Go.IntKind.i64).pair (Ty.bool.pair (Ty.str.pair (Ty.row (nat_lit 100) (Ty.str.pair (Ty.int Go.IntKind.i64))))))))))),x2⟩:Rw) 0 Option.none)) :: []))
noncomputable def st93_top (n:Nat) (lL2:Int→Int→(List (List NT))→Option R93) (a:List (List NT)) (b:Int):Option R93 :=
 lL2 (b) ((0:Int)) (a)
noncomputable def st93_L2 (n:Nat) (lL2:Int→Int→(List (List NT))→Option R93) (x0:Int) (x1:Int) (x2:List (List NT)):Option R93 :=
 cond (decide (x1 < (↑x2.length:Int))) (cond (decide ((0:Int)≤x1)) (cond (decide (x1 < (↑x2.length:Int))) ((q99 n (x2.getD x1.toNat [],x0,())).bind fun r1=>lL2 (r1.1.1) (Go.IntKind.i64.wrap (x1 + (1:Int))) (x2.set x1.toNat r1.2.1)) (none)) (none)) (some ((x0,()),(x2,())))
theorem e93_top (n:Nat) (a:List (List NT)) (b:Int):runF TT G93 an93 Try.f93 c93 ps93 rs93 n (a,b,())=st93_top n (fun x0 x1 x2=>at93 n (.head 2) [n] (sh93_L2 x0 x1 x2)) a b:=by kernel_rfl
theorem e93_L2_0 (n:Nat) (x0:Int) (x1:Int) (x2:List (List NT)):at93 n (.head 2) [0] (sh93_L2 x0 x1 x2)=none:=by kernel_rfl
theorem e93_L2 (n:Nat) (m2:Nat) (x0:Int) (x1:Int) (x2:List (List NT)):at93 n (.head 2) [m2 + 1] (sh93_L2 x0 x1 x2)=st93_L2 n (fun x0 x1 x2=>at93 n (.head 2) [m2] (sh93_L2 x0 x1 x2)) x0 x1 x2:=by kernel_rfl
noncomputable def p93_L2 (n:Nat):Nat→Int→Int→(List (List NT))→Option R93
 | 0,_,_,_=>none
 | m + 1,x0,x1,x2=>st93_L2 n (p93_L2 n m) x0 x1 x2
noncomputable def p93 (n:Nat) (a:List (List NT)) (b:Int):Option R93:=st93_top n (p93_L2 n n) a b
theorem t93_L2 (n:Nat):∀ (m2:Nat) (x0:Int) (x1:Int) (x2:List (List NT)),at93 n (.head 2) [m2] (sh93_L2 x0 x1 x2)=p93_L2 n m2 x0 x1 x2:=by
 intro m
 induction m with
 | zero=>intros; rw [e93_L2_0]; rfl
 | succ m ih =>
  intros
  rw [e93_L2]
  try simp only [ih]
  rfl
theorem F93_eq (n:Nat) (a:List (List NT)) (b:Int):runF TT G93 an93 Try.f93 c93 ps93 rs93 n (a,b,())=p93 n a b:=by
 rw [e93_top]
 simp only [t93_L2]
 try rfl
noncomputable def q93 (n:Nat) (x:argsD ps93):Option R93:=p93 n x.1 x.2.1
noncomputable def Sm93:Sm:=⟨ps93,rs93,false,q93⟩
theorem holds93 (hg:GamOK Try.prog G93):Holds Try.prog 93 Sm93:=by
 have:=h0_93 hg
 have e:(runF TT G93 an93 Try.f93 c93 ps93 rs93)=q93:=by
  funext n x
  exact F93_eq n x.1 x.2.1
 rw [e] at this
 exact this
theorem gam93:GamOK Try.prog G93:=by
 intro f s h
 unfold G93 at h
 split at h
 ·injection h with h; subst h; exact ⟨⟨Try.f99,c99,Try.func99,by kernel_rfl,by decide +kernel⟩,hh99⟩
 ·cases h
theorem hh93:Holds Try.prog 93 Sm93:=holds93 gam93
end Go.Proofs.Ytbjgiioppmkpiaa.Rx.S

namespace Go.Proofs.Ytbjgiioppmkpiaa.Rx.S
open Go Go.RowKit Go.Proofs
set_option maxRecDepth 100000
noncomputable def c36:Code:=(Try.f36.body.getD .skip)
def an36:An:=⟨fun _=>⟨[],[]⟩,fun _ _=>none⟩
abbrev ps36:List PK:=[.io (.pair (.row 25 tFs) i64) true,.val i64 false]
abbrev rs36:List RK:=[.val i64 false]
abbrev R36:=retsD rs36 × outsD ps36
noncomputable def G36:Gam:=fun f=>match f with | 93=>some Sm93 | _=>none
theorem h0_36 (hg:GamOK Try.prog G36):Holds Try.prog 36 ⟨ps36,rs36,false,runF TT G36 an36 Try.f36 c36 ps36 rs36⟩:=holds_of tt_ok hg mixed Try.func36 (by kernel_rfl) (by rfl) (by decide +kernel)
noncomputable def st36_top (n:Nat) (a:List (List NT) × Int) (b:Int):Option R36 :=
 (q93 n (a.1,b,())).bind fun r0=>some ((r0.1.1,()),((r0.2.1,a.2),()))
theorem e36_top (n:Nat) (a:List (List NT) × Int) (b:Int):runF TT G36 an36 Try.f36 c36 ps36 rs36 n (a,b,())=st36_top n a b:=by kernel_rfl
noncomputable def p36 (n:Nat) (a:List (List NT) × Int) (b:Int):Option R36:=st36_top n a b
theorem F36_eq (n:Nat) (a:List (List NT) × Int) (b:Int):runF TT G36 an36 Try.f36 c36 ps36 rs36 n (a,b,())=p36 n a b:=by
 rw [e36_top]
 skip
 try rfl
noncomputable def q36 (n:Nat) (x:argsD ps36):Option R36:=p36 n x.1 x.2.1
noncomputable def Sm36:Sm:=⟨ps36,rs36,false,q36⟩
theorem holds36 (hg:GamOK Try.prog G36):Holds Try.prog 36 Sm36:=by
 have:=h0_36 hg
 have e:(runF TT G36 an36 Try.f36 c36 ps36 rs36)=q36:=by
  funext n x
  exact F36_eq n x.1 x.2.1
 rw [e] at this
 exact this
theorem gam36:GamOK Try.prog G36:=by
 intro f s h
 unfold G36 at h
 split at h
 ·injection h with h; subst h; exact ⟨⟨Try.f93,c93,Try.func93,by kernel_rfl,by decide +kernel⟩,hh93⟩
 ·cases h
theorem hh36:Holds Try.prog 36 Sm36:=holds36 gam36
end Go.Proofs.Ytbjgiioppmkpiaa.Rx.S

namespace Go.Proofs.Ytbjgiioppmkpiaa.Rx.S
open Go Go.RowKit Go.Proofs
set_option maxRecDepth 100000
noncomputable def c95:Code:=(Try.f95.body.getD .skip)
def an95:An:=⟨fun r=>match r with | 2=>⟨[0,1,5],[]⟩ | _=>⟨[],[]⟩,fun _ _=>none⟩
abbrev ps95:List PK:=[.val (.row 25 tFs) false,.val i64 false]
abbrev rs95:List RK:=[.val i64 false]
abbrev R95:=retsD rs95 × outsD ps95
noncomputable def G95:Gam:=fun f=>match f with | 100=>some Sm100 | _=>none
theorem h0_95 (hg:GamOK Try.prog G95):Holds Try.prog 95 ⟨ps95,rs95,false,runF TT G95 an95 Try.f95 c95 ps95 rs95⟩:=holds_of tt_ok hg mixed Try.func95 (by kernel_rfl) (by rfl) (by decide +kernel)
noncomputable def at95:Nat→Pt→List Nat→St→Option R95:=atF TT G95 an95 Try.f95 c95 _ _
def sh95_L2 (x0:List (List NT)) (x1:Int) (x2:Int):St:=(St.mk ((AV.one (SV.con (⟨25,Ty.row (nat_lit 37) ((Ty.int Go.IntKind.i64).pair ((Ty.int Go.IntKind.i64).pair ((Ty.int Go.IntKind.i64).pair ((Ty.int Go.IntKind.i64).pair ((Ty.int Go.IntKind.i64).pair ((Ty.int Go.IntKind.i64).pair (Ty.bool.pair (Ty.str.pair (Ty.row (nat_lit 100) (Ty.str.pair (Ty.int Go.IntKind.i64))))))))))),x0⟩:Rw))) :: ((AV.one (SV.int (Go.IntKind.i64) x1)) :: (AV.undef :: (AV.undef :: (AV.undef :: ((AV.one (SV.int (Go.IntKind.i64) x2)) :: (AV.undef :: (AV.undef :: (AV.undef :: (AV.undef :: (AV.undef :: (AV.undef :: (AV.undef :: (AV.undef :: (AV.undef :: (AV.undef :: (AV.undef :: (AV.undef :: (AV.undef :: (AV.undef :: (AV.undef :: (AV.undef :: [])))))))))))))))))))))) [])
noncomputable def st95_top (n:Nat) (lL2:(List (List NT))→Int→Int→Option R95) (a:List (List NT)) (b:Int):Option R95 :=
 lL2 (a) (b) ((0:Int))
noncomputable def st95_L2 (n:Nat) (lL2:(List (List NT))→Int→Int→Option R95) (x0:List (List NT)) (x1:Int) (x2:Int):Option R95 :=
 cond (decide (x2 < (↑x0.length:Int))) (cond (decide ((0:Int)≤x2)) (cond (decide (x2 < (↑x0.length:Int))) ((q100 n (x0.getD x2.toNat [],x1,())).bind fun r1=>cond (decide (r1.1.1 < (0:Int))) (some (((-1:Int),()),())) (lL2 (x0) (r1.1.1) (Go.IntKind.i64.wrap (x2 + (1:Int))))) (none)) (none)) (some ((x1,()),()))
theorem e95_top (n:Nat) (a:List (List NT)) (b:Int):runF TT G95 an95 Try.f95 c95 ps95 rs95 n (a,b,())=st95_top n (fun x0 x1 x2=>at95 n (.head 2) [n] (sh95_L2 x0 x1 x2)) a b:=by kernel_rfl
theorem e95_L2_0 (n:Nat) (x0:List (List NT)) (x1:Int) (x2:Int):at95 n (.head 2) [0] (sh95_L2 x0 x1 x2)=none:=by kernel_rfl
theorem e95_L2 (n:Nat) (m2:Nat) (x0:List (List NT)) (x1:Int) (x2:Int):at95 n (.head 2) [m2 + 1] (sh95_L2 x0 x1 x2)=st95_L2 n (fun x0 x1 x2=>at95 n (.head 2) [m2] (sh95_L2 x0 x1 x2)) x0 x1 x2:=by kernel_rfl
noncomputable def p95_L2 (n:Nat):Nat→(List (List NT))→Int→Int→Option R95
 | 0,_,_,_=>none
 | m + 1,x0,x1,x2=>st95_L2 n (p95_L2 n m) x0 x1 x2
noncomputable def p95 (n:Nat) (a:List (List NT)) (b:Int):Option R95:=st95_top n (p95_L2 n n) a b
theorem t95_L2 (n:Nat):∀ (m2:Nat) (x0:List (List NT)) (x1:Int) (x2:Int),at95 n (.head 2) [m2] (sh95_L2 x0 x1 x2)=p95_L2 n m2 x0 x1 x2:=by
 intro m
 induction m with
 | zero=>intros; rw [e95_L2_0]; rfl
 | succ m ih =>
  intros
  rw [e95_L2]
  try simp only [ih]
  rfl
theorem F95_eq (n:Nat) (a:List (List NT)) (b:Int):runF TT G95 an95 Try.f95 c95 ps95 rs95 n (a,b,())=p95 n a b:=by
 rw [e95_top]
 simp only [t95_L2]
 try rfl
noncomputable def q95 (n:Nat) (x:argsD ps95):Option R95:=p95 n x.1 x.2.1
noncomputable def Sm95:Sm:=⟨ps95,rs95,false,q95⟩
theorem holds95 (hg:GamOK Try.prog G95):Holds Try.prog 95 Sm95:=by
 have:=h0_95 hg
 have e:(runF TT G95 an95 Try.f95 c95 ps95 rs95)=q95:=by
  funext n x
  exact F95_eq n x.1 x.2.1
 rw [e] at this
 exact this
theorem gam95:GamOK Try.prog G95:=by
 intro f s h
 unfold G95 at h
 split at h
 ·injection h with h; subst h; exact ⟨⟨Try.f100,c100,Try.func100,by kernel_rfl,by decide +kernel⟩,hh100⟩
 ·cases h
theorem hh95:Holds Try.prog 95 Sm95:=holds95 gam95
end Go.Proofs.Ytbjgiioppmkpiaa.Rx.S

namespace Go.Proofs.Ytbjgiioppmkpiaa.Rx.S
open Go Go.RowKit Go.Proofs
set_option maxRecDepth 100000
noncomputable def c38:Code:=(Try.f38.body.getD .skip)
def an38:An:=⟨fun _=>⟨[],[]⟩,fun _ _=>none⟩
abbrev ps38:List PK:=[.val (.pair (.row 25 tFs) i64) true,.val i64 false]
abbrev rs38:List RK:=[.val i64 false]
abbrev R38:=retsD rs38 × outsD ps38
noncomputable def G38:Gam:=fun f=>match f with | 95=>some Sm95 | _=>none
theorem h0_38 (hg:GamOK Try.prog G38):Holds Try.prog 38 ⟨ps38,rs38,false,runF TT G38 an38 Try.f38 c38 ps38 rs38⟩:=holds_of tt_ok hg mixed Try.func38 (by kernel_rfl) (by rfl) (by decide +kernel)
noncomputable def st38_top (n:Nat) (a:List (List NT) × Int) (b:Int):Option R38 :=
 (q95 n (a.1,b,())).bind fun r0=>cond (decide (r0.1.1 < (0:Int))) (some (((-1:Int),()),())) (some ((r0.1.1,()),()))
theorem e38_top (n:Nat) (a:List (List NT) × Int) (b:Int):runF TT G38 an38 Try.f38 c38 ps38 rs38 n (a,b,())=st38_top n a b:=by kernel_rfl
noncomputable def p38 (n:Nat) (a:List (List NT) × Int) (b:Int):Option R38:=st38_top n a b
theorem F38_eq (n:Nat) (a:List (List NT) × Int) (b:Int):runF TT G38 an38 Try.f38 c38 ps38 rs38 n (a,b,())=p38 n a b:=by
 rw [e38_top]
 skip
 try rfl
noncomputable def q38 (n:Nat) (x:argsD ps38):Option R38:=p38 n x.1 x.2.1
noncomputable def Sm38:Sm:=⟨ps38,rs38,false,q38⟩
theorem holds38 (hg:GamOK Try.prog G38):Holds Try.prog 38 Sm38:=by
 have:=h0_38 hg
 have e:(runF TT G38 an38 Try.f38 c38 ps38 rs38)=q38:=by
  funext n x
  exact F38_eq n x.1 x.2.1
 rw [e] at this
 exact this
theorem gam38:GamOK Try.prog G38:=by
 intro f s h
 unfold G38 at h
 split at h
 ·injection h with h; subst h; exact ⟨⟨Try.f95,c95,Try.func95,by kernel_rfl,by decide +kernel⟩,hh95⟩
 ·cases h
theorem hh38:Holds Try.prog 38 Sm38:=holds38 gam38
end Go.Proofs.Ytbjgiioppmkpiaa.Rx.S

namespace Go.Proofs.Ytbjgiioppmkpiaa.Rx.S
open Go Go.RowKit Go.Proofs
set_option maxRecDepth 100000
noncomputable def c28:Code:=(Try.f28.body.getD .skip)
def an28:An:=⟨fun _=>⟨[],[]⟩,fun _ _=>none⟩
abbrev ps28:List PK:=[.val (.pair (.row 25 tFs) i64) true,.val tCr true,.val i64 false]
abbrev rs28:List RK:=[.own (.pair (.row 25 tFs) i64) true,.val i64 false]
abbrev R28:=retsD rs28 × outsD ps28
noncomputable def G28:Gam:=fun f=>match f with | 29=>some Sm29 | 79=>some Sm79 | 80=>some Sm80 | 86=>some Sm86 | 1000082=>some Sm1000082 | _=>none
theorem h0_28 (hg:GamOK Try.prog G28):Holds Try.prog 28 ⟨ps28,rs28,false,runF TT G28 an28 Try.f28 c28 ps28 rs28⟩:=holds_of tt_ok hg mixed Try.func28 (by kernel_rfl) (by rfl) (by decide +kernel)
noncomputable def st28_top (n:Nat) (a:List (List NT) × Int) (b:Int × Int × List Int) (c:Int):Option R28 :=
 (q29 n ((a.1,a.2),())).bind fun r0=>cond (!r0.1.1) (some ((([],(0:Int)),((1:Int),())),())) ((q79 n ((b.1,b.2.1,b.2.2),())).bind fun r1=>cond (!r1.1.1) (some ((([],(0:Int)),((1:Int),())),())) (cond (decide ((0:Int) < (↑(List.length a.1):Int))) ((q86 n (List.getD a.1 (Int.toNat (0:Int)) [],c,())).bind fun r2=>cond (!r2.1.1) (some ((([],(0:Int)),((1:Int),())),())) ((q80 n ((a.1,a.2),())).bind fun r3=>cond (decide ((0:Int) < (↑(List.length a.1):Int))) (cond (decide ((0:Int)≤c)) (cond (decide (c < (↑(List.length (List.getD a.1 (Int.toNat (0:Int)) [])):Int))) (cond (!decide (b.1=(0:Int))) (some (((r3.1.1.1,r3.1.1.2),((5:Int),())),())) (cond (decide ((0:Int)≤a.2)) (some (((r3.1.1.1,r3.1.1.2),((6:Int),())),())) (cond (decide (c=(0:Int))) (some (((r3.1.1.1,r3.1.1.2),((6:Int),())),())) (cond (!decide ((List.getD (List.getD a.1 (Int.toNat (0:Int)) []) c.toNat ZN).1=(2:Int))) (some (((r3.1.1.1,r3.1.1.2),((4:Int),())),())) (cond (decide ((List.getD (List.getD a.1 (Int.toNat (0:Int)) []) c.toNat ZN).2.2.2.2.2.1=(99:Int))) (some (((r3.1.1.1,r3.1.1.2),((6:Int),())),())) (cond (decide ((0:Int) < (↑(List.length r3.1.1.1):Int))) ((q1000082 n (List.getD r3.1.1.1 (Int.toNat (0:Int)) [],c,true,())).bind fun r4=>some (((List.set r3.1.1.1 (Int.toNat (0:Int)) r4.2.1,c),((0:Int),())),())) (none))))))) (none)) (none)) (none))) (none)))
theorem e28_top (n:Nat) (a:List (List NT) × Int) (b:Int × Int × List Int) (c:Int):runF TT G28 an28 Try.f28 c28 ps28 rs28 n (a,b,c,())=st28_top n a b c:=by kernel_rfl
noncomputable def p28 (n:Nat) (a:List (List NT) × Int) (b:Int × Int × List Int) (c:Int):Option R28:=st28_top n a b c
theorem F28_eq (n:Nat) (a:List (List NT) × Int) (b:Int × Int × List Int) (c:Int):runF TT G28 an28 Try.f28 c28 ps28 rs28 n (a,b,c,())=p28 n a b c:=by
 rw [e28_top]
 skip
 try rfl
noncomputable def q28 (n:Nat) (x:argsD ps28):Option R28:=p28 n x.1 x.2.1 x.2.2.1
noncomputable def Sm28:Sm:=⟨ps28,rs28,false,q28⟩
theorem holds28 (hg:GamOK Try.prog G28):Holds Try.prog 28 Sm28:=by
 have:=h0_28 hg
 have e:(runF TT G28 an28 Try.f28 c28 ps28 rs28)=q28:=by
  funext n x
  exact F28_eq n x.1 x.2.1 x.2.2.1
 rw [e] at this
 exact this
theorem gam28:GamOK Try.prog G28:=by
 intro f s h
 unfold G28 at h
 split at h
 ·injection h with h; subst h; exact ⟨⟨Try.f29,c29,Try.func29,by kernel_rfl,by decide +kernel⟩,hh29⟩
 ·injection h with h; subst h; exact ⟨⟨Try.f79,c79,Try.func79,by kernel_rfl,by decide +kernel⟩,hh79⟩
 ·injection h with h; subst h; exact ⟨⟨Try.f80,c80,Try.func80,by kernel_rfl,by decide +kernel⟩,hh80⟩
 ·injection h with h; subst h; exact ⟨⟨Try.f86,c86,Try.func86,by kernel_rfl,by decide +kernel⟩,hh86⟩
 ·injection h with h; subst h; exact ⟨⟨Try.f82,c1000082,Try.func82,by kernel_rfl,by decide +kernel⟩,hh1000082⟩
 ·cases h
theorem hh28:Holds Try.prog 28 Sm28:=holds28 gam28
end Go.Proofs.Ytbjgiioppmkpiaa.Rx.S

namespace Go.Proofs.Ytbjgiioppmkpiaa.Rx.S
open Go Go.RowKit Go.Proofs
set_option maxRecDepth 100000
noncomputable def c101:Code:=(Try.f101.body.getD .skip)
def an101:An:=⟨fun _=>⟨[],[]⟩,fun _ _=>none⟩
abbrev ps101:List PK:=[.own (.pair (.row 25 tFs) i64) true,.val tCr true,.val i64 false]
abbrev rs101:List RK:=[.own (.pair (.row 25 tFs) i64) true,.val i64 false]
abbrev R101:=retsD rs101 × outsD ps101
noncomputable def G101:Gam:=fun f=>match f with | 2000132=>some Sm2000132 | _=>none
theorem h0_101 (hg:GamOK Try.prog G101):Holds Try.prog 101 ⟨ps101,rs101,false,runF TT G101 an101 Try.f101 c101 ps101 rs101⟩:=holds_of tt_ok hg mixed Try.func101 (by kernel_rfl) (by rfl) (by decide +kernel)
noncomputable def st101_top (n:Nat) (a:List (List NT) × Int) (b:Int × Int × List Int) (c:Int):Option R101 :=
 cond (!decide (b.1=(0:Int))) (some (((a.1,a.2),((5:Int),())),())) (cond (decide ((0:Int)≤a.2)) (some (((a.1,a.2),((6:Int),())),())) (cond (decide (c=(0:Int))) (some (((a.1,a.2),((6:Int),())),())) (cond (decide ((0:Int) < (↑(List.length a.1):Int))) (cond (decide ((0:Int)≤c)) (cond (decide (c < (↑(List.length (List.getD a.1 (Int.toNat (0:Int)) [])):Int))) (cond (!decide ((List.getD (List.getD a.1 (Int.toNat (0:Int)) []) c.toNat ZN).1=(2:Int))) (some (((a.1,a.2),((4:Int),())),())) (cond (decide ((0:Int) < (↑(List.length a.1):Int))) ((q2000132 n (List.getD a.1 (Int.toNat (0:Int)) [],c,true,())).bind fun r0=>cond (!decide (r0.1.1=(0:Int))) (some (((List.set a.1 (Int.toNat (0:Int)) r0.2.1,a.2),(r0.1.1,())),())) (cond (decide ((0:Int) < (↑(List.set a.1 (Int.toNat (0:Int)) r0.2.1).length:Int))) (some (((List.set a.1 (Int.toNat (0:Int)) r0.2.1,c),((0:Int),())),())) (none))) (none))) (none)) (none)) (none))))
theorem e101_top (n:Nat) (a:List (List NT) × Int) (b:Int × Int × List Int) (c:Int):runF TT G101 an101 Try.f101 c101 ps101 rs101 n (a,b,c,())=st101_top n a b c:=by kernel_rfl
noncomputable def p101 (n:Nat) (a:List (List NT) × Int) (b:Int × Int × List Int) (c:Int):Option R101:=st101_top n a b c
theorem F101_eq (n:Nat) (a:List (List NT) × Int) (b:Int × Int × List Int) (c:Int):runF TT G101 an101 Try.f101 c101 ps101 rs101 n (a,b,c,())=p101 n a b c:=by
 rw [e101_top]
 skip
 try rfl
noncomputable def q101 (n:Nat) (x:argsD ps101):Option R101:=p101 n x.1 x.2.1 x.2.2.1
noncomputable def Sm101:Sm:=⟨ps101,rs101,false,q101⟩
theorem holds101 (hg:GamOK Try.prog G101):Holds Try.prog 101 Sm101:=by
 have:=h0_101 hg
 have e:(runF TT G101 an101 Try.f101 c101 ps101 rs101)=q101:=by
  funext n x
  exact F101_eq n x.1 x.2.1 x.2.2.1
 rw [e] at this
 exact this
theorem gam101:GamOK Try.prog G101:=by
 intro f s h
 unfold G101 at h
 split at h
 ·injection h with h; subst h; exact ⟨⟨Try.f132,c2000132,Try.func132,by kernel_rfl,by decide +kernel⟩,hh2000132⟩
 ·cases h
theorem hh101:Holds Try.prog 101 Sm101:=holds101 gam101
end Go.Proofs.Ytbjgiioppmkpiaa.Rx.S

namespace Go.Proofs.Ytbjgiioppmkpiaa.Rx.S
open Go Go.RowKit Go.Proofs
set_option maxRecDepth 100000
noncomputable def c44:Code:=(Try.f44.body.getD .skip)
def an44:An:=⟨fun _=>⟨[],[]⟩,fun _ _=>none⟩
abbrev ps44:List PK:=[.val (.pair (.row 25 tFs) i64) true,.val tCr true,.val i64 false]
abbrev rs44:List RK:=[.own (.pair (.row 25 tFs) i64) true,.val i64 false]
abbrev R44:=retsD rs44 × outsD ps44
noncomputable def G44:Gam:=fun f=>match f with | 64=>some Sm64 | 65=>some Sm65 | 83=>some Sm83 | 85=>some Sm85 | 101=>some Sm101 | _=>none
theorem h0_44 (hg:GamOK Try.prog G44):Holds Try.prog 44 ⟨ps44,rs44,false,runF TT G44 an44 Try.f44 c44 ps44 rs44⟩:=holds_of tt_ok hg mixed Try.func44 (by kernel_rfl) (by rfl) (by decide +kernel)
noncomputable def st44_top (n:Nat) (a:List (List NT) × Int) (b:Int × Int × List Int) (c:Int):Option R44 :=
 (q83 n ((a.1,a.2),())).bind fun r0=>cond (!r0.1.1) (some ((([],(0:Int)),((1:Int),())),())) ((q64 n ((b.1,b.2.1,b.2.2),())).bind fun r1=>cond (!r1.1.1) (some ((([],(0:Int)),((1:Int),())),())) (cond (decide ((0:Int) < (↑(List.length a.1):Int))) ((q65 n (List.getD a.1 (Int.toNat (0:Int)) [],c,())).bind fun r2=>cond (!r2.1.1) (some ((([],(0:Int)),((1:Int),())),())) ((q85 n ((a.1,a.2),())).bind fun r3=>(q101 n ((r3.1.1.1,r3.1.1.2),(b.1,b.2.1,b.2.2),c,())).bind fun r4=>some (((r4.1.1.1,r4.1.1.2),(r4.1.2.1,())),()))) (none)))
theorem e44_top (n:Nat) (a:List (List NT) × Int) (b:Int × Int × List Int) (c:Int):runF TT G44 an44 Try.f44 c44 ps44 rs44 n (a,b,c,())=st44_top n a b c:=by kernel_rfl
noncomputable def p44 (n:Nat) (a:List (List NT) × Int) (b:Int × Int × List Int) (c:Int):Option R44:=st44_top n a b c
theorem F44_eq (n:Nat) (a:List (List NT) × Int) (b:Int × Int × List Int) (c:Int):runF TT G44 an44 Try.f44 c44 ps44 rs44 n (a,b,c,())=p44 n a b c:=by
 rw [e44_top]
 skip
 try rfl
noncomputable def q44 (n:Nat) (x:argsD ps44):Option R44:=p44 n x.1 x.2.1 x.2.2.1
noncomputable def Sm44:Sm:=⟨ps44,rs44,false,q44⟩
theorem holds44 (hg:GamOK Try.prog G44):Holds Try.prog 44 Sm44:=by
 have:=h0_44 hg
 have e:(runF TT G44 an44 Try.f44 c44 ps44 rs44)=q44:=by
  funext n x
  exact F44_eq n x.1 x.2.1 x.2.2.1
 rw [e] at this
 exact this
theorem gam44:GamOK Try.prog G44:=by
 intro f s h
 unfold G44 at h
 split at h
 ·injection h with h; subst h; exact ⟨⟨Try.f64,c64,Try.func64,by kernel_rfl,by decide +kernel⟩,hh64⟩
 ·injection h with h; subst h; exact ⟨⟨Try.f65,c65,Try.func65,by kernel_rfl,by decide +kernel⟩,hh65⟩
 ·injection h with h; subst h; exact ⟨⟨Try.f83,c83,Try.func83,by kernel_rfl,by decide +kernel⟩,hh83⟩
 ·injection h with h; subst h; exact ⟨⟨Try.f85,c85,Try.func85,by kernel_rfl,by decide +kernel⟩,hh85⟩
 ·injection h with h; subst h; exact ⟨⟨Try.f101,c101,Try.func101,by kernel_rfl,by decide +kernel⟩,hh101⟩
 ·cases h
theorem hh44:Holds Try.prog 44 Sm44:=holds44 gam44
end Go.Proofs.Ytbjgiioppmkpiaa.Rx.S

namespace Go.Proofs.Ytbjgiioppmkpiaa.Rx.S
open Go Go.RowKit Go.Proofs
set_option maxRecDepth 100000
noncomputable def c8:Code:=(Try.f8.body.getD .skip)
def an8:An:=⟨fun _=>⟨[],[]⟩,fun _ _=>none⟩
abbrev ps8:List PK:=[.val (.pair (.row 68 tLf) i64) true,.val tCr true,.val i64 false]
abbrev rs8:List RK:=[.val .bool false]
abbrev R8:=retsD rs8 × outsD ps8
noncomputable def G8:Gam:=fun f=>match f with | 28=>some Sm28 | 30=>some Sm30 | 31=>some Sm31 | 32=>some Sm32 | 33=>some Sm33 | 34=>some Sm34 | 35=>some Sm35 | 36=>some Sm36 | 37=>some Sm37 | 38=>some Sm38 | 44=>some Sm44 | _=>none
theorem h0_8 (hg:GamOK Try.prog G8):Holds Try.prog 8 ⟨ps8,rs8,false,runF TT G8 an8 Try.f8 c8 ps8 rs8⟩:=holds_of tt_ok hg mixed Try.func8 (by kernel_rfl) (by rfl) (by decide +kernel)
noncomputable def st8_top (n:Nat) (a:List (List NT) × Int) (b:Int × Int × List Int) (c:Int):Option R8 :=
 (q30 n ((a.1,a.2),(1048576:Int),())).bind fun r0=>cond (decide (r0.1.1 < (0:Int))) (some ((true,()),())) ((q31 n ((b.1,b.2.1,b.2.2),r0.1.1,())).bind fun r1=>cond (decide (r1.1.1 < (0:Int))) (some ((true,()),())) ((q32 n ((a.1,a.2),())).bind fun r2=>(q33 n ((b.1,b.2.1,b.2.2),())).bind fun r3=>(q44 n ((r2.1.1.1,r2.1.1.2),(r3.1.1.1,r3.1.1.2.1,r3.1.1.2.2),c,())).bind fun r4=>(q32 n ((a.1,a.2),())).bind fun r5=>(q33 n ((b.1,b.2.1,b.2.2),())).bind fun r6=>(q28 n ((r5.1.1.1,r5.1.1.2),(r6.1.1.1,r6.1.1.2.1,r6.1.1.2.2),c,())).bind fun r7=>(q34 n ((r7.1.1.1,r7.1.1.2),(r4.1.1.1,r4.1.1.2),())).bind fun r8=>cond (!r8.1.1) (some ((false,()),())) (cond (!decide (r7.1.2.1=r4.1.2.1)) (some ((false,()),())) ((q32 n ((a.1,a.2),())).bind fun r9=>(q34 n ((r5.1.1.1,r5.1.1.2),(r9.1.1.1,r9.1.1.2),())).bind fun r10=>cond (!r10.1.1) (some ((false,()),())) ((q33 n ((b.1,b.2.1,b.2.2),())).bind fun r11=>(q35 n ((r6.1.1.1,r6.1.1.2.1,r6.1.1.2.2),(r11.1.1.1,r11.1.1.2.1,r11.1.1.2.2),())).bind fun r12=>cond (!r12.1.1) (some ((false,()),())) ((q36 n ((r5.1.1.1,r5.1.1.2),(1:Int),())).bind fun r13=>(q37 n ((r6.1.1.1,r6.1.1.2.1,r6.1.1.2.2),r13.1.1,())).bind fun r14=>cond (decide (r14.1.1 < (0:Int))) (some ((false,()),())) ((q34 n ((r7.1.1.1,r7.1.1.2),(r4.1.1.1,r4.1.1.2),())).bind fun r15=>cond (!r15.1.1) (some ((false,()),())) (cond (!decide (r7.1.2.1=r4.1.2.1)) (some ((false,()),())) ((q36 n ((r7.1.1.1,r7.1.1.2),(1:Int),())).bind fun r16=>(q38 n ((r16.2.1.1,r7.1.1.2),(1:Int),())).bind fun r17=>cond (decide (r17.1.1 < (0:Int))) (some ((false,()),())) (cond (!decide (r17.1.1=r16.1.1)) (some ((false,()),())) ((q32 n ((a.1,a.2),())).bind fun r18=>(q33 n ((b.1,b.2.1,b.2.2),())).bind fun r19=>(q28 n ((r18.1.1.1,r18.1.1.2),(r19.1.1.1,r19.1.1.2.1,r19.1.1.2.2),c,())).bind fun r20=>(q34 n ((r20.1.1.1,r20.1.1.2),(r4.1.1.1,r4.1.1.2),())).bind fun r21=>cond (!r21.1.1) (some ((false,()),())) (cond (!decide (r20.1.2.1=r4.1.2.1)) (some ((false,()),())) ((q38 n ((r16.2.1.1,r7.1.1.2),(1:Int),())).bind fun r22=>cond (decide (r22.1.1 < (0:Int))) (some ((false,()),())) (cond (!decide (r22.1.1=r16.1.1)) (some ((false,()),())) (some ((true,()),()))))))))))))))))
theorem e8_top (n:Nat) (a:List (List NT) × Int) (b:Int × Int × List Int) (c:Int):runF TT G8 an8 Try.f8 c8 ps8 rs8 n (a,b,c,())=st8_top n a b c:=by kernel_rfl
noncomputable def p8 (n:Nat) (a:List (List NT) × Int) (b:Int × Int × List Int) (c:Int):Option R8:=st8_top n a b c
theorem F8_eq (n:Nat) (a:List (List NT) × Int) (b:Int × Int × List Int) (c:Int):runF TT G8 an8 Try.f8 c8 ps8 rs8 n (a,b,c,())=p8 n a b c:=by
 rw [e8_top]
 skip
 try rfl
noncomputable def q8 (n:Nat) (x:argsD ps8):Option R8:=p8 n x.1 x.2.1 x.2.2.1
noncomputable def Sm8:Sm:=⟨ps8,rs8,false,q8⟩
theorem holds8 (hg:GamOK Try.prog G8):Holds Try.prog 8 Sm8:=by
 have:=h0_8 hg
 have e:(runF TT G8 an8 Try.f8 c8 ps8 rs8)=q8:=by
  funext n x
  exact F8_eq n x.1 x.2.1 x.2.2.1
 rw [e] at this
 exact this
theorem gam8:GamOK Try.prog G8:=by
 intro f s h
 unfold G8 at h
 split at h
 ·injection h with h; subst h; exact ⟨⟨Try.f28,c28,Try.func28,by kernel_rfl,by decide +kernel⟩,hh28⟩
 ·injection h with h; subst h; exact ⟨⟨Try.f30,c30,Try.func30,by kernel_rfl,by decide +kernel⟩,hh30⟩
 ·injection h with h; subst h; exact ⟨⟨Try.f31,c31,Try.func31,by kernel_rfl,by decide +kernel⟩,hh31⟩
 ·injection h with h; subst h; exact ⟨⟨Try.f32,c32,Try.func32,by kernel_rfl,by decide +kernel⟩,hh32⟩
 ·injection h with h; subst h; exact ⟨⟨Try.f33,c33,Try.func33,by kernel_rfl,by decide +kernel⟩,hh33⟩
 ·injection h with h; subst h; exact ⟨⟨Try.f34,c34,Try.func34,by kernel_rfl,by decide +kernel⟩,hh34⟩
 ·injection h with h; subst h; exact ⟨⟨Try.f35,c35,Try.func35,by kernel_rfl,by decide +kernel⟩,hh35⟩
 ·injection h with h; subst h; exact ⟨⟨Try.f36,c36,Try.func36,by kernel_rfl,by decide +kernel⟩,hh36⟩
 ·injection h with h; subst h; exact ⟨⟨Try.f37,c37,Try.func37,by kernel_rfl,by decide +kernel⟩,hh37⟩
 ·injection h with h; subst h; exact ⟨⟨Try.f38,c38,Try.func38,by kernel_rfl,by decide +kernel⟩,hh38⟩
 ·injection h with h; subst h; exact ⟨⟨Try.f44,c44,Try.func44,by kernel_rfl,by decide +kernel⟩,hh44⟩
 ·cases h
theorem hh8:Holds Try.prog 8 Sm8:=holds8 gam8
end Go.Proofs.Ytbjgiioppmkpiaa.Rx.S

