/- What the functions of this seat compute, each as a plain function on lists and numbers, with the proof that a call answers so. No condition. -/
import Derived.Test.YtdkaagpkeomhmaaBF1
set_option linter.unusedVariables false
set_option linter.unusedSimpArgs false
namespace Go.Proofs.Ytdkaagpkeomhmaa.Rx.S
open Go Go.RowKit Go.Proofs
set_option maxRecDepth 100000
noncomputable def c38:Code:=(Try.f38.body.getD .skip)
def an38:An:=⟨fun r=>match r with | 4=>⟨[2,3,5],[]⟩ | _=>⟨[],[]⟩,fun _ _=>none⟩
abbrev ps38:List PK:=[.val tVi true,.val tVi true]
abbrev rs38:List RK:=[.val .bool false]
abbrev R38:=retsD rs38 × outsD ps38
noncomputable def G38:Gam:=fun f=>match f with | 39=>some Sm39 | 40=>some Sm40 | 105=>some Sm105 | _=>none
theorem h0_38 (hg:GamOK Try.prog G38):Holds Try.prog 38 ⟨ps38,rs38,false,runF TT G38 an38 Try.f38 c38 ps38 rs38⟩:=holds_of tt_ok hg mixed Try.func38 (by kernel_rfl) (by rfl) (by decide +kernel)
noncomputable def at38:Nat→Pt→List Nat→St→Option R38:=atF TT G38 an38 Try.f38 c38 _ _
def sh38_L4 (x0:Int) (x1 x2:List (Bool × Lq × List Int × Lb)):St:=(St.mk [Uu,Uu,AV.one (SV.bptr 1000000 0),AV.one (SV.bptr 1000001 0),Uu,AV.one (SV.int (Go.IntKind.i64) x0),Uu,Uu,Uu,Uu,Uu,Uu,Uu,Uu,Uu,Uu,Uu,Uu,Uu,Uu,Uu,Uu,Uu,Uu,Uu,Uu,Uu,Uu,Uu,Uu,Uu,Uu,Uu,Uu,Uu,Uu,Uu,Uu,Uu,Uu,Uu,Uu,Uu,Uu,Uu,Uu,Uu,Uu,Uu,Uu,Uu,Uu,Uu,Uu,Uu,Uu,Uu,Uu,Uu,Uu,Uu] ((1000000,(Ent.box ((SV.con (⟨75,Ty.bool.pair ((Ty.row (nat_lit 116) ((Ty.int Go.IntKind.i64).pair ((Ty.int Go.IntKind.i64).pair (Ty.bool.pair Ty.bool)))).pair ((Ty.row (nat_lit 3) (Ty.int Go.IntKind.i64)).pair (Ty.row (nat_lit 9) Ty.str))),x1⟩:Rw)) :: []))) :: ((1000001,(Ent.box ((SV.con (⟨75,Ty.bool.pair ((Ty.row (nat_lit 116) ((Ty.int Go.IntKind.i64).pair ((Ty.int Go.IntKind.i64).pair (Ty.bool.pair Ty.bool)))).pair ((Ty.row (nat_lit 3) (Ty.int Go.IntKind.i64)).pair (Ty.row (nat_lit 9) Ty.str))),x2⟩:Rw)) :: []))) :: [])))
noncomputable def st38_top (n:Nat) (lL4:Int→(List (Bool × Lq × List Int × Lb))→(List (Bool × Lq × List Int × Lb))→Option R38) (a:List (Bool × Lq × List Int × Lb)) (b:List (Bool × Lq × List Int × Lb)):Option R38 :=
 cond (!decide ((↑a.length:Int)=(↑b.length:Int))) (some ((false,()),())) (lL4 ((0:Int)) (a) (b))
noncomputable def st38_L4 (n:Nat) (lL4:Int→(List (Bool × Lq × List Int × Lb))→(List (Bool × Lq × List Int × Lb))→Option R38) (x0:Int) (x1 x2:List (Bool × Lq × List Int × Lb)):Option R38 :=
 cond (decide (x0 < (↑x1.length:Int))) (cond (decide ((0:Int)≤x0)) (cond (decide (x0 < (↑x1.length:Int))) (cond (decide ((0:Int)≤x0)) (cond (decide (x0 < (↑x2.length:Int))) (cond (!(x1.getD x0.toNat (false,[],[],[])).1 == (x2.getD x0.toNat (false,[],[],[])).1) (some ((false,()),())) ((q40 n ((x1.getD x0.toNat (false,[],[],[])).2.1,(x2.getD x0.toNat (false,[],[],[])).2.1,())).bind fun r1=>cond (!r1.1.1) (some ((false,()),())) ((q105 n ((x1.getD x0.toNat (false,[],[],[])).2.2.1,(x2.getD x0.toNat (false,[],[],[])).2.2.1,())).bind fun r2=>cond (!r2.1.1) (some ((false,()),())) ((q39 n ((x1.getD x0.toNat (false,[],[],[])).2.2.2,(x2.getD x0.toNat (false,[],[],[])).2.2.2,())).bind fun r3=>cond (!r3.1.1) (some ((false,()),())) (lL4 (Go.IntKind.i64.wrap (x0 + (1:Int))) (x1) (x2)))))) (none)) (none)) (none)) (none)) (some ((true,()),()))
theorem e38_top (n:Nat) (a:List (Bool × Lq × List Int × Lb)) (b:List (Bool × Lq × List Int × Lb)):runF TT G38 an38 Try.f38 c38 ps38 rs38 n (a,b,())=st38_top n (fun x0 x1 x2=>at38 n (.head 4) [n] (sh38_L4 x0 x1 x2)) a b:=by kernel_rfl
theorem e38_L4_0 (n:Nat) (x0:Int) (x1 x2:List (Bool × Lq × List Int × Lb)):at38 n (.head 4) [0] (sh38_L4 x0 x1 x2)=none:=by kernel_rfl
theorem e38_L4 (n:Nat) (m4:Nat) (x0:Int) (x1 x2:List (Bool × Lq × List Int × Lb)):at38 n (.head 4) [m4 + 1] (sh38_L4 x0 x1 x2)=st38_L4 n (fun x0 x1 x2=>at38 n (.head 4) [m4] (sh38_L4 x0 x1 x2)) x0 x1 x2:=by kernel_rfl
noncomputable def p38_L4 (n:Nat):Nat→Int→(List (Bool × Lq × List Int × Lb))→(List (Bool × Lq × List Int × Lb))→Option R38
 | 0,_,_,_=>none
 | m + 1,x0,x1,x2=>st38_L4 n (p38_L4 n m) x0 x1 x2
noncomputable def p38 (n:Nat) (a:List (Bool × Lq × List Int × Lb)) (b:List (Bool × Lq × List Int × Lb)):Option R38:=st38_top n (p38_L4 n n) a b
theorem t38_L4 (n:Nat):∀ (m4:Nat) (x0:Int) (x1 x2:List (Bool × Lq × List Int × Lb)),at38 n (.head 4) [m4] (sh38_L4 x0 x1 x2)=p38_L4 n m4 x0 x1 x2:=by
 intro m
 induction m with
 | zero=>intros; rw [e38_L4_0]; rfl
 | succ m ih =>
  intros
  rw [e38_L4]
  try simp only [ih]
  rfl
theorem F38_eq (n:Nat) (a:List (Bool × Lq × List Int × Lb)) (b:List (Bool × Lq × List Int × Lb)):runF TT G38 an38 Try.f38 c38 ps38 rs38 n (a,b,())=p38 n a b:=by
 rw [e38_top]
 simp only [t38_L4]
 try rfl
noncomputable def q38 (n:Nat) (x:argsD ps38):Option R38:=p38 n x.1 x.2.1
noncomputable def Sm38:Sm:=⟨ps38,rs38,false,q38⟩
theorem holds38 (hg:GamOK Try.prog G38):Holds Try.prog 38 Sm38:=by
 have:=h0_38 hg
 have e:(runF TT G38 an38 Try.f38 c38 ps38 rs38)=q38:=by
  funext n x
  exact F38_eq n x.1 x.2.1
 rw [e] at this
 exact this
theorem gam38:GamOK Try.prog G38:=by
 intro f s h
 unfold G38 at h
 split at h
 ·injection h with h; subst h; exact ⟨⟨Try.f39,c39,Try.func39,by kernel_rfl,by decide +kernel⟩,hh39⟩
 ·injection h with h; subst h; exact ⟨⟨Try.f40,c40,Try.func40,by kernel_rfl,by decide +kernel⟩,hh40⟩
 ·injection h with h; subst h; exact ⟨⟨Try.f105,c105,Try.func105,by kernel_rfl,by decide +kernel⟩,hh105⟩
 ·cases h
theorem hh38:Holds Try.prog 38 Sm38:=holds38 gam38
end Go.Proofs.Ytdkaagpkeomhmaa.Rx.S

namespace Go.Proofs.Ytdkaagpkeomhmaa.Rx.S
open Go Go.RowKit Go.Proofs
set_option maxRecDepth 100000
noncomputable def c106:Code:=(Try.f106.body.getD .skip)
def an106:An:=⟨fun _=>⟨[],[]⟩,fun _ _=>none⟩
abbrev ps106:List PK:=[.bx tRd]
abbrev rs106:List RK:=[.val i64 false]
abbrev R106:=retsD rs106 × outsD ps106
noncomputable def G106:Gam:=fun f=>match f with | 48=>some Sm48 | _=>none
theorem h0_106 (hg:GamOK Try.prog G106):Holds Try.prog 106 ⟨ps106,rs106,true,runF TT G106 an106 Try.f106 c106 ps106 rs106⟩:=holds_of tt_ok hg mixed Try.func106 (by kernel_rfl) (by rfl) (by decide +kernel)
noncomputable def st106_top (n:Nat) (a:List Int × Int):Option R106 :=
 (q48 n ((a.1,a.2),(20:Int),())).bind fun r0=>cond (decide (r0.1.1=(0:Int))) ((q48 n ((r0.2.1.1,r0.2.1.2),(3:Int),())).bind fun r1=>cond (decide ((0:Int)≤r1.1.1)) (cond (decide (r1.1.1 < (↑[(-1:Int),(63:Int),(64:Int)].length:Int))) (some (([(-1:Int),(63:Int),(64:Int)].getD (Int.toNat r1.1.1) (0:Int),()),((r1.2.1.1,r1.2.1.2),()))) (none)) (none)) ((q48 n ((r0.2.1.1,r0.2.1.2),(64:Int),())).bind fun r2=>some ((r2.1.1,()),((r2.2.1.1,r2.2.1.2),())))
theorem e106_top (n:Nat) (a:List Int × Int):runF TT G106 an106 Try.f106 c106 ps106 rs106 n (a,())=st106_top n a:=by kernel_rfl
noncomputable def p106 (n:Nat) (a:List Int × Int):Option R106:=st106_top n a
theorem F106_eq (n:Nat) (a:List Int × Int):runF TT G106 an106 Try.f106 c106 ps106 rs106 n (a,())=p106 n a:=by
 rw [e106_top]
 skip
 try rfl
noncomputable def q106 (n:Nat) (x:argsD ps106):Option R106:=p106 n x.1
noncomputable def Sm106:Sm:=⟨ps106,rs106,true,q106⟩
theorem holds106 (hg:GamOK Try.prog G106):Holds Try.prog 106 Sm106:=by
 have:=h0_106 hg
 have e:(runF TT G106 an106 Try.f106 c106 ps106 rs106)=q106:=by
  funext n x
  exact F106_eq n x.1
 rw [e] at this
 exact this
theorem gam106:GamOK Try.prog G106:=by
 intro f s h
 unfold G106 at h
 split at h
 ·injection h with h; subst h; exact ⟨⟨Try.f48,c48,Try.func48,by kernel_rfl,by decide +kernel⟩,hh48⟩
 ·cases h
theorem hh106:Holds Try.prog 106 Sm106:=holds106 gam106
end Go.Proofs.Ytdkaagpkeomhmaa.Rx.S

namespace Go.Proofs.Ytdkaagpkeomhmaa.Rx.S
open Go Go.RowKit Go.Proofs
set_option maxRecDepth 100000
noncomputable def c43:Code:=(Try.f43.body.getD .skip)
def an43:An:=⟨fun _=>⟨[],[]⟩,fun _ _=>none⟩
abbrev ps43:List PK:=[.val (.row 5 (.int .u8)) false]
abbrev rs43:List RK:=[.own tVi true,.val i64 false,.val i64 false,.val i64 false]
abbrev R43:=retsD rs43 × outsD ps43
noncomputable def G43:Gam:=fun f=>match f with | 45=>some Sm45 | 46=>some Sm46 | 48=>some Sm48 | 104=>some Sm104 | 106=>some Sm106 | _=>none
theorem h0_43 (hg:GamOK Try.prog G43):Holds Try.prog 43 ⟨ps43,rs43,true,runF TT G43 an43 Try.f43 c43 ps43 rs43⟩:=holds_of tt_ok hg mixed Try.func43 (by kernel_rfl) (by rfl) (by decide +kernel)
noncomputable def st43_top (n:Nat) (a:List Int):Option R43 :=
 (q45 n (a,())).bind fun r0=>(q46 n ((r0.1.1.1,r0.1.1.2),())).bind fun r1=>(q104 n (((r1.1.1.1.1,r1.1.1.1.2),(r1.1.1.2.1.1,r1.1.1.2.1.2),r1.1.1.2.2.1,r1.1.1.2.2.2),())).bind fun r2=>(q48 n ((r1.2.1.1,r1.2.1.2),(7:Int),())).bind fun r3=>cond (decide ((0:Int)≤r3.1.1)) (cond (decide (r3.1.1 < (↑[(0:Int),(0:Int),(0:Int),(1:Int),(2:Int),(-1:Int),(5:Int)].length:Int))) ((q106 n ((r3.2.1.1,r3.2.1.2),())).bind fun r4=>(q48 n ((r4.2.1.1,r4.2.1.2),(258:Int),())).bind fun r5=>some ((r2.1.1,([(0:Int),(0:Int),(0:Int),(1:Int),(2:Int),(-1:Int),(5:Int)].getD (Int.toNat r3.1.1) (0:Int),(r4.1.1,(Go.IntKind.i64.wrap (r5.1.1 - (1:Int)),())))),())) (none)) (none)
theorem e43_top (n:Nat) (a:List Int):runF TT G43 an43 Try.f43 c43 ps43 rs43 n (a,())=st43_top n a:=by kernel_rfl
noncomputable def p43 (n:Nat) (a:List Int):Option R43:=st43_top n a
theorem F43_eq (n:Nat) (a:List Int):runF TT G43 an43 Try.f43 c43 ps43 rs43 n (a,())=p43 n a:=by
 rw [e43_top]
 skip
 try rfl
noncomputable def q43 (n:Nat) (x:argsD ps43):Option R43:=p43 n x.1
noncomputable def Sm43:Sm:=⟨ps43,rs43,true,q43⟩
theorem holds43 (hg:GamOK Try.prog G43):Holds Try.prog 43 Sm43:=by
 have:=h0_43 hg
 have e:(runF TT G43 an43 Try.f43 c43 ps43 rs43)=q43:=by
  funext n x
  exact F43_eq n x.1
 rw [e] at this
 exact this
theorem gam43:GamOK Try.prog G43:=by
 intro f s h
 unfold G43 at h
 split at h
 ·injection h with h; subst h; exact ⟨⟨Try.f45,c45,Try.func45,by kernel_rfl,by decide +kernel⟩,hh45⟩
 ·injection h with h; subst h; exact ⟨⟨Try.f46,c46,Try.func46,by kernel_rfl,by decide +kernel⟩,hh46⟩
 ·injection h with h; subst h; exact ⟨⟨Try.f48,c48,Try.func48,by kernel_rfl,by decide +kernel⟩,hh48⟩
 ·injection h with h; subst h; exact ⟨⟨Try.f104,c104,Try.func104,by kernel_rfl,by decide +kernel⟩,hh104⟩
 ·injection h with h; subst h; exact ⟨⟨Try.f106,c106,Try.func106,by kernel_rfl,by decide +kernel⟩,hh106⟩
 ·cases h
theorem hh43:Holds Try.prog 43 Sm43:=holds43 gam43
end Go.Proofs.Ytdkaagpkeomhmaa.Rx.S

namespace Go.Proofs.Ytdkaagpkeomhmaa.Rx.S
open Go Go.RowKit Go.Proofs
set_option maxRecDepth 100000
noncomputable def c44:Code:=(Try.f44.body.getD .skip)
def an44:An:=⟨fun _=>⟨[],[]⟩,fun _ _=>none⟩
abbrev ps44:List PK:=[.val tVi true,.val i64 false,.val i64 false]
abbrev rs44:List RK:=[.val i64 false,.val i64 false]
abbrev R44:=retsD rs44 × outsD ps44
noncomputable def G44:Gam:=fun f=>match f with | 59=>some Sm59 | 74=>some Sm74 | 76=>some Sm76 | _=>none
theorem h0_44 (hg:GamOK Try.prog G44):Holds Try.prog 44 ⟨ps44,rs44,false,runF TT G44 an44 Try.f44 c44 ps44 rs44⟩:=holds_of tt_ok hg mixed Try.func44 (by kernel_rfl) (by rfl) (by decide +kernel)
noncomputable def st44_top (n:Nat) (a:List (Bool × Lq × List Int × Lb)) (b:Int) (c:Int):Option R44 :=
 (q74 n (a,b,())).bind fun r0=>cond (!r0.1.1) (some (((-1:Int),((1:Int),())),())) ((q59 n (c,(0:Int),(63:Int),())).bind fun r1=>cond (!r1.1.1) (some (((-1:Int),((1:Int),())),())) (cond (decide ((0:Int)≤b)) (cond (decide (b < (↑a.length:Int))) ((q76 n (((a.getD b.toNat (false,[],[],[])).1,(a.getD b.toNat (false,[],[],[])).2.1,(a.getD b.toNat (false,[],[],[])).2.2.1,(a.getD b.toNat (false,[],[],[])).2.2.2),Go.IntKind.i64.wrap (c.tdiv (4:Int)),())).bind fun r2=>cond (decide (r2.1.1 < (0:Int))) (some (((-1:Int),((2:Int),())),())) (cond (decide ((0:Int)≤b)) (cond (decide (b < (↑a.length:Int))) (cond (decide ((0:Int)≤Go.IntKind.i64.wrap (c.tdiv (4:Int)))) (cond (decide (Go.IntKind.i64.wrap (c.tdiv (4:Int)) < (↑(List.length (a.getD b.toNat (false,[],[],[])).2.2.2):Int))) (cond (!decide ((↑(ByteArray.size (List.getD (a.getD b.toNat (false,[],[],[])).2.2.2 (Go.IntKind.i64.wrap (c.tdiv (4:Int))).toNat ByteArray.empty)):Int)=(4:Int))) (some (((-1:Int),((2:Int),())),())) (cond (decide ((0:Int)≤b)) (cond (decide (b < (↑a.length:Int))) (cond (decide ((0:Int)≤Go.IntKind.i64.wrap (c.tdiv (4:Int)))) (cond (decide (Go.IntKind.i64.wrap (c.tdiv (4:Int)) < (↑(List.length (a.getD b.toNat (false,[],[],[])).2.2.2):Int))) (cond (decide ((0:Int)≤c.tmod (4:Int))) (cond (decide (c.tmod (4:Int) < (↑(ByteArray.size (List.getD (a.getD b.toNat (false,[],[],[])).2.2.2 (Go.IntKind.i64.wrap (c.tdiv (4:Int))).toNat ByteArray.empty)):Int))) (some ((Go.IntKind.i64.wrap (↑((List.getD (a.getD b.toNat (false,[],[],[])).2.2.2 (Go.IntKind.i64.wrap (c.tdiv (4:Int))).toNat ByteArray.empty).data.toList.getD (c.tmod (4:Int)).toNat (0:UInt8)).toNat:Int),((0:Int),())),())) (none)) (none)) (none)) (none)) (none)) (none))) (none)) (none)) (none)) (none))) (none)) (none)))
theorem e44_top (n:Nat) (a:List (Bool × Lq × List Int × Lb)) (b:Int) (c:Int):runF TT G44 an44 Try.f44 c44 ps44 rs44 n (a,b,c,())=st44_top n a b c:=by kernel_rfl
noncomputable def p44 (n:Nat) (a:List (Bool × Lq × List Int × Lb)) (b:Int) (c:Int):Option R44:=st44_top n a b c
theorem F44_eq (n:Nat) (a:List (Bool × Lq × List Int × Lb)) (b:Int) (c:Int):runF TT G44 an44 Try.f44 c44 ps44 rs44 n (a,b,c,())=p44 n a b c:=by
 rw [e44_top]
 skip
 try rfl
noncomputable def q44 (n:Nat) (x:argsD ps44):Option R44:=p44 n x.1 x.2.1 x.2.2.1
noncomputable def Sm44:Sm:=⟨ps44,rs44,false,q44⟩
theorem holds44 (hg:GamOK Try.prog G44):Holds Try.prog 44 Sm44:=by
 have:=h0_44 hg
 have e:(runF TT G44 an44 Try.f44 c44 ps44 rs44)=q44:=by
  funext n x
  exact F44_eq n x.1 x.2.1 x.2.2.1
 rw [e] at this
 exact this
theorem gam44:GamOK Try.prog G44:=by
 intro f s h
 unfold G44 at h
 split at h
 ·injection h with h; subst h; exact ⟨⟨Try.f59,c59,Try.func59,by kernel_rfl,by decide +kernel⟩,hh59⟩
 ·injection h with h; subst h; exact ⟨⟨Try.f74,c74,Try.func74,by kernel_rfl,by decide +kernel⟩,hh74⟩
 ·injection h with h; subst h; exact ⟨⟨Try.f76,c76,Try.func76,by kernel_rfl,by decide +kernel⟩,hh76⟩
 ·cases h
theorem hh44:Holds Try.prog 44 Sm44:=holds44 gam44
end Go.Proofs.Ytdkaagpkeomhmaa.Rx.S

namespace Go.Proofs.Ytdkaagpkeomhmaa.Rx.S
open Go Go.RowKit Go.Proofs
set_option maxRecDepth 100000
noncomputable def c11:Code:=(Try.f11.body.getD .skip)
def an11:An:=⟨fun r=>match r with | 12=>⟨[3,4,5,6,7,12,13,14],[]⟩ | 15=>⟨[3,4,5,6,7,12,13,14,15],[]⟩ | _=>⟨[],[]⟩,fun _ _=>none⟩
abbrev ps11:List PK:=[.val (.row 5 (.int .u8)) false]
abbrev rs11:List RK:=[.val .bool false]
abbrev R11:=retsD rs11 × outsD ps11
noncomputable def G11:Gam:=fun f=>match f with | 19=>some Sm19 | 21=>some Sm21 | 38=>some Sm38 | 43=>some Sm43 | 44=>some Sm44 | _=>none
theorem h0_11 (hg:GamOK Try.prog G11):Holds Try.prog 11 ⟨ps11,rs11,false,runF TT G11 an11 Try.f11 c11 ps11 rs11⟩:=holds_of tt_ok hg mixed Try.func11 (by kernel_rfl) (by rfl) (by decide +kernel)
noncomputable def at11:Nat→Pt→List Nat→St→Option R11:=atF TT G11 an11 Try.f11 c11 _ _
def sh11_L15 (x0 x1 x2 x3 x4 x5 x6:Int) (x7 x8:List (Bool × Lq × List Int × Lb)):St:=(St.mk [Uu,Uu,Uu,AV.one (SV.bptr 1000000 0),AV.one (SV.int (Go.IntKind.i64) x0),AV.one (SV.int (Go.IntKind.i64) x1),AV.one (SV.int (Go.IntKind.i64) x2),AV.one (SV.bptr 1000001 0),Uu,Uu,Uu,Uu,AV.one (SV.int (Go.IntKind.i64) x3),AV.one (SV.int (Go.IntKind.i64) x4),AV.one (SV.int (Go.IntKind.i64) x5),AV.one (SV.int (Go.IntKind.i64) x6),Uu,Uu,Uu,Uu,Uu,Uu,Uu,Uu,Uu,Uu,Uu,Uu,Uu,Uu,Uu,Uu,Uu,Uu,Uu,Uu,Uu,Uu,Uu,Uu,Uu,Uu,Uu,Uu,Uu,Uu,Uu,Uu,Uu,Uu,Uu,Uu,Uu,Uu,Uu,Uu,Uu,Uu,Uu,Uu,Uu,Uu,Uu,Uu,Uu,Uu,Uu,Uu,Uu,Uu,Uu,Uu,Uu,Uu,Uu,Uu,Uu,Uu,Uu,Uu,Uu,Uu,Uu,Uu,Uu,Uu,Uu,Uu,Uu,Uu,Uu,Uu,Uu,Uu,Uu,Uu,Uu,Uu,Uu,Uu,Uu,Uu,Uu,Uu,Uu,Uu,Uu,Uu,Uu,Uu,Uu,Uu,Uu,Uu,Uu,Uu,Uu,Uu,Uu,Uu,Uu,Uu,Uu,Uu,Uu,Uu,Uu,Uu,Uu,Uu,Uu,Uu,Uu,Uu,Uu,Uu,Uu,Uu,Uu,Uu,Uu,Uu,Uu,Uu,Uu,Uu,Uu,Uu,Uu,Uu,Uu,Uu,Uu,Uu,Uu,Uu,Uu,Uu,Uu,Uu,Uu,Uu,Uu] ((1000000,(Ent.box ((SV.ref 1000002 0 [] Option.none) :: []))) :: ((1000001,(Ent.box ((SV.ref 1000003 0 [] Option.none) :: []))) :: ((1000002,(Ent.row (⟨75,Ty.bool.pair ((Ty.row (nat_lit 116) ((Ty.int Go.IntKind.i64).pair ((Ty.int Go.IntKind.i64).pair (Ty.bool.pair Ty.bool)))).pair ((Ty.row (nat_lit 3) (Ty.int Go.IntKind.i64)).pair (Ty.row (nat_lit 9) Ty.str))),x7⟩:Rw) 0 Option.none)) :: ((1000003,(Ent.row (⟨75,Ty.bool.pair ((Ty.row (nat_lit 116) ((Ty.int Go.IntKind.i64).pair ((Ty.int Go.IntKind.i64).pair (Ty.bool.pair Ty.bool)))).pair ((Ty.row (nat_lit 3) (Ty.int Go.IntKind.i64)).pair (Ty.row (nat_lit 9) Ty.str))),x8⟩:Rw) 0 Option.none)) :: [])))))
def sh11_L12 (x0 x1 x2 x3 x4 x5:Int) (x6 x7:List (Bool × Lq × List Int × Lb)):St:=(St.mk [Uu,Uu,Uu,AV.one (SV.bptr 1000000 0),AV.one (SV.int (Go.IntKind.i64) x0),AV.one (SV.int (Go.IntKind.i64) x1),AV.one (SV.int (Go.IntKind.i64) x2),AV.one (SV.bptr 1000001 0),Uu,Uu,Uu,Uu,AV.one (SV.int (Go.IntKind.i64) x3),AV.one (SV.int (Go.IntKind.i64) x4),AV.one (SV.int (Go.IntKind.i64) x5),Uu,Uu,Uu,Uu,Uu,Uu,Uu,Uu,Uu,Uu,Uu,Uu,Uu,Uu,Uu,Uu,Uu,Uu,Uu,Uu,Uu,Uu,Uu,Uu,Uu,Uu,Uu,Uu,Uu,Uu,Uu,Uu,Uu,Uu,Uu,Uu,Uu,Uu,Uu,Uu,Uu,Uu,Uu,Uu,Uu,Uu,Uu,Uu,Uu,Uu,Uu,Uu,Uu,Uu,Uu,Uu,Uu,Uu,Uu,Uu,Uu,Uu,Uu,Uu,Uu,Uu,Uu,Uu,Uu,Uu,Uu,Uu,Uu,Uu,Uu,Uu,Uu,Uu,Uu,Uu,Uu,Uu,Uu,Uu,Uu,Uu,Uu,Uu,Uu,Uu,Uu,Uu,Uu,Uu,Uu,Uu,Uu,Uu,Uu,Uu,Uu,Uu,Uu,Uu,Uu,Uu,Uu,Uu,Uu,Uu,Uu,Uu,Uu,Uu,Uu,Uu,Uu,Uu,Uu,Uu,Uu,Uu,Uu,Uu,Uu,Uu,Uu,Uu,Uu,Uu,Uu,Uu,Uu,Uu,Uu,Uu,Uu,Uu,Uu,Uu,Uu,Uu,Uu,Uu,Uu,Uu,Uu,Uu] ((1000000,(Ent.box ((SV.ref 1000002 0 [] Option.none) :: []))) :: ((1000001,(Ent.box ((SV.ref 1000003 0 [] Option.none) :: []))) :: ((1000002,(Ent.row (⟨75,Ty.bool.pair ((Ty.row (nat_lit 116) ((Ty.int Go.IntKind.i64).pair ((Ty.int Go.IntKind.i64).pair (Ty.bool.pair Ty.bool)))).pair ((Ty.row (nat_lit 3) (Ty.int Go.IntKind.i64)).pair (Ty.row (nat_lit 9) Ty.str))),x6⟩:Rw) 0 Option.none)) :: ((1000003,(Ent.row (⟨75,Ty.bool.pair ((Ty.row (nat_lit 116) ((Ty.int Go.IntKind.i64).pair ((Ty.int Go.IntKind.i64).pair (Ty.bool.pair Ty.bool)))).pair ((Ty.row (nat_lit 3) (Ty.int Go.IntKind.i64)).pair (Ty.row (nat_lit 9) Ty.str))),x7⟩:Rw) 0 Option.none)) :: [])))))
noncomputable def st11_top (n:Nat) (lL12:Int→Int→Int→Int→Int→Int→(List (Bool × Lq × List Int × Lb))→(List (Bool × Lq × List Int × Lb))→Option R11) (a:List Int):Option R11 :=
 cond (decide ((1048576:Int) < (↑a.length:Int))) (some ((true,()),())) ((q43 n (a,())).bind fun r0=>(q21 n (r0.1.1,r0.1.2.1,r0.1.2.2.1,r0.1.2.2.2.1,())).bind fun r1=>(q19 n (r0.1.1,r0.1.2.1,r0.1.2.2.1,r0.1.2.2.2.1,())).bind fun r2=>(q38 n (r1.1.1,r2.1.1,())).bind fun r3=>cond (r3.1.1) (cond (!decide (r1.1.2.1=r2.1.2.1)) (some ((decide (r1.1.2.1=r2.1.2.1),()),())) (cond (!decide (r1.1.2.1=(0:Int))) (some ((decide (r1.1.2.1=r2.1.2.1),()),())) (cond (decide ((0:Int)≤r0.1.2.1)) (cond (decide (r0.1.2.1 < (↑(List.length r0.1.1):Int))) (cond (decide ((0:Int)≤Go.IntKind.i64.wrap (Int.tdiv r0.1.2.2.1 (4:Int)))) (cond (decide (Go.IntKind.i64.wrap (Int.tdiv r0.1.2.2.1 (4:Int)) < (↑(List.length (List.getD r0.1.1 (Int.toNat r0.1.2.1) (false,[],[],[])).2.2.1):Int))) (lL12 (r0.1.2.1) (r0.1.2.2.1) (r0.1.2.2.2.1) (Go.IntKind.i64.wrap (Int.tdiv r0.1.2.2.1 (4:Int))) (List.getD (List.getD r0.1.1 (Int.toNat r0.1.2.1) (false,[],[],[])).2.2.1 (Go.IntKind.i64.wrap (Int.tdiv r0.1.2.2.1 (4:Int))).toNat (0:Int)) ((0:Int)) (r0.1.1) (r1.1.1)) (none)) (none)) (none)) (none)))) (some ((false,()),())))
noncomputable def st11_L15 (n:Nat) (lL15:Int→Int→Int→Int→Int→Int→Int→(List (Bool × Lq × List Int × Lb))→(List (Bool × Lq × List Int × Lb))→Option R11) (lL12:Int→Int→Int→Int→Int→Int→(List (Bool × Lq × List Int × Lb))→(List (Bool × Lq × List Int × Lb))→Option R11) (x0 x1 x2 x3 x4 x5 x6:Int) (x7 x8:List (Bool × Lq × List Int × Lb)):Option R11 :=
 cond (decide (x6 < (64:Int))) ((q44 n (x7,x5,x6,())).bind fun r6=>(q44 n (x8,x5,x6,())).bind fun r7=>cond (decide (x5=x0)) (cond (decide (Go.IntKind.i64.wrap (x6.tdiv (4:Int))=x3)) (cond (!decide (r6.1.2.1=r7.1.2.1)) (some ((false,()),())) (cond (decide (x6.tmod (4:Int)=x1.tmod (4:Int))) (cond (decide (r6.1.2.1=(0:Int))) (cond (!decide (r7.1.1=x2)) (some ((false,()),())) (cond (!decide (x6.tmod (4:Int)=x1.tmod (4:Int))) (cond (!decide (r6.1.1=r7.1.1)) (some ((false,()),())) (lL15 (x0) (x1) (x2) (x3) (x4) (x5) (Go.IntKind.i64.wrap (x6 + (1:Int))) (x7) (x8))) (lL15 (x0) (x1) (x2) (x3) (x4) (x5) (Go.IntKind.i64.wrap (x6 + (1:Int))) (x7) (x8)))) (cond (!decide (x6.tmod (4:Int)=x1.tmod (4:Int))) (cond (!decide (r6.1.1=r7.1.1)) (some ((false,()),())) (lL15 (x0) (x1) (x2) (x3) (x4) (x5) (Go.IntKind.i64.wrap (x6 + (1:Int))) (x7) (x8))) (lL15 (x0) (x1) (x2) (x3) (x4) (x5) (Go.IntKind.i64.wrap (x6 + (1:Int))) (x7) (x8)))) (cond (!decide (x6.tmod (4:Int)=x1.tmod (4:Int))) (cond (!decide (r6.1.1=r7.1.1)) (some ((false,()),())) (lL15 (x0) (x1) (x2) (x3) (x4) (x5) (Go.IntKind.i64.wrap (x6 + (1:Int))) (x7) (x8))) (lL15 (x0) (x1) (x2) (x3) (x4) (x5) (Go.IntKind.i64.wrap (x6 + (1:Int))) (x7) (x8))))) (cond (decide (r6.1.2.1=(0:Int))) (cond (!decide (x4=(0:Int))) (cond (decide ((0:Int)≤x5)) (cond (decide (x5 < (↑x7.length:Int))) (cond (decide ((0:Int)≤Go.IntKind.i64.wrap (x6.tdiv (4:Int)))) (cond (decide (Go.IntKind.i64.wrap (x6.tdiv (4:Int)) < (↑(List.length (x7.getD x5.toNat (false,[],[],[])).2.2.1):Int))) (cond (decide (List.getD (x7.getD x5.toNat (false,[],[],[])).2.2.1 (Go.IntKind.i64.wrap (x6.tdiv (4:Int))).toNat (0:Int)=x4)) (cond (!decide (r6.1.2.1=r7.1.2.1)) (some ((false,()),())) (cond (decide (x6.tmod (4:Int)=x1.tmod (4:Int))) (cond (decide (r6.1.2.1=(0:Int))) (cond (!decide (r7.1.1=x2)) (some ((false,()),())) (cond (!decide (x6.tmod (4:Int)=x1.tmod (4:Int))) (cond (!decide (r6.1.1=r7.1.1)) (some ((false,()),())) (lL15 (x0) (x1) (x2) (x3) (x4) (x5) (Go.IntKind.i64.wrap (x6 + (1:Int))) (x7) (x8))) (lL15 (x0) (x1) (x2) (x3) (x4) (x5) (Go.IntKind.i64.wrap (x6 + (1:Int))) (x7) (x8)))) (cond (!decide (x6.tmod (4:Int)=x1.tmod (4:Int))) (cond (!decide (r6.1.1=r7.1.1)) (some ((false,()),())) (lL15 (x0) (x1) (x2) (x3) (x4) (x5) (Go.IntKind.i64.wrap (x6 + (1:Int))) (x7) (x8))) (lL15 (x0) (x1) (x2) (x3) (x4) (x5) (Go.IntKind.i64.wrap (x6 + (1:Int))) (x7) (x8)))) (cond (!decide (x6.tmod (4:Int)=x1.tmod (4:Int))) (cond (!decide (r6.1.1=r7.1.1)) (some ((false,()),())) (lL15 (x0) (x1) (x2) (x3) (x4) (x5) (Go.IntKind.i64.wrap (x6 + (1:Int))) (x7) (x8))) (lL15 (x0) (x1) (x2) (x3) (x4) (x5) (Go.IntKind.i64.wrap (x6 + (1:Int))) (x7) (x8))))) (cond (!decide (r6.1.2.1=r7.1.2.1)) (some ((false,()),())) (cond (!decide (r6.1.1=r7.1.1)) (some ((false,()),())) (lL15 (x0) (x1) (x2) (x3) (x4) (x5) (Go.IntKind.i64.wrap (x6 + (1:Int))) (x7) (x8))))) (none)) (none)) (none)) (none)) (cond (!decide (r6.1.2.1=r7.1.2.1)) (some ((false,()),())) (cond (!decide (r6.1.1=r7.1.1)) (some ((false,()),())) (lL15 (x0) (x1) (x2) (x3) (x4) (x5) (Go.IntKind.i64.wrap (x6 + (1:Int))) (x7) (x8))))) (cond (!decide (r6.1.2.1=r7.1.2.1)) (some ((false,()),())) (cond (!decide (r6.1.1=r7.1.1)) (some ((false,()),())) (lL15 (x0) (x1) (x2) (x3) (x4) (x5) (Go.IntKind.i64.wrap (x6 + (1:Int))) (x7) (x8)))))) (cond (decide (r6.1.2.1=(0:Int))) (cond (!decide (x4=(0:Int))) (cond (decide ((0:Int)≤x5)) (cond (decide (x5 < (↑x7.length:Int))) (cond (decide ((0:Int)≤Go.IntKind.i64.wrap (x6.tdiv (4:Int)))) (cond (decide (Go.IntKind.i64.wrap (x6.tdiv (4:Int)) < (↑(List.length (x7.getD x5.toNat (false,[],[],[])).2.2.1):Int))) (cond (decide (List.getD (x7.getD x5.toNat (false,[],[],[])).2.2.1 (Go.IntKind.i64.wrap (x6.tdiv (4:Int))).toNat (0:Int)=x4)) (cond (!decide (r6.1.2.1=r7.1.2.1)) (some ((false,()),())) (cond (decide (x6.tmod (4:Int)=x1.tmod (4:Int))) (cond (decide (r6.1.2.1=(0:Int))) (cond (!decide (r7.1.1=x2)) (some ((false,()),())) (cond (!decide (x6.tmod (4:Int)=x1.tmod (4:Int))) (cond (!decide (r6.1.1=r7.1.1)) (some ((false,()),())) (lL15 (x0) (x1) (x2) (x3) (x4) (x5) (Go.IntKind.i64.wrap (x6 + (1:Int))) (x7) (x8))) (lL15 (x0) (x1) (x2) (x3) (x4) (x5) (Go.IntKind.i64.wrap (x6 + (1:Int))) (x7) (x8)))) (cond (!decide (x6.tmod (4:Int)=x1.tmod (4:Int))) (cond (!decide (r6.1.1=r7.1.1)) (some ((false,()),())) (lL15 (x0) (x1) (x2) (x3) (x4) (x5) (Go.IntKind.i64.wrap (x6 + (1:Int))) (x7) (x8))) (lL15 (x0) (x1) (x2) (x3) (x4) (x5) (Go.IntKind.i64.wrap (x6 + (1:Int))) (x7) (x8)))) (cond (!decide (x6.tmod (4:Int)=x1.tmod (4:Int))) (cond (!decide (r6.1.1=r7.1.1)) (some ((false,()),())) (lL15 (x0) (x1) (x2) (x3) (x4) (x5) (Go.IntKind.i64.wrap (x6 + (1:Int))) (x7) (x8))) (lL15 (x0) (x1) (x2) (x3) (x4) (x5) (Go.IntKind.i64.wrap (x6 + (1:Int))) (x7) (x8))))) (cond (!decide (r6.1.2.1=r7.1.2.1)) (some ((false,()),())) (cond (!decide (r6.1.1=r7.1.1)) (some ((false,()),())) (lL15 (x0) (x1) (x2) (x3) (x4) (x5) (Go.IntKind.i64.wrap (x6 + (1:Int))) (x7) (x8))))) (none)) (none)) (none)) (none)) (cond (!decide (r6.1.2.1=r7.1.2.1)) (some ((false,()),())) (cond (!decide (r6.1.1=r7.1.1)) (some ((false,()),())) (lL15 (x0) (x1) (x2) (x3) (x4) (x5) (Go.IntKind.i64.wrap (x6 + (1:Int))) (x7) (x8))))) (cond (!decide (r6.1.2.1=r7.1.2.1)) (some ((false,()),())) (cond (!decide (r6.1.1=r7.1.1)) (some ((false,()),())) (lL15 (x0) (x1) (x2) (x3) (x4) (x5) (Go.IntKind.i64.wrap (x6 + (1:Int))) (x7) (x8)))))) (lL12 (x0) (x1) (x2) (x3) (x4) (Go.IntKind.i64.wrap (x5 + (1:Int))) (x7) (x8))
noncomputable def st11_L12 (n:Nat) (lL15:Int→Int→Int→Int→Int→Int→Int→(List (Bool × Lq × List Int × Lb))→(List (Bool × Lq × List Int × Lb))→Option R11) (x0 x1 x2 x3 x4 x5:Int) (x6 x7:List (Bool × Lq × List Int × Lb)):Option R11 :=
 cond (decide (x5 < (↑x6.length:Int))) (lL15 (x0) (x1) (x2) (x3) (x4) (x5) ((0:Int)) (x6) (x7)) (some ((true,()),()))
theorem e11_top (n:Nat) (a:List Int):runF TT G11 an11 Try.f11 c11 ps11 rs11 n (a,())=st11_top n (fun x0 x1 x2 x3 x4 x5 x6 x7=>at11 n (.head 12) [n] (sh11_L12 x0 x1 x2 x3 x4 x5 x6 x7)) a:=by kernel_rfl
theorem e11_L15_0 (n:Nat) (m12:Nat) (x0 x1 x2 x3 x4 x5 x6:Int) (x7 x8:List (Bool × Lq × List Int × Lb)):at11 n (.head 15) [m12,0] (sh11_L15 x0 x1 x2 x3 x4 x5 x6 x7 x8)=none:=by kernel_rfl
theorem e11_L15 (n:Nat) (m12:Nat) (m15:Nat) (x0 x1 x2 x3 x4 x5 x6:Int) (x7 x8:List (Bool × Lq × List Int × Lb)):at11 n (.head 15) [m12,m15 + 1] (sh11_L15 x0 x1 x2 x3 x4 x5 x6 x7 x8)=st11_L15 n (fun x0 x1 x2 x3 x4 x5 x6 x7 x8=>at11 n (.head 15) [m12,m15] (sh11_L15 x0 x1 x2 x3 x4 x5 x6 x7 x8)) (fun x0 x1 x2 x3 x4 x5 x6 x7=>at11 n (.head 12) [m12] (sh11_L12 x0 x1 x2 x3 x4 x5 x6 x7)) x0 x1 x2 x3 x4 x5 x6 x7 x8:=by kernel_rfl
theorem e11_L12_0 (n:Nat) (x0 x1 x2 x3 x4 x5:Int) (x6 x7:List (Bool × Lq × List Int × Lb)):at11 n (.head 12) [0] (sh11_L12 x0 x1 x2 x3 x4 x5 x6 x7)=none:=by kernel_rfl
theorem e11_L12 (n:Nat) (m12:Nat) (x0 x1 x2 x3 x4 x5:Int) (x6 x7:List (Bool × Lq × List Int × Lb)):at11 n (.head 12) [m12 + 1] (sh11_L12 x0 x1 x2 x3 x4 x5 x6 x7)=st11_L12 n (fun x0 x1 x2 x3 x4 x5 x6 x7 x8=>at11 n (.head 15) [m12,n] (sh11_L15 x0 x1 x2 x3 x4 x5 x6 x7 x8)) x0 x1 x2 x3 x4 x5 x6 x7:=by kernel_rfl
noncomputable def p11_L15 (g12:Int→Int→Int→Int→Int→Int→(List (Bool × Lq × List Int × Lb))→(List (Bool × Lq × List Int × Lb))→Option R11) (n:Nat):Nat→Int→Int→Int→Int→Int→Int→Int→(List (Bool × Lq × List Int × Lb))→(List (Bool × Lq × List Int × Lb))→Option R11
 | 0,_,_,_,_,_,_,_,_,_=>none
 | m + 1,x0,x1,x2,x3,x4,x5,x6,x7,x8=>st11_L15 n (p11_L15 g12 n m) g12 x0 x1 x2 x3 x4 x5 x6 x7 x8
noncomputable def p11_L12 (n:Nat):Nat→Int→Int→Int→Int→Int→Int→(List (Bool × Lq × List Int × Lb))→(List (Bool × Lq × List Int × Lb))→Option R11
 | 0,_,_,_,_,_,_,_,_=>none
 | m + 1,x0,x1,x2,x3,x4,x5,x6,x7=>st11_L12 n (p11_L15 (p11_L12 n m) n n) x0 x1 x2 x3 x4 x5 x6 x7
noncomputable def p11 (n:Nat) (a:List Int):Option R11:=st11_top n (p11_L12 n n) a
theorem t11_L15 (n:Nat) (m12:Nat):∀ (m15:Nat) (x0 x1 x2 x3 x4 x5 x6:Int) (x7 x8:List (Bool × Lq × List Int × Lb)),at11 n (.head 15) [m12,m15] (sh11_L15 x0 x1 x2 x3 x4 x5 x6 x7 x8)=p11_L15 (fun x0 x1 x2 x3 x4 x5 x6 x7=>at11 n (.head 12) [m12] (sh11_L12 x0 x1 x2 x3 x4 x5 x6 x7)) n m15 x0 x1 x2 x3 x4 x5 x6 x7 x8:=by
 intro m
 induction m with
 | zero=>intros; rw [e11_L15_0]; rfl
 | succ m ih =>
  intros
  rw [e11_L15]
  try simp only [ih]
  rfl
theorem t11_L12 (n:Nat):∀ (m12:Nat) (x0 x1 x2 x3 x4 x5:Int) (x6 x7:List (Bool × Lq × List Int × Lb)),at11 n (.head 12) [m12] (sh11_L12 x0 x1 x2 x3 x4 x5 x6 x7)=p11_L12 n m12 x0 x1 x2 x3 x4 x5 x6 x7:=by
 intro m
 induction m with
 | zero=>intros; rw [e11_L12_0]; rfl
 | succ m ih =>
  intros
  rw [e11_L12]
  try simp only [t11_L15,ih]
  rfl
theorem F11_eq (n:Nat) (a:List Int):runF TT G11 an11 Try.f11 c11 ps11 rs11 n (a,())=p11 n a:=by
 rw [e11_top]
 simp only [t11_L12]
 try rfl
noncomputable def q11 (n:Nat) (x:argsD ps11):Option R11:=p11 n x.1
noncomputable def Sm11:Sm:=⟨ps11,rs11,false,q11⟩
theorem holds11 (hg:GamOK Try.prog G11):Holds Try.prog 11 Sm11:=by
 have:=h0_11 hg
 have e:(runF TT G11 an11 Try.f11 c11 ps11 rs11)=q11:=by
  funext n x
  exact F11_eq n x.1
 rw [e] at this
 exact this
theorem gam11:GamOK Try.prog G11:=by
 intro f s h
 unfold G11 at h
 split at h
 ·injection h with h; subst h; exact ⟨⟨Try.f19,c19,Try.func19,by kernel_rfl,by decide +kernel⟩,hh19⟩
 ·injection h with h; subst h; exact ⟨⟨Try.f21,c21,Try.func21,by kernel_rfl,by decide +kernel⟩,hh21⟩
 ·injection h with h; subst h; exact ⟨⟨Try.f38,c38,Try.func38,by kernel_rfl,by decide +kernel⟩,hh38⟩
 ·injection h with h; subst h; exact ⟨⟨Try.f43,c43,Try.func43,by kernel_rfl,by decide +kernel⟩,hh43⟩
 ·injection h with h; subst h; exact ⟨⟨Try.f44,c44,Try.func44,by kernel_rfl,by decide +kernel⟩,hh44⟩
 ·cases h
theorem hh11:Holds Try.prog 11 Sm11:=holds11 gam11
end Go.Proofs.Ytdkaagpkeomhmaa.Rx.S

