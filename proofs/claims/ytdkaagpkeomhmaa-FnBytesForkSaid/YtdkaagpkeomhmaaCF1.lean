/- What the functions of this seat compute, each as a plain function on lists and numbers, with the proof that a call answers so. No condition. -/
import Derived.Test.YtdkaagpkeomhmaaCF0
set_option linter.unusedVariables false
set_option linter.unusedSimpArgs false
namespace Go.Proofs.Ytdkaagpkeomhmaa.Rx.S
open Go Go.RowKit Go.Proofs
set_option maxRecDepth 100000
noncomputable def c109:Code:=(Try.f109.body.getD .skip)
def an109:An:=⟨fun _=>⟨[],[]⟩,fun _ _=>none⟩
abbrev ps109:List PK:=[.own tMem true,.val i64 false,.val i64 false,.val i64 false]
abbrev rs109:List RK:=[.own tMem true,.val i64 false]
abbrev R109:=retsD rs109 × outsD ps109
noncomputable def G109:Gam:=fun f=>match f with | 56=>some Sm56 | 71=>some Sm71 | 72=>some Sm72 | 153=>some Sm153 | 154=>some Sm154 | _=>none
theorem h0_109 (hg:GamOK Try.prog G109):Holds Try.prog 109 ⟨ps109,rs109,false,runF TT G109 an109 Try.f109 c109 ps109 rs109⟩:=holds_of tt_ok hg mixed Try.func109 (by kernel_rfl) (by rfl) (by decide +kernel)
noncomputable def st109_top (n:Nat) (a:(Lb × List Int) × (Lb × List Int) × List (Bool × Lq × Lq) × Int) (b:Int) (c:Int) (d:Int):Option R109 :=
 cond (decide ((0:Int)≤b)) (cond (decide (b < (↑(List.length a.2.2.1):Int))) ((q71 n ((List.getD a.2.2.1 b.toNat (false,[],[])).2.1,Go.IntKind.i64.wrap (c.tdiv (4:Int)),())).bind fun r0=>cond (decide (r0.1.1 < (0:Int))) (some ((((a.1.1,a.1.2),((a.2.1.1,a.2.1.2),(a.2.2.1,a.2.2.2))),((2:Int),())),())) (cond (decide ((0:Int)≤b)) (cond (decide (b < (↑(List.length a.2.2.1):Int))) (cond (decide ((0:Int)≤r0.1.1)) (cond (decide (r0.1.1 < (↑(List.length (List.getD a.2.2.1 b.toNat (false,[],[])).2.1):Int))) (cond (!(List.getD (List.getD a.2.2.1 b.toNat (false,[],[])).2.1 (Int.toNat r0.1.1) ((0:Int),(0:Int),false,false)).2.2.1) (some ((((a.1.1,a.1.2),((a.2.1.1,a.2.1.2),(a.2.2.1,a.2.2.2))),((3:Int),())),())) ((q56 n (((a.1.1,a.1.2),(a.2.1.1,a.2.1.2),a.2.2.1,a.2.2.2),())).bind fun r1=>(q153 n (((r1.1.1.1.1,r1.1.1.1.2),(r1.1.1.2.1.1,r1.1.1.2.1.2),r1.1.1.2.2.1,r1.1.1.2.2.2),b,Go.IntKind.i64.wrap (c.tdiv (4:Int)),())).bind fun r2=>cond (r2.1.2.1) ((q154 n (((r2.1.1.1.1,r2.1.1.1.2),(r2.1.1.2.1.1,r2.1.1.2.1.2),r2.1.1.2.2.1,r2.1.1.2.2.2),b,Go.IntKind.i64.wrap (c.tdiv (4:Int)),())).bind fun r3=>cond (!r3.1.2.1) (some ((((a.1.1,a.1.2),((a.2.1.1,a.2.1.2),(a.2.2.1,a.2.2.2))),((4:Int),())),())) (cond (decide ((0:Int)≤b)) (cond (decide (b < (↑(List.length r3.1.1.2.2.1):Int))) (cond (decide ((0:Int)≤Go.IntKind.i64.wrap (c.tdiv (4:Int)))) (cond (decide (Go.IntKind.i64.wrap (c.tdiv (4:Int)) < (↑(List.length (List.getD r3.1.1.2.2.1 b.toNat (false,[],[])).2.2):Int))) (cond (decide ((0:Int)≤(List.getD (List.getD r3.1.1.2.2.1 b.toNat (false,[],[])).2.2 (Go.IntKind.i64.wrap (c.tdiv (4:Int))).toNat ((0:Int),(0:Int),false,false)).2.1)) (cond (decide ((List.getD (List.getD r3.1.1.2.2.1 b.toNat (false,[],[])).2.2 (Go.IntKind.i64.wrap (c.tdiv (4:Int))).toNat ((0:Int),(0:Int),false,false)).2.1 < (↑(List.length r3.1.1.1.1):Int))) ((q72 n (List.getD r3.1.1.1.1 (Int.toNat (List.getD (List.getD r3.1.1.2.2.1 b.toNat (false,[],[])).2.2 (Go.IntKind.i64.wrap (c.tdiv (4:Int))).toNat ((0:Int),(0:Int),false,false)).2.1) ByteArray.empty,c.tmod (4:Int),d,())).bind fun r4=>cond (decide ((0:Int)≤(List.getD (List.getD r3.1.1.2.2.1 b.toNat (false,[],[])).2.2 (Go.IntKind.i64.wrap (c.tdiv (4:Int))).toNat ((0:Int),(0:Int),false,false)).2.1)) (cond (decide ((List.getD (List.getD r3.1.1.2.2.1 b.toNat (false,[],[])).2.2 (Go.IntKind.i64.wrap (c.tdiv (4:Int))).toNat ((0:Int),(0:Int),false,false)).2.1 < (↑(List.length r3.1.1.1.1):Int))) (some ((((List.set r3.1.1.1.1 (Int.toNat (List.getD (List.getD r3.1.1.2.2.1 b.toNat (false,[],[])).2.2 (Go.IntKind.i64.wrap (c.tdiv (4:Int))).toNat ((0:Int),(0:Int),false,false)).2.1) r4.1.1,r3.1.1.1.2),((r3.1.1.2.1.1,r3.1.1.2.1.2),(r3.1.1.2.2.1,r3.1.1.2.2.2))),((0:Int),())),())) (none)) (none)) (none)) (none)) (none)) (none)) (none)) (none))) (cond (!r2.1.2.1) (some ((((a.1.1,a.1.2),((a.2.1.1,a.2.1.2),(a.2.2.1,a.2.2.2))),((4:Int),())),())) (cond (decide ((0:Int)≤b)) (cond (decide (b < (↑(List.length r2.1.1.2.2.1):Int))) (cond (decide ((0:Int)≤Go.IntKind.i64.wrap (c.tdiv (4:Int)))) (cond (decide (Go.IntKind.i64.wrap (c.tdiv (4:Int)) < (↑(List.length (List.getD r2.1.1.2.2.1 b.toNat (false,[],[])).2.2):Int))) (cond (decide ((0:Int)≤(List.getD (List.getD r2.1.1.2.2.1 b.toNat (false,[],[])).2.2 (Go.IntKind.i64.wrap (c.tdiv (4:Int))).toNat ((0:Int),(0:Int),false,false)).2.1)) (cond (decide ((List.getD (List.getD r2.1.1.2.2.1 b.toNat (false,[],[])).2.2 (Go.IntKind.i64.wrap (c.tdiv (4:Int))).toNat ((0:Int),(0:Int),false,false)).2.1 < (↑(List.length r2.1.1.1.1):Int))) ((q72 n (List.getD r2.1.1.1.1 (Int.toNat (List.getD (List.getD r2.1.1.2.2.1 b.toNat (false,[],[])).2.2 (Go.IntKind.i64.wrap (c.tdiv (4:Int))).toNat ((0:Int),(0:Int),false,false)).2.1) ByteArray.empty,c.tmod (4:Int),d,())).bind fun r5=>cond (decide ((0:Int)≤(List.getD (List.getD r2.1.1.2.2.1 b.toNat (false,[],[])).2.2 (Go.IntKind.i64.wrap (c.tdiv (4:Int))).toNat ((0:Int),(0:Int),false,false)).2.1)) (cond (decide ((List.getD (List.getD r2.1.1.2.2.1 b.toNat (false,[],[])).2.2 (Go.IntKind.i64.wrap (c.tdiv (4:Int))).toNat ((0:Int),(0:Int),false,false)).2.1 < (↑(List.length r2.1.1.1.1):Int))) (some ((((List.set r2.1.1.1.1 (Int.toNat (List.getD (List.getD r2.1.1.2.2.1 b.toNat (false,[],[])).2.2 (Go.IntKind.i64.wrap (c.tdiv (4:Int))).toNat ((0:Int),(0:Int),false,false)).2.1) r5.1.1,r2.1.1.1.2),((r2.1.1.2.1.1,r2.1.1.2.1.2),(r2.1.1.2.2.1,r2.1.1.2.2.2))),((0:Int),())),())) (none)) (none)) (none)) (none)) (none)) (none)) (none)) (none))))) (none)) (none)) (none)) (none))) (none)) (none)
theorem e109_top (n:Nat) (a:(Lb × List Int) × (Lb × List Int) × List (Bool × Lq × Lq) × Int) (b:Int) (c:Int) (d:Int):runF TT G109 an109 Try.f109 c109 ps109 rs109 n (a,b,c,d,())=st109_top n a b c d:=by kernel_rfl
noncomputable def p109 (n:Nat) (a:(Lb × List Int) × (Lb × List Int) × List (Bool × Lq × Lq) × Int) (b:Int) (c:Int) (d:Int):Option R109:=st109_top n a b c d
theorem F109_eq (n:Nat) (a:(Lb × List Int) × (Lb × List Int) × List (Bool × Lq × Lq) × Int) (b:Int) (c:Int) (d:Int):runF TT G109 an109 Try.f109 c109 ps109 rs109 n (a,b,c,d,())=p109 n a b c d:=by
 rw [e109_top]
 skip
 try rfl
noncomputable def q109 (n:Nat) (x:argsD ps109):Option R109:=p109 n x.1 x.2.1 x.2.2.1 x.2.2.2.1
noncomputable def Sm109:Sm:=⟨ps109,rs109,false,q109⟩
theorem holds109 (hg:GamOK Try.prog G109):Holds Try.prog 109 Sm109:=by
 have:=h0_109 hg
 have e:(runF TT G109 an109 Try.f109 c109 ps109 rs109)=q109:=by
  funext n x
  exact F109_eq n x.1 x.2.1 x.2.2.1 x.2.2.2.1
 rw [e] at this
 exact this
theorem gam109:GamOK Try.prog G109:=by
 intro f s h
 unfold G109 at h
 split at h
 ·injection h with h; subst h; exact ⟨⟨Try.f56,c56,Try.func56,by kernel_rfl,by decide +kernel⟩,hh56⟩
 ·injection h with h; subst h; exact ⟨⟨Try.f71,c71,Try.func71,by kernel_rfl,by decide +kernel⟩,hh71⟩
 ·injection h with h; subst h; exact ⟨⟨Try.f72,c72,Try.func72,by kernel_rfl,by decide +kernel⟩,hh72⟩
 ·injection h with h; subst h; exact ⟨⟨Try.f153,c153,Try.func153,by kernel_rfl,by decide +kernel⟩,hh153⟩
 ·injection h with h; subst h; exact ⟨⟨Try.f154,c154,Try.func154,by kernel_rfl,by decide +kernel⟩,hh154⟩
 ·cases h
theorem hh109:Holds Try.prog 109 Sm109:=holds109 gam109
end Go.Proofs.Ytdkaagpkeomhmaa.Rx.S

namespace Go.Proofs.Ytdkaagpkeomhmaa.Rx.S
open Go Go.RowKit Go.Proofs
set_option maxRecDepth 100000
noncomputable def c3000153:Code:=(Try.f153.body.getD .skip)
def an3000153:An:=⟨fun _=>⟨[],[]⟩,fun _ _=>none⟩
abbrev ps3000153:List PK:=[.io tMem true,.val i64 false,.val i64 false]
abbrev rs3000153:List RK:=[.val .bool false]
abbrev R3000153:=retsD rs3000153 × outsD ps3000153
noncomputable def G3000153:Gam:=fun f=>match f with | 171=>some Sm171 | 3000171=>some Sm3000171 | _=>none
theorem h0_3000153 (hg:GamOK Try.prog G3000153):HoldsB Try.prog 153 ⟨ps3000153,rs3000153,false,runB TT G3000153 an3000153 Try.f153 c3000153 ps3000153 rs3000153⟩:=holdsB_of tt_ok hg mixed Try.func153 (by kernel_rfl) (by rfl) (by decide +kernel)
noncomputable def st3000153_top (n:Nat) (a:(Lb × List Int) × (Lb × List Int) × List (Bool × Lq × Lq) × Int) (b:Int) (c:Int):Option R3000153 :=
 cond (decide ((0:Int)≤b)) (cond (decide (b < (↑(List.length a.2.2.1):Int))) (cond (decide ((0:Int)≤c)) (cond (decide (c < (↑(List.length (List.getD a.2.2.1 b.toNat (false,[],[])).2.2):Int))) (cond (!decide ((List.getD (List.getD a.2.2.1 b.toNat (false,[],[])).2.2 c.toNat ((0:Int),(0:Int),false,false)).1=(1:Int))) ((q171 n (((a.1.1,a.1.2),(a.2.1.1,a.2.1.2),a.2.2.1,a.2.2.2),(-1:Int),())).bind fun r0=>cond (r0.1.2.1) ((q171 n (((a.1.1,a.1.2),(a.2.1.1,a.2.1.2),a.2.2.1,a.2.2.2),(-1:Int),())).bind fun r1=>cond (!r1.1.2.1) (cond (decide (a.2.2.2=a.2.2.2)) (none) (none)) (cond (decide ((List.getD (List.getD a.2.2.1 b.toNat (false,[],[])).2.2 c.toNat ((0:Int),(0:Int),false,false)).1=(0:Int))) (none) (cond (decide ((0:Int)≤(List.getD (List.getD a.2.2.1 b.toNat (false,[],[])).2.2 c.toNat ((0:Int),(0:Int),false,false)).2.1)) (cond (decide ((List.getD (List.getD a.2.2.1 b.toNat (false,[],[])).2.2 c.toNat ((0:Int),(0:Int),false,false)).2.1 < (↑(List.length r1.1.1.2.1.1):Int))) (none) (none)) (none)))) ((q3000171 n (((a.1.1,a.1.2),(a.2.1.1,a.2.1.2),a.2.2.1,a.2.2.2),(-1:Int),())).bind fun r2=>cond (!r2.1.1) (cond (decide (a.2.2.2=a.2.2.2)) (some ((false,()),(((r2.2.1.1.1,r2.2.1.1.2),((r2.2.1.2.1.1,r2.2.1.2.1.2),(r2.2.1.2.2.1,a.2.2.2))),()))) (none)) (none))) (cond (decide ((0:Int)≤b)) (cond (decide (b < (↑(List.length a.2.2.1):Int))) (cond (decide ((0:Int)≤c)) (cond (decide (c < (↑(List.length (List.getD a.2.2.1 b.toNat (false,[],[])).2.2):Int))) (cond (decide (a.2.2.2=a.2.2.2)) (some ((true,()),(((a.1.1,a.1.2),((a.2.1.1,a.2.1.2),(List.set a.2.2.1 b.toNat ((List.getD a.2.2.1 b.toNat (false,[],[])).1,(List.getD a.2.2.1 b.toNat (false,[],[])).2.1,List.set (List.getD a.2.2.1 b.toNat (false,[],[])).2.2 c.toNat ((List.getD (List.getD a.2.2.1 b.toNat (false,[],[])).2.2 c.toNat ((0:Int),(0:Int),false,false)).1,(List.getD (List.getD a.2.2.1 b.toNat (false,[],[])).2.2 c.toNat ((0:Int),(0:Int),false,false)).2.1,(List.getD (List.getD a.2.2.1 b.toNat (false,[],[])).2.2 c.toNat ((0:Int),(0:Int),false,false)).2.2.1,true)),a.2.2.2))),()))) (none)) (none)) (none)) (none)) (none))) (none)) (none)) (none)) (none)
theorem e3000153_top (n:Nat) (a:(Lb × List Int) × (Lb × List Int) × List (Bool × Lq × Lq) × Int) (b:Int) (c:Int):runB TT G3000153 an3000153 Try.f153 c3000153 ps3000153 rs3000153 n (a,b,c,())=st3000153_top n a b c:=by kernel_rfl
noncomputable def p3000153 (n:Nat) (a:(Lb × List Int) × (Lb × List Int) × List (Bool × Lq × Lq) × Int) (b:Int) (c:Int):Option R3000153:=st3000153_top n a b c
theorem F3000153_eq (n:Nat) (a:(Lb × List Int) × (Lb × List Int) × List (Bool × Lq × Lq) × Int) (b:Int) (c:Int):runB TT G3000153 an3000153 Try.f153 c3000153 ps3000153 rs3000153 n (a,b,c,())=p3000153 n a b c:=by
 rw [e3000153_top]
 skip
 try rfl
noncomputable def q3000153 (n:Nat) (x:argsD ps3000153):Option R3000153:=p3000153 n x.1 x.2.1 x.2.2.1
noncomputable def Sm3000153:Sm:=⟨ps3000153,rs3000153,false,q3000153⟩
theorem holds3000153 (hg:GamOK Try.prog G3000153):HoldsB Try.prog 153 Sm3000153:=by
 have:=h0_3000153 hg
 have e:(runB TT G3000153 an3000153 Try.f153 c3000153 ps3000153 rs3000153)=q3000153:=by
  funext n x
  exact F3000153_eq n x.1 x.2.1 x.2.2.1
 rw [e] at this
 exact this
theorem gam3000153:GamOK Try.prog G3000153:=by
 intro f s h
 unfold G3000153 at h
 split at h
 ·injection h with h; subst h; exact ⟨⟨Try.f171,c171,Try.func171,by kernel_rfl,by decide +kernel⟩,hh171⟩
 ·injection h with h; subst h; exact ⟨⟨Try.f171,c3000171,Try.func171,by kernel_rfl,by decide +kernel⟩,hh3000171⟩
 ·cases h
theorem hh3000153:HoldsX Try.prog 3000153 Sm3000153:=holds3000153 gam3000153
end Go.Proofs.Ytdkaagpkeomhmaa.Rx.S

namespace Go.Proofs.Ytdkaagpkeomhmaa.Rx.S
open Go Go.RowKit Go.Proofs
set_option maxRecDepth 100000
noncomputable def c155:Code:=(Try.f155.body.getD .skip)
def an155:An:=⟨fun r=>match r with | 5=>⟨[1,2,4,6,7],[]⟩ | 13=>⟨[1,2,4,6,10],[]⟩ | _=>⟨[],[]⟩,fun _ _=>none⟩
abbrev ps155:List PK:=[.own tMem true,.val i64 false]
abbrev rs155:List RK:=[.own tMem true,.val i64 false]
abbrev R155:=retsD rs155 × outsD ps155
noncomputable def G155:Gam:=fun f=>match f with | 93=>some Sm93 | 153=>some Sm153 | 3000153=>some Sm3000153 | 157=>some Sm157 | _=>none
theorem h0_155 (hg:GamOK Try.prog G155):Holds Try.prog 155 ⟨ps155,rs155,false,runF TT G155 an155 Try.f155 c155 ps155 rs155⟩:=holds_of tt_ok hg mixed Try.func155 (by kernel_rfl) (by rfl) (by decide +kernel)
noncomputable def at155:Nat→Pt→List Nat→St→Option R155:=atF TT G155 an155 Try.f155 c155 _ _
def sh155_L13 (x0 x1 x2 x3 x4:Int) (x5:Lb) (x6:List Int) (x7:Lb) (x8:List Int) (x9:List (Bool × Lq × Lq)):St:=(St.mk [Uu,AV.one (SV.int (Go.IntKind.i64) x0),AV.one (SV.bptr 1000000 0),Uu,AV.one (SV.bptr 1000001 0),Uu,AV.one (SV.int (Go.IntKind.i64) x1),Uu,Uu,Uu,AV.one (SV.int (Go.IntKind.i64) x2),Uu,Uu,Uu,Uu,Uu,Uu,Uu,Uu,Uu,Uu,Uu,Uu,Uu,Uu,Uu,Uu,Uu,Uu,Uu,Uu,Uu,Uu,Uu,Uu,Uu,Uu,Uu,Uu,Uu,Uu,Uu,Uu,Uu,Uu,Uu,Uu,Uu,Uu,Uu,Uu,Uu,Uu,Uu,Uu,Uu,Uu,Uu,Uu,Uu,Uu,Uu,Uu,Uu,Uu,Uu,Uu,Uu,Uu,Uu,Uu,Uu,Uu,Uu,Uu,Uu,Uu,Uu,Uu,Uu,Uu,Uu,Uu,Uu,Uu,Uu,Uu,Uu,Uu,Uu,Uu,Uu,Uu,Uu,Uu,Uu,Uu,Uu,Uu,Uu,Uu,Uu,Uu,Uu,Uu,Uu,Uu,Uu,Uu,Uu,Uu,Uu,Uu,Uu,Uu,Uu,Uu,Uu,Uu,Uu,Uu,Uu,Uu,Uu,Uu,Uu,Uu,Uu,Uu,Uu,Uu,Uu,Uu,Uu,Uu,Uu,Uu,Uu] ((1000000,(Ent.box ((SV.ref 1000002 0 [] Option.none) :: ((SV.ref 1000003 0 [] Option.none) :: ((SV.ref 1000004 0 [] Option.none) :: ((SV.ref 1000005 0 [] Option.none) :: ((SV.ref 1000006 0 [] Option.none) :: ((SV.int (Go.IntKind.i64) x3) :: [])))))))) :: ((1000001,(Ent.box (SV.nil :: (SV.nil :: (SV.nil :: (SV.nil :: (SV.nil :: ((SV.int (Go.IntKind.i64) x4) :: [])))))))) :: ((1000002,(Ent.row (⟨9,Ty.str,x5⟩:Rw) 0 Option.none)) :: ((1000003,(Ent.row (⟨3,Ty.int Go.IntKind.i64,x6⟩:Rw) 0 Option.none)) :: ((1000004,(Ent.row (⟨9,Ty.str,x7⟩:Rw) 0 Option.none)) :: ((1000005,(Ent.row (⟨3,Ty.int Go.IntKind.i64,x8⟩:Rw) 0 Option.none)) :: ((1000006,(Ent.row (⟨71,Ty.bool.pair ((Ty.row (nat_lit 116) ((Ty.int Go.IntKind.i64).pair ((Ty.int Go.IntKind.i64).pair (Ty.bool.pair Ty.bool)))).pair (Ty.row (nat_lit 80) ((Ty.int Go.IntKind.i64).pair ((Ty.int Go.IntKind.i64).pair (Ty.bool.pair Ty.bool))))),x9⟩:Rw) 0 Option.none)) :: []))))))))
def sh155_L5 (x0 x1 x2 x3 x4:Int) (x5:Lb) (x6:List Int) (x7:Lb) (x8:List Int) (x9:List (Bool × Lq × Lq)):St:=(St.mk [Uu,AV.one (SV.int (Go.IntKind.i64) x0),AV.one (SV.bptr 1000000 0),Uu,AV.one (SV.bptr 1000001 0),Uu,AV.one (SV.int (Go.IntKind.i64) x1),AV.one (SV.int (Go.IntKind.i64) x2),Uu,Uu,Uu,Uu,Uu,Uu,Uu,Uu,Uu,Uu,Uu,Uu,Uu,Uu,Uu,Uu,Uu,Uu,Uu,Uu,Uu,Uu,Uu,Uu,Uu,Uu,Uu,Uu,Uu,Uu,Uu,Uu,Uu,Uu,Uu,Uu,Uu,Uu,Uu,Uu,Uu,Uu,Uu,Uu,Uu,Uu,Uu,Uu,Uu,Uu,Uu,Uu,Uu,Uu,Uu,Uu,Uu,Uu,Uu,Uu,Uu,Uu,Uu,Uu,Uu,Uu,Uu,Uu,Uu,Uu,Uu,Uu,Uu,Uu,Uu,Uu,Uu,Uu,Uu,Uu,Uu,Uu,Uu,Uu,Uu,Uu,Uu,Uu,Uu,Uu,Uu,Uu,Uu,Uu,Uu,Uu,Uu,Uu,Uu,Uu,Uu,Uu,Uu,Uu,Uu,Uu,Uu,Uu,Uu,Uu,Uu,Uu,Uu,Uu,Uu,Uu,Uu,Uu,Uu,Uu,Uu,Uu,Uu,Uu,Uu,Uu,Uu,Uu,Uu,Uu] ((1000000,(Ent.box ((SV.ref 1000002 0 [] Option.none) :: ((SV.ref 1000003 0 [] Option.none) :: ((SV.ref 1000004 0 [] Option.none) :: ((SV.ref 1000005 0 [] Option.none) :: ((SV.ref 1000006 0 [] Option.none) :: ((SV.int (Go.IntKind.i64) x3) :: [])))))))) :: ((1000001,(Ent.box (SV.nil :: (SV.nil :: (SV.nil :: (SV.nil :: (SV.nil :: ((SV.int (Go.IntKind.i64) x4) :: [])))))))) :: ((1000002,(Ent.row (⟨9,Ty.str,x5⟩:Rw) 0 Option.none)) :: ((1000003,(Ent.row (⟨3,Ty.int Go.IntKind.i64,x6⟩:Rw) 0 Option.none)) :: ((1000004,(Ent.row (⟨9,Ty.str,x7⟩:Rw) 0 Option.none)) :: ((1000005,(Ent.row (⟨3,Ty.int Go.IntKind.i64,x8⟩:Rw) 0 Option.none)) :: ((1000006,(Ent.row (⟨71,Ty.bool.pair ((Ty.row (nat_lit 116) ((Ty.int Go.IntKind.i64).pair ((Ty.int Go.IntKind.i64).pair (Ty.bool.pair Ty.bool)))).pair (Ty.row (nat_lit 80) ((Ty.int Go.IntKind.i64).pair ((Ty.int Go.IntKind.i64).pair (Ty.bool.pair Ty.bool))))),x9⟩:Rw) 0 Option.none)) :: []))))))))
noncomputable def st155_top (n:Nat) (lL5:Int→Int→Int→Int→Int→(Lb)→(List Int)→(Lb)→(List Int)→(List (Bool × Lq × Lq))→Option R155) (a:(Lb × List Int) × (Lb × List Int) × List (Bool × Lq × Lq) × Int) (b:Int):Option R155 :=
 (q93 n (((a.1.1,a.1.2),(a.2.1.1,a.2.1.2),a.2.2.1,a.2.2.2),())).bind fun r0=>cond (decide (r0.1.1 < (0:Int))) (some ((((a.1.1,a.1.2),((a.2.1.1,a.2.1.2),(a.2.2.1,a.2.2.2))),((-1:Int),())),())) (lL5 (b) (r0.1.1) ((0:Int)) (a.2.2.2) ((0:Int)) (a.1.1) (a.1.2) (a.2.1.1) (a.2.1.2) (a.2.2.1))
noncomputable def st155_L13 (n:Nat) (lL13:Int→Int→Int→Int→Int→(Lb)→(List Int)→(Lb)→(List Int)→(List (Bool × Lq × Lq))→Option R155) (x0 x1 x2 x3 x4:Int) (x5:Lb) (x6:List Int) (x7:Lb) (x8:List Int) (x9:List (Bool × Lq × Lq)):Option R155 :=
 cond (decide (x2 < (16:Int))) (cond (decide ((0:Int)≤x0)) (cond (decide (x0 < (↑x9.length:Int))) (cond (decide ((0:Int)≤x2)) (cond (decide (x2 < (↑(List.length (x9.getD x0.toNat (false,[],[])).2.2):Int))) (cond (decide ((0:Int)≤x0)) (cond (decide (x0 < (↑x9.length:Int))) ((q157 n (((x9.getD x0.toNat (false,[],[])).1,(x9.getD x0.toNat (false,[],[])).2.1,(x9.getD x0.toNat (false,[],[])).2.2),x2,())).bind fun r7=>cond (!r7.1.1) (cond (decide ((0:Int)≤x0)) (cond (decide (x0 < (↑x9.length:Int))) (cond (decide ((0:Int)≤x2)) (cond (decide (x2 < (↑(List.length (x9.getD x0.toNat (false,[],[])).2.2):Int))) (cond (decide ((List.getD (x9.getD x0.toNat (false,[],[])).2.2 x2.toNat ((0:Int),(0:Int),false,false)).1=(1:Int))) (cond (decide ((0:Int)≤(List.getD (x9.getD x0.toNat (false,[],[])).2.2 x2.toNat ((0:Int),(0:Int),false,false)).2.1)) (cond (decide ((List.getD (x9.getD x0.toNat (false,[],[])).2.2 x2.toNat ((0:Int),(0:Int),false,false)).2.1 < (↑x6.length:Int))) (cond (decide ((0:Int)≤(List.getD (x9.getD x0.toNat (false,[],[])).2.2 x2.toNat ((0:Int),(0:Int),false,false)).2.1)) (cond (decide ((List.getD (x9.getD x0.toNat (false,[],[])).2.2 x2.toNat ((0:Int),(0:Int),false,false)).2.1 < (↑x6.length:Int))) (lL13 (x0) (x1) (Go.IntKind.i64.wrap (x2 + (1:Int))) (x3) (x4) (x5) (x6.set (Int.toNat (List.getD (x9.getD x0.toNat (false,[],[])).2.2 x2.toNat ((0:Int),(0:Int),false,false)).2.1) (Go.IntKind.i64.wrap (x6.getD (Int.toNat (List.getD (x9.getD x0.toNat (false,[],[])).2.2 x2.toNat ((0:Int),(0:Int),false,false)).2.1) (0:Int) + (1:Int)))) (x7) (x8) (x9.set x0.toNat ((x9.getD x0.toNat (false,[],[])).1,(x9.getD x0.toNat (false,[],[])).2.1,List.set (x9.getD x0.toNat (false,[],[])).2.2 x2.toNat ((List.getD (x9.getD x0.toNat (false,[],[])).2.2 x2.toNat ((0:Int),(0:Int),false,false)).1,(List.getD (x9.getD x0.toNat (false,[],[])).2.2 x2.toNat ((0:Int),(0:Int),false,false)).2.1,false,(List.getD (x9.getD x0.toNat (false,[],[])).2.2 x2.toNat ((0:Int),(0:Int),false,false)).2.2.2)))) (none)) (none)) (none)) (none)) (cond (decide ((List.getD (x9.getD x0.toNat (false,[],[])).2.2 x2.toNat ((0:Int),(0:Int),false,false)).1=(2:Int))) (cond (decide ((0:Int)≤(List.getD (x9.getD x0.toNat (false,[],[])).2.2 x2.toNat ((0:Int),(0:Int),false,false)).2.1)) (cond (decide ((List.getD (x9.getD x0.toNat (false,[],[])).2.2 x2.toNat ((0:Int),(0:Int),false,false)).2.1 < (↑x8.length:Int))) (cond (decide ((0:Int)≤(List.getD (x9.getD x0.toNat (false,[],[])).2.2 x2.toNat ((0:Int),(0:Int),false,false)).2.1)) (cond (decide ((List.getD (x9.getD x0.toNat (false,[],[])).2.2 x2.toNat ((0:Int),(0:Int),false,false)).2.1 < (↑x8.length:Int))) (lL13 (x0) (x1) (Go.IntKind.i64.wrap (x2 + (1:Int))) (x3) (x4) (x5) (x6) (x7) (x8.set (Int.toNat (List.getD (x9.getD x0.toNat (false,[],[])).2.2 x2.toNat ((0:Int),(0:Int),false,false)).2.1) (Go.IntKind.i64.wrap (x8.getD (Int.toNat (List.getD (x9.getD x0.toNat (false,[],[])).2.2 x2.toNat ((0:Int),(0:Int),false,false)).2.1) (0:Int) + (1:Int)))) (x9.set x0.toNat ((x9.getD x0.toNat (false,[],[])).1,(x9.getD x0.toNat (false,[],[])).2.1,List.set (x9.getD x0.toNat (false,[],[])).2.2 x2.toNat ((List.getD (x9.getD x0.toNat (false,[],[])).2.2 x2.toNat ((0:Int),(0:Int),false,false)).1,(List.getD (x9.getD x0.toNat (false,[],[])).2.2 x2.toNat ((0:Int),(0:Int),false,false)).2.1,false,(List.getD (x9.getD x0.toNat (false,[],[])).2.2 x2.toNat ((0:Int),(0:Int),false,false)).2.2.2)))) (none)) (none)) (none)) (none)) (lL13 (x0) (x1) (Go.IntKind.i64.wrap (x2 + (1:Int))) (x3) (x4) (x5) (x6) (x7) (x8) (x9.set x0.toNat ((x9.getD x0.toNat (false,[],[])).1,(x9.getD x0.toNat (false,[],[])).2.1,List.set (x9.getD x0.toNat (false,[],[])).2.2 x2.toNat ((List.getD (x9.getD x0.toNat (false,[],[])).2.2 x2.toNat ((0:Int),(0:Int),false,false)).1,(List.getD (x9.getD x0.toNat (false,[],[])).2.2 x2.toNat ((0:Int),(0:Int),false,false)).2.1,false,(List.getD (x9.getD x0.toNat (false,[],[])).2.2 x2.toNat ((0:Int),(0:Int),false,false)).2.2.2)))))) (none)) (none)) (none)) (none)) (cond (decide ((0:Int)≤x0)) (cond (decide (x0 < (↑x9.length:Int))) (cond (decide ((0:Int)≤x2)) (cond (decide (x2 < (↑(List.length (x9.getD x0.toNat (false,[],[])).2.2):Int))) (cond (decide ((List.getD (x9.getD x0.toNat (false,[],[])).2.2 x2.toNat ((0:Int),(0:Int),false,false)).1=(1:Int))) (cond (decide ((0:Int)≤(List.getD (x9.getD x0.toNat (false,[],[])).2.2 x2.toNat ((0:Int),(0:Int),false,false)).2.1)) (cond (decide ((List.getD (x9.getD x0.toNat (false,[],[])).2.2 x2.toNat ((0:Int),(0:Int),false,false)).2.1 < (↑x6.length:Int))) (cond (decide ((0:Int)≤(List.getD (x9.getD x0.toNat (false,[],[])).2.2 x2.toNat ((0:Int),(0:Int),false,false)).2.1)) (cond (decide ((List.getD (x9.getD x0.toNat (false,[],[])).2.2 x2.toNat ((0:Int),(0:Int),false,false)).2.1 < (↑x6.length:Int))) (lL13 (x0) (x1) (Go.IntKind.i64.wrap (x2 + (1:Int))) (x3) (x4) (x5) (x6.set (Int.toNat (List.getD (x9.getD x0.toNat (false,[],[])).2.2 x2.toNat ((0:Int),(0:Int),false,false)).2.1) (Go.IntKind.i64.wrap (x6.getD (Int.toNat (List.getD (x9.getD x0.toNat (false,[],[])).2.2 x2.toNat ((0:Int),(0:Int),false,false)).2.1) (0:Int) + (1:Int)))) (x7) (x8) (x9.set x0.toNat ((x9.getD x0.toNat (false,[],[])).1,(x9.getD x0.toNat (false,[],[])).2.1,List.set (x9.getD x0.toNat (false,[],[])).2.2 x2.toNat ((List.getD (x9.getD x0.toNat (false,[],[])).2.2 x2.toNat ((0:Int),(0:Int),false,false)).1,(List.getD (x9.getD x0.toNat (false,[],[])).2.2 x2.toNat ((0:Int),(0:Int),false,false)).2.1,(List.getD (x9.getD x0.toNat (false,[],[])).2.2 x2.toNat ((0:Int),(0:Int),false,false)).2.2.1,(List.getD (x9.getD x0.toNat (false,[],[])).2.2 x2.toNat ((0:Int),(0:Int),false,false)).2.2.2)))) (none)) (none)) (none)) (none)) (cond (decide ((List.getD (x9.getD x0.toNat (false,[],[])).2.2 x2.toNat ((0:Int),(0:Int),false,false)).1=(2:Int))) (cond (decide ((0:Int)≤(List.getD (x9.getD x0.toNat (false,[],[])).2.2 x2.toNat ((0:Int),(0:Int),false,false)).2.1)) (cond (decide ((List.getD (x9.getD x0.toNat (false,[],[])).2.2 x2.toNat ((0:Int),(0:Int),false,false)).2.1 < (↑x8.length:Int))) (cond (decide ((0:Int)≤(List.getD (x9.getD x0.toNat (false,[],[])).2.2 x2.toNat ((0:Int),(0:Int),false,false)).2.1)) (cond (decide ((List.getD (x9.getD x0.toNat (false,[],[])).2.2 x2.toNat ((0:Int),(0:Int),false,false)).2.1 < (↑x8.length:Int))) (lL13 (x0) (x1) (Go.IntKind.i64.wrap (x2 + (1:Int))) (x3) (x4) (x5) (x6) (x7) (x8.set (Int.toNat (List.getD (x9.getD x0.toNat (false,[],[])).2.2 x2.toNat ((0:Int),(0:Int),false,false)).2.1) (Go.IntKind.i64.wrap (x8.getD (Int.toNat (List.getD (x9.getD x0.toNat (false,[],[])).2.2 x2.toNat ((0:Int),(0:Int),false,false)).2.1) (0:Int) + (1:Int)))) (x9.set x0.toNat ((x9.getD x0.toNat (false,[],[])).1,(x9.getD x0.toNat (false,[],[])).2.1,List.set (x9.getD x0.toNat (false,[],[])).2.2 x2.toNat ((List.getD (x9.getD x0.toNat (false,[],[])).2.2 x2.toNat ((0:Int),(0:Int),false,false)).1,(List.getD (x9.getD x0.toNat (false,[],[])).2.2 x2.toNat ((0:Int),(0:Int),false,false)).2.1,(List.getD (x9.getD x0.toNat (false,[],[])).2.2 x2.toNat ((0:Int),(0:Int),false,false)).2.2.1,(List.getD (x9.getD x0.toNat (false,[],[])).2.2 x2.toNat ((0:Int),(0:Int),false,false)).2.2.2)))) (none)) (none)) (none)) (none)) (lL13 (x0) (x1) (Go.IntKind.i64.wrap (x2 + (1:Int))) (x3) (x4) (x5) (x6) (x7) (x8) (x9.set x0.toNat ((x9.getD x0.toNat (false,[],[])).1,(x9.getD x0.toNat (false,[],[])).2.1,List.set (x9.getD x0.toNat (false,[],[])).2.2 x2.toNat ((List.getD (x9.getD x0.toNat (false,[],[])).2.2 x2.toNat ((0:Int),(0:Int),false,false)).1,(List.getD (x9.getD x0.toNat (false,[],[])).2.2 x2.toNat ((0:Int),(0:Int),false,false)).2.1,(List.getD (x9.getD x0.toNat (false,[],[])).2.2 x2.toNat ((0:Int),(0:Int),false,false)).2.2.1,(List.getD (x9.getD x0.toNat (false,[],[])).2.2 x2.toNat ((0:Int),(0:Int),false,false)).2.2.2)))))) (none)) (none)) (none)) (none))) (none)) (none)) (none)) (none)) (none)) (none)) (cond (decide ((0:Int)≤x0)) (cond (decide (x0 < (↑x9.length:Int))) (cond (decide (((0:Nat) + List.length (x9.getD x0.toNat (false,[],[])).2.1) * (24:Nat)≤(140737488355328:Nat))) (cond (decide (((0:Nat) + List.length (x9.getD x0.toNat (false,[],[])).2.2) * (24:Nat)≤(140737488355328:Nat))) (cond (decide ((0:Int)≤x1)) (cond (decide (x1 < (↑x9.length:Int))) (some ((((x5,x6),((x7,x8),(x9.set x1.toNat (true,(x9.getD x0.toNat (false,[],[])).2.1,(x9.getD x0.toNat (false,[],[])).2.2),x3))),(x1,())),())) (none)) (none)) (none)) (none)) (none)) (none))
noncomputable def st155_L5 (n:Nat) (lL5:Int→Int→Int→Int→Int→(Lb)→(List Int)→(Lb)→(List Int)→(List (Bool × Lq × Lq))→Option R155) (lL13:Int→Int→Int→Int→Int→(Lb)→(List Int)→(Lb)→(List Int)→(List (Bool × Lq × Lq))→Option R155) (x0 x1 x2 x3 x4:Int) (x5:Lb) (x6:List Int) (x7:Lb) (x8:List Int) (x9:List (Bool × Lq × Lq)):Option R155 :=
 cond (decide (x2 < (16:Int))) (cond (decide ((0:Int)≤x0)) (cond (decide (x0 < (↑x9.length:Int))) ((q157 n (((x9.getD x0.toNat (false,[],[])).1,(x9.getD x0.toNat (false,[],[])).2.1,(x9.getD x0.toNat (false,[],[])).2.2),x2,())).bind fun r2=>cond (r2.1.1) (cond (decide ((0:Int)≤x0)) (cond (decide (x0 < (↑x9.length:Int))) (cond (decide ((0:Int)≤x2)) (cond (decide (x2 < (↑(List.length (x9.getD x0.toNat (false,[],[])).2.2):Int))) (cond (decide ((List.getD (x9.getD x0.toNat (false,[],[])).2.2 x2.toNat ((0:Int),(0:Int),false,false)).1=(0:Int))) ((q153 n (((x5,x6),(x7,x8),x9,x3),x0,x2,())).bind fun r3=>cond (r3.1.2.1) ((q153 n (((x5,x6),(x7,x8),x9,x3),x0,x2,())).bind fun r4=>cond (!r4.1.2.1) (none) (lL5 (x0) (x1) (Go.IntKind.i64.wrap (x2 + (1:Int))) (r4.1.1.2.2.2) (x4) (r4.1.1.1.1) (r4.1.1.1.2) (r4.1.1.2.1.1) (r4.1.1.2.1.2) (r4.1.1.2.2.1))) ((q3000153 n (((x5,x6),(x7,x8),x9,x3),x0,x2,())).bind fun r5=>cond (!r5.1.1) (some ((((r5.2.1.1.1,r5.2.1.1.2),((r5.2.1.2.1.1,r5.2.1.2.1.2),(r5.2.1.2.2.1,x3))),((-1:Int),())),())) (none))) (lL5 (x0) (x1) (Go.IntKind.i64.wrap (x2 + (1:Int))) (x3) (x4) (x5) (x6) (x7) (x8) (x9))) (none)) (none)) (none)) (none)) (lL5 (x0) (x1) (Go.IntKind.i64.wrap (x2 + (1:Int))) (x3) (x4) (x5) (x6) (x7) (x8) (x9))) (none)) (none)) (lL13 (x0) (x1) ((0:Int)) (x3) (x4) (x5) (x6) (x7) (x8) (x9))
theorem e155_top (n:Nat) (a:(Lb × List Int) × (Lb × List Int) × List (Bool × Lq × Lq) × Int) (b:Int):runF TT G155 an155 Try.f155 c155 ps155 rs155 n (a,b,())=st155_top n (fun x0 x1 x2 x3 x4 x5 x6 x7 x8 x9=>at155 n (.head 5) [n] (sh155_L5 x0 x1 x2 x3 x4 x5 x6 x7 x8 x9)) a b:=by kernel_rfl
theorem e155_L13_0 (n:Nat) (x0 x1 x2 x3 x4:Int) (x5:Lb) (x6:List Int) (x7:Lb) (x8:List Int) (x9:List (Bool × Lq × Lq)):at155 n (.head 13) [0] (sh155_L13 x0 x1 x2 x3 x4 x5 x6 x7 x8 x9)=none:=by kernel_rfl
theorem e155_L13 (n:Nat) (m13:Nat) (x0 x1 x2 x3 x4:Int) (x5:Lb) (x6:List Int) (x7:Lb) (x8:List Int) (x9:List (Bool × Lq × Lq)):at155 n (.head 13) [m13 + 1] (sh155_L13 x0 x1 x2 x3 x4 x5 x6 x7 x8 x9)=st155_L13 n (fun x0 x1 x2 x3 x4 x5 x6 x7 x8 x9=>at155 n (.head 13) [m13] (sh155_L13 x0 x1 x2 x3 x4 x5 x6 x7 x8 x9)) x0 x1 x2 x3 x4 x5 x6 x7 x8 x9:=by kernel_rfl
theorem e155_L5_0 (n:Nat) (x0 x1 x2 x3 x4:Int) (x5:Lb) (x6:List Int) (x7:Lb) (x8:List Int) (x9:List (Bool × Lq × Lq)):at155 n (.head 5) [0] (sh155_L5 x0 x1 x2 x3 x4 x5 x6 x7 x8 x9)=none:=by kernel_rfl
theorem e155_L5 (n:Nat) (m5:Nat) (x0 x1 x2 x3 x4:Int) (x5:Lb) (x6:List Int) (x7:Lb) (x8:List Int) (x9:List (Bool × Lq × Lq)):at155 n (.head 5) [m5 + 1] (sh155_L5 x0 x1 x2 x3 x4 x5 x6 x7 x8 x9)=st155_L5 n (fun x0 x1 x2 x3 x4 x5 x6 x7 x8 x9=>at155 n (.head 5) [m5] (sh155_L5 x0 x1 x2 x3 x4 x5 x6 x7 x8 x9)) (fun x0 x1 x2 x3 x4 x5 x6 x7 x8 x9=>at155 n (.head 13) [n] (sh155_L13 x0 x1 x2 x3 x4 x5 x6 x7 x8 x9)) x0 x1 x2 x3 x4 x5 x6 x7 x8 x9:=by kernel_rfl
noncomputable def p155_L13 (n:Nat):Nat→Int→Int→Int→Int→Int→(Lb)→(List Int)→(Lb)→(List Int)→(List (Bool × Lq × Lq))→Option R155
 | 0,_,_,_,_,_,_,_,_,_,_=>none
 | m + 1,x0,x1,x2,x3,x4,x5,x6,x7,x8,x9=>st155_L13 n (p155_L13 n m) x0 x1 x2 x3 x4 x5 x6 x7 x8 x9
noncomputable def p155_L5 (n:Nat):Nat→Int→Int→Int→Int→Int→(Lb)→(List Int)→(Lb)→(List Int)→(List (Bool × Lq × Lq))→Option R155
 | 0,_,_,_,_,_,_,_,_,_,_=>none
 | m + 1,x0,x1,x2,x3,x4,x5,x6,x7,x8,x9=>st155_L5 n (p155_L5 n m) (p155_L13 n n) x0 x1 x2 x3 x4 x5 x6 x7 x8 x9
noncomputable def p155 (n:Nat) (a:(Lb × List Int) × (Lb × List Int) × List (Bool × Lq × Lq) × Int) (b:Int):Option R155:=st155_top n (p155_L5 n n) a b
theorem t155_L13 (n:Nat):∀ (m13:Nat) (x0 x1 x2 x3 x4:Int) (x5:Lb) (x6:List Int) (x7:Lb) (x8:List Int) (x9:List (Bool × Lq × Lq)),at155 n (.head 13) [m13] (sh155_L13 x0 x1 x2 x3 x4 x5 x6 x7 x8 x9)=p155_L13 n m13 x0 x1 x2 x3 x4 x5 x6 x7 x8 x9:=by
 intro m
 induction m with
 | zero=>intros; rw [e155_L13_0]; rfl
 | succ m ih =>
  intros
  rw [e155_L13]
  try simp only [ih]
  rfl
theorem t155_L5 (n:Nat):∀ (m5:Nat) (x0 x1 x2 x3 x4:Int) (x5:Lb) (x6:List Int) (x7:Lb) (x8:List Int) (x9:List (Bool × Lq × Lq)),at155 n (.head 5) [m5] (sh155_L5 x0 x1 x2 x3 x4 x5 x6 x7 x8 x9)=p155_L5 n m5 x0 x1 x2 x3 x4 x5 x6 x7 x8 x9:=by
 intro m
 induction m with
 | zero=>intros; rw [e155_L5_0]; rfl
 | succ m ih =>
  intros
  rw [e155_L5]
  try simp only [t155_L13,ih]
  rfl
theorem F155_eq (n:Nat) (a:(Lb × List Int) × (Lb × List Int) × List (Bool × Lq × Lq) × Int) (b:Int):runF TT G155 an155 Try.f155 c155 ps155 rs155 n (a,b,())=p155 n a b:=by
 rw [e155_top]
 simp only [t155_L5]
 try rfl
noncomputable def q155 (n:Nat) (x:argsD ps155):Option R155:=p155 n x.1 x.2.1
noncomputable def Sm155:Sm:=⟨ps155,rs155,false,q155⟩
theorem holds155 (hg:GamOK Try.prog G155):Holds Try.prog 155 Sm155:=by
 have:=h0_155 hg
 have e:(runF TT G155 an155 Try.f155 c155 ps155 rs155)=q155:=by
  funext n x
  exact F155_eq n x.1 x.2.1
 rw [e] at this
 exact this
theorem gam155:GamOK Try.prog G155:=by
 intro f s h
 unfold G155 at h
 split at h
 ·injection h with h; subst h; exact ⟨⟨Try.f93,c93,Try.func93,by kernel_rfl,by decide +kernel⟩,hh93⟩
 ·injection h with h; subst h; exact ⟨⟨Try.f153,c153,Try.func153,by kernel_rfl,by decide +kernel⟩,hh153⟩
 ·injection h with h; subst h; exact ⟨⟨Try.f153,c3000153,Try.func153,by kernel_rfl,by decide +kernel⟩,hh3000153⟩
 ·injection h with h; subst h; exact ⟨⟨Try.f157,c157,Try.func157,by kernel_rfl,by decide +kernel⟩,hh157⟩
 ·cases h
theorem hh155:Holds Try.prog 155 Sm155:=holds155 gam155
end Go.Proofs.Ytdkaagpkeomhmaa.Rx.S

namespace Go.Proofs.Ytdkaagpkeomhmaa.Rx.S
open Go Go.RowKit Go.Proofs
set_option maxRecDepth 100000
noncomputable def c156:Code:=(Try.f156.body.getD .skip)
def an156:An:=⟨fun _=>⟨[],[]⟩,fun _ _=>none⟩
abbrev ps156:List PK:=[.own tMem true,.val i64 false,.val i64 false]
abbrev rs156:List RK:=[.own tMem true,.val i64 false,.val i64 false]
abbrev R156:=retsD rs156 × outsD ps156
noncomputable def G156:Gam:=fun f=>match f with | 56=>some Sm56 | 71=>some Sm71 | 153=>some Sm153 | _=>none
theorem h0_156 (hg:GamOK Try.prog G156):Holds Try.prog 156 ⟨ps156,rs156,false,runF TT G156 an156 Try.f156 c156 ps156 rs156⟩:=holds_of tt_ok hg mixed Try.func156 (by kernel_rfl) (by rfl) (by decide +kernel)
noncomputable def st156_top (n:Nat) (a:(Lb × List Int) × (Lb × List Int) × List (Bool × Lq × Lq) × Int) (b:Int) (c:Int):Option R156 :=
 cond (decide ((0:Int)≤b)) (cond (decide (b < (↑(List.length a.2.2.1):Int))) ((q71 n ((List.getD a.2.2.1 b.toNat (false,[],[])).2.1,Go.IntKind.i64.wrap (c.tdiv (4:Int)),())).bind fun r0=>cond (decide (r0.1.1 < (0:Int))) (some ((((a.1.1,a.1.2),((a.2.1.1,a.2.1.2),(a.2.2.1,a.2.2.2))),((-1:Int),((2:Int),()))),())) ((q56 n (((a.1.1,a.1.2),(a.2.1.1,a.2.1.2),a.2.2.1,a.2.2.2),())).bind fun r1=>(q153 n (((r1.1.1.1.1,r1.1.1.1.2),(r1.1.1.2.1.1,r1.1.1.2.1.2),r1.1.1.2.2.1,r1.1.1.2.2.2),b,Go.IntKind.i64.wrap (c.tdiv (4:Int)),())).bind fun r2=>cond (!r2.1.2.1) (some ((((a.1.1,a.1.2),((a.2.1.1,a.2.1.2),(a.2.2.1,a.2.2.2))),((-1:Int),((4:Int),()))),())) (cond (decide ((0:Int)≤b)) (cond (decide (b < (↑(List.length r2.1.1.2.2.1):Int))) (cond (decide ((0:Int)≤Go.IntKind.i64.wrap (c.tdiv (4:Int)))) (cond (decide (Go.IntKind.i64.wrap (c.tdiv (4:Int)) < (↑(List.length (List.getD r2.1.1.2.2.1 b.toNat (false,[],[])).2.2):Int))) (cond (decide ((0:Int)≤(List.getD (List.getD r2.1.1.2.2.1 b.toNat (false,[],[])).2.2 (Go.IntKind.i64.wrap (c.tdiv (4:Int))).toNat ((0:Int),(0:Int),false,false)).2.1)) (cond (decide ((List.getD (List.getD r2.1.1.2.2.1 b.toNat (false,[],[])).2.2 (Go.IntKind.i64.wrap (c.tdiv (4:Int))).toNat ((0:Int),(0:Int),false,false)).2.1 < (↑(List.length r2.1.1.1.1):Int))) (cond (decide ((0:Int)≤c.tmod (4:Int))) (cond (decide (c.tmod (4:Int) < (↑(ByteArray.size (List.getD r2.1.1.1.1 (Int.toNat (List.getD (List.getD r2.1.1.2.2.1 b.toNat (false,[],[])).2.2 (Go.IntKind.i64.wrap (c.tdiv (4:Int))).toNat ((0:Int),(0:Int),false,false)).2.1) ByteArray.empty)):Int))) (some ((((r2.1.1.1.1,r2.1.1.1.2),((r2.1.1.2.1.1,r2.1.1.2.1.2),(r2.1.1.2.2.1,r2.1.1.2.2.2))),(Go.IntKind.i64.wrap (↑((List.getD r2.1.1.1.1 (Int.toNat (List.getD (List.getD r2.1.1.2.2.1 b.toNat (false,[],[])).2.2 (Go.IntKind.i64.wrap (c.tdiv (4:Int))).toNat ((0:Int),(0:Int),false,false)).2.1) ByteArray.empty).data.toList.getD (c.tmod (4:Int)).toNat (0:UInt8)).toNat:Int),((0:Int),()))),())) (none)) (none)) (none)) (none)) (none)) (none)) (none)) (none)))) (none)) (none)
theorem e156_top (n:Nat) (a:(Lb × List Int) × (Lb × List Int) × List (Bool × Lq × Lq) × Int) (b:Int) (c:Int):runF TT G156 an156 Try.f156 c156 ps156 rs156 n (a,b,c,())=st156_top n a b c:=by kernel_rfl
noncomputable def p156 (n:Nat) (a:(Lb × List Int) × (Lb × List Int) × List (Bool × Lq × Lq) × Int) (b:Int) (c:Int):Option R156:=st156_top n a b c
theorem F156_eq (n:Nat) (a:(Lb × List Int) × (Lb × List Int) × List (Bool × Lq × Lq) × Int) (b:Int) (c:Int):runF TT G156 an156 Try.f156 c156 ps156 rs156 n (a,b,c,())=p156 n a b c:=by
 rw [e156_top]
 skip
 try rfl
noncomputable def q156 (n:Nat) (x:argsD ps156):Option R156:=p156 n x.1 x.2.1 x.2.2.1
noncomputable def Sm156:Sm:=⟨ps156,rs156,false,q156⟩
theorem holds156 (hg:GamOK Try.prog G156):Holds Try.prog 156 Sm156:=by
 have:=h0_156 hg
 have e:(runF TT G156 an156 Try.f156 c156 ps156 rs156)=q156:=by
  funext n x
  exact F156_eq n x.1 x.2.1 x.2.2.1
 rw [e] at this
 exact this
theorem gam156:GamOK Try.prog G156:=by
 intro f s h
 unfold G156 at h
 split at h
 ·injection h with h; subst h; exact ⟨⟨Try.f56,c56,Try.func56,by kernel_rfl,by decide +kernel⟩,hh56⟩
 ·injection h with h; subst h; exact ⟨⟨Try.f71,c71,Try.func71,by kernel_rfl,by decide +kernel⟩,hh71⟩
 ·injection h with h; subst h; exact ⟨⟨Try.f153,c153,Try.func153,by kernel_rfl,by decide +kernel⟩,hh153⟩
 ·cases h
theorem hh156:Holds Try.prog 156 Sm156:=holds156 gam156
end Go.Proofs.Ytdkaagpkeomhmaa.Rx.S

namespace Go.Proofs.Ytdkaagpkeomhmaa.Rx.S
open Go Go.RowKit Go.Proofs
set_option maxRecDepth 100000
noncomputable def c110:Code:=(Try.f110.body.getD .skip)
def an110:An:=⟨fun _=>⟨[],[]⟩,fun _ _=>none⟩
abbrev ps110:List PK:=[.bx tRd,.own tMem true]
abbrev rs110:List RK:=[.own tMem true]
abbrev R110:=retsD rs110 × outsD ps110
noncomputable def G110:Gam:=fun f=>match f with | 28=>some Sm28 | 48=>some Sm48 | 54=>some Sm54 | 55=>some Sm55 | 56=>some Sm56 | 103=>some Sm103 | 108=>some Sm108 | 109=>some Sm109 | 155=>some Sm155 | 156=>some Sm156 | _=>none
theorem h0_110 (hg:GamOK Try.prog G110):Holds Try.prog 110 ⟨ps110,rs110,true,runF TT G110 an110 Try.f110 c110 ps110 rs110⟩:=holds_of tt_ok hg mixed Try.func110 (by kernel_rfl) (by rfl) (by decide +kernel)
noncomputable def st110_top (n:Nat) (a:List Int × Int) (b:(Lb × List Int) × (Lb × List Int) × List (Bool × Lq × Lq) × Int):Option R110 :=
 (q48 n ((a.1,a.2),(5:Int),())).bind fun r0=>(q54 n (((b.1.1,b.1.2),(b.2.1.1,b.2.1.2),b.2.2.1,b.2.2.2),r0.1.1,())).bind fun r1=>cond (!r1.1.1) ((q54 n (((b.1.1,b.1.2),(b.2.1.1,b.2.1.2),b.2.2.1,b.2.2.2),(0:Int),())).bind fun r2=>cond (!r2.1.1) ((q28 n (((b.1.1,b.1.2),(b.2.1.1,b.2.1.2),b.2.2.1,b.2.2.2),())).bind fun r3=>cond (r3.1.2.2.1) (some ((((r3.1.1.1.1,r3.1.1.1.2),((r3.1.1.2.1.1,r3.1.1.2.1.2),(r3.1.1.2.2.1,r3.1.1.2.2.2))),()),((r0.2.1.1,r0.2.1.2),()))) (some ((((b.1.1,b.1.2),((b.2.1.1,b.2.1.2),(b.2.2.1,b.2.2.2))),()),((r0.2.1.1,r0.2.1.2),())))) ((q48 n ((r0.2.1.1,r0.2.1.2),(64:Int),())).bind fun r4=>(q48 n ((r4.2.1.1,r4.2.1.2),(14:Int),())).bind fun r5=>cond (decide (r5.1.1=(0:Int))) ((q56 n (((b.1.1,b.1.2),(b.2.1.1,b.2.1.2),b.2.2.1,b.2.2.2),())).bind fun r6=>(q155 n (((r6.1.1.1.1,r6.1.1.1.2),(r6.1.1.2.1.1,r6.1.1.2.1.2),r6.1.1.2.2.1,r6.1.1.2.2.2),(0:Int),())).bind fun r7=>cond (decide ((0:Int)≤r7.1.2.1)) (some ((((r7.1.1.1.1,r7.1.1.1.2),((r7.1.1.2.1.1,r7.1.1.2.1.2),(r7.1.1.2.2.1,r7.1.1.2.2.2))),()),((r5.2.1.1,r5.2.1.2),()))) (some ((((b.1.1,b.1.2),((b.2.1.1,b.2.1.2),(b.2.2.1,b.2.2.2))),()),((r5.2.1.1,r5.2.1.2),())))) (cond (decide (r5.1.1=(1:Int))) ((q56 n (((b.1.1,b.1.2),(b.2.1.1,b.2.1.2),b.2.2.1,b.2.2.2),())).bind fun r8=>(q48 n ((r5.2.1.1,r5.2.1.2),(12:Int),())).bind fun r9=>(q48 n ((r9.2.1.1,r9.2.1.2),(4:Int),())).bind fun r10=>(q55 n (((r8.1.1.1.1,r8.1.1.1.2),(r8.1.1.2.1.1,r8.1.1.2.1.2),r8.1.1.2.2.1,r8.1.1.2.2.2),(0:Int),r9.1.1,Go.IntKind.i64.wrap ((1:Int) + r10.1.1),())).bind fun r11=>some ((((r11.1.1.1.1,r11.1.1.1.2),((r11.1.1.2.1.1,r11.1.1.2.1.2),(r11.1.1.2.2.1,r11.1.1.2.2.2))),()),((r10.2.1.1,r10.2.1.2),()))) (cond (decide (r5.1.1=(2:Int))) ((q56 n (((b.1.1,b.1.2),(b.2.1.1,b.2.1.2),b.2.2.1,b.2.2.2),())).bind fun r12=>(q48 n ((r5.2.1.1,r5.2.1.2),(12:Int),())).bind fun r13=>(q48 n ((r13.2.1.1,r13.2.1.2),(4:Int),())).bind fun r14=>(q48 n ((r14.2.1.1,r14.2.1.2),(5:Int),())).bind fun r15=>(q48 n ((r15.2.1.1,r15.2.1.2),(3:Int),())).bind fun r16=>(q108 n (((r12.1.1.1.1,r12.1.1.1.2),(r12.1.1.2.1.1,r12.1.1.2.1.2),r12.1.1.2.2.1,r12.1.1.2.2.2),(0:Int),(r13.1.1,Go.IntKind.i64.wrap ((1:Int) + r14.1.1),decide ((0:Int) < r15.1.1),decide (r16.1.1=(0:Int))),())).bind fun r17=>some ((((r17.1.1.1.1,r17.1.1.1.2),((r17.1.1.2.1.1,r17.1.1.2.1.2),(r17.1.1.2.2.1,r17.1.1.2.2.2))),()),((r16.2.1.1,r16.2.1.2),()))) (cond (decide (r5.1.1=(3:Int))) ((q56 n (((b.1.1,b.1.2),(b.2.1.1,b.2.1.2),b.2.2.1,b.2.2.2),())).bind fun r18=>(q48 n ((r5.2.1.1,r5.2.1.2),(12:Int),())).bind fun r19=>(q48 n ((r19.2.1.1,r19.2.1.2),(4:Int),())).bind fun r20=>(q48 n ((r20.2.1.1,r20.2.1.2),(5:Int),())).bind fun r21=>(q48 n ((r21.2.1.1,r21.2.1.2),(3:Int),())).bind fun r22=>(q108 n (((r18.1.1.1.1,r18.1.1.1.2),(r18.1.1.2.1.1,r18.1.1.2.1.2),r18.1.1.2.2.1,r18.1.1.2.2.2),(0:Int),(r19.1.1,Go.IntKind.i64.wrap ((1:Int) + r20.1.1),decide ((0:Int) < r21.1.1),decide (r22.1.1=(0:Int))),())).bind fun r23=>some ((((r23.1.1.1.1,r23.1.1.1.2),((r23.1.1.2.1.1,r23.1.1.2.1.2),(r23.1.1.2.2.1,r23.1.1.2.2.2))),()),((r22.2.1.1,r22.2.1.2),()))) (cond (decide (r5.1.1=(4:Int))) ((q56 n (((b.1.1,b.1.2),(b.2.1.1,b.2.1.2),b.2.2.1,b.2.2.2),())).bind fun r24=>(q48 n ((r5.2.1.1,r5.2.1.2),(12:Int),())).bind fun r25=>(q48 n ((r25.2.1.1,r25.2.1.2),(4:Int),())).bind fun r26=>(q48 n ((r26.2.1.1,r26.2.1.2),(5:Int),())).bind fun r27=>(q48 n ((r27.2.1.1,r27.2.1.2),(3:Int),())).bind fun r28=>(q108 n (((r24.1.1.1.1,r24.1.1.1.2),(r24.1.1.2.1.1,r24.1.1.2.1.2),r24.1.1.2.2.1,r24.1.1.2.2.2),(0:Int),(r25.1.1,Go.IntKind.i64.wrap ((1:Int) + r26.1.1),decide ((0:Int) < r27.1.1),decide (r28.1.1=(0:Int))),())).bind fun r29=>some ((((r29.1.1.1.1,r29.1.1.1.2),((r29.1.1.2.1.1,r29.1.1.2.1.2),(r29.1.1.2.2.1,r29.1.1.2.2.2))),()),((r28.2.1.1,r28.2.1.2),()))) (cond (decide (r5.1.1=(5:Int))) ((q48 n ((r5.2.1.1,r5.2.1.2),(4:Int),())).bind fun r30=>cond (decide (r30.1.1=(0:Int))) ((q56 n (((b.1.1,b.1.2),(b.2.1.1,b.2.1.2),b.2.2.1,b.2.2.2),())).bind fun r31=>(q103 n (((r31.1.1.1.1,r31.1.1.1.2),(r31.1.1.2.1.1,r31.1.1.2.1.2),r31.1.1.2.2.1,r31.1.1.2.2.2),(0:Int),())).bind fun r32=>some ((((r32.1.1.1.1,r32.1.1.1.2),((r32.1.1.2.1.1,r32.1.1.2.1.2),(r32.1.1.2.2.1,r32.1.1.2.2.2))),()),((r30.2.1.1,r30.2.1.2),()))) (some ((((b.1.1,b.1.2),((b.2.1.1,b.2.1.2),(b.2.2.1,b.2.2.2))),()),((r30.2.1.1,r30.2.1.2),())))) (cond (decide (r5.1.1=(6:Int))) ((q156 n (((b.1.1,b.1.2),(b.2.1.1,b.2.1.2),b.2.2.1,b.2.2.2),(0:Int),r4.1.1,())).bind fun r33=>some ((((r33.1.1.1.1,r33.1.1.1.2),((r33.1.1.2.1.1,r33.1.1.2.1.2),(r33.1.1.2.2.1,r33.1.1.2.2.2))),()),((r5.2.1.1,r5.2.1.2),()))) (cond (decide (r5.1.1=(7:Int))) ((q156 n (((b.1.1,b.1.2),(b.2.1.1,b.2.1.2),b.2.2.1,b.2.2.2),(0:Int),r4.1.1,())).bind fun r34=>some ((((r34.1.1.1.1,r34.1.1.1.2),((r34.1.1.2.1.1,r34.1.1.2.1.2),(r34.1.1.2.2.1,r34.1.1.2.2.2))),()),((r5.2.1.1,r5.2.1.2),()))) (cond (decide (r5.1.1=(8:Int))) ((q156 n (((b.1.1,b.1.2),(b.2.1.1,b.2.1.2),b.2.2.1,b.2.2.2),(0:Int),r4.1.1,())).bind fun r35=>some ((((r35.1.1.1.1,r35.1.1.1.2),((r35.1.1.2.1.1,r35.1.1.2.1.2),(r35.1.1.2.2.1,r35.1.1.2.2.2))),()),((r5.2.1.1,r5.2.1.2),()))) ((q48 n ((r5.2.1.1,r5.2.1.2),(256:Int),())).bind fun r36=>(q109 n (((b.1.1,b.1.2),(b.2.1.1,b.2.1.2),b.2.2.1,b.2.2.2),(0:Int),r4.1.1,r36.1.1,())).bind fun r37=>some ((((r37.1.1.1.1,r37.1.1.1.2),((r37.1.1.2.1.1,r37.1.1.2.1.2),(r37.1.1.2.2.1,r37.1.1.2.2.2))),()),((r36.2.1.1,r36.2.1.2),()))))))))))))) ((q54 n (((b.1.1,b.1.2),(b.2.1.1,b.2.1.2),b.2.2.1,b.2.2.2),r0.1.1,())).bind fun r38=>cond (!r38.1.1) ((q28 n (((b.1.1,b.1.2),(b.2.1.1,b.2.1.2),b.2.2.1,b.2.2.2),())).bind fun r39=>cond (r39.1.2.2.1) (some ((((r39.1.1.1.1,r39.1.1.1.2),((r39.1.1.2.1.1,r39.1.1.2.1.2),(r39.1.1.2.2.1,r39.1.1.2.2.2))),()),((r0.2.1.1,r0.2.1.2),()))) (some ((((b.1.1,b.1.2),((b.2.1.1,b.2.1.2),(b.2.2.1,b.2.2.2))),()),((r0.2.1.1,r0.2.1.2),())))) ((q48 n ((r0.2.1.1,r0.2.1.2),(64:Int),())).bind fun r40=>(q48 n ((r40.2.1.1,r40.2.1.2),(14:Int),())).bind fun r41=>cond (decide (r41.1.1=(0:Int))) ((q56 n (((b.1.1,b.1.2),(b.2.1.1,b.2.1.2),b.2.2.1,b.2.2.2),())).bind fun r42=>(q155 n (((r42.1.1.1.1,r42.1.1.1.2),(r42.1.1.2.1.1,r42.1.1.2.1.2),r42.1.1.2.2.1,r42.1.1.2.2.2),r0.1.1,())).bind fun r43=>cond (decide ((0:Int)≤r43.1.2.1)) (some ((((r43.1.1.1.1,r43.1.1.1.2),((r43.1.1.2.1.1,r43.1.1.2.1.2),(r43.1.1.2.2.1,r43.1.1.2.2.2))),()),((r41.2.1.1,r41.2.1.2),()))) (some ((((b.1.1,b.1.2),((b.2.1.1,b.2.1.2),(b.2.2.1,b.2.2.2))),()),((r41.2.1.1,r41.2.1.2),())))) (cond (decide (r41.1.1=(1:Int))) ((q56 n (((b.1.1,b.1.2),(b.2.1.1,b.2.1.2),b.2.2.1,b.2.2.2),())).bind fun r44=>(q48 n ((r41.2.1.1,r41.2.1.2),(12:Int),())).bind fun r45=>(q48 n ((r45.2.1.1,r45.2.1.2),(4:Int),())).bind fun r46=>(q55 n (((r44.1.1.1.1,r44.1.1.1.2),(r44.1.1.2.1.1,r44.1.1.2.1.2),r44.1.1.2.2.1,r44.1.1.2.2.2),r0.1.1,r45.1.1,Go.IntKind.i64.wrap ((1:Int) + r46.1.1),())).bind fun r47=>some ((((r47.1.1.1.1,r47.1.1.1.2),((r47.1.1.2.1.1,r47.1.1.2.1.2),(r47.1.1.2.2.1,r47.1.1.2.2.2))),()),((r46.2.1.1,r46.2.1.2),()))) (cond (decide (r41.1.1=(2:Int))) ((q56 n (((b.1.1,b.1.2),(b.2.1.1,b.2.1.2),b.2.2.1,b.2.2.2),())).bind fun r48=>(q48 n ((r41.2.1.1,r41.2.1.2),(12:Int),())).bind fun r49=>(q48 n ((r49.2.1.1,r49.2.1.2),(4:Int),())).bind fun r50=>(q48 n ((r50.2.1.1,r50.2.1.2),(5:Int),())).bind fun r51=>(q48 n ((r51.2.1.1,r51.2.1.2),(3:Int),())).bind fun r52=>(q108 n (((r48.1.1.1.1,r48.1.1.1.2),(r48.1.1.2.1.1,r48.1.1.2.1.2),r48.1.1.2.2.1,r48.1.1.2.2.2),r0.1.1,(r49.1.1,Go.IntKind.i64.wrap ((1:Int) + r50.1.1),decide ((0:Int) < r51.1.1),decide (r52.1.1=(0:Int))),())).bind fun r53=>some ((((r53.1.1.1.1,r53.1.1.1.2),((r53.1.1.2.1.1,r53.1.1.2.1.2),(r53.1.1.2.2.1,r53.1.1.2.2.2))),()),((r52.2.1.1,r52.2.1.2),()))) (cond (decide (r41.1.1=(3:Int))) ((q56 n (((b.1.1,b.1.2),(b.2.1.1,b.2.1.2),b.2.2.1,b.2.2.2),())).bind fun r54=>(q48 n ((r41.2.1.1,r41.2.1.2),(12:Int),())).bind fun r55=>(q48 n ((r55.2.1.1,r55.2.1.2),(4:Int),())).bind fun r56=>(q48 n ((r56.2.1.1,r56.2.1.2),(5:Int),())).bind fun r57=>(q48 n ((r57.2.1.1,r57.2.1.2),(3:Int),())).bind fun r58=>(q108 n (((r54.1.1.1.1,r54.1.1.1.2),(r54.1.1.2.1.1,r54.1.1.2.1.2),r54.1.1.2.2.1,r54.1.1.2.2.2),r0.1.1,(r55.1.1,Go.IntKind.i64.wrap ((1:Int) + r56.1.1),decide ((0:Int) < r57.1.1),decide (r58.1.1=(0:Int))),())).bind fun r59=>some ((((r59.1.1.1.1,r59.1.1.1.2),((r59.1.1.2.1.1,r59.1.1.2.1.2),(r59.1.1.2.2.1,r59.1.1.2.2.2))),()),((r58.2.1.1,r58.2.1.2),()))) (cond (decide (r41.1.1=(4:Int))) ((q56 n (((b.1.1,b.1.2),(b.2.1.1,b.2.1.2),b.2.2.1,b.2.2.2),())).bind fun r60=>(q48 n ((r41.2.1.1,r41.2.1.2),(12:Int),())).bind fun r61=>(q48 n ((r61.2.1.1,r61.2.1.2),(4:Int),())).bind fun r62=>(q48 n ((r62.2.1.1,r62.2.1.2),(5:Int),())).bind fun r63=>(q48 n ((r63.2.1.1,r63.2.1.2),(3:Int),())).bind fun r64=>(q108 n (((r60.1.1.1.1,r60.1.1.1.2),(r60.1.1.2.1.1,r60.1.1.2.1.2),r60.1.1.2.2.1,r60.1.1.2.2.2),r0.1.1,(r61.1.1,Go.IntKind.i64.wrap ((1:Int) + r62.1.1),decide ((0:Int) < r63.1.1),decide (r64.1.1=(0:Int))),())).bind fun r65=>some ((((r65.1.1.1.1,r65.1.1.1.2),((r65.1.1.2.1.1,r65.1.1.2.1.2),(r65.1.1.2.2.1,r65.1.1.2.2.2))),()),((r64.2.1.1,r64.2.1.2),()))) (cond (decide (r41.1.1=(5:Int))) ((q48 n ((r41.2.1.1,r41.2.1.2),(4:Int),())).bind fun r66=>cond (decide (r66.1.1=(0:Int))) ((q56 n (((b.1.1,b.1.2),(b.2.1.1,b.2.1.2),b.2.2.1,b.2.2.2),())).bind fun r67=>(q103 n (((r67.1.1.1.1,r67.1.1.1.2),(r67.1.1.2.1.1,r67.1.1.2.1.2),r67.1.1.2.2.1,r67.1.1.2.2.2),r0.1.1,())).bind fun r68=>some ((((r68.1.1.1.1,r68.1.1.1.2),((r68.1.1.2.1.1,r68.1.1.2.1.2),(r68.1.1.2.2.1,r68.1.1.2.2.2))),()),((r66.2.1.1,r66.2.1.2),()))) (some ((((b.1.1,b.1.2),((b.2.1.1,b.2.1.2),(b.2.2.1,b.2.2.2))),()),((r66.2.1.1,r66.2.1.2),())))) (cond (decide (r41.1.1=(6:Int))) ((q156 n (((b.1.1,b.1.2),(b.2.1.1,b.2.1.2),b.2.2.1,b.2.2.2),r0.1.1,r40.1.1,())).bind fun r69=>some ((((r69.1.1.1.1,r69.1.1.1.2),((r69.1.1.2.1.1,r69.1.1.2.1.2),(r69.1.1.2.2.1,r69.1.1.2.2.2))),()),((r41.2.1.1,r41.2.1.2),()))) (cond (decide (r41.1.1=(7:Int))) ((q156 n (((b.1.1,b.1.2),(b.2.1.1,b.2.1.2),b.2.2.1,b.2.2.2),r0.1.1,r40.1.1,())).bind fun r70=>some ((((r70.1.1.1.1,r70.1.1.1.2),((r70.1.1.2.1.1,r70.1.1.2.1.2),(r70.1.1.2.2.1,r70.1.1.2.2.2))),()),((r41.2.1.1,r41.2.1.2),()))) (cond (decide (r41.1.1=(8:Int))) ((q156 n (((b.1.1,b.1.2),(b.2.1.1,b.2.1.2),b.2.2.1,b.2.2.2),r0.1.1,r40.1.1,())).bind fun r71=>some ((((r71.1.1.1.1,r71.1.1.1.2),((r71.1.1.2.1.1,r71.1.1.2.1.2),(r71.1.1.2.2.1,r71.1.1.2.2.2))),()),((r41.2.1.1,r41.2.1.2),()))) ((q48 n ((r41.2.1.1,r41.2.1.2),(256:Int),())).bind fun r72=>(q109 n (((b.1.1,b.1.2),(b.2.1.1,b.2.1.2),b.2.2.1,b.2.2.2),r0.1.1,r40.1.1,r72.1.1,())).bind fun r73=>some ((((r73.1.1.1.1,r73.1.1.1.2),((r73.1.1.2.1.1,r73.1.1.2.1.2),(r73.1.1.2.2.1,r73.1.1.2.2.2))),()),((r72.2.1.1,r72.2.1.2),())))))))))))))
theorem e110_top (n:Nat) (a:List Int × Int) (b:(Lb × List Int) × (Lb × List Int) × List (Bool × Lq × Lq) × Int):runF TT G110 an110 Try.f110 c110 ps110 rs110 n (a,b,())=st110_top n a b:=by kernel_rfl
noncomputable def p110 (n:Nat) (a:List Int × Int) (b:(Lb × List Int) × (Lb × List Int) × List (Bool × Lq × Lq) × Int):Option R110:=st110_top n a b
theorem F110_eq (n:Nat) (a:List Int × Int) (b:(Lb × List Int) × (Lb × List Int) × List (Bool × Lq × Lq) × Int):runF TT G110 an110 Try.f110 c110 ps110 rs110 n (a,b,())=p110 n a b:=by
 rw [e110_top]
 skip
 try rfl
noncomputable def q110 (n:Nat) (x:argsD ps110):Option R110:=p110 n x.1 x.2.1
noncomputable def Sm110:Sm:=⟨ps110,rs110,true,q110⟩
theorem holds110 (hg:GamOK Try.prog G110):Holds Try.prog 110 Sm110:=by
 have:=h0_110 hg
 have e:(runF TT G110 an110 Try.f110 c110 ps110 rs110)=q110:=by
  funext n x
  exact F110_eq n x.1 x.2.1
 rw [e] at this
 exact this
theorem gam110:GamOK Try.prog G110:=by
 intro f s h
 unfold G110 at h
 split at h
 ·injection h with h; subst h; exact ⟨⟨Try.f28,c28,Try.func28,by kernel_rfl,by decide +kernel⟩,hh28⟩
 ·injection h with h; subst h; exact ⟨⟨Try.f48,c48,Try.func48,by kernel_rfl,by decide +kernel⟩,hh48⟩
 ·injection h with h; subst h; exact ⟨⟨Try.f54,c54,Try.func54,by kernel_rfl,by decide +kernel⟩,hh54⟩
 ·injection h with h; subst h; exact ⟨⟨Try.f55,c55,Try.func55,by kernel_rfl,by decide +kernel⟩,hh55⟩
 ·injection h with h; subst h; exact ⟨⟨Try.f56,c56,Try.func56,by kernel_rfl,by decide +kernel⟩,hh56⟩
 ·injection h with h; subst h; exact ⟨⟨Try.f103,c103,Try.func103,by kernel_rfl,by decide +kernel⟩,hh103⟩
 ·injection h with h; subst h; exact ⟨⟨Try.f108,c108,Try.func108,by kernel_rfl,by decide +kernel⟩,hh108⟩
 ·injection h with h; subst h; exact ⟨⟨Try.f109,c109,Try.func109,by kernel_rfl,by decide +kernel⟩,hh109⟩
 ·injection h with h; subst h; exact ⟨⟨Try.f155,c155,Try.func155,by kernel_rfl,by decide +kernel⟩,hh155⟩
 ·injection h with h; subst h; exact ⟨⟨Try.f156,c156,Try.func156,by kernel_rfl,by decide +kernel⟩,hh156⟩
 ·cases h
theorem hh110:Holds Try.prog 110 Sm110:=holds110 gam110
end Go.Proofs.Ytdkaagpkeomhmaa.Rx.S

namespace Go.Proofs.Ytdkaagpkeomhmaa.Rx.S
open Go Go.RowKit Go.Proofs
set_option maxRecDepth 100000
noncomputable def c45:Code:=(Try.f45.body.getD .skip)
def an45:An:=⟨fun _=>⟨[],[]⟩,fun _ _=>none⟩
abbrev ps45:List PK:=[.val (.row 5 (.int .u8)) false]
abbrev rs45:List RK:=[.bx tRd]
abbrev R45:=retsD rs45 × outsD ps45
noncomputable def G45:Gam:=fun _=>none
theorem h0_45 (hg:GamOK Try.prog G45):Holds Try.prog 45 ⟨ps45,rs45,true,runF TT G45 an45 Try.f45 c45 ps45 rs45⟩:=holds_of tt_ok hg mixed Try.func45 (by kernel_rfl) (by rfl) (by decide +kernel)
noncomputable def st45_top (n:Nat) (a:List Int):Option R45 :=
 cond (decide ((2000:Int) < (↑a.length:Int))) (cond (decide ((2000:Int)≤(↑a.length:Int))) (some (((List.take (Int.toNat (2000:Int)) a,(0:Int)),()),())) (none)) (some (((a,(0:Int)),()),()))
theorem e45_top (n:Nat) (a:List Int):runF TT G45 an45 Try.f45 c45 ps45 rs45 n (a,())=st45_top n a:=by kernel_rfl
noncomputable def p45 (n:Nat) (a:List Int):Option R45:=st45_top n a
theorem F45_eq (n:Nat) (a:List Int):runF TT G45 an45 Try.f45 c45 ps45 rs45 n (a,())=p45 n a:=by
 rw [e45_top]
 skip
 try rfl
noncomputable def q45 (n:Nat) (x:argsD ps45):Option R45:=p45 n x.1
noncomputable def Sm45:Sm:=⟨ps45,rs45,true,q45⟩
theorem holds45 (hg:GamOK Try.prog G45):Holds Try.prog 45 Sm45:=by
 have:=h0_45 hg
 have e:(runF TT G45 an45 Try.f45 c45 ps45 rs45)=q45:=by
  funext n x
  exact F45_eq n x.1
 rw [e] at this
 exact this
theorem gam45:GamOK Try.prog G45:=fun _ _ h=>by cases h
theorem hh45:Holds Try.prog 45 Sm45:=holds45 gam45
end Go.Proofs.Ytdkaagpkeomhmaa.Rx.S

namespace Go.Proofs.Ytdkaagpkeomhmaa.Rx.S
open Go Go.RowKit Go.Proofs
set_option maxRecDepth 100000
noncomputable def c151:Code:=(Try.f151.body.getD .skip)
def an151:An:=⟨fun _=>⟨[],[]⟩,fun _ _=>none⟩
abbrev ps151:List PK:=[.val i64 false]
abbrev rs151:List RK:=[.own tPg true,.val .bool false]
abbrev R151:=retsD rs151 × outsD ps151
noncomputable def G151:Gam:=fun f=>match f with | 69=>some Sm69 | _=>none
theorem h0_151 (hg:GamOK Try.prog G151):Holds Try.prog 151 ⟨ps151,rs151,false,runF TT G151 an151 Try.f151 c151 ps151 rs151⟩:=holds_of tt_ok hg mixed Try.func151 (by kernel_rfl) (by rfl) (by decide +kernel)
noncomputable def st151_top (n:Nat) (a:Int):Option R151 :=
 (q69 n (a,(1:Int),(12:Int),())).bind fun r0=>cond (!r0.1.1) (some ((([],[]),(false,())),())) (cond (decide ((0:Int)≤a)) (cond (decide (a * (↑(16:Nat):Int)≤(140737488355328:Int))) (cond (decide ((0:Int)≤a)) (cond (decide (a * (↑(8:Nat):Int)≤(140737488355328:Int))) (some (((List.replicate a.toNat ByteArray.empty,List.replicate a.toNat (0:Int)),(true,())),())) (none)) (none)) (none)) (none))
theorem e151_top (n:Nat) (a:Int):runF TT G151 an151 Try.f151 c151 ps151 rs151 n (a,())=st151_top n a:=by kernel_rfl
noncomputable def p151 (n:Nat) (a:Int):Option R151:=st151_top n a
theorem F151_eq (n:Nat) (a:Int):runF TT G151 an151 Try.f151 c151 ps151 rs151 n (a,())=p151 n a:=by
 rw [e151_top]
 skip
 try rfl
noncomputable def q151 (n:Nat) (x:argsD ps151):Option R151:=p151 n x.1
noncomputable def Sm151:Sm:=⟨ps151,rs151,false,q151⟩
theorem holds151 (hg:GamOK Try.prog G151):Holds Try.prog 151 Sm151:=by
 have:=h0_151 hg
 have e:(runF TT G151 an151 Try.f151 c151 ps151 rs151)=q151:=by
  funext n x
  exact F151_eq n x.1
 rw [e] at this
 exact this
theorem gam151:GamOK Try.prog G151:=by
 intro f s h
 unfold G151 at h
 split at h
 ·injection h with h; subst h; exact ⟨⟨Try.f69,c69,Try.func69,by kernel_rfl,by decide +kernel⟩,hh69⟩
 ·cases h
theorem hh151:Holds Try.prog 151 Sm151:=holds151 gam151
end Go.Proofs.Ytdkaagpkeomhmaa.Rx.S

namespace Go.Proofs.Ytdkaagpkeomhmaa.Rx.S
open Go Go.RowKit Go.Proofs
set_option maxRecDepth 100000
noncomputable def c107:Code:=(Try.f107.body.getD .skip)
def an107:An:=⟨fun _=>⟨[],[]⟩,fun _ _=>none⟩
abbrev ps107:List PK:=[]
abbrev rs107:List RK:=[.own tMem true]
abbrev R107:=retsD rs107 × outsD ps107
noncomputable def G107:Gam:=fun f=>match f with | 151=>some Sm151 | _=>none
theorem h0_107 (hg:GamOK Try.prog G107):Holds Try.prog 107 ⟨ps107,rs107,false,runF TT G107 an107 Try.f107 c107 ps107 rs107⟩:=holds_of tt_ok hg mixed Try.func107 (by kernel_rfl) (by rfl) (by decide +kernel)
noncomputable def st107_top (n:Nat):Option R107 :=
 (q151 n ((12:Int),())).bind fun r0=>(q151 n ((12:Int),())).bind fun r1=>some ((((r0.1.1.1,r0.1.1.2),((r1.1.1.1,r1.1.1.2),(List.replicate (Int.toNat (5:Int)) (false,[],[]),(0:Int)))),()),())
theorem e107_top (n:Nat):runF TT G107 an107 Try.f107 c107 ps107 rs107 n ()=st107_top n:=by kernel_rfl
noncomputable def p107 (n:Nat):Option R107:=st107_top n 
theorem F107_eq (n:Nat):runF TT G107 an107 Try.f107 c107 ps107 rs107 n ()=p107 n:=by
 rw [e107_top]
 skip
 try rfl
noncomputable def q107 (n:Nat) (x:argsD ps107):Option R107:=p107 n 
noncomputable def Sm107:Sm:=⟨ps107,rs107,false,q107⟩
theorem holds107 (hg:GamOK Try.prog G107):Holds Try.prog 107 Sm107:=by
 have:=h0_107 hg
 have e:(runF TT G107 an107 Try.f107 c107 ps107 rs107)=q107:=by
  funext n x
  exact F107_eq n 
 rw [e] at this
 exact this
theorem gam107:GamOK Try.prog G107:=by
 intro f s h
 unfold G107 at h
 split at h
 ·injection h with h; subst h; exact ⟨⟨Try.f151,c151,Try.func151,by kernel_rfl,by decide +kernel⟩,hh151⟩
 ·cases h
theorem hh107:Holds Try.prog 107 Sm107:=holds107 gam107
end Go.Proofs.Ytdkaagpkeomhmaa.Rx.S

namespace Go.Proofs.Ytdkaagpkeomhmaa.Rx.S
open Go Go.RowKit Go.Proofs
set_option maxRecDepth 100000
noncomputable def c111:Code:=(Try.f111.body.getD .skip)
def an111:An:=⟨fun _=>⟨[],[]⟩,fun _ _=>none⟩
abbrev ps111:List PK:=[.bx tRd]
abbrev rs111:List RK:=[.val tAr true]
abbrev R111:=retsD rs111 × outsD ps111
noncomputable def G111:Gam:=fun f=>match f with | 48=>some Sm48 | _=>none
theorem h0_111 (hg:GamOK Try.prog G111):Holds Try.prog 111 ⟨ps111,rs111,true,runF TT G111 an111 Try.f111 c111 ps111 rs111⟩:=holds_of tt_ok hg mixed Try.func111 (by kernel_rfl) (by rfl) (by decide +kernel)
noncomputable def st111_top (n:Nat) (a:List Int × Int):Option R111 :=
 (q48 n ((a.1,a.2),(16:Int),())).bind fun r0=>(q48 n ((r0.2.1.1,r0.2.1.2),(5:Int),())).bind fun r1=>(q48 n ((r1.2.1.1,r1.2.1.2),(4:Int),())).bind fun r2=>(q48 n ((r2.2.1.1,r2.2.1.2),(3:Int),())).bind fun r3=>(q48 n ((r3.2.1.1,r3.2.1.2),(20:Int),())).bind fun r4=>cond (decide (r4.1.1=(0:Int))) ((q48 n ((r4.2.1.1,r4.2.1.2),(4:Int),())).bind fun r5=>cond (decide ((0:Int)≤r5.1.1)) (cond (decide (r5.1.1 < (↑[(0:Int),(-1:Int),(16:Int),(17:Int)].length:Int))) (some (((r0.1.1,([(0:Int),(-1:Int),(16:Int),(17:Int)].getD (Int.toNat r5.1.1) (0:Int),(decide ((0:Int) < r2.1.1),decide (r3.1.1=(0:Int))))),()),((r5.2.1.1,r5.2.1.2),()))) (none)) (none)) (some (((r0.1.1,(Go.IntKind.i64.wrap ((1:Int) + r1.1.1),(decide ((0:Int) < r2.1.1),decide (r3.1.1=(0:Int))))),()),((r4.2.1.1,r4.2.1.2),())))
theorem e111_top (n:Nat) (a:List Int × Int):runF TT G111 an111 Try.f111 c111 ps111 rs111 n (a,())=st111_top n a:=by kernel_rfl
noncomputable def p111 (n:Nat) (a:List Int × Int):Option R111:=st111_top n a
theorem F111_eq (n:Nat) (a:List Int × Int):runF TT G111 an111 Try.f111 c111 ps111 rs111 n (a,())=p111 n a:=by
 rw [e111_top]
 skip
 try rfl
noncomputable def q111 (n:Nat) (x:argsD ps111):Option R111:=p111 n x.1
noncomputable def Sm111:Sm:=⟨ps111,rs111,true,q111⟩
theorem holds111 (hg:GamOK Try.prog G111):Holds Try.prog 111 Sm111:=by
 have:=h0_111 hg
 have e:(runF TT G111 an111 Try.f111 c111 ps111 rs111)=q111:=by
  funext n x
  exact F111_eq n x.1
 rw [e] at this
 exact this
theorem gam111:GamOK Try.prog G111:=by
 intro f s h
 unfold G111 at h
 split at h
 ·injection h with h; subst h; exact ⟨⟨Try.f48,c48,Try.func48,by kernel_rfl,by decide +kernel⟩,hh48⟩
 ·cases h
theorem hh111:Holds Try.prog 111 Sm111:=holds111 gam111
end Go.Proofs.Ytdkaagpkeomhmaa.Rx.S

namespace Go.Proofs.Ytdkaagpkeomhmaa.Rx.S
open Go Go.RowKit Go.Proofs
set_option maxRecDepth 100000
noncomputable def c46:Code:=(Try.f46.body.getD .skip)
def an46:An:=⟨fun r=>match r with | 5=>⟨[0,2,3,6],[]⟩ | 9=>⟨[0,2,3,7],[]⟩ | _=>⟨[],[]⟩,fun _ _=>none⟩
abbrev ps46:List PK:=[.bx tRd]
abbrev rs46:List RK:=[.own tMem true]
abbrev R46:=retsD rs46 × outsD ps46
noncomputable def G46:Gam:=fun f=>match f with | 28=>some Sm28 | 48=>some Sm48 | 107=>some Sm107 | 108=>some Sm108 | 109=>some Sm109 | 110=>some Sm110 | 111=>some Sm111 | _=>none
theorem h0_46 (hg:GamOK Try.prog G46):Holds Try.prog 46 ⟨ps46,rs46,true,runF TT G46 an46 Try.f46 c46 ps46 rs46⟩:=holds_of tt_ok hg mixed Try.func46 (by kernel_rfl) (by rfl) (by decide +kernel)
noncomputable def at46:Nat→Pt→List Nat→St→Option R46:=atF TT G46 an46 Try.f46 c46 _ _
def sh46_L9 (x0:Int) (x1:List Int) (x2 x3 x4:Int) (x5:Lb) (x6:List Int) (x7:Lb) (x8:List Int) (x9:List (Bool × Lq × Lq)):St:=(St.mk [AV.par 0 false ((SV.bptr 1000000 0) :: []),Uu,AV.one (SV.bptr 1000001 0),AV.one (SV.bptr 1000002 0),Uu,Uu,Uu,AV.one (SV.int (Go.IntKind.i64) x0),Uu,Uu,Uu,Uu,Uu,Uu,Uu,Uu,Uu,Uu,Uu,Uu,Uu,Uu,Uu,Uu,Uu,Uu,Uu,Uu,Uu,Uu,Uu,Uu,Uu,Uu,Uu,Uu,Uu,Uu,Uu,Uu,Uu,Uu,Uu,Uu,Uu,Uu,Uu,Uu,Uu,Uu,Uu,Uu,Uu,Uu,Uu,Uu,Uu,Uu,Uu,Uu,Uu,Uu,Uu,Uu,Uu,Uu,Uu,Uu,Uu,Uu,Uu,Uu,Uu,Uu,Uu,Uu,Uu,Uu,Uu,Uu,Uu,Uu,Uu,Uu,Uu,Uu,Uu,Uu,Uu,Uu,Uu,Uu,Uu,Uu,Uu,Uu,Uu,Uu,Uu,Uu,Uu,Uu,Uu,Uu,Uu,Uu,Uu,Uu,Uu,Uu,Uu,Uu,Uu,Uu,Uu,Uu,Uu,Uu,Uu,Uu,Uu,Uu,Uu] ((1000000,(Ent.box ((SV.con (⟨5,Ty.int Go.IntKind.u8,x1⟩:Rw)) :: ((SV.int (Go.IntKind.i64) x2) :: [])))) :: ((1000001,(Ent.box (SV.nil :: (SV.nil :: (SV.nil :: (SV.nil :: (SV.nil :: ((SV.int (Go.IntKind.i64) x3) :: [])))))))) :: ((1000002,(Ent.box ((SV.ref 1000003 0 [] Option.none) :: ((SV.ref 1000004 0 [] Option.none) :: ((SV.ref 1000005 0 [] Option.none) :: ((SV.ref 1000006 0 [] Option.none) :: ((SV.ref 1000007 0 [] Option.none) :: ((SV.int (Go.IntKind.i64) x4) :: [])))))))) :: ((1000003,(Ent.row (⟨9,Ty.str,x5⟩:Rw) 0 Option.none)) :: ((1000004,(Ent.row (⟨3,Ty.int Go.IntKind.i64,x6⟩:Rw) 0 Option.none)) :: ((1000005,(Ent.row (⟨9,Ty.str,x7⟩:Rw) 0 Option.none)) :: ((1000006,(Ent.row (⟨3,Ty.int Go.IntKind.i64,x8⟩:Rw) 0 Option.none)) :: ((1000007,(Ent.row (⟨71,Ty.bool.pair ((Ty.row (nat_lit 116) ((Ty.int Go.IntKind.i64).pair ((Ty.int Go.IntKind.i64).pair (Ty.bool.pair Ty.bool)))).pair (Ty.row (nat_lit 80) ((Ty.int Go.IntKind.i64).pair ((Ty.int Go.IntKind.i64).pair (Ty.bool.pair Ty.bool))))),x9⟩:Rw) 0 Option.none)) :: [])))))))))
def sh46_L5 (x0:Int) (x1:List Int) (x2 x3 x4:Int) (x5:Lb) (x6:List Int) (x7:Lb) (x8:List Int) (x9:List (Bool × Lq × Lq)):St:=(St.mk [AV.par 0 false ((SV.bptr 1000000 0) :: []),Uu,AV.one (SV.bptr 1000001 0),AV.one (SV.bptr 1000002 0),Uu,Uu,AV.one (SV.int (Go.IntKind.i64) x0),Uu,Uu,Uu,Uu,Uu,Uu,Uu,Uu,Uu,Uu,Uu,Uu,Uu,Uu,Uu,Uu,Uu,Uu,Uu,Uu,Uu,Uu,Uu,Uu,Uu,Uu,Uu,Uu,Uu,Uu,Uu,Uu,Uu,Uu,Uu,Uu,Uu,Uu,Uu,Uu,Uu,Uu,Uu,Uu,Uu,Uu,Uu,Uu,Uu,Uu,Uu,Uu,Uu,Uu,Uu,Uu,Uu,Uu,Uu,Uu,Uu,Uu,Uu,Uu,Uu,Uu,Uu,Uu,Uu,Uu,Uu,Uu,Uu,Uu,Uu,Uu,Uu,Uu,Uu,Uu,Uu,Uu,Uu,Uu,Uu,Uu,Uu,Uu,Uu,Uu,Uu,Uu,Uu,Uu,Uu,Uu,Uu,Uu,Uu,Uu,Uu,Uu,Uu,Uu,Uu,Uu,Uu,Uu,Uu,Uu,Uu,Uu,Uu,Uu,Uu,Uu] ((1000000,(Ent.box ((SV.con (⟨5,Ty.int Go.IntKind.u8,x1⟩:Rw)) :: ((SV.int (Go.IntKind.i64) x2) :: [])))) :: ((1000001,(Ent.box (SV.nil :: (SV.nil :: (SV.nil :: (SV.nil :: (SV.nil :: ((SV.int (Go.IntKind.i64) x3) :: [])))))))) :: ((1000002,(Ent.box ((SV.ref 1000003 0 [] Option.none) :: ((SV.ref 1000004 0 [] Option.none) :: ((SV.ref 1000005 0 [] Option.none) :: ((SV.ref 1000006 0 [] Option.none) :: ((SV.ref 1000007 0 [] Option.none) :: ((SV.int (Go.IntKind.i64) x4) :: [])))))))) :: ((1000003,(Ent.row (⟨9,Ty.str,x5⟩:Rw) 0 Option.none)) :: ((1000004,(Ent.row (⟨3,Ty.int Go.IntKind.i64,x6⟩:Rw) 0 Option.none)) :: ((1000005,(Ent.row (⟨9,Ty.str,x7⟩:Rw) 0 Option.none)) :: ((1000006,(Ent.row (⟨3,Ty.int Go.IntKind.i64,x8⟩:Rw) 0 Option.none)) :: ((1000007,(Ent.row (⟨71,Ty.bool.pair ((Ty.row (nat_lit 116) ((Ty.int Go.IntKind.i64).pair ((Ty.int Go.IntKind.i64).pair (Ty.bool.pair Ty.bool)))).pair (Ty.row (nat_lit 80) ((Ty.int Go.IntKind.i64).pair ((Ty.int Go.IntKind.i64).pair (Ty.bool.pair Ty.bool))))),x9⟩:Rw) 0 Option.none)) :: [])))))))))
noncomputable def st46_top (n:Nat) (lL5:Int→(List Int)→Int→Int→Int→(Lb)→(List Int)→(Lb)→(List Int)→(List (Bool × Lq × Lq))→Option R46) (lL9:Int→(List Int)→Int→Int→Int→(Lb)→(List Int)→(Lb)→(List Int)→(List (Bool × Lq × Lq))→Option R46) (a:List Int × Int):Option R46 :=
 (q107 n ()).bind fun r0=>(q28 n (((r0.1.1.1.1,r0.1.1.1.2),(r0.1.1.2.1.1,r0.1.1.2.1.2),r0.1.1.2.2.1,r0.1.1.2.2.2),())).bind fun r1=>(q48 n ((a.1,a.2),(2:Int),())).bind fun r2=>cond (decide (r2.1.1=(0:Int))) ((q48 n ((r2.2.1.1,r2.2.1.2),(9:Int),())).bind fun r3=>(q48 n ((r3.2.1.1,r3.2.1.2),(3:Int),())).bind fun r4=>(q108 n (((r1.1.1.1.1,r1.1.1.1.2),(r1.1.1.2.1.1,r1.1.1.2.1.2),r1.1.1.2.2.1,r1.1.1.2.2.2),(0:Int),((0:Int),Go.IntKind.i64.wrap ((8:Int) + r3.1.1),true,decide (r4.1.1=(0:Int))),())).bind fun r5=>(q48 n ((r4.2.1.1,r4.2.1.2),(16:Int),())).bind fun r6=>lL5 (r6.1.1) (r6.2.1.1) (r6.2.1.2) ((0:Int)) (r5.1.1.2.2.2) (r5.1.1.1.1) (r5.1.1.1.2) (r5.1.1.2.1.1) (r5.1.1.2.1.2) (r5.1.1.2.2.1)) ((q48 n ((r2.2.1.1,r2.2.1.2),(30:Int),())).bind fun r22=>lL9 (r22.1.1) (r22.2.1.1) (r22.2.1.2) ((0:Int)) (r1.1.1.2.2.2) (r1.1.1.1.1) (r1.1.1.1.2) (r1.1.1.2.1.1) (r1.1.1.2.1.2) (r1.1.1.2.2.1))
noncomputable def st46_L9 (n:Nat) (lL9:Int→(List Int)→Int→Int→Int→(Lb)→(List Int)→(Lb)→(List Int)→(List (Bool × Lq × Lq))→Option R46) (x0:Int) (x1:List Int) (x2 x3 x4:Int) (x5:Lb) (x6:List Int) (x7:Lb) (x8:List Int) (x9:List (Bool × Lq × Lq)):Option R46 :=
 cond (decide ((0:Int) < x0)) ((q110 n ((x1,x2),((x5,x6),(x7,x8),x9,x4),())).bind fun r11=>lL9 (Go.IntKind.i64.wrap (x0 - (1:Int))) (r11.2.1.1) (r11.2.1.2) (x3) (r11.1.1.2.2.2) (r11.1.1.1.1) (r11.1.1.1.2) (r11.1.1.2.1.1) (r11.1.1.2.1.2) (r11.1.1.2.2.1)) ((q48 n ((x1,x2),(24:Int),())).bind fun r12=>cond (decide (r12.1.1=(0:Int))) ((q48 n ((r12.2.1.1,r12.2.1.2),(3:Int),())).bind fun r13=>cond (decide ((0:Int)≤r13.1.1)) (cond (decide (r13.1.1 < (↑[(-1:Int),(12:Int),(3:Int)].length:Int))) (some ((((x5,x6),((x7,x8),(x9,[(-1:Int),(12:Int),(3:Int)].getD (Int.toNat r13.1.1) (0:Int)))),()),((r13.2.1.1,r13.2.1.2),()))) (none)) (none)) (cond (decide (r12.1.1=(1:Int))) ((q48 n ((r12.2.1.1,r12.2.1.2),(12:Int),())).bind fun r14=>(q48 n ((r14.2.1.1,r14.2.1.2),(3:Int),())).bind fun r15=>cond (decide ((0:Int)≤r14.1.1)) (cond (decide (r14.1.1 < (↑x6.length:Int))) (some ((((x5,x6.set (Int.toNat r14.1.1) r15.1.1),((x7,x8),(x9,x4))),()),((r15.2.1.1,r15.2.1.2),()))) (none)) (none)) (cond (decide (r12.1.1=(2:Int))) (cond (decide ((0:Int) < (↑x9.length:Int))) (cond ((x9.getD (Int.toNat (0:Int)) (false,[],[])).1) (cond (decide ((0:Int) < (↑x9.length:Int))) ((q48 n ((r12.2.1.1,r12.2.1.2),(16:Int),())).bind fun r16=>(q48 n ((r16.2.1.1,r16.2.1.2),(4:Int),())).bind fun r17=>(q48 n ((r17.2.1.1,r17.2.1.2),(14:Int),())).bind fun r18=>(q48 n ((r18.2.1.1,r18.2.1.2),(2:Int),())).bind fun r19=>(q48 n ((r19.2.1.1,r19.2.1.2),(2:Int),())).bind fun r20=>cond (decide ((0:Int)≤r16.1.1)) (cond (decide (r16.1.1 < (↑(List.length (x9.getD (Int.toNat (0:Int)) (false,[],[])).2.2):Int))) (some ((((x5,x6),((x7,x8),(x9.set (Int.toNat (0:Int)) ((x9.getD (Int.toNat (0:Int)) (false,[],[])).1,(x9.getD (Int.toNat (0:Int)) (false,[],[])).2.1,List.set (x9.getD (Int.toNat (0:Int)) (false,[],[])).2.2 (Int.toNat r16.1.1) (r17.1.1,Go.IntKind.i64.wrap (r18.1.1 - (1:Int)),decide (r19.1.1=(0:Int)),decide (r20.1.1=(0:Int)))),x4))),()),((r20.2.1.1,r20.2.1.2),()))) (none)) (none)) (none)) (some ((((x5,x6),((x7,x8),(x9,x4))),()),((r12.2.1.1,r12.2.1.2),())))) (none)) (cond (decide (r12.1.1=(3:Int))) (cond (decide ((1:Int)≤(↑x9.length:Int))) (some ((((x5,x6),((x7,x8),(List.take ((↑x9.length:Int) - (1:Int)).toNat (List.drop ((0:Nat) + Int.toNat (1:Int)) x9),x4))),()),((r12.2.1.1,r12.2.1.2),()))) (none)) (cond (decide (r12.1.1=(4:Int))) (cond (decide ((1:Int) < (↑x9.length:Int))) ((q111 n ((r12.2.1.1,r12.2.1.2),())).bind fun r21=>cond (decide ((List.length (x9.getD (Int.toNat (1:Int)) (false,[],[])).2.1 + [(r21.1.1.1,r21.1.1.2.1,r21.1.1.2.2.1,r21.1.1.2.2.2)].length) * (24:Nat)≤(140737488355328:Nat))) (cond (decide ((1:Int) < (↑x9.length:Int))) (some ((((x5,x6),((x7,x8),(x9.set (Int.toNat (1:Int)) ((x9.getD (Int.toNat (1:Int)) (false,[],[])).1,(x9.getD (Int.toNat (1:Int)) (false,[],[])).2.1 ++ [(r21.1.1.1,r21.1.1.2.1,r21.1.1.2.2.1,r21.1.1.2.2.2)],(x9.getD (Int.toNat (1:Int)) (false,[],[])).2.2),x4))),()),((r21.2.1.1,r21.2.1.2),()))) (none)) (none)) (none)) (some ((((x5,x6),((x7,x8),(x9,x4))),()),((r12.2.1.1,r12.2.1.2),()))))))))
noncomputable def st46_L5 (n:Nat) (lL5:Int→(List Int)→Int→Int→Int→(Lb)→(List Int)→(Lb)→(List Int)→(List (Bool × Lq × Lq))→Option R46) (lL9:Int→(List Int)→Int→Int→Int→(Lb)→(List Int)→(Lb)→(List Int)→(List (Bool × Lq × Lq))→Option R46) (x0:Int) (x1:List Int) (x2 x3 x4:Int) (x5:Lb) (x6:List Int) (x7:Lb) (x8:List Int) (x9:List (Bool × Lq × Lq)):Option R46 :=
 cond (decide ((0:Int) < x0)) ((q109 n (((x5,x6),(x7,x8),x9,x4),(0:Int),Go.IntKind.i64.wrap (Go.IntKind.i64.wrap (x0 * (4:Int)) - (1:Int)),Go.IntKind.i64.wrap ((1:Int) + x0),())).bind fun r8=>lL5 (Go.IntKind.i64.wrap (x0 - (1:Int))) (x1) (x2) (x3) (r8.1.1.2.2.2) (r8.1.1.1.1) (r8.1.1.1.2) (r8.1.1.2.1.1) (r8.1.1.2.1.2) (r8.1.1.2.2.1)) ((q48 n ((x1,x2),(30:Int),())).bind fun r9=>lL9 (r9.1.1) (r9.2.1.1) (r9.2.1.2) (x3) (x4) (x5) (x6) (x7) (x8) (x9))
theorem e46_top (n:Nat) (a:List Int × Int):runF TT G46 an46 Try.f46 c46 ps46 rs46 n (a,())=st46_top n (fun x0 x1 x2 x3 x4 x5 x6 x7 x8 x9=>at46 n (.head 5) [n] (sh46_L5 x0 x1 x2 x3 x4 x5 x6 x7 x8 x9)) (fun x0 x1 x2 x3 x4 x5 x6 x7 x8 x9=>at46 n (.head 9) [n] (sh46_L9 x0 x1 x2 x3 x4 x5 x6 x7 x8 x9)) a:=by kernel_rfl
theorem e46_L9_0 (n:Nat) (x0:Int) (x1:List Int) (x2 x3 x4:Int) (x5:Lb) (x6:List Int) (x7:Lb) (x8:List Int) (x9:List (Bool × Lq × Lq)):at46 n (.head 9) [0] (sh46_L9 x0 x1 x2 x3 x4 x5 x6 x7 x8 x9)=none:=by kernel_rfl
theorem e46_L9 (n:Nat) (m9:Nat) (x0:Int) (x1:List Int) (x2 x3 x4:Int) (x5:Lb) (x6:List Int) (x7:Lb) (x8:List Int) (x9:List (Bool × Lq × Lq)):at46 n (.head 9) [m9 + 1] (sh46_L9 x0 x1 x2 x3 x4 x5 x6 x7 x8 x9)=st46_L9 n (fun x0 x1 x2 x3 x4 x5 x6 x7 x8 x9=>at46 n (.head 9) [m9] (sh46_L9 x0 x1 x2 x3 x4 x5 x6 x7 x8 x9)) x0 x1 x2 x3 x4 x5 x6 x7 x8 x9:=by kernel_rfl
theorem e46_L5_0 (n:Nat) (x0:Int) (x1:List Int) (x2 x3 x4:Int) (x5:Lb) (x6:List Int) (x7:Lb) (x8:List Int) (x9:List (Bool × Lq × Lq)):at46 n (.head 5) [0] (sh46_L5 x0 x1 x2 x3 x4 x5 x6 x7 x8 x9)=none:=by kernel_rfl
theorem e46_L5 (n:Nat) (m5:Nat) (x0:Int) (x1:List Int) (x2 x3 x4:Int) (x5:Lb) (x6:List Int) (x7:Lb) (x8:List Int) (x9:List (Bool × Lq × Lq)):at46 n (.head 5) [m5 + 1] (sh46_L5 x0 x1 x2 x3 x4 x5 x6 x7 x8 x9)=st46_L5 n (fun x0 x1 x2 x3 x4 x5 x6 x7 x8 x9=>at46 n (.head 5) [m5] (sh46_L5 x0 x1 x2 x3 x4 x5 x6 x7 x8 x9)) (fun x0 x1 x2 x3 x4 x5 x6 x7 x8 x9=>at46 n (.head 9) [n] (sh46_L9 x0 x1 x2 x3 x4 x5 x6 x7 x8 x9)) x0 x1 x2 x3 x4 x5 x6 x7 x8 x9:=by kernel_rfl
noncomputable def p46_L9 (n:Nat):Nat→Int→(List Int)→Int→Int→Int→(Lb)→(List Int)→(Lb)→(List Int)→(List (Bool × Lq × Lq))→Option R46
 | 0,_,_,_,_,_,_,_,_,_,_=>none
 | m + 1,x0,x1,x2,x3,x4,x5,x6,x7,x8,x9=>st46_L9 n (p46_L9 n m) x0 x1 x2 x3 x4 x5 x6 x7 x8 x9
noncomputable def p46_L5 (n:Nat):Nat→Int→(List Int)→Int→Int→Int→(Lb)→(List Int)→(Lb)→(List Int)→(List (Bool × Lq × Lq))→Option R46
 | 0,_,_,_,_,_,_,_,_,_,_=>none
 | m + 1,x0,x1,x2,x3,x4,x5,x6,x7,x8,x9=>st46_L5 n (p46_L5 n m) (p46_L9 n n) x0 x1 x2 x3 x4 x5 x6 x7 x8 x9
noncomputable def p46 (n:Nat) (a:List Int × Int):Option R46:=st46_top n (p46_L5 n n) (p46_L9 n n) a
theorem t46_L9 (n:Nat):∀ (m9:Nat) (x0:Int) (x1:List Int) (x2 x3 x4:Int) (x5:Lb) (x6:List Int) (x7:Lb) (x8:List Int) (x9:List (Bool × Lq × Lq)),at46 n (.head 9) [m9] (sh46_L9 x0 x1 x2 x3 x4 x5 x6 x7 x8 x9)=p46_L9 n m9 x0 x1 x2 x3 x4 x5 x6 x7 x8 x9:=by
 intro m
 induction m with
 | zero=>intros; rw [e46_L9_0]; rfl
 | succ m ih =>
  intros
  rw [e46_L9]
  try simp only [ih]
  rfl
theorem t46_L5 (n:Nat):∀ (m5:Nat) (x0:Int) (x1:List Int) (x2 x3 x4:Int) (x5:Lb) (x6:List Int) (x7:Lb) (x8:List Int) (x9:List (Bool × Lq × Lq)),at46 n (.head 5) [m5] (sh46_L5 x0 x1 x2 x3 x4 x5 x6 x7 x8 x9)=p46_L5 n m5 x0 x1 x2 x3 x4 x5 x6 x7 x8 x9:=by
 intro m
 induction m with
 | zero=>intros; rw [e46_L5_0]; rfl
 | succ m ih =>
  intros
  rw [e46_L5]
  try simp only [t46_L9,ih]
  rfl
theorem F46_eq (n:Nat) (a:List Int × Int):runF TT G46 an46 Try.f46 c46 ps46 rs46 n (a,())=p46 n a:=by
 rw [e46_top]
 simp only [t46_L5,t46_L9]
 try rfl
noncomputable def q46 (n:Nat) (x:argsD ps46):Option R46:=p46 n x.1
noncomputable def Sm46:Sm:=⟨ps46,rs46,true,q46⟩
theorem holds46 (hg:GamOK Try.prog G46):Holds Try.prog 46 Sm46:=by
 have:=h0_46 hg
 have e:(runF TT G46 an46 Try.f46 c46 ps46 rs46)=q46:=by
  funext n x
  exact F46_eq n x.1
 rw [e] at this
 exact this
theorem gam46:GamOK Try.prog G46:=by
 intro f s h
 unfold G46 at h
 split at h
 ·injection h with h; subst h; exact ⟨⟨Try.f28,c28,Try.func28,by kernel_rfl,by decide +kernel⟩,hh28⟩
 ·injection h with h; subst h; exact ⟨⟨Try.f48,c48,Try.func48,by kernel_rfl,by decide +kernel⟩,hh48⟩
 ·injection h with h; subst h; exact ⟨⟨Try.f107,c107,Try.func107,by kernel_rfl,by decide +kernel⟩,hh107⟩
 ·injection h with h; subst h; exact ⟨⟨Try.f108,c108,Try.func108,by kernel_rfl,by decide +kernel⟩,hh108⟩
 ·injection h with h; subst h; exact ⟨⟨Try.f109,c109,Try.func109,by kernel_rfl,by decide +kernel⟩,hh109⟩
 ·injection h with h; subst h; exact ⟨⟨Try.f110,c110,Try.func110,by kernel_rfl,by decide +kernel⟩,hh110⟩
 ·injection h with h; subst h; exact ⟨⟨Try.f111,c111,Try.func111,by kernel_rfl,by decide +kernel⟩,hh111⟩
 ·cases h
theorem hh46:Holds Try.prog 46 Sm46:=holds46 gam46
end Go.Proofs.Ytdkaagpkeomhmaa.Rx.S

namespace Go.Proofs.Ytdkaagpkeomhmaa.Rx.S
open Go Go.RowKit Go.Proofs
set_option maxRecDepth 100000
noncomputable def c168:Code:=(Try.f168.body.getD .skip)
def an168:An:=⟨fun _=>⟨[],[]⟩,fun _ _=>none⟩
abbrev ps168:List PK:=[.val tMem true,.val i64 false,.val i64 false]
abbrev rs168:List RK:=[.val i64 false]
abbrev R168:=retsD rs168 × outsD ps168
noncomputable def G168:Gam:=fun _=>none
theorem h0_168 (hg:GamOK Try.prog G168):Holds Try.prog 168 ⟨ps168,rs168,false,runF TT G168 an168 Try.f168 c168 ps168 rs168⟩:=holds_of tt_ok hg mixed Try.func168 (by kernel_rfl) (by rfl) (by decide +kernel)
noncomputable def st168_top (n:Nat) (a:(Lb × List Int) × (Lb × List Int) × List (Bool × Lq × Lq) × Int) (b:Int) (c:Int):Option R168 :=
 cond (decide ((0:Int)≤b)) (cond (decide (b < (↑(List.length a.2.2.1):Int))) (cond (decide ((0:Int)≤Go.IntKind.i64.wrap (c.tdiv (4:Int)))) (cond (decide (Go.IntKind.i64.wrap (c.tdiv (4:Int)) < (↑(List.length (List.getD a.2.2.1 b.toNat (false,[],[])).2.2):Int))) (cond (decide ((List.getD (List.getD a.2.2.1 b.toNat (false,[],[])).2.2 (Go.IntKind.i64.wrap (c.tdiv (4:Int))).toNat ((0:Int),(0:Int),false,false)).1=(1:Int))) (cond (decide ((0:Int)≤(List.getD (List.getD a.2.2.1 b.toNat (false,[],[])).2.2 (Go.IntKind.i64.wrap (c.tdiv (4:Int))).toNat ((0:Int),(0:Int),false,false)).2.1)) (cond (decide ((List.getD (List.getD a.2.2.1 b.toNat (false,[],[])).2.2 (Go.IntKind.i64.wrap (c.tdiv (4:Int))).toNat ((0:Int),(0:Int),false,false)).2.1 < (↑(List.length a.1.1):Int))) (cond (decide ((0:Int)≤c.tmod (4:Int))) (cond (decide (c.tmod (4:Int) < (↑(ByteArray.size (List.getD a.1.1 (Int.toNat (List.getD (List.getD a.2.2.1 b.toNat (false,[],[])).2.2 (Go.IntKind.i64.wrap (c.tdiv (4:Int))).toNat ((0:Int),(0:Int),false,false)).2.1) ByteArray.empty)):Int))) (some ((Go.IntKind.i64.wrap (↑((List.getD a.1.1 (Int.toNat (List.getD (List.getD a.2.2.1 b.toNat (false,[],[])).2.2 (Go.IntKind.i64.wrap (c.tdiv (4:Int))).toNat ((0:Int),(0:Int),false,false)).2.1) ByteArray.empty).data.toList.getD (c.tmod (4:Int)).toNat (0:UInt8)).toNat:Int),()),())) (none)) (none)) (none)) (none)) (cond (decide ((List.getD (List.getD a.2.2.1 b.toNat (false,[],[])).2.2 (Go.IntKind.i64.wrap (c.tdiv (4:Int))).toNat ((0:Int),(0:Int),false,false)).1=(2:Int))) (cond (decide ((0:Int)≤(List.getD (List.getD a.2.2.1 b.toNat (false,[],[])).2.2 (Go.IntKind.i64.wrap (c.tdiv (4:Int))).toNat ((0:Int),(0:Int),false,false)).2.1)) (cond (decide ((List.getD (List.getD a.2.2.1 b.toNat (false,[],[])).2.2 (Go.IntKind.i64.wrap (c.tdiv (4:Int))).toNat ((0:Int),(0:Int),false,false)).2.1 < (↑(List.length a.2.1.1):Int))) (cond (decide ((0:Int)≤c.tmod (4:Int))) (cond (decide (c.tmod (4:Int) < (↑(ByteArray.size (List.getD a.2.1.1 (Int.toNat (List.getD (List.getD a.2.2.1 b.toNat (false,[],[])).2.2 (Go.IntKind.i64.wrap (c.tdiv (4:Int))).toNat ((0:Int),(0:Int),false,false)).2.1) ByteArray.empty)):Int))) (some ((Go.IntKind.i64.wrap (↑((List.getD a.2.1.1 (Int.toNat (List.getD (List.getD a.2.2.1 b.toNat (false,[],[])).2.2 (Go.IntKind.i64.wrap (c.tdiv (4:Int))).toNat ((0:Int),(0:Int),false,false)).2.1) ByteArray.empty).data.toList.getD (c.tmod (4:Int)).toNat (0:UInt8)).toNat:Int),()),())) (none)) (none)) (none)) (none)) (some (((0:Int),()),())))) (none)) (none)) (none)) (none)
theorem e168_top (n:Nat) (a:(Lb × List Int) × (Lb × List Int) × List (Bool × Lq × Lq) × Int) (b:Int) (c:Int):runF TT G168 an168 Try.f168 c168 ps168 rs168 n (a,b,c,())=st168_top n a b c:=by kernel_rfl
noncomputable def p168 (n:Nat) (a:(Lb × List Int) × (Lb × List Int) × List (Bool × Lq × Lq) × Int) (b:Int) (c:Int):Option R168:=st168_top n a b c
theorem F168_eq (n:Nat) (a:(Lb × List Int) × (Lb × List Int) × List (Bool × Lq × Lq) × Int) (b:Int) (c:Int):runF TT G168 an168 Try.f168 c168 ps168 rs168 n (a,b,c,())=p168 n a b c:=by
 rw [e168_top]
 skip
 try rfl
noncomputable def q168 (n:Nat) (x:argsD ps168):Option R168:=p168 n x.1 x.2.1 x.2.2.1
noncomputable def Sm168:Sm:=⟨ps168,rs168,false,q168⟩
theorem holds168 (hg:GamOK Try.prog G168):Holds Try.prog 168 Sm168:=by
 have:=h0_168 hg
 have e:(runF TT G168 an168 Try.f168 c168 ps168 rs168)=q168:=by
  funext n x
  exact F168_eq n x.1 x.2.1 x.2.2.1
 rw [e] at this
 exact this
theorem gam168:GamOK Try.prog G168:=fun _ _ h=>by cases h
theorem hh168:Holds Try.prog 168 Sm168:=holds168 gam168
end Go.Proofs.Ytdkaagpkeomhmaa.Rx.S

namespace Go.Proofs.Ytdkaagpkeomhmaa.Rx.S
open Go Go.RowKit Go.Proofs
set_option maxRecDepth 100000
noncomputable def c82:Code:=(Try.f82.body.getD .skip)
def an82:An:=⟨fun _=>⟨[],[]⟩,fun _ _=>none⟩
abbrev ps82:List PK:=[.val i64 false,.val i64 false]
abbrev rs82:List RK:=[.val i64 false]
abbrev R82:=retsD rs82 × outsD ps82
noncomputable def G82:Gam:=fun _=>none
theorem h0_82 (hg:GamOK Try.prog G82):Holds Try.prog 82 ⟨ps82,rs82,false,runF TT G82 an82 Try.f82 c82 ps82 rs82⟩:=holds_of tt_ok hg mixed Try.func82 (by kernel_rfl) (by rfl) (by decide +kernel)
noncomputable def st82_top (n:Nat) (a:Int) (b:Int):Option R82 :=
 some ((Go.IntKind.i64.wrap (Go.IntKind.i64.wrap ((1:Int) + Go.IntKind.i64.wrap ((16:Int) * a)) + b),()),())
theorem e82_top (n:Nat) (a:Int) (b:Int):runF TT G82 an82 Try.f82 c82 ps82 rs82 n (a,b,())=st82_top n a b:=by kernel_rfl
noncomputable def p82 (n:Nat) (a:Int) (b:Int):Option R82:=st82_top n a b
theorem F82_eq (n:Nat) (a:Int) (b:Int):runF TT G82 an82 Try.f82 c82 ps82 rs82 n (a,b,())=p82 n a b:=by
 rw [e82_top]
 skip
 try rfl
noncomputable def q82 (n:Nat) (x:argsD ps82):Option R82:=p82 n x.1 x.2.1
noncomputable def Sm82:Sm:=⟨ps82,rs82,false,q82⟩
theorem holds82 (hg:GamOK Try.prog G82):Holds Try.prog 82 Sm82:=by
 have:=h0_82 hg
 have e:(runF TT G82 an82 Try.f82 c82 ps82 rs82)=q82:=by
  funext n x
  exact F82_eq n x.1 x.2.1
 rw [e] at this
 exact this
theorem gam82:GamOK Try.prog G82:=fun _ _ h=>by cases h
theorem hh82:Holds Try.prog 82 Sm82:=holds82 gam82
end Go.Proofs.Ytdkaagpkeomhmaa.Rx.S

namespace Go.Proofs.Ytdkaagpkeomhmaa.Rx.S
open Go Go.RowKit Go.Proofs
set_option maxRecDepth 100000
noncomputable def c169:Code:=(Try.f169.body.getD .skip)
def an169:An:=⟨fun r=>match r with | 2=>⟨[2,3,5],[]⟩ | 5=>⟨[2,3,5,6],[]⟩ | _=>⟨[],[]⟩,fun _ _=>none⟩
abbrev ps169:List PK:=[.val tMem true,.val tSl true]
abbrev rs169:List RK:=[.val i64 false]
abbrev R169:=retsD rs169 × outsD ps169
noncomputable def G169:Gam:=fun f=>match f with | 82=>some Sm82 | _=>none
theorem h0_169 (hg:GamOK Try.prog G169):Holds Try.prog 169 ⟨ps169,rs169,false,runF TT G169 an169 Try.f169 c169 ps169 rs169⟩:=holds_of tt_ok hg mixed Try.func169 (by kernel_rfl) (by rfl) (by decide +kernel)
noncomputable def at169:Nat→Pt→List Nat→St→Option R169:=atF TT G169 an169 Try.f169 c169 _ _
def sh169_L5 (x0 x1:Int) (x2:Lb) (x3:List Int) (x4:Lb) (x5:List Int) (x6:List (Bool × Lq × Lq)) (x7 x8 x9:Int) (x10 x11:Bool):St:=(St.mk [Uu,Uu,AV.one (SV.bptr 1000000 0),AV.one (SV.bptr 1000001 0),Uu,AV.one (SV.int (Go.IntKind.i64) x0),AV.one (SV.int (Go.IntKind.i64) x1),Uu,Uu,Uu,Uu,Uu,Uu,Uu,Uu,Uu,Uu,Uu,Uu,Uu,Uu,Uu,Uu,Uu,Uu,Uu,Uu,Uu,Uu,Uu,Uu,Uu,Uu,Uu,Uu,Uu,Uu,Uu,Uu,Uu,Uu,Uu,Uu,Uu,Uu,Uu,Uu,Uu,Uu,Uu] ((1000000,(Ent.box ((SV.con (⟨9,Ty.str,x2⟩:Rw)) :: ((SV.con (⟨3,Ty.int Go.IntKind.i64,x3⟩:Rw)) :: ((SV.con (⟨9,Ty.str,x4⟩:Rw)) :: ((SV.con (⟨3,Ty.int Go.IntKind.i64,x5⟩:Rw)) :: ((SV.con (⟨71,Ty.bool.pair ((Ty.row (nat_lit 116) ((Ty.int Go.IntKind.i64).pair ((Ty.int Go.IntKind.i64).pair (Ty.bool.pair Ty.bool)))).pair (Ty.row (nat_lit 80) ((Ty.int Go.IntKind.i64).pair ((Ty.int Go.IntKind.i64).pair (Ty.bool.pair Ty.bool))))),x6⟩:Rw)) :: ((SV.int (Go.IntKind.i64) x7) :: [])))))))) :: ((1000001,(Ent.box ((SV.int (Go.IntKind.i64) x8) :: ((SV.int (Go.IntKind.i64) x9) :: ((SV.bool x10) :: ((SV.bool x11) :: [])))))) :: [])))
def sh169_L2 (x0:Int) (x1:Lb) (x2:List Int) (x3:Lb) (x4:List Int) (x5:List (Bool × Lq × Lq)) (x6 x7 x8:Int) (x9 x10:Bool):St:=(St.mk [Uu,Uu,AV.one (SV.bptr 1000000 0),AV.one (SV.bptr 1000001 0),Uu,AV.one (SV.int (Go.IntKind.i64) x0),Uu,Uu,Uu,Uu,Uu,Uu,Uu,Uu,Uu,Uu,Uu,Uu,Uu,Uu,Uu,Uu,Uu,Uu,Uu,Uu,Uu,Uu,Uu,Uu,Uu,Uu,Uu,Uu,Uu,Uu,Uu,Uu,Uu,Uu,Uu,Uu,Uu,Uu,Uu,Uu,Uu,Uu,Uu,Uu] ((1000000,(Ent.box ((SV.con (⟨9,Ty.str,x1⟩:Rw)) :: ((SV.con (⟨3,Ty.int Go.IntKind.i64,x2⟩:Rw)) :: ((SV.con (⟨9,Ty.str,x3⟩:Rw)) :: ((SV.con (⟨3,Ty.int Go.IntKind.i64,x4⟩:Rw)) :: ((SV.con (⟨71,Ty.bool.pair ((Ty.row (nat_lit 116) ((Ty.int Go.IntKind.i64).pair ((Ty.int Go.IntKind.i64).pair (Ty.bool.pair Ty.bool)))).pair (Ty.row (nat_lit 80) ((Ty.int Go.IntKind.i64).pair ((Ty.int Go.IntKind.i64).pair (Ty.bool.pair Ty.bool))))),x5⟩:Rw)) :: ((SV.int (Go.IntKind.i64) x6) :: [])))))))) :: ((1000001,(Ent.box ((SV.int (Go.IntKind.i64) x7) :: ((SV.int (Go.IntKind.i64) x8) :: ((SV.bool x9) :: ((SV.bool x10) :: [])))))) :: [])))
noncomputable def st169_top (n:Nat) (lL2:Int→(Lb)→(List Int)→(Lb)→(List Int)→(List (Bool × Lq × Lq))→Int→Int→Int→Bool→Bool→Option R169) (a:(Lb × List Int) × (Lb × List Int) × List (Bool × Lq × Lq) × Int) (b:Aq):Option R169 :=
 lL2 ((0:Int)) (a.1.1) (a.1.2) (a.2.1.1) (a.2.1.2) (a.2.2.1) (a.2.2.2) (b.1) (b.2.1) (b.2.2.1) (b.2.2.2)
noncomputable def st169_L5 (n:Nat) (lL5:Int→Int→(Lb)→(List Int)→(Lb)→(List Int)→(List (Bool × Lq × Lq))→Int→Int→Int→Bool→Bool→Option R169) (lL2:Int→(Lb)→(List Int)→(Lb)→(List Int)→(List (Bool × Lq × Lq))→Int→Int→Int→Bool→Bool→Option R169) (x0 x1:Int) (x2:Lb) (x3:List Int) (x4:Lb) (x5:List Int) (x6:List (Bool × Lq × Lq)) (x7 x8 x9:Int) (x10 x11:Bool):Option R169 :=
 cond (decide ((0:Int)≤x0)) (cond (decide (x0 < (↑x6.length:Int))) (cond (decide (x1 < (↑(List.length (x6.getD x0.toNat (false,[],[])).2.2):Int))) (cond (decide ((0:Int)≤x0)) (cond (decide (x0 < (↑x6.length:Int))) (cond (decide ((0:Int)≤x1)) (cond (decide (x1 < (↑(List.length (x6.getD x0.toNat (false,[],[])).2.2):Int))) (cond (decide ((List.getD (x6.getD x0.toNat (false,[],[])).2.2 x1.toNat ((0:Int),(0:Int),false,false)).1=x8)) (cond (decide ((List.getD (x6.getD x0.toNat (false,[],[])).2.2 x1.toNat ((0:Int),(0:Int),false,false)).2.1=x9)) ((q82 n (x0,x1,())).bind fun r2=>some ((r2.1.1,()),())) (lL5 (x0) (Go.IntKind.i64.wrap (x1 + (1:Int))) (x2) (x3) (x4) (x5) (x6) (x7) (x8) (x9) (x10) (x11))) (lL5 (x0) (Go.IntKind.i64.wrap (x1 + (1:Int))) (x2) (x3) (x4) (x5) (x6) (x7) (x8) (x9) (x10) (x11))) (none)) (none)) (none)) (none)) (lL2 (Go.IntKind.i64.wrap (x0 + (1:Int))) (x2) (x3) (x4) (x5) (x6) (x7) (x8) (x9) (x10) (x11))) (none)) (none)
noncomputable def st169_L2 (n:Nat) (lL5:Int→Int→(Lb)→(List Int)→(Lb)→(List Int)→(List (Bool × Lq × Lq))→Int→Int→Int→Bool→Bool→Option R169) (x0:Int) (x1:Lb) (x2:List Int) (x3:Lb) (x4:List Int) (x5:List (Bool × Lq × Lq)) (x6 x7 x8:Int) (x9 x10:Bool):Option R169 :=
 cond (decide (x0 < (↑x5.length:Int))) (lL5 (x0) ((0:Int)) (x1) (x2) (x3) (x4) (x5) (x6) (x7) (x8) (x9) (x10)) (some (((0:Int),()),()))
theorem e169_top (n:Nat) (a:(Lb × List Int) × (Lb × List Int) × List (Bool × Lq × Lq) × Int) (b:Aq):runF TT G169 an169 Try.f169 c169 ps169 rs169 n (a,b,())=st169_top n (fun x0 x1 x2 x3 x4 x5 x6 x7 x8 x9 x10=>at169 n (.head 2) [n] (sh169_L2 x0 x1 x2 x3 x4 x5 x6 x7 x8 x9 x10)) a b:=by kernel_rfl
theorem e169_L5_0 (n:Nat) (m2:Nat) (x0 x1:Int) (x2:Lb) (x3:List Int) (x4:Lb) (x5:List Int) (x6:List (Bool × Lq × Lq)) (x7 x8 x9:Int) (x10 x11:Bool):at169 n (.head 5) [m2,0] (sh169_L5 x0 x1 x2 x3 x4 x5 x6 x7 x8 x9 x10 x11)=none:=by kernel_rfl
theorem e169_L5 (n:Nat) (m2:Nat) (m5:Nat) (x0 x1:Int) (x2:Lb) (x3:List Int) (x4:Lb) (x5:List Int) (x6:List (Bool × Lq × Lq)) (x7 x8 x9:Int) (x10 x11:Bool):at169 n (.head 5) [m2,m5 + 1] (sh169_L5 x0 x1 x2 x3 x4 x5 x6 x7 x8 x9 x10 x11)=st169_L5 n (fun x0 x1 x2 x3 x4 x5 x6 x7 x8 x9 x10 x11=>at169 n (.head 5) [m2,m5] (sh169_L5 x0 x1 x2 x3 x4 x5 x6 x7 x8 x9 x10 x11)) (fun x0 x1 x2 x3 x4 x5 x6 x7 x8 x9 x10=>at169 n (.head 2) [m2] (sh169_L2 x0 x1 x2 x3 x4 x5 x6 x7 x8 x9 x10)) x0 x1 x2 x3 x4 x5 x6 x7 x8 x9 x10 x11:=by kernel_rfl
theorem e169_L2_0 (n:Nat) (x0:Int) (x1:Lb) (x2:List Int) (x3:Lb) (x4:List Int) (x5:List (Bool × Lq × Lq)) (x6 x7 x8:Int) (x9 x10:Bool):at169 n (.head 2) [0] (sh169_L2 x0 x1 x2 x3 x4 x5 x6 x7 x8 x9 x10)=none:=by kernel_rfl
theorem e169_L2 (n:Nat) (m2:Nat) (x0:Int) (x1:Lb) (x2:List Int) (x3:Lb) (x4:List Int) (x5:List (Bool × Lq × Lq)) (x6 x7 x8:Int) (x9 x10:Bool):at169 n (.head 2) [m2 + 1] (sh169_L2 x0 x1 x2 x3 x4 x5 x6 x7 x8 x9 x10)=st169_L2 n (fun x0 x1 x2 x3 x4 x5 x6 x7 x8 x9 x10 x11=>at169 n (.head 5) [m2,n] (sh169_L5 x0 x1 x2 x3 x4 x5 x6 x7 x8 x9 x10 x11)) x0 x1 x2 x3 x4 x5 x6 x7 x8 x9 x10:=by kernel_rfl
noncomputable def p169_L5 (g2:Int→(Lb)→(List Int)→(Lb)→(List Int)→(List (Bool × Lq × Lq))→Int→Int→Int→Bool→Bool→Option R169) (n:Nat):Nat→Int→Int→(Lb)→(List Int)→(Lb)→(List Int)→(List (Bool × Lq × Lq))→Int→Int→Int→Bool→Bool→Option R169
 | 0,_,_,_,_,_,_,_,_,_,_,_,_=>none
 | m + 1,x0,x1,x2,x3,x4,x5,x6,x7,x8,x9,x10,x11=>st169_L5 n (p169_L5 g2 n m) g2 x0 x1 x2 x3 x4 x5 x6 x7 x8 x9 x10 x11
noncomputable def p169_L2 (n:Nat):Nat→Int→(Lb)→(List Int)→(Lb)→(List Int)→(List (Bool × Lq × Lq))→Int→Int→Int→Bool→Bool→Option R169
 | 0,_,_,_,_,_,_,_,_,_,_,_=>none
 | m + 1,x0,x1,x2,x3,x4,x5,x6,x7,x8,x9,x10=>st169_L2 n (p169_L5 (p169_L2 n m) n n) x0 x1 x2 x3 x4 x5 x6 x7 x8 x9 x10
noncomputable def p169 (n:Nat) (a:(Lb × List Int) × (Lb × List Int) × List (Bool × Lq × Lq) × Int) (b:Aq):Option R169:=st169_top n (p169_L2 n n) a b
theorem t169_L5 (n:Nat) (m2:Nat):∀ (m5:Nat) (x0 x1:Int) (x2:Lb) (x3:List Int) (x4:Lb) (x5:List Int) (x6:List (Bool × Lq × Lq)) (x7 x8 x9:Int) (x10 x11:Bool),at169 n (.head 5) [m2,m5] (sh169_L5 x0 x1 x2 x3 x4 x5 x6 x7 x8 x9 x10 x11)=p169_L5 (fun x0 x1 x2 x3 x4 x5 x6 x7 x8 x9 x10=>at169 n (.head 2) [m2] (sh169_L2 x0 x1 x2 x3 x4 x5 x6 x7 x8 x9 x10)) n m5 x0 x1 x2 x3 x4 x5 x6 x7 x8 x9 x10 x11:=by
 intro m
 induction m with
 | zero=>intros; rw [e169_L5_0]; rfl
 | succ m ih =>
  intros
  rw [e169_L5]
  try simp only [ih]
  rfl
theorem t169_L2 (n:Nat):∀ (m2:Nat) (x0:Int) (x1:Lb) (x2:List Int) (x3:Lb) (x4:List Int) (x5:List (Bool × Lq × Lq)) (x6 x7 x8:Int) (x9 x10:Bool),at169 n (.head 2) [m2] (sh169_L2 x0 x1 x2 x3 x4 x5 x6 x7 x8 x9 x10)=p169_L2 n m2 x0 x1 x2 x3 x4 x5 x6 x7 x8 x9 x10:=by
 intro m
 induction m with
 | zero=>intros; rw [e169_L2_0]; rfl
 | succ m ih =>
  intros
  rw [e169_L2]
  try simp only [t169_L5,ih]
  rfl
theorem F169_eq (n:Nat) (a:(Lb × List Int) × (Lb × List Int) × List (Bool × Lq × Lq) × Int) (b:Aq):runF TT G169 an169 Try.f169 c169 ps169 rs169 n (a,b,())=p169 n a b:=by
 rw [e169_top]
 simp only [t169_L2]
 try rfl
noncomputable def q169 (n:Nat) (x:argsD ps169):Option R169:=p169 n x.1 x.2.1
noncomputable def Sm169:Sm:=⟨ps169,rs169,false,q169⟩
theorem holds169 (hg:GamOK Try.prog G169):Holds Try.prog 169 Sm169:=by
 have:=h0_169 hg
 have e:(runF TT G169 an169 Try.f169 c169 ps169 rs169)=q169:=by
  funext n x
  exact F169_eq n x.1 x.2.1
 rw [e] at this
 exact this
theorem gam169:GamOK Try.prog G169:=by
 intro f s h
 unfold G169 at h
 split at h
 ·injection h with h; subst h; exact ⟨⟨Try.f82,c82,Try.func82,by kernel_rfl,by decide +kernel⟩,hh82⟩
 ·cases h
theorem hh169:Holds Try.prog 169 Sm169:=holds169 gam169
end Go.Proofs.Ytdkaagpkeomhmaa.Rx.S

namespace Go.Proofs.Ytdkaagpkeomhmaa.Rx.S
open Go Go.RowKit Go.Proofs
set_option maxRecDepth 100000
noncomputable def c150:Code:=(Try.f150.body.getD .skip)
def an150:An:=⟨fun r=>match r with | 3=>⟨[1,2,3,4],[]⟩ | 9=>⟨[1,2,3,4,5,6,7],[]⟩ | 14=>⟨[1,2,3,4,5,6,7,8,9],[]⟩ | _=>⟨[],[]⟩,fun _ _=>none⟩
abbrev ps150:List PK:=[.val tMem true]
abbrev rs150:List RK:=[.own tVi true]
abbrev R150:=retsD rs150 × outsD ps150
noncomputable def G150:Gam:=fun f=>match f with | 71=>some Sm71 | 119=>some Sm119 | 157=>some Sm157 | 168=>some Sm168 | 169=>some Sm169 | _=>none
theorem h0_150 (hg:GamOK Try.prog G150):Holds Try.prog 150 ⟨ps150,rs150,false,runF TT G150 an150 Try.f150 c150 ps150 rs150⟩:=holds_of tt_ok hg mixed Try.func150 (by kernel_rfl) (by rfl) (by decide +kernel)
noncomputable def at150:Nat→Pt→List Nat→St→Option R150:=atF TT G150 an150 Try.f150 c150 _ _
def sh150_L14 (x0 x1 x2:Int) (x3:Lb) (x4:List Int) (x5:Lb) (x6:List Int) (x7:List (Bool × Lq × Lq)) (x8:Int) (x9:Bool) (x10 x11:Lq) (x12:Bool) (x13:List Int) (x14:List (Bool × Lq × List Int × Lb)) (x15:Lq) (x16:List Int) (x17:Lb):St:=(St.mk [Uu,AV.one (SV.bptr 1000000 0),AV.one (SV.bptr 1000001 0),AV.one (SV.bptr 1000002 0),AV.one (SV.int (Go.IntKind.i64) x0),AV.one (SV.bptr 1000003 0),AV.one (SV.bptr 1000004 0),AV.one (SV.int (Go.IntKind.i64) x1),AV.one (SV.ref 1000005 0 [] Option.none),AV.one (SV.int (Go.IntKind.i64) x2),Uu,Uu,Uu,Uu,Uu,Uu,Uu,Uu,Uu,Uu,Uu,Uu,Uu,Uu,Uu,Uu,Uu,Uu,Uu,Uu,Uu,Uu,Uu,Uu,Uu,Uu,Uu,Uu,Uu,Uu,Uu,Uu,Uu,Uu,Uu,Uu,Uu,Uu,Uu,Uu,Uu,Uu,Uu,Uu,Uu,Uu,Uu,Uu,Uu,Uu,Uu,Uu,Uu,Uu,Uu,Uu,Uu,Uu,Uu,Uu,Uu,Uu,Uu,Uu,Uu,Uu,Uu,Uu,Uu,Uu,Uu,Uu,Uu,Uu,Uu,Uu,Uu,Uu,Uu,Uu,Uu,Uu,Uu,Uu,Uu,Uu,Uu,Uu,Uu,Uu,Uu,Uu,Uu,Uu,Uu,Uu,Uu,Uu] ((1000000,(Ent.box ((SV.con (⟨9,Ty.str,x3⟩:Rw)) :: ((SV.con (⟨3,Ty.int Go.IntKind.i64,x4⟩:Rw)) :: ((SV.con (⟨9,Ty.str,x5⟩:Rw)) :: ((SV.con (⟨3,Ty.int Go.IntKind.i64,x6⟩:Rw)) :: ((SV.con (⟨71,Ty.bool.pair ((Ty.row (nat_lit 116) ((Ty.int Go.IntKind.i64).pair ((Ty.int Go.IntKind.i64).pair (Ty.bool.pair Ty.bool)))).pair (Ty.row (nat_lit 80) ((Ty.int Go.IntKind.i64).pair ((Ty.int Go.IntKind.i64).pair (Ty.bool.pair Ty.bool))))),x7⟩:Rw)) :: ((SV.int (Go.IntKind.i64) x8) :: [])))))))) :: ((1000001,(Ent.box (SV.nil :: []))) :: ((1000002,(Ent.box ((SV.ref 1000006 0 [] Option.none) :: []))) :: ((1000003,(Ent.box ((SV.bool x9) :: ((SV.con (⟨116,(Ty.int Go.IntKind.i64).pair ((Ty.int Go.IntKind.i64).pair (Ty.bool.pair Ty.bool)),x10⟩:Rw)) :: ((SV.con (⟨80,(Ty.int Go.IntKind.i64).pair ((Ty.int Go.IntKind.i64).pair (Ty.bool.pair Ty.bool)),x11⟩:Rw)) :: []))))) :: ((1000004,(Ent.box ((SV.bool x12) :: ((SV.ref 1000007 0 [] Option.none) :: ((SV.ref 1000008 0 [] Option.none) :: ((SV.ref 1000009 0 [] Option.none) :: [])))))) :: ((1000005,(Ent.row (⟨5,Ty.int Go.IntKind.u8,x13⟩:Rw) 0 Option.none)) :: ((1000006,(Ent.row (⟨75,Ty.bool.pair ((Ty.row (nat_lit 116) ((Ty.int Go.IntKind.i64).pair ((Ty.int Go.IntKind.i64).pair (Ty.bool.pair Ty.bool)))).pair ((Ty.row (nat_lit 3) (Ty.int Go.IntKind.i64)).pair (Ty.row (nat_lit 9) Ty.str))),x14⟩:Rw) 0 Option.none)) :: ((1000007,(Ent.row (⟨116,(Ty.int Go.IntKind.i64).pair ((Ty.int Go.IntKind.i64).pair (Ty.bool.pair Ty.bool)),x15⟩:Rw) 0 Option.none)) :: ((1000008,(Ent.row (⟨3,Ty.int Go.IntKind.i64,x16⟩:Rw) 0 Option.none)) :: ((1000009,(Ent.row (⟨9,Ty.str,x17⟩:Rw) 0 Option.none)) :: [])))))))))))
def sh150_L9 (x0 x1:Int) (x2:Lb) (x3:List Int) (x4:Lb) (x5:List Int) (x6:List (Bool × Lq × Lq)) (x7:Int) (x8:Bool) (x9 x10:Lq) (x11:Bool) (x12:List (Bool × Lq × List Int × Lb)) (x13:Lq) (x14:List Int) (x15:Lb):St:=(St.mk [Uu,AV.one (SV.bptr 1000000 0),AV.one (SV.bptr 1000001 0),AV.one (SV.bptr 1000002 0),AV.one (SV.int (Go.IntKind.i64) x0),AV.one (SV.bptr 1000003 0),AV.one (SV.bptr 1000004 0),AV.one (SV.int (Go.IntKind.i64) x1),Uu,Uu,Uu,Uu,Uu,Uu,Uu,Uu,Uu,Uu,Uu,Uu,Uu,Uu,Uu,Uu,Uu,Uu,Uu,Uu,Uu,Uu,Uu,Uu,Uu,Uu,Uu,Uu,Uu,Uu,Uu,Uu,Uu,Uu,Uu,Uu,Uu,Uu,Uu,Uu,Uu,Uu,Uu,Uu,Uu,Uu,Uu,Uu,Uu,Uu,Uu,Uu,Uu,Uu,Uu,Uu,Uu,Uu,Uu,Uu,Uu,Uu,Uu,Uu,Uu,Uu,Uu,Uu,Uu,Uu,Uu,Uu,Uu,Uu,Uu,Uu,Uu,Uu,Uu,Uu,Uu,Uu,Uu,Uu,Uu,Uu,Uu,Uu,Uu,Uu,Uu,Uu,Uu,Uu,Uu,Uu,Uu,Uu,Uu,Uu] ((1000000,(Ent.box ((SV.con (⟨9,Ty.str,x2⟩:Rw)) :: ((SV.con (⟨3,Ty.int Go.IntKind.i64,x3⟩:Rw)) :: ((SV.con (⟨9,Ty.str,x4⟩:Rw)) :: ((SV.con (⟨3,Ty.int Go.IntKind.i64,x5⟩:Rw)) :: ((SV.con (⟨71,Ty.bool.pair ((Ty.row (nat_lit 116) ((Ty.int Go.IntKind.i64).pair ((Ty.int Go.IntKind.i64).pair (Ty.bool.pair Ty.bool)))).pair (Ty.row (nat_lit 80) ((Ty.int Go.IntKind.i64).pair ((Ty.int Go.IntKind.i64).pair (Ty.bool.pair Ty.bool))))),x6⟩:Rw)) :: ((SV.int (Go.IntKind.i64) x7) :: [])))))))) :: ((1000001,(Ent.box (SV.nil :: []))) :: ((1000002,(Ent.box ((SV.ref 1000005 0 [] Option.none) :: []))) :: ((1000003,(Ent.box ((SV.bool x8) :: ((SV.con (⟨116,(Ty.int Go.IntKind.i64).pair ((Ty.int Go.IntKind.i64).pair (Ty.bool.pair Ty.bool)),x9⟩:Rw)) :: ((SV.con (⟨80,(Ty.int Go.IntKind.i64).pair ((Ty.int Go.IntKind.i64).pair (Ty.bool.pair Ty.bool)),x10⟩:Rw)) :: []))))) :: ((1000004,(Ent.box ((SV.bool x11) :: ((SV.ref 1000006 0 [] Option.none) :: ((SV.ref 1000007 0 [] Option.none) :: ((SV.ref 1000008 0 [] Option.none) :: [])))))) :: ((1000005,(Ent.row (⟨75,Ty.bool.pair ((Ty.row (nat_lit 116) ((Ty.int Go.IntKind.i64).pair ((Ty.int Go.IntKind.i64).pair (Ty.bool.pair Ty.bool)))).pair ((Ty.row (nat_lit 3) (Ty.int Go.IntKind.i64)).pair (Ty.row (nat_lit 9) Ty.str))),x12⟩:Rw) 0 Option.none)) :: ((1000006,(Ent.row (⟨116,(Ty.int Go.IntKind.i64).pair ((Ty.int Go.IntKind.i64).pair (Ty.bool.pair Ty.bool)),x13⟩:Rw) 0 Option.none)) :: ((1000007,(Ent.row (⟨3,Ty.int Go.IntKind.i64,x14⟩:Rw) 0 Option.none)) :: ((1000008,(Ent.row (⟨9,Ty.str,x15⟩:Rw) 0 Option.none)) :: []))))))))))
def sh150_L3 (x0:Int) (x1:Lb) (x2:List Int) (x3:Lb) (x4:List Int) (x5:List (Bool × Lq × Lq)) (x6:Int) (x7:List (Bool × Lq × List Int × Lb)):St:=(St.mk [Uu,AV.one (SV.bptr 1000000 0),AV.one (SV.bptr 1000001 0),AV.one (SV.bptr 1000002 0),AV.one (SV.int (Go.IntKind.i64) x0),Uu,Uu,Uu,Uu,Uu,Uu,Uu,Uu,Uu,Uu,Uu,Uu,Uu,Uu,Uu,Uu,Uu,Uu,Uu,Uu,Uu,Uu,Uu,Uu,Uu,Uu,Uu,Uu,Uu,Uu,Uu,Uu,Uu,Uu,Uu,Uu,Uu,Uu,Uu,Uu,Uu,Uu,Uu,Uu,Uu,Uu,Uu,Uu,Uu,Uu,Uu,Uu,Uu,Uu,Uu,Uu,Uu,Uu,Uu,Uu,Uu,Uu,Uu,Uu,Uu,Uu,Uu,Uu,Uu,Uu,Uu,Uu,Uu,Uu,Uu,Uu,Uu,Uu,Uu,Uu,Uu,Uu,Uu,Uu,Uu,Uu,Uu,Uu,Uu,Uu,Uu,Uu,Uu,Uu,Uu,Uu,Uu,Uu,Uu,Uu,Uu,Uu,Uu] ((1000000,(Ent.box ((SV.con (⟨9,Ty.str,x1⟩:Rw)) :: ((SV.con (⟨3,Ty.int Go.IntKind.i64,x2⟩:Rw)) :: ((SV.con (⟨9,Ty.str,x3⟩:Rw)) :: ((SV.con (⟨3,Ty.int Go.IntKind.i64,x4⟩:Rw)) :: ((SV.con (⟨71,Ty.bool.pair ((Ty.row (nat_lit 116) ((Ty.int Go.IntKind.i64).pair ((Ty.int Go.IntKind.i64).pair (Ty.bool.pair Ty.bool)))).pair (Ty.row (nat_lit 80) ((Ty.int Go.IntKind.i64).pair ((Ty.int Go.IntKind.i64).pair (Ty.bool.pair Ty.bool))))),x5⟩:Rw)) :: ((SV.int (Go.IntKind.i64) x6) :: [])))))))) :: ((1000001,(Ent.box (SV.nil :: []))) :: ((1000002,(Ent.box ((SV.ref 1000003 0 [] Option.none) :: []))) :: ((1000003,(Ent.row (⟨75,Ty.bool.pair ((Ty.row (nat_lit 116) ((Ty.int Go.IntKind.i64).pair ((Ty.int Go.IntKind.i64).pair (Ty.bool.pair Ty.bool)))).pair ((Ty.row (nat_lit 3) (Ty.int Go.IntKind.i64)).pair (Ty.row (nat_lit 9) Ty.str))),x7⟩:Rw) 0 Option.none)) :: [])))))
noncomputable def st150_top (n:Nat) (lL3:Int→(Lb)→(List Int)→(Lb)→(List Int)→(List (Bool × Lq × Lq))→Int→(List (Bool × Lq × List Int × Lb))→Option R150) (a:(Lb × List Int) × (Lb × List Int) × List (Bool × Lq × Lq) × Int):Option R150 :=
 lL3 ((0:Int)) (a.1.1) (a.1.2) (a.2.1.1) (a.2.1.2) (a.2.2.1) (a.2.2.2) (List.replicate (Int.toNat (5:Int)) (false,[],[],[]))
noncomputable def st150_L14 (n:Nat) (lL14:Int→Int→Int→(Lb)→(List Int)→(Lb)→(List Int)→(List (Bool × Lq × Lq))→Int→Bool→(Lq)→(Lq)→Bool→(List Int)→(List (Bool × Lq × List Int × Lb))→(Lq)→(List Int)→(Lb)→Option R150) (lL9:Int→Int→(Lb)→(List Int)→(Lb)→(List Int)→(List (Bool × Lq × Lq))→Int→Bool→(Lq)→(Lq)→Bool→(List (Bool × Lq × List Int × Lb))→(Lq)→(List Int)→(Lb)→Option R150) (x0 x1 x2:Int) (x3:Lb) (x4:List Int) (x5:Lb) (x6:List Int) (x7:List (Bool × Lq × Lq)) (x8:Int) (x9:Bool) (x10 x11:Lq) (x12:Bool) (x13:List Int) (x14:List (Bool × Lq × List Int × Lb)) (x15:Lq) (x16:List Int) (x17:Lb):Option R150 :=
 cond (decide (x2 < (4:Int))) ((q168 n (((x3,x4),(x5,x6),x7,x8),x0,Go.IntKind.i64.wrap (Go.IntKind.i64.wrap (x1 * (4:Int)) + x2),())).bind fun r4=>cond (decide ((x13.length + [Go.IntKind.u8.wrap r4.1.1].length) * (1:Nat)≤(140737488355328:Nat))) (lL14 (x0) (x1) (Go.IntKind.i64.wrap (x2 + (1:Int))) (x3) (x4) (x5) (x6) (x7) (x8) (x9) (x10) (x11) (x12) (x13 ++ [Go.IntKind.u8.wrap r4.1.1]) (x14) (x15) (x16) (x17)) (none)) (cond (decide ((0:Int)≤x1)) (cond (decide (x1 < (↑x17.length:Int))) ((q157 n ((x9,x10,x11),x1,())).bind fun r5=>cond (r5.1.1) (cond (decide ((0:Int)≤x1)) (cond (decide (x1 < (↑x11.length:Int))) (cond (!decide ((x11.getD x1.toNat ((0:Int),(0:Int),false,false)).1=(0:Int))) (cond (decide ((0:Int)≤x1)) (cond (decide (x1 < (↑x11.length:Int))) (cond (decide ((0:Int)≤x1)) (cond (decide (x1 < (↑x11.length:Int))) ((q119 n (((x3,x4),(x5,x6),x7,x8),(x11.getD x1.toNat ((0:Int),(0:Int),false,false)).1,(x11.getD x1.toNat ((0:Int),(0:Int),false,false)).2.1,())).bind fun r6=>cond (decide ((1:Int) < r6.1.1)) (cond (decide ((0:Int)≤x1)) (cond (decide (x1 < (↑x11.length:Int))) ((q169 n (((x3,x4),(x5,x6),x7,x8),((x11.getD x1.toNat ((0:Int),(0:Int),false,false)).1,(x11.getD x1.toNat ((0:Int),(0:Int),false,false)).2.1,(x11.getD x1.toNat ((0:Int),(0:Int),false,false)).2.2.1,(x11.getD x1.toNat ((0:Int),(0:Int),false,false)).2.2.2),())).bind fun r7=>cond (decide ((0:Int)≤x1)) (cond (decide (x1 < (↑x16.length:Int))) (lL9 (x0) (Go.IntKind.i64.wrap (x1 + (1:Int))) (x3) (x4) (x5) (x6) (x7) (x8) (x9) (x10) (x11) (x12) (x14) (x15) (x16.set x1.toNat r7.1.1) (x17.set x1.toNat (List.foldl (fun r n=>r.push (UInt8.ofNat n.toNat)) ByteArray.empty x13))) (none)) (none)) (none)) (none)) (lL9 (x0) (Go.IntKind.i64.wrap (x1 + (1:Int))) (x3) (x4) (x5) (x6) (x7) (x8) (x9) (x10) (x11) (x12) (x14) (x15) (x16) (x17.set x1.toNat (List.foldl (fun r n=>r.push (UInt8.ofNat n.toNat)) ByteArray.empty x13)))) (none)) (none)) (none)) (none)) (lL9 (x0) (Go.IntKind.i64.wrap (x1 + (1:Int))) (x3) (x4) (x5) (x6) (x7) (x8) (x9) (x10) (x11) (x12) (x14) (x15) (x16) (x17.set x1.toNat (List.foldl (fun r n=>r.push (UInt8.ofNat n.toNat)) ByteArray.empty x13)))) (none)) (none)) (lL9 (x0) (Go.IntKind.i64.wrap (x1 + (1:Int))) (x3) (x4) (x5) (x6) (x7) (x8) (x9) (x10) (x11) (x12) (x14) (x15) (x16) (x17.set x1.toNat (List.foldl (fun r n=>r.push (UInt8.ofNat n.toNat)) ByteArray.empty x13)))) (none)) (none))
noncomputable def st150_L9 (n:Nat) (lL9:Int→Int→(Lb)→(List Int)→(Lb)→(List Int)→(List (Bool × Lq × Lq))→Int→Bool→(Lq)→(Lq)→Bool→(List (Bool × Lq × List Int × Lb))→(Lq)→(List Int)→(Lb)→Option R150) (lL14:Int→Int→Int→(Lb)→(List Int)→(Lb)→(List Int)→(List (Bool × Lq × Lq))→Int→Bool→(Lq)→(Lq)→Bool→(List Int)→(List (Bool × Lq × List Int × Lb))→(Lq)→(List Int)→(Lb)→Option R150) (lL3:Int→(Lb)→(List Int)→(Lb)→(List Int)→(List (Bool × Lq × Lq))→Int→(List (Bool × Lq × List Int × Lb))→Option R150) (x0 x1:Int) (x2:Lb) (x3:List Int) (x4:Lb) (x5:List Int) (x6:List (Bool × Lq × Lq)) (x7:Int) (x8:Bool) (x9 x10:Lq) (x11:Bool) (x12:List (Bool × Lq × List Int × Lb)) (x13:Lq) (x14:List Int) (x15:Lb):Option R150 :=
 cond (decide (x1 < (16:Int))) ((q71 n (x9,x1,())).bind fun r2=>cond (decide (r2.1.1 < (0:Int))) (lL9 (x0) (Go.IntKind.i64.wrap (x1 + (1:Int))) (x2) (x3) (x4) (x5) (x6) (x7) (x8) (x9) (x10) (x11) (x12) (x13) (x14) (x15)) (lL14 (x0) (x1) ((0:Int)) (x2) (x3) (x4) (x5) (x6) (x7) (x8) (x9) (x10) (x11) ([]) (x12) (x13) (x14) (x15))) (cond (decide ((0:Int)≤x0)) (cond (decide (x0 < (↑x12.length:Int))) (lL3 (Go.IntKind.i64.wrap (x0 + (1:Int))) (x2) (x3) (x4) (x5) (x6) (x7) (x12.set x0.toNat (x11,x13,x14,x15))) (none)) (none))
noncomputable def st150_L3 (n:Nat) (lL3:Int→(Lb)→(List Int)→(Lb)→(List Int)→(List (Bool × Lq × Lq))→Int→(List (Bool × Lq × List Int × Lb))→Option R150) (lL9:Int→Int→(Lb)→(List Int)→(Lb)→(List Int)→(List (Bool × Lq × Lq))→Int→Bool→(Lq)→(Lq)→Bool→(List (Bool × Lq × List Int × Lb))→(Lq)→(List Int)→(Lb)→Option R150) (x0:Int) (x1:Lb) (x2:List Int) (x3:Lb) (x4:List Int) (x5:List (Bool × Lq × Lq)) (x6:Int) (x7:List (Bool × Lq × List Int × Lb)):Option R150 :=
 cond (decide (x0 < (5:Int))) (cond (decide ((0:Int)≤x0)) (cond (decide (x0 < (↑x5.length:Int))) (cond (!(x5.getD x0.toNat (false,[],[])).1) (lL3 (Go.IntKind.i64.wrap (x0 + (1:Int))) (x1) (x2) (x3) (x4) (x5) (x6) (x7)) (cond (decide (((0:Nat) + List.length (x5.getD x0.toNat (false,[],[])).2.1) * (24:Nat)≤(140737488355328:Nat))) (lL9 (x0) ((0:Int)) (x1) (x2) (x3) (x4) (x5) (x6) ((x5.getD x0.toNat (false,[],[])).1) ((x5.getD x0.toNat (false,[],[])).2.1) ((x5.getD x0.toNat (false,[],[])).2.2) (true) (x7) ((x5.getD x0.toNat (false,[],[])).2.1) (List.replicate (Int.toNat (16:Int)) (0:Int)) (List.replicate (Int.toNat (16:Int)) ByteArray.empty)) (none))) (none)) (none)) (some ((x7,()),()))
theorem e150_top (n:Nat) (a:(Lb × List Int) × (Lb × List Int) × List (Bool × Lq × Lq) × Int):runF TT G150 an150 Try.f150 c150 ps150 rs150 n (a,())=st150_top n (fun x0 x1 x2 x3 x4 x5 x6 x7=>at150 n (.head 3) [n] (sh150_L3 x0 x1 x2 x3 x4 x5 x6 x7)) a:=by kernel_rfl
theorem e150_L14_0 (n:Nat) (m3:Nat) (m9:Nat) (x0 x1 x2:Int) (x3:Lb) (x4:List Int) (x5:Lb) (x6:List Int) (x7:List (Bool × Lq × Lq)) (x8:Int) (x9:Bool) (x10 x11:Lq) (x12:Bool) (x13:List Int) (x14:List (Bool × Lq × List Int × Lb)) (x15:Lq) (x16:List Int) (x17:Lb):at150 n (.head 14) [m3,m9,0] (sh150_L14 x0 x1 x2 x3 x4 x5 x6 x7 x8 x9 x10 x11 x12 x13 x14 x15 x16 x17)=none:=by kernel_rfl
theorem e150_L14 (n:Nat) (m3:Nat) (m9:Nat) (m14:Nat) (x0 x1 x2:Int) (x3:Lb) (x4:List Int) (x5:Lb) (x6:List Int) (x7:List (Bool × Lq × Lq)) (x8:Int) (x9:Bool) (x10 x11:Lq) (x12:Bool) (x13:List Int) (x14:List (Bool × Lq × List Int × Lb)) (x15:Lq) (x16:List Int) (x17:Lb):at150 n (.head 14) [m3,m9,m14 + 1] (sh150_L14 x0 x1 x2 x3 x4 x5 x6 x7 x8 x9 x10 x11 x12 x13 x14 x15 x16 x17)=st150_L14 n (fun x0 x1 x2 x3 x4 x5 x6 x7 x8 x9 x10 x11 x12 x13 x14 x15 x16 x17=>at150 n (.head 14) [m3,m9,m14] (sh150_L14 x0 x1 x2 x3 x4 x5 x6 x7 x8 x9 x10 x11 x12 x13 x14 x15 x16 x17)) (fun x0 x1 x2 x3 x4 x5 x6 x7 x8 x9 x10 x11 x12 x13 x14 x15=>at150 n (.head 9) [m3,m9] (sh150_L9 x0 x1 x2 x3 x4 x5 x6 x7 x8 x9 x10 x11 x12 x13 x14 x15)) x0 x1 x2 x3 x4 x5 x6 x7 x8 x9 x10 x11 x12 x13 x14 x15 x16 x17:=by kernel_rfl
theorem e150_L9_0 (n:Nat) (m3:Nat) (x0 x1:Int) (x2:Lb) (x3:List Int) (x4:Lb) (x5:List Int) (x6:List (Bool × Lq × Lq)) (x7:Int) (x8:Bool) (x9 x10:Lq) (x11:Bool) (x12:List (Bool × Lq × List Int × Lb)) (x13:Lq) (x14:List Int) (x15:Lb):at150 n (.head 9) [m3,0] (sh150_L9 x0 x1 x2 x3 x4 x5 x6 x7 x8 x9 x10 x11 x12 x13 x14 x15)=none:=by kernel_rfl
theorem e150_L9 (n:Nat) (m3:Nat) (m9:Nat) (x0 x1:Int) (x2:Lb) (x3:List Int) (x4:Lb) (x5:List Int) (x6:List (Bool × Lq × Lq)) (x7:Int) (x8:Bool) (x9 x10:Lq) (x11:Bool) (x12:List (Bool × Lq × List Int × Lb)) (x13:Lq) (x14:List Int) (x15:Lb):at150 n (.head 9) [m3,m9 + 1] (sh150_L9 x0 x1 x2 x3 x4 x5 x6 x7 x8 x9 x10 x11 x12 x13 x14 x15)=st150_L9 n (fun x0 x1 x2 x3 x4 x5 x6 x7 x8 x9 x10 x11 x12 x13 x14 x15=>at150 n (.head 9) [m3,m9] (sh150_L9 x0 x1 x2 x3 x4 x5 x6 x7 x8 x9 x10 x11 x12 x13 x14 x15)) (fun x0 x1 x2 x3 x4 x5 x6 x7 x8 x9 x10 x11 x12 x13 x14 x15 x16 x17=>at150 n (.head 14) [m3,m9,n] (sh150_L14 x0 x1 x2 x3 x4 x5 x6 x7 x8 x9 x10 x11 x12 x13 x14 x15 x16 x17)) (fun x0 x1 x2 x3 x4 x5 x6 x7=>at150 n (.head 3) [m3] (sh150_L3 x0 x1 x2 x3 x4 x5 x6 x7)) x0 x1 x2 x3 x4 x5 x6 x7 x8 x9 x10 x11 x12 x13 x14 x15:=by kernel_rfl
theorem e150_L3_0 (n:Nat) (x0:Int) (x1:Lb) (x2:List Int) (x3:Lb) (x4:List Int) (x5:List (Bool × Lq × Lq)) (x6:Int) (x7:List (Bool × Lq × List Int × Lb)):at150 n (.head 3) [0] (sh150_L3 x0 x1 x2 x3 x4 x5 x6 x7)=none:=by kernel_rfl
theorem e150_L3 (n:Nat) (m3:Nat) (x0:Int) (x1:Lb) (x2:List Int) (x3:Lb) (x4:List Int) (x5:List (Bool × Lq × Lq)) (x6:Int) (x7:List (Bool × Lq × List Int × Lb)):at150 n (.head 3) [m3 + 1] (sh150_L3 x0 x1 x2 x3 x4 x5 x6 x7)=st150_L3 n (fun x0 x1 x2 x3 x4 x5 x6 x7=>at150 n (.head 3) [m3] (sh150_L3 x0 x1 x2 x3 x4 x5 x6 x7)) (fun x0 x1 x2 x3 x4 x5 x6 x7 x8 x9 x10 x11 x12 x13 x14 x15=>at150 n (.head 9) [m3,n] (sh150_L9 x0 x1 x2 x3 x4 x5 x6 x7 x8 x9 x10 x11 x12 x13 x14 x15)) x0 x1 x2 x3 x4 x5 x6 x7:=by kernel_rfl
noncomputable def p150_L14 (g3:Int→(Lb)→(List Int)→(Lb)→(List Int)→(List (Bool × Lq × Lq))→Int→(List (Bool × Lq × List Int × Lb))→Option R150) (g9:Int→Int→(Lb)→(List Int)→(Lb)→(List Int)→(List (Bool × Lq × Lq))→Int→Bool→(Lq)→(Lq)→Bool→(List (Bool × Lq × List Int × Lb))→(Lq)→(List Int)→(Lb)→Option R150) (n:Nat):Nat→Int→Int→Int→(Lb)→(List Int)→(Lb)→(List Int)→(List (Bool × Lq × Lq))→Int→Bool→(Lq)→(Lq)→Bool→(List Int)→(List (Bool × Lq × List Int × Lb))→(Lq)→(List Int)→(Lb)→Option R150
 | 0,_,_,_,_,_,_,_,_,_,_,_,_,_,_,_,_,_,_=>none
 | m + 1,x0,x1,x2,x3,x4,x5,x6,x7,x8,x9,x10,x11,x12,x13,x14,x15,x16,x17=>st150_L14 n (p150_L14 g3 g9 n m) g9 x0 x1 x2 x3 x4 x5 x6 x7 x8 x9 x10 x11 x12 x13 x14 x15 x16 x17
noncomputable def p150_L9 (g3:Int→(Lb)→(List Int)→(Lb)→(List Int)→(List (Bool × Lq × Lq))→Int→(List (Bool × Lq × List Int × Lb))→Option R150) (n:Nat):Nat→Int→Int→(Lb)→(List Int)→(Lb)→(List Int)→(List (Bool × Lq × Lq))→Int→Bool→(Lq)→(Lq)→Bool→(List (Bool × Lq × List Int × Lb))→(Lq)→(List Int)→(Lb)→Option R150
 | 0,_,_,_,_,_,_,_,_,_,_,_,_,_,_,_,_=>none
 | m + 1,x0,x1,x2,x3,x4,x5,x6,x7,x8,x9,x10,x11,x12,x13,x14,x15=>st150_L9 n (p150_L9 g3 n m) (p150_L14 g3 (p150_L9 g3 n m) n n) g3 x0 x1 x2 x3 x4 x5 x6 x7 x8 x9 x10 x11 x12 x13 x14 x15
noncomputable def p150_L3 (n:Nat):Nat→Int→(Lb)→(List Int)→(Lb)→(List Int)→(List (Bool × Lq × Lq))→Int→(List (Bool × Lq × List Int × Lb))→Option R150
 | 0,_,_,_,_,_,_,_,_=>none
 | m + 1,x0,x1,x2,x3,x4,x5,x6,x7=>st150_L3 n (p150_L3 n m) (p150_L9 (p150_L3 n m) n n) x0 x1 x2 x3 x4 x5 x6 x7
noncomputable def p150 (n:Nat) (a:(Lb × List Int) × (Lb × List Int) × List (Bool × Lq × Lq) × Int):Option R150:=st150_top n (p150_L3 n n) a
theorem t150_L14 (n:Nat) (m3:Nat) (m9:Nat):∀ (m14:Nat) (x0 x1 x2:Int) (x3:Lb) (x4:List Int) (x5:Lb) (x6:List Int) (x7:List (Bool × Lq × Lq)) (x8:Int) (x9:Bool) (x10 x11:Lq) (x12:Bool) (x13:List Int) (x14:List (Bool × Lq × List Int × Lb)) (x15:Lq) (x16:List Int) (x17:Lb),at150 n (.head 14) [m3,m9,m14] (sh150_L14 x0 x1 x2 x3 x4 x5 x6 x7 x8 x9 x10 x11 x12 x13 x14 x15 x16 x17)=p150_L14 (fun x0 x1 x2 x3 x4 x5 x6 x7=>at150 n (.head 3) [m3] (sh150_L3 x0 x1 x2 x3 x4 x5 x6 x7)) (fun x0 x1 x2 x3 x4 x5 x6 x7 x8 x9 x10 x11 x12 x13 x14 x15=>at150 n (.head 9) [m3,m9] (sh150_L9 x0 x1 x2 x3 x4 x5 x6 x7 x8 x9 x10 x11 x12 x13 x14 x15)) n m14 x0 x1 x2 x3 x4 x5 x6 x7 x8 x9 x10 x11 x12 x13 x14 x15 x16 x17:=by
 intro m
 induction m with
 | zero=>intros; rw [e150_L14_0]; rfl
 | succ m ih =>
  intros
  rw [e150_L14]
  try simp only [ih]
  rfl
theorem t150_L9 (n:Nat) (m3:Nat):∀ (m9:Nat) (x0 x1:Int) (x2:Lb) (x3:List Int) (x4:Lb) (x5:List Int) (x6:List (Bool × Lq × Lq)) (x7:Int) (x8:Bool) (x9 x10:Lq) (x11:Bool) (x12:List (Bool × Lq × List Int × Lb)) (x13:Lq) (x14:List Int) (x15:Lb),at150 n (.head 9) [m3,m9] (sh150_L9 x0 x1 x2 x3 x4 x5 x6 x7 x8 x9 x10 x11 x12 x13 x14 x15)=p150_L9 (fun x0 x1 x2 x3 x4 x5 x6 x7=>at150 n (.head 3) [m3] (sh150_L3 x0 x1 x2 x3 x4 x5 x6 x7)) n m9 x0 x1 x2 x3 x4 x5 x6 x7 x8 x9 x10 x11 x12 x13 x14 x15:=by
 intro m
 induction m with
 | zero=>intros; rw [e150_L9_0]; rfl
 | succ m ih =>
  intros
  rw [e150_L9]
  try simp only [t150_L14,ih]
  rfl
theorem t150_L3 (n:Nat):∀ (m3:Nat) (x0:Int) (x1:Lb) (x2:List Int) (x3:Lb) (x4:List Int) (x5:List (Bool × Lq × Lq)) (x6:Int) (x7:List (Bool × Lq × List Int × Lb)),at150 n (.head 3) [m3] (sh150_L3 x0 x1 x2 x3 x4 x5 x6 x7)=p150_L3 n m3 x0 x1 x2 x3 x4 x5 x6 x7:=by
 intro m
 induction m with
 | zero=>intros; rw [e150_L3_0]; rfl
 | succ m ih =>
  intros
  rw [e150_L3]
  try simp only [t150_L9,ih]
  rfl
theorem F150_eq (n:Nat) (a:(Lb × List Int) × (Lb × List Int) × List (Bool × Lq × Lq) × Int):runF TT G150 an150 Try.f150 c150 ps150 rs150 n (a,())=p150 n a:=by
 rw [e150_top]
 simp only [t150_L3]
 try rfl
noncomputable def q150 (n:Nat) (x:argsD ps150):Option R150:=p150 n x.1
noncomputable def Sm150:Sm:=⟨ps150,rs150,false,q150⟩
theorem holds150 (hg:GamOK Try.prog G150):Holds Try.prog 150 Sm150:=by
 have:=h0_150 hg
 have e:(runF TT G150 an150 Try.f150 c150 ps150 rs150)=q150:=by
  funext n x
  exact F150_eq n x.1
 rw [e] at this
 exact this
theorem gam150:GamOK Try.prog G150:=by
 intro f s h
 unfold G150 at h
 split at h
 ·injection h with h; subst h; exact ⟨⟨Try.f71,c71,Try.func71,by kernel_rfl,by decide +kernel⟩,hh71⟩
 ·injection h with h; subst h; exact ⟨⟨Try.f119,c119,Try.func119,by kernel_rfl,by decide +kernel⟩,hh119⟩
 ·injection h with h; subst h; exact ⟨⟨Try.f157,c157,Try.func157,by kernel_rfl,by decide +kernel⟩,hh157⟩
 ·injection h with h; subst h; exact ⟨⟨Try.f168,c168,Try.func168,by kernel_rfl,by decide +kernel⟩,hh168⟩
 ·injection h with h; subst h; exact ⟨⟨Try.f169,c169,Try.func169,by kernel_rfl,by decide +kernel⟩,hh169⟩
 ·cases h
theorem hh150:Holds Try.prog 150 Sm150:=holds150 gam150
end Go.Proofs.Ytdkaagpkeomhmaa.Rx.S

namespace Go.Proofs.Ytdkaagpkeomhmaa.Rx.S
open Go Go.RowKit Go.Proofs
set_option maxRecDepth 100000
noncomputable def c104:Code:=(Try.f104.body.getD .skip)
def an104:An:=⟨fun _=>⟨[],[]⟩,fun _ _=>none⟩
abbrev ps104:List PK:=[.val tMem true]
abbrev rs104:List RK:=[.own tVi true,.val .bool false]
abbrev R104:=retsD rs104 × outsD ps104
noncomputable def G104:Gam:=fun f=>match f with | 53=>some Sm53 | 150=>some Sm150 | _=>none
theorem h0_104 (hg:GamOK Try.prog G104):Holds Try.prog 104 ⟨ps104,rs104,false,runF TT G104 an104 Try.f104 c104 ps104 rs104⟩:=holds_of tt_ok hg mixed Try.func104 (by kernel_rfl) (by rfl) (by decide +kernel)
noncomputable def st104_top (n:Nat) (a:(Lb × List Int) × (Lb × List Int) × List (Bool × Lq × Lq) × Int):Option R104 :=
 (q53 n (((a.1.1,a.1.2),(a.2.1.1,a.2.1.2),a.2.2.1,a.2.2.2),())).bind fun r0=>cond (!r0.1.1) (some (([],(false,())),())) ((q150 n (((a.1.1,a.1.2),(a.2.1.1,a.2.1.2),a.2.2.1,a.2.2.2),())).bind fun r1=>some ((r1.1.1,(true,())),()))
theorem e104_top (n:Nat) (a:(Lb × List Int) × (Lb × List Int) × List (Bool × Lq × Lq) × Int):runF TT G104 an104 Try.f104 c104 ps104 rs104 n (a,())=st104_top n a:=by kernel_rfl
noncomputable def p104 (n:Nat) (a:(Lb × List Int) × (Lb × List Int) × List (Bool × Lq × Lq) × Int):Option R104:=st104_top n a
theorem F104_eq (n:Nat) (a:(Lb × List Int) × (Lb × List Int) × List (Bool × Lq × Lq) × Int):runF TT G104 an104 Try.f104 c104 ps104 rs104 n (a,())=p104 n a:=by
 rw [e104_top]
 skip
 try rfl
noncomputable def q104 (n:Nat) (x:argsD ps104):Option R104:=p104 n x.1
noncomputable def Sm104:Sm:=⟨ps104,rs104,false,q104⟩
theorem holds104 (hg:GamOK Try.prog G104):Holds Try.prog 104 Sm104:=by
 have:=h0_104 hg
 have e:(runF TT G104 an104 Try.f104 c104 ps104 rs104)=q104:=by
  funext n x
  exact F104_eq n x.1
 rw [e] at this
 exact this
theorem gam104:GamOK Try.prog G104:=by
 intro f s h
 unfold G104 at h
 split at h
 ·injection h with h; subst h; exact ⟨⟨Try.f53,c53,Try.func53,by kernel_rfl,by decide +kernel⟩,hh53⟩
 ·injection h with h; subst h; exact ⟨⟨Try.f150,c150,Try.func150,by kernel_rfl,by decide +kernel⟩,hh150⟩
 ·cases h
theorem hh104:Holds Try.prog 104 Sm104:=holds104 gam104
end Go.Proofs.Ytdkaagpkeomhmaa.Rx.S

namespace Go.Proofs.Ytdkaagpkeomhmaa.Rx.S
open Go Go.RowKit Go.Proofs
set_option maxRecDepth 100000
noncomputable def c67:Code:=(Try.f67.body.getD .skip)
def an67:An:=⟨fun _=>⟨[],[]⟩,fun _ _=>none⟩
abbrev ps67:List PK:=[.val tVi true,.val i64 false]
abbrev rs67:List RK:=[.val .bool false]
abbrev R67:=retsD rs67 × outsD ps67
noncomputable def G67:Gam:=fun f=>match f with | 69=>some Sm69 | 127=>some Sm127 | _=>none
theorem h0_67 (hg:GamOK Try.prog G67):Holds Try.prog 67 ⟨ps67,rs67,false,runF TT G67 an67 Try.f67 c67 ps67 rs67⟩:=holds_of tt_ok hg mixed Try.func67 (by kernel_rfl) (by rfl) (by decide +kernel)
noncomputable def st67_top (n:Nat) (a:List (Bool × Lq × List Int × Lb)) (b:Int):Option R67 :=
 (q69 n (b,(0:Int),Go.IntKind.i64.wrap ((↑a.length:Int) - (1:Int)),())).bind fun r0=>cond (r0.1.1) (cond (decide ((0:Int)≤b)) (cond (decide (b < (↑a.length:Int))) (cond ((a.getD b.toNat (false,[],[],[])).1) (cond (decide ((0:Int)≤b)) (cond (decide (b < (↑a.length:Int))) (cond (decide ((↑(List.length (a.getD b.toNat (false,[],[],[])).2.2.2):Int)=(16:Int))) (cond (decide ((0:Int)≤b)) (cond (decide (b < (↑a.length:Int))) (cond (decide ((↑(List.length (a.getD b.toNat (false,[],[],[])).2.2.1):Int)=(16:Int))) (cond (decide ((0:Int)≤b)) (cond (decide (b < (↑a.length:Int))) ((q127 n ((a.getD b.toNat (false,[],[],[])).2.1,())).bind fun r1=>some ((r1.1.1,()),())) (none)) (none)) (some ((false,()),()))) (none)) (none)) (some ((false,()),()))) (none)) (none)) (some ((false,()),()))) (none)) (none)) (some ((false,()),()))
theorem e67_top (n:Nat) (a:List (Bool × Lq × List Int × Lb)) (b:Int):runF TT G67 an67 Try.f67 c67 ps67 rs67 n (a,b,())=st67_top n a b:=by kernel_rfl
noncomputable def p67 (n:Nat) (a:List (Bool × Lq × List Int × Lb)) (b:Int):Option R67:=st67_top n a b
theorem F67_eq (n:Nat) (a:List (Bool × Lq × List Int × Lb)) (b:Int):runF TT G67 an67 Try.f67 c67 ps67 rs67 n (a,b,())=p67 n a b:=by
 rw [e67_top]
 skip
 try rfl
noncomputable def q67 (n:Nat) (x:argsD ps67):Option R67:=p67 n x.1 x.2.1
noncomputable def Sm67:Sm:=⟨ps67,rs67,false,q67⟩
theorem holds67 (hg:GamOK Try.prog G67):Holds Try.prog 67 Sm67:=by
 have:=h0_67 hg
 have e:(runF TT G67 an67 Try.f67 c67 ps67 rs67)=q67:=by
  funext n x
  exact F67_eq n x.1 x.2.1
 rw [e] at this
 exact this
theorem gam67:GamOK Try.prog G67:=by
 intro f s h
 unfold G67 at h
 split at h
 ·injection h with h; subst h; exact ⟨⟨Try.f69,c69,Try.func69,by kernel_rfl,by decide +kernel⟩,hh69⟩
 ·injection h with h; subst h; exact ⟨⟨Try.f127,c127,Try.func127,by kernel_rfl,by decide +kernel⟩,hh127⟩
 ·cases h
theorem hh67:Holds Try.prog 67 Sm67:=holds67 gam67
end Go.Proofs.Ytdkaagpkeomhmaa.Rx.S

namespace Go.Proofs.Ytdkaagpkeomhmaa.Rx.S
open Go Go.RowKit Go.Proofs
set_option maxRecDepth 100000
noncomputable def c70:Code:=(Try.f70.body.getD .skip)
def an70:An:=⟨fun r=>match r with | 3=>⟨[1,2,3,4],[]⟩ | _=>⟨[],[]⟩,fun _ _=>none⟩
abbrev ps70:List PK:=[.val tVi true]
abbrev rs70:List RK:=[.own tVi true]
abbrev R70:=retsD rs70 × outsD ps70
noncomputable def G70:Gam:=fun _=>none
theorem h0_70 (hg:GamOK Try.prog G70):Holds Try.prog 70 ⟨ps70,rs70,false,runF TT G70 an70 Try.f70 c70 ps70 rs70⟩:=holds_of tt_ok hg mixed Try.func70 (by kernel_rfl) (by rfl) (by decide +kernel)
noncomputable def at70:Nat→Pt→List Nat→St→Option R70:=atF TT G70 an70 Try.f70 c70 _ _
def sh70_L3 (x0:Int) (x1 x2:List (Bool × Lq × List Int × Lb)):St:=(St.mk [Uu,AV.one (SV.bptr 1000000 0),AV.one (SV.bptr 1000001 0),AV.one (SV.bptr 1000002 0),AV.one (SV.int (Go.IntKind.i64) x0),Uu,Uu,Uu,Uu,Uu,Uu,Uu,Uu,Uu,Uu,Uu,Uu,Uu,Uu,Uu,Uu,Uu,Uu,Uu,Uu,Uu,Uu,Uu,Uu,Uu,Uu,Uu,Uu,Uu,Uu,Uu,Uu,Uu,Uu,Uu,Uu,Uu] ((1000000,(Ent.box ((SV.con (⟨75,Ty.bool.pair ((Ty.row (nat_lit 116) ((Ty.int Go.IntKind.i64).pair ((Ty.int Go.IntKind.i64).pair (Ty.bool.pair Ty.bool)))).pair ((Ty.row (nat_lit 3) (Ty.int Go.IntKind.i64)).pair (Ty.row (nat_lit 9) Ty.str))),x1⟩:Rw)) :: []))) :: ((1000001,(Ent.box (SV.nil :: []))) :: ((1000002,(Ent.box ((SV.ref 1000003 0 [] Option.none) :: []))) :: ((1000003,(Ent.row (⟨75,Ty.bool.pair ((Ty.row (nat_lit 116) ((Ty.int Go.IntKind.i64).pair ((Ty.int Go.IntKind.i64).pair (Ty.bool.pair Ty.bool)))).pair ((Ty.row (nat_lit 3) (Ty.int Go.IntKind.i64)).pair (Ty.row (nat_lit 9) Ty.str))),x2⟩:Rw) 0 Option.none)) :: [])))))
noncomputable def st70_top (n:Nat) (lL3:Int→(List (Bool × Lq × List Int × Lb))→(List (Bool × Lq × List Int × Lb))→Option R70) (a:List (Bool × Lq × List Int × Lb)):Option R70 :=
 lL3 ((0:Int)) (a) ([])
noncomputable def st70_L3 (n:Nat) (lL3:Int→(List (Bool × Lq × List Int × Lb))→(List (Bool × Lq × List Int × Lb))→Option R70) (x0:Int) (x1 x2:List (Bool × Lq × List Int × Lb)):Option R70 :=
 cond (decide (x0 < (↑x1.length:Int))) (cond (decide ((0:Int)≤x0)) (cond (decide (x0 < (↑x1.length:Int))) (cond (decide (((0:Nat) + List.length (x1.getD x0.toNat (false,[],[],[])).2.1) * (24:Nat)≤(140737488355328:Nat))) (cond (decide (((0:Nat) + List.length (x1.getD x0.toNat (false,[],[],[])).2.2.1) * (8:Nat)≤(140737488355328:Nat))) (cond (decide (((0:Nat) + List.length (x1.getD x0.toNat (false,[],[],[])).2.2.2) * (16:Nat)≤(140737488355328:Nat))) (cond (decide ((x2.length + [((x1.getD x0.toNat (false,[],[],[])).1,(x1.getD x0.toNat (false,[],[],[])).2.1,(x1.getD x0.toNat (false,[],[],[])).2.2.1,(x1.getD x0.toNat (false,[],[],[])).2.2.2)].length) * (80:Nat)≤(140737488355328:Nat))) (lL3 (Go.IntKind.i64.wrap (x0 + (1:Int))) (x1) (x2 ++ [((x1.getD x0.toNat (false,[],[],[])).1,(x1.getD x0.toNat (false,[],[],[])).2.1,(x1.getD x0.toNat (false,[],[],[])).2.2.1,(x1.getD x0.toNat (false,[],[],[])).2.2.2)])) (none)) (none)) (none)) (none)) (none)) (none)) (some ((x2,()),()))
theorem e70_top (n:Nat) (a:List (Bool × Lq × List Int × Lb)):runF TT G70 an70 Try.f70 c70 ps70 rs70 n (a,())=st70_top n (fun x0 x1 x2=>at70 n (.head 3) [n] (sh70_L3 x0 x1 x2)) a:=by kernel_rfl
theorem e70_L3_0 (n:Nat) (x0:Int) (x1 x2:List (Bool × Lq × List Int × Lb)):at70 n (.head 3) [0] (sh70_L3 x0 x1 x2)=none:=by kernel_rfl
theorem e70_L3 (n:Nat) (m3:Nat) (x0:Int) (x1 x2:List (Bool × Lq × List Int × Lb)):at70 n (.head 3) [m3 + 1] (sh70_L3 x0 x1 x2)=st70_L3 n (fun x0 x1 x2=>at70 n (.head 3) [m3] (sh70_L3 x0 x1 x2)) x0 x1 x2:=by kernel_rfl
noncomputable def p70_L3 (n:Nat):Nat→Int→(List (Bool × Lq × List Int × Lb))→(List (Bool × Lq × List Int × Lb))→Option R70
 | 0,_,_,_=>none
 | m + 1,x0,x1,x2=>st70_L3 n (p70_L3 n m) x0 x1 x2
noncomputable def p70 (n:Nat) (a:List (Bool × Lq × List Int × Lb)):Option R70:=st70_top n (p70_L3 n n) a
theorem t70_L3 (n:Nat):∀ (m3:Nat) (x0:Int) (x1 x2:List (Bool × Lq × List Int × Lb)),at70 n (.head 3) [m3] (sh70_L3 x0 x1 x2)=p70_L3 n m3 x0 x1 x2:=by
 intro m
 induction m with
 | zero=>intros; rw [e70_L3_0]; rfl
 | succ m ih =>
  intros
  rw [e70_L3]
  try simp only [ih]
  rfl
theorem F70_eq (n:Nat) (a:List (Bool × Lq × List Int × Lb)):runF TT G70 an70 Try.f70 c70 ps70 rs70 n (a,())=p70 n a:=by
 rw [e70_top]
 simp only [t70_L3]
 try rfl
noncomputable def q70 (n:Nat) (x:argsD ps70):Option R70:=p70 n x.1
noncomputable def Sm70:Sm:=⟨ps70,rs70,false,q70⟩
theorem holds70 (hg:GamOK Try.prog G70):Holds Try.prog 70 Sm70:=by
 have:=h0_70 hg
 have e:(runF TT G70 an70 Try.f70 c70 ps70 rs70)=q70:=by
  funext n x
  exact F70_eq n x.1
 rw [e] at this
 exact this
theorem gam70:GamOK Try.prog G70:=fun _ _ h=>by cases h
theorem hh70:Holds Try.prog 70 Sm70:=holds70 gam70
end Go.Proofs.Ytdkaagpkeomhmaa.Rx.S

namespace Go.Proofs.Ytdkaagpkeomhmaa.Rx.S
open Go Go.RowKit Go.Proofs
set_option maxRecDepth 100000
noncomputable def c59:Code:=(Try.f59.body.getD .skip)
def an59:An:=⟨fun _=>⟨[],[]⟩,fun _ _=>none⟩
abbrev ps59:List PK:=[.val i64 false,.val i64 false,.val i64 false]
abbrev rs59:List RK:=[.val .bool false]
abbrev R59:=retsD rs59 × outsD ps59
noncomputable def G59:Gam:=fun _=>none
theorem h0_59 (hg:GamOK Try.prog G59):Holds Try.prog 59 ⟨ps59,rs59,false,runF TT G59 an59 Try.f59 c59 ps59 rs59⟩:=holds_of tt_ok hg mixed Try.func59 (by kernel_rfl) (by rfl) (by decide +kernel)
noncomputable def st59_top (n:Nat) (a:Int) (b:Int) (c:Int):Option R59 :=
 cond (decide (b≤a)) (some ((decide (a≤c),()),())) (some ((false,()),()))
theorem e59_top (n:Nat) (a:Int) (b:Int) (c:Int):runF TT G59 an59 Try.f59 c59 ps59 rs59 n (a,b,c,())=st59_top n a b c:=by kernel_rfl
noncomputable def p59 (n:Nat) (a:Int) (b:Int) (c:Int):Option R59:=st59_top n a b c
theorem F59_eq (n:Nat) (a:Int) (b:Int) (c:Int):runF TT G59 an59 Try.f59 c59 ps59 rs59 n (a,b,c,())=p59 n a b c:=by
 rw [e59_top]
 skip
 try rfl
noncomputable def q59 (n:Nat) (x:argsD ps59):Option R59:=p59 n x.1 x.2.1 x.2.2.1
noncomputable def Sm59:Sm:=⟨ps59,rs59,false,q59⟩
theorem holds59 (hg:GamOK Try.prog G59):Holds Try.prog 59 Sm59:=by
 have:=h0_59 hg
 have e:(runF TT G59 an59 Try.f59 c59 ps59 rs59)=q59:=by
  funext n x
  exact F59_eq n x.1 x.2.1 x.2.2.1
 rw [e] at this
 exact this
theorem gam59:GamOK Try.prog G59:=fun _ _ h=>by cases h
theorem hh59:Holds Try.prog 59 Sm59:=holds59 gam59
end Go.Proofs.Ytdkaagpkeomhmaa.Rx.S

namespace Go.Proofs.Ytdkaagpkeomhmaa.Rx.S
open Go Go.RowKit Go.Proofs
set_option maxRecDepth 100000
noncomputable def c114:Code:=(Try.f114.body.getD .skip)
def an114:An:=⟨fun _=>⟨[],[]⟩,fun _ _=>none⟩
abbrev ps114:List PK:=[.val tAr true]
abbrev rs114:List RK:=[.val .bool false]
abbrev R114:=retsD rs114 × outsD ps114
noncomputable def G114:Gam:=fun f=>match f with | 59=>some Sm59 | _=>none
theorem h0_114 (hg:GamOK Try.prog G114):Holds Try.prog 114 ⟨ps114,rs114,false,runF TT G114 an114 Try.f114 c114 ps114 rs114⟩:=holds_of tt_ok hg mixed Try.func114 (by kernel_rfl) (by rfl) (by decide +kernel)
noncomputable def st114_top (n:Nat) (a:Aq):Option R114 :=
 (q59 n (a.1,(0:Int),(15:Int),())).bind fun r0=>cond (r0.1.1) ((q59 n (a.2.1,(1:Int),Go.IntKind.i64.wrap ((16:Int) - a.1),())).bind fun r1=>some ((r1.1.1,()),())) (some ((false,()),()))
theorem e114_top (n:Nat) (a:Aq):runF TT G114 an114 Try.f114 c114 ps114 rs114 n (a,())=st114_top n a:=by kernel_rfl
noncomputable def p114 (n:Nat) (a:Aq):Option R114:=st114_top n a
theorem F114_eq (n:Nat) (a:Aq):runF TT G114 an114 Try.f114 c114 ps114 rs114 n (a,())=p114 n a:=by
 rw [e114_top]
 skip
 try rfl
noncomputable def q114 (n:Nat) (x:argsD ps114):Option R114:=p114 n x.1
noncomputable def Sm114:Sm:=⟨ps114,rs114,false,q114⟩
theorem holds114 (hg:GamOK Try.prog G114):Holds Try.prog 114 Sm114:=by
 have:=h0_114 hg
 have e:(runF TT G114 an114 Try.f114 c114 ps114 rs114)=q114:=by
  funext n x
  exact F114_eq n x.1
 rw [e] at this
 exact this
theorem gam114:GamOK Try.prog G114:=by
 intro f s h
 unfold G114 at h
 split at h
 ·injection h with h; subst h; exact ⟨⟨Try.f59,c59,Try.func59,by kernel_rfl,by decide +kernel⟩,hh59⟩
 ·cases h
theorem hh114:Holds Try.prog 114 Sm114:=holds114 gam114
end Go.Proofs.Ytdkaagpkeomhmaa.Rx.S

namespace Go.Proofs.Ytdkaagpkeomhmaa.Rx.S
open Go Go.RowKit Go.Proofs
set_option maxRecDepth 100000
noncomputable def c115:Code:=(Try.f115.body.getD .skip)
def an115:An:=⟨fun _=>⟨[],[]⟩,fun _ _=>none⟩
abbrev ps115:List PK:=[.val tAr true]
abbrev rs115:List RK:=[.val i64 false]
abbrev R115:=retsD rs115 × outsD ps115
noncomputable def G115:Gam:=fun _=>none
theorem h0_115 (hg:GamOK Try.prog G115):Holds Try.prog 115 ⟨ps115,rs115,false,runF TT G115 an115 Try.f115 c115 ps115 rs115⟩:=holds_of tt_ok hg mixed Try.func115 (by kernel_rfl) (by rfl) (by decide +kernel)
noncomputable def st115_top (n:Nat) (a:Aq):Option R115 :=
 some ((Go.IntKind.i64.wrap (a.1 + a.2.1),()),())
theorem e115_top (n:Nat) (a:Aq):runF TT G115 an115 Try.f115 c115 ps115 rs115 n (a,())=st115_top n a:=by kernel_rfl
noncomputable def p115 (n:Nat) (a:Aq):Option R115:=st115_top n a
theorem F115_eq (n:Nat) (a:Aq):runF TT G115 an115 Try.f115 c115 ps115 rs115 n (a,())=p115 n a:=by
 rw [e115_top]
 skip
 try rfl
noncomputable def q115 (n:Nat) (x:argsD ps115):Option R115:=p115 n x.1
noncomputable def Sm115:Sm:=⟨ps115,rs115,false,q115⟩
theorem holds115 (hg:GamOK Try.prog G115):Holds Try.prog 115 Sm115:=by
 have:=h0_115 hg
 have e:(runF TT G115 an115 Try.f115 c115 ps115 rs115)=q115:=by
  funext n x
  exact F115_eq n x.1
 rw [e] at this
 exact this
theorem gam115:GamOK Try.prog G115:=fun _ _ h=>by cases h
theorem hh115:Holds Try.prog 115 Sm115:=holds115 gam115
end Go.Proofs.Ytdkaagpkeomhmaa.Rx.S

namespace Go.Proofs.Ytdkaagpkeomhmaa.Rx.S
open Go Go.RowKit Go.Proofs
set_option maxRecDepth 100000
noncomputable def c63:Code:=(Try.f63.body.getD .skip)
def an63:An:=⟨fun r=>match r with | 2=>⟨[0,5,6,7],[]⟩ | _=>⟨[],[]⟩,fun _ _=>none⟩
abbrev ps63:List PK:=[.val (.row 116 tAr) false]
abbrev rs63:List RK:=[.val .bool false]
abbrev R63:=retsD rs63 × outsD ps63
noncomputable def G63:Gam:=fun f=>match f with | 114=>some Sm114 | 115=>some Sm115 | _=>none
theorem h0_63 (hg:GamOK Try.prog G63):Holds Try.prog 63 ⟨ps63,rs63,false,runF TT G63 an63 Try.f63 c63 ps63 rs63⟩:=holds_of tt_ok hg mixed Try.func63 (by kernel_rfl) (by rfl) (by decide +kernel)
noncomputable def at63:Nat→Pt→List Nat→St→Option R63:=atF TT G63 an63 Try.f63 c63 _ _
def sh63_L2 (x0 x1:Lq) (x2 x3:Int):St:=(St.mk [AV.one (SV.con (⟨116,(Ty.int Go.IntKind.i64).pair ((Ty.int Go.IntKind.i64).pair (Ty.bool.pair Ty.bool)),x0⟩:Rw)),Uu,Uu,Uu,Uu,AV.one (SV.con (⟨116,(Ty.int Go.IntKind.i64).pair ((Ty.int Go.IntKind.i64).pair (Ty.bool.pair Ty.bool)),x1⟩:Rw)),AV.one (SV.int (Go.IntKind.i64) x2),AV.one (SV.int (Go.IntKind.i64) x3),Uu,Uu,Uu,Uu,Uu,Uu,Uu,Uu,Uu,Uu,Uu,Uu,Uu,Uu,Uu,Uu,Uu,Uu,Uu,Uu,Uu,Uu,Uu,Uu,Uu,Uu] [])
noncomputable def st63_top (n:Nat) (lL2:(Lq)→(Lq)→Int→Int→Option R63) (a:Lq):Option R63 :=
 lL2 (a) (a) ((↑a.length:Int)) ((0:Int))
noncomputable def st63_L2 (n:Nat) (lL2:(Lq)→(Lq)→Int→Int→Option R63) (x0 x1:Lq) (x2 x3:Int):Option R63 :=
 cond (decide (x3 < x2)) (cond (decide ((0:Int)≤x3)) (cond (decide (x3 < (↑x1.length:Int))) ((q114 n (((x1.getD x3.toNat ((0:Int),(0:Int),false,false)).1,(x1.getD x3.toNat ((0:Int),(0:Int),false,false)).2.1,(x1.getD x3.toNat ((0:Int),(0:Int),false,false)).2.2.1,(x1.getD x3.toNat ((0:Int),(0:Int),false,false)).2.2.2),())).bind fun r1=>cond (!r1.1.1) (some ((false,()),())) (cond (decide ((0:Int) < x3)) (cond (decide ((0:Int)≤Go.IntKind.i64.wrap (x3 - (1:Int)))) (cond (decide (Go.IntKind.i64.wrap (x3 - (1:Int)) < (↑x0.length:Int))) ((q115 n (((x0.getD (Go.IntKind.i64.wrap (x3 - (1:Int))).toNat ((0:Int),(0:Int),false,false)).1,(x0.getD (Go.IntKind.i64.wrap (x3 - (1:Int))).toNat ((0:Int),(0:Int),false,false)).2.1,(x0.getD (Go.IntKind.i64.wrap (x3 - (1:Int))).toNat ((0:Int),(0:Int),false,false)).2.2.1,(x0.getD (Go.IntKind.i64.wrap (x3 - (1:Int))).toNat ((0:Int),(0:Int),false,false)).2.2.2),())).bind fun r2=>cond (decide ((x1.getD x3.toNat ((0:Int),(0:Int),false,false)).1 < r2.1.1)) (some ((false,()),())) (lL2 (x0) (x1) (x2) (Go.IntKind.i64.wrap (x3 + (1:Int))))) (none)) (none)) (lL2 (x0) (x1) (x2) (Go.IntKind.i64.wrap (x3 + (1:Int)))))) (none)) (none)) (some ((decide ((↑x0.length:Int)≤(6:Int)),()),()))
theorem e63_top (n:Nat) (a:Lq):runF TT G63 an63 Try.f63 c63 ps63 rs63 n (a,())=st63_top n (fun x0 x1 x2 x3=>at63 n (.head 2) [n] (sh63_L2 x0 x1 x2 x3)) a:=by kernel_rfl
theorem e63_L2_0 (n:Nat) (x0 x1:Lq) (x2 x3:Int):at63 n (.head 2) [0] (sh63_L2 x0 x1 x2 x3)=none:=by kernel_rfl
theorem e63_L2 (n:Nat) (m2:Nat) (x0 x1:Lq) (x2 x3:Int):at63 n (.head 2) [m2 + 1] (sh63_L2 x0 x1 x2 x3)=st63_L2 n (fun x0 x1 x2 x3=>at63 n (.head 2) [m2] (sh63_L2 x0 x1 x2 x3)) x0 x1 x2 x3:=by kernel_rfl
noncomputable def p63_L2 (n:Nat):Nat→(Lq)→(Lq)→Int→Int→Option R63
 | 0,_,_,_,_=>none
 | m + 1,x0,x1,x2,x3=>st63_L2 n (p63_L2 n m) x0 x1 x2 x3
noncomputable def p63 (n:Nat) (a:Lq):Option R63:=st63_top n (p63_L2 n n) a
theorem t63_L2 (n:Nat):∀ (m2:Nat) (x0 x1:Lq) (x2 x3:Int),at63 n (.head 2) [m2] (sh63_L2 x0 x1 x2 x3)=p63_L2 n m2 x0 x1 x2 x3:=by
 intro m
 induction m with
 | zero=>intros; rw [e63_L2_0]; rfl
 | succ m ih =>
  intros
  rw [e63_L2]
  try simp only [ih]
  rfl
theorem F63_eq (n:Nat) (a:Lq):runF TT G63 an63 Try.f63 c63 ps63 rs63 n (a,())=p63 n a:=by
 rw [e63_top]
 simp only [t63_L2]
 try rfl
noncomputable def q63 (n:Nat) (x:argsD ps63):Option R63:=p63 n x.1
noncomputable def Sm63:Sm:=⟨ps63,rs63,false,q63⟩
theorem holds63 (hg:GamOK Try.prog G63):Holds Try.prog 63 Sm63:=by
 have:=h0_63 hg
 have e:(runF TT G63 an63 Try.f63 c63 ps63 rs63)=q63:=by
  funext n x
  exact F63_eq n x.1
 rw [e] at this
 exact this
theorem gam63:GamOK Try.prog G63:=by
 intro f s h
 unfold G63 at h
 split at h
 ·injection h with h; subst h; exact ⟨⟨Try.f114,c114,Try.func114,by kernel_rfl,by decide +kernel⟩,hh114⟩
 ·injection h with h; subst h; exact ⟨⟨Try.f115,c115,Try.func115,by kernel_rfl,by decide +kernel⟩,hh115⟩
 ·cases h
theorem hh63:Holds Try.prog 63 Sm63:=holds63 gam63
end Go.Proofs.Ytdkaagpkeomhmaa.Rx.S

namespace Go.Proofs.Ytdkaagpkeomhmaa.Rx.S
open Go Go.RowKit Go.Proofs
set_option maxRecDepth 100000
noncomputable def c129:Code:=(Try.f129.body.getD .skip)
def an129:An:=⟨fun _=>⟨[],[]⟩,fun _ _=>none⟩
abbrev ps129:List PK:=[.val (tBo 116) true]
abbrev rs129:List RK:=[.val .bool false]
abbrev R129:=retsD rs129 × outsD ps129
noncomputable def G129:Gam:=fun f=>match f with | 63=>some Sm63 | _=>none
theorem h0_129 (hg:GamOK Try.prog G129):Holds Try.prog 129 ⟨ps129,rs129,false,runF TT G129 an129 Try.f129 c129 ps129 rs129⟩:=holds_of tt_ok hg mixed Try.func129 (by kernel_rfl) (by rfl) (by decide +kernel)
noncomputable def st129_top (n:Nat) (a:Bool × Lq × List Int × Lb):Option R129 :=
 cond (a.1) (cond (decide ((↑(List.length a.2.2.1):Int)=(16:Int))) (cond (decide ((↑(List.length a.2.2.2):Int)=(16:Int))) ((q63 n (a.2.1,())).bind fun r0=>some ((r0.1.1,()),())) (some ((false,()),()))) (some ((false,()),()))) (some ((false,()),()))
theorem e129_top (n:Nat) (a:Bool × Lq × List Int × Lb):runF TT G129 an129 Try.f129 c129 ps129 rs129 n (a,())=st129_top n a:=by kernel_rfl
noncomputable def p129 (n:Nat) (a:Bool × Lq × List Int × Lb):Option R129:=st129_top n a
theorem F129_eq (n:Nat) (a:Bool × Lq × List Int × Lb):runF TT G129 an129 Try.f129 c129 ps129 rs129 n (a,())=p129 n a:=by
 rw [e129_top]
 skip
 try rfl
noncomputable def q129 (n:Nat) (x:argsD ps129):Option R129:=p129 n x.1
noncomputable def Sm129:Sm:=⟨ps129,rs129,false,q129⟩
theorem holds129 (hg:GamOK Try.prog G129):Holds Try.prog 129 Sm129:=by
 have:=h0_129 hg
 have e:(runF TT G129 an129 Try.f129 c129 ps129 rs129)=q129:=by
  funext n x
  exact F129_eq n x.1
 rw [e] at this
 exact this
theorem gam129:GamOK Try.prog G129:=by
 intro f s h
 unfold G129 at h
 split at h
 ·injection h with h; subst h; exact ⟨⟨Try.f63,c63,Try.func63,by kernel_rfl,by decide +kernel⟩,hh63⟩
 ·cases h
theorem hh129:Holds Try.prog 129 Sm129:=holds129 gam129
end Go.Proofs.Ytdkaagpkeomhmaa.Rx.S

namespace Go.Proofs.Ytdkaagpkeomhmaa.Rx.S
open Go Go.RowKit Go.Proofs
set_option maxRecDepth 100000
noncomputable def c74:Code:=(Try.f74.body.getD .skip)
def an74:An:=⟨fun _=>⟨[],[]⟩,fun _ _=>none⟩
abbrev ps74:List PK:=[.val tVi true,.val i64 false]
abbrev rs74:List RK:=[.val .bool false]
abbrev R74:=retsD rs74 × outsD ps74
noncomputable def G74:Gam:=fun f=>match f with | 59=>some Sm59 | 129=>some Sm129 | _=>none
theorem h0_74 (hg:GamOK Try.prog G74):Holds Try.prog 74 ⟨ps74,rs74,false,runF TT G74 an74 Try.f74 c74 ps74 rs74⟩:=holds_of tt_ok hg mixed Try.func74 (by kernel_rfl) (by rfl) (by decide +kernel)
noncomputable def st74_top (n:Nat) (a:List (Bool × Lq × List Int × Lb)) (b:Int):Option R74 :=
 (q59 n (b,(0:Int),Go.IntKind.i64.wrap ((↑a.length:Int) - (1:Int)),())).bind fun r0=>cond (r0.1.1) (cond (decide ((0:Int)≤b)) (cond (decide (b < (↑a.length:Int))) ((q129 n (((a.getD b.toNat (false,[],[],[])).1,(a.getD b.toNat (false,[],[],[])).2.1,(a.getD b.toNat (false,[],[],[])).2.2.1,(a.getD b.toNat (false,[],[],[])).2.2.2),())).bind fun r1=>some ((r1.1.1,()),())) (none)) (none)) (some ((false,()),()))
theorem e74_top (n:Nat) (a:List (Bool × Lq × List Int × Lb)) (b:Int):runF TT G74 an74 Try.f74 c74 ps74 rs74 n (a,b,())=st74_top n a b:=by kernel_rfl
noncomputable def p74 (n:Nat) (a:List (Bool × Lq × List Int × Lb)) (b:Int):Option R74:=st74_top n a b
theorem F74_eq (n:Nat) (a:List (Bool × Lq × List Int × Lb)) (b:Int):runF TT G74 an74 Try.f74 c74 ps74 rs74 n (a,b,())=p74 n a b:=by
 rw [e74_top]
 skip
 try rfl
noncomputable def q74 (n:Nat) (x:argsD ps74):Option R74:=p74 n x.1 x.2.1
noncomputable def Sm74:Sm:=⟨ps74,rs74,false,q74⟩
theorem holds74 (hg:GamOK Try.prog G74):Holds Try.prog 74 Sm74:=by
 have:=h0_74 hg
 have e:(runF TT G74 an74 Try.f74 c74 ps74 rs74)=q74:=by
  funext n x
  exact F74_eq n x.1 x.2.1
 rw [e] at this
 exact this
theorem gam74:GamOK Try.prog G74:=by
 intro f s h
 unfold G74 at h
 split at h
 ·injection h with h; subst h; exact ⟨⟨Try.f59,c59,Try.func59,by kernel_rfl,by decide +kernel⟩,hh59⟩
 ·injection h with h; subst h; exact ⟨⟨Try.f129,c129,Try.func129,by kernel_rfl,by decide +kernel⟩,hh129⟩
 ·cases h
theorem hh74:Holds Try.prog 74 Sm74:=holds74 gam74
end Go.Proofs.Ytdkaagpkeomhmaa.Rx.S

namespace Go.Proofs.Ytdkaagpkeomhmaa.Rx.S
open Go Go.RowKit Go.Proofs
set_option maxRecDepth 100000
noncomputable def c87:Code:=(Try.f87.body.getD .skip)
abbrev ps87:List PK:=[.val (.row 116 tAr) false]
abbrev rs87:List RK:=[.own (.row 116 tAr) false]
abbrev R87:=retsD rs87 × outsD ps87
noncomputable def p87 (n:Nat) (a:Lq):Option R87:=cond (decide ((0 + a.length) * (24:Nat)≤(140737488355328:Nat))) (some ((a,()),())) none
noncomputable def q87 (n:Nat) (x:argsD ps87):Option R87:=p87 n x.1
noncomputable def Sm87:Sm:=⟨ps87,rs87,false,q87⟩
noncomputable def S0_87 (n:Nat) (xs:Lq):St:=(initS Try.f87.ntmps ps87 (xs,())).put (some 2) (.one .nil)
noncomputable def S1_87 (n:Nat) (xs:Lq):St:=(S0_87 n xs).put (some 3) (.one (.con ⟨116,tAr,xs⟩))
theorem gam0_87:GamOK Try.prog (fun _=>none):=fun f s h=>by cases h
theorem hh87:Holds Try.prog 87 Sm87:=by
 refine holds_nilq tt_ok gam0_87 mixed (an:=⟨fun _=>⟨[],[]⟩,fun _ _=>none⟩) Try.func87 (by rfl) rfl (by first | exact Try.underlying68 | kernel_rfl) (by decide +kernel) S0_87 (fun n xs=>by kernel_rfl) S1_87 (fun n xs=>by kernel_rfl) (fun n xs=>rfl) (fun n xs b=>by kernel_rfl) (fun n y h=>?_) (fun n xs y h=>?_)
 ·have h':some (([],()),())=some y:=h
  refine Eq.trans ?_ h'
  kernel_rfl
 ·have h':cond (decide ((0 + xs.length) * (24:Nat)≤(140737488355328:Nat))) (some ((xs,()),())) none=some y:=h
  refine Eq.trans ?_ h'
  kernel_rfl
end Go.Proofs.Ytdkaagpkeomhmaa.Rx.S

namespace Go.Proofs.Ytdkaagpkeomhmaa.Rx.S
open Go Go.RowKit Go.Proofs
set_option maxRecDepth 100000
noncomputable def c88:Code:=(Try.f88.body.getD .skip)
abbrev ps88:List PK:=[.val (.row 3 i64) false]
abbrev rs88:List RK:=[.own (.row 3 i64) false]
abbrev R88:=retsD rs88 × outsD ps88
noncomputable def p88 (n:Nat) (a:List (Int)):Option R88:=cond (decide ((0 + a.length) * (8:Nat)≤(140737488355328:Nat))) (some ((a,()),())) none
noncomputable def q88 (n:Nat) (x:argsD ps88):Option R88:=p88 n x.1
noncomputable def Sm88:Sm:=⟨ps88,rs88,false,q88⟩
noncomputable def S0_88 (n:Nat) (xs:List (Int)):St:=(initS Try.f88.ntmps ps88 (xs,())).put (some 2) (.one .nil)
noncomputable def S1_88 (n:Nat) (xs:List (Int)):St:=(S0_88 n xs).put (some 3) (.one (.con ⟨3,i64,xs⟩))
theorem gam0_88:GamOK Try.prog (fun _=>none):=fun f s h=>by cases h
theorem hh88:Holds Try.prog 88 Sm88:=by
 refine holds_nilq tt_ok gam0_88 mixed (an:=⟨fun _=>⟨[],[]⟩,fun _ _=>none⟩) Try.func88 (by rfl) rfl (by first | exact Try.underlying24 | kernel_rfl) (by decide +kernel) S0_88 (fun n xs=>by kernel_rfl) S1_88 (fun n xs=>by kernel_rfl) (fun n xs=>rfl) (fun n xs b=>by kernel_rfl) (fun n y h=>?_) (fun n xs y h=>?_)
 ·have h':some (([],()),())=some y:=h
  refine Eq.trans ?_ h'
  kernel_rfl
 ·have h':cond (decide ((0 + xs.length) * (8:Nat)≤(140737488355328:Nat))) (some ((xs,()),())) none=some y:=h
  refine Eq.trans ?_ h'
  kernel_rfl
end Go.Proofs.Ytdkaagpkeomhmaa.Rx.S

namespace Go.Proofs.Ytdkaagpkeomhmaa.Rx.S
open Go Go.RowKit Go.Proofs
set_option maxRecDepth 100000
noncomputable def c89:Code:=(Try.f89.body.getD .skip)
abbrev ps89:List PK:=[.val (.row 9 .str) false]
abbrev rs89:List RK:=[.own (.row 9 .str) false]
abbrev R89:=retsD rs89 × outsD ps89
noncomputable def p89 (n:Nat) (a:List (ByteArray)):Option R89:=cond (decide ((0 + a.length) * (16:Nat)≤(140737488355328:Nat))) (some ((a,()),())) none
noncomputable def q89 (n:Nat) (x:argsD ps89):Option R89:=p89 n x.1
noncomputable def Sm89:Sm:=⟨ps89,rs89,false,q89⟩
noncomputable def S0_89 (n:Nat) (xs:List (ByteArray)):St:=(initS Try.f89.ntmps ps89 (xs,())).put (some 2) (.one .nil)
noncomputable def S1_89 (n:Nat) (xs:List (ByteArray)):St:=(S0_89 n xs).put (some 3) (.one (.con ⟨9,.str,xs⟩))
theorem gam0_89:GamOK Try.prog (fun _=>none):=fun f s h=>by cases h
theorem hh89:Holds Try.prog 89 Sm89:=by
 refine holds_nilq tt_ok gam0_89 mixed (an:=⟨fun _=>⟨[],[]⟩,fun _ _=>none⟩) Try.func89 (by rfl) rfl (by first | exact Try.underlying23 | kernel_rfl) (by decide +kernel) S0_89 (fun n xs=>by kernel_rfl) S1_89 (fun n xs=>by kernel_rfl) (fun n xs=>rfl) (fun n xs b=>by kernel_rfl) (fun n y h=>?_) (fun n xs y h=>?_)
 ·have h':some (([],()),())=some y:=h
  refine Eq.trans ?_ h'
  kernel_rfl
 ·have h':cond (decide ((0 + xs.length) * (16:Nat)≤(140737488355328:Nat))) (some ((xs,()),())) none=some y:=h
  refine Eq.trans ?_ h'
  kernel_rfl
end Go.Proofs.Ytdkaagpkeomhmaa.Rx.S

namespace Go.Proofs.Ytdkaagpkeomhmaa.Rx.S
open Go Go.RowKit Go.Proofs
set_option maxRecDepth 100000
noncomputable def c75:Code:=(Try.f75.body.getD .skip)
def an75:An:=⟨fun r=>match r with | 3=>⟨[2,3,8,9,10],[(1003,75,tBo 116)]⟩ | _=>⟨[],[]⟩,fun _ _=>none⟩
abbrev ps75:List PK:=[.val tVi true]
abbrev rs75:List RK:=[.own tVi true]
abbrev R75:=retsD rs75 × outsD ps75
noncomputable def G75:Gam:=fun f=>match f with | 87=>some Sm87 | 88=>some Sm88 | 89=>some Sm89 | _=>none
theorem h0_75 (hg:GamOK Try.prog G75):Holds Try.prog 75 ⟨ps75,rs75,false,runF TT G75 an75 Try.f75 c75 ps75 rs75⟩:=holds_of tt_ok hg mixed Try.func75 (by kernel_rfl) (by rfl) (by decide +kernel)
noncomputable def at75:Nat→Pt→List Nat→St→Option R75:=atF TT G75 an75 Try.f75 c75 _ _
def sh75_L3 (x0:List (Bool × Lq × List Int × Lb)) (x1 x2:Int) (x3:List (Bool × Lq × List Int × Lb)):St:=(St.mk [Uu,Uu,AV.one (SV.bptr 1000000 0),AV.one (SV.bptr 1000001 0),Uu,Uu,Uu,Uu,AV.one (SV.con (⟨75,Ty.bool.pair ((Ty.row (nat_lit 116) ((Ty.int Go.IntKind.i64).pair ((Ty.int Go.IntKind.i64).pair (Ty.bool.pair Ty.bool)))).pair ((Ty.row (nat_lit 3) (Ty.int Go.IntKind.i64)).pair (Ty.row (nat_lit 9) Ty.str))),x0⟩:Rw)),AV.one (SV.int (Go.IntKind.i64) x1),AV.one (SV.int (Go.IntKind.i64) x2),Uu,Uu,Uu,Uu,Uu,Uu,Uu,Uu,Uu,Uu,Uu,Uu,Uu,Uu,Uu,Uu,Uu,Uu,Uu,Uu,Uu,Uu] ((1000000,(Ent.box (SV.nil :: []))) :: ((1000001,(Ent.box ((SV.ref 1000002 0 [] Option.none) :: []))) :: ((1000002,(Ent.row (⟨75,Ty.bool.pair ((Ty.row (nat_lit 116) ((Ty.int Go.IntKind.i64).pair ((Ty.int Go.IntKind.i64).pair (Ty.bool.pair Ty.bool)))).pair ((Ty.row (nat_lit 3) (Ty.int Go.IntKind.i64)).pair (Ty.row (nat_lit 9) Ty.str))),x3⟩:Rw) 0 Option.none)) :: []))))
noncomputable def st75_top (n:Nat) (lL3:(List (Bool × Lq × List Int × Lb))→Int→Int→(List (Bool × Lq × List Int × Lb))→Option R75) (a:List (Bool × Lq × List Int × Lb)):Option R75 :=
 lL3 (a) ((↑a.length:Int)) ((0:Int)) ([])
noncomputable def st75_L3 (n:Nat) (lL3:(List (Bool × Lq × List Int × Lb))→Int→Int→(List (Bool × Lq × List Int × Lb))→Option R75) (x0:List (Bool × Lq × List Int × Lb)) (x1 x2:Int) (x3:List (Bool × Lq × List Int × Lb)):Option R75 :=
 cond (decide (x2 < x1)) (cond (decide ((0:Int)≤x2)) (cond (decide (x2 < (↑x0.length:Int))) ((q87 n ((x0.getD x2.toNat (false,[],[],[])).2.1,())).bind fun r1=>(q88 n ((x0.getD x2.toNat (false,[],[],[])).2.2.1,())).bind fun r2=>(q89 n ((x0.getD x2.toNat (false,[],[],[])).2.2.2,())).bind fun r3=>cond (decide ((x3.length + [((x0.getD x2.toNat (false,[],[],[])).1,r1.1.1,r2.1.1,r3.1.1)].length) * (80:Nat)≤(140737488355328:Nat))) (lL3 (x0) (x1) (Go.IntKind.i64.wrap (x2 + (1:Int))) (x3 ++ [((x0.getD x2.toNat (false,[],[],[])).1,r1.1.1,r2.1.1,r3.1.1)])) (none)) (none)) (none)) (some ((x3,()),()))
theorem e75_top (n:Nat) (a:List (Bool × Lq × List Int × Lb)):runF TT G75 an75 Try.f75 c75 ps75 rs75 n (a,())=st75_top n (fun x0 x1 x2 x3=>at75 n (.head 3) [n] (sh75_L3 x0 x1 x2 x3)) a:=by kernel_rfl
theorem e75_L3_0 (n:Nat) (x0:List (Bool × Lq × List Int × Lb)) (x1 x2:Int) (x3:List (Bool × Lq × List Int × Lb)):at75 n (.head 3) [0] (sh75_L3 x0 x1 x2 x3)=none:=by kernel_rfl
theorem e75_L3 (n:Nat) (m3:Nat) (x0:List (Bool × Lq × List Int × Lb)) (x1 x2:Int) (x3:List (Bool × Lq × List Int × Lb)):at75 n (.head 3) [m3 + 1] (sh75_L3 x0 x1 x2 x3)=st75_L3 n (fun x0 x1 x2 x3=>at75 n (.head 3) [m3] (sh75_L3 x0 x1 x2 x3)) x0 x1 x2 x3:=by kernel_rfl
noncomputable def p75_L3 (n:Nat):Nat→(List (Bool × Lq × List Int × Lb))→Int→Int→(List (Bool × Lq × List Int × Lb))→Option R75
 | 0,_,_,_,_=>none
 | m + 1,x0,x1,x2,x3=>st75_L3 n (p75_L3 n m) x0 x1 x2 x3
noncomputable def p75 (n:Nat) (a:List (Bool × Lq × List Int × Lb)):Option R75:=st75_top n (p75_L3 n n) a
theorem t75_L3 (n:Nat):∀ (m3:Nat) (x0:List (Bool × Lq × List Int × Lb)) (x1 x2:Int) (x3:List (Bool × Lq × List Int × Lb)),at75 n (.head 3) [m3] (sh75_L3 x0 x1 x2 x3)=p75_L3 n m3 x0 x1 x2 x3:=by
 intro m
 induction m with
 | zero=>intros; rw [e75_L3_0]; rfl
 | succ m ih =>
  intros
  rw [e75_L3]
  try simp only [ih]
  rfl
theorem F75_eq (n:Nat) (a:List (Bool × Lq × List Int × Lb)):runF TT G75 an75 Try.f75 c75 ps75 rs75 n (a,())=p75 n a:=by
 rw [e75_top]
 simp only [t75_L3]
 try rfl
noncomputable def q75 (n:Nat) (x:argsD ps75):Option R75:=p75 n x.1
noncomputable def Sm75:Sm:=⟨ps75,rs75,false,q75⟩
theorem holds75 (hg:GamOK Try.prog G75):Holds Try.prog 75 Sm75:=by
 have:=h0_75 hg
 have e:(runF TT G75 an75 Try.f75 c75 ps75 rs75)=q75:=by
  funext n x
  exact F75_eq n x.1
 rw [e] at this
 exact this
theorem gam75:GamOK Try.prog G75:=by
 intro f s h
 unfold G75 at h
 split at h
 ·injection h with h; subst h; exact ⟨⟨Try.f87,c87,Try.func87,by kernel_rfl,by decide +kernel⟩,hh87⟩
 ·injection h with h; subst h; exact ⟨⟨Try.f88,c88,Try.func88,by kernel_rfl,by decide +kernel⟩,hh88⟩
 ·injection h with h; subst h; exact ⟨⟨Try.f89,c89,Try.func89,by kernel_rfl,by decide +kernel⟩,hh89⟩
 ·cases h
theorem hh75:Holds Try.prog 75 Sm75:=holds75 gam75
end Go.Proofs.Ytdkaagpkeomhmaa.Rx.S

namespace Go.Proofs.Ytdkaagpkeomhmaa.Rx.S
open Go Go.RowKit Go.Proofs
set_option maxRecDepth 100000
noncomputable def c125:Code:=(Try.f125.body.getD .skip)
def an125:An:=⟨fun _=>⟨[],[]⟩,fun _ _=>none⟩
abbrev ps125:List PK:=[.val tAr true,.cp i64]
abbrev rs125:List RK:=[.val .bool false]
abbrev R125:=retsD rs125 × outsD ps125
noncomputable def G125:Gam:=fun f=>match f with | 115=>some Sm115 | _=>none
theorem h0_125 (hg:GamOK Try.prog G125):Holds Try.prog 125 ⟨ps125,rs125,false,runF TT G125 an125 Try.f125 c125 ps125 rs125⟩:=holds_of tt_ok hg mixed Try.func125 (by kernel_rfl) (by rfl) (by decide +kernel)
noncomputable def st125_top (n:Nat) (a:Aq) (b:Int):Option R125 :=
 cond (decide (a.1≤[b].getD (0:Nat) (0:Int))) ((q115 n ((a.1,a.2.1,a.2.2.1,a.2.2.2),())).bind fun r0=>some ((decide ([b].getD (0:Nat) (0:Int) < r0.1.1),()),())) (some ((false,()),()))
theorem e125_top (n:Nat) (a:Aq) (b:Int):runF TT G125 an125 Try.f125 c125 ps125 rs125 n (a,b,())=st125_top n a b:=by kernel_rfl
noncomputable def p125 (n:Nat) (a:Aq) (b:Int):Option R125:=st125_top n a b
theorem F125_eq (n:Nat) (a:Aq) (b:Int):runF TT G125 an125 Try.f125 c125 ps125 rs125 n (a,b,())=p125 n a b:=by
 rw [e125_top]
 skip
 try rfl
noncomputable def q125 (n:Nat) (x:argsD ps125):Option R125:=p125 n x.1 x.2.1
noncomputable def Sm125:Sm:=⟨ps125,rs125,false,q125⟩
theorem holds125 (hg:GamOK Try.prog G125):Holds Try.prog 125 Sm125:=by
 have:=h0_125 hg
 have e:(runF TT G125 an125 Try.f125 c125 ps125 rs125)=q125:=by
  funext n x
  exact F125_eq n x.1 x.2.1
 rw [e] at this
 exact this
theorem gam125:GamOK Try.prog G125:=by
 intro f s h
 unfold G125 at h
 split at h
 ·injection h with h; subst h; exact ⟨⟨Try.f115,c115,Try.func115,by kernel_rfl,by decide +kernel⟩,hh115⟩
 ·cases h
theorem hh125:Holds Try.prog 125 Sm125:=holds125 gam125
end Go.Proofs.Ytdkaagpkeomhmaa.Rx.S

namespace Go.Proofs.Ytdkaagpkeomhmaa.Rx.S
open Go Go.RowKit Go.Proofs
set_option maxRecDepth 100000
noncomputable def c124:Code:=(Try.f124.body.getD .skip)
def an124:An:=⟨fun r=>match r with | 2=>⟨[0,1,7,8],[]⟩ | _=>⟨[],[]⟩,fun _ _=>none⟩
abbrev ps124:List PK:=[.val (.row 116 tAr) false,.fn 125 [i64]]
abbrev rs124:List RK:=[.val i64 false]
abbrev R124:=retsD rs124 × outsD ps124
noncomputable def G124:Gam:=fun f=>match f with | 125=>some Sm125 | _=>none
theorem h0_124 (hg:GamOK Try.prog G124):Holds Try.prog 124 ⟨ps124,rs124,false,runF TT G124 an124 Try.f124 c124 ps124 rs124⟩:=holds_of tt_ok hg mixed Try.func124 (by kernel_rfl) (by rfl) (by decide +kernel)
noncomputable def at124:Nat→Pt→List Nat→St→Option R124:=atF TT G124 an124 Try.f124 c124 _ _
def sh124_L2 (x0:Lq) (x1 x2 x3:Int):St:=(St.mk [AV.one (SV.con (⟨116,(Ty.int Go.IntKind.i64).pair ((Ty.int Go.IntKind.i64).pair (Ty.bool.pair Ty.bool)),x0⟩:Rw)),AV.fn 125 ((SV.cptr (⟨0,Ty.int Go.IntKind.i64,[x1]⟩:Rw) 0 0) :: []),Uu,Uu,Uu,Uu,Uu,AV.one (SV.int (Go.IntKind.i64) x2),AV.one (SV.int (Go.IntKind.i64) x3),Uu,Uu,Uu,Uu,Uu,Uu,Uu,Uu,Uu,Uu] [])
noncomputable def st124_top (n:Nat) (lL2:(Lq)→Int→Int→Int→Option R124) (a:Lq) (b:Int × Unit):Option R124 :=
 lL2 (a) (b.1) ((↑a.length:Int)) ((0:Int))
noncomputable def st124_L2 (n:Nat) (lL2:(Lq)→Int→Int→Int→Option R124) (x0:Lq) (x1 x2 x3:Int):Option R124 :=
 cond (decide (x3 < x2)) (cond (decide ((0:Int)≤x3)) (cond (decide (x3 < (↑x0.length:Int))) ((q125 n (((x0.getD x3.toNat ((0:Int),(0:Int),false,false)).1,(x0.getD x3.toNat ((0:Int),(0:Int),false,false)).2.1,(x0.getD x3.toNat ((0:Int),(0:Int),false,false)).2.2.1,(x0.getD x3.toNat ((0:Int),(0:Int),false,false)).2.2.2),x1,())).bind fun r1=>cond (r1.1.1) (some ((x3,()),())) (lL2 (x0) (x1) (x2) (Go.IntKind.i64.wrap (x3 + (1:Int))))) (none)) (none)) (some (((-1:Int),()),()))
theorem e124_top (n:Nat) (a:Lq) (b:Int × Unit):runF TT G124 an124 Try.f124 c124 ps124 rs124 n (a,b,())=st124_top n (fun x0 x1 x2 x3=>at124 n (.head 2) [n] (sh124_L2 x0 x1 x2 x3)) a b:=by kernel_rfl
theorem e124_L2_0 (n:Nat) (x0:Lq) (x1 x2 x3:Int):at124 n (.head 2) [0] (sh124_L2 x0 x1 x2 x3)=none:=by kernel_rfl
theorem e124_L2 (n:Nat) (m2:Nat) (x0:Lq) (x1 x2 x3:Int):at124 n (.head 2) [m2 + 1] (sh124_L2 x0 x1 x2 x3)=st124_L2 n (fun x0 x1 x2 x3=>at124 n (.head 2) [m2] (sh124_L2 x0 x1 x2 x3)) x0 x1 x2 x3:=by kernel_rfl
noncomputable def p124_L2 (n:Nat):Nat→(Lq)→Int→Int→Int→Option R124
 | 0,_,_,_,_=>none
 | m + 1,x0,x1,x2,x3=>st124_L2 n (p124_L2 n m) x0 x1 x2 x3
noncomputable def p124 (n:Nat) (a:Lq) (b:Int × Unit):Option R124:=st124_top n (p124_L2 n n) a b
theorem t124_L2 (n:Nat):∀ (m2:Nat) (x0:Lq) (x1 x2 x3:Int),at124 n (.head 2) [m2] (sh124_L2 x0 x1 x2 x3)=p124_L2 n m2 x0 x1 x2 x3:=by
 intro m
 induction m with
 | zero=>intros; rw [e124_L2_0]; rfl
 | succ m ih =>
  intros
  rw [e124_L2]
  try simp only [ih]
  rfl
theorem F124_eq (n:Nat) (a:Lq) (b:Int × Unit):runF TT G124 an124 Try.f124 c124 ps124 rs124 n (a,b,())=p124 n a b:=by
 rw [e124_top]
 simp only [t124_L2]
 try rfl
noncomputable def q124 (n:Nat) (x:argsD ps124):Option R124:=p124 n x.1 x.2.1
noncomputable def Sm124:Sm:=⟨ps124,rs124,false,q124⟩
theorem holds124 (hg:GamOK Try.prog G124):Holds Try.prog 124 Sm124:=by
 have:=h0_124 hg
 have e:(runF TT G124 an124 Try.f124 c124 ps124 rs124)=q124:=by
  funext n x
  exact F124_eq n x.1 x.2.1
 rw [e] at this
 exact this
theorem gam124:GamOK Try.prog G124:=by
 intro f s h
 unfold G124 at h
 split at h
 ·injection h with h; subst h; exact ⟨⟨Try.f125,c125,Try.func125,by kernel_rfl,by decide +kernel⟩,hh125⟩
 ·cases h
theorem hh124:Holds Try.prog 124 Sm124:=holds124 gam124
end Go.Proofs.Ytdkaagpkeomhmaa.Rx.S

namespace Go.Proofs.Ytdkaagpkeomhmaa.Rx.S
open Go Go.RowKit Go.Proofs
set_option maxRecDepth 100000
noncomputable def c60:Code:=(Try.f60.body.getD .skip)
def an60:An:=⟨fun _=>⟨[],[]⟩,fun _ _=>none⟩
abbrev ps60:List PK:=[.val (.row 116 tAr) false,.val i64 false]
abbrev rs60:List RK:=[.val i64 false]
abbrev R60:=retsD rs60 × outsD ps60
noncomputable def G60:Gam:=fun f=>match f with | 63=>some Sm63 | 124=>some Sm124 | _=>none
theorem h0_60 (hg:GamOK Try.prog G60):Holds Try.prog 60 ⟨ps60,rs60,false,runF TT G60 an60 Try.f60 c60 ps60 rs60⟩:=holds_of tt_ok hg mixed Try.func60 (by kernel_rfl) (by rfl) (by decide +kernel)
noncomputable def st60_top (n:Nat) (a:Lq) (b:Int):Option R60 :=
 (q63 n (a,())).bind fun r0=>cond (!r0.1.1) (some (((-1:Int),()),())) ((q124 n (a,(b,()),())).bind fun r1=>some ((r1.1.1,()),()))
theorem e60_top (n:Nat) (a:Lq) (b:Int):runF TT G60 an60 Try.f60 c60 ps60 rs60 n (a,b,())=st60_top n a b:=by kernel_rfl
noncomputable def p60 (n:Nat) (a:Lq) (b:Int):Option R60:=st60_top n a b
theorem F60_eq (n:Nat) (a:Lq) (b:Int):runF TT G60 an60 Try.f60 c60 ps60 rs60 n (a,b,())=p60 n a b:=by
 rw [e60_top]
 skip
 try rfl
noncomputable def q60 (n:Nat) (x:argsD ps60):Option R60:=p60 n x.1 x.2.1
noncomputable def Sm60:Sm:=⟨ps60,rs60,false,q60⟩
theorem holds60 (hg:GamOK Try.prog G60):Holds Try.prog 60 Sm60:=by
 have:=h0_60 hg
 have e:(runF TT G60 an60 Try.f60 c60 ps60 rs60)=q60:=by
  funext n x
  exact F60_eq n x.1 x.2.1
 rw [e] at this
 exact this
theorem gam60:GamOK Try.prog G60:=by
 intro f s h
 unfold G60 at h
 split at h
 ·injection h with h; subst h; exact ⟨⟨Try.f63,c63,Try.func63,by kernel_rfl,by decide +kernel⟩,hh63⟩
 ·injection h with h; subst h; exact ⟨⟨Try.f124,c124,Try.func124,by kernel_rfl,by decide +kernel⟩,hh124⟩
 ·cases h
theorem hh60:Holds Try.prog 60 Sm60:=holds60 gam60
end Go.Proofs.Ytdkaagpkeomhmaa.Rx.S

namespace Go.Proofs.Ytdkaagpkeomhmaa.Rx.S
open Go Go.RowKit Go.Proofs
set_option maxRecDepth 100000
noncomputable def c39:Code:=(Try.f39.body.getD .skip)
def an39:An:=⟨fun r=>match r with | 4=>⟨[0,1,5],[]⟩ | _=>⟨[],[]⟩,fun _ _=>none⟩
abbrev ps39:List PK:=[.val (.row 9 .str) false,.val (.row 9 .str) false]
abbrev rs39:List RK:=[.val .bool false]
abbrev R39:=retsD rs39 × outsD ps39
noncomputable def G39:Gam:=fun _=>none
theorem h0_39 (hg:GamOK Try.prog G39):Holds Try.prog 39 ⟨ps39,rs39,false,runF TT G39 an39 Try.f39 c39 ps39 rs39⟩:=holds_of tt_ok hg mixed Try.func39 (by kernel_rfl) (by rfl) (by decide +kernel)
noncomputable def at39:Nat→Pt→List Nat→St→Option R39:=atF TT G39 an39 Try.f39 c39 _ _
def sh39_L4 (x0 x1:Lb) (x2:Int):St:=(St.mk [AV.one (SV.con (⟨9,Ty.str,x0⟩:Rw)),AV.one (SV.con (⟨9,Ty.str,x1⟩:Rw)),Uu,Uu,Uu,AV.one (SV.int (Go.IntKind.i64) x2),Uu,Uu,Uu,Uu,Uu,Uu,Uu,Uu,Uu,Uu,Uu,Uu,Uu,Uu,Uu,Uu,Uu,Uu,Uu,Uu] [])
noncomputable def st39_top (n:Nat) (lL4:(Lb)→(Lb)→Int→Option R39) (a:Lb) (b:Lb):Option R39 :=
 cond (!decide ((↑a.length:Int)=(↑b.length:Int))) (some ((false,()),())) (lL4 (a) (b) ((0:Int)))
noncomputable def st39_L4 (n:Nat) (lL4:(Lb)→(Lb)→Int→Option R39) (x0 x1:Lb) (x2:Int):Option R39 :=
 cond (decide (x2 < (↑x0.length:Int))) (cond (decide ((0:Int)≤x2)) (cond (decide (x2 < (↑x0.length:Int))) (cond (decide ((0:Int)≤x2)) (cond (decide (x2 < (↑x1.length:Int))) (cond (!ByteArray.toList (x0.getD x2.toNat ByteArray.empty) == ByteArray.toList (x1.getD x2.toNat ByteArray.empty)) (some ((false,()),())) (lL4 (x0) (x1) (Go.IntKind.i64.wrap (x2 + (1:Int))))) (none)) (none)) (none)) (none)) (some ((true,()),()))
theorem e39_top (n:Nat) (a:Lb) (b:Lb):runF TT G39 an39 Try.f39 c39 ps39 rs39 n (a,b,())=st39_top n (fun x0 x1 x2=>at39 n (.head 4) [n] (sh39_L4 x0 x1 x2)) a b:=by kernel_rfl
theorem e39_L4_0 (n:Nat) (x0 x1:Lb) (x2:Int):at39 n (.head 4) [0] (sh39_L4 x0 x1 x2)=none:=by kernel_rfl
theorem e39_L4 (n:Nat) (m4:Nat) (x0 x1:Lb) (x2:Int):at39 n (.head 4) [m4 + 1] (sh39_L4 x0 x1 x2)=st39_L4 n (fun x0 x1 x2=>at39 n (.head 4) [m4] (sh39_L4 x0 x1 x2)) x0 x1 x2:=by kernel_rfl
noncomputable def p39_L4 (n:Nat):Nat→(Lb)→(Lb)→Int→Option R39
 | 0,_,_,_=>none
 | m + 1,x0,x1,x2=>st39_L4 n (p39_L4 n m) x0 x1 x2
noncomputable def p39 (n:Nat) (a:Lb) (b:Lb):Option R39:=st39_top n (p39_L4 n n) a b
theorem t39_L4 (n:Nat):∀ (m4:Nat) (x0 x1:Lb) (x2:Int),at39 n (.head 4) [m4] (sh39_L4 x0 x1 x2)=p39_L4 n m4 x0 x1 x2:=by
 intro m
 induction m with
 | zero=>intros; rw [e39_L4_0]; rfl
 | succ m ih =>
  intros
  rw [e39_L4]
  try simp only [ih]
  rfl
theorem F39_eq (n:Nat) (a:Lb) (b:Lb):runF TT G39 an39 Try.f39 c39 ps39 rs39 n (a,b,())=p39 n a b:=by
 rw [e39_top]
 simp only [t39_L4]
 try rfl
noncomputable def q39 (n:Nat) (x:argsD ps39):Option R39:=p39 n x.1 x.2.1
noncomputable def Sm39:Sm:=⟨ps39,rs39,false,q39⟩
theorem holds39 (hg:GamOK Try.prog G39):Holds Try.prog 39 Sm39:=by
 have:=h0_39 hg
 have e:(runF TT G39 an39 Try.f39 c39 ps39 rs39)=q39:=by
  funext n x
  exact F39_eq n x.1 x.2.1
 rw [e] at this
 exact this
theorem gam39:GamOK Try.prog G39:=fun _ _ h=>by cases h
theorem hh39:Holds Try.prog 39 Sm39:=holds39 gam39
end Go.Proofs.Ytdkaagpkeomhmaa.Rx.S

namespace Go.Proofs.Ytdkaagpkeomhmaa.Rx.S
open Go Go.RowKit Go.Proofs
set_option maxRecDepth 100000
noncomputable def c40:Code:=(Try.f40.body.getD .skip)
def an40:An:=⟨fun r=>match r with | 4=>⟨[0,1,5],[]⟩ | _=>⟨[],[]⟩,fun _ _=>none⟩
abbrev ps40:List PK:=[.val (.row 116 tAr) false,.val (.row 116 tAr) false]
abbrev rs40:List RK:=[.val .bool false]
abbrev R40:=retsD rs40 × outsD ps40
noncomputable def G40:Gam:=fun _=>none
theorem h0_40 (hg:GamOK Try.prog G40):Holds Try.prog 40 ⟨ps40,rs40,false,runF TT G40 an40 Try.f40 c40 ps40 rs40⟩:=holds_of tt_ok hg mixed Try.func40 (by kernel_rfl) (by rfl) (by decide +kernel)
noncomputable def at40:Nat→Pt→List Nat→St→Option R40:=atF TT G40 an40 Try.f40 c40 _ _
def sh40_L4 (x0 x1:Lq) (x2:Int):St:=(St.mk [AV.one (SV.con (⟨116,(Ty.int Go.IntKind.i64).pair ((Ty.int Go.IntKind.i64).pair (Ty.bool.pair Ty.bool)),x0⟩:Rw)),AV.one (SV.con (⟨116,(Ty.int Go.IntKind.i64).pair ((Ty.int Go.IntKind.i64).pair (Ty.bool.pair Ty.bool)),x1⟩:Rw)),Uu,Uu,Uu,AV.one (SV.int (Go.IntKind.i64) x2),Uu,Uu,Uu,Uu,Uu,Uu,Uu,Uu,Uu,Uu,Uu,Uu,Uu,Uu,Uu,Uu,Uu,Uu,Uu,Uu] [])
noncomputable def st40_top (n:Nat) (lL4:(Lq)→(Lq)→Int→Option R40) (a:Lq) (b:Lq):Option R40 :=
 cond (!decide ((↑a.length:Int)=(↑b.length:Int))) (some ((false,()),())) (lL4 (a) (b) ((0:Int)))
noncomputable def st40_L4 (n:Nat) (lL4:(Lq)→(Lq)→Int→Option R40) (x0 x1:Lq) (x2:Int):Option R40 :=
 cond (decide (x2 < (↑x0.length:Int))) (cond (decide ((0:Int)≤x2)) (cond (decide (x2 < (↑x0.length:Int))) (cond (decide ((0:Int)≤x2)) (cond (decide (x2 < (↑x1.length:Int))) (cond (!(decide ((x0.getD x2.toNat ((0:Int),(0:Int),false,false)).1=(x1.getD x2.toNat ((0:Int),(0:Int),false,false)).1)&&(decide ((x0.getD x2.toNat ((0:Int),(0:Int),false,false)).2.1=(x1.getD x2.toNat ((0:Int),(0:Int),false,false)).2.1)&&((x0.getD x2.toNat ((0:Int),(0:Int),false,false)).2.2.1 == (x1.getD x2.toNat ((0:Int),(0:Int),false,false)).2.2.1&&((x0.getD x2.toNat ((0:Int),(0:Int),false,false)).2.2.2 == (x1.getD x2.toNat ((0:Int),(0:Int),false,false)).2.2.2&&true))))) (some ((false,()),())) (lL4 (x0) (x1) (Go.IntKind.i64.wrap (x2 + (1:Int))))) (none)) (none)) (none)) (none)) (some ((true,()),()))
theorem e40_top (n:Nat) (a:Lq) (b:Lq):runF TT G40 an40 Try.f40 c40 ps40 rs40 n (a,b,())=st40_top n (fun x0 x1 x2=>at40 n (.head 4) [n] (sh40_L4 x0 x1 x2)) a b:=by kernel_rfl
theorem e40_L4_0 (n:Nat) (x0 x1:Lq) (x2:Int):at40 n (.head 4) [0] (sh40_L4 x0 x1 x2)=none:=by kernel_rfl
theorem e40_L4 (n:Nat) (m4:Nat) (x0 x1:Lq) (x2:Int):at40 n (.head 4) [m4 + 1] (sh40_L4 x0 x1 x2)=st40_L4 n (fun x0 x1 x2=>at40 n (.head 4) [m4] (sh40_L4 x0 x1 x2)) x0 x1 x2:=by kernel_rfl
noncomputable def p40_L4 (n:Nat):Nat→(Lq)→(Lq)→Int→Option R40
 | 0,_,_,_=>none
 | m + 1,x0,x1,x2=>st40_L4 n (p40_L4 n m) x0 x1 x2
noncomputable def p40 (n:Nat) (a:Lq) (b:Lq):Option R40:=st40_top n (p40_L4 n n) a b
theorem t40_L4 (n:Nat):∀ (m4:Nat) (x0 x1:Lq) (x2:Int),at40 n (.head 4) [m4] (sh40_L4 x0 x1 x2)=p40_L4 n m4 x0 x1 x2:=by
 intro m
 induction m with
 | zero=>intros; rw [e40_L4_0]; rfl
 | succ m ih =>
  intros
  rw [e40_L4]
  try simp only [ih]
  rfl
theorem F40_eq (n:Nat) (a:Lq) (b:Lq):runF TT G40 an40 Try.f40 c40 ps40 rs40 n (a,b,())=p40 n a b:=by
 rw [e40_top]
 simp only [t40_L4]
 try rfl
noncomputable def q40 (n:Nat) (x:argsD ps40):Option R40:=p40 n x.1 x.2.1
noncomputable def Sm40:Sm:=⟨ps40,rs40,false,q40⟩
theorem holds40 (hg:GamOK Try.prog G40):Holds Try.prog 40 Sm40:=by
 have:=h0_40 hg
 have e:(runF TT G40 an40 Try.f40 c40 ps40 rs40)=q40:=by
  funext n x
  exact F40_eq n x.1 x.2.1
 rw [e] at this
 exact this
theorem gam40:GamOK Try.prog G40:=fun _ _ h=>by cases h
theorem hh40:Holds Try.prog 40 Sm40:=holds40 gam40
end Go.Proofs.Ytdkaagpkeomhmaa.Rx.S

namespace Go.Proofs.Ytdkaagpkeomhmaa.Rx.S
open Go Go.RowKit Go.Proofs
set_option maxRecDepth 100000
noncomputable def c105:Code:=(Try.f105.body.getD .skip)
def an105:An:=⟨fun r=>match r with | 4=>⟨[0,1,5],[]⟩ | _=>⟨[],[]⟩,fun _ _=>none⟩
abbrev ps105:List PK:=[.val (.row 3 i64) false,.val (.row 3 i64) false]
abbrev rs105:List RK:=[.val .bool false]
abbrev R105:=retsD rs105 × outsD ps105
noncomputable def G105:Gam:=fun _=>none
theorem h0_105 (hg:GamOK Try.prog G105):Holds Try.prog 105 ⟨ps105,rs105,false,runF TT G105 an105 Try.f105 c105 ps105 rs105⟩:=holds_of tt_ok hg mixed Try.func105 (by kernel_rfl) (by rfl) (by decide +kernel)
noncomputable def at105:Nat→Pt→List Nat→St→Option R105:=atF TT G105 an105 Try.f105 c105 _ _
def sh105_L4 (x0 x1:List Int) (x2:Int):St:=(St.mk [AV.one (SV.con (⟨3,Ty.int Go.IntKind.i64,x0⟩:Rw)),AV.one (SV.con (⟨3,Ty.int Go.IntKind.i64,x1⟩:Rw)),Uu,Uu,Uu,AV.one (SV.int (Go.IntKind.i64) x2),Uu,Uu,Uu,Uu,Uu,Uu,Uu,Uu,Uu,Uu,Uu,Uu,Uu,Uu,Uu,Uu,Uu,Uu,Uu,Uu] [])
noncomputable def st105_top (n:Nat) (lL4:(List Int)→(List Int)→Int→Option R105) (a:List Int) (b:List Int):Option R105 :=
 cond (!decide ((↑a.length:Int)=(↑b.length:Int))) (some ((false,()),())) (lL4 (a) (b) ((0:Int)))
noncomputable def st105_L4 (n:Nat) (lL4:(List Int)→(List Int)→Int→Option R105) (x0 x1:List Int) (x2:Int):Option R105 :=
 cond (decide (x2 < (↑x0.length:Int))) (cond (decide ((0:Int)≤x2)) (cond (decide (x2 < (↑x0.length:Int))) (cond (decide ((0:Int)≤x2)) (cond (decide (x2 < (↑x1.length:Int))) (cond (!decide (x0.getD x2.toNat (0:Int)=x1.getD x2.toNat (0:Int))) (some ((false,()),())) (lL4 (x0) (x1) (Go.IntKind.i64.wrap (x2 + (1:Int))))) (none)) (none)) (none)) (none)) (some ((true,()),()))
theorem e105_top (n:Nat) (a:List Int) (b:List Int):runF TT G105 an105 Try.f105 c105 ps105 rs105 n (a,b,())=st105_top n (fun x0 x1 x2=>at105 n (.head 4) [n] (sh105_L4 x0 x1 x2)) a b:=by kernel_rfl
theorem e105_L4_0 (n:Nat) (x0 x1:List Int) (x2:Int):at105 n (.head 4) [0] (sh105_L4 x0 x1 x2)=none:=by kernel_rfl
theorem e105_L4 (n:Nat) (m4:Nat) (x0 x1:List Int) (x2:Int):at105 n (.head 4) [m4 + 1] (sh105_L4 x0 x1 x2)=st105_L4 n (fun x0 x1 x2=>at105 n (.head 4) [m4] (sh105_L4 x0 x1 x2)) x0 x1 x2:=by kernel_rfl
noncomputable def p105_L4 (n:Nat):Nat→(List Int)→(List Int)→Int→Option R105
 | 0,_,_,_=>none
 | m + 1,x0,x1,x2=>st105_L4 n (p105_L4 n m) x0 x1 x2
noncomputable def p105 (n:Nat) (a:List Int) (b:List Int):Option R105:=st105_top n (p105_L4 n n) a b
theorem t105_L4 (n:Nat):∀ (m4:Nat) (x0 x1:List Int) (x2:Int),at105 n (.head 4) [m4] (sh105_L4 x0 x1 x2)=p105_L4 n m4 x0 x1 x2:=by
 intro m
 induction m with
 | zero=>intros; rw [e105_L4_0]; rfl
 | succ m ih =>
  intros
  rw [e105_L4]
  try simp only [ih]
  rfl
theorem F105_eq (n:Nat) (a:List Int) (b:List Int):runF TT G105 an105 Try.f105 c105 ps105 rs105 n (a,b,())=p105 n a b:=by
 rw [e105_top]
 simp only [t105_L4]
 try rfl
noncomputable def q105 (n:Nat) (x:argsD ps105):Option R105:=p105 n x.1 x.2.1
noncomputable def Sm105:Sm:=⟨ps105,rs105,false,q105⟩
theorem holds105 (hg:GamOK Try.prog G105):Holds Try.prog 105 Sm105:=by
 have:=h0_105 hg
 have e:(runF TT G105 an105 Try.f105 c105 ps105 rs105)=q105:=by
  funext n x
  exact F105_eq n x.1 x.2.1
 rw [e] at this
 exact this
theorem gam105:GamOK Try.prog G105:=fun _ _ h=>by cases h
theorem hh105:Holds Try.prog 105 Sm105:=holds105 gam105
end Go.Proofs.Ytdkaagpkeomhmaa.Rx.S

namespace Go.Proofs.Ytdkaagpkeomhmaa.Rx.S
open Go Go.RowKit Go.Proofs
set_option maxRecDepth 100000
noncomputable def c38:Code:=(Try.f38.body.getD .skip)
def an38:An:=⟨fun r=>match r with | 4=>⟨[2,3,5],[]⟩ | _=>⟨[],[]⟩,fun _ _=>none⟩
abbrev ps38:List PK:=[.val tVi true,.val tVi true]
abbrev rs38:List RK:=[.val .bool false]
abbrev R38:=retsD rs38 × outsD ps38
noncomputable def G38:Gam:=fun f=>match f with | 39=>some Sm39 | 40=>some Sm40 | 105=>some Sm105 | _=>none
theorem h0_38 (hg:GamOK Try.prog G38):Holds Try.prog 38 ⟨ps38,rs38,false,runF TT G38 an38 Try.f38 c38 ps38 rs38⟩:=holds_of tt_ok hg mixed Try.func38 (by kernel_rfl) (by rfl) (by decide +kernel)
noncomputable def at38:Nat→Pt→List Nat→St→Option R38:=atF TT G38 an38 Try.f38 c38 _ _
def sh38_L4 (x0:Int) (x1 x2:List (Bool × Lq × List Int × Lb)):St:=(St.mk [Uu,Uu,AV.one (SV.bptr 1000000 0),AV.one (SV.bptr 1000001 0),Uu,AV.one (SV.int (Go.IntKind.i64) x0),Uu,Uu,Uu,Uu,Uu,Uu,Uu,Uu,Uu,Uu,Uu,Uu,Uu,Uu,Uu,Uu,Uu,Uu,Uu,Uu,Uu,Uu,Uu,Uu,Uu,Uu,Uu,Uu,Uu,Uu,Uu,Uu,Uu,Uu,Uu,Uu,Uu,Uu,Uu,Uu,Uu,Uu,Uu,Uu,Uu,Uu,Uu,Uu,Uu,Uu,Uu,Uu,Uu,Uu,Uu] ((1000000,(Ent.box ((SV.con (⟨75,Ty.bool.pair ((Ty.row (nat_lit 116) ((Ty.int Go.IntKind.i64).pair ((Ty.int Go.IntKind.i64).pair (Ty.bool.pair Ty.bool)))).pair ((Ty.row (nat_lit 3) (Ty.int Go.IntKind.i64)).pair (Ty.row (nat_lit 9) Ty.str))),x1⟩:Rw)) :: []))) :: ((1000001,(Ent.box ((SV.con (⟨75,Ty.bool.pair ((Ty.row (nat_lit 116) ((Ty.int Go.IntKind.i64).pair ((Ty.int Go.IntKind.i64).pair (Ty.bool.pair Ty.bool)))).pair ((Ty.row (nat_lit 3) (Ty.int Go.IntKind.i64)).pair (Ty.row (nat_lit 9) Ty.str))),x2⟩:Rw)) :: []))) :: [])))
noncomputable def st38_top (n:Nat) (lL4:Int→(List (Bool × Lq × List Int × Lb))→(List (Bool × Lq × List Int × Lb))→Option R38) (a:List (Bool × Lq × List Int × Lb)) (b:List (Bool × Lq × List Int × Lb)):Option R38 :=
 cond (!decide ((↑a.length:Int)=(↑b.length:Int))) (some ((false,()),())) (lL4 ((0:Int)) (a) (b))
noncomputable def st38_L4 (n:Nat) (lL4:Int→(List (Bool × Lq × List Int × Lb))→(List (Bool × Lq × List Int × Lb))→Option R38) (x0:Int) (x1 x2:List (Bool × Lq × List Int × Lb)):Option R38 :=
 cond (decide (x0 < (↑x1.length:Int))) (cond (decide ((0:Int)≤x0)) (cond (decide (x0 < (↑x1.length:Int))) (cond (decide ((0:Int)≤x0)) (cond (decide (x0 < (↑x2.length:Int))) (cond (!(x1.getD x0.toNat (false,[],[],[])).1 == (x2.getD x0.toNat (false,[],[],[])).1) (some ((false,()),())) ((q40 n ((x1.getD x0.toNat (false,[],[],[])).2.1,(x2.getD x0.toNat (false,[],[],[])).2.1,())).bind fun r1=>cond (!r1.1.1) (some ((false,()),())) ((q105 n ((x1.getD x0.toNat (false,[],[],[])).2.2.1,(x2.getD x0.toNat (false,[],[],[])).2.2.1,())).bind fun r2=>cond (!r2.1.1) (some ((false,()),())) ((q39 n ((x1.getD x0.toNat (false,[],[],[])).2.2.2,(x2.getD x0.toNat (false,[],[],[])).2.2.2,())).bind fun r3=>cond (!r3.1.1) (some ((false,()),())) (lL4 (Go.IntKind.i64.wrap (x0 + (1:Int))) (x1) (x2)))))) (none)) (none)) (none)) (none)) (some ((true,()),()))
theorem e38_top (n:Nat) (a:List (Bool × Lq × List Int × Lb)) (b:List (Bool × Lq × List Int × Lb)):runF TT G38 an38 Try.f38 c38 ps38 rs38 n (a,b,())=st38_top n (fun x0 x1 x2=>at38 n (.head 4) [n] (sh38_L4 x0 x1 x2)) a b:=by kernel_rfl
theorem e38_L4_0 (n:Nat) (x0:Int) (x1 x2:List (Bool × Lq × List Int × Lb)):at38 n (.head 4) [0] (sh38_L4 x0 x1 x2)=none:=by kernel_rfl
theorem e38_L4 (n:Nat) (m4:Nat) (x0:Int) (x1 x2:List (Bool × Lq × List Int × Lb)):at38 n (.head 4) [m4 + 1] (sh38_L4 x0 x1 x2)=st38_L4 n (fun x0 x1 x2=>at38 n (.head 4) [m4] (sh38_L4 x0 x1 x2)) x0 x1 x2:=by kernel_rfl
noncomputable def p38_L4 (n:Nat):Nat→Int→(List (Bool × Lq × List Int × Lb))→(List (Bool × Lq × List Int × Lb))→Option R38
 | 0,_,_,_=>none
 | m + 1,x0,x1,x2=>st38_L4 n (p38_L4 n m) x0 x1 x2
noncomputable def p38 (n:Nat) (a:List (Bool × Lq × List Int × Lb)) (b:List (Bool × Lq × List Int × Lb)):Option R38:=st38_top n (p38_L4 n n) a b
theorem t38_L4 (n:Nat):∀ (m4:Nat) (x0:Int) (x1 x2:List (Bool × Lq × List Int × Lb)),at38 n (.head 4) [m4] (sh38_L4 x0 x1 x2)=p38_L4 n m4 x0 x1 x2:=by
 intro m
 induction m with
 | zero=>intros; rw [e38_L4_0]; rfl
 | succ m ih =>
  intros
  rw [e38_L4]
  try simp only [ih]
  rfl
theorem F38_eq (n:Nat) (a:List (Bool × Lq × List Int × Lb)) (b:List (Bool × Lq × List Int × Lb)):runF TT G38 an38 Try.f38 c38 ps38 rs38 n (a,b,())=p38 n a b:=by
 rw [e38_top]
 simp only [t38_L4]
 try rfl
noncomputable def q38 (n:Nat) (x:argsD ps38):Option R38:=p38 n x.1 x.2.1
noncomputable def Sm38:Sm:=⟨ps38,rs38,false,q38⟩
theorem holds38 (hg:GamOK Try.prog G38):Holds Try.prog 38 Sm38:=by
 have:=h0_38 hg
 have e:(runF TT G38 an38 Try.f38 c38 ps38 rs38)=q38:=by
  funext n x
  exact F38_eq n x.1 x.2.1
 rw [e] at this
 exact this
theorem gam38:GamOK Try.prog G38:=by
 intro f s h
 unfold G38 at h
 split at h
 ·injection h with h; subst h; exact ⟨⟨Try.f39,c39,Try.func39,by kernel_rfl,by decide +kernel⟩,hh39⟩
 ·injection h with h; subst h; exact ⟨⟨Try.f40,c40,Try.func40,by kernel_rfl,by decide +kernel⟩,hh40⟩
 ·injection h with h; subst h; exact ⟨⟨Try.f105,c105,Try.func105,by kernel_rfl,by decide +kernel⟩,hh105⟩
 ·cases h
theorem hh38:Holds Try.prog 38 Sm38:=holds38 gam38
end Go.Proofs.Ytdkaagpkeomhmaa.Rx.S

namespace Go.Proofs.Ytdkaagpkeomhmaa.Rx.S
open Go Go.RowKit Go.Proofs
set_option maxRecDepth 100000
noncomputable def c83:Code:=(Try.f83.body.getD .skip)
def an83:An:=⟨fun r=>match r with | 2=>⟨[1,2,3,6,7],[]⟩ | 5=>⟨[1,2,3,6,7,8],[]⟩ | _=>⟨[],[]⟩,fun _ _=>none⟩
abbrev ps83:List PK:=[.own tVi true,.val i64 false,.val i64 false]
abbrev rs83:List RK:=[.own tVi true]
abbrev R83:=retsD rs83 × outsD ps83
noncomputable def G83:Gam:=fun _=>none
theorem h0_83 (hg:GamOK Try.prog G83):Holds Try.prog 83 ⟨ps83,rs83,false,runF TT G83 an83 Try.f83 c83 ps83 rs83⟩:=holds_of tt_ok hg mixed Try.func83 (by kernel_rfl) (by rfl) (by decide +kernel)
noncomputable def at83:Nat→Pt→List Nat→St→Option R83:=atF TT G83 an83 Try.f83 c83 _ _
def sh83_L5 (x0 x1 x2 x3:Int) (x4:List (Bool × Lq × List Int × Lb)):St:=(St.mk [Uu,AV.one (SV.int (Go.IntKind.i64) x0),AV.one (SV.int (Go.IntKind.i64) x1),AV.one (SV.bptr 1000000 0),Uu,Uu,AV.one (SV.bptr 1000001 0),AV.one (SV.int (Go.IntKind.i64) x2),AV.one (SV.int (Go.IntKind.i64) x3),Uu,Uu,Uu,Uu,Uu,Uu,Uu,Uu,Uu,Uu,Uu,Uu,Uu,Uu,Uu,Uu,Uu,Uu,Uu,Uu,Uu,Uu,Uu,Uu,Uu,Uu,Uu,Uu,Uu,Uu,Uu,Uu,Uu,Uu,Uu,Uu,Uu,Uu,Uu] ((1000000,(Ent.box ((SV.ref 1000002 0 [] Option.none) :: []))) :: ((1000001,(Ent.box (SV.nil :: []))) :: ((1000002,(Ent.row (⟨75,Ty.bool.pair ((Ty.row (nat_lit 116) ((Ty.int Go.IntKind.i64).pair ((Ty.int Go.IntKind.i64).pair (Ty.bool.pair Ty.bool)))).pair ((Ty.row (nat_lit 3) (Ty.int Go.IntKind.i64)).pair (Ty.row (nat_lit 9) Ty.str))),x4⟩:Rw) 0 Option.none)) :: []))))
def sh83_L2 (x0 x1 x2:Int) (x3:List (Bool × Lq × List Int × Lb)):St:=(St.mk [Uu,AV.one (SV.int (Go.IntKind.i64) x0),AV.one (SV.int (Go.IntKind.i64) x1),AV.one (SV.bptr 1000000 0),Uu,Uu,AV.one (SV.bptr 1000001 0),AV.one (SV.int (Go.IntKind.i64) x2),Uu,Uu,Uu,Uu,Uu,Uu,Uu,Uu,Uu,Uu,Uu,Uu,Uu,Uu,Uu,Uu,Uu,Uu,Uu,Uu,Uu,Uu,Uu,Uu,Uu,Uu,Uu,Uu,Uu,Uu,Uu,Uu,Uu,Uu,Uu,Uu,Uu,Uu,Uu,Uu] ((1000000,(Ent.box ((SV.ref 1000002 0 [] Option.none) :: []))) :: ((1000001,(Ent.box (SV.nil :: []))) :: ((1000002,(Ent.row (⟨75,Ty.bool.pair ((Ty.row (nat_lit 116) ((Ty.int Go.IntKind.i64).pair ((Ty.int Go.IntKind.i64).pair (Ty.bool.pair Ty.bool)))).pair ((Ty.row (nat_lit 3) (Ty.int Go.IntKind.i64)).pair (Ty.row (nat_lit 9) Ty.str))),x3⟩:Rw) 0 Option.none)) :: []))))
noncomputable def st83_top (n:Nat) (lL2:Int→Int→Int→(List (Bool × Lq × List Int × Lb))→Option R83) (a:List (Bool × Lq × List Int × Lb)) (b:Int) (c:Int):Option R83 :=
 lL2 (b) (c) ((0:Int)) (a)
noncomputable def st83_L5 (n:Nat) (lL5:Int→Int→Int→Int→(List (Bool × Lq × List Int × Lb))→Option R83) (lL2:Int→Int→Int→(List (Bool × Lq × List Int × Lb))→Option R83) (x0 x1 x2 x3:Int) (x4:List (Bool × Lq × List Int × Lb)):Option R83 :=
 cond (decide ((0:Int)≤x2)) (cond (decide (x2 < (↑x4.length:Int))) (cond (decide (x3 < (↑(List.length (x4.getD x2.toNat (false,[],[],[])).2.2.1):Int))) (cond (decide ((0:Int)≤x2)) (cond (decide (x2 < (↑x4.length:Int))) (cond (decide ((0:Int)≤x3)) (cond (decide (x3 < (↑(List.length (x4.getD x2.toNat (false,[],[],[])).2.2.1):Int))) (cond (decide (List.getD (x4.getD x2.toNat (false,[],[],[])).2.2.1 x3.toNat (0:Int)=x0)) (cond (decide ((0:Int)≤x2)) (cond (decide (x2 < (↑x4.length:Int))) (cond (decide ((0:Int)≤x3)) (cond (decide (x3 < (↑(List.length (x4.getD x2.toNat (false,[],[],[])).2.2.1):Int))) (lL5 (x0) (x1) (x2) (Go.IntKind.i64.wrap (x3 + (1:Int))) (x4.set x2.toNat ((x4.getD x2.toNat (false,[],[],[])).1,(x4.getD x2.toNat (false,[],[],[])).2.1,List.set (x4.getD x2.toNat (false,[],[],[])).2.2.1 x3.toNat x1,(x4.getD x2.toNat (false,[],[],[])).2.2.2))) (none)) (none)) (none)) (none)) (lL5 (x0) (x1) (x2) (Go.IntKind.i64.wrap (x3 + (1:Int))) (x4))) (none)) (none)) (none)) (none)) (lL2 (x0) (x1) (Go.IntKind.i64.wrap (x2 + (1:Int))) (x4))) (none)) (none)
noncomputable def st83_L2 (n:Nat) (lL5:Int→Int→Int→Int→(List (Bool × Lq × List Int × Lb))→Option R83) (x0 x1 x2:Int) (x3:List (Bool × Lq × List Int × Lb)):Option R83 :=
 cond (decide (x2 < (↑x3.length:Int))) (lL5 (x0) (x1) (x2) ((0:Int)) (x3)) (some ((x3,()),()))
theorem e83_top (n:Nat) (a:List (Bool × Lq × List Int × Lb)) (b:Int) (c:Int):runF TT G83 an83 Try.f83 c83 ps83 rs83 n (a,b,c,())=st83_top n (fun x0 x1 x2 x3=>at83 n (.head 2) [n] (sh83_L2 x0 x1 x2 x3)) a b c:=by kernel_rfl
theorem e83_L5_0 (n:Nat) (m2:Nat) (x0 x1 x2 x3:Int) (x4:List (Bool × Lq × List Int × Lb)):at83 n (.head 5) [m2,0] (sh83_L5 x0 x1 x2 x3 x4)=none:=by kernel_rfl
theorem e83_L5 (n:Nat) (m2:Nat) (m5:Nat) (x0 x1 x2 x3:Int) (x4:List (Bool × Lq × List Int × Lb)):at83 n (.head 5) [m2,m5 + 1] (sh83_L5 x0 x1 x2 x3 x4)=st83_L5 n (fun x0 x1 x2 x3 x4=>at83 n (.head 5) [m2,m5] (sh83_L5 x0 x1 x2 x3 x4)) (fun x0 x1 x2 x3=>at83 n (.head 2) [m2] (sh83_L2 x0 x1 x2 x3)) x0 x1 x2 x3 x4:=by kernel_rfl
theorem e83_L2_0 (n:Nat) (x0 x1 x2:Int) (x3:List (Bool × Lq × List Int × Lb)):at83 n (.head 2) [0] (sh83_L2 x0 x1 x2 x3)=none:=by kernel_rfl
theorem e83_L2 (n:Nat) (m2:Nat) (x0 x1 x2:Int) (x3:List (Bool × Lq × List Int × Lb)):at83 n (.head 2) [m2 + 1] (sh83_L2 x0 x1 x2 x3)=st83_L2 n (fun x0 x1 x2 x3 x4=>at83 n (.head 5) [m2,n] (sh83_L5 x0 x1 x2 x3 x4)) x0 x1 x2 x3:=by kernel_rfl
noncomputable def p83_L5 (g2:Int→Int→Int→(List (Bool × Lq × List Int × Lb))→Option R83) (n:Nat):Nat→Int→Int→Int→Int→(List (Bool × Lq × List Int × Lb))→Option R83
 | 0,_,_,_,_,_=>none
 | m + 1,x0,x1,x2,x3,x4=>st83_L5 n (p83_L5 g2 n m) g2 x0 x1 x2 x3 x4
noncomputable def p83_L2 (n:Nat):Nat→Int→Int→Int→(List (Bool × Lq × List Int × Lb))→Option R83
 | 0,_,_,_,_=>none
 | m + 1,x0,x1,x2,x3=>st83_L2 n (p83_L5 (p83_L2 n m) n n) x0 x1 x2 x3
noncomputable def p83 (n:Nat) (a:List (Bool × Lq × List Int × Lb)) (b:Int) (c:Int):Option R83:=st83_top n (p83_L2 n n) a b c
theorem t83_L5 (n:Nat) (m2:Nat):∀ (m5:Nat) (x0 x1 x2 x3:Int) (x4:List (Bool × Lq × List Int × Lb)),at83 n (.head 5) [m2,m5] (sh83_L5 x0 x1 x2 x3 x4)=p83_L5 (fun x0 x1 x2 x3=>at83 n (.head 2) [m2] (sh83_L2 x0 x1 x2 x3)) n m5 x0 x1 x2 x3 x4:=by
 intro m
 induction m with
 | zero=>intros; rw [e83_L5_0]; rfl
 | succ m ih =>
  intros
  rw [e83_L5]
  try simp only [ih]
  rfl
theorem t83_L2 (n:Nat):∀ (m2:Nat) (x0 x1 x2:Int) (x3:List (Bool × Lq × List Int × Lb)),at83 n (.head 2) [m2] (sh83_L2 x0 x1 x2 x3)=p83_L2 n m2 x0 x1 x2 x3:=by
 intro m
 induction m with
 | zero=>intros; rw [e83_L2_0]; rfl
 | succ m ih =>
  intros
  rw [e83_L2]
  try simp only [t83_L5,ih]
  rfl
theorem F83_eq (n:Nat) (a:List (Bool × Lq × List Int × Lb)) (b:Int) (c:Int):runF TT G83 an83 Try.f83 c83 ps83 rs83 n (a,b,c,())=p83 n a b c:=by
 rw [e83_top]
 simp only [t83_L2]
 try rfl
noncomputable def q83 (n:Nat) (x:argsD ps83):Option R83:=p83 n x.1 x.2.1 x.2.2.1
noncomputable def Sm83:Sm:=⟨ps83,rs83,false,q83⟩
theorem holds83 (hg:GamOK Try.prog G83):Holds Try.prog 83 Sm83:=by
 have:=h0_83 hg
 have e:(runF TT G83 an83 Try.f83 c83 ps83 rs83)=q83:=by
  funext n x
  exact F83_eq n x.1 x.2.1 x.2.2.1
 rw [e] at this
 exact this
theorem gam83:GamOK Try.prog G83:=fun _ _ h=>by cases h
theorem hh83:Holds Try.prog 83 Sm83:=holds83 gam83
end Go.Proofs.Ytdkaagpkeomhmaa.Rx.S

namespace Go.Proofs.Ytdkaagpkeomhmaa.Rx.S
open Go Go.RowKit Go.Proofs
set_option maxRecDepth 100000
noncomputable def c25:Code:=(Try.f25.body.getD .skip)
def an25:An:=⟨fun r=>match r with | 3=>⟨[1,2,4,6,7],[]⟩ | 11=>⟨[1,2,4,6,8,9],[]⟩ | 19=>⟨[4,6,8,12],[]⟩ | 22=>⟨[4,6,8,12,13],[]⟩ | _=>⟨[],[]⟩,fun _ _=>none⟩
abbrev ps25:List PK:=[.val tVi true,.val i64 false]
abbrev rs25:List RK:=[.own tVi true,.val .bool false]
abbrev R25:=retsD rs25 × outsD ps25
noncomputable def G25:Gam:=fun f=>match f with | 67=>some Sm67 | 70=>some Sm70 | 71=>some Sm71 | 82=>some Sm82 | 83=>some Sm83 | _=>none
theorem h0_25 (hg:GamOK Try.prog G25):Holds Try.prog 25 ⟨ps25,rs25,false,runF TT G25 an25 Try.f25 c25 ps25 rs25⟩:=holds_of tt_ok hg mixed Try.func25 (by kernel_rfl) (by rfl) (by decide +kernel)
noncomputable def at25:Nat→Pt→List Nat→St→Option R25:=atF TT G25 an25 Try.f25 c25 _ _
def sh25_L22 (x0 x1 x2:Int) (x3:List (Bool × Lq × List Int × Lb)):St:=(St.mk [Uu,Uu,Uu,Uu,AV.one (SV.bptr 1000000 0),Uu,AV.one (SV.int (Go.IntKind.i64) x0),Uu,AV.one (SV.bptr 1000001 0),Uu,Uu,Uu,AV.one (SV.int (Go.IntKind.i64) x1),AV.one (SV.int (Go.IntKind.i64) x2),Uu,Uu,Uu,Uu,Uu,Uu,Uu,Uu,Uu,Uu,Uu,Uu,Uu,Uu,Uu,Uu,Uu,Uu,Uu,Uu,Uu,Uu,Uu,Uu,Uu,Uu,Uu,Uu,Uu,Uu,Uu,Uu,Uu,Uu,Uu,Uu,Uu,Uu,Uu,Uu,Uu,Uu,Uu,Uu,Uu,Uu,Uu,Uu,Uu,Uu,Uu,Uu,Uu,Uu,Uu,Uu,Uu,Uu,Uu,Uu,Uu,Uu,Uu,Uu,Uu,Uu,Uu,Uu,Uu,Uu,Uu,Uu,Uu,Uu,Uu,Uu,Uu,Uu,Uu,Uu,Uu,Uu,Uu,Uu,Uu,Uu,Uu,Uu,Uu,Uu,Uu,Uu,Uu,Uu,Uu,Uu,Uu,Uu,Uu,Uu,Uu,Uu,Uu,Uu,Uu,Uu,Uu,Uu,Uu,Uu,Uu,Uu,Uu,Uu,Uu,Uu,Uu,Uu,Uu,Uu,Uu,Uu,Uu,Uu,Uu,Uu,Uu,Uu,Uu,Uu,Uu,Uu,Uu,Uu,Uu,Uu,Uu,Uu,Uu,Uu,Uu,Uu,Uu,Uu,Uu,Uu,Uu,Uu,Uu,Uu,Uu,Uu,Uu,Uu,Uu,Uu,Uu] ((1000000,(Ent.box (SV.nil :: []))) :: ((1000001,(Ent.box ((SV.ref 1000002 0 [] Option.none) :: []))) :: ((1000002,(Ent.row (⟨75,Ty.bool.pair ((Ty.row (nat_lit 116) ((Ty.int Go.IntKind.i64).pair ((Ty.int Go.IntKind.i64).pair (Ty.bool.pair Ty.bool)))).pair ((Ty.row (nat_lit 3) (Ty.int Go.IntKind.i64)).pair (Ty.row (nat_lit 9) Ty.str))),x3⟩:Rw) 0 Option.none)) :: []))))
def sh25_L19 (x0 x1:Int) (x2:List (Bool × Lq × List Int × Lb)):St:=(St.mk [Uu,Uu,Uu,Uu,AV.one (SV.bptr 1000000 0),Uu,AV.one (SV.int (Go.IntKind.i64) x0),Uu,AV.one (SV.bptr 1000001 0),Uu,Uu,Uu,AV.one (SV.int (Go.IntKind.i64) x1),Uu,Uu,Uu,Uu,Uu,Uu,Uu,Uu,Uu,Uu,Uu,Uu,Uu,Uu,Uu,Uu,Uu,Uu,Uu,Uu,Uu,Uu,Uu,Uu,Uu,Uu,Uu,Uu,Uu,Uu,Uu,Uu,Uu,Uu,Uu,Uu,Uu,Uu,Uu,Uu,Uu,Uu,Uu,Uu,Uu,Uu,Uu,Uu,Uu,Uu,Uu,Uu,Uu,Uu,Uu,Uu,Uu,Uu,Uu,Uu,Uu,Uu,Uu,Uu,Uu,Uu,Uu,Uu,Uu,Uu,Uu,Uu,Uu,Uu,Uu,Uu,Uu,Uu,Uu,Uu,Uu,Uu,Uu,Uu,Uu,Uu,Uu,Uu,Uu,Uu,Uu,Uu,Uu,Uu,Uu,Uu,Uu,Uu,Uu,Uu,Uu,Uu,Uu,Uu,Uu,Uu,Uu,Uu,Uu,Uu,Uu,Uu,Uu,Uu,Uu,Uu,Uu,Uu,Uu,Uu,Uu,Uu,Uu,Uu,Uu,Uu,Uu,Uu,Uu,Uu,Uu,Uu,Uu,Uu,Uu,Uu,Uu,Uu,Uu,Uu,Uu,Uu,Uu,Uu,Uu,Uu,Uu,Uu,Uu,Uu,Uu,Uu,Uu,Uu,Uu,Uu,Uu,Uu] ((1000000,(Ent.box (SV.nil :: []))) :: ((1000001,(Ent.box ((SV.ref 1000002 0 [] Option.none) :: []))) :: ((1000002,(Ent.row (⟨75,Ty.bool.pair ((Ty.row (nat_lit 116) ((Ty.int Go.IntKind.i64).pair ((Ty.int Go.IntKind.i64).pair (Ty.bool.pair Ty.bool)))).pair ((Ty.row (nat_lit 3) (Ty.int Go.IntKind.i64)).pair (Ty.row (nat_lit 9) Ty.str))),x2⟩:Rw) 0 Option.none)) :: []))))
def sh25_L11 (x0 x1 x2:Int) (x3 x4:List (Bool × Lq × List Int × Lb)):St:=(St.mk [Uu,AV.one (SV.int (Go.IntKind.i64) x0),AV.one (SV.bptr 1000000 0),Uu,AV.one (SV.bptr 1000001 0),Uu,AV.one (SV.int (Go.IntKind.i64) x1),Uu,AV.one (SV.bptr 1000002 0),AV.one (SV.int (Go.IntKind.i64) x2),Uu,Uu,Uu,Uu,Uu,Uu,Uu,Uu,Uu,Uu,Uu,Uu,Uu,Uu,Uu,Uu,Uu,Uu,Uu,Uu,Uu,Uu,Uu,Uu,Uu,Uu,Uu,Uu,Uu,Uu,Uu,Uu,Uu,Uu,Uu,Uu,Uu,Uu,Uu,Uu,Uu,Uu,Uu,Uu,Uu,Uu,Uu,Uu,Uu,Uu,Uu,Uu,Uu,Uu,Uu,Uu,Uu,Uu,Uu,Uu,Uu,Uu,Uu,Uu,Uu,Uu,Uu,Uu,Uu,Uu,Uu,Uu,Uu,Uu,Uu,Uu,Uu,Uu,Uu,Uu,Uu,Uu,Uu,Uu,Uu,Uu,Uu,Uu,Uu,Uu,Uu,Uu,Uu,Uu,Uu,Uu,Uu,Uu,Uu,Uu,Uu,Uu,Uu,Uu,Uu,Uu,Uu,Uu,Uu,Uu,Uu,Uu,Uu,Uu,Uu,Uu,Uu,Uu,Uu,Uu,Uu,Uu,Uu,Uu,Uu,Uu,Uu,Uu,Uu,Uu,Uu,Uu,Uu,Uu,Uu,Uu,Uu,Uu,Uu,Uu,Uu,Uu,Uu,Uu,Uu,Uu,Uu,Uu,Uu,Uu,Uu,Uu,Uu,Uu,Uu,Uu,Uu,Uu,Uu,Uu,Uu] ((1000000,(Ent.box ((SV.con (⟨75,Ty.bool.pair ((Ty.row (nat_lit 116) ((Ty.int Go.IntKind.i64).pair ((Ty.int Go.IntKind.i64).pair (Ty.bool.pair Ty.bool)))).pair ((Ty.row (nat_lit 3) (Ty.int Go.IntKind.i64)).pair (Ty.row (nat_lit 9) Ty.str))),x3⟩:Rw)) :: []))) :: ((1000001,(Ent.box (SV.nil :: []))) :: ((1000002,(Ent.box ((SV.ref 1000003 0 [] Option.none) :: []))) :: ((1000003,(Ent.row (⟨75,Ty.bool.pair ((Ty.row (nat_lit 116) ((Ty.int Go.IntKind.i64).pair ((Ty.int Go.IntKind.i64).pair (Ty.bool.pair Ty.bool)))).pair ((Ty.row (nat_lit 3) (Ty.int Go.IntKind.i64)).pair (Ty.row (nat_lit 9) Ty.str))),x4⟩:Rw) 0 Option.none)) :: [])))))
def sh25_L3 (x0 x1 x2:Int) (x3:List (Bool × Lq × List Int × Lb)):St:=(St.mk [Uu,AV.one (SV.int (Go.IntKind.i64) x0),AV.one (SV.bptr 1000000 0),Uu,AV.one (SV.bptr 1000001 0),Uu,AV.one (SV.int (Go.IntKind.i64) x1),AV.one (SV.int (Go.IntKind.i64) x2),Uu,Uu,Uu,Uu,Uu,Uu,Uu,Uu,Uu,Uu,Uu,Uu,Uu,Uu,Uu,Uu,Uu,Uu,Uu,Uu,Uu,Uu,Uu,Uu,Uu,Uu,Uu,Uu,Uu,Uu,Uu,Uu,Uu,Uu,Uu,Uu,Uu,Uu,Uu,Uu,Uu,Uu,Uu,Uu,Uu,Uu,Uu,Uu,Uu,Uu,Uu,Uu,Uu,Uu,Uu,Uu,Uu,Uu,Uu,Uu,Uu,Uu,Uu,Uu,Uu,Uu,Uu,Uu,Uu,Uu,Uu,Uu,Uu,Uu,Uu,Uu,Uu,Uu,Uu,Uu,Uu,Uu,Uu,Uu,Uu,Uu,Uu,Uu,Uu,Uu,Uu,Uu,Uu,Uu,Uu,Uu,Uu,Uu,Uu,Uu,Uu,Uu,Uu,Uu,Uu,Uu,Uu,Uu,Uu,Uu,Uu,Uu,Uu,Uu,Uu,Uu,Uu,Uu,Uu,Uu,Uu,Uu,Uu,Uu,Uu,Uu,Uu,Uu,Uu,Uu,Uu,Uu,Uu,Uu,Uu,Uu,Uu,Uu,Uu,Uu,Uu,Uu,Uu,Uu,Uu,Uu,Uu,Uu,Uu,Uu,Uu,Uu,Uu,Uu,Uu,Uu,Uu,Uu,Uu,Uu,Uu,Uu,Uu] ((1000000,(Ent.box ((SV.con (⟨75,Ty.bool.pair ((Ty.row (nat_lit 116) ((Ty.int Go.IntKind.i64).pair ((Ty.int Go.IntKind.i64).pair (Ty.bool.pair Ty.bool)))).pair ((Ty.row (nat_lit 3) (Ty.int Go.IntKind.i64)).pair (Ty.row (nat_lit 9) Ty.str))),x3⟩:Rw)) :: []))) :: ((1000001,(Ent.box (SV.nil :: []))) :: [])))
noncomputable def st25_top (n:Nat) (lL3:Int→Int→Int→(List (Bool × Lq × List Int × Lb))→Option R25) (a:List (Bool × Lq × List Int × Lb)) (b:Int):Option R25 :=
 lL3 (b) ((-1:Int)) (Go.IntKind.i64.wrap ((↑a.length:Int) - (1:Int))) (a)
noncomputable def st25_L22 (n:Nat) (lL22:Int→Int→Int→(List (Bool × Lq × List Int × Lb))→Option R25) (lL19:Int→Int→(List (Bool × Lq × List Int × Lb))→Option R25) (x0 x1 x2:Int) (x3:List (Bool × Lq × List Int × Lb)):Option R25 :=
 cond (decide ((0:Int)≤x1)) (cond (decide (x1 < (↑x3.length:Int))) (cond (decide (x2 < (↑(List.length (x3.getD x1.toNat (false,[],[],[])).2.2.1):Int))) (cond (decide ((0:Int)≤x1)) (cond (decide (x1 < (↑x3.length:Int))) (cond (decide ((0:Int)≤x2)) (cond (decide (x2 < (↑(List.length (x3.getD x1.toNat (false,[],[],[])).2.2.1):Int))) (cond (!decide (List.getD (x3.getD x1.toNat (false,[],[],[])).2.2.1 x2.toNat (0:Int)=(0:Int))) ((q82 n (x0,x2,())).bind fun r8=>cond (decide (r8.1.1 < List.getD (x3.getD x1.toNat (false,[],[],[])).2.2.1 x2.toNat (0:Int))) (cond (decide ((0:Int)≤x0)) (cond (decide (x0 < (↑x3.length:Int))) (cond (decide ((0:Int)≤x2)) (cond (decide (x2 < (↑(List.length (x3.getD x0.toNat (false,[],[],[])).2.2.1):Int))) (cond (decide (List.getD (x3.getD x0.toNat (false,[],[],[])).2.2.1 x2.toNat (0:Int)=List.getD (x3.getD x1.toNat (false,[],[],[])).2.2.1 x2.toNat (0:Int))) ((q82 n (x0,x2,())).bind fun r9=>(q83 n (x3,List.getD (x3.getD x1.toNat (false,[],[],[])).2.2.1 x2.toNat (0:Int),r9.1.1,())).bind fun r10=>lL22 (x0) (x1) (Go.IntKind.i64.wrap (x2 + (1:Int))) (r10.1.1)) (lL22 (x0) (x1) (Go.IntKind.i64.wrap (x2 + (1:Int))) (x3))) (none)) (none)) (none)) (none)) (lL22 (x0) (x1) (Go.IntKind.i64.wrap (x2 + (1:Int))) (x3))) (lL22 (x0) (x1) (Go.IntKind.i64.wrap (x2 + (1:Int))) (x3))) (none)) (none)) (none)) (none)) (lL19 (x0) (Go.IntKind.i64.wrap (x1 + (1:Int))) (x3))) (none)) (none)
noncomputable def st25_L19 (n:Nat) (lL22:Int→Int→Int→(List (Bool × Lq × List Int × Lb))→Option R25) (x0 x1:Int) (x2:List (Bool × Lq × List Int × Lb)):Option R25 :=
 cond (decide (x1 < (↑x2.length:Int))) (lL22 (x0) (x1) ((0:Int)) (x2)) (some ((x2,(true,())),()))
noncomputable def st25_L11 (n:Nat) (lL11:Int→Int→Int→(List (Bool × Lq × List Int × Lb))→(List (Bool × Lq × List Int × Lb))→Option R25) (lL19:Int→Int→(List (Bool × Lq × List Int × Lb))→Option R25) (x0 x1 x2:Int) (x3 x4:List (Bool × Lq × List Int × Lb)):Option R25 :=
 cond (decide (x2 < (16:Int))) (cond (decide ((0:Int)≤x0)) (cond (decide (x0 < (↑x3.length:Int))) ((q71 n ((x3.getD x0.toNat (false,[],[],[])).2.1,x2,())).bind fun r4=>cond (decide ((0:Int)≤r4.1.1)) (cond (decide ((0:Int)≤x0)) (cond (decide (x0 < (↑x3.length:Int))) (cond (decide ((0:Int)≤r4.1.1)) (cond (decide (r4.1.1 < (↑(List.length (x3.getD x0.toNat (false,[],[],[])).2.1):Int))) (cond ((List.getD (x3.getD x0.toNat (false,[],[],[])).2.1 (Int.toNat r4.1.1) ((0:Int),(0:Int),false,false)).2.2.2) (cond (decide ((0:Int)≤x0)) (cond (decide (x0 < (↑x4.length:Int))) (cond (decide ((0:Int)≤x2)) (cond (decide (x2 < (↑(List.length (x4.getD x0.toNat (false,[],[],[])).2.2.1):Int))) (cond (decide (List.getD (x4.getD x0.toNat (false,[],[],[])).2.2.1 x2.toNat (0:Int)=(0:Int))) (cond (decide ((0:Int)≤x0)) (cond (decide (x0 < (↑x4.length:Int))) ((q82 n (if x1 < x0 then x1 else x0,x2,())).bind fun r5=>cond (decide ((0:Int)≤x2)) (cond (decide (x2 < (↑(List.length (x4.getD x0.toNat (false,[],[],[])).2.2.1):Int))) (lL11 (x0) (x1) (Go.IntKind.i64.wrap (x2 + (1:Int))) (x3) (x4.set x0.toNat ((x4.getD x0.toNat (false,[],[],[])).1,(x4.getD x0.toNat (false,[],[],[])).2.1,List.set (x4.getD x0.toNat (false,[],[],[])).2.2.1 x2.toNat r5.1.1,(x4.getD x0.toNat (false,[],[],[])).2.2.2))) (none)) (none)) (none)) (none)) (lL11 (x0) (x1) (Go.IntKind.i64.wrap (x2 + (1:Int))) (x3) (x4))) (none)) (none)) (none)) (none)) (lL11 (x0) (x1) (Go.IntKind.i64.wrap (x2 + (1:Int))) (x3) (x4))) (none)) (none)) (none)) (none)) (lL11 (x0) (x1) (Go.IntKind.i64.wrap (x2 + (1:Int))) (x3) (x4))) (none)) (none)) (cond (decide ((0:Int)≤x0)) (cond (decide (x0 < (↑x4.length:Int))) (cond (decide (((0:Nat) + List.length (x4.getD x0.toNat (false,[],[],[])).2.1) * (24:Nat)≤(140737488355328:Nat))) (cond (decide (((0:Nat) + List.length (x4.getD x0.toNat (false,[],[],[])).2.2.1) * (8:Nat)≤(140737488355328:Nat))) (cond (decide (((0:Nat) + List.length (x4.getD x0.toNat (false,[],[],[])).2.2.2) * (16:Nat)≤(140737488355328:Nat))) (cond (decide ((0:Int)≤x1)) (cond (decide (x1 < (↑x4.length:Int))) (lL19 (x1) ((0:Int)) (x4.set x1.toNat (true,(x4.getD x0.toNat (false,[],[],[])).2.1,(x4.getD x0.toNat (false,[],[],[])).2.2.1,(x4.getD x0.toNat (false,[],[],[])).2.2.2))) (none)) (none)) (none)) (none)) (none)) (none)) (none))
noncomputable def st25_L3 (n:Nat) (lL3:Int→Int→Int→(List (Bool × Lq × List Int × Lb))→Option R25) (lL11:Int→Int→Int→(List (Bool × Lq × List Int × Lb))→(List (Bool × Lq × List Int × Lb))→Option R25) (x0 x1 x2:Int) (x3:List (Bool × Lq × List Int × Lb)):Option R25 :=
 cond (decide ((0:Int)≤x2)) (cond (decide ((0:Int)≤x2)) (cond (decide (x2 < (↑x3.length:Int))) (cond (!(x3.getD x2.toNat (false,[],[],[])).1) (lL3 (x0) (x2) (Go.IntKind.i64.wrap (x2 - (1:Int))) (x3)) (lL3 (x0) (x1) (Go.IntKind.i64.wrap (x2 - (1:Int))) (x3))) (none)) (none)) ((q67 n (x3,x0,())).bind fun r1=>cond (!r1.1.1) (some (([],(false,())),())) (cond (decide (x1 < (0:Int))) (some (([],(false,())),())) ((q70 n (x3,())).bind fun r2=>lL11 (x0) (x1) ((0:Int)) (x3) (r2.1.1))))
theorem e25_top (n:Nat) (a:List (Bool × Lq × List Int × Lb)) (b:Int):runF TT G25 an25 Try.f25 c25 ps25 rs25 n (a,b,())=st25_top n (fun x0 x1 x2 x3=>at25 n (.head 3) [n] (sh25_L3 x0 x1 x2 x3)) a b:=by kernel_rfl
theorem e25_L22_0 (n:Nat) (m19:Nat) (x0 x1 x2:Int) (x3:List (Bool × Lq × List Int × Lb)):at25 n (.head 22) [m19,0] (sh25_L22 x0 x1 x2 x3)=none:=by kernel_rfl
theorem e25_L22 (n:Nat) (m19:Nat) (m22:Nat) (x0 x1 x2:Int) (x3:List (Bool × Lq × List Int × Lb)):at25 n (.head 22) [m19,m22 + 1] (sh25_L22 x0 x1 x2 x3)=st25_L22 n (fun x0 x1 x2 x3=>at25 n (.head 22) [m19,m22] (sh25_L22 x0 x1 x2 x3)) (fun x0 x1 x2=>at25 n (.head 19) [m19] (sh25_L19 x0 x1 x2)) x0 x1 x2 x3:=by kernel_rfl
theorem e25_L19_0 (n:Nat) (x0 x1:Int) (x2:List (Bool × Lq × List Int × Lb)):at25 n (.head 19) [0] (sh25_L19 x0 x1 x2)=none:=by kernel_rfl
theorem e25_L19 (n:Nat) (m19:Nat) (x0 x1:Int) (x2:List (Bool × Lq × List Int × Lb)):at25 n (.head 19) [m19 + 1] (sh25_L19 x0 x1 x2)=st25_L19 n (fun x0 x1 x2 x3=>at25 n (.head 22) [m19,n] (sh25_L22 x0 x1 x2 x3)) x0 x1 x2:=by kernel_rfl
theorem e25_L11_0 (n:Nat) (x0 x1 x2:Int) (x3 x4:List (Bool × Lq × List Int × Lb)):at25 n (.head 11) [0] (sh25_L11 x0 x1 x2 x3 x4)=none:=by kernel_rfl
theorem e25_L11 (n:Nat) (m11:Nat) (x0 x1 x2:Int) (x3 x4:List (Bool × Lq × List Int × Lb)):at25 n (.head 11) [m11 + 1] (sh25_L11 x0 x1 x2 x3 x4)=st25_L11 n (fun x0 x1 x2 x3 x4=>at25 n (.head 11) [m11] (sh25_L11 x0 x1 x2 x3 x4)) (fun x0 x1 x2=>at25 n (.head 19) [n] (sh25_L19 x0 x1 x2)) x0 x1 x2 x3 x4:=by kernel_rfl
theorem e25_L3_0 (n:Nat) (x0 x1 x2:Int) (x3:List (Bool × Lq × List Int × Lb)):at25 n (.head 3) [0] (sh25_L3 x0 x1 x2 x3)=none:=by kernel_rfl
theorem e25_L3 (n:Nat) (m3:Nat) (x0 x1 x2:Int) (x3:List (Bool × Lq × List Int × Lb)):at25 n (.head 3) [m3 + 1] (sh25_L3 x0 x1 x2 x3)=st25_L3 n (fun x0 x1 x2 x3=>at25 n (.head 3) [m3] (sh25_L3 x0 x1 x2 x3)) (fun x0 x1 x2 x3 x4=>at25 n (.head 11) [n] (sh25_L11 x0 x1 x2 x3 x4)) x0 x1 x2 x3:=by kernel_rfl
noncomputable def p25_L22 (g19:Int→Int→(List (Bool × Lq × List Int × Lb))→Option R25) (n:Nat):Nat→Int→Int→Int→(List (Bool × Lq × List Int × Lb))→Option R25
 | 0,_,_,_,_=>none
 | m + 1,x0,x1,x2,x3=>st25_L22 n (p25_L22 g19 n m) g19 x0 x1 x2 x3
noncomputable def p25_L19 (n:Nat):Nat→Int→Int→(List (Bool × Lq × List Int × Lb))→Option R25
 | 0,_,_,_=>none
 | m + 1,x0,x1,x2=>st25_L19 n (p25_L22 (p25_L19 n m) n n) x0 x1 x2
noncomputable def p25_L11 (n:Nat):Nat→Int→Int→Int→(List (Bool × Lq × List Int × Lb))→(List (Bool × Lq × List Int × Lb))→Option R25
 | 0,_,_,_,_,_=>none
 | m + 1,x0,x1,x2,x3,x4=>st25_L11 n (p25_L11 n m) (p25_L19 n n) x0 x1 x2 x3 x4
noncomputable def p25_L3 (n:Nat):Nat→Int→Int→Int→(List (Bool × Lq × List Int × Lb))→Option R25
 | 0,_,_,_,_=>none
 | m + 1,x0,x1,x2,x3=>st25_L3 n (p25_L3 n m) (p25_L11 n n) x0 x1 x2 x3
noncomputable def p25 (n:Nat) (a:List (Bool × Lq × List Int × Lb)) (b:Int):Option R25:=st25_top n (p25_L3 n n) a b
theorem t25_L22 (n:Nat) (m19:Nat):∀ (m22:Nat) (x0 x1 x2:Int) (x3:List (Bool × Lq × List Int × Lb)),at25 n (.head 22) [m19,m22] (sh25_L22 x0 x1 x2 x3)=p25_L22 (fun x0 x1 x2=>at25 n (.head 19) [m19] (sh25_L19 x0 x1 x2)) n m22 x0 x1 x2 x3:=by
 intro m
 induction m with
 | zero=>intros; rw [e25_L22_0]; rfl
 | succ m ih =>
  intros
  rw [e25_L22]
  try simp only [ih]
  rfl
theorem t25_L19 (n:Nat):∀ (m19:Nat) (x0 x1:Int) (x2:List (Bool × Lq × List Int × Lb)),at25 n (.head 19) [m19] (sh25_L19 x0 x1 x2)=p25_L19 n m19 x0 x1 x2:=by
 intro m
 induction m with
 | zero=>intros; rw [e25_L19_0]; rfl
 | succ m ih =>
  intros
  rw [e25_L19]
  try simp only [t25_L22,ih]
  rfl
theorem t25_L11 (n:Nat):∀ (m11:Nat) (x0 x1 x2:Int) (x3 x4:List (Bool × Lq × List Int × Lb)),at25 n (.head 11) [m11] (sh25_L11 x0 x1 x2 x3 x4)=p25_L11 n m11 x0 x1 x2 x3 x4:=by
 intro m
 induction m with
 | zero=>intros; rw [e25_L11_0]; rfl
 | succ m ih =>
  intros
  rw [e25_L11]
  try simp only [t25_L19,ih]
  rfl
theorem t25_L3 (n:Nat):∀ (m3:Nat) (x0 x1 x2:Int) (x3:List (Bool × Lq × List Int × Lb)),at25 n (.head 3) [m3] (sh25_L3 x0 x1 x2 x3)=p25_L3 n m3 x0 x1 x2 x3:=by
 intro m
 induction m with
 | zero=>intros; rw [e25_L3_0]; rfl
 | succ m ih =>
  intros
  rw [e25_L3]
  try simp only [t25_L11,ih]
  rfl
theorem F25_eq (n:Nat) (a:List (Bool × Lq × List Int × Lb)) (b:Int):runF TT G25 an25 Try.f25 c25 ps25 rs25 n (a,b,())=p25 n a b:=by
 rw [e25_top]
 simp only [t25_L3]
 try rfl
noncomputable def q25 (n:Nat) (x:argsD ps25):Option R25:=p25 n x.1 x.2.1
noncomputable def Sm25:Sm:=⟨ps25,rs25,false,q25⟩
theorem holds25 (hg:GamOK Try.prog G25):Holds Try.prog 25 Sm25:=by
 have:=h0_25 hg
 have e:(runF TT G25 an25 Try.f25 c25 ps25 rs25)=q25:=by
  funext n x
  exact F25_eq n x.1 x.2.1
 rw [e] at this
 exact this
theorem gam25:GamOK Try.prog G25:=by
 intro f s h
 unfold G25 at h
 split at h
 ·injection h with h; subst h; exact ⟨⟨Try.f67,c67,Try.func67,by kernel_rfl,by decide +kernel⟩,hh67⟩
 ·injection h with h; subst h; exact ⟨⟨Try.f70,c70,Try.func70,by kernel_rfl,by decide +kernel⟩,hh70⟩
 ·injection h with h; subst h; exact ⟨⟨Try.f71,c71,Try.func71,by kernel_rfl,by decide +kernel⟩,hh71⟩
 ·injection h with h; subst h; exact ⟨⟨Try.f82,c82,Try.func82,by kernel_rfl,by decide +kernel⟩,hh82⟩
 ·injection h with h; subst h; exact ⟨⟨Try.f83,c83,Try.func83,by kernel_rfl,by decide +kernel⟩,hh83⟩
 ·cases h
theorem hh25:Holds Try.prog 25 Sm25:=holds25 gam25
end Go.Proofs.Ytdkaagpkeomhmaa.Rx.S

namespace Go.Proofs.Ytdkaagpkeomhmaa.Rx.S
open Go Go.RowKit Go.Proofs
set_option maxRecDepth 100000
noncomputable def c85:Code:=(Try.f85.body.getD .skip)
def an85:An:=⟨fun _=>⟨[],[]⟩,fun _ _=>none⟩
abbrev ps85:List PK:=[.val (tBo 116) true]
abbrev rs85:List RK:=[.val .bool false]
abbrev R85:=retsD rs85 × outsD ps85
noncomputable def G85:Gam:=fun _=>none
theorem h0_85 (hg:GamOK Try.prog G85):Holds Try.prog 85 ⟨ps85,rs85,false,runF TT G85 an85 Try.f85 c85 ps85 rs85⟩:=holds_of tt_ok hg mixed Try.func85 (by kernel_rfl) (by rfl) (by decide +kernel)
noncomputable def st85_top (n:Nat) (a:Bool × Lq × List Int × Lb):Option R85 :=
 some ((!a.1,()),())
theorem e85_top (n:Nat) (a:Bool × Lq × List Int × Lb):runF TT G85 an85 Try.f85 c85 ps85 rs85 n (a,())=st85_top n a:=by kernel_rfl
noncomputable def p85 (n:Nat) (a:Bool × Lq × List Int × Lb):Option R85:=st85_top n a
theorem F85_eq (n:Nat) (a:Bool × Lq × List Int × Lb):runF TT G85 an85 Try.f85 c85 ps85 rs85 n (a,())=p85 n a:=by
 rw [e85_top]
 skip
 try rfl
noncomputable def q85 (n:Nat) (x:argsD ps85):Option R85:=p85 n x.1
noncomputable def Sm85:Sm:=⟨ps85,rs85,false,q85⟩
theorem holds85 (hg:GamOK Try.prog G85):Holds Try.prog 85 Sm85:=by
 have:=h0_85 hg
 have e:(runF TT G85 an85 Try.f85 c85 ps85 rs85)=q85:=by
  funext n x
  exact F85_eq n x.1
 rw [e] at this
 exact this
theorem gam85:GamOK Try.prog G85:=fun _ _ h=>by cases h
theorem hh85:Holds Try.prog 85 Sm85:=holds85 gam85
end Go.Proofs.Ytdkaagpkeomhmaa.Rx.S

namespace Go.Proofs.Ytdkaagpkeomhmaa.Rx.S
open Go Go.RowKit Go.Proofs
set_option maxRecDepth 100000
noncomputable def c84:Code:=(Try.f84.body.getD .skip)
def an84:An:=⟨fun r=>match r with | 2=>⟨[0,1,7,8],[]⟩ | _=>⟨[],[]⟩,fun _ _=>none⟩
abbrev ps84:List PK:=[.val tVi false,.fn 85 []]
abbrev rs84:List RK:=[.val i64 false]
abbrev R84:=retsD rs84 × outsD ps84
noncomputable def G84:Gam:=fun f=>match f with | 85=>some Sm85 | _=>none
theorem h0_84 (hg:GamOK Try.prog G84):Holds Try.prog 84 ⟨ps84,rs84,false,runF TT G84 an84 Try.f84 c84 ps84 rs84⟩:=holds_of tt_ok hg mixed Try.func84 (by kernel_rfl) (by rfl) (by decide +kernel)
noncomputable def at84:Nat→Pt→List Nat→St→Option R84:=atF TT G84 an84 Try.f84 c84 _ _
def sh84_L2 (x0:List (Bool × Lq × List Int × Lb)) (x1 x2:Int):St:=(St.mk [AV.one (SV.con (⟨75,Ty.bool.pair ((Ty.row (nat_lit 116) ((Ty.int Go.IntKind.i64).pair ((Ty.int Go.IntKind.i64).pair (Ty.bool.pair Ty.bool)))).pair ((Ty.row (nat_lit 3) (Ty.int Go.IntKind.i64)).pair (Ty.row (nat_lit 9) Ty.str))),x0⟩:Rw)),AV.fn 85 [],Uu,Uu,Uu,Uu,Uu,AV.one (SV.int (Go.IntKind.i64) x1),AV.one (SV.int (Go.IntKind.i64) x2),Uu,Uu,Uu,Uu,Uu,Uu,Uu,Uu,Uu,Uu] [])
noncomputable def st84_top (n:Nat) (lL2:(List (Bool × Lq × List Int × Lb))→Int→Int→Option R84) (a:List (Bool × Lq × List Int × Lb)) (b:Unit):Option R84 :=
 lL2 (a) ((↑a.length:Int)) ((0:Int))
noncomputable def st84_L2 (n:Nat) (lL2:(List (Bool × Lq × List Int × Lb))→Int→Int→Option R84) (x0:List (Bool × Lq × List Int × Lb)) (x1 x2:Int):Option R84 :=
 cond (decide (x2 < x1)) (cond (decide ((0:Int)≤x2)) (cond (decide (x2 < (↑x0.length:Int))) ((q85 n (((x0.getD x2.toNat (false,[],[],[])).1,(x0.getD x2.toNat (false,[],[],[])).2.1,(x0.getD x2.toNat (false,[],[],[])).2.2.1,(x0.getD x2.toNat (false,[],[],[])).2.2.2),())).bind fun r1=>cond (r1.1.1) (some ((x2,()),())) (lL2 (x0) (x1) (Go.IntKind.i64.wrap (x2 + (1:Int))))) (none)) (none)) (some (((-1:Int),()),()))
theorem e84_top (n:Nat) (a:List (Bool × Lq × List Int × Lb)) (b:Unit):runF TT G84 an84 Try.f84 c84 ps84 rs84 n (a,b,())=st84_top n (fun x0 x1 x2=>at84 n (.head 2) [n] (sh84_L2 x0 x1 x2)) a b:=by kernel_rfl
theorem e84_L2_0 (n:Nat) (x0:List (Bool × Lq × List Int × Lb)) (x1 x2:Int):at84 n (.head 2) [0] (sh84_L2 x0 x1 x2)=none:=by kernel_rfl
theorem e84_L2 (n:Nat) (m2:Nat) (x0:List (Bool × Lq × List Int × Lb)) (x1 x2:Int):at84 n (.head 2) [m2 + 1] (sh84_L2 x0 x1 x2)=st84_L2 n (fun x0 x1 x2=>at84 n (.head 2) [m2] (sh84_L2 x0 x1 x2)) x0 x1 x2:=by kernel_rfl
noncomputable def p84_L2 (n:Nat):Nat→(List (Bool × Lq × List Int × Lb))→Int→Int→Option R84
 | 0,_,_,_=>none
 | m + 1,x0,x1,x2=>st84_L2 n (p84_L2 n m) x0 x1 x2
noncomputable def p84 (n:Nat) (a:List (Bool × Lq × List Int × Lb)) (b:Unit):Option R84:=st84_top n (p84_L2 n n) a b
theorem t84_L2 (n:Nat):∀ (m2:Nat) (x0:List (Bool × Lq × List Int × Lb)) (x1 x2:Int),at84 n (.head 2) [m2] (sh84_L2 x0 x1 x2)=p84_L2 n m2 x0 x1 x2:=by
 intro m
 induction m with
 | zero=>intros; rw [e84_L2_0]; rfl
 | succ m ih =>
  intros
  rw [e84_L2]
  try simp only [ih]
  rfl
theorem F84_eq (n:Nat) (a:List (Bool × Lq × List Int × Lb)) (b:Unit):runF TT G84 an84 Try.f84 c84 ps84 rs84 n (a,b,())=p84 n a b:=by
 rw [e84_top]
 simp only [t84_L2]
 try rfl
noncomputable def q84 (n:Nat) (x:argsD ps84):Option R84:=p84 n x.1 x.2.1
noncomputable def Sm84:Sm:=⟨ps84,rs84,false,q84⟩
theorem holds84 (hg:GamOK Try.prog G84):Holds Try.prog 84 Sm84:=by
 have:=h0_84 hg
 have e:(runF TT G84 an84 Try.f84 c84 ps84 rs84)=q84:=by
  funext n x
  exact F84_eq n x.1 x.2.1
 rw [e] at this
 exact this
theorem gam84:GamOK Try.prog G84:=by
 intro f s h
 unfold G84 at h
 split at h
 ·injection h with h; subst h; exact ⟨⟨Try.f85,c85,Try.func85,by kernel_rfl,by decide +kernel⟩,hh85⟩
 ·cases h
theorem hh84:Holds Try.prog 84 Sm84:=holds84 gam84
end Go.Proofs.Ytdkaagpkeomhmaa.Rx.S

namespace Go.Proofs.Ytdkaagpkeomhmaa.Rx.S
open Go Go.RowKit Go.Proofs
set_option maxRecDepth 100000
noncomputable def c86:Code:=(Try.f86.body.getD .skip)
def an86:An:=⟨fun _=>⟨[],[]⟩,fun _ _=>none⟩
abbrev ps86:List PK:=[.val (.pair i64 i64) true]
abbrev rs86:List RK:=[.val i64 false]
abbrev R86:=retsD rs86 × outsD ps86
noncomputable def G86:Gam:=fun _=>none
theorem h0_86 (hg:GamOK Try.prog G86):Holds Try.prog 86 ⟨ps86,rs86,false,runF TT G86 an86 Try.f86 c86 ps86 rs86⟩:=holds_of tt_ok hg mixed Try.func86 (by kernel_rfl) (by rfl) (by decide +kernel)
noncomputable def st86_top (n:Nat) (a:Int × Int):Option R86 :=
 some ((Go.IntKind.i64.wrap (Go.IntKind.i64.wrap ((1:Int) + Go.IntKind.i64.wrap ((16:Int) * a.1)) + a.2),()),())
theorem e86_top (n:Nat) (a:Int × Int):runF TT G86 an86 Try.f86 c86 ps86 rs86 n (a,())=st86_top n a:=by kernel_rfl
noncomputable def p86 (n:Nat) (a:Int × Int):Option R86:=st86_top n a
theorem F86_eq (n:Nat) (a:Int × Int):runF TT G86 an86 Try.f86 c86 ps86 rs86 n (a,())=p86 n a:=by
 rw [e86_top]
 skip
 try rfl
noncomputable def q86 (n:Nat) (x:argsD ps86):Option R86:=p86 n x.1
noncomputable def Sm86:Sm:=⟨ps86,rs86,false,q86⟩
theorem holds86 (hg:GamOK Try.prog G86):Holds Try.prog 86 Sm86:=by
 have:=h0_86 hg
 have e:(runF TT G86 an86 Try.f86 c86 ps86 rs86)=q86:=by
  funext n x
  exact F86_eq n x.1
 rw [e] at this
 exact this
theorem gam86:GamOK Try.prog G86:=fun _ _ h=>by cases h
theorem hh86:Holds Try.prog 86 Sm86:=holds86 gam86
end Go.Proofs.Ytdkaagpkeomhmaa.Rx.S

