/- What the functions of this seat compute, each as a plain function on lists and numbers, with the proof that a call answers so. No condition. -/
import Derived.Test.YtdkaagpkeomhmaaCF1
set_option linter.unusedVariables false
set_option linter.unusedSimpArgs false
namespace Go.Proofs.Ytdkaagpkeomhmaa.Rx.S
open Go Go.RowKit Go.Proofs
set_option maxRecDepth 100000
noncomputable def c90:Code:=(Try.f90.body.getD .skip)
def an90:An:=⟨fun r=>match r with | 2=>⟨[0,1,2,11,12,13],[]⟩ | 5=>⟨[0,1,2,7,11,12,13,18,19,20],[]⟩ | _=>⟨[],[]⟩,fun _ _=>none⟩
abbrev ps90:List PK:=[.io tVi true,.val i64 false,.val i64 false]
abbrev rs90:List RK:=[]
abbrev R90:=retsD rs90 × outsD ps90
noncomputable def G90:Gam:=fun _=>none
theorem h0_90 (hg:GamOK Try.prog G90):Holds Try.prog 90 ⟨ps90,rs90,false,runF TT G90 an90 Try.f90 c90 ps90 rs90⟩:=holds_of tt_ok hg mixed Try.func90 (by kernel_rfl) (by rfl) (by decide +kernel)
noncomputable def at90:Nat→Pt→List Nat→St→Option R90:=atF TT G90 an90 Try.f90 c90 _ _
def sh90_L5 (x0 x1 x2 x3:Int) (x4:Nat) (x5 x6:Int) (x7:List (Bool × Lq × List Int × Lb)) (x8:Bool) (x9 x10 x11:Nat):St:=(St.mk [AV.par 0 true ((SV.ref 1000000 0 [] Option.none) :: []),AV.one (SV.int (Go.IntKind.i64) x0),AV.one (SV.int (Go.IntKind.i64) x1),Uu,Uu,Uu,Uu,AV.one (SV.bptr 1000001 0),Uu,Uu,Uu,AV.one (SV.ref 1000000 0 [] Option.none),AV.one (SV.int (Go.IntKind.i64) x2),AV.one (SV.int (Go.IntKind.i64) x3),Uu,Uu,Uu,Uu,AV.one (SV.ref 1000000 0 ((x4,2) :: []) Option.none),AV.one (SV.int (Go.IntKind.i64) x5),AV.one (SV.int (Go.IntKind.i64) x6),Uu,Uu,Uu,Uu,Uu,Uu,Uu,Uu,Uu,Uu,Uu,Uu,Uu,Uu] ((1000000,(Ent.row (⟨75,Ty.bool.pair ((Ty.row (nat_lit 116) ((Ty.int Go.IntKind.i64).pair ((Ty.int Go.IntKind.i64).pair (Ty.bool.pair Ty.bool)))).pair ((Ty.row (nat_lit 3) (Ty.int Go.IntKind.i64)).pair (Ty.row (nat_lit 9) Ty.str))),x7⟩:Rw) 0 Option.none)) :: ((1000001,(Ent.box ((SV.bool x8) :: ((SV.ref 1000000 0 ((x9,1) :: []) Option.none) :: ((SV.ref 1000000 0 ((x10,2) :: []) Option.none) :: ((SV.ref 1000000 0 ((x11,3) :: []) Option.none) :: [])))))) :: [])))
def sh90_L2 (x0 x1 x2 x3:Int) (x4:List (Bool × Lq × List Int × Lb)):St:=(St.mk [AV.par 0 true ((SV.ref 1000000 0 [] Option.none) :: []),AV.one (SV.int (Go.IntKind.i64) x0),AV.one (SV.int (Go.IntKind.i64) x1),Uu,Uu,Uu,Uu,Uu,Uu,Uu,Uu,AV.one (SV.ref 1000000 0 [] Option.none),AV.one (SV.int (Go.IntKind.i64) x2),AV.one (SV.int (Go.IntKind.i64) x3),Uu,Uu,Uu,Uu,Uu,Uu,Uu,Uu,Uu,Uu,Uu,Uu,Uu,Uu,Uu,Uu,Uu,Uu,Uu,Uu,Uu] ((1000000,(Ent.row (⟨75,Ty.bool.pair ((Ty.row (nat_lit 116) ((Ty.int Go.IntKind.i64).pair ((Ty.int Go.IntKind.i64).pair (Ty.bool.pair Ty.bool)))).pair ((Ty.row (nat_lit 3) (Ty.int Go.IntKind.i64)).pair (Ty.row (nat_lit 9) Ty.str))),x4⟩:Rw) 0 Option.none)) :: []))
noncomputable def st90_top (n:Nat) (lL2:Int→Int→Int→Int→(List (Bool × Lq × List Int × Lb))→Option R90) (a:List (Bool × Lq × List Int × Lb)) (b:Int) (c:Int):Option R90 :=
 lL2 (b) (c) ((↑a.length:Int)) ((0:Int)) (a)
noncomputable def st90_L5 (n:Nat) (lL5:Int→Int→Int→Int→Nat→Int→Int→(List (Bool × Lq × List Int × Lb))→Bool→Nat→Nat→Nat→Option R90) (lL2:Int→Int→Int→Int→(List (Bool × Lq × List Int × Lb))→Option R90) (x0 x1 x2 x3:Int) (x4:Nat) (x5 x6:Int) (x7:List (Bool × Lq × List Int × Lb)) (x8:Bool) (x9 x10 x11:Nat):Option R90 :=
 cond (decide (x6 < x5)) (cond (decide ((0:Int)≤x6)) (cond (decide (x6 < (↑(List.length (x7.getD x4 (false,[],[],[])).2.2.1):Int))) (cond (decide (List.getD (x7.getD x4 (false,[],[],[])).2.2.1 x6.toNat (0:Int)=x0)) (cond (decide ((0:Int)≤x6)) (cond (decide (x6 < (↑(List.length (x7.getD x10 (false,[],[],[])).2.2.1):Int))) (lL5 (x0) (x1) (x2) (x3) (x4) (x5) (Go.IntKind.i64.wrap (x6 + (1:Int))) (x7.set x10 ((x7.getD x10 (false,[],[],[])).1,(x7.getD x10 (false,[],[],[])).2.1,List.set (x7.getD x10 (false,[],[],[])).2.2.1 x6.toNat x1,(x7.getD x10 (false,[],[],[])).2.2.2)) (x8) (x9) (x10) (x11)) (none)) (none)) (lL5 (x0) (x1) (x2) (x3) (x4) (x5) (Go.IntKind.i64.wrap (x6 + (1:Int))) (x7) (x8) (x9) (x10) (x11))) (none)) (none)) (lL2 (x0) (x1) (x2) (Go.IntKind.i64.wrap (x3 + (1:Int))) (x7))
noncomputable def st90_L2 (n:Nat) (lL5:Int→Int→Int→Int→Nat→Int→Int→(List (Bool × Lq × List Int × Lb))→Bool→Nat→Nat→Nat→Option R90) (x0 x1 x2 x3:Int) (x4:List (Bool × Lq × List Int × Lb)):Option R90 :=
 cond (decide (x3 < x2)) (cond (decide ((0:Int)≤x3)) (cond (decide (x3 < (↑x4.length:Int))) (lL5 (x0) (x1) (x2) (x3) (x3.toNat) ((↑(List.length (x4.getD x3.toNat (false,[],[],[])).2.2.1):Int)) ((0:Int)) (x4) ((x4.getD x3.toNat (false,[],[],[])).1) (x3.toNat) (x3.toNat) (x3.toNat)) (none)) (none)) (some ((),(x4,())))
theorem e90_top (n:Nat) (a:List (Bool × Lq × List Int × Lb)) (b:Int) (c:Int):runF TT G90 an90 Try.f90 c90 ps90 rs90 n (a,b,c,())=st90_top n (fun x0 x1 x2 x3 x4=>at90 n (.head 2) [n] (sh90_L2 x0 x1 x2 x3 x4)) a b c:=by kernel_rfl
theorem e90_L5_0 (n:Nat) (m2:Nat) (x0 x1 x2 x3:Int) (x4:Nat) (x5 x6:Int) (x7:List (Bool × Lq × List Int × Lb)) (x8:Bool) (x9 x10 x11:Nat):at90 n (.head 5) [m2,0] (sh90_L5 x0 x1 x2 x3 x4 x5 x6 x7 x8 x9 x10 x11)=none:=by kernel_rfl
theorem e90_L5 (n:Nat) (m2:Nat) (m5:Nat) (x0 x1 x2 x3:Int) (x4:Nat) (x5 x6:Int) (x7:List (Bool × Lq × List Int × Lb)) (x8:Bool) (x9 x10 x11:Nat):at90 n (.head 5) [m2,m5 + 1] (sh90_L5 x0 x1 x2 x3 x4 x5 x6 x7 x8 x9 x10 x11)=st90_L5 n (fun x0 x1 x2 x3 x4 x5 x6 x7 x8 x9 x10 x11=>at90 n (.head 5) [m2,m5] (sh90_L5 x0 x1 x2 x3 x4 x5 x6 x7 x8 x9 x10 x11)) (fun x0 x1 x2 x3 x4=>at90 n (.head 2) [m2] (sh90_L2 x0 x1 x2 x3 x4)) x0 x1 x2 x3 x4 x5 x6 x7 x8 x9 x10 x11:=by kernel_rfl
theorem e90_L2_0 (n:Nat) (x0 x1 x2 x3:Int) (x4:List (Bool × Lq × List Int × Lb)):at90 n (.head 2) [0] (sh90_L2 x0 x1 x2 x3 x4)=none:=by kernel_rfl
theorem e90_L2 (n:Nat) (m2:Nat) (x0 x1 x2 x3:Int) (x4:List (Bool × Lq × List Int × Lb)):at90 n (.head 2) [m2 + 1] (sh90_L2 x0 x1 x2 x3 x4)=st90_L2 n (fun x0 x1 x2 x3 x4 x5 x6 x7 x8 x9 x10 x11=>at90 n (.head 5) [m2,n] (sh90_L5 x0 x1 x2 x3 x4 x5 x6 x7 x8 x9 x10 x11)) x0 x1 x2 x3 x4:=by kernel_rfl
noncomputable def p90_L5 (g2:Int→Int→Int→Int→(List (Bool × Lq × List Int × Lb))→Option R90) (n:Nat):Nat→Int→Int→Int→Int→Nat→Int→Int→(List (Bool × Lq × List Int × Lb))→Bool→Nat→Nat→Nat→Option R90
 | 0,_,_,_,_,_,_,_,_,_,_,_,_=>none
 | m + 1,x0,x1,x2,x3,x4,x5,x6,x7,x8,x9,x10,x11=>st90_L5 n (p90_L5 g2 n m) g2 x0 x1 x2 x3 x4 x5 x6 x7 x8 x9 x10 x11
noncomputable def p90_L2 (n:Nat):Nat→Int→Int→Int→Int→(List (Bool × Lq × List Int × Lb))→Option R90
 | 0,_,_,_,_,_=>none
 | m + 1,x0,x1,x2,x3,x4=>st90_L2 n (p90_L5 (p90_L2 n m) n n) x0 x1 x2 x3 x4
noncomputable def p90 (n:Nat) (a:List (Bool × Lq × List Int × Lb)) (b:Int) (c:Int):Option R90:=st90_top n (p90_L2 n n) a b c
theorem t90_L5 (n:Nat) (m2:Nat):∀ (m5:Nat) (x0 x1 x2 x3:Int) (x4:Nat) (x5 x6:Int) (x7:List (Bool × Lq × List Int × Lb)) (x8:Bool) (x9 x10 x11:Nat),at90 n (.head 5) [m2,m5] (sh90_L5 x0 x1 x2 x3 x4 x5 x6 x7 x8 x9 x10 x11)=p90_L5 (fun x0 x1 x2 x3 x4=>at90 n (.head 2) [m2] (sh90_L2 x0 x1 x2 x3 x4)) n m5 x0 x1 x2 x3 x4 x5 x6 x7 x8 x9 x10 x11:=by
 intro m
 induction m with
 | zero=>intros; rw [e90_L5_0]; rfl
 | succ m ih =>
  intros
  rw [e90_L5]
  try simp only [ih]
  rfl
theorem t90_L2 (n:Nat):∀ (m2:Nat) (x0 x1 x2 x3:Int) (x4:List (Bool × Lq × List Int × Lb)),at90 n (.head 2) [m2] (sh90_L2 x0 x1 x2 x3 x4)=p90_L2 n m2 x0 x1 x2 x3 x4:=by
 intro m
 induction m with
 | zero=>intros; rw [e90_L2_0]; rfl
 | succ m ih =>
  intros
  rw [e90_L2]
  try simp only [t90_L5,ih]
  rfl
theorem F90_eq (n:Nat) (a:List (Bool × Lq × List Int × Lb)) (b:Int) (c:Int):runF TT G90 an90 Try.f90 c90 ps90 rs90 n (a,b,c,())=p90 n a b c:=by
 rw [e90_top]
 simp only [t90_L2]
 try rfl
noncomputable def q90 (n:Nat) (x:argsD ps90):Option R90:=p90 n x.1 x.2.1 x.2.2.1
noncomputable def Sm90:Sm:=⟨ps90,rs90,false,q90⟩
theorem holds90 (hg:GamOK Try.prog G90):Holds Try.prog 90 Sm90:=by
 have:=h0_90 hg
 have e:(runF TT G90 an90 Try.f90 c90 ps90 rs90)=q90:=by
  funext n x
  exact F90_eq n x.1 x.2.1 x.2.2.1
 rw [e] at this
 exact this
theorem gam90:GamOK Try.prog G90:=fun _ _ h=>by cases h
theorem hh90:Holds Try.prog 90 Sm90:=holds90 gam90
end Go.Proofs.Ytdkaagpkeomhmaa.Rx.S

namespace Go.Proofs.Ytdkaagpkeomhmaa.Rx.S
open Go Go.RowKit Go.Proofs
set_option maxRecDepth 100000
noncomputable def c26:Code:=(Try.f26.body.getD .skip)
def an26:An:=⟨fun r=>match r with | 7=>⟨[1,4,6,7,8,32],[]⟩ | 15=>⟨[4,6,7,96],[]⟩ | _=>⟨[],[]⟩,fun _ _=>none⟩
abbrev ps26:List PK:=[.val tVi true,.val i64 false]
abbrev rs26:List RK:=[.own tVi true,.val .bool false]
abbrev R26:=retsD rs26 × outsD ps26
noncomputable def G26:Gam:=fun f=>match f with | 60=>some Sm60 | 74=>some Sm74 | 75=>some Sm75 | 84=>some Sm84 | 86=>some Sm86 | 87=>some Sm87 | 88=>some Sm88 | 89=>some Sm89 | 90=>some Sm90 | _=>none
theorem h0_26 (hg:GamOK Try.prog G26):Holds Try.prog 26 ⟨ps26,rs26,false,runF TT G26 an26 Try.f26 c26 ps26 rs26⟩:=holds_of tt_ok hg mixed Try.func26 (by kernel_rfl) (by rfl) (by decide +kernel)
noncomputable def at26:Nat→Pt→List Nat→St→Option R26:=atF TT G26 an26 Try.f26 c26 _ _
def sh26_L15 (x0 x1:Int) (x2:List (Bool × Lq × List Int × Lb)):St:=(St.mk [Uu,Uu,Uu,Uu,AV.one (SV.bptr 1000000 0),Uu,AV.one (SV.int (Go.IntKind.i64) x0),AV.one (SV.bptr 1000001 0),Uu,Uu,Uu,Uu,Uu,Uu,Uu,Uu,Uu,Uu,Uu,Uu,Uu,Uu,Uu,Uu,Uu,Uu,Uu,Uu,Uu,Uu,Uu,Uu,Uu,Uu,Uu,Uu,Uu,Uu,Uu,Uu,Uu,Uu,Uu,Uu,Uu,Uu,Uu,Uu,Uu,Uu,Uu,Uu,Uu,Uu,Uu,Uu,Uu,Uu,Uu,Uu,Uu,Uu,Uu,Uu,Uu,Uu,Uu,Uu,Uu,Uu,Uu,Uu,Uu,Uu,Uu,Uu,Uu,Uu,Uu,Uu,Uu,Uu,Uu,Uu,Uu,Uu,Uu,Uu,Uu,Uu,Uu,Uu,Uu,Uu,Uu,Uu,AV.one (SV.int (Go.IntKind.i64) x1),Uu,Uu,Uu,Uu,Uu,Uu,Uu,Uu,Uu,Uu,Uu,Uu,Uu,Uu,Uu,Uu,Uu,Uu,Uu,Uu,Uu,Uu,Uu,Uu] ((1000000,(Ent.box (SV.nil :: []))) :: ((1000001,(Ent.box ((SV.ref 1000002 0 [] Option.none) :: []))) :: ((1000002,(Ent.row (⟨75,Ty.bool.pair ((Ty.row (nat_lit 116) ((Ty.int Go.IntKind.i64).pair ((Ty.int Go.IntKind.i64).pair (Ty.bool.pair Ty.bool)))).pair ((Ty.row (nat_lit 3) (Ty.int Go.IntKind.i64)).pair (Ty.row (nat_lit 9) Ty.str))),x2⟩:Rw) 0 Option.none)) :: []))))
def sh26_L7 (x0 x1:Int) (x2:Nat) (x3:Int) (x4:List (Bool × Lq × List Int × Lb)):St:=(St.mk [Uu,AV.one (SV.int (Go.IntKind.i64) x0),Uu,Uu,AV.one (SV.bptr 1000000 0),Uu,AV.one (SV.int (Go.IntKind.i64) x1),AV.one (SV.bptr 1000001 0),AV.one (SV.ptr 1000002 0 [] x2 0),Uu,Uu,Uu,Uu,Uu,Uu,Uu,Uu,Uu,Uu,Uu,Uu,Uu,Uu,Uu,Uu,Uu,Uu,Uu,Uu,Uu,Uu,Uu,AV.one (SV.int (Go.IntKind.i64) x3),Uu,Uu,Uu,Uu,Uu,Uu,Uu,Uu,Uu,Uu,Uu,Uu,Uu,Uu,Uu,Uu,Uu,Uu,Uu,Uu,Uu,Uu,Uu,Uu,Uu,Uu,Uu,Uu,Uu,Uu,Uu,Uu,Uu,Uu,Uu,Uu,Uu,Uu,Uu,Uu,Uu,Uu,Uu,Uu,Uu,Uu,Uu,Uu,Uu,Uu,Uu,Uu,Uu,Uu,Uu,Uu,Uu,Uu,Uu,Uu,Uu,Uu,Uu,Uu,Uu,Uu,Uu,Uu,Uu,Uu,Uu,Uu,Uu,Uu,Uu,Uu,Uu,Uu,Uu,Uu,Uu,Uu,Uu,Uu,Uu,Uu,Uu,Uu] ((1000000,(Ent.box (SV.nil :: []))) :: ((1000001,(Ent.box ((SV.ref 1000002 0 [] Option.none) :: []))) :: ((1000002,(Ent.row (⟨75,Ty.bool.pair ((Ty.row (nat_lit 116) ((Ty.int Go.IntKind.i64).pair ((Ty.int Go.IntKind.i64).pair (Ty.bool.pair Ty.bool)))).pair ((Ty.row (nat_lit 3) (Ty.int Go.IntKind.i64)).pair (Ty.row (nat_lit 9) Ty.str))),x4⟩:Rw) 0 Option.none)) :: []))))
noncomputable def st26_top (n:Nat) (lL7:Int→Int→Nat→Int→(List (Bool × Lq × List Int × Lb))→Option R26) (a:List (Bool × Lq × List Int × Lb)) (b:Int):Option R26 :=
 (q84 n (a,(),())).bind fun r0=>(q74 n (a,b,())).bind fun r1=>cond (!r1.1.1) (some (([],(false,())),())) (cond (decide (r0.1.1 < (0:Int))) (some (([],(false,())),())) ((q75 n (a,())).bind fun r2=>cond (decide ((0:Int)≤b)) (cond (decide (b < (↑(List.length r2.1.1):Int))) (lL7 (b) (r0.1.1) (b.toNat) ((0:Int)) (r2.1.1)) (none)) (none)))
noncomputable def st26_L15 (n:Nat) (lL15:Int→Int→(List (Bool × Lq × List Int × Lb))→Option R26) (x0 x1:Int) (x2:List (Bool × Lq × List Int × Lb)):Option R26 :=
 cond (decide (x1 < (16:Int))) (cond (decide ((0:Int)≤x0)) (cond (decide (x0 < (↑x2.length:Int))) (cond (decide ((0:Int)≤x1)) (cond (decide (x1 < (↑(List.length (x2.getD x0.toNat (false,[],[],[])).2.2.1):Int))) ((q86 n ((x0,x1),())).bind fun r10=>cond (decide (r10.1.1 < List.getD (x2.getD x0.toNat (false,[],[],[])).2.2.1 x1.toNat (0:Int))) ((q90 n (x2,List.getD (x2.getD x0.toNat (false,[],[],[])).2.2.1 x1.toNat (0:Int),r10.1.1,())).bind fun r11=>lL15 (x0) (Go.IntKind.i64.wrap (x1 + (1:Int))) (r11.2.1)) (lL15 (x0) (Go.IntKind.i64.wrap (x1 + (1:Int))) (x2))) (none)) (none)) (none)) (none)) (some ((x2,(true,())),()))
noncomputable def st26_L7 (n:Nat) (lL7:Int→Int→Nat→Int→(List (Bool × Lq × List Int × Lb))→Option R26) (lL15:Int→Int→(List (Bool × Lq × List Int × Lb))→Option R26) (x0 x1:Int) (x2:Nat) (x3:Int) (x4:List (Bool × Lq × List Int × Lb)):Option R26 :=
 cond (decide (x3 < (16:Int))) ((q60 n ((x4.getD x2 (false,[],[],[])).2.1,x3,())).bind fun r4=>cond (decide ((0:Int)≤r4.1.1)) (cond (decide ((0:Int)≤r4.1.1)) (cond (decide (r4.1.1 < (↑(List.length (x4.getD x2 (false,[],[],[])).2.1):Int))) (cond ((List.getD (x4.getD x2 (false,[],[],[])).2.1 (Int.toNat r4.1.1) ((0:Int),(0:Int),false,false)).2.2.2) (cond (decide ((0:Int)≤x3)) (cond (decide (x3 < (↑(List.length (x4.getD x2 (false,[],[],[])).2.2.1):Int))) (cond (decide (List.getD (x4.getD x2 (false,[],[],[])).2.2.1 x3.toNat (0:Int)=(0:Int))) ((q86 n ((if x1 < x0 then x1 else x0,x3),())).bind fun r5=>cond (decide ((0:Int)≤x3)) (cond (decide (x3 < (↑(List.length (x4.getD x2 (false,[],[],[])).2.2.1):Int))) (lL7 (x0) (x1) (x2) (Go.IntKind.i64.wrap (x3 + (1:Int))) (x4.set x2 ((x4.getD x2 (false,[],[],[])).1,(x4.getD x2 (false,[],[],[])).2.1,List.set (x4.getD x2 (false,[],[],[])).2.2.1 x3.toNat r5.1.1,(x4.getD x2 (false,[],[],[])).2.2.2))) (none)) (none)) (lL7 (x0) (x1) (x2) (Go.IntKind.i64.wrap (x3 + (1:Int))) (x4))) (none)) (none)) (lL7 (x0) (x1) (x2) (Go.IntKind.i64.wrap (x3 + (1:Int))) (x4))) (none)) (none)) (lL7 (x0) (x1) (x2) (Go.IntKind.i64.wrap (x3 + (1:Int))) (x4))) ((q87 n ((x4.getD x2 (false,[],[],[])).2.1,())).bind fun r6=>(q88 n ((x4.getD x2 (false,[],[],[])).2.2.1,())).bind fun r7=>(q89 n ((x4.getD x2 (false,[],[],[])).2.2.2,())).bind fun r8=>cond (decide ((0:Int)≤x1)) (cond (decide (x1 < (↑x4.length:Int))) (lL15 (x1) ((0:Int)) (x4.set x1.toNat (true,r6.1.1,r7.1.1,r8.1.1))) (none)) (none))
theorem e26_top (n:Nat) (a:List (Bool × Lq × List Int × Lb)) (b:Int):runF TT G26 an26 Try.f26 c26 ps26 rs26 n (a,b,())=st26_top n (fun x0 x1 x2 x3 x4=>at26 n (.head 7) [n] (sh26_L7 x0 x1 x2 x3 x4)) a b:=by kernel_rfl
theorem e26_L15_0 (n:Nat) (x0 x1:Int) (x2:List (Bool × Lq × List Int × Lb)):at26 n (.head 15) [0] (sh26_L15 x0 x1 x2)=none:=by kernel_rfl
theorem e26_L15 (n:Nat) (m15:Nat) (x0 x1:Int) (x2:List (Bool × Lq × List Int × Lb)):at26 n (.head 15) [m15 + 1] (sh26_L15 x0 x1 x2)=st26_L15 n (fun x0 x1 x2=>at26 n (.head 15) [m15] (sh26_L15 x0 x1 x2)) x0 x1 x2:=by kernel_rfl
theorem e26_L7_0 (n:Nat) (x0 x1:Int) (x2:Nat) (x3:Int) (x4:List (Bool × Lq × List Int × Lb)):at26 n (.head 7) [0] (sh26_L7 x0 x1 x2 x3 x4)=none:=by kernel_rfl
theorem e26_L7 (n:Nat) (m7:Nat) (x0 x1:Int) (x2:Nat) (x3:Int) (x4:List (Bool × Lq × List Int × Lb)):at26 n (.head 7) [m7 + 1] (sh26_L7 x0 x1 x2 x3 x4)=st26_L7 n (fun x0 x1 x2 x3 x4=>at26 n (.head 7) [m7] (sh26_L7 x0 x1 x2 x3 x4)) (fun x0 x1 x2=>at26 n (.head 15) [n] (sh26_L15 x0 x1 x2)) x0 x1 x2 x3 x4:=by kernel_rfl
noncomputable def p26_L15 (n:Nat):Nat→Int→Int→(List (Bool × Lq × List Int × Lb))→Option R26
 | 0,_,_,_=>none
 | m + 1,x0,x1,x2=>st26_L15 n (p26_L15 n m) x0 x1 x2
noncomputable def p26_L7 (n:Nat):Nat→Int→Int→Nat→Int→(List (Bool × Lq × List Int × Lb))→Option R26
 | 0,_,_,_,_,_=>none
 | m + 1,x0,x1,x2,x3,x4=>st26_L7 n (p26_L7 n m) (p26_L15 n n) x0 x1 x2 x3 x4
noncomputable def p26 (n:Nat) (a:List (Bool × Lq × List Int × Lb)) (b:Int):Option R26:=st26_top n (p26_L7 n n) a b
theorem t26_L15 (n:Nat):∀ (m15:Nat) (x0 x1:Int) (x2:List (Bool × Lq × List Int × Lb)),at26 n (.head 15) [m15] (sh26_L15 x0 x1 x2)=p26_L15 n m15 x0 x1 x2:=by
 intro m
 induction m with
 | zero=>intros; rw [e26_L15_0]; rfl
 | succ m ih =>
  intros
  rw [e26_L15]
  try simp only [ih]
  rfl
theorem t26_L7 (n:Nat):∀ (m7:Nat) (x0 x1:Int) (x2:Nat) (x3:Int) (x4:List (Bool × Lq × List Int × Lb)),at26 n (.head 7) [m7] (sh26_L7 x0 x1 x2 x3 x4)=p26_L7 n m7 x0 x1 x2 x3 x4:=by
 intro m
 induction m with
 | zero=>intros; rw [e26_L7_0]; rfl
 | succ m ih =>
  intros
  rw [e26_L7]
  try simp only [t26_L15,ih]
  rfl
theorem F26_eq (n:Nat) (a:List (Bool × Lq × List Int × Lb)) (b:Int):runF TT G26 an26 Try.f26 c26 ps26 rs26 n (a,b,())=p26 n a b:=by
 rw [e26_top]
 simp only [t26_L7]
 try rfl
noncomputable def q26 (n:Nat) (x:argsD ps26):Option R26:=p26 n x.1 x.2.1
noncomputable def Sm26:Sm:=⟨ps26,rs26,false,q26⟩
theorem holds26 (hg:GamOK Try.prog G26):Holds Try.prog 26 Sm26:=by
 have:=h0_26 hg
 have e:(runF TT G26 an26 Try.f26 c26 ps26 rs26)=q26:=by
  funext n x
  exact F26_eq n x.1 x.2.1
 rw [e] at this
 exact this
theorem gam26:GamOK Try.prog G26:=by
 intro f s h
 unfold G26 at h
 split at h
 ·injection h with h; subst h; exact ⟨⟨Try.f60,c60,Try.func60,by kernel_rfl,by decide +kernel⟩,hh60⟩
 ·injection h with h; subst h; exact ⟨⟨Try.f74,c74,Try.func74,by kernel_rfl,by decide +kernel⟩,hh74⟩
 ·injection h with h; subst h; exact ⟨⟨Try.f75,c75,Try.func75,by kernel_rfl,by decide +kernel⟩,hh75⟩
 ·injection h with h; subst h; exact ⟨⟨Try.f84,c84,Try.func84,by kernel_rfl,by decide +kernel⟩,hh84⟩
 ·injection h with h; subst h; exact ⟨⟨Try.f86,c86,Try.func86,by kernel_rfl,by decide +kernel⟩,hh86⟩
 ·injection h with h; subst h; exact ⟨⟨Try.f87,c87,Try.func87,by kernel_rfl,by decide +kernel⟩,hh87⟩
 ·injection h with h; subst h; exact ⟨⟨Try.f88,c88,Try.func88,by kernel_rfl,by decide +kernel⟩,hh88⟩
 ·injection h with h; subst h; exact ⟨⟨Try.f89,c89,Try.func89,by kernel_rfl,by decide +kernel⟩,hh89⟩
 ·injection h with h; subst h; exact ⟨⟨Try.f90,c90,Try.func90,by kernel_rfl,by decide +kernel⟩,hh90⟩
 ·cases h
theorem hh26:Holds Try.prog 26 Sm26:=holds26 gam26
end Go.Proofs.Ytdkaagpkeomhmaa.Rx.S

namespace Go.Proofs.Ytdkaagpkeomhmaa.Rx.S
open Go Go.RowKit Go.Proofs
set_option maxRecDepth 100000
noncomputable def c37:Code:=(Try.f37.body.getD .skip)
def an37:An:=⟨fun _=>⟨[],[]⟩,fun _ _=>none⟩
abbrev ps37:List PK:=[.val (.row 5 (.int .u8)) false]
abbrev rs37:List RK:=[.own tVi true,.val i64 false]
abbrev R37:=retsD rs37 × outsD ps37
noncomputable def G37:Gam:=fun f=>match f with | 45=>some Sm45 | 46=>some Sm46 | 48=>some Sm48 | 104=>some Sm104 | _=>none
theorem h0_37 (hg:GamOK Try.prog G37):Holds Try.prog 37 ⟨ps37,rs37,true,runF TT G37 an37 Try.f37 c37 ps37 rs37⟩:=holds_of tt_ok hg mixed Try.func37 (by kernel_rfl) (by rfl) (by decide +kernel)
noncomputable def st37_top (n:Nat) (a:List Int):Option R37 :=
 (q45 n (a,())).bind fun r0=>(q46 n ((r0.1.1.1,r0.1.1.2),())).bind fun r1=>(q104 n (((r1.1.1.1.1,r1.1.1.1.2),(r1.1.1.2.1.1,r1.1.1.2.1.2),r1.1.1.2.2.1,r1.1.1.2.2.2),())).bind fun r2=>(q48 n ((r1.2.1.1,r1.2.1.2),(7:Int),())).bind fun r3=>cond (decide ((0:Int)≤r3.1.1)) (cond (decide (r3.1.1 < (↑[(0:Int),(0:Int),(0:Int),(1:Int),(2:Int),(-1:Int),(5:Int)].length:Int))) (some ((r2.1.1,([(0:Int),(0:Int),(0:Int),(1:Int),(2:Int),(-1:Int),(5:Int)].getD (Int.toNat r3.1.1) (0:Int),())),())) (none)) (none)
theorem e37_top (n:Nat) (a:List Int):runF TT G37 an37 Try.f37 c37 ps37 rs37 n (a,())=st37_top n a:=by kernel_rfl
noncomputable def p37 (n:Nat) (a:List Int):Option R37:=st37_top n a
theorem F37_eq (n:Nat) (a:List Int):runF TT G37 an37 Try.f37 c37 ps37 rs37 n (a,())=p37 n a:=by
 rw [e37_top]
 skip
 try rfl
noncomputable def q37 (n:Nat) (x:argsD ps37):Option R37:=p37 n x.1
noncomputable def Sm37:Sm:=⟨ps37,rs37,true,q37⟩
theorem holds37 (hg:GamOK Try.prog G37):Holds Try.prog 37 Sm37:=by
 have:=h0_37 hg
 have e:(runF TT G37 an37 Try.f37 c37 ps37 rs37)=q37:=by
  funext n x
  exact F37_eq n x.1
 rw [e] at this
 exact this
theorem gam37:GamOK Try.prog G37:=by
 intro f s h
 unfold G37 at h
 split at h
 ·injection h with h; subst h; exact ⟨⟨Try.f45,c45,Try.func45,by kernel_rfl,by decide +kernel⟩,hh45⟩
 ·injection h with h; subst h; exact ⟨⟨Try.f46,c46,Try.func46,by kernel_rfl,by decide +kernel⟩,hh46⟩
 ·injection h with h; subst h; exact ⟨⟨Try.f48,c48,Try.func48,by kernel_rfl,by decide +kernel⟩,hh48⟩
 ·injection h with h; subst h; exact ⟨⟨Try.f104,c104,Try.func104,by kernel_rfl,by decide +kernel⟩,hh104⟩
 ·cases h
theorem hh37:Holds Try.prog 37 Sm37:=holds37 gam37
end Go.Proofs.Ytdkaagpkeomhmaa.Rx.S

namespace Go.Proofs.Ytdkaagpkeomhmaa.Rx.S
open Go Go.RowKit Go.Proofs
set_option maxRecDepth 100000
noncomputable def c9:Code:=(Try.f9.body.getD .skip)
def an9:An:=⟨fun r=>match r with | 11=>⟨[3,4,5,10,11],[]⟩ | 18=>⟨[3,4,5,10,12],[]⟩ | _=>⟨[],[]⟩,fun _ _=>none⟩
abbrev ps9:List PK:=[.val (.row 5 (.int .u8)) false]
abbrev rs9:List RK:=[.val .bool false]
abbrev R9:=retsD rs9 × outsD ps9
noncomputable def G9:Gam:=fun f=>match f with | 25=>some Sm25 | 26=>some Sm26 | 37=>some Sm37 | 38=>some Sm38 | 39=>some Sm39 | 40=>some Sm40 | _=>none
theorem h0_9 (hg:GamOK Try.prog G9):Holds Try.prog 9 ⟨ps9,rs9,false,runF TT G9 an9 Try.f9 c9 ps9 rs9⟩:=holds_of tt_ok hg mixed Try.func9 (by kernel_rfl) (by rfl) (by decide +kernel)
noncomputable def at9:Nat→Pt→List Nat→St→Option R9:=atF TT G9 an9 Try.f9 c9 _ _
def sh9_L18 (x0 x1 x2:Int) (x3 x4:List (Bool × Lq × List Int × Lb)):St:=(St.mk [Uu,Uu,Uu,AV.one (SV.bptr 1000000 0),AV.one (SV.int (Go.IntKind.i64) x0),AV.one (SV.bptr 1000001 0),Uu,Uu,Uu,Uu,AV.one (SV.int (Go.IntKind.i64) x1),Uu,AV.one (SV.int (Go.IntKind.i64) x2),Uu,Uu,Uu,Uu,Uu,Uu,Uu,Uu,Uu,Uu,Uu,Uu,Uu,Uu,Uu,Uu,Uu,Uu,Uu,Uu,Uu,Uu,Uu,Uu,Uu,Uu,Uu,Uu,Uu,Uu,Uu,Uu,Uu,Uu,Uu,Uu,Uu,Uu,Uu,Uu,Uu,Uu,Uu,Uu,Uu,Uu,Uu,Uu,Uu,Uu,Uu,Uu,Uu,Uu,Uu,Uu,Uu,Uu,Uu,Uu,Uu,Uu,Uu,Uu,Uu,Uu,Uu,Uu,Uu,Uu,Uu,Uu,Uu,Uu,Uu,Uu,Uu,Uu,Uu,Uu,Uu,Uu,Uu,Uu,Uu,Uu,Uu,Uu,Uu,Uu,Uu,Uu,Uu,Uu,Uu,Uu,Uu,Uu,Uu,Uu,Uu,Uu,Uu,Uu,Uu,Uu,Uu,Uu,Uu,Uu,Uu,Uu,Uu,Uu] ((1000000,(Ent.box ((SV.ref 1000002 0 [] Option.none) :: []))) :: ((1000001,(Ent.box ((SV.ref 1000003 0 [] Option.none) :: []))) :: ((1000002,(Ent.row (⟨75,Ty.bool.pair ((Ty.row (nat_lit 116) ((Ty.int Go.IntKind.i64).pair ((Ty.int Go.IntKind.i64).pair (Ty.bool.pair Ty.bool)))).pair ((Ty.row (nat_lit 3) (Ty.int Go.IntKind.i64)).pair (Ty.row (nat_lit 9) Ty.str))),x3⟩:Rw) 0 Option.none)) :: ((1000003,(Ent.row (⟨75,Ty.bool.pair ((Ty.row (nat_lit 116) ((Ty.int Go.IntKind.i64).pair ((Ty.int Go.IntKind.i64).pair (Ty.bool.pair Ty.bool)))).pair ((Ty.row (nat_lit 3) (Ty.int Go.IntKind.i64)).pair (Ty.row (nat_lit 9) Ty.str))),x4⟩:Rw) 0 Option.none)) :: [])))))
def sh9_L11 (x0 x1 x2:Int) (x3 x4:List (Bool × Lq × List Int × Lb)):St:=(St.mk [Uu,Uu,Uu,AV.one (SV.bptr 1000000 0),AV.one (SV.int (Go.IntKind.i64) x0),AV.one (SV.bptr 1000001 0),Uu,Uu,Uu,Uu,AV.one (SV.int (Go.IntKind.i64) x1),AV.one (SV.int (Go.IntKind.i64) x2),Uu,Uu,Uu,Uu,Uu,Uu,Uu,Uu,Uu,Uu,Uu,Uu,Uu,Uu,Uu,Uu,Uu,Uu,Uu,Uu,Uu,Uu,Uu,Uu,Uu,Uu,Uu,Uu,Uu,Uu,Uu,Uu,Uu,Uu,Uu,Uu,Uu,Uu,Uu,Uu,Uu,Uu,Uu,Uu,Uu,Uu,Uu,Uu,Uu,Uu,Uu,Uu,Uu,Uu,Uu,Uu,Uu,Uu,Uu,Uu,Uu,Uu,Uu,Uu,Uu,Uu,Uu,Uu,Uu,Uu,Uu,Uu,Uu,Uu,Uu,Uu,Uu,Uu,Uu,Uu,Uu,Uu,Uu,Uu,Uu,Uu,Uu,Uu,Uu,Uu,Uu,Uu,Uu,Uu,Uu,Uu,Uu,Uu,Uu,Uu,Uu,Uu,Uu,Uu,Uu,Uu,Uu,Uu,Uu,Uu,Uu,Uu,Uu,Uu,Uu] ((1000000,(Ent.box ((SV.ref 1000002 0 [] Option.none) :: []))) :: ((1000001,(Ent.box ((SV.ref 1000003 0 [] Option.none) :: []))) :: ((1000002,(Ent.row (⟨75,Ty.bool.pair ((Ty.row (nat_lit 116) ((Ty.int Go.IntKind.i64).pair ((Ty.int Go.IntKind.i64).pair (Ty.bool.pair Ty.bool)))).pair ((Ty.row (nat_lit 3) (Ty.int Go.IntKind.i64)).pair (Ty.row (nat_lit 9) Ty.str))),x3⟩:Rw) 0 Option.none)) :: ((1000003,(Ent.row (⟨75,Ty.bool.pair ((Ty.row (nat_lit 116) ((Ty.int Go.IntKind.i64).pair ((Ty.int Go.IntKind.i64).pair (Ty.bool.pair Ty.bool)))).pair ((Ty.row (nat_lit 3) (Ty.int Go.IntKind.i64)).pair (Ty.row (nat_lit 9) Ty.str))),x4⟩:Rw) 0 Option.none)) :: [])))))
noncomputable def st9_top (n:Nat) (lL11:Int→Int→Int→(List (Bool × Lq × List Int × Lb))→(List (Bool × Lq × List Int × Lb))→Option R9) (a:List Int):Option R9 :=
 cond (decide ((1048576:Int) < (↑a.length:Int))) (some ((true,()),())) ((q37 n (a,())).bind fun r0=>(q26 n (r0.1.1,r0.1.2.1,())).bind fun r1=>(q25 n (r0.1.1,r0.1.2.1,())).bind fun r2=>(q38 n (r1.1.1,r2.1.1,())).bind fun r3=>cond (r3.1.1) (cond (!r1.1.2.1 == r2.1.2.1) (some ((r1.1.2.1 == r2.1.2.1,()),())) (cond (!r1.1.2.1) (some ((r1.1.2.1 == r2.1.2.1,()),())) (lL11 (r0.1.2.1) ((-1:Int)) ((0:Int)) (r0.1.1) (r1.1.1)))) (some ((false,()),())))
noncomputable def st9_L18 (n:Nat) (lL18:Int→Int→Int→(List (Bool × Lq × List Int × Lb))→(List (Bool × Lq × List Int × Lb))→Option R9) (x0 x1 x2:Int) (x3 x4:List (Bool × Lq × List Int × Lb)):Option R9 :=
 cond (decide (x2 < (↑x3.length:Int))) (cond (!decide (x2=x1)) (cond (decide ((0:Int)≤x2)) (cond (decide (x2 < (↑x3.length:Int))) (cond (decide ((0:Int)≤x2)) (cond (decide (x2 < (↑x4.length:Int))) ((q39 n ((x3.getD x2.toNat (false,[],[],[])).2.2.2,(x4.getD x2.toNat (false,[],[],[])).2.2.2,())).bind fun r6=>cond (!r6.1.1) (some ((false,()),())) (lL18 (x0) (x1) (Go.IntKind.i64.wrap (x2 + (1:Int))) (x3) (x4))) (none)) (none)) (none)) (none)) (lL18 (x0) (x1) (Go.IntKind.i64.wrap (x2 + (1:Int))) (x3) (x4))) (cond (decide ((0:Int)≤x1)) (cond (decide (x1 < (↑x4.length:Int))) (cond (decide ((0:Int)≤x0)) (cond (decide (x0 < (↑x3.length:Int))) ((q39 n ((x4.getD x1.toNat (false,[],[],[])).2.2.2,(x3.getD x0.toNat (false,[],[],[])).2.2.2,())).bind fun r7=>cond (r7.1.1) (cond (decide ((0:Int)≤x1)) (cond (decide (x1 < (↑x4.length:Int))) (cond (decide ((0:Int)≤x0)) (cond (decide (x0 < (↑x3.length:Int))) ((q40 n ((x4.getD x1.toNat (false,[],[],[])).2.1,(x3.getD x0.toNat (false,[],[],[])).2.1,())).bind fun r8=>some ((r8.1.1,()),())) (none)) (none)) (none)) (none)) (some ((false,()),()))) (none)) (none)) (none)) (none))
noncomputable def st9_L11 (n:Nat) (lL11:Int→Int→Int→(List (Bool × Lq × List Int × Lb))→(List (Bool × Lq × List Int × Lb))→Option R9) (lL18:Int→Int→Int→(List (Bool × Lq × List Int × Lb))→(List (Bool × Lq × List Int × Lb))→Option R9) (x0 x1 x2:Int) (x3 x4:List (Bool × Lq × List Int × Lb)):Option R9 :=
 cond (decide (x2 < (↑x3.length:Int))) (cond (decide ((0:Int)≤x2)) (cond (decide (x2 < (↑x3.length:Int))) (cond (!(x3.getD x2.toNat (false,[],[],[])).1) (cond (decide ((0:Int)≤x2)) (cond (decide (x2 < (↑x4.length:Int))) (cond ((x4.getD x2.toNat (false,[],[],[])).1) (lL11 (x0) (x2) (Go.IntKind.i64.wrap (x2 + (1:Int))) (x3) (x4)) (lL11 (x0) (x1) (Go.IntKind.i64.wrap (x2 + (1:Int))) (x3) (x4))) (none)) (none)) (lL11 (x0) (x1) (Go.IntKind.i64.wrap (x2 + (1:Int))) (x3) (x4))) (none)) (none)) (cond (decide (x1 < (0:Int))) (some ((false,()),())) (lL18 (x0) (x1) ((0:Int)) (x3) (x4)))
theorem e9_top (n:Nat) (a:List Int):runF TT G9 an9 Try.f9 c9 ps9 rs9 n (a,())=st9_top n (fun x0 x1 x2 x3 x4=>at9 n (.head 11) [n] (sh9_L11 x0 x1 x2 x3 x4)) a:=by kernel_rfl
theorem e9_L18_0 (n:Nat) (x0 x1 x2:Int) (x3 x4:List (Bool × Lq × List Int × Lb)):at9 n (.head 18) [0] (sh9_L18 x0 x1 x2 x3 x4)=none:=by kernel_rfl
theorem e9_L18 (n:Nat) (m18:Nat) (x0 x1 x2:Int) (x3 x4:List (Bool × Lq × List Int × Lb)):at9 n (.head 18) [m18 + 1] (sh9_L18 x0 x1 x2 x3 x4)=st9_L18 n (fun x0 x1 x2 x3 x4=>at9 n (.head 18) [m18] (sh9_L18 x0 x1 x2 x3 x4)) x0 x1 x2 x3 x4:=by kernel_rfl
theorem e9_L11_0 (n:Nat) (x0 x1 x2:Int) (x3 x4:List (Bool × Lq × List Int × Lb)):at9 n (.head 11) [0] (sh9_L11 x0 x1 x2 x3 x4)=none:=by kernel_rfl
theorem e9_L11 (n:Nat) (m11:Nat) (x0 x1 x2:Int) (x3 x4:List (Bool × Lq × List Int × Lb)):at9 n (.head 11) [m11 + 1] (sh9_L11 x0 x1 x2 x3 x4)=st9_L11 n (fun x0 x1 x2 x3 x4=>at9 n (.head 11) [m11] (sh9_L11 x0 x1 x2 x3 x4)) (fun x0 x1 x2 x3 x4=>at9 n (.head 18) [n] (sh9_L18 x0 x1 x2 x3 x4)) x0 x1 x2 x3 x4:=by kernel_rfl
noncomputable def p9_L18 (n:Nat):Nat→Int→Int→Int→(List (Bool × Lq × List Int × Lb))→(List (Bool × Lq × List Int × Lb))→Option R9
 | 0,_,_,_,_,_=>none
 | m + 1,x0,x1,x2,x3,x4=>st9_L18 n (p9_L18 n m) x0 x1 x2 x3 x4
noncomputable def p9_L11 (n:Nat):Nat→Int→Int→Int→(List (Bool × Lq × List Int × Lb))→(List (Bool × Lq × List Int × Lb))→Option R9
 | 0,_,_,_,_,_=>none
 | m + 1,x0,x1,x2,x3,x4=>st9_L11 n (p9_L11 n m) (p9_L18 n n) x0 x1 x2 x3 x4
noncomputable def p9 (n:Nat) (a:List Int):Option R9:=st9_top n (p9_L11 n n) a
theorem t9_L18 (n:Nat):∀ (m18:Nat) (x0 x1 x2:Int) (x3 x4:List (Bool × Lq × List Int × Lb)),at9 n (.head 18) [m18] (sh9_L18 x0 x1 x2 x3 x4)=p9_L18 n m18 x0 x1 x2 x3 x4:=by
 intro m
 induction m with
 | zero=>intros; rw [e9_L18_0]; rfl
 | succ m ih =>
  intros
  rw [e9_L18]
  try simp only [ih]
  rfl
theorem t9_L11 (n:Nat):∀ (m11:Nat) (x0 x1 x2:Int) (x3 x4:List (Bool × Lq × List Int × Lb)),at9 n (.head 11) [m11] (sh9_L11 x0 x1 x2 x3 x4)=p9_L11 n m11 x0 x1 x2 x3 x4:=by
 intro m
 induction m with
 | zero=>intros; rw [e9_L11_0]; rfl
 | succ m ih =>
  intros
  rw [e9_L11]
  try simp only [t9_L18,ih]
  rfl
theorem F9_eq (n:Nat) (a:List Int):runF TT G9 an9 Try.f9 c9 ps9 rs9 n (a,())=p9 n a:=by
 rw [e9_top]
 simp only [t9_L11]
 try rfl
noncomputable def q9 (n:Nat) (x:argsD ps9):Option R9:=p9 n x.1
noncomputable def Sm9:Sm:=⟨ps9,rs9,false,q9⟩
theorem holds9 (hg:GamOK Try.prog G9):Holds Try.prog 9 Sm9:=by
 have:=h0_9 hg
 have e:(runF TT G9 an9 Try.f9 c9 ps9 rs9)=q9:=by
  funext n x
  exact F9_eq n x.1
 rw [e] at this
 exact this
theorem gam9:GamOK Try.prog G9:=by
 intro f s h
 unfold G9 at h
 split at h
 ·injection h with h; subst h; exact ⟨⟨Try.f25,c25,Try.func25,by kernel_rfl,by decide +kernel⟩,hh25⟩
 ·injection h with h; subst h; exact ⟨⟨Try.f26,c26,Try.func26,by kernel_rfl,by decide +kernel⟩,hh26⟩
 ·injection h with h; subst h; exact ⟨⟨Try.f37,c37,Try.func37,by kernel_rfl,by decide +kernel⟩,hh37⟩
 ·injection h with h; subst h; exact ⟨⟨Try.f38,c38,Try.func38,by kernel_rfl,by decide +kernel⟩,hh38⟩
 ·injection h with h; subst h; exact ⟨⟨Try.f39,c39,Try.func39,by kernel_rfl,by decide +kernel⟩,hh39⟩
 ·injection h with h; subst h; exact ⟨⟨Try.f40,c40,Try.func40,by kernel_rfl,by decide +kernel⟩,hh40⟩
 ·cases h
theorem hh9:Holds Try.prog 9 Sm9:=holds9 gam9
end Go.Proofs.Ytdkaagpkeomhmaa.Rx.S

