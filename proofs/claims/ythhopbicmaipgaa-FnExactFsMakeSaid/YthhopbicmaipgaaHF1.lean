/- What the functions of this seat compute, each as a plain function on lists and numbers, with the proof that a call answers so. No condition. -/
import Derived.WalkKit
import Derived.Lib.Walk
import Derived.Lib.Bytealg
import Derived.Laws.Externs
import Derived.Lib.AppendZerosOnto
import Derived.Laws.NewBlocks
import Derived.Test.YthhopbicmaipgaaHF0
set_option linter.unusedVariables false
set_option linter.unusedSimpArgs false
namespace Go.Proofs.Ythhopbicmaipgaa.Rx.S
open Go Go.RowKit Go.Proofs
set_option maxRecDepth 100000
noncomputable def c64:Code:=(Try.f64.body.getD .skip)
def an64:An:=⟨fun _=>⟨[],[]⟩,fun _ _=>none⟩
abbrev ps64:List PK:=[.val tFs true,.val i64 false]
abbrev rs64:List RK:=[.val .bool false]
abbrev R64:=retsD rs64 × outsD ps64
noncomputable def G64:Gam:=fun f=>match f with | 66=>some Sm66 | _=>none
theorem h0_64 (hg:GamOK Try.prog G64):Holds Try.prog 64 ⟨ps64,rs64,false,runF TT G64 an64 Try.f64 c64 ps64 rs64⟩:=holds_of tt_ok hg mixed Try.func64 (by kernel_rfl) (by rfl) (by decide +kernel)
noncomputable def st64_top (n:Nat) (a:List NT) (b:Int):Option R64 :=
 (q66 n (b,(0:Int),Go.IntKind.i64.wrap ((↑a.length:Int) - (1:Int)),())).bind fun r0=>cond (r0.1.1) (cond (decide ((0:Int)≤b)) (cond (decide (b < (↑a.length:Int))) (some ((!decide ((a.getD b.toNat ZN).1=(0:Int)),()),())) (none)) (none)) (some ((false,()),()))
theorem e64_top (n:Nat) (a:List NT) (b:Int):runF TT G64 an64 Try.f64 c64 ps64 rs64 n (a,b,())=st64_top n a b:=by kernel_rfl
noncomputable def p64 (n:Nat) (a:List NT) (b:Int):Option R64:=st64_top n a b
theorem F64_eq (n:Nat) (a:List NT) (b:Int):runF TT G64 an64 Try.f64 c64 ps64 rs64 n (a,b,())=p64 n a b:=by
 rw [e64_top]
 skip
 try rfl
noncomputable def q64 (n:Nat) (x:argsD ps64):Option R64:=p64 n x.1 x.2.1
noncomputable def Sm64:Sm:=⟨ps64,rs64,false,q64⟩
theorem holds64 (hg:GamOK Try.prog G64):Holds Try.prog 64 Sm64:=by
 have:=h0_64 hg
 have e:(runF TT G64 an64 Try.f64 c64 ps64 rs64)=q64:=by
  funext n x
  exact F64_eq n x.1 x.2.1
 rw [e] at this
 exact this
theorem gam64:GamOK Try.prog G64:=by
 intro f s h
 unfold G64 at h
 split at h
 ·injection h with h; subst h; exact ⟨⟨Try.f66,c66,Try.func66,by kernel_rfl,by decide +kernel⟩,hh66⟩
 ·cases h
theorem hh64:Holds Try.prog 64 Sm64:=holds64 gam64
end Go.Proofs.Ythhopbicmaipgaa.Rx.S

namespace Go.Proofs.Ythhopbicmaipgaa.Rx.S
open Go Go.RowKit Go.Proofs
set_option maxRecDepth 100000
noncomputable def c68:Code:=(Try.f68.body.getD .skip)
def an68:An:=⟨fun r=>match r with | 3=>⟨[1,2,3,4],[]⟩ | _=>⟨[],[]⟩,fun _ _=>none⟩
abbrev ps68:List PK:=[.val tFs true]
abbrev rs68:List RK:=[.own tFs true]
abbrev R68:=retsD rs68 × outsD ps68
noncomputable def G68:Gam:=fun _=>none
theorem h0_68 (hg:GamOK Try.prog G68):Holds Try.prog 68 ⟨ps68,rs68,false,runF TT G68 an68 Try.f68 c68 ps68 rs68⟩:=holds_of tt_ok hg mixed Try.func68 (by kernel_rfl) (by rfl) (by decide +kernel)
noncomputable def at68:Nat→Pt→List Nat→St→Option R68:=atF TT G68 an68 Try.f68 c68 _ _
def sh68_L3 (x0:Int) (x1:List NT) (x2:List NT):St:=(St.mk (AV.undef :: ((AV.one (SV.bptr 1000000 0)) :: ((AV.one (SV.bptr 1000001 0)) :: ((AV.one (SV.bptr 1000002 0)) :: ((AV.one (SV.int (Go.IntKind.i64) x0)) :: (AV.undef :: (AV.undef :: (AV.undef :: (AV.undef :: (AV.undef :: (AV.undef :: (AV.undef :: (AV.undef :: (AV.undef :: (AV.undef :: (AV.undef :: (AV.undef :: (AV.undef :: (AV.undef :: (AV.undef :: (AV.undef :: (AV.undef :: (AV.undef :: (AV.undef :: (AV.undef :: (AV.undef :: (AV.undef :: (AV.undef :: (AV.undef :: (AV.undef :: (AV.undef :: (AV.undef :: [])))))))))))))))))))))))))))))))) ((1000000,(Ent.box ((SV.con (⟨39,(Ty.int Go.IntKind.i64).pair ((Ty.int Go.IntKind.i64).pair ((Ty.int Go.IntKind.i64).pair ((Ty.int Go.IntKind.i64).pair ((Ty.int Go.IntKind.i64).pair ((Ty.int Go.IntKind.i64).pair (Ty.bool.pair (Ty.str.pair (Ty.row (nat_lit 95) (Ty.str.pair (Ty.int Go.IntKind.i64)))))))))),x1⟩:Rw)) :: []))) :: ((1000001,(Ent.box (SV.nil :: []))) :: ((1000002,(Ent.box ((SV.ref 1000003 0 [] Option.none) :: []))) :: ((1000003,(Ent.row (⟨39,(Ty.int Go.IntKind.i64).pair ((Ty.int Go.IntKind.i64).pair ((Ty.int Go.IntKind.i64).pair ((Ty.int Go.IntKind.i64).pair ((Ty.int Go.IntKind.i64).pair ((Ty.int Go.IntKind.i64).pair (Ty.bool.pair (Ty.str.pair (Ty.row (nat_lit 95) (Ty.str.pair (Ty.int Go.IntKind.i64)))))))))),x2⟩:Rw) 0 Option.none)) :: [])))))
noncomputable def st68_top (n:Nat) (lL3:Int→(List NT)→(List NT)→Option R68) (a:List NT):Option R68 :=
 lL3 ((0:Int)) (a) ([])
noncomputable def st68_L3 (n:Nat) (lL3:Int→(List NT)→(List NT)→Option R68) (x0:Int) (x1:List NT) (x2:List NT):Option R68 :=
 cond (decide (x0 < (↑x1.length:Int))) (cond (decide ((0:Int)≤x0)) (cond (decide (x0 < (↑x1.length:Int))) (cond (decide (((0:Nat) + List.length (x1.getD x0.toNat ZN).2.2.2.2.2.2.2.2) * (24:Nat)≤(140737488355328:Nat))) (cond (decide ((x2.length + [((x1.getD x0.toNat ZN).1,(x1.getD x0.toNat ZN).2.1,(x1.getD x0.toNat ZN).2.2.1,(x1.getD x0.toNat ZN).2.2.2.1,(x1.getD x0.toNat ZN).2.2.2.2.1,(x1.getD x0.toNat ZN).2.2.2.2.2.1,(x1.getD x0.toNat ZN).2.2.2.2.2.2.1,(x1.getD x0.toNat ZN).2.2.2.2.2.2.2.1,(x1.getD x0.toNat ZN).2.2.2.2.2.2.2.2)].length) * (96:Nat)≤(140737488355328:Nat))) (lL3 (Go.IntKind.i64.wrap (x0 + (1:Int))) (x1) (x2 ++ [((x1.getD x0.toNat ZN).1,(x1.getD x0.toNat ZN).2.1,(x1.getD x0.toNat ZN).2.2.1,(x1.getD x0.toNat ZN).2.2.2.1,(x1.getD x0.toNat ZN).2.2.2.2.1,(x1.getD x0.toNat ZN).2.2.2.2.2.1,(x1.getD x0.toNat ZN).2.2.2.2.2.2.1,(x1.getD x0.toNat ZN).2.2.2.2.2.2.2.1,(x1.getD x0.toNat ZN).2.2.2.2.2.2.2.2)])) (none)) (none)) (none)) (none)) (some ((x2,()),()))
theorem e68_top (n:Nat) (a:List NT):runF TT G68 an68 Try.f68 c68 ps68 rs68 n (a,())=st68_top n (fun x0 x1 x2=>at68 n (.head 3) [n] (sh68_L3 x0 x1 x2)) a:=by kernel_rfl
theorem e68_L3_0 (n:Nat) (x0:Int) (x1:List NT) (x2:List NT):at68 n (.head 3) [0] (sh68_L3 x0 x1 x2)=none:=by kernel_rfl
theorem e68_L3 (n:Nat) (m3:Nat) (x0:Int) (x1:List NT) (x2:List NT):at68 n (.head 3) [m3 + 1] (sh68_L3 x0 x1 x2)=st68_L3 n (fun x0 x1 x2=>at68 n (.head 3) [m3] (sh68_L3 x0 x1 x2)) x0 x1 x2:=by kernel_rfl
noncomputable def p68_L3 (n:Nat):Nat→Int→(List NT)→(List NT)→Option R68
 | 0,_,_,_=>none
 | m + 1,x0,x1,x2=>st68_L3 n (p68_L3 n m) x0 x1 x2
noncomputable def p68 (n:Nat) (a:List NT):Option R68:=st68_top n (p68_L3 n n) a
theorem t68_L3 (n:Nat):∀ (m3:Nat) (x0:Int) (x1:List NT) (x2:List NT),at68 n (.head 3) [m3] (sh68_L3 x0 x1 x2)=p68_L3 n m3 x0 x1 x2:=by
 intro m
 induction m with
 | zero=>intros; rw [e68_L3_0]; rfl
 | succ m ih =>
  intros
  rw [e68_L3]
  try simp only [ih]
  rfl
theorem F68_eq (n:Nat) (a:List NT):runF TT G68 an68 Try.f68 c68 ps68 rs68 n (a,())=p68 n a:=by
 rw [e68_top]
 simp only [t68_L3]
 try rfl
noncomputable def q68 (n:Nat) (x:argsD ps68):Option R68:=p68 n x.1
noncomputable def Sm68:Sm:=⟨ps68,rs68,false,q68⟩
theorem holds68 (hg:GamOK Try.prog G68):Holds Try.prog 68 Sm68:=by
 have:=h0_68 hg
 have e:(runF TT G68 an68 Try.f68 c68 ps68 rs68)=q68:=by
  funext n x
  exact F68_eq n x.1
 rw [e] at this
 exact this
theorem gam68:GamOK Try.prog G68:=fun _ _ h=>by cases h
theorem hh68:Holds Try.prog 68 Sm68:=holds68 gam68
end Go.Proofs.Ythhopbicmaipgaa.Rx.S

namespace Go.Proofs.Ythhopbicmaipgaa.Rx.S
open Go Go.RowKit Go.Proofs
set_option maxRecDepth 100000
abbrev ps81:List PK:=[.own tFs true,.val i64 false,.val i64 false,.val .str false]
abbrev rs81:List RK:=[.own tFs true,.val i64 false]
abbrev R81:=retsD rs81 × outsD ps81
noncomputable def st81_top (n:Nat) (lL8:Int→Int→ByteArray→ByteArray→(List NT)→Option R81) (a:List NT) (b:Int) (c:Int) (d:ByteArray):Option R81 :=
 cond (decide ((0:Int)≤b)) (cond (decide (b < (↑a.length:Int))) (cond (decide ((0:Int)≤b)) (cond (decide (b < (↑a.length:Int))) (cond (!decide ((a.getD b.toNat ZN).1=(1:Int))) (some ((a,((4:Int),())),())) (cond (decide ((40:Int) < c)) (some ((a,((7:Int),())),())) (cond (decide ((40:Int) < Go.IntKind.i64.wrap (c + (↑d.size:Int)))) (some ((a,((7:Int),())),())) (cond (d.toList == (ByteArray.mk #[]).toList) (some ((a,((0:Int),())),())) (lL8 (b) (c) (d) ((a.getD b.toNat ZN).2.2.2.2.2.2.2.1) (a)))))) (none)) (none)) (none)) (none)
noncomputable def st81_L8 (n:Nat) (lL8:Int→Int→ByteArray→ByteArray→(List NT)→Option R81) (x0:Int) (x1:Int) (x2:ByteArray) (x3:ByteArray) (x4:List NT):Option R81 :=
 cond (decide ((↑x3.size:Int) < x1)) (cond (decide (x3.size + (List.foldl (fun r n=>r.push (UInt8.ofNat n.toNat)) ByteArray.empty [(0:Int)]).size≤(9223372036854775807:Nat))) (lL8 (x0) (x1) (x2) (x3 ++ List.foldl (fun r n=>r.push (UInt8.ofNat n.toNat)) ByteArray.empty [(0:Int)]) (x4)) (none)) (cond (decide ((0:Int)≤x1)) (cond (decide (x1≤(↑x3.size:Int))) (cond (decide ((x3.extract (Int.toNat (0:Int)) x1.toNat).size + x2.size≤(9223372036854775807:Nat))) (cond (decide ((0:Int)≤if Go.IntKind.i64.wrap (x1 + (↑x2.size:Int)) < (↑x3.size:Int) then Go.IntKind.i64.wrap (x1 + (↑x2.size:Int)) else (↑x3.size:Int))) (cond (decide ((if Go.IntKind.i64.wrap (x1 + (↑x2.size:Int)) < (↑x3.size:Int) then Go.IntKind.i64.wrap (x1 + (↑x2.size:Int)) else (↑x3.size:Int))≤(↑x3.size:Int))) (cond (decide ((x3.extract (Int.toNat (0:Int)) x1.toNat ++ x2).size + (x3.extract (if Go.IntKind.i64.wrap (x1 + (↑x2.size:Int)) < (↑x3.size:Int) then Go.IntKind.i64.wrap (x1 + (↑x2.size:Int)) else (↑x3.size:Int)).toNat (↑x3.size:Int).toNat).size≤(9223372036854775807:Nat))) (cond (decide ((0:Int)≤x0)) (cond (decide (x0 < (↑x4.length:Int))) (some ((x4.set x0.toNat ((x4.getD x0.toNat ZN).1,(x4.getD x0.toNat ZN).2.1,(x4.getD x0.toNat ZN).2.2.1,(x4.getD x0.toNat ZN).2.2.2.1,(x4.getD x0.toNat ZN).2.2.2.2.1,(x4.getD x0.toNat ZN).2.2.2.2.2.1,(x4.getD x0.toNat ZN).2.2.2.2.2.2.1,x3.extract (Int.toNat (0:Int)) x1.toNat ++ x2 ++ x3.extract (if Go.IntKind.i64.wrap (x1 + (↑x2.size:Int)) < (↑x3.size:Int) then Go.IntKind.i64.wrap (x1 + (↑x2.size:Int)) else (↑x3.size:Int)).toNat (↑x3.size:Int).toNat,(x4.getD x0.toNat ZN).2.2.2.2.2.2.2.2),((0:Int),())),())) (none)) (none)) (none)) (none)) (none)) (none)) (none)) (none))
noncomputable def p81_L8 (n:Nat):Nat→Int→Int→ByteArray→ByteArray→(List NT)→Option R81
 | 0,_,_,_,_,_=>none
 | m + 1,x0,x1,x2,x3,x4=>st81_L8 n (p81_L8 n m) x0 x1 x2 x3 x4
noncomputable def p81 (n:Nat) (a:List NT) (b:Int) (c:Int) (d:ByteArray):Option R81:=st81_top n (p81_L8 n n) a b c d
noncomputable def q81 (n:Nat) (x:argsD ps81):Option R81:=p81 n x.1 x.2.1 x.2.2.1 x.2.2.2.1
end Go.Proofs.Ythhopbicmaipgaa.Rx.S

namespace Go.Proofs.Ythhopbicmaipgaa.Rx.S
open Go Go.RowKit Go.Proofs
set_option maxRecDepth 100000
abbrev ps30:List PK:=[.val tFs true,.val i64 false,.val i64 false,.val .str false]
abbrev rs30:List RK:=[.own tFs true,.val i64 false]
abbrev R30:=retsD rs30 × outsD ps30
noncomputable def st30_top (n:Nat) (a:List NT) (b:Int) (c:Int) (d:ByteArray):Option R30 :=
 (q62 n (a,())).bind fun r0=>cond (!r0.1.1) (some (([],((1:Int),())),())) ((q64 n (a,b,())).bind fun r1=>cond (!r1.1.1) (some (([],((1:Int),())),())) (cond (decide (c < (0:Int))) (some (([],((1:Int),())),())) ((q68 n (a,())).bind fun r2=>(q81 n (r2.1.1,b,c,d,())).bind fun r3=>some ((r3.1.1,(r3.1.2.1,())),()))))
noncomputable def p30 (n:Nat) (a:List NT) (b:Int) (c:Int) (d:ByteArray):Option R30:=st30_top n a b c d
noncomputable def q30 (n:Nat) (x:argsD ps30):Option R30:=p30 n x.1 x.2.1 x.2.2.1 x.2.2.2.1
end Go.Proofs.Ythhopbicmaipgaa.Rx.S

namespace Go.Proofs.Ythhopbicmaipgaa.Rx.S
open Go Go.RowKit Go.Proofs
set_option maxRecDepth 100000
noncomputable def c93:Code:=(Try.f93.body.getD .skip)
abbrev ps93:List PK:=[.val (.row 39 (tIn 95)) false]
abbrev rs93:List RK:=[.half 39 (tIn 95) 8]
abbrev R93:=retsD rs93 × outsD ps93
noncomputable def p93 (n:Nat) (a:List NT):Option R93:=cond (decide (a.length * (96:Nat)≤(140737488355328:Nat))) (some ((a,()),())) none
noncomputable def q93 (n:Nat) (x:argsD ps93):Option R93:=p93 n x.1
noncomputable def Sm93:Sm:=⟨ps93,rs93,true,q93⟩
noncomputable def S0_93 (n:Nat) (xs:List NT):St:=(initS Try.f93.ntmps ps93 (xs,())).put (some 2) (.one .nil)
noncomputable def S1_93 (n:Nat) (xs:List NT):St:=(S0_93 n xs).put (some 3) (.one (.con ⟨39,(tIn 95),xs⟩))
theorem gam0_93:GamOK Try.prog (fun _=>none):=fun f s h=>by cases h
theorem hh93:Holds Try.prog 93 Sm93:=by
 refine holds_nilq tt_ok gam0_93 mixed (an:=⟨fun _=>⟨[],[]⟩,fun _ _=>none⟩) Try.func93 (by rfl) rfl (by first | exact Try.underlying23 | kernel_rfl) (by decide +kernel) S0_93 (fun n xs=>by kernel_rfl) S1_93 (fun n xs=>by kernel_rfl) (fun n xs=>rfl) (fun n xs b=>by kernel_rfl) (fun n y h=>?_) (fun n xs y h=>?_)
 ·have h':some (([],()),())=some y:=h
  refine Eq.trans ?_ h'
  kernel_rfl
 ·have h':cond (decide (xs.length * (96:Nat)≤(140737488355328:Nat))) (some ((xs,()),())) none=some y:=h
  refine Eq.trans ?_ h'
  kernel_rfl
end Go.Proofs.Ythhopbicmaipgaa.Rx.S

namespace Go.Proofs.Ythhopbicmaipgaa.Rx.S
open Go Go.RowKit Go.Proofs
set_option maxRecDepth 100000
noncomputable def c94:Code:=(Try.f94.body.getD .skip)
abbrev ps94:List PK:=[.val (.row 95 tEn) false]
abbrev rs94:List RK:=[.own (.row 95 tEn) false]
abbrev R94:=retsD rs94 × outsD ps94
noncomputable def p94 (n:Nat) (a:List (ByteArray × Int)):Option R94:=cond (decide ((0 + a.length) * (24:Nat)≤(140737488355328:Nat))) (some ((a,()),())) none
noncomputable def q94 (n:Nat) (x:argsD ps94):Option R94:=p94 n x.1
noncomputable def Sm94:Sm:=⟨ps94,rs94,false,q94⟩
noncomputable def S0_94 (n:Nat) (xs:List (ByteArray × Int)):St:=(initS Try.f94.ntmps ps94 (xs,())).put (some 2) (.one .nil)
noncomputable def S1_94 (n:Nat) (xs:List (ByteArray × Int)):St:=(S0_94 n xs).put (some 3) (.one (.con ⟨95,tEn,xs⟩))
theorem gam0_94:GamOK Try.prog (fun _=>none):=fun f s h=>by cases h
theorem hh94:Holds Try.prog 94 Sm94:=by
 refine holds_nilq tt_ok gam0_94 mixed (an:=⟨fun _=>⟨[],[]⟩,fun _ _=>none⟩) Try.func94 (by rfl) rfl (by first | exact Try.underlying37 | kernel_rfl) (by decide +kernel) S0_94 (fun n xs=>by kernel_rfl) S1_94 (fun n xs=>by kernel_rfl) (fun n xs=>rfl) (fun n xs b=>by kernel_rfl) (fun n y h=>?_) (fun n xs y h=>?_)
 ·have h':some (([],()),())=some y:=h
  refine Eq.trans ?_ h'
  kernel_rfl
 ·have h':cond (decide ((0 + xs.length) * (24:Nat)≤(140737488355328:Nat))) (some ((xs,()),())) none=some y:=h
  refine Eq.trans ?_ h'
  kernel_rfl
end Go.Proofs.Ythhopbicmaipgaa.Rx.S

namespace Go.Proofs.Ythhopbicmaipgaa.Rx.S
open Go Go.RowKit Go.Proofs
set_option maxRecDepth 100000
noncomputable def c56:Code:=(Try.f56.body.getD .skip)
def an56:An:=⟨fun r=>match r with | 3=>⟨[2,3,11,12],[]⟩ | _=>⟨[],[]⟩,fun _ _=>none⟩
abbrev ps56:List PK:=[.val tFs true]
abbrev rs56:List RK:=[.own tFs true]
abbrev R56:=retsD rs56 × outsD ps56
noncomputable def G56:Gam:=fun f=>match f with | 93=>some Sm93 | 94=>some Sm94 | _=>none
theorem h0_56 (hg:GamOK Try.prog G56):Holds Try.prog 56 ⟨ps56,rs56,false,runF TT G56 an56 Try.f56 c56 ps56 rs56⟩:=holds_of tt_ok hg mixed Try.func56 (by kernel_rfl) (by rfl) (by decide +kernel)
noncomputable def at56:Nat→Pt→List Nat→St→Option R56:=atF TT G56 an56 Try.f56 c56 _ _
def sh56_L3 (x0:Int) (x1:Int) (x2:List NT) (x3:Int):St:=(St.mk (AV.undef :: (AV.undef :: ((AV.one (SV.bptr 1000000 0)) :: ((AV.one (SV.bptr 1000001 0)) :: (AV.undef :: (AV.undef :: (AV.undef :: (AV.undef :: (AV.undef :: (AV.undef :: (AV.undef :: ((AV.one (SV.int (Go.IntKind.i64) x0)) :: ((AV.one (SV.int (Go.IntKind.i64) x1)) :: (AV.undef :: (AV.undef :: (AV.undef :: (AV.undef :: (AV.undef :: (AV.undef :: (AV.undef :: (AV.undef :: (AV.undef :: (AV.undef :: (AV.undef :: (AV.undef :: (AV.undef :: (AV.undef :: (AV.undef :: (AV.undef :: []))))))))))))))))))))))))))))) ((1000000,(Ent.box (SV.nil :: []))) :: ((1000001,(Ent.box ((SV.ref 1000002 0 [] Option.none) :: []))) :: ((1000002,(Ent.half (⟨39,(Ty.int Go.IntKind.i64).pair ((Ty.int Go.IntKind.i64).pair ((Ty.int Go.IntKind.i64).pair ((Ty.int Go.IntKind.i64).pair ((Ty.int Go.IntKind.i64).pair ((Ty.int Go.IntKind.i64).pair (Ty.bool.pair (Ty.str.pair (Ty.row (nat_lit 95) (Ty.str.pair (Ty.int Go.IntKind.i64)))))))))),x2⟩:Rw) x3 8)) :: []))))
noncomputable def st56_top (n:Nat) (lL3:Int→Int→(List NT)→Int→Option R56) (a:List NT):Option R56 :=
 (q93 n (a,())).bind fun r0=>lL3 ((↑(List.length r0.1.1):Int)) ((0:Int)) (r0.1.1) ((0:Int))
noncomputable def st56_L3 (n:Nat) (lL3:Int→Int→(List NT)→Int→Option R56) (x0:Int) (x1:Int) (x2:List NT) (x3:Int):Option R56 :=
 cond (decide (x1 < x0)) (cond (decide ((0:Int)≤x1)) (cond (decide (x1 < (↑x2.length:Int))) (cond (decide (x3≤(↑x1.toNat:Int))) ((q94 n ((x2.getD x1.toNat ZN).2.2.2.2.2.2.2.2,())).bind fun r2=>cond (decide ((0:Int)≤x1)) (cond (decide (x1 < (↑x2.length:Int))) (cond (decide (x3=(↑x1.toNat:Int))) (lL3 (x0) (Go.IntKind.i64.wrap (x1 + (1:Int))) (x2.set x1.toNat ((x2.getD x1.toNat ZN).1,(x2.getD x1.toNat ZN).2.1,(x2.getD x1.toNat ZN).2.2.1,(x2.getD x1.toNat ZN).2.2.2.1,(x2.getD x1.toNat ZN).2.2.2.2.1,(x2.getD x1.toNat ZN).2.2.2.2.2.1,(x2.getD x1.toNat ZN).2.2.2.2.2.2.1,(x2.getD x1.toNat ZN).2.2.2.2.2.2.2.1,r2.1.1)) (x3 + (1:Int))) (none)) (none)) (none)) (none)) (none)) (none)) (cond (decide ((↑x2.length:Int)≤x3)) (some ((x2,()),())) (none))
theorem e56_top (n:Nat) (a:List NT):runF TT G56 an56 Try.f56 c56 ps56 rs56 n (a,())=st56_top n (fun x0 x1 x2 x3=>at56 n (.head 3) [n] (sh56_L3 x0 x1 x2 x3)) a:=by kernel_rfl
theorem e56_L3_0 (n:Nat) (x0:Int) (x1:Int) (x2:List NT) (x3:Int):at56 n (.head 3) [0] (sh56_L3 x0 x1 x2 x3)=none:=by kernel_rfl
theorem e56_L3 (n:Nat) (m3:Nat) (x0:Int) (x1:Int) (x2:List NT) (x3:Int):at56 n (.head 3) [m3 + 1] (sh56_L3 x0 x1 x2 x3)=st56_L3 n (fun x0 x1 x2 x3=>at56 n (.head 3) [m3] (sh56_L3 x0 x1 x2 x3)) x0 x1 x2 x3:=by kernel_rfl
noncomputable def p56_L3 (n:Nat):Nat→Int→Int→(List NT)→Int→Option R56
 | 0,_,_,_,_=>none
 | m + 1,x0,x1,x2,x3=>st56_L3 n (p56_L3 n m) x0 x1 x2 x3
noncomputable def p56 (n:Nat) (a:List NT):Option R56:=st56_top n (p56_L3 n n) a
theorem t56_L3 (n:Nat):∀ (m3:Nat) (x0:Int) (x1:Int) (x2:List NT) (x3:Int),at56 n (.head 3) [m3] (sh56_L3 x0 x1 x2 x3)=p56_L3 n m3 x0 x1 x2 x3:=by
 intro m
 induction m with
 | zero=>intros; rw [e56_L3_0]; rfl
 | succ m ih =>
  intros
  rw [e56_L3]
  try simp only [ih]
  rfl
theorem F56_eq (n:Nat) (a:List NT):runF TT G56 an56 Try.f56 c56 ps56 rs56 n (a,())=p56 n a:=by
 rw [e56_top]
 simp only [t56_L3]
 try rfl
noncomputable def q56 (n:Nat) (x:argsD ps56):Option R56:=p56 n x.1
noncomputable def Sm56:Sm:=⟨ps56,rs56,false,q56⟩
theorem holds56 (hg:GamOK Try.prog G56):Holds Try.prog 56 Sm56:=by
 have:=h0_56 hg
 have e:(runF TT G56 an56 Try.f56 c56 ps56 rs56)=q56:=by
  funext n x
  exact F56_eq n x.1
 rw [e] at this
 exact this
theorem gam56:GamOK Try.prog G56:=by
 intro f s h
 unfold G56 at h
 split at h
 ·injection h with h; subst h; exact ⟨⟨Try.f93,c93,Try.func93,by kernel_rfl,by decide +kernel⟩,hh93⟩
 ·injection h with h; subst h; exact ⟨⟨Try.f94,c94,Try.func94,by kernel_rfl,by decide +kernel⟩,hh94⟩
 ·cases h
theorem hh56:Holds Try.prog 56 Sm56:=holds56 gam56
end Go.Proofs.Ythhopbicmaipgaa.Rx.S

namespace Go.Proofs.Ythhopbicmaipgaa.Rx.S
open Go Go.RowKit Go.Proofs
set_option maxRecDepth 100000
noncomputable def c82:Code:=(Try.f82.body.getD .skip)
def an82:An:=⟨fun _=>⟨[],[]⟩,fun _ _=>none⟩
abbrev ps82:List PK:=[.val tFs true,.val i64 false]
abbrev rs82:List RK:=[.val .bool false]
abbrev R82:=retsD rs82 × outsD ps82
noncomputable def G82:Gam:=fun f=>match f with | 55=>some Sm55 | _=>none
theorem h0_82 (hg:GamOK Try.prog G82):Holds Try.prog 82 ⟨ps82,rs82,false,runF TT G82 an82 Try.f82 c82 ps82 rs82⟩:=holds_of tt_ok hg mixed Try.func82 (by kernel_rfl) (by rfl) (by decide +kernel)
noncomputable def st82_top (n:Nat) (a:List NT) (b:Int):Option R82 :=
 (q55 n (b,(0:Int),Go.IntKind.i64.wrap ((↑a.length:Int) - (1:Int)),())).bind fun r0=>cond (r0.1.1) (cond (decide ((0:Int)≤b)) (cond (decide (b < (↑a.length:Int))) (some ((!decide ((a.getD b.toNat ZN).1=(0:Int)),()),())) (none)) (none)) (some ((false,()),()))
theorem e82_top (n:Nat) (a:List NT) (b:Int):runF TT G82 an82 Try.f82 c82 ps82 rs82 n (a,b,())=st82_top n a b:=by kernel_rfl
noncomputable def p82 (n:Nat) (a:List NT) (b:Int):Option R82:=st82_top n a b
theorem F82_eq (n:Nat) (a:List NT) (b:Int):runF TT G82 an82 Try.f82 c82 ps82 rs82 n (a,b,())=p82 n a b:=by
 rw [e82_top]
 skip
 try rfl
noncomputable def q82 (n:Nat) (x:argsD ps82):Option R82:=p82 n x.1 x.2.1
noncomputable def Sm82:Sm:=⟨ps82,rs82,false,q82⟩
theorem holds82 (hg:GamOK Try.prog G82):Holds Try.prog 82 Sm82:=by
 have:=h0_82 hg
 have e:(runF TT G82 an82 Try.f82 c82 ps82 rs82)=q82:=by
  funext n x
  exact F82_eq n x.1 x.2.1
 rw [e] at this
 exact this
theorem gam82:GamOK Try.prog G82:=by
 intro f s h
 unfold G82 at h
 split at h
 ·injection h with h; subst h; exact ⟨⟨Try.f55,c55,Try.func55,by kernel_rfl,by decide +kernel⟩,hh55⟩
 ·cases h
theorem hh82:Holds Try.prog 82 Sm82:=holds82 gam82
end Go.Proofs.Ythhopbicmaipgaa.Rx.S

namespace Go.Proofs.Ythhopbicmaipgaa.Rx.S
open Go Go.RowKit Go.Proofs
set_option maxRecDepth 100000
abbrev ps31:List PK:=[.val tFs true,.val i64 false,.val i64 false,.val .str false]
abbrev rs31:List RK:=[.own tFs true,.val i64 false]
abbrev R31:=retsD rs31 × outsD ps31
noncomputable def st31_top (n:Nat) (lL11:Int→ByteArray→Nat→(List NT)→Option R31) (a:List NT) (b:Int) (c:Int) (d:ByteArray):Option R31 :=
 (q36 n (a,())).bind fun r0=>cond (!r0.1.1) (some (([],((1:Int),())),())) ((q82 n (a,b,())).bind fun r1=>cond (!r1.1.1) (some (([],((1:Int),())),())) (cond (decide (c < (0:Int))) (some (([],((1:Int),())),())) ((q56 n (a,())).bind fun r2=>cond (decide ((0:Int)≤b)) (cond (decide (b < (↑(List.length r2.1.1):Int))) (cond (!decide ((List.getD r2.1.1 b.toNat ZN).1=(1:Int))) (some ((r2.1.1,((4:Int),())),())) (cond (decide ((40:Int) < c)) (some ((r2.1.1,((7:Int),())),())) (cond (decide ((40:Int) < Go.IntKind.i64.wrap (c + (↑d.size:Int)))) (some ((r2.1.1,((7:Int),())),())) (cond (d.toList == (ByteArray.mk #[]).toList) (some ((r2.1.1,((0:Int),())),())) (lL11 (c) (d) (b.toNat) (r2.1.1)))))) (none)) (none))))
noncomputable def st31_L11 (n:Nat) (lL11:Int→ByteArray→Nat→(List NT)→Option R31) (x0:Int) (x1:ByteArray) (x2:Nat) (x3:List NT):Option R31 :=
 cond (decide ((↑(ByteArray.size (x3.getD x2 ZN).2.2.2.2.2.2.2.1):Int) < x0)) (cond (decide (ByteArray.size (x3.getD x2 ZN).2.2.2.2.2.2.2.1 + (ByteArray.mk #[(0:UInt8)]).size≤(9223372036854775807:Nat))) (lL11 (x0) (x1) (x2) (x3.set x2 ((x3.getD x2 ZN).1,(x3.getD x2 ZN).2.1,(x3.getD x2 ZN).2.2.1,(x3.getD x2 ZN).2.2.2.1,(x3.getD x2 ZN).2.2.2.2.1,(x3.getD x2 ZN).2.2.2.2.2.1,(x3.getD x2 ZN).2.2.2.2.2.2.1,(x3.getD x2 ZN).2.2.2.2.2.2.2.1 ++ ByteArray.mk #[(0:UInt8)],(x3.getD x2 ZN).2.2.2.2.2.2.2.2))) (none)) (cond (decide (Go.IntKind.i64.wrap (x0 + (↑x1.size:Int)) < (↑(ByteArray.size (x3.getD x2 ZN).2.2.2.2.2.2.2.1):Int))) (cond (decide ((0:Int)≤Go.IntKind.i64.wrap (x0 + (↑x1.size:Int)))) (cond (decide (Go.IntKind.i64.wrap (x0 + (↑x1.size:Int))≤(↑(ByteArray.size (x3.getD x2 ZN).2.2.2.2.2.2.2.1):Int))) (cond (decide ((0:Int)≤x0)) (cond (decide (x0≤(↑(ByteArray.size (x3.getD x2 ZN).2.2.2.2.2.2.2.1):Int))) (cond (decide ((ByteArray.extract (x3.getD x2 ZN).2.2.2.2.2.2.2.1 (Int.toNat (0:Int)) x0.toNat).size + x1.size≤(9223372036854775807:Nat))) (cond (decide ((ByteArray.extract (x3.getD x2 ZN).2.2.2.2.2.2.2.1 (Int.toNat (0:Int)) x0.toNat ++ x1).size + (ByteArray.extract (x3.getD x2 ZN).2.2.2.2.2.2.2.1 (Go.IntKind.i64.wrap (x0 + (↑x1.size:Int))).toNat (↑(ByteArray.size (x3.getD x2 ZN).2.2.2.2.2.2.2.1):Int).toNat).size≤(9223372036854775807:Nat))) (some ((x3.set x2 ((x3.getD x2 ZN).1,(x3.getD x2 ZN).2.1,(x3.getD x2 ZN).2.2.1,(x3.getD x2 ZN).2.2.2.1,(x3.getD x2 ZN).2.2.2.2.1,(x3.getD x2 ZN).2.2.2.2.2.1,(x3.getD x2 ZN).2.2.2.2.2.2.1,ByteArray.extract (x3.getD x2 ZN).2.2.2.2.2.2.2.1 (Int.toNat (0:Int)) x0.toNat ++ x1 ++ ByteArray.extract (x3.getD x2 ZN).2.2.2.2.2.2.2.1 (Go.IntKind.i64.wrap (x0 + (↑x1.size:Int))).toNat (↑(ByteArray.size (x3.getD x2 ZN).2.2.2.2.2.2.2.1):Int).toNat,(x3.getD x2 ZN).2.2.2.2.2.2.2.2),((0:Int),())),())) (none)) (none)) (none)) (none)) (none)) (none)) (cond (decide ((0:Int)≤x0)) (cond (decide (x0≤(↑(ByteArray.size (x3.getD x2 ZN).2.2.2.2.2.2.2.1):Int))) (cond (decide ((ByteArray.extract (x3.getD x2 ZN).2.2.2.2.2.2.2.1 (Int.toNat (0:Int)) x0.toNat).size + x1.size≤(9223372036854775807:Nat))) (cond (decide ((ByteArray.extract (x3.getD x2 ZN).2.2.2.2.2.2.2.1 (Int.toNat (0:Int)) x0.toNat ++ x1).size + (ByteArray.mk #[]).size≤(9223372036854775807:Nat))) (some ((x3.set x2 ((x3.getD x2 ZN).1,(x3.getD x2 ZN).2.1,(x3.getD x2 ZN).2.2.1,(x3.getD x2 ZN).2.2.2.1,(x3.getD x2 ZN).2.2.2.2.1,(x3.getD x2 ZN).2.2.2.2.2.1,(x3.getD x2 ZN).2.2.2.2.2.2.1,ByteArray.extract (x3.getD x2 ZN).2.2.2.2.2.2.2.1 (Int.toNat (0:Int)) x0.toNat ++ x1 ++ ByteArray.mk #[],(x3.getD x2 ZN).2.2.2.2.2.2.2.2),((0:Int),())),())) (none)) (none)) (none)) (none)))
noncomputable def p31_L11 (n:Nat):Nat→Int→ByteArray→Nat→(List NT)→Option R31
 | 0,_,_,_,_=>none
 | m + 1,x0,x1,x2,x3=>st31_L11 n (p31_L11 n m) x0 x1 x2 x3
noncomputable def p31 (n:Nat) (a:List NT) (b:Int) (c:Int) (d:ByteArray):Option R31:=st31_top n (p31_L11 n n) a b c d
noncomputable def q31 (n:Nat) (x:argsD ps31):Option R31:=p31 n x.1 x.2.1 x.2.2.1 x.2.2.2.1
end Go.Proofs.Ythhopbicmaipgaa.Rx.S

namespace Go.Proofs.Ythhopbicmaipgaa.Rx.S
open Go Go.RowKit Go.Proofs
set_option maxRecDepth 100000
abbrev ps5:List PK:=[.val tLf true,.val i64 false,.val i64 false,.val .str false]
abbrev rs5:List RK:=[.val .bool false]
abbrev R5:=retsD rs5 × outsD ps5
noncomputable def st5_top (n:Nat) (a:List NT) (b:Int) (c:Int) (d:ByteArray):Option R5 :=
 cond (decide ((1048576:Int) < (↑d.size:Int))) (some ((true,()),())) ((q21 n (a,(1048576:Int),())).bind fun r0=>cond (decide (r0.1.1 < (0:Int))) (some ((true,()),())) ((q23 n (a,())).bind fun r1=>(q30 n (r1.1.1,b,c,d,())).bind fun r2=>(q23 n (a,())).bind fun r3=>(q31 n (r3.1.1,b,c,d,())).bind fun r4=>(q25 n (r4.1.1,r2.1.1,())).bind fun r5=>cond (!r5.1.1) (some ((false,()),())) (cond (!decide (r4.1.2.1=r2.1.2.1)) (some ((false,()),())) ((q23 n (a,())).bind fun r6=>(q25 n (r3.1.1,r6.1.1,())).bind fun r7=>cond (!r7.1.1) (some ((false,()),())) ((q27 n (r3.1.1,(1:Int),())).bind fun r8=>cond (decide (r8.1.1 < (0:Int))) (some ((false,()),())) ((q25 n (r4.1.1,r2.1.1,())).bind fun r9=>cond (!r9.1.1) (some ((false,()),())) (cond (!decide (r4.1.2.1=r2.1.2.1)) (some ((false,()),())) ((q27 n (r4.1.1,(1:Int),())).bind fun r10=>(q29 n (r10.2.1,(1:Int),())).bind fun r11=>cond (decide (r11.1.1 < (0:Int))) (some ((false,()),())) (cond (!decide (r11.1.1=r10.1.1)) (some ((false,()),())) ((q23 n (a,())).bind fun r12=>(q31 n (r12.1.1,b,c,d,())).bind fun r13=>(q25 n (r13.1.1,r2.1.1,())).bind fun r14=>cond (!r14.1.1) (some ((false,()),())) (cond (!decide (r13.1.2.1=r2.1.2.1)) (some ((false,()),())) ((q29 n (r10.2.1,(1:Int),())).bind fun r15=>cond (decide (r15.1.1 < (0:Int))) (some ((false,()),())) (cond (!decide (r15.1.1=r10.1.1)) (some ((false,()),())) (some ((true,()),())))))))))))))))
noncomputable def p5 (n:Nat) (a:List NT) (b:Int) (c:Int) (d:ByteArray):Option R5:=st5_top n a b c d
noncomputable def q5 (n:Nat) (x:argsD ps5):Option R5:=p5 n x.1 x.2.1 x.2.2.1 x.2.2.2.1
end Go.Proofs.Ythhopbicmaipgaa.Rx.S

namespace Go.Proofs.Ythhopbicmaipgaa.Rx.S
open Go Go.RowKit Go.Proofs
set_option maxRecDepth 100000
noncomputable def c73:Code:=(Try.f73.body.getD .skip)
def an73:An:=⟨fun _=>⟨[],[]⟩,fun _ _=>none⟩
abbrev ps73:List PK:=[.val (.row 3 i64) false,.val i64 false]
abbrev rs73:List RK:=[.val i64 false]
abbrev R73:=retsD rs73 × outsD ps73
noncomputable def G73:Gam:=fun _=>none
theorem h0_73 (hg:GamOK Try.prog G73):Holds Try.prog 73 ⟨ps73,rs73,false,runF TT G73 an73 Try.f73 c73 ps73 rs73⟩:=holds_of tt_ok hg mixed Try.func73 (by kernel_rfl) (by rfl) (by decide +kernel)
noncomputable def st73_top (n:Nat) (a:List Int) (b:Int):Option R73 :=
 cond (decide (Go.IntKind.i64.wrap (b - (↑a.length:Int)) < (0:Int))) (some (((-1:Int),()),())) (some ((Go.IntKind.i64.wrap (b - (↑a.length:Int)),()),()))
theorem e73_top (n:Nat) (a:List Int) (b:Int):runF TT G73 an73 Try.f73 c73 ps73 rs73 n (a,b,())=st73_top n a b:=by kernel_rfl
noncomputable def p73 (n:Nat) (a:List Int) (b:Int):Option R73:=st73_top n a b
theorem F73_eq (n:Nat) (a:List Int) (b:Int):runF TT G73 an73 Try.f73 c73 ps73 rs73 n (a,b,())=p73 n a b:=by
 rw [e73_top]
 skip
 try rfl
noncomputable def q73 (n:Nat) (x:argsD ps73):Option R73:=p73 n x.1 x.2.1
noncomputable def Sm73:Sm:=⟨ps73,rs73,false,q73⟩
theorem holds73 (hg:GamOK Try.prog G73):Holds Try.prog 73 Sm73:=by
 have:=h0_73 hg
 have e:(runF TT G73 an73 Try.f73 c73 ps73 rs73)=q73:=by
  funext n x
  exact F73_eq n x.1 x.2.1
 rw [e] at this
 exact this
theorem gam73:GamOK Try.prog G73:=fun _ _ h=>by cases h
theorem hh73:Holds Try.prog 73 Sm73:=holds73 gam73
end Go.Proofs.Ythhopbicmaipgaa.Rx.S

namespace Go.Proofs.Ythhopbicmaipgaa.Rx.S
open Go Go.RowKit Go.Proofs
set_option maxRecDepth 100000
noncomputable def c22:Code:=(Try.f22.body.getD .skip)
def an22:An:=⟨fun _=>⟨[],[]⟩,fun _ _=>none⟩
abbrev ps22:List PK:=[.val tCr true,.val i64 false]
abbrev rs22:List RK:=[.val i64 false]
abbrev R22:=retsD rs22 × outsD ps22
noncomputable def G22:Gam:=fun f=>match f with | 73=>some Sm73 | _=>none
theorem h0_22 (hg:GamOK Try.prog G22):Holds Try.prog 22 ⟨ps22,rs22,false,runF TT G22 an22 Try.f22 c22 ps22 rs22⟩:=holds_of tt_ok hg mixed Try.func22 (by kernel_rfl) (by rfl) (by decide +kernel)
noncomputable def st22_top (n:Nat) (a:Int × Int × List Int) (b:Int):Option R22 :=
 (q73 n (a.2.2,b,())).bind fun r0=>cond (decide (r0.1.1 < (0:Int))) (some (((-1:Int),()),())) (some ((r0.1.1,()),()))
theorem e22_top (n:Nat) (a:Int × Int × List Int) (b:Int):runF TT G22 an22 Try.f22 c22 ps22 rs22 n (a,b,())=st22_top n a b:=by kernel_rfl
noncomputable def p22 (n:Nat) (a:Int × Int × List Int) (b:Int):Option R22:=st22_top n a b
theorem F22_eq (n:Nat) (a:Int × Int × List Int) (b:Int):runF TT G22 an22 Try.f22 c22 ps22 rs22 n (a,b,())=p22 n a b:=by
 rw [e22_top]
 skip
 try rfl
noncomputable def q22 (n:Nat) (x:argsD ps22):Option R22:=p22 n x.1 x.2.1
noncomputable def Sm22:Sm:=⟨ps22,rs22,false,q22⟩
theorem holds22 (hg:GamOK Try.prog G22):Holds Try.prog 22 Sm22:=by
 have:=h0_22 hg
 have e:(runF TT G22 an22 Try.f22 c22 ps22 rs22)=q22:=by
  funext n x
  exact F22_eq n x.1 x.2.1
 rw [e] at this
 exact this
theorem gam22:GamOK Try.prog G22:=by
 intro f s h
 unfold G22 at h
 split at h
 ·injection h with h; subst h; exact ⟨⟨Try.f73,c73,Try.func73,by kernel_rfl,by decide +kernel⟩,hh73⟩
 ·cases h
theorem hh22:Holds Try.prog 22 Sm22:=holds22 gam22
end Go.Proofs.Ythhopbicmaipgaa.Rx.S

namespace Go.Proofs.Ythhopbicmaipgaa.Rx.S
open Go Go.RowKit Go.Proofs
set_option maxRecDepth 100000
noncomputable def c75:Code:=(Try.f75.body.getD .skip)
def an75:An:=⟨fun r=>match r with | 3=>⟨[0,3,4],[]⟩ | _=>⟨[],[]⟩,fun _ _=>none⟩
abbrev ps75:List PK:=[.val (.row 3 i64) false]
abbrev rs75:List RK:=[.own (.row 3 i64) false]
abbrev R75:=retsD rs75 × outsD ps75
noncomputable def G75:Gam:=fun _=>none
theorem h0_75 (hg:GamOK Try.prog G75):Holds Try.prog 75 ⟨ps75,rs75,false,runF TT G75 an75 Try.f75 c75 ps75 rs75⟩:=holds_of tt_ok hg mixed Try.func75 (by kernel_rfl) (by rfl) (by decide +kernel)
noncomputable def at75:Nat→Pt→List Nat→St→Option R75:=atF TT G75 an75 Try.f75 c75 _ _
def sh75_L3 (x0:List Int) (x1:Int) (x2:List Int):St:=(St.mk ((AV.one (SV.con (⟨3,Ty.int Go.IntKind.i64,x0⟩:Rw))) :: (AV.undef :: (AV.undef :: ((AV.one (SV.ref 1000000 0 [] Option.none)) :: ((AV.one (SV.int (Go.IntKind.i64) x1)) :: (AV.undef :: (AV.undef :: (AV.undef :: (AV.undef :: (AV.undef :: (AV.undef :: (AV.undef :: (AV.undef :: (AV.undef :: (AV.undef :: (AV.undef :: (AV.undef :: (AV.undef :: (AV.undef :: (AV.undef :: (AV.undef :: (AV.undef :: [])))))))))))))))))))))) ((1000000,(Ent.row (⟨3,Ty.int Go.IntKind.i64,x2⟩:Rw) 0 Option.none)) :: []))
noncomputable def st75_top (n:Nat) (lL3:(List Int)→Int→(List Int)→Option R75) (a:List Int):Option R75 :=
 cond (decide ((↑a.length:Int) * (↑(8:Nat):Int)≤(140737488355328:Int))) (lL3 (a) ((0:Int)) (List.replicate (↑a.length:Int).toNat (0:Int))) (none)
noncomputable def st75_L3 (n:Nat) (lL3:(List Int)→Int→(List Int)→Option R75) (x0:List Int) (x1:Int) (x2:List Int):Option R75 :=
 cond (decide (x1 < (↑x0.length:Int))) (cond (decide ((0:Int)≤x1)) (cond (decide (x1 < (↑x0.length:Int))) (cond (decide ((0:Int)≤x1)) (cond (decide (x1 < (↑x2.length:Int))) (lL3 (x0) (Go.IntKind.i64.wrap (x1 + (1:Int))) (x2.set x1.toNat (x0.getD x1.toNat (0:Int)))) (none)) (none)) (none)) (none)) (some ((x2,()),()))
theorem e75_top (n:Nat) (a:List Int):runF TT G75 an75 Try.f75 c75 ps75 rs75 n (a,())=st75_top n (fun x0 x1 x2=>at75 n (.head 3) [n] (sh75_L3 x0 x1 x2)) a:=by kernel_rfl
theorem e75_L3_0 (n:Nat) (x0:List Int) (x1:Int) (x2:List Int):at75 n (.head 3) [0] (sh75_L3 x0 x1 x2)=none:=by kernel_rfl
theorem e75_L3 (n:Nat) (m3:Nat) (x0:List Int) (x1:Int) (x2:List Int):at75 n (.head 3) [m3 + 1] (sh75_L3 x0 x1 x2)=st75_L3 n (fun x0 x1 x2=>at75 n (.head 3) [m3] (sh75_L3 x0 x1 x2)) x0 x1 x2:=by kernel_rfl
noncomputable def p75_L3 (n:Nat):Nat→(List Int)→Int→(List Int)→Option R75
 | 0,_,_,_=>none
 | m + 1,x0,x1,x2=>st75_L3 n (p75_L3 n m) x0 x1 x2
noncomputable def p75 (n:Nat) (a:List Int):Option R75:=st75_top n (p75_L3 n n) a
theorem t75_L3 (n:Nat):∀ (m3:Nat) (x0:List Int) (x1:Int) (x2:List Int),at75 n (.head 3) [m3] (sh75_L3 x0 x1 x2)=p75_L3 n m3 x0 x1 x2:=by
 intro m
 induction m with
 | zero=>intros; rw [e75_L3_0]; rfl
 | succ m ih =>
  intros
  rw [e75_L3]
  try simp only [ih]
  rfl
theorem F75_eq (n:Nat) (a:List Int):runF TT G75 an75 Try.f75 c75 ps75 rs75 n (a,())=p75 n a:=by
 rw [e75_top]
 simp only [t75_L3]
 try rfl
noncomputable def q75 (n:Nat) (x:argsD ps75):Option R75:=p75 n x.1
noncomputable def Sm75:Sm:=⟨ps75,rs75,false,q75⟩
theorem holds75 (hg:GamOK Try.prog G75):Holds Try.prog 75 Sm75:=by
 have:=h0_75 hg
 have e:(runF TT G75 an75 Try.f75 c75 ps75 rs75)=q75:=by
  funext n x
  exact F75_eq n x.1
 rw [e] at this
 exact this
theorem gam75:GamOK Try.prog G75:=fun _ _ h=>by cases h
theorem hh75:Holds Try.prog 75 Sm75:=holds75 gam75
end Go.Proofs.Ythhopbicmaipgaa.Rx.S

namespace Go.Proofs.Ythhopbicmaipgaa.Rx.S
open Go Go.RowKit Go.Proofs
set_option maxRecDepth 100000
noncomputable def c24:Code:=(Try.f24.body.getD .skip)
def an24:An:=⟨fun _=>⟨[],[]⟩,fun _ _=>none⟩
abbrev ps24:List PK:=[.val tCr true]
abbrev rs24:List RK:=[.own tCr true]
abbrev R24:=retsD rs24 × outsD ps24
noncomputable def G24:Gam:=fun f=>match f with | 75=>some Sm75 | _=>none
theorem h0_24 (hg:GamOK Try.prog G24):Holds Try.prog 24 ⟨ps24,rs24,false,runF TT G24 an24 Try.f24 c24 ps24 rs24⟩:=holds_of tt_ok hg mixed Try.func24 (by kernel_rfl) (by rfl) (by decide +kernel)
noncomputable def st24_top (n:Nat) (a:Int × Int × List Int):Option R24 :=
 (q75 n (a.2.2,())).bind fun r0=>some (((a.1,(a.2.1,r0.1.1)),()),())
theorem e24_top (n:Nat) (a:Int × Int × List Int):runF TT G24 an24 Try.f24 c24 ps24 rs24 n (a,())=st24_top n a:=by kernel_rfl
noncomputable def p24 (n:Nat) (a:Int × Int × List Int):Option R24:=st24_top n a
theorem F24_eq (n:Nat) (a:Int × Int × List Int):runF TT G24 an24 Try.f24 c24 ps24 rs24 n (a,())=p24 n a:=by
 rw [e24_top]
 skip
 try rfl
noncomputable def q24 (n:Nat) (x:argsD ps24):Option R24:=p24 n x.1
noncomputable def Sm24:Sm:=⟨ps24,rs24,false,q24⟩
theorem holds24 (hg:GamOK Try.prog G24):Holds Try.prog 24 Sm24:=by
 have:=h0_24 hg
 have e:(runF TT G24 an24 Try.f24 c24 ps24 rs24)=q24:=by
  funext n x
  exact F24_eq n x.1
 rw [e] at this
 exact this
theorem gam24:GamOK Try.prog G24:=by
 intro f s h
 unfold G24 at h
 split at h
 ·injection h with h; subst h; exact ⟨⟨Try.f75,c75,Try.func75,by kernel_rfl,by decide +kernel⟩,hh75⟩
 ·cases h
theorem hh24:Holds Try.prog 24 Sm24:=holds24 gam24
end Go.Proofs.Ythhopbicmaipgaa.Rx.S

namespace Go.Proofs.Ythhopbicmaipgaa.Rx.S
open Go Go.RowKit Go.Proofs
set_option maxRecDepth 100000
noncomputable def c77:Code:=(Try.f77.body.getD .skip)
def an77:An:=⟨fun r=>match r with | 4=>⟨[0,1,5],[]⟩ | _=>⟨[],[]⟩,fun _ _=>none⟩
abbrev ps77:List PK:=[.val (.row 3 i64) false,.val (.row 3 i64) false]
abbrev rs77:List RK:=[.val .bool false]
abbrev R77:=retsD rs77 × outsD ps77
noncomputable def G77:Gam:=fun _=>none
theorem h0_77 (hg:GamOK Try.prog G77):Holds Try.prog 77 ⟨ps77,rs77,false,runF TT G77 an77 Try.f77 c77 ps77 rs77⟩:=holds_of tt_ok hg mixed Try.func77 (by kernel_rfl) (by rfl) (by decide +kernel)
noncomputable def at77:Nat→Pt→List Nat→St→Option R77:=atF TT G77 an77 Try.f77 c77 _ _
def sh77_L4 (x0:List Int) (x1:List Int) (x2:Int):St:=(St.mk ((AV.one (SV.con (⟨3,Ty.int Go.IntKind.i64,x0⟩:Rw))) :: ((AV.one (SV.con (⟨3,Ty.int Go.IntKind.i64,x1⟩:Rw))) :: (AV.undef :: (AV.undef :: (AV.undef :: ((AV.one (SV.int (Go.IntKind.i64) x2)) :: (AV.undef :: (AV.undef :: (AV.undef :: (AV.undef :: (AV.undef :: (AV.undef :: (AV.undef :: (AV.undef :: (AV.undef :: (AV.undef :: (AV.undef :: (AV.undef :: (AV.undef :: (AV.undef :: (AV.undef :: (AV.undef :: (AV.undef :: (AV.undef :: (AV.undef :: (AV.undef :: [])))))))))))))))))))))))))) [])
noncomputable def st77_top (n:Nat) (lL4:(List Int)→(List Int)→Int→Option R77) (a:List Int) (b:List Int):Option R77 :=
 cond (!decide ((↑a.length:Int)=(↑b.length:Int))) (some ((false,()),())) (lL4 (a) (b) ((0:Int)))
noncomputable def st77_L4 (n:Nat) (lL4:(List Int)→(List Int)→Int→Option R77) (x0:List Int) (x1:List Int) (x2:Int):Option R77 :=
 cond (decide (x2 < (↑x0.length:Int))) (cond (decide ((0:Int)≤x2)) (cond (decide (x2 < (↑x0.length:Int))) (cond (decide ((0:Int)≤x2)) (cond (decide (x2 < (↑x1.length:Int))) (cond (!decide (x0.getD x2.toNat (0:Int)=x1.getD x2.toNat (0:Int))) (some ((false,()),())) (lL4 (x0) (x1) (Go.IntKind.i64.wrap (x2 + (1:Int))))) (none)) (none)) (none)) (none)) (some ((true,()),()))
theorem e77_top (n:Nat) (a:List Int) (b:List Int):runF TT G77 an77 Try.f77 c77 ps77 rs77 n (a,b,())=st77_top n (fun x0 x1 x2=>at77 n (.head 4) [n] (sh77_L4 x0 x1 x2)) a b:=by kernel_rfl
theorem e77_L4_0 (n:Nat) (x0:List Int) (x1:List Int) (x2:Int):at77 n (.head 4) [0] (sh77_L4 x0 x1 x2)=none:=by kernel_rfl
theorem e77_L4 (n:Nat) (m4:Nat) (x0:List Int) (x1:List Int) (x2:Int):at77 n (.head 4) [m4 + 1] (sh77_L4 x0 x1 x2)=st77_L4 n (fun x0 x1 x2=>at77 n (.head 4) [m4] (sh77_L4 x0 x1 x2)) x0 x1 x2:=by kernel_rfl
noncomputable def p77_L4 (n:Nat):Nat→(List Int)→(List Int)→Int→Option R77
 | 0,_,_,_=>none
 | m + 1,x0,x1,x2=>st77_L4 n (p77_L4 n m) x0 x1 x2
noncomputable def p77 (n:Nat) (a:List Int) (b:List Int):Option R77:=st77_top n (p77_L4 n n) a b
theorem t77_L4 (n:Nat):∀ (m4:Nat) (x0:List Int) (x1:List Int) (x2:Int),at77 n (.head 4) [m4] (sh77_L4 x0 x1 x2)=p77_L4 n m4 x0 x1 x2:=by
 intro m
 induction m with
 | zero=>intros; rw [e77_L4_0]; rfl
 | succ m ih =>
  intros
  rw [e77_L4]
  try simp only [ih]
  rfl
theorem F77_eq (n:Nat) (a:List Int) (b:List Int):runF TT G77 an77 Try.f77 c77 ps77 rs77 n (a,b,())=p77 n a b:=by
 rw [e77_top]
 simp only [t77_L4]
 try rfl
noncomputable def q77 (n:Nat) (x:argsD ps77):Option R77:=p77 n x.1 x.2.1
noncomputable def Sm77:Sm:=⟨ps77,rs77,false,q77⟩
theorem holds77 (hg:GamOK Try.prog G77):Holds Try.prog 77 Sm77:=by
 have:=h0_77 hg
 have e:(runF TT G77 an77 Try.f77 c77 ps77 rs77)=q77:=by
  funext n x
  exact F77_eq n x.1 x.2.1
 rw [e] at this
 exact this
theorem gam77:GamOK Try.prog G77:=fun _ _ h=>by cases h
theorem hh77:Holds Try.prog 77 Sm77:=holds77 gam77
end Go.Proofs.Ythhopbicmaipgaa.Rx.S

namespace Go.Proofs.Ythhopbicmaipgaa.Rx.S
open Go Go.RowKit Go.Proofs
set_option maxRecDepth 100000
noncomputable def c26:Code:=(Try.f26.body.getD .skip)
def an26:An:=⟨fun _=>⟨[],[]⟩,fun _ _=>none⟩
abbrev ps26:List PK:=[.val tCr true,.val tCr true]
abbrev rs26:List RK:=[.val .bool false]
abbrev R26:=retsD rs26 × outsD ps26
noncomputable def G26:Gam:=fun f=>match f with | 77=>some Sm77 | _=>none
theorem h0_26 (hg:GamOK Try.prog G26):Holds Try.prog 26 ⟨ps26,rs26,false,runF TT G26 an26 Try.f26 c26 ps26 rs26⟩:=holds_of tt_ok hg mixed Try.func26 (by kernel_rfl) (by rfl) (by decide +kernel)
noncomputable def st26_top (n:Nat) (a:Int × Int × List Int) (b:Int × Int × List Int):Option R26 :=
 cond (!decide (a.1=b.1)) (some ((false,()),())) (cond (!decide (a.2.1=b.2.1)) (some ((false,()),())) ((q77 n (a.2.2,b.2.2,())).bind fun r0=>cond (!r0.1.1) (some ((false,()),())) (some ((true,()),()))))
theorem e26_top (n:Nat) (a:Int × Int × List Int) (b:Int × Int × List Int):runF TT G26 an26 Try.f26 c26 ps26 rs26 n (a,b,())=st26_top n a b:=by kernel_rfl
noncomputable def p26 (n:Nat) (a:Int × Int × List Int) (b:Int × Int × List Int):Option R26:=st26_top n a b
theorem F26_eq (n:Nat) (a:Int × Int × List Int) (b:Int × Int × List Int):runF TT G26 an26 Try.f26 c26 ps26 rs26 n (a,b,())=p26 n a b:=by
 rw [e26_top]
 skip
 try rfl
noncomputable def q26 (n:Nat) (x:argsD ps26):Option R26:=p26 n x.1 x.2.1
noncomputable def Sm26:Sm:=⟨ps26,rs26,false,q26⟩
theorem holds26 (hg:GamOK Try.prog G26):Holds Try.prog 26 Sm26:=by
 have:=h0_26 hg
 have e:(runF TT G26 an26 Try.f26 c26 ps26 rs26)=q26:=by
  funext n x
  exact F26_eq n x.1 x.2.1
 rw [e] at this
 exact this
theorem gam26:GamOK Try.prog G26:=by
 intro f s h
 unfold G26 at h
 split at h
 ·injection h with h; subst h; exact ⟨⟨Try.f77,c77,Try.func77,by kernel_rfl,by decide +kernel⟩,hh77⟩
 ·cases h
theorem hh26:Holds Try.prog 26 Sm26:=holds26 gam26
end Go.Proofs.Ythhopbicmaipgaa.Rx.S

namespace Go.Proofs.Ythhopbicmaipgaa.Rx.S
open Go Go.RowKit Go.Proofs
set_option maxRecDepth 100000
noncomputable def c79:Code:=(Try.f79.body.getD .skip)
def an79:An:=⟨fun r=>match r with | 2=>⟨[0,1,5],[]⟩ | _=>⟨[],[]⟩,fun _ _=>none⟩
abbrev ps79:List PK:=[.io (.row 3 i64) false,.val i64 false]
abbrev rs79:List RK:=[.val i64 false]
abbrev R79:=retsD rs79 × outsD ps79
noncomputable def G79:Gam:=fun _=>none
theorem h0_79 (hg:GamOK Try.prog G79):Holds Try.prog 79 ⟨ps79,rs79,false,runF TT G79 an79 Try.f79 c79 ps79 rs79⟩:=holds_of tt_ok hg mixed Try.func79 (by kernel_rfl) (by rfl) (by decide +kernel)
noncomputable def at79:Nat→Pt→List Nat→St→Option R79:=atF TT G79 an79 Try.f79 c79 _ _
def sh79_L2 (x0:Int) (x1:Int) (x2:List Int):St:=(St.mk ((AV.par 0 false ((SV.ref 1000000 0 [] Option.none) :: [])) :: ((AV.one (SV.int (Go.IntKind.i64) x0)) :: (AV.undef :: (AV.undef :: (AV.undef :: ((AV.one (SV.int (Go.IntKind.i64) x1)) :: (AV.undef :: (AV.undef :: (AV.undef :: (AV.undef :: (AV.undef :: (AV.undef :: (AV.undef :: (AV.undef :: (AV.undef :: (AV.undef :: (AV.undef :: (AV.undef :: (AV.undef :: []))))))))))))))))))) ((1000000,(Ent.row (⟨3,Ty.int Go.IntKind.i64,x2⟩:Rw) 0 Option.none)) :: []))
noncomputable def st79_top (n:Nat) (lL2:Int→Int→(List Int)→Option R79) (a:List Int) (b:Int):Option R79 :=
 lL2 (b) ((0:Int)) (a)
noncomputable def st79_L2 (n:Nat) (lL2:Int→Int→(List Int)→Option R79) (x0:Int) (x1:Int) (x2:List Int):Option R79 :=
 cond (decide (x1 < (↑x2.length:Int))) (cond (decide ((0:Int)≤x1)) (cond (decide (x1 < (↑x2.length:Int))) (lL2 (Go.IntKind.i64.wrap (x0 + (1:Int))) (Go.IntKind.i64.wrap (x1 + (1:Int))) (x2.set x1.toNat x0)) (none)) (none)) (some ((x0,()),(x2,())))
theorem e79_top (n:Nat) (a:List Int) (b:Int):runF TT G79 an79 Try.f79 c79 ps79 rs79 n (a,b,())=st79_top n (fun x0 x1 x2=>at79 n (.head 2) [n] (sh79_L2 x0 x1 x2)) a b:=by kernel_rfl
theorem e79_L2_0 (n:Nat) (x0:Int) (x1:Int) (x2:List Int):at79 n (.head 2) [0] (sh79_L2 x0 x1 x2)=none:=by kernel_rfl
theorem e79_L2 (n:Nat) (m2:Nat) (x0:Int) (x1:Int) (x2:List Int):at79 n (.head 2) [m2 + 1] (sh79_L2 x0 x1 x2)=st79_L2 n (fun x0 x1 x2=>at79 n (.head 2) [m2] (sh79_L2 x0 x1 x2)) x0 x1 x2:=by kernel_rfl
noncomputable def p79_L2 (n:Nat):Nat→Int→Int→(List Int)→Option R79
 | 0,_,_,_=>none
 | m + 1,x0,x1,x2=>st79_L2 n (p79_L2 n m) x0 x1 x2
noncomputable def p79 (n:Nat) (a:List Int) (b:Int):Option R79:=st79_top n (p79_L2 n n) a b
theorem t79_L2 (n:Nat):∀ (m2:Nat) (x0:Int) (x1:Int) (x2:List Int),at79 n (.head 2) [m2] (sh79_L2 x0 x1 x2)=p79_L2 n m2 x0 x1 x2:=by
 intro m
 induction m with
 | zero=>intros; rw [e79_L2_0]; rfl
 | succ m ih =>
  intros
  rw [e79_L2]
  try simp only [ih]
  rfl
theorem F79_eq (n:Nat) (a:List Int) (b:Int):runF TT G79 an79 Try.f79 c79 ps79 rs79 n (a,b,())=p79 n a b:=by
 rw [e79_top]
 simp only [t79_L2]
 try rfl
noncomputable def q79 (n:Nat) (x:argsD ps79):Option R79:=p79 n x.1 x.2.1
noncomputable def Sm79:Sm:=⟨ps79,rs79,false,q79⟩
theorem holds79 (hg:GamOK Try.prog G79):Holds Try.prog 79 Sm79:=by
 have:=h0_79 hg
 have e:(runF TT G79 an79 Try.f79 c79 ps79 rs79)=q79:=by
  funext n x
  exact F79_eq n x.1 x.2.1
 rw [e] at this
 exact this
theorem gam79:GamOK Try.prog G79:=fun _ _ h=>by cases h
theorem hh79:Holds Try.prog 79 Sm79:=holds79 gam79
end Go.Proofs.Ythhopbicmaipgaa.Rx.S

namespace Go.Proofs.Ythhopbicmaipgaa.Rx.S
open Go Go.RowKit Go.Proofs
set_option maxRecDepth 100000
noncomputable def c28:Code:=(Try.f28.body.getD .skip)
def an28:An:=⟨fun _=>⟨[],[]⟩,fun _ _=>none⟩
abbrev ps28:List PK:=[.io tCr true,.val i64 false]
abbrev rs28:List RK:=[.val i64 false]
abbrev R28:=retsD rs28 × outsD ps28
noncomputable def G28:Gam:=fun f=>match f with | 79=>some Sm79 | _=>none
theorem h0_28 (hg:GamOK Try.prog G28):Holds Try.prog 28 ⟨ps28,rs28,false,runF TT G28 an28 Try.f28 c28 ps28 rs28⟩:=holds_of tt_ok hg mixed Try.func28 (by kernel_rfl) (by rfl) (by decide +kernel)
noncomputable def st28_top (n:Nat) (a:Int × Int × List Int) (b:Int):Option R28 :=
 (q79 n (a.2.2,b,())).bind fun r0=>some ((r0.1.1,()),((a.1,(a.2.1,r0.2.1)),()))
theorem e28_top (n:Nat) (a:Int × Int × List Int) (b:Int):runF TT G28 an28 Try.f28 c28 ps28 rs28 n (a,b,())=st28_top n a b:=by kernel_rfl
noncomputable def p28 (n:Nat) (a:Int × Int × List Int) (b:Int):Option R28:=st28_top n a b
theorem F28_eq (n:Nat) (a:Int × Int × List Int) (b:Int):runF TT G28 an28 Try.f28 c28 ps28 rs28 n (a,b,())=p28 n a b:=by
 rw [e28_top]
 skip
 try rfl
noncomputable def q28 (n:Nat) (x:argsD ps28):Option R28:=p28 n x.1 x.2.1
noncomputable def Sm28:Sm:=⟨ps28,rs28,false,q28⟩
theorem holds28 (hg:GamOK Try.prog G28):Holds Try.prog 28 Sm28:=by
 have:=h0_28 hg
 have e:(runF TT G28 an28 Try.f28 c28 ps28 rs28)=q28:=by
  funext n x
  exact F28_eq n x.1 x.2.1
 rw [e] at this
 exact this
theorem gam28:GamOK Try.prog G28:=by
 intro f s h
 unfold G28 at h
 split at h
 ·injection h with h; subst h; exact ⟨⟨Try.f79,c79,Try.func79,by kernel_rfl,by decide +kernel⟩,hh79⟩
 ·cases h
theorem hh28:Holds Try.prog 28 Sm28:=holds28 gam28
end Go.Proofs.Ythhopbicmaipgaa.Rx.S

namespace Go.Proofs.Ythhopbicmaipgaa.Rx.S
open Go Go.RowKit Go.Proofs
set_option maxRecDepth 100000
noncomputable def c63:Code:=(Try.f63.body.getD .skip)
def an63:An:=⟨fun r=>match r with | 2=>⟨[1,3],[]⟩ | _=>⟨[],[]⟩,fun _ _=>none⟩
abbrev ps63:List PK:=[.val tCr true]
abbrev rs63:List RK:=[.val .bool false]
abbrev R63:=retsD rs63 × outsD ps63
noncomputable def G63:Gam:=fun f=>match f with | 87=>some Sm87 | _=>none
theorem h0_63 (hg:GamOK Try.prog G63):Holds Try.prog 63 ⟨ps63,rs63,false,runF TT G63 an63 Try.f63 c63 ps63 rs63⟩:=holds_of tt_ok hg mixed Try.func63 (by kernel_rfl) (by rfl) (by decide +kernel)
noncomputable def at63:Nat→Pt→List Nat→St→Option R63:=atF TT G63 an63 Try.f63 c63 _ _
def sh63_L2 (x0:Int) (x1:Int) (x2:Int) (x3:List Int):St:=(St.mk (AV.undef :: ((AV.one (SV.bptr 1000000 0)) :: (AV.undef :: ((AV.one (SV.int (Go.IntKind.i64) x0)) :: (AV.undef :: (AV.undef :: (AV.undef :: (AV.undef :: (AV.undef :: (AV.undef :: (AV.undef :: (AV.undef :: (AV.undef :: (AV.undef :: (AV.undef :: (AV.undef :: (AV.undef :: (AV.undef :: (AV.undef :: (AV.undef :: (AV.undef :: (AV.undef :: (AV.undef :: (AV.undef :: (AV.undef :: (AV.undef :: (AV.undef :: (AV.undef :: (AV.undef :: (AV.undef :: (AV.undef :: (AV.undef :: (AV.undef :: (AV.undef :: (AV.undef :: (AV.undef :: (AV.undef :: (AV.undef :: (AV.undef :: (AV.undef :: (AV.undef :: (AV.undef :: (AV.undef :: (AV.undef :: (AV.undef :: (AV.undef :: (AV.undef :: (AV.undef :: (AV.undef :: (AV.undef :: [])))))))))))))))))))))))))))))))))))))))))))))))))) ((1000000,(Ent.box ((SV.int (Go.IntKind.i64) x1) :: ((SV.int (Go.IntKind.i64) x2) :: ((SV.con (⟨3,Ty.int Go.IntKind.i64,x3⟩:Rw)) :: []))))) :: []))
noncomputable def st63_top (n:Nat) (lL2:Int→Int→Int→(List Int)→Option R63) (a:Int × Int × List Int):Option R63 :=
 lL2 ((0:Int)) (a.1) (a.2.1) (a.2.2)
noncomputable def st63_L2 (n:Nat) (lL2:Int→Int→Int→(List Int)→Option R63) (x0:Int) (x1:Int) (x2:Int) (x3:List Int):Option R63 :=
 cond (decide (x0 < (↑x3.length:Int))) (cond (decide ((0:Int)≤x0)) (cond (decide (x0 < (↑x3.length:Int))) ((q87 n (x3.getD x0.toNat (0:Int),())).bind fun r1=>cond (!r1.1.1) (some ((false,()),())) (cond (decide ((0:Int) < x0)) (cond (decide ((0:Int)≤Go.IntKind.i64.wrap (x0 - (1:Int)))) (cond (decide (Go.IntKind.i64.wrap (x0 - (1:Int)) < (↑x3.length:Int))) (cond (decide ((0:Int)≤x0)) (cond (decide (x0 < (↑x3.length:Int))) (cond (decide (x3.getD x0.toNat (0:Int)≤x3.getD (Go.IntKind.i64.wrap (x0 - (1:Int))).toNat (0:Int))) (some ((false,()),())) (lL2 (Go.IntKind.i64.wrap (x0 + (1:Int))) (x1) (x2) (x3))) (none)) (none)) (none)) (none)) (lL2 (Go.IntKind.i64.wrap (x0 + (1:Int))) (x1) (x2) (x3)))) (none)) (none)) ((q87 n (x1,())).bind fun r2=>cond (r2.1.1) ((q87 n (x2,())).bind fun r3=>cond (r3.1.1) (some ((decide ((↑x3.length:Int)≤(3:Int)),()),())) (some ((false,()),()))) (some ((false,()),())))
theorem e63_top (n:Nat) (a:Int × Int × List Int):runF TT G63 an63 Try.f63 c63 ps63 rs63 n (a,())=st63_top n (fun x0 x1 x2 x3=>at63 n (.head 2) [n] (sh63_L2 x0 x1 x2 x3)) a:=by kernel_rfl
theorem e63_L2_0 (n:Nat) (x0:Int) (x1:Int) (x2:Int) (x3:List Int):at63 n (.head 2) [0] (sh63_L2 x0 x1 x2 x3)=none:=by kernel_rfl
theorem e63_L2 (n:Nat) (m2:Nat) (x0:Int) (x1:Int) (x2:Int) (x3:List Int):at63 n (.head 2) [m2 + 1] (sh63_L2 x0 x1 x2 x3)=st63_L2 n (fun x0 x1 x2 x3=>at63 n (.head 2) [m2] (sh63_L2 x0 x1 x2 x3)) x0 x1 x2 x3:=by kernel_rfl
noncomputable def p63_L2 (n:Nat):Nat→Int→Int→Int→(List Int)→Option R63
 | 0,_,_,_,_=>none
 | m + 1,x0,x1,x2,x3=>st63_L2 n (p63_L2 n m) x0 x1 x2 x3
noncomputable def p63 (n:Nat) (a:Int × Int × List Int):Option R63:=st63_top n (p63_L2 n n) a
theorem t63_L2 (n:Nat):∀ (m2:Nat) (x0:Int) (x1:Int) (x2:Int) (x3:List Int),at63 n (.head 2) [m2] (sh63_L2 x0 x1 x2 x3)=p63_L2 n m2 x0 x1 x2 x3:=by
 intro m
 induction m with
 | zero=>intros; rw [e63_L2_0]; rfl
 | succ m ih =>
  intros
  rw [e63_L2]
  try simp only [ih]
  rfl
theorem F63_eq (n:Nat) (a:Int × Int × List Int):runF TT G63 an63 Try.f63 c63 ps63 rs63 n (a,())=p63 n a:=by
 rw [e63_top]
 simp only [t63_L2]
 try rfl
noncomputable def q63 (n:Nat) (x:argsD ps63):Option R63:=p63 n x.1
noncomputable def Sm63:Sm:=⟨ps63,rs63,false,q63⟩
theorem holds63 (hg:GamOK Try.prog G63):Holds Try.prog 63 Sm63:=by
 have:=h0_63 hg
 have e:(runF TT G63 an63 Try.f63 c63 ps63 rs63)=q63:=by
  funext n x
  exact F63_eq n x.1
 rw [e] at this
 exact this
theorem gam63:GamOK Try.prog G63:=by
 intro f s h
 unfold G63 at h
 split at h
 ·injection h with h; subst h; exact ⟨⟨Try.f87,c87,Try.func87,by kernel_rfl,by decide +kernel⟩,hh87⟩
 ·cases h
theorem hh63:Holds Try.prog 63 Sm63:=holds63 gam63
end Go.Proofs.Ythhopbicmaipgaa.Rx.S

namespace Go.Proofs.Ythhopbicmaipgaa.Rx.S
open Go Go.RowKit Go.Proofs
set_option maxRecDepth 100000
noncomputable def c90:Code:=(Try.f90.body.getD .skip)
def an90:An:=⟨fun r=>match r with | 2=>⟨[1,6,7,8],[]⟩ | _=>⟨[],[]⟩,fun _ _=>none⟩
abbrev ps90:List PK:=[.val tCr true]
abbrev rs90:List RK:=[.val .bool false]
abbrev R90:=retsD rs90 × outsD ps90
noncomputable def G90:Gam:=fun f=>match f with | 55=>some Sm55 | _=>none
theorem h0_90 (hg:GamOK Try.prog G90):Holds Try.prog 90 ⟨ps90,rs90,false,runF TT G90 an90 Try.f90 c90 ps90 rs90⟩:=holds_of tt_ok hg mixed Try.func90 (by kernel_rfl) (by rfl) (by decide +kernel)
noncomputable def at90:Nat→Pt→List Nat→St→Option R90:=atF TT G90 an90 Try.f90 c90 _ _
def sh90_L2 (x0:List Int) (x1:Int) (x2:Int) (x3:Int) (x4:Int) (x5:List Int):St:=(St.mk (AV.undef :: ((AV.one (SV.bptr 1000000 0)) :: (AV.undef :: (AV.undef :: (AV.undef :: (AV.undef :: ((AV.one (SV.con (⟨3,Ty.int Go.IntKind.i64,x0⟩:Rw))) :: ((AV.one (SV.int (Go.IntKind.i64) x1)) :: ((AV.one (SV.int (Go.IntKind.i64) x2)) :: (AV.undef :: (AV.undef :: (AV.undef :: (AV.undef :: (AV.undef :: (AV.undef :: (AV.undef :: (AV.undef :: (AV.undef :: (AV.undef :: (AV.undef :: (AV.undef :: (AV.undef :: (AV.undef :: (AV.undef :: (AV.undef :: (AV.undef :: (AV.undef :: (AV.undef :: (AV.undef :: (AV.undef :: (AV.undef :: (AV.undef :: (AV.undef :: (AV.undef :: (AV.undef :: (AV.undef :: (AV.undef :: (AV.undef :: (AV.undef :: (AV.undef :: (AV.undef :: (AV.undef :: (AV.undef :: (AV.undef :: (AV.undef :: []))))))))))))))))))))))))))))))))))))))))))))) ((1000000,(Ent.box ((SV.int (Go.IntKind.i64) x3) :: ((SV.int (Go.IntKind.i64) x4) :: ((SV.con (⟨3,Ty.int Go.IntKind.i64,x5⟩:Rw)) :: []))))) :: []))
noncomputable def st90_top (n:Nat) (lL2:(List Int)→Int→Int→Int→Int→(List Int)→Option R90) (a:Int × Int × List Int):Option R90 :=
 lL2 (a.2.2) ((↑(List.length a.2.2):Int)) ((0:Int)) (a.1) (a.2.1) (a.2.2)
noncomputable def st90_L2 (n:Nat) (lL2:(List Int)→Int→Int→Int→Int→(List Int)→Option R90) (x0:List Int) (x1:Int) (x2:Int) (x3:Int) (x4:Int) (x5:List Int):Option R90 :=
 cond (decide (x2 < x1)) (cond (decide ((0:Int)≤x2)) (cond (decide (x2 < (↑x0.length:Int))) ((q55 n (x0.getD x2.toNat (0:Int),(0:Int),(9:Int),())).bind fun r1=>cond (!r1.1.1) (some ((false,()),())) (cond (decide ((0:Int) < x2)) (cond (decide ((0:Int)≤Go.IntKind.i64.wrap (x2 - (1:Int)))) (cond (decide (Go.IntKind.i64.wrap (x2 - (1:Int)) < (↑x5.length:Int))) (cond (decide (x0.getD x2.toNat (0:Int)≤x5.getD (Go.IntKind.i64.wrap (x2 - (1:Int))).toNat (0:Int))) (some ((false,()),())) (lL2 (x0) (x1) (Go.IntKind.i64.wrap (x2 + (1:Int))) (x3) (x4) (x5))) (none)) (none)) (lL2 (x0) (x1) (Go.IntKind.i64.wrap (x2 + (1:Int))) (x3) (x4) (x5)))) (none)) (none)) ((q55 n (x3,(0:Int),(9:Int),())).bind fun r2=>cond (r2.1.1) ((q55 n (x4,(0:Int),(9:Int),())).bind fun r3=>cond (r3.1.1) (some ((decide ((↑x5.length:Int)≤(3:Int)),()),())) (some ((false,()),()))) (some ((false,()),())))
theorem e90_top (n:Nat) (a:Int × Int × List Int):runF TT G90 an90 Try.f90 c90 ps90 rs90 n (a,())=st90_top n (fun x0 x1 x2 x3 x4 x5=>at90 n (.head 2) [n] (sh90_L2 x0 x1 x2 x3 x4 x5)) a:=by kernel_rfl
theorem e90_L2_0 (n:Nat) (x0:List Int) (x1:Int) (x2:Int) (x3:Int) (x4:Int) (x5:List Int):at90 n (.head 2) [0] (sh90_L2 x0 x1 x2 x3 x4 x5)=none:=by kernel_rfl
theorem e90_L2 (n:Nat) (m2:Nat) (x0:List Int) (x1:Int) (x2:Int) (x3:Int) (x4:Int) (x5:List Int):at90 n (.head 2) [m2 + 1] (sh90_L2 x0 x1 x2 x3 x4 x5)=st90_L2 n (fun x0 x1 x2 x3 x4 x5=>at90 n (.head 2) [m2] (sh90_L2 x0 x1 x2 x3 x4 x5)) x0 x1 x2 x3 x4 x5:=by kernel_rfl
noncomputable def p90_L2 (n:Nat):Nat→(List Int)→Int→Int→Int→Int→(List Int)→Option R90
 | 0,_,_,_,_,_,_=>none
 | m + 1,x0,x1,x2,x3,x4,x5=>st90_L2 n (p90_L2 n m) x0 x1 x2 x3 x4 x5
noncomputable def p90 (n:Nat) (a:Int × Int × List Int):Option R90:=st90_top n (p90_L2 n n) a
theorem t90_L2 (n:Nat):∀ (m2:Nat) (x0:List Int) (x1:Int) (x2:Int) (x3:Int) (x4:Int) (x5:List Int),at90 n (.head 2) [m2] (sh90_L2 x0 x1 x2 x3 x4 x5)=p90_L2 n m2 x0 x1 x2 x3 x4 x5:=by
 intro m
 induction m with
 | zero=>intros; rw [e90_L2_0]; rfl
 | succ m ih =>
  intros
  rw [e90_L2]
  try simp only [ih]
  rfl
theorem F90_eq (n:Nat) (a:Int × Int × List Int):runF TT G90 an90 Try.f90 c90 ps90 rs90 n (a,())=p90 n a:=by
 rw [e90_top]
 simp only [t90_L2]
 try rfl
noncomputable def q90 (n:Nat) (x:argsD ps90):Option R90:=p90 n x.1
noncomputable def Sm90:Sm:=⟨ps90,rs90,false,q90⟩
theorem holds90 (hg:GamOK Try.prog G90):Holds Try.prog 90 Sm90:=by
 have:=h0_90 hg
 have e:(runF TT G90 an90 Try.f90 c90 ps90 rs90)=q90:=by
  funext n x
  exact F90_eq n x.1
 rw [e] at this
 exact this
theorem gam90:GamOK Try.prog G90:=by
 intro f s h
 unfold G90 at h
 split at h
 ·injection h with h; subst h; exact ⟨⟨Try.f55,c55,Try.func55,by kernel_rfl,by decide +kernel⟩,hh55⟩
 ·cases h
theorem hh90:Holds Try.prog 90 Sm90:=holds90 gam90
end Go.Proofs.Ythhopbicmaipgaa.Rx.S

namespace Go.Proofs.Ythhopbicmaipgaa.Rx.S
open Go Go.RowKit Go.Proofs
set_option maxRecDepth 100000
noncomputable def c53:Code:=(Try.f53.body.getD .skip)
def an53:An:=⟨fun r=>match r with | 4=>⟨[3,17,18,19],[]⟩ | _=>⟨[],[]⟩,fun _ _=>none⟩
abbrev ps53:List PK:=[.val tFs true,.val tCr true,.val (.row 3 i64) false]
abbrev rs53:List RK:=[.val .bool false]
abbrev R53:=retsD rs53 × outsD ps53
noncomputable def G53:Gam:=fun f=>match f with | 36=>some Sm36 | 82=>some Sm82 | 90=>some Sm90 | _=>none
theorem h0_53 (hg:GamOK Try.prog G53):Holds Try.prog 53 ⟨ps53,rs53,false,runF TT G53 an53 Try.f53 c53 ps53 rs53⟩:=holds_of tt_ok hg mixed Try.func53 (by kernel_rfl) (by rfl) (by decide +kernel)
noncomputable def at53:Nat→Pt→List Nat→St→Option R53:=atF TT G53 an53 Try.f53 c53 _ _
def sh53_L4 (x0:List Int) (x1:Int) (x2:Int) (x3:List NT):St:=(St.mk (AV.undef :: (AV.undef :: (AV.undef :: ((AV.one (SV.bptr 1000000 0)) :: (AV.undef :: (AV.undef :: (AV.undef :: (AV.undef :: (AV.undef :: (AV.undef :: (AV.undef :: (AV.undef :: (AV.undef :: (AV.undef :: (AV.undef :: (AV.undef :: (AV.undef :: ((AV.one (SV.con (⟨3,Ty.int Go.IntKind.i64,x0⟩:Rw))) :: ((AV.one (SV.int (Go.IntKind.i64) x1)) :: ((AV.one (SV.int (Go.IntKind.i64) x2)) :: (AV.undef :: (AV.undef :: (AV.undef :: (AV.undef :: (AV.undef :: (AV.undef :: (AV.undef :: (AV.undef :: [])))))))))))))))))))))))))))) ((1000000,(Ent.box ((SV.con (⟨39,(Ty.int Go.IntKind.i64).pair ((Ty.int Go.IntKind.i64).pair ((Ty.int Go.IntKind.i64).pair ((Ty.int Go.IntKind.i64).pair ((Ty.int Go.IntKind.i64).pair ((Ty.int Go.IntKind.i64).pair (Ty.bool.pair (Ty.str.pair (Ty.row (nat_lit 95) (Ty.str.pair (Ty.int Go.IntKind.i64)))))))))),x3⟩:Rw)) :: []))) :: []))
noncomputable def st53_top (n:Nat) (lL4:(List Int)→Int→Int→(List NT)→Option R53) (a:List NT) (b:Int × Int × List Int) (c:List Int):Option R53 :=
 (q36 n (a,())).bind fun r0=>cond (!r0.1.1) (some ((false,()),())) ((q90 n ((b.1,b.2.1,b.2.2),())).bind fun r1=>cond (!r1.1.1) (some ((false,()),())) (lL4 (c) ((↑c.length:Int)) ((0:Int)) (a)))
noncomputable def st53_L4 (n:Nat) (lL4:(List Int)→Int→Int→(List NT)→Option R53) (x0:List Int) (x1:Int) (x2:Int) (x3:List NT):Option R53 :=
 cond (decide (x2 < x1)) (cond (decide ((0:Int)≤x2)) (cond (decide (x2 < (↑x0.length:Int))) ((q82 n (x3,x0.getD x2.toNat (0:Int),())).bind fun r3=>cond (!r3.1.1) (some ((false,()),())) (lL4 (x0) (x1) (Go.IntKind.i64.wrap (x2 + (1:Int))) (x3))) (none)) (none)) (some ((true,()),()))
theorem e53_top (n:Nat) (a:List NT) (b:Int × Int × List Int) (c:List Int):runF TT G53 an53 Try.f53 c53 ps53 rs53 n (a,b,c,())=st53_top n (fun x0 x1 x2 x3=>at53 n (.head 4) [n] (sh53_L4 x0 x1 x2 x3)) a b c:=by kernel_rfl
theorem e53_L4_0 (n:Nat) (x0:List Int) (x1:Int) (x2:Int) (x3:List NT):at53 n (.head 4) [0] (sh53_L4 x0 x1 x2 x3)=none:=by kernel_rfl
theorem e53_L4 (n:Nat) (m4:Nat) (x0:List Int) (x1:Int) (x2:Int) (x3:List NT):at53 n (.head 4) [m4 + 1] (sh53_L4 x0 x1 x2 x3)=st53_L4 n (fun x0 x1 x2 x3=>at53 n (.head 4) [m4] (sh53_L4 x0 x1 x2 x3)) x0 x1 x2 x3:=by kernel_rfl
noncomputable def p53_L4 (n:Nat):Nat→(List Int)→Int→Int→(List NT)→Option R53
 | 0,_,_,_,_=>none
 | m + 1,x0,x1,x2,x3=>st53_L4 n (p53_L4 n m) x0 x1 x2 x3
noncomputable def p53 (n:Nat) (a:List NT) (b:Int × Int × List Int) (c:List Int):Option R53:=st53_top n (p53_L4 n n) a b c
theorem t53_L4 (n:Nat):∀ (m4:Nat) (x0:List Int) (x1:Int) (x2:Int) (x3:List NT),at53 n (.head 4) [m4] (sh53_L4 x0 x1 x2 x3)=p53_L4 n m4 x0 x1 x2 x3:=by
 intro m
 induction m with
 | zero=>intros; rw [e53_L4_0]; rfl
 | succ m ih =>
  intros
  rw [e53_L4]
  try simp only [ih]
  rfl
theorem F53_eq (n:Nat) (a:List NT) (b:Int × Int × List Int) (c:List Int):runF TT G53 an53 Try.f53 c53 ps53 rs53 n (a,b,c,())=p53 n a b c:=by
 rw [e53_top]
 simp only [t53_L4]
 try rfl
noncomputable def q53 (n:Nat) (x:argsD ps53):Option R53:=p53 n x.1 x.2.1 x.2.2.1
noncomputable def Sm53:Sm:=⟨ps53,rs53,false,q53⟩
theorem holds53 (hg:GamOK Try.prog G53):Holds Try.prog 53 Sm53:=by
 have:=h0_53 hg
 have e:(runF TT G53 an53 Try.f53 c53 ps53 rs53)=q53:=by
  funext n x
  exact F53_eq n x.1 x.2.1 x.2.2.1
 rw [e] at this
 exact this
theorem gam53:GamOK Try.prog G53:=by
 intro f s h
 unfold G53 at h
 split at h
 ·injection h with h; subst h; exact ⟨⟨Try.f36,c36,Try.func36,by kernel_rfl,by decide +kernel⟩,hh36⟩
 ·injection h with h; subst h; exact ⟨⟨Try.f82,c82,Try.func82,by kernel_rfl,by decide +kernel⟩,hh82⟩
 ·injection h with h; subst h; exact ⟨⟨Try.f90,c90,Try.func90,by kernel_rfl,by decide +kernel⟩,hh90⟩
 ·cases h
theorem hh53:Holds Try.prog 53 Sm53:=holds53 gam53
end Go.Proofs.Ythhopbicmaipgaa.Rx.S

namespace Go.Proofs.Ythhopbicmaipgaa.Rx.S
open Go Go.RowKit Go.Proofs
set_option maxRecDepth 100000
abbrev ps112:List PK:=[.own tFs true,.val i64 false]
abbrev rs112:List RK:=[.own tFs true]
abbrev R112:=retsD rs112 × outsD ps112
noncomputable def st112_top (n:Nat) (a:List NT) (b:Int):Option R112 :=
 cond (decide ((0:Int) < b)) (cond (decide ((0:Int)≤b)) (cond (decide (b < (↑a.length:Int))) (cond (decide ((a.getD b.toNat ZN).2.2.2.2.1=(0:Int))) (cond (decide ((0:Int)≤b)) (cond (decide (b < (↑a.length:Int))) (cond (decide ((a.getD b.toNat ZN).2.2.2.2.2.1=(0:Int))) (cond (decide ((0:Int)≤b)) (cond (decide (b < (↑a.length:Int))) (some ((a.set b.toNat ZN,()),())) (none)) (none)) (some ((a,()),()))) (none)) (none)) (some ((a,()),()))) (none)) (none)) (some ((a,()),()))
noncomputable def p112 (n:Nat) (a:List NT) (b:Int):Option R112:=st112_top n a b
noncomputable def q112 (n:Nat) (x:argsD ps112):Option R112:=p112 n x.1 x.2.1
end Go.Proofs.Ythhopbicmaipgaa.Rx.S

namespace Go.Proofs.Ythhopbicmaipgaa.Rx.S
open Go Go.RowKit Go.Proofs
set_option maxRecDepth 100000
abbrev ps83:List PK:=[.own tFs true,.val i64 false,.val .bool false]
abbrev rs83:List RK:=[.own tFs true,.val i64 false]
abbrev R83:=retsD rs83 × outsD ps83
noncomputable def st83_top (n:Nat) (a:List NT) (b:Int) (c:Bool):Option R83 :=
 cond (decide ((0:Int)≤b)) (cond (decide (b < (↑a.length:Int))) (cond (c) (cond (decide ((99:Int)≤(a.getD b.toNat ZN).2.2.2.2.2.1)) (some ((a,((6:Int),())),())) (cond (!c) (cond (decide ((a.getD b.toNat ZN).2.2.2.2.2.1=(0:Int))) (some ((a,((6:Int),())),())) (cond (c) (cond (decide ((0:Int)≤b)) (cond (decide (b < (↑a.length:Int))) (some ((a.set b.toNat ((a.getD b.toNat ZN).1,(a.getD b.toNat ZN).2.1,(a.getD b.toNat ZN).2.2.1,(a.getD b.toNat ZN).2.2.2.1,(a.getD b.toNat ZN).2.2.2.2.1,Go.IntKind.i64.wrap ((a.getD b.toNat ZN).2.2.2.2.2.1 + (1:Int)),(a.getD b.toNat ZN).2.2.2.2.2.2),((0:Int),())),())) (none)) (none)) (cond (decide ((0:Int)≤b)) (cond (decide (b < (↑a.length:Int))) ((q112 n (a.set b.toNat ((a.getD b.toNat ZN).1,(a.getD b.toNat ZN).2.1,(a.getD b.toNat ZN).2.2.1,(a.getD b.toNat ZN).2.2.2.1,(a.getD b.toNat ZN).2.2.2.2.1,Go.IntKind.i64.wrap ((a.getD b.toNat ZN).2.2.2.2.2.1 - (1:Int)),(a.getD b.toNat ZN).2.2.2.2.2.2),b,())).bind fun r0=>some ((r0.1.1,((0:Int),())),())) (none)) (none)))) (cond (c) (cond (decide ((0:Int)≤b)) (cond (decide (b < (↑a.length:Int))) (some ((a.set b.toNat ((a.getD b.toNat ZN).1,(a.getD b.toNat ZN).2.1,(a.getD b.toNat ZN).2.2.1,(a.getD b.toNat ZN).2.2.2.1,(a.getD b.toNat ZN).2.2.2.2.1,Go.IntKind.i64.wrap ((a.getD b.toNat ZN).2.2.2.2.2.1 + (1:Int)),(a.getD b.toNat ZN).2.2.2.2.2.2),((0:Int),())),())) (none)) (none)) (cond (decide ((0:Int)≤b)) (cond (decide (b < (↑a.length:Int))) ((q112 n (a.set b.toNat ((a.getD b.toNat ZN).1,(a.getD b.toNat ZN).2.1,(a.getD b.toNat ZN).2.2.1,(a.getD b.toNat ZN).2.2.2.1,(a.getD b.toNat ZN).2.2.2.2.1,Go.IntKind.i64.wrap ((a.getD b.toNat ZN).2.2.2.2.2.1 - (1:Int)),(a.getD b.toNat ZN).2.2.2.2.2.2),b,())).bind fun r1=>some ((r1.1.1,((0:Int),())),())) (none)) (none))))) (cond (!c) (cond (decide ((a.getD b.toNat ZN).2.2.2.2.2.1=(0:Int))) (some ((a,((6:Int),())),())) (cond (c) (cond (decide ((0:Int)≤b)) (cond (decide (b < (↑a.length:Int))) (some ((a.set b.toNat ((a.getD b.toNat ZN).1,(a.getD b.toNat ZN).2.1,(a.getD b.toNat ZN).2.2.1,(a.getD b.toNat ZN).2.2.2.1,(a.getD b.toNat ZN).2.2.2.2.1,Go.IntKind.i64.wrap ((a.getD b.toNat ZN).2.2.2.2.2.1 + (1:Int)),(a.getD b.toNat ZN).2.2.2.2.2.2),((0:Int),())),())) (none)) (none)) (cond (decide ((0:Int)≤b)) (cond (decide (b < (↑a.length:Int))) ((q112 n (a.set b.toNat ((a.getD b.toNat ZN).1,(a.getD b.toNat ZN).2.1,(a.getD b.toNat ZN).2.2.1,(a.getD b.toNat ZN).2.2.2.1,(a.getD b.toNat ZN).2.2.2.2.1,Go.IntKind.i64.wrap ((a.getD b.toNat ZN).2.2.2.2.2.1 - (1:Int)),(a.getD b.toNat ZN).2.2.2.2.2.2),b,())).bind fun r2=>some ((r2.1.1,((0:Int),())),())) (none)) (none)))) (cond (c) (cond (decide ((0:Int)≤b)) (cond (decide (b < (↑a.length:Int))) (some ((a.set b.toNat ((a.getD b.toNat ZN).1,(a.getD b.toNat ZN).2.1,(a.getD b.toNat ZN).2.2.1,(a.getD b.toNat ZN).2.2.2.1,(a.getD b.toNat ZN).2.2.2.2.1,Go.IntKind.i64.wrap ((a.getD b.toNat ZN).2.2.2.2.2.1 + (1:Int)),(a.getD b.toNat ZN).2.2.2.2.2.2),((0:Int),())),())) (none)) (none)) (cond (decide ((0:Int)≤b)) (cond (decide (b < (↑a.length:Int))) ((q112 n (a.set b.toNat ((a.getD b.toNat ZN).1,(a.getD b.toNat ZN).2.1,(a.getD b.toNat ZN).2.2.1,(a.getD b.toNat ZN).2.2.2.1,(a.getD b.toNat ZN).2.2.2.2.1,Go.IntKind.i64.wrap ((a.getD b.toNat ZN).2.2.2.2.2.1 - (1:Int)),(a.getD b.toNat ZN).2.2.2.2.2.2),b,())).bind fun r3=>some ((r3.1.1,((0:Int),())),())) (none)) (none))))) (none)) (none)
noncomputable def p83 (n:Nat) (a:List NT) (b:Int) (c:Bool):Option R83:=st83_top n a b c
noncomputable def q83 (n:Nat) (x:argsD ps83):Option R83:=p83 n x.1 x.2.1 x.2.2.1
end Go.Proofs.Ythhopbicmaipgaa.Rx.S

namespace Go.Proofs.Ythhopbicmaipgaa.Rx.S
open Go Go.RowKit Go.Proofs
set_option maxRecDepth 100000
abbrev ps70:List PK:=[.bo tFs,.val i64 false]
abbrev rs70:List RK:=[]
abbrev R70:=retsD rs70 × outsD ps70
noncomputable def st70_top (n:Nat) (a:List NT) (b:Int):Option R70 :=
 cond (decide ((0:Int)≤b)) (cond (decide (b < (↑a.length:Int))) (cond (!decide (b=(0:Int))) (cond (decide ((a.getD b.toNat ZN).2.2.2.2.1=(0:Int))) (cond (decide ((a.getD b.toNat ZN).2.2.2.2.2.1=(0:Int))) (some ((),(a.set b.toNat ZN,()))) (some ((),(a,())))) (some ((),(a,())))) (some ((),(a,())))) (none)) (none)
noncomputable def p70 (n:Nat) (a:List NT) (b:Int):Option R70:=st70_top n a b
noncomputable def q70 (n:Nat) (x:argsD ps70):Option R70:=p70 n x.1 x.2.1
end Go.Proofs.Ythhopbicmaipgaa.Rx.S

namespace Go.Proofs.Ythhopbicmaipgaa.Rx.S
open Go Go.RowKit Go.Proofs
set_option maxRecDepth 100000
noncomputable def c103:Code:=(Try.f103.body.getD .skip)
def an103:An:=⟨fun r=>match r with | 2=>⟨[1,2,5],[]⟩ | _=>⟨[],[]⟩,fun _ _=>none⟩
abbrev ps103:List PK:=[.val (tIn 95) true,.val .str false]
abbrev rs103:List RK:=[.val i64 false]
abbrev R103:=retsD rs103 × outsD ps103
noncomputable def G103:Gam:=fun _=>none
theorem h0_103 (hg:GamOK Try.prog G103):Holds Try.prog 103 ⟨ps103,rs103,false,runF TT G103 an103 Try.f103 c103 ps103 rs103⟩:=holds_of tt_ok hg mixed Try.func103 (by kernel_rfl) (by rfl) (by decide +kernel)
noncomputable def at103:Nat→Pt→List Nat→St→Option R103:=atF TT G103 an103 Try.f103 c103 _ _
def sh103_L2 (x0:ByteArray) (x1:Int) (x2:Int) (x3:Int) (x4:Int) (x5:Int) (x6:Int) (x7:Int) (x8:Bool) (x9:ByteArray) (x10:List (ByteArray × Int)):St:=(St.mk (AV.undef :: ((AV.one (SV.str x0)) :: ((AV.one (SV.bptr 1000000 0)) :: (AV.undef :: (AV.undef :: ((AV.one (SV.int (Go.IntKind.i64) x1)) :: (AV.undef :: (AV.undef :: (AV.undef :: (AV.undef :: (AV.undef :: (AV.undef :: (AV.undef :: (AV.undef :: (AV.undef :: (AV.undef :: (AV.undef :: (AV.undef :: (AV.undef :: (AV.undef :: (AV.undef :: (AV.undef :: [])))))))))))))))))))))) ((1000000,(Ent.box ((SV.int (Go.IntKind.i64) x2) :: ((SV.int (Go.IntKind.i64) x3) :: ((SV.int (Go.IntKind.i64) x4) :: ((SV.int (Go.IntKind.i64) x5) :: ((SV.int (Go.IntKind.i64) x6) :: ((SV.int (Go.IntKind.i64) x7) :: ((SV.bool x8) :: ((SV.str x9) :: ((SV.con (⟨95,Ty.str.pair (Ty.int Go.IntKind.i64),x10⟩:Rw)) :: []))))))))))) :: []))
noncomputable def st103_top (n:Nat) (lL2:ByteArray→Int→Int→Int→Int→Int→Int→Int→Bool→ByteArray→(List (ByteArray × Int))→Option R103) (a:NT) (b:ByteArray):Option R103 :=
 lL2 (b) ((0:Int)) (a.1) (a.2.1) (a.2.2.1) (a.2.2.2.1) (a.2.2.2.2.1) (a.2.2.2.2.2.1) (a.2.2.2.2.2.2.1) (a.2.2.2.2.2.2.2.1) (a.2.2.2.2.2.2.2.2)
noncomputable def st103_L2 (n:Nat) (lL2:ByteArray→Int→Int→Int→Int→Int→Int→Int→Bool→ByteArray→(List (ByteArray × Int))→Option R103) (x0:ByteArray) (x1:Int) (x2:Int) (x3:Int) (x4:Int) (x5:Int) (x6:Int) (x7:Int) (x8:Bool) (x9:ByteArray) (x10:List (ByteArray × Int)):Option R103 :=
 cond (decide (x1 < (↑x10.length:Int))) (cond (decide ((0:Int)≤x1)) (cond (decide (x1 < (↑x10.length:Int))) (cond (ByteArray.toList (x10.getD x1.toNat (ByteArray.empty,(0:Int))).1 == x0.toList) (some ((x1,()),())) (lL2 (x0) (Go.IntKind.i64.wrap (x1 + (1:Int))) (x2) (x3) (x4) (x5) (x6) (x7) (x8) (x9) (x10))) (none)) (none)) (some (((-1:Int),()),()))
theorem e103_top (n:Nat) (a:NT) (b:ByteArray):runF TT G103 an103 Try.f103 c103 ps103 rs103 n (a,b,())=st103_top n (fun x0 x1 x2 x3 x4 x5 x6 x7 x8 x9 x10=>at103 n (.head 2) [n] (sh103_L2 x0 x1 x2 x3 x4 x5 x6 x7 x8 x9 x10)) a b:=by kernel_rfl
theorem e103_L2_0 (n:Nat) (x0:ByteArray) (x1:Int) (x2:Int) (x3:Int) (x4:Int) (x5:Int) (x6:Int) (x7:Int) (x8:Bool) (x9:ByteArray) (x10:List (ByteArray × Int)):at103 n (.head 2) [0] (sh103_L2 x0 x1 x2 x3 x4 x5 x6 x7 x8 x9 x10)=none:=by kernel_rfl
theorem e103_L2 (n:Nat) (m2:Nat) (x0:ByteArray) (x1:Int) (x2:Int) (x3:Int) (x4:Int) (x5:Int) (x6:Int) (x7:Int) (x8:Bool) (x9:ByteArray) (x10:List (ByteArray × Int)):at103 n (.head 2) [m2 + 1] (sh103_L2 x0 x1 x2 x3 x4 x5 x6 x7 x8 x9 x10)=st103_L2 n (fun x0 x1 x2 x3 x4 x5 x6 x7 x8 x9 x10=>at103 n (.head 2) [m2] (sh103_L2 x0 x1 x2 x3 x4 x5 x6 x7 x8 x9 x10)) x0 x1 x2 x3 x4 x5 x6 x7 x8 x9 x10:=by kernel_rfl
noncomputable def p103_L2 (n:Nat):Nat→ByteArray→Int→Int→Int→Int→Int→Int→Int→Bool→ByteArray→(List (ByteArray × Int))→Option R103
 | 0,_,_,_,_,_,_,_,_,_,_,_=>none
 | m + 1,x0,x1,x2,x3,x4,x5,x6,x7,x8,x9,x10=>st103_L2 n (p103_L2 n m) x0 x1 x2 x3 x4 x5 x6 x7 x8 x9 x10
noncomputable def p103 (n:Nat) (a:NT) (b:ByteArray):Option R103:=st103_top n (p103_L2 n n) a b
theorem t103_L2 (n:Nat):∀ (m2:Nat) (x0:ByteArray) (x1:Int) (x2:Int) (x3:Int) (x4:Int) (x5:Int) (x6:Int) (x7:Int) (x8:Bool) (x9:ByteArray) (x10:List (ByteArray × Int)),at103 n (.head 2) [m2] (sh103_L2 x0 x1 x2 x3 x4 x5 x6 x7 x8 x9 x10)=p103_L2 n m2 x0 x1 x2 x3 x4 x5 x6 x7 x8 x9 x10:=by
 intro m
 induction m with
 | zero=>intros; rw [e103_L2_0]; rfl
 | succ m ih =>
  intros
  rw [e103_L2]
  try simp only [ih]
  rfl
theorem F103_eq (n:Nat) (a:NT) (b:ByteArray):runF TT G103 an103 Try.f103 c103 ps103 rs103 n (a,b,())=p103 n a b:=by
 rw [e103_top]
 simp only [t103_L2]
 try rfl
noncomputable def q103 (n:Nat) (x:argsD ps103):Option R103:=p103 n x.1 x.2.1
noncomputable def Sm103:Sm:=⟨ps103,rs103,false,q103⟩
theorem holds103 (hg:GamOK Try.prog G103):Holds Try.prog 103 Sm103:=by
 have:=h0_103 hg
 have e:(runF TT G103 an103 Try.f103 c103 ps103 rs103)=q103:=by
  funext n x
  exact F103_eq n x.1 x.2.1
 rw [e] at this
 exact this
theorem gam103:GamOK Try.prog G103:=fun _ _ h=>by cases h
theorem hh103:Holds Try.prog 103 Sm103:=holds103 gam103
end Go.Proofs.Ythhopbicmaipgaa.Rx.S

namespace Go.Proofs.Ythhopbicmaipgaa.Rx.S
open Go Go.RowKit Go.Proofs
set_option maxRecDepth 100000
noncomputable def c104:Code:=(Try.f104.body.getD .skip)
def an104:An:=⟨fun r=>match r with | 4=>⟨[1,3,5,6,7,8,9],[]⟩ | _=>⟨[],[]⟩,fun _ _=>none⟩
abbrev ps104:List PK:=[.own tFs true,.val i64 false,.val tEn true]
abbrev rs104:List RK:=[.own tFs true]
abbrev R104:=retsD rs104 × outsD ps104
noncomputable def G104:Gam:=fun _=>none
theorem h0_104 (hg:GamOK Try.prog G104):Holds Try.prog 104 ⟨ps104,rs104,false,runF TT G104 an104 Try.f104 c104 ps104 rs104⟩:=holds_of tt_ok hg mixed Try.func104 (by kernel_rfl) (by rfl) (by decide +kernel)
noncomputable def at104:Nat→Pt→List Nat→St→Option R104:=atF TT G104 an104 Try.f104 c104 _ _
def sh104_L4 (x0:Int) (x1:Bool) (x2:Int) (x3:ByteArray) (x4:Int) (x5:List (ByteArray × Int)) (x6:List NT):St:=(St.mk (AV.undef :: ((AV.one (SV.int (Go.IntKind.i64) x0)) :: (AV.undef :: ((AV.one (SV.bptr 1000000 0)) :: (AV.undef :: ((AV.one (SV.bptr 1000001 0)) :: ((AV.one (SV.bptr 1000002 0)) :: ((AV.one (SV.ref 1000003 0 [] Option.none)) :: ((AV.one (SV.bool x1)) :: ((AV.one (SV.int (Go.IntKind.i64) x2)) :: (AV.undef :: (AV.undef :: (AV.undef :: (AV.undef :: (AV.undef :: (AV.undef :: (AV.undef :: (AV.undef :: (AV.undef :: (AV.undef :: (AV.undef :: (AV.undef :: (AV.undef :: (AV.undef :: (AV.undef :: (AV.undef :: (AV.undef :: (AV.undef :: (AV.undef :: (AV.undef :: (AV.undef :: (AV.undef :: (AV.undef :: (AV.undef :: (AV.undef :: (AV.undef :: (AV.undef :: (AV.undef :: (AV.undef :: (AV.undef :: (AV.undef :: (AV.undef :: (AV.undef :: (AV.undef :: (AV.undef :: (AV.undef :: (AV.undef :: (AV.undef :: (AV.undef :: (AV.undef :: (AV.undef :: (AV.undef :: (AV.undef :: (AV.undef :: (AV.undef :: (AV.undef :: (AV.undef :: (AV.undef :: (AV.undef :: (AV.undef :: (AV.undef :: (AV.undef :: [])))))))))))))))))))))))))))))))))))))))))))))))))))))))))))))) ((1000000,(Ent.box ((SV.ref 1000004 0 [] Option.none) :: []))) :: ((1000001,(Ent.box ((SV.str x3) :: ((SV.int (Go.IntKind.i64) x4) :: [])))) :: ((1000002,(Ent.box (SV.nil :: []))) :: ((1000003,(Ent.row (⟨95,Ty.str.pair (Ty.int Go.IntKind.i64),x5⟩:Rw) 0 Option.none)) :: ((1000004,(Ent.row (⟨39,(Ty.int Go.IntKind.i64).pair ((Ty.int Go.IntKind.i64).pair ((Ty.int Go.IntKind.i64).pair ((Ty.int Go.IntKind.i64).pair ((Ty.int Go.IntKind.i64).pair ((Ty.int Go.IntKind.i64).pair (Ty.bool.pair (Ty.str.pair (Ty.row (nat_lit 95) (Ty.str.pair (Ty.int Go.IntKind.i64)))))))))),x6⟩:Rw) 0 Option.none)) :: []))))))
noncomputable def st104_top (n:Nat) (lL4:Int→Bool→Int→ByteArray→Int→(List (ByteArray × Int))→(List NT)→Option R104) (a:List NT) (b:Int) (c:ByteArray × Int):Option R104 :=
 lL4 (b) (false) ((0:Int)) (c.1) (c.2) ([]) (a)
noncomputable def st104_L4 (n:Nat) (lL4:Int→Bool→Int→ByteArray→Int→(List (ByteArray × Int))→(List NT)→Option R104) (x0:Int) (x1:Bool) (x2:Int) (x3:ByteArray) (x4:Int) (x5:List (ByteArray × Int)) (x6:List NT):Option R104 :=
 cond (decide ((0:Int)≤x0)) (cond (decide (x0 < (↑x6.length:Int))) (cond (decide (x2 < (↑(List.length (x6.getD x0.toNat ZN).2.2.2.2.2.2.2.2):Int))) (cond (decide ((0:Int)≤x0)) (cond (decide (x0 < (↑x6.length:Int))) (cond (decide ((0:Int)≤x2)) (cond (decide (x2 < (↑(List.length (x6.getD x0.toNat ZN).2.2.2.2.2.2.2.2):Int))) (cond (!x1) (cond (!(Go.Op.bytesLess (ByteArray.toList (List.getD (x6.getD x0.toNat ZN).2.2.2.2.2.2.2.2 x2.toNat (ByteArray.empty,(0:Int))).1) x3.toList || ByteArray.toList (List.getD (x6.getD x0.toNat ZN).2.2.2.2.2.2.2.2 x2.toNat (ByteArray.empty,(0:Int))).1 == x3.toList)) (cond (decide ((x5.length + [(x3,x4)].length) * (24:Nat)≤(140737488355328:Nat))) (cond (decide (((x5 ++ [(x3,x4)]).length + [((List.getD (x6.getD x0.toNat ZN).2.2.2.2.2.2.2.2 x2.toNat (ByteArray.empty,(0:Int))).1,(List.getD (x6.getD x0.toNat ZN).2.2.2.2.2.2.2.2 x2.toNat (ByteArray.empty,(0:Int))).2)].length) * (24:Nat)≤(140737488355328:Nat))) (lL4 (x0) (true) (Go.IntKind.i64.wrap (x2 + (1:Int))) (x3) (x4) (x5 ++ [(x3,x4)] ++ [((List.getD (x6.getD x0.toNat ZN).2.2.2.2.2.2.2.2 x2.toNat (ByteArray.empty,(0:Int))).1,(List.getD (x6.getD x0.toNat ZN).2.2.2.2.2.2.2.2 x2.toNat (ByteArray.empty,(0:Int))).2)]) (x6)) (none)) (none)) (cond (decide ((x5.length + [((List.getD (x6.getD x0.toNat ZN).2.2.2.2.2.2.2.2 x2.toNat (ByteArray.empty,(0:Int))).1,(List.getD (x6.getD x0.toNat ZN).2.2.2.2.2.2.2.2 x2.toNat (ByteArray.empty,(0:Int))).2)].length) * (24:Nat)≤(140737488355328:Nat))) (lL4 (x0) (x1) (Go.IntKind.i64.wrap (x2 + (1:Int))) (x3) (x4) (x5 ++ [((List.getD (x6.getD x0.toNat ZN).2.2.2.2.2.2.2.2 x2.toNat (ByteArray.empty,(0:Int))).1,(List.getD (x6.getD x0.toNat ZN).2.2.2.2.2.2.2.2 x2.toNat (ByteArray.empty,(0:Int))).2)]) (x6)) (none))) (cond (decide ((x5.length + [((List.getD (x6.getD x0.toNat ZN).2.2.2.2.2.2.2.2 x2.toNat (ByteArray.empty,(0:Int))).1,(List.getD (x6.getD x0.toNat ZN).2.2.2.2.2.2.2.2 x2.toNat (ByteArray.empty,(0:Int))).2)].length) * (24:Nat)≤(140737488355328:Nat))) (lL4 (x0) (x1) (Go.IntKind.i64.wrap (x2 + (1:Int))) (x3) (x4) (x5 ++ [((List.getD (x6.getD x0.toNat ZN).2.2.2.2.2.2.2.2 x2.toNat (ByteArray.empty,(0:Int))).1,(List.getD (x6.getD x0.toNat ZN).2.2.2.2.2.2.2.2 x2.toNat (ByteArray.empty,(0:Int))).2)]) (x6)) (none))) (none)) (none)) (none)) (none)) (cond (!x1) (cond (decide ((x5.length + [(x3,x4)].length) * (24:Nat)≤(140737488355328:Nat))) (cond (decide ((0:Int)≤x0)) (cond (decide (x0 < (↑x6.length:Int))) (some ((x6.set x0.toNat ((x6.getD x0.toNat ZN).1,(x6.getD x0.toNat ZN).2.1,(x6.getD x0.toNat ZN).2.2.1,(x6.getD x0.toNat ZN).2.2.2.1,(x6.getD x0.toNat ZN).2.2.2.2.1,(x6.getD x0.toNat ZN).2.2.2.2.2.1,(x6.getD x0.toNat ZN).2.2.2.2.2.2.1,(x6.getD x0.toNat ZN).2.2.2.2.2.2.2.1,x5 ++ [(x3,x4)]),()),())) (none)) (none)) (none)) (cond (decide ((0:Int)≤x0)) (cond (decide (x0 < (↑x6.length:Int))) (some ((x6.set x0.toNat ((x6.getD x0.toNat ZN).1,(x6.getD x0.toNat ZN).2.1,(x6.getD x0.toNat ZN).2.2.1,(x6.getD x0.toNat ZN).2.2.2.1,(x6.getD x0.toNat ZN).2.2.2.2.1,(x6.getD x0.toNat ZN).2.2.2.2.2.1,(x6.getD x0.toNat ZN).2.2.2.2.2.2.1,(x6.getD x0.toNat ZN).2.2.2.2.2.2.2.1,x5),()),())) (none)) (none)))) (none)) (none)
theorem e104_top (n:Nat) (a:List NT) (b:Int) (c:ByteArray × Int):runF TT G104 an104 Try.f104 c104 ps104 rs104 n (a,b,c,())=st104_top n (fun x0 x1 x2 x3 x4 x5 x6=>at104 n (.head 4) [n] (sh104_L4 x0 x1 x2 x3 x4 x5 x6)) a b c:=by kernel_rfl
theorem e104_L4_0 (n:Nat) (x0:Int) (x1:Bool) (x2:Int) (x3:ByteArray) (x4:Int) (x5:List (ByteArray × Int)) (x6:List NT):at104 n (.head 4) [0] (sh104_L4 x0 x1 x2 x3 x4 x5 x6)=none:=by kernel_rfl
theorem e104_L4 (n:Nat) (m4:Nat) (x0:Int) (x1:Bool) (x2:Int) (x3:ByteArray) (x4:Int) (x5:List (ByteArray × Int)) (x6:List NT):at104 n (.head 4) [m4 + 1] (sh104_L4 x0 x1 x2 x3 x4 x5 x6)=st104_L4 n (fun x0 x1 x2 x3 x4 x5 x6=>at104 n (.head 4) [m4] (sh104_L4 x0 x1 x2 x3 x4 x5 x6)) x0 x1 x2 x3 x4 x5 x6:=by kernel_rfl
noncomputable def p104_L4 (n:Nat):Nat→Int→Bool→Int→ByteArray→Int→(List (ByteArray × Int))→(List NT)→Option R104
 | 0,_,_,_,_,_,_,_=>none
 | m + 1,x0,x1,x2,x3,x4,x5,x6=>st104_L4 n (p104_L4 n m) x0 x1 x2 x3 x4 x5 x6
noncomputable def p104 (n:Nat) (a:List NT) (b:Int) (c:ByteArray × Int):Option R104:=st104_top n (p104_L4 n n) a b c
theorem t104_L4 (n:Nat):∀ (m4:Nat) (x0:Int) (x1:Bool) (x2:Int) (x3:ByteArray) (x4:Int) (x5:List (ByteArray × Int)) (x6:List NT),at104 n (.head 4) [m4] (sh104_L4 x0 x1 x2 x3 x4 x5 x6)=p104_L4 n m4 x0 x1 x2 x3 x4 x5 x6:=by
 intro m
 induction m with
 | zero=>intros; rw [e104_L4_0]; rfl
 | succ m ih =>
  intros
  rw [e104_L4]
  try simp only [ih]
  rfl
theorem F104_eq (n:Nat) (a:List NT) (b:Int) (c:ByteArray × Int):runF TT G104 an104 Try.f104 c104 ps104 rs104 n (a,b,c,())=p104 n a b c:=by
 rw [e104_top]
 simp only [t104_L4]
 try rfl
noncomputable def q104 (n:Nat) (x:argsD ps104):Option R104:=p104 n x.1 x.2.1 x.2.2.1
noncomputable def Sm104:Sm:=⟨ps104,rs104,false,q104⟩
theorem holds104 (hg:GamOK Try.prog G104):Holds Try.prog 104 Sm104:=by
 have:=h0_104 hg
 have e:(runF TT G104 an104 Try.f104 c104 ps104 rs104)=q104:=by
  funext n x
  exact F104_eq n x.1 x.2.1 x.2.2.1
 rw [e] at this
 exact this
theorem gam104:GamOK Try.prog G104:=fun _ _ h=>by cases h
theorem hh104:Holds Try.prog 104 Sm104:=holds104 gam104
end Go.Proofs.Ythhopbicmaipgaa.Rx.S

namespace Go.Proofs.Ythhopbicmaipgaa.Rx.S
open Go Go.RowKit Go.Proofs
set_option maxRecDepth 100000
noncomputable def c137:Code:=(Try.f137.body.getD .skip)
def an137:An:=⟨fun r=>match r with | 2=>⟨[0,1,5],[]⟩ | _=>⟨[],[]⟩,fun _ _=>none⟩
abbrev ps137:List PK:=[.val (.row 3 i64) false,.val i64 false]
abbrev rs137:List RK:=[.val .bool false]
abbrev R137:=retsD rs137 × outsD ps137
noncomputable def G137:Gam:=fun _=>none
theorem h0_137 (hg:GamOK Try.prog G137):Holds Try.prog 137 ⟨ps137,rs137,false,runF TT G137 an137 Try.f137 c137 ps137 rs137⟩:=holds_of tt_ok hg mixed Try.func137 (by kernel_rfl) (by rfl) (by decide +kernel)
noncomputable def at137:Nat→Pt→List Nat→St→Option R137:=atF TT G137 an137 Try.f137 c137 _ _
def sh137_L2 (x0:List Int) (x1:Int) (x2:Int):St:=(St.mk ((AV.one (SV.con (⟨3,Ty.int Go.IntKind.i64,x0⟩:Rw))) :: ((AV.one (SV.int (Go.IntKind.i64) x1)) :: (AV.undef :: (AV.undef :: (AV.undef :: ((AV.one (SV.int (Go.IntKind.i64) x2)) :: (AV.undef :: (AV.undef :: (AV.undef :: (AV.undef :: (AV.undef :: (AV.undef :: (AV.undef :: (AV.undef :: (AV.undef :: (AV.undef :: (AV.undef :: (AV.undef :: [])))))))))))))))))) [])
noncomputable def st137_top (n:Nat) (lL2:(List Int)→Int→Int→Option R137) (a:List Int) (b:Int):Option R137 :=
 lL2 (a) (b) ((0:Int))
noncomputable def st137_L2 (n:Nat) (lL2:(List Int)→Int→Int→Option R137) (x0:List Int) (x1:Int) (x2:Int):Option R137 :=
 cond (decide (x2 < (↑x0.length:Int))) (cond (decide ((0:Int)≤x2)) (cond (decide (x2 < (↑x0.length:Int))) (cond (decide (x0.getD x2.toNat (0:Int)=x1)) (some ((true,()),())) (lL2 (x0) (x1) (Go.IntKind.i64.wrap (x2 + (1:Int))))) (none)) (none)) (some ((false,()),()))
theorem e137_top (n:Nat) (a:List Int) (b:Int):runF TT G137 an137 Try.f137 c137 ps137 rs137 n (a,b,())=st137_top n (fun x0 x1 x2=>at137 n (.head 2) [n] (sh137_L2 x0 x1 x2)) a b:=by kernel_rfl
theorem e137_L2_0 (n:Nat) (x0:List Int) (x1:Int) (x2:Int):at137 n (.head 2) [0] (sh137_L2 x0 x1 x2)=none:=by kernel_rfl
theorem e137_L2 (n:Nat) (m2:Nat) (x0:List Int) (x1:Int) (x2:Int):at137 n (.head 2) [m2 + 1] (sh137_L2 x0 x1 x2)=st137_L2 n (fun x0 x1 x2=>at137 n (.head 2) [m2] (sh137_L2 x0 x1 x2)) x0 x1 x2:=by kernel_rfl
noncomputable def p137_L2 (n:Nat):Nat→(List Int)→Int→Int→Option R137
 | 0,_,_,_=>none
 | m + 1,x0,x1,x2=>st137_L2 n (p137_L2 n m) x0 x1 x2
noncomputable def p137 (n:Nat) (a:List Int) (b:Int):Option R137:=st137_top n (p137_L2 n n) a b
theorem t137_L2 (n:Nat):∀ (m2:Nat) (x0:List Int) (x1:Int) (x2:Int),at137 n (.head 2) [m2] (sh137_L2 x0 x1 x2)=p137_L2 n m2 x0 x1 x2:=by
 intro m
 induction m with
 | zero=>intros; rw [e137_L2_0]; rfl
 | succ m ih =>
  intros
  rw [e137_L2]
  try simp only [ih]
  rfl
theorem F137_eq (n:Nat) (a:List Int) (b:Int):runF TT G137 an137 Try.f137 c137 ps137 rs137 n (a,b,())=p137 n a b:=by
 rw [e137_top]
 simp only [t137_L2]
 try rfl
noncomputable def q137 (n:Nat) (x:argsD ps137):Option R137:=p137 n x.1 x.2.1
noncomputable def Sm137:Sm:=⟨ps137,rs137,false,q137⟩
theorem holds137 (hg:GamOK Try.prog G137):Holds Try.prog 137 Sm137:=by
 have:=h0_137 hg
 have e:(runF TT G137 an137 Try.f137 c137 ps137 rs137)=q137:=by
  funext n x
  exact F137_eq n x.1 x.2.1
 rw [e] at this
 exact this
theorem gam137:GamOK Try.prog G137:=fun _ _ h=>by cases h
theorem hh137:Holds Try.prog 137 Sm137:=holds137 gam137
end Go.Proofs.Ythhopbicmaipgaa.Rx.S

namespace Go.Proofs.Ythhopbicmaipgaa.Rx.S
open Go Go.RowKit Go.Proofs
set_option maxRecDepth 100000
noncomputable def c132:Code:=(Try.f132.body.getD .skip)
def an132:An:=⟨fun _=>⟨[],[]⟩,fun _ _=>none⟩
abbrev ps132:List PK:=[.val tCr true,.val i64 false,.val i64 false,.val i64 false,.val i64 false]
abbrev rs132:List RK:=[.val .bool false]
abbrev R132:=retsD rs132 × outsD ps132
noncomputable def G132:Gam:=fun f=>match f with | 137=>some Sm137 | _=>none
theorem h0_132 (hg:GamOK Try.prog G132):Holds Try.prog 132 ⟨ps132,rs132,false,runF TT G132 an132 Try.f132 c132 ps132 rs132⟩:=holds_of tt_ok hg mixed Try.func132 (by kernel_rfl) (by rfl) (by decide +kernel)
noncomputable def st132_top (n:Nat) (a:Int × Int × List Int) (b:Int) (c:Int) (d:Int) (e:Int):Option R132 :=
 cond (decide (a.1=(0:Int))) (cond (decide ((0:Int) < Go.IntKind.i64.wrap (Go.IntKind.i64.wrap (d.tmod (2:Int) + (Go.IntKind.i64.wrap (d.tdiv (8:Int))).tmod (2:Int)) + (Go.IntKind.i64.wrap (d.tdiv (64:Int))).tmod (2:Int)))) (some ((decide (Go.IntKind.i64.wrap (↑(BitVec.ofInt Go.IntKind.i64.bits (7:Int) &&& BitVec.ofInt Go.IntKind.i64.bits e).toNat:Int)=e),()),())) (some ((decide (Go.IntKind.i64.wrap (↑(BitVec.ofInt Go.IntKind.i64.bits (6:Int) &&& BitVec.ofInt Go.IntKind.i64.bits e).toNat:Int)=e),()),()))) (cond (decide (a.1=b)) (some ((decide (Go.IntKind.i64.wrap (↑(BitVec.ofInt Go.IntKind.i64.bits (Go.IntKind.i64.wrap (d.tdiv (64:Int))) &&& BitVec.ofInt Go.IntKind.i64.bits e).toNat:Int)=e),()),())) ((q137 n (a.2.2,c,())).bind fun r0=>cond (r0.1.1) (some ((decide (Go.IntKind.i64.wrap (↑(BitVec.ofInt Go.IntKind.i64.bits ((Go.IntKind.i64.wrap (d.tdiv (8:Int))).tmod (8:Int)) &&& BitVec.ofInt Go.IntKind.i64.bits e).toNat:Int)=e),()),())) (some ((decide (Go.IntKind.i64.wrap (↑(BitVec.ofInt Go.IntKind.i64.bits (d.tmod (8:Int)) &&& BitVec.ofInt Go.IntKind.i64.bits e).toNat:Int)=e),()),()))))
theorem e132_top (n:Nat) (a:Int × Int × List Int) (b:Int) (c:Int) (d:Int) (e:Int):runF TT G132 an132 Try.f132 c132 ps132 rs132 n (a,b,c,d,e,())=st132_top n a b c d e:=by kernel_rfl
noncomputable def p132 (n:Nat) (a:Int × Int × List Int) (b:Int) (c:Int) (d:Int) (e:Int):Option R132:=st132_top n a b c d e
theorem F132_eq (n:Nat) (a:Int × Int × List Int) (b:Int) (c:Int) (d:Int) (e:Int):runF TT G132 an132 Try.f132 c132 ps132 rs132 n (a,b,c,d,e,())=p132 n a b c d e:=by
 rw [e132_top]
 skip
 try rfl
noncomputable def q132 (n:Nat) (x:argsD ps132):Option R132:=p132 n x.1 x.2.1 x.2.2.1 x.2.2.2.1 x.2.2.2.2.1
noncomputable def Sm132:Sm:=⟨ps132,rs132,false,q132⟩
theorem holds132 (hg:GamOK Try.prog G132):Holds Try.prog 132 Sm132:=by
 have:=h0_132 hg
 have e:(runF TT G132 an132 Try.f132 c132 ps132 rs132)=q132:=by
  funext n x
  exact F132_eq n x.1 x.2.1 x.2.2.1 x.2.2.2.1 x.2.2.2.2.1
 rw [e] at this
 exact this
theorem gam132:GamOK Try.prog G132:=by
 intro f s h
 unfold G132 at h
 split at h
 ·injection h with h; subst h; exact ⟨⟨Try.f137,c137,Try.func137,by kernel_rfl,by decide +kernel⟩,hh137⟩
 ·cases h
theorem hh132:Holds Try.prog 132 Sm132:=holds132 gam132
end Go.Proofs.Ythhopbicmaipgaa.Rx.S

namespace Go.Proofs.Ythhopbicmaipgaa.Rx.S
open Go Go.RowKit Go.Proofs
set_option maxRecDepth 100000
noncomputable def c123:Code:=(Try.f123.body.getD .skip)
def an123:An:=⟨fun _=>⟨[],[]⟩,fun _ _=>none⟩
abbrev ps123:List PK:=[.val tFs true,.val tCr true,.val i64 false,.val i64 false]
abbrev rs123:List RK:=[.val .bool false]
abbrev R123:=retsD rs123 × outsD ps123
noncomputable def G123:Gam:=fun f=>match f with | 132=>some Sm132 | _=>none
theorem h0_123 (hg:GamOK Try.prog G123):Holds Try.prog 123 ⟨ps123,rs123,false,runF TT G123 an123 Try.f123 c123 ps123 rs123⟩:=holds_of tt_ok hg mixed Try.func123 (by kernel_rfl) (by rfl) (by decide +kernel)
noncomputable def st123_top (n:Nat) (a:List NT) (b:Int × Int × List Int) (c:Int) (d:Int):Option R123 :=
 cond (decide ((0:Int)≤c)) (cond (decide (c < (↑a.length:Int))) ((q132 n ((b.1,b.2.1,b.2.2),(a.getD c.toNat ZN).2.2.1,(a.getD c.toNat ZN).2.2.2.1,(a.getD c.toNat ZN).2.1,d,())).bind fun r0=>some ((r0.1.1,()),())) (none)) (none)
theorem e123_top (n:Nat) (a:List NT) (b:Int × Int × List Int) (c:Int) (d:Int):runF TT G123 an123 Try.f123 c123 ps123 rs123 n (a,b,c,d,())=st123_top n a b c d:=by kernel_rfl
noncomputable def p123 (n:Nat) (a:List NT) (b:Int × Int × List Int) (c:Int) (d:Int):Option R123:=st123_top n a b c d
theorem F123_eq (n:Nat) (a:List NT) (b:Int × Int × List Int) (c:Int) (d:Int):runF TT G123 an123 Try.f123 c123 ps123 rs123 n (a,b,c,d,())=p123 n a b c d:=by
 rw [e123_top]
 skip
 try rfl
noncomputable def q123 (n:Nat) (x:argsD ps123):Option R123:=p123 n x.1 x.2.1 x.2.2.1 x.2.2.2.1
noncomputable def Sm123:Sm:=⟨ps123,rs123,false,q123⟩
theorem holds123 (hg:GamOK Try.prog G123):Holds Try.prog 123 Sm123:=by
 have:=h0_123 hg
 have e:(runF TT G123 an123 Try.f123 c123 ps123 rs123)=q123:=by
  funext n x
  exact F123_eq n x.1 x.2.1 x.2.2.1 x.2.2.2.1
 rw [e] at this
 exact this
theorem gam123:GamOK Try.prog G123:=by
 intro f s h
 unfold G123 at h
 split at h
 ·injection h with h; subst h; exact ⟨⟨Try.f132,c132,Try.func132,by kernel_rfl,by decide +kernel⟩,hh132⟩
 ·cases h
theorem hh123:Holds Try.prog 123 Sm123:=holds123 gam123
end Go.Proofs.Ythhopbicmaipgaa.Rx.S

namespace Go.Proofs.Ythhopbicmaipgaa.Rx.S
open Go Go.RowKit Go.Proofs
set_option maxRecDepth 100000
abbrev ps127:List PK:=[.own tFs true,.val i64 false,.val i64 false]
abbrev rs127:List RK:=[.own tFs true]
abbrev R127:=retsD rs127 × outsD ps127
noncomputable def st127_top (n:Nat) (a:List NT) (b:Int) (c:Int):Option R127 :=
 cond (decide ((0:Int)≤b)) (cond (decide (b < (↑a.length:Int))) (cond (decide ((0:Int)≤c)) (cond (decide (c≤(↑(List.length (a.getD b.toNat ZN).2.2.2.2.2.2.2.2):Int))) (cond (decide (((0:Nat) + (List.take (c - (0:Int)).toNat (List.drop ((0:Nat) + Int.toNat (0:Int)) (a.getD b.toNat ZN).2.2.2.2.2.2.2.2)).length) * (24:Nat)≤(140737488355328:Nat))) (cond (decide ((0:Int)≤Go.IntKind.i64.wrap (c + (1:Int)))) (cond (decide (Go.IntKind.i64.wrap (c + (1:Int))≤(↑(List.length (a.getD b.toNat ZN).2.2.2.2.2.2.2.2):Int))) (cond (decide (((List.take (c - (0:Int)).toNat (List.drop ((0:Nat) + Int.toNat (0:Int)) (a.getD b.toNat ZN).2.2.2.2.2.2.2.2)).length + (List.take ((↑(List.length (a.getD b.toNat ZN).2.2.2.2.2.2.2.2):Int) - Go.IntKind.i64.wrap (c + (1:Int))).toNat (List.drop ((0:Nat) + (Go.IntKind.i64.wrap (c + (1:Int))).toNat) (a.getD b.toNat ZN).2.2.2.2.2.2.2.2)).length) * (24:Nat)≤(140737488355328:Nat))) (cond (decide ((0:Int)≤b)) (cond (decide (b < (↑a.length:Int))) (some ((a.set b.toNat ((a.getD b.toNat ZN).1,(a.getD b.toNat ZN).2.1,(a.getD b.toNat ZN).2.2.1,(a.getD b.toNat ZN).2.2.2.1,(a.getD b.toNat ZN).2.2.2.2.1,(a.getD b.toNat ZN).2.2.2.2.2.1,(a.getD b.toNat ZN).2.2.2.2.2.2.1,(a.getD b.toNat ZN).2.2.2.2.2.2.2.1,List.take (c - (0:Int)).toNat (List.drop ((0:Nat) + Int.toNat (0:Int)) (a.getD b.toNat ZN).2.2.2.2.2.2.2.2) ++ List.take ((↑(List.length (a.getD b.toNat ZN).2.2.2.2.2.2.2.2):Int) - Go.IntKind.i64.wrap (c + (1:Int))).toNat (List.drop ((0:Nat) + (Go.IntKind.i64.wrap (c + (1:Int))).toNat) (a.getD b.toNat ZN).2.2.2.2.2.2.2.2)),()),())) (none)) (none)) (none)) (none)) (none)) (none)) (none)) (none)) (none)) (none)
noncomputable def p127 (n:Nat) (a:List NT) (b:Int) (c:Int):Option R127:=st127_top n a b c
noncomputable def q127 (n:Nat) (x:argsD ps127):Option R127:=p127 n x.1 x.2.1 x.2.2.1
end Go.Proofs.Ythhopbicmaipgaa.Rx.S

namespace Go.Proofs.Ythhopbicmaipgaa.Rx.S
open Go Go.RowKit Go.Proofs
set_option maxRecDepth 100000
abbrev ps128:List PK:=[.val tFs true,.val i64 false,.val i64 false]
abbrev rs128:List RK:=[.val .bool false]
abbrev R128:=retsD rs128 × outsD ps128
abbrev Fn128:=Nat→argsD ps128→Option R128
noncomputable def st128_top (qr128:Fn128) (n:Nat) (lL4:Int→Int→Int→(List NT)→Option R128) (a:List NT) (b:Int) (c:Int):Option R128 :=
 cond (decide (b=c)) (some ((true,()),())) (lL4 (b) (c) ((0:Int)) (a))
noncomputable def st128_L4 (qr128:Fn128) (n:Nat) (lL4:Int→Int→Int→(List NT)→Option R128) (x0:Int) (x1:Int) (x2:Int) (x3:List NT):Option R128 :=
 cond (decide ((0:Int)≤x0)) (cond (decide (x0 < (↑x3.length:Int))) (cond (decide (x2 < (↑(List.length (x3.getD x0.toNat ZN).2.2.2.2.2.2.2.2):Int))) (cond (decide ((0:Int)≤x0)) (cond (decide (x0 < (↑x3.length:Int))) (cond (decide ((0:Int)≤x2)) (cond (decide (x2 < (↑(List.length (x3.getD x0.toNat ZN).2.2.2.2.2.2.2.2):Int))) (cond (decide ((0:Int)≤(List.getD (x3.getD x0.toNat ZN).2.2.2.2.2.2.2.2 x2.toNat (ByteArray.empty,(0:Int))).2)) (cond (decide ((List.getD (x3.getD x0.toNat ZN).2.2.2.2.2.2.2.2 x2.toNat (ByteArray.empty,(0:Int))).2 < (↑x3.length:Int))) (cond (decide ((x3.getD (Int.toNat (List.getD (x3.getD x0.toNat ZN).2.2.2.2.2.2.2.2 x2.toNat (ByteArray.empty,(0:Int))).2) ZN).1=(2:Int))) ((qr128 n (x3,(List.getD (x3.getD x0.toNat ZN).2.2.2.2.2.2.2.2 x2.toNat (ByteArray.empty,(0:Int))).2,x1,())).bind fun r1=>cond (r1.1.1) (some ((true,()),())) (lL4 (x0) (x1) (Go.IntKind.i64.wrap (x2 + (1:Int))) (x3))) (lL4 (x0) (x1) (Go.IntKind.i64.wrap (x2 + (1:Int))) (x3))) (none)) (none)) (none)) (none)) (none)) (none)) (some ((false,()),()))) (none)) (none)
noncomputable def p128_L4 (qr128:Fn128) (n:Nat):Nat→Int→Int→Int→(List NT)→Option R128
 | 0,_,_,_,_=>none
 | m + 1,x0,x1,x2,x3=>(st128_L4 qr128) n ((p128_L4 qr128) n m) x0 x1 x2 x3
noncomputable def p128 (qr128:Fn128) (n:Nat) (a:List NT) (b:Int) (c:Int):Option R128:=(st128_top qr128) n ((p128_L4 qr128) n n) a b c
noncomputable def q128r (qr128:Fn128) (n:Nat) (x:argsD ps128):Option R128:=(p128 qr128) n x.1 x.2.1 x.2.2.1
noncomputable def lv128:Nat→Fn128
 | 0=>fun _ _=>none
 | k + 1=>q128r (lv128 k)
noncomputable def q128:Fn128:=fun n x=>lv128 n n x
end Go.Proofs.Ythhopbicmaipgaa.Rx.S

namespace Go.Proofs.Ythhopbicmaipgaa.Rx.S
open Go Go.RowKit Go.Proofs
set_option maxRecDepth 100000
abbrev ps115:List PK:=[.own tFs true,.val tCr true,.val i64 false,.val .str false,.val i64 false,.val .str false]
abbrev rs115:List RK:=[.own tFs true,.val i64 false]
abbrev R115:=retsD rs115 × outsD ps115
noncomputable def st115_top (n:Nat) (a:List NT) (b:Int × Int × List Int) (c:Int) (d:ByteArray) (e:Int) (f:ByteArray):Option R115 :=
 cond (decide ((0:Int)≤c)) (cond (decide (c < (↑a.length:Int))) (cond (!decide ((a.getD c.toNat ZN).1=(2:Int))) (some ((a,((4:Int),())),())) (cond (decide ((0:Int)≤e)) (cond (decide (e < (↑a.length:Int))) (cond (!decide ((a.getD e.toNat ZN).1=(2:Int))) (some ((a,((4:Int),())),())) ((q123 n (a,(b.1,b.2.1,b.2.2),c,(3:Int),())).bind fun r0=>cond (!r0.1.1) (some ((a,((5:Int),())),())) ((q123 n (a,(b.1,b.2.1,b.2.2),e,(3:Int),())).bind fun r1=>cond (!r1.1.1) (some ((a,((5:Int),())),())) (cond (decide ((0:Int)≤c)) (cond (decide (c < (↑a.length:Int))) ((q103 n (((a.getD c.toNat ZN).1,(a.getD c.toNat ZN).2.1,(a.getD c.toNat ZN).2.2.1,(a.getD c.toNat ZN).2.2.2.1,(a.getD c.toNat ZN).2.2.2.2.1,(a.getD c.toNat ZN).2.2.2.2.2.1,(a.getD c.toNat ZN).2.2.2.2.2.2.1,(a.getD c.toNat ZN).2.2.2.2.2.2.2.1,(a.getD c.toNat ZN).2.2.2.2.2.2.2.2),d,())).bind fun r2=>cond (decide (r2.1.1 < (0:Int))) (some ((a,((2:Int),())),())) (cond (decide ((0:Int)≤c)) (cond (decide (c < (↑a.length:Int))) (cond (decide ((0:Int)≤r2.1.1)) (cond (decide (r2.1.1 < (↑(List.length (a.getD c.toNat ZN).2.2.2.2.2.2.2.2):Int))) (cond (decide ((0:Int)≤e)) (cond (decide (e < (↑a.length:Int))) ((q103 n (((a.getD e.toNat ZN).1,(a.getD e.toNat ZN).2.1,(a.getD e.toNat ZN).2.2.1,(a.getD e.toNat ZN).2.2.2.1,(a.getD e.toNat ZN).2.2.2.2.1,(a.getD e.toNat ZN).2.2.2.2.2.1,(a.getD e.toNat ZN).2.2.2.2.2.2.1,(a.getD e.toNat ZN).2.2.2.2.2.2.2.1,(a.getD e.toNat ZN).2.2.2.2.2.2.2.2),f,())).bind fun r3=>cond (decide ((0:Int)≤r3.1.1)) (some ((a,((3:Int),())),())) (cond (decide ((0:Int)≤(List.getD (a.getD c.toNat ZN).2.2.2.2.2.2.2.2 (Int.toNat r2.1.1) (ByteArray.empty,(0:Int))).2)) (cond (decide ((List.getD (a.getD c.toNat ZN).2.2.2.2.2.2.2.2 (Int.toNat r2.1.1) (ByteArray.empty,(0:Int))).2 < (↑a.length:Int))) (cond (decide ((a.getD (Int.toNat (List.getD (a.getD c.toNat ZN).2.2.2.2.2.2.2.2 (Int.toNat r2.1.1) (ByteArray.empty,(0:Int))).2) ZN).1=(2:Int))) ((q128 n (a,(List.getD (a.getD c.toNat ZN).2.2.2.2.2.2.2.2 (Int.toNat r2.1.1) (ByteArray.empty,(0:Int))).2,e,())).bind fun r4=>cond (r4.1.1) (some ((a,((6:Int),())),())) (cond (!decide (c=e)) (cond (decide ((0:Int)≤e)) (cond (decide (e < (↑a.length:Int))) (cond (decide ((6:Int)≤(↑(List.length (a.getD e.toNat ZN).2.2.2.2.2.2.2.2):Int))) (some ((a,((7:Int),())),())) ((q127 n (a,c,r2.1.1,())).bind fun r5=>(q104 n (r5.1.1,e,(f,(List.getD (a.getD c.toNat ZN).2.2.2.2.2.2.2.2 (Int.toNat r2.1.1) (ByteArray.empty,(0:Int))).2),())).bind fun r6=>some ((r6.1.1,((0:Int),())),()))) (none)) (none)) ((q127 n (a,c,r2.1.1,())).bind fun r7=>(q104 n (r7.1.1,e,(f,(List.getD (a.getD c.toNat ZN).2.2.2.2.2.2.2.2 (Int.toNat r2.1.1) (ByteArray.empty,(0:Int))).2),())).bind fun r8=>some ((r8.1.1,((0:Int),())),())))) (cond (!decide (c=e)) (cond (decide ((0:Int)≤e)) (cond (decide (e < (↑a.length:Int))) (cond (decide ((6:Int)≤(↑(List.length (a.getD e.toNat ZN).2.2.2.2.2.2.2.2):Int))) (some ((a,((7:Int),())),())) ((q127 n (a,c,r2.1.1,())).bind fun r9=>(q104 n (r9.1.1,e,(f,(List.getD (a.getD c.toNat ZN).2.2.2.2.2.2.2.2 (Int.toNat r2.1.1) (ByteArray.empty,(0:Int))).2),())).bind fun r10=>some ((r10.1.1,((0:Int),())),()))) (none)) (none)) ((q127 n (a,c,r2.1.1,())).bind fun r11=>(q104 n (r11.1.1,e,(f,(List.getD (a.getD c.toNat ZN).2.2.2.2.2.2.2.2 (Int.toNat r2.1.1) (ByteArray.empty,(0:Int))).2),())).bind fun r12=>some ((r12.1.1,((0:Int),())),())))) (none)) (none))) (none)) (none)) (none)) (none)) (none)) (none))) (none)) (none))))) (none)) (none))) (none)) (none)
noncomputable def p115 (n:Nat) (a:List NT) (b:Int × Int × List Int) (c:Int) (d:ByteArray) (e:Int) (f:ByteArray):Option R115:=st115_top n a b c d e f
noncomputable def q115 (n:Nat) (x:argsD ps115):Option R115:=p115 n x.1 x.2.1 x.2.2.1 x.2.2.2.1 x.2.2.2.2.1 x.2.2.2.2.2.1
end Go.Proofs.Ythhopbicmaipgaa.Rx.S

namespace Go.Proofs.Ythhopbicmaipgaa.Rx.S
open Go Go.RowKit Go.Proofs
set_option maxRecDepth 100000
noncomputable def c102:Code:=(Try.f102.body.getD .skip)
def an102:An:=⟨fun _=>⟨[],[]⟩,fun _ _=>none⟩
abbrev ps102:List PK:=[.val tFs true,.val tCr true,.val i64 false,.val i64 false]
abbrev rs102:List RK:=[.val i64 false]
abbrev R102:=retsD rs102 × outsD ps102
noncomputable def G102:Gam:=fun f=>match f with | 123=>some Sm123 | _=>none
theorem h0_102 (hg:GamOK Try.prog G102):Holds Try.prog 102 ⟨ps102,rs102,false,runF TT G102 an102 Try.f102 c102 ps102 rs102⟩:=holds_of tt_ok hg mixed Try.func102 (by kernel_rfl) (by rfl) (by decide +kernel)
noncomputable def st102_top (n:Nat) (a:List NT) (b:Int × Int × List Int) (c:Int) (d:Int):Option R102 :=
 cond (decide ((0:Int)≤c)) (cond (decide (c < (↑a.length:Int))) (cond (!decide ((a.getD c.toNat ZN).1=(2:Int))) (some (((4:Int),()),())) ((q123 n (a,(b.1,b.2.1,b.2.2),c,d,())).bind fun r0=>cond (!r0.1.1) (some (((5:Int),()),())) (some (((0:Int),()),())))) (none)) (none)
theorem e102_top (n:Nat) (a:List NT) (b:Int × Int × List Int) (c:Int) (d:Int):runF TT G102 an102 Try.f102 c102 ps102 rs102 n (a,b,c,d,())=st102_top n a b c d:=by kernel_rfl
noncomputable def p102 (n:Nat) (a:List NT) (b:Int × Int × List Int) (c:Int) (d:Int):Option R102:=st102_top n a b c d
theorem F102_eq (n:Nat) (a:List NT) (b:Int × Int × List Int) (c:Int) (d:Int):runF TT G102 an102 Try.f102 c102 ps102 rs102 n (a,b,c,d,())=p102 n a b c d:=by
 rw [e102_top]
 skip
 try rfl
noncomputable def q102 (n:Nat) (x:argsD ps102):Option R102:=p102 n x.1 x.2.1 x.2.2.1 x.2.2.2.1
noncomputable def Sm102:Sm:=⟨ps102,rs102,false,q102⟩
theorem holds102 (hg:GamOK Try.prog G102):Holds Try.prog 102 Sm102:=by
 have:=h0_102 hg
 have e:(runF TT G102 an102 Try.f102 c102 ps102 rs102)=q102:=by
  funext n x
  exact F102_eq n x.1 x.2.1 x.2.2.1 x.2.2.2.1
 rw [e] at this
 exact this
theorem gam102:GamOK Try.prog G102:=by
 intro f s h
 unfold G102 at h
 split at h
 ·injection h with h; subst h; exact ⟨⟨Try.f123,c123,Try.func123,by kernel_rfl,by decide +kernel⟩,hh123⟩
 ·cases h
theorem hh102:Holds Try.prog 102 Sm102:=holds102 gam102
end Go.Proofs.Ythhopbicmaipgaa.Rx.S

namespace Go.Proofs.Ythhopbicmaipgaa.Rx.S
open Go Go.RowKit Go.Proofs
set_option maxRecDepth 100000
abbrev ps114:List PK:=[.own tFs true,.val tCr true,.val i64 false,.val .str false]
abbrev rs114:List RK:=[.own tFs true,.val i64 false]
abbrev R114:=retsD rs114 × outsD ps114
noncomputable def st114_top (n:Nat) (a:List NT) (b:Int × Int × List Int) (c:Int) (d:ByteArray):Option R114 :=
 (q102 n (a,(b.1,b.2.1,b.2.2),c,(3:Int),())).bind fun r0=>cond (!decide (r0.1.1=(0:Int))) (some ((a,(r0.1.1,())),())) (cond (decide ((0:Int)≤c)) (cond (decide (c < (↑a.length:Int))) ((q103 n (((a.getD c.toNat ZN).1,(a.getD c.toNat ZN).2.1,(a.getD c.toNat ZN).2.2.1,(a.getD c.toNat ZN).2.2.2.1,(a.getD c.toNat ZN).2.2.2.2.1,(a.getD c.toNat ZN).2.2.2.2.2.1,(a.getD c.toNat ZN).2.2.2.2.2.2.1,(a.getD c.toNat ZN).2.2.2.2.2.2.2.1,(a.getD c.toNat ZN).2.2.2.2.2.2.2.2),d,())).bind fun r1=>cond (decide (r1.1.1 < (0:Int))) (some ((a,((2:Int),())),())) (cond (decide ((0:Int)≤c)) (cond (decide (c < (↑a.length:Int))) (cond (decide ((0:Int)≤r1.1.1)) (cond (decide (r1.1.1 < (↑(List.length (a.getD c.toNat ZN).2.2.2.2.2.2.2.2):Int))) (cond (decide ((0:Int)≤(List.getD (a.getD c.toNat ZN).2.2.2.2.2.2.2.2 (Int.toNat r1.1.1) (ByteArray.empty,(0:Int))).2)) (cond (decide ((List.getD (a.getD c.toNat ZN).2.2.2.2.2.2.2.2 (Int.toNat r1.1.1) (ByteArray.empty,(0:Int))).2 < (↑a.length:Int))) (cond (decide ((a.getD (Int.toNat (List.getD (a.getD c.toNat ZN).2.2.2.2.2.2.2.2 (Int.toNat r1.1.1) (ByteArray.empty,(0:Int))).2) ZN).1=(2:Int))) (cond (decide ((0:Int) < (↑(List.length (a.getD (Int.toNat (List.getD (a.getD c.toNat ZN).2.2.2.2.2.2.2.2 (Int.toNat r1.1.1) (ByteArray.empty,(0:Int))).2) ZN).2.2.2.2.2.2.2.2):Int))) (some ((a,((6:Int),())),())) (cond (decide ((0:Int) < (a.getD (Int.toNat (List.getD (a.getD c.toNat ZN).2.2.2.2.2.2.2.2 (Int.toNat r1.1.1) (ByteArray.empty,(0:Int))).2) ZN).2.2.2.2.2.1)) (some ((a,((6:Int),())),())) (cond (decide ((0:Int)≤(List.getD (a.getD c.toNat ZN).2.2.2.2.2.2.2.2 (Int.toNat r1.1.1) (ByteArray.empty,(0:Int))).2)) (cond (decide ((List.getD (a.getD c.toNat ZN).2.2.2.2.2.2.2.2 (Int.toNat r1.1.1) (ByteArray.empty,(0:Int))).2 < (↑a.length:Int))) ((q127 n (a.set (Int.toNat (List.getD (a.getD c.toNat ZN).2.2.2.2.2.2.2.2 (Int.toNat r1.1.1) (ByteArray.empty,(0:Int))).2) ((a.getD (Int.toNat (List.getD (a.getD c.toNat ZN).2.2.2.2.2.2.2.2 (Int.toNat r1.1.1) (ByteArray.empty,(0:Int))).2) ZN).1,(a.getD (Int.toNat (List.getD (a.getD c.toNat ZN).2.2.2.2.2.2.2.2 (Int.toNat r1.1.1) (ByteArray.empty,(0:Int))).2) ZN).2.1,(a.getD (Int.toNat (List.getD (a.getD c.toNat ZN).2.2.2.2.2.2.2.2 (Int.toNat r1.1.1) (ByteArray.empty,(0:Int))).2) ZN).2.2.1,(a.getD (Int.toNat (List.getD (a.getD c.toNat ZN).2.2.2.2.2.2.2.2 (Int.toNat r1.1.1) (ByteArray.empty,(0:Int))).2) ZN).2.2.2.1,Go.IntKind.i64.wrap ((a.getD (Int.toNat (List.getD (a.getD c.toNat ZN).2.2.2.2.2.2.2.2 (Int.toNat r1.1.1) (ByteArray.empty,(0:Int))).2) ZN).2.2.2.2.1 - (1:Int)),(a.getD (Int.toNat (List.getD (a.getD c.toNat ZN).2.2.2.2.2.2.2.2 (Int.toNat r1.1.1) (ByteArray.empty,(0:Int))).2) ZN).2.2.2.2.2),c,r1.1.1,())).bind fun r2=>(q112 n (r2.1.1,(List.getD (a.getD c.toNat ZN).2.2.2.2.2.2.2.2 (Int.toNat r1.1.1) (ByteArray.empty,(0:Int))).2,())).bind fun r3=>some ((r3.1.1,((0:Int),())),())) (none)) (none)))) (cond (decide ((0:Int)≤(List.getD (a.getD c.toNat ZN).2.2.2.2.2.2.2.2 (Int.toNat r1.1.1) (ByteArray.empty,(0:Int))).2)) (cond (decide ((List.getD (a.getD c.toNat ZN).2.2.2.2.2.2.2.2 (Int.toNat r1.1.1) (ByteArray.empty,(0:Int))).2 < (↑a.length:Int))) ((q127 n (a.set (Int.toNat (List.getD (a.getD c.toNat ZN).2.2.2.2.2.2.2.2 (Int.toNat r1.1.1) (ByteArray.empty,(0:Int))).2) ((a.getD (Int.toNat (List.getD (a.getD c.toNat ZN).2.2.2.2.2.2.2.2 (Int.toNat r1.1.1) (ByteArray.empty,(0:Int))).2) ZN).1,(a.getD (Int.toNat (List.getD (a.getD c.toNat ZN).2.2.2.2.2.2.2.2 (Int.toNat r1.1.1) (ByteArray.empty,(0:Int))).2) ZN).2.1,(a.getD (Int.toNat (List.getD (a.getD c.toNat ZN).2.2.2.2.2.2.2.2 (Int.toNat r1.1.1) (ByteArray.empty,(0:Int))).2) ZN).2.2.1,(a.getD (Int.toNat (List.getD (a.getD c.toNat ZN).2.2.2.2.2.2.2.2 (Int.toNat r1.1.1) (ByteArray.empty,(0:Int))).2) ZN).2.2.2.1,Go.IntKind.i64.wrap ((a.getD (Int.toNat (List.getD (a.getD c.toNat ZN).2.2.2.2.2.2.2.2 (Int.toNat r1.1.1) (ByteArray.empty,(0:Int))).2) ZN).2.2.2.2.1 - (1:Int)),(a.getD (Int.toNat (List.getD (a.getD c.toNat ZN).2.2.2.2.2.2.2.2 (Int.toNat r1.1.1) (ByteArray.empty,(0:Int))).2) ZN).2.2.2.2.2),c,r1.1.1,())).bind fun r4=>(q112 n (r4.1.1,(List.getD (a.getD c.toNat ZN).2.2.2.2.2.2.2.2 (Int.toNat r1.1.1) (ByteArray.empty,(0:Int))).2,())).bind fun r5=>some ((r5.1.1,((0:Int),())),())) (none)) (none))) (none)) (none)) (none)) (none)) (none)) (none))) (none)) (none))
noncomputable def p114 (n:Nat) (a:List NT) (b:Int × Int × List Int) (c:Int) (d:ByteArray):Option R114:=st114_top n a b c d
noncomputable def q114 (n:Nat) (x:argsD ps114):Option R114:=p114 n x.1 x.2.1 x.2.2.1 x.2.2.2.1
end Go.Proofs.Ythhopbicmaipgaa.Rx.S

namespace Go.Proofs.Ythhopbicmaipgaa.Rx.S
open Go Go.RowKit Go.Proofs
set_option maxRecDepth 100000
abbrev ps113:List PK:=[.own tFs true,.val tCr true,.val i64 false,.val i64 false,.val .str false]
abbrev rs113:List RK:=[.own tFs true,.val i64 false]
abbrev R113:=retsD rs113 × outsD ps113
noncomputable def st113_top (n:Nat) (a:List NT) (b:Int × Int × List Int) (c:Int) (d:Int) (e:ByteArray):Option R113 :=
 cond (decide ((0:Int)≤c)) (cond (decide (c < (↑a.length:Int))) (cond (!decide ((a.getD c.toNat ZN).1=(1:Int))) (some ((a,((4:Int),())),())) ((q102 n (a,(b.1,b.2.1,b.2.2),d,(3:Int),())).bind fun r0=>cond (!decide (r0.1.1=(0:Int))) (some ((a,(r0.1.1,())),())) (cond (decide ((0:Int)≤d)) (cond (decide (d < (↑a.length:Int))) ((q103 n (((a.getD d.toNat ZN).1,(a.getD d.toNat ZN).2.1,(a.getD d.toNat ZN).2.2.1,(a.getD d.toNat ZN).2.2.2.1,(a.getD d.toNat ZN).2.2.2.2.1,(a.getD d.toNat ZN).2.2.2.2.2.1,(a.getD d.toNat ZN).2.2.2.2.2.2.1,(a.getD d.toNat ZN).2.2.2.2.2.2.2.1,(a.getD d.toNat ZN).2.2.2.2.2.2.2.2),e,())).bind fun r1=>cond (decide ((0:Int)≤r1.1.1)) (some ((a,((3:Int),())),())) (cond (decide ((0:Int)≤d)) (cond (decide (d < (↑a.length:Int))) (cond (decide ((6:Int)≤(↑(List.length (a.getD d.toNat ZN).2.2.2.2.2.2.2.2):Int))) (some ((a,((7:Int),())),())) (cond (decide ((0:Int)≤c)) (cond (decide (c < (↑a.length:Int))) (cond (decide ((99:Int)≤(a.getD c.toNat ZN).2.2.2.2.1)) (some ((a,((7:Int),())),())) (cond (decide ((0:Int)≤c)) (cond (decide (c < (↑a.length:Int))) (cond (decide ((0:Int)≤c)) (cond (decide (c < (↑a.length:Int))) ((q104 n (a.set c.toNat ((a.getD c.toNat ZN).1,(a.getD c.toNat ZN).2.1,(a.getD c.toNat ZN).2.2.1,(a.getD c.toNat ZN).2.2.2.1,Go.IntKind.i64.wrap ((a.getD c.toNat ZN).2.2.2.2.1 + (1:Int)),(a.getD c.toNat ZN).2.2.2.2.2),d,(e,c),())).bind fun r2=>some ((r2.1.1,((0:Int),())),())) (none)) (none)) (none)) (none))) (none)) (none))) (none)) (none))) (none)) (none)))) (none)) (none)
noncomputable def p113 (n:Nat) (a:List NT) (b:Int × Int × List Int) (c:Int) (d:Int) (e:ByteArray):Option R113:=st113_top n a b c d e
noncomputable def q113 (n:Nat) (x:argsD ps113):Option R113:=p113 n x.1 x.2.1 x.2.2.1 x.2.2.2.1 x.2.2.2.2.1
end Go.Proofs.Ythhopbicmaipgaa.Rx.S

namespace Go.Proofs.Ythhopbicmaipgaa.Rx.S
open Go Go.RowKit Go.Proofs
set_option maxRecDepth 100000
noncomputable def c67:Code:=(Try.f67.body.getD .skip)
def an67:An:=⟨fun r=>match r with | 8=>⟨[2,3,4,5,6,7,12,16,17],[]⟩ | _=>⟨[],[]⟩,fun _ _=>none⟩
abbrev ps67:List PK:=[.own tFs true,.val tCr true,.val i64 false,.val .str false,.val i64 false,.val i64 false]
abbrev rs67:List RK:=[.own tFs true,.val i64 false,.val i64 false]
abbrev R67:=retsD rs67 × outsD ps67
noncomputable def G67:Gam:=fun f=>match f with | 102=>some Sm102 | 103=>some Sm103 | 104=>some Sm104 | _=>none
theorem h0_67 (hg:GamOK Try.prog G67):Holds Try.prog 67 ⟨ps67,rs67,false,runF TT G67 an67 Try.f67 c67 ps67 rs67⟩:=holds_of tt_ok hg mixed Try.func67 (by kernel_rfl) (by rfl) (by decide +kernel)
noncomputable def at67:Nat→Pt→List Nat→St→Option R67:=atF TT G67 an67 Try.f67 c67 _ _
def sh67_L8 (x0:Int) (x1:ByteArray) (x2:Int) (x3:Int) (x4:Int) (x5:Int) (x6:Int) (x7:Int) (x8:List Int) (x9:List NT):St:=(St.mk (AV.undef :: (AV.undef :: ((AV.one (SV.int (Go.IntKind.i64) x0)) :: ((AV.one (SV.str x1)) :: ((AV.one (SV.int (Go.IntKind.i64) x2)) :: ((AV.one (SV.int (Go.IntKind.i64) x3)) :: ((AV.one (SV.bptr 1000000 0)) :: ((AV.one (SV.bptr 1000001 0)) :: (AV.undef :: (AV.undef :: (AV.undef :: (AV.undef :: ((AV.one (SV.bptr 1000002 0)) :: (AV.undef :: (AV.undef :: (AV.undef :: ((AV.one (SV.int (Go.IntKind.i64) x4)) :: ((AV.one (SV.int (Go.IntKind.i64) x5)) :: (AV.undef :: (AV.undef :: (AV.undef :: (AV.undef :: (AV.undef :: (AV.undef :: (AV.undef :: (AV.undef :: (AV.undef :: (AV.undef :: (AV.undef :: (AV.undef :: (AV.undef :: (AV.undef :: (AV.undef :: (AV.undef :: (AV.undef :: (AV.undef :: (AV.undef :: (AV.undef :: (AV.undef :: (AV.undef :: (AV.undef :: (AV.undef :: (AV.undef :: (AV.undef :: (AV.undef :: (AV.undef :: (AV.undef :: (AV.undef :: (AV.undef :: (AV.undef :: (AV.undef :: (AV.undef :: (AV.undef :: (AV.undef :: (AV.undef :: (AV.undef :: (AV.undef :: (AV.undef :: (AV.undef :: (AV.undef :: (AV.undef :: (AV.undef :: (AV.undef :: (AV.undef :: (AV.undef :: (AV.undef :: (AV.undef :: (AV.undef :: (AV.undef :: (AV.undef :: (AV.undef :: (AV.undef :: (AV.undef :: (AV.undef :: (AV.undef :: (AV.undef :: (AV.undef :: (AV.undef :: (AV.undef :: (AV.undef :: (AV.undef :: (AV.undef :: (AV.undef :: (AV.undef :: (AV.undef :: (AV.undef :: (AV.undef :: (AV.undef :: (AV.undef :: (AV.undef :: (AV.undef :: (AV.undef :: (AV.undef :: []))))))))))))))))))))))))))))))))))))))))))))))))))))))))))))))))))))))))))))))))))))))))))))) ((1000000,(Ent.box ((SV.ref 1000003 0 [] Option.none) :: []))) :: ((1000001,(Ent.box ((SV.int (Go.IntKind.i64) x6) :: ((SV.int (Go.IntKind.i64) x7) :: ((SV.con (⟨3,Ty.int Go.IntKind.i64,x8⟩:Rw)) :: []))))) :: ((1000002,(Ent.box (SV.nil :: []))) :: ((1000003,(Ent.row (⟨39,(Ty.int Go.IntKind.i64).pair ((Ty.int Go.IntKind.i64).pair ((Ty.int Go.IntKind.i64).pair ((Ty.int Go.IntKind.i64).pair ((Ty.int Go.IntKind.i64).pair ((Ty.int Go.IntKind.i64).pair (Ty.bool.pair (Ty.str.pair (Ty.row (nat_lit 95) (Ty.str.pair (Ty.int Go.IntKind.i64)))))))))),x9⟩:Rw) 0 Option.none)) :: [])))))
noncomputable def st67_top (n:Nat) (lL8:Int→ByteArray→Int→Int→Int→Int→Int→Int→(List Int)→(List NT)→Option R67) (a:List NT) (b:Int × Int × List Int) (c:Int) (d:ByteArray) (e:Int) (f:Int):Option R67 :=
 (q102 n (a,(b.1,b.2.1,b.2.2),c,(3:Int),())).bind fun r0=>cond (!decide (r0.1.1=(0:Int))) (some ((a,((-1:Int),(r0.1.1,()))),())) (cond (decide ((0:Int)≤c)) (cond (decide (c < (↑a.length:Int))) ((q103 n (((a.getD c.toNat ZN).1,(a.getD c.toNat ZN).2.1,(a.getD c.toNat ZN).2.2.1,(a.getD c.toNat ZN).2.2.2.1,(a.getD c.toNat ZN).2.2.2.2.1,(a.getD c.toNat ZN).2.2.2.2.2.1,(a.getD c.toNat ZN).2.2.2.2.2.2.1,(a.getD c.toNat ZN).2.2.2.2.2.2.2.1,(a.getD c.toNat ZN).2.2.2.2.2.2.2.2),d,())).bind fun r1=>cond (decide ((0:Int)≤r1.1.1)) (some ((a,((-1:Int),((3:Int),()))),())) (lL8 (c) (d) (e) (f) ((-1:Int)) (Go.IntKind.i64.wrap ((↑a.length:Int) - (1:Int))) (b.1) (b.2.1) (b.2.2) (a))) (none)) (none))
noncomputable def st67_L8 (n:Nat) (lL8:Int→ByteArray→Int→Int→Int→Int→Int→Int→(List Int)→(List NT)→Option R67) (x0:Int) (x1:ByteArray) (x2:Int) (x3:Int) (x4:Int) (x5:Int) (x6:Int) (x7:Int) (x8:List Int) (x9:List NT):Option R67 :=
 cond (decide ((0:Int)≤x5)) (cond (decide ((0:Int)≤x5)) (cond (decide (x5 < (↑x9.length:Int))) (cond (decide ((x9.getD x5.toNat ZN).1=(0:Int))) (lL8 (x0) (x1) (x2) (x3) (x5) (Go.IntKind.i64.wrap (x5 - (1:Int))) (x6) (x7) (x8) (x9)) (lL8 (x0) (x1) (x2) (x3) (x4) (Go.IntKind.i64.wrap (x5 - (1:Int))) (x6) (x7) (x8) (x9))) (none)) (none)) (cond (decide (x4 < (0:Int))) (some ((x9,((-1:Int),((7:Int),()))),())) (cond (decide ((0:Int)≤x0)) (cond (decide (x0 < (↑x9.length:Int))) (cond (decide ((6:Int)≤(↑(List.length (x9.getD x0.toNat ZN).2.2.2.2.2.2.2.2):Int))) (some ((x9,((-1:Int),((7:Int),()))),())) (cond (decide ((0:Int) < (↑x8.length:Int))) (cond (decide ((0:Int) < (↑x8.length:Int))) (cond (decide ((0:Int)≤x4)) (cond (decide (x4 < (↑x9.length:Int))) ((q104 n (x9.set x4.toNat (x2,x3,x6,x8.getD (Int.toNat (0:Int)) (0:Int),(1:Int),(0:Int),false,ByteArray.empty,[]),x0,(x1,x4),())).bind fun r3=>some ((r3.1.1,(x4,((0:Int),()))),())) (none)) (none)) (none)) (cond (decide ((0:Int)≤x4)) (cond (decide (x4 < (↑x9.length:Int))) ((q104 n (x9.set x4.toNat (x2,x3,x6,x6,(1:Int),(0:Int),false,ByteArray.empty,[]),x0,(x1,x4),())).bind fun r4=>some ((r4.1.1,(x4,((0:Int),()))),())) (none)) (none)))) (none)) (none)))
theorem e67_top (n:Nat) (a:List NT) (b:Int × Int × List Int) (c:Int) (d:ByteArray) (e:Int) (f:Int):runF TT G67 an67 Try.f67 c67 ps67 rs67 n (a,b,c,d,e,f,())=st67_top n (fun x0 x1 x2 x3 x4 x5 x6 x7 x8 x9=>at67 n (.head 8) [n] (sh67_L8 x0 x1 x2 x3 x4 x5 x6 x7 x8 x9)) a b c d e f:=by kernel_rfl
theorem e67_L8_0 (n:Nat) (x0:Int) (x1:ByteArray) (x2:Int) (x3:Int) (x4:Int) (x5:Int) (x6:Int) (x7:Int) (x8:List Int) (x9:List NT):at67 n (.head 8) [0] (sh67_L8 x0 x1 x2 x3 x4 x5 x6 x7 x8 x9)=none:=by kernel_rfl
theorem e67_L8 (n:Nat) (m8:Nat) (x0:Int) (x1:ByteArray) (x2:Int) (x3:Int) (x4:Int) (x5:Int) (x6:Int) (x7:Int) (x8:List Int) (x9:List NT):at67 n (.head 8) [m8 + 1] (sh67_L8 x0 x1 x2 x3 x4 x5 x6 x7 x8 x9)=st67_L8 n (fun x0 x1 x2 x3 x4 x5 x6 x7 x8 x9=>at67 n (.head 8) [m8] (sh67_L8 x0 x1 x2 x3 x4 x5 x6 x7 x8 x9)) x0 x1 x2 x3 x4 x5 x6 x7 x8 x9:=by kernel_rfl
noncomputable def p67_L8 (n:Nat):Nat→Int→ByteArray→Int→Int→Int→Int→Int→Int→(List Int)→(List NT)→Option R67
 | 0,_,_,_,_,_,_,_,_,_,_=>none
 | m + 1,x0,x1,x2,x3,x4,x5,x6,x7,x8,x9=>st67_L8 n (p67_L8 n m) x0 x1 x2 x3 x4 x5 x6 x7 x8 x9
noncomputable def p67 (n:Nat) (a:List NT) (b:Int × Int × List Int) (c:Int) (d:ByteArray) (e:Int) (f:Int):Option R67:=st67_top n (p67_L8 n n) a b c d e f
theorem t67_L8 (n:Nat):∀ (m8:Nat) (x0:Int) (x1:ByteArray) (x2:Int) (x3:Int) (x4:Int) (x5:Int) (x6:Int) (x7:Int) (x8:List Int) (x9:List NT),at67 n (.head 8) [m8] (sh67_L8 x0 x1 x2 x3 x4 x5 x6 x7 x8 x9)=p67_L8 n m8 x0 x1 x2 x3 x4 x5 x6 x7 x8 x9:=by
 intro m
 induction m with
 | zero=>intros; rw [e67_L8_0]; rfl
 | succ m ih =>
  intros
  rw [e67_L8]
  try simp only [ih]
  rfl
theorem F67_eq (n:Nat) (a:List NT) (b:Int × Int × List Int) (c:Int) (d:ByteArray) (e:Int) (f:Int):runF TT G67 an67 Try.f67 c67 ps67 rs67 n (a,b,c,d,e,f,())=p67 n a b c d e f:=by
 rw [e67_top]
 simp only [t67_L8]
 try rfl
noncomputable def q67 (n:Nat) (x:argsD ps67):Option R67:=p67 n x.1 x.2.1 x.2.2.1 x.2.2.2.1 x.2.2.2.2.1 x.2.2.2.2.2.1
noncomputable def Sm67:Sm:=⟨ps67,rs67,false,q67⟩
theorem holds67 (hg:GamOK Try.prog G67):Holds Try.prog 67 Sm67:=by
 have:=h0_67 hg
 have e:(runF TT G67 an67 Try.f67 c67 ps67 rs67)=q67:=by
  funext n x
  exact F67_eq n x.1 x.2.1 x.2.2.1 x.2.2.2.1 x.2.2.2.2.1 x.2.2.2.2.2.1
 rw [e] at this
 exact this
theorem gam67:GamOK Try.prog G67:=by
 intro f s h
 unfold G67 at h
 split at h
 ·injection h with h; subst h; exact ⟨⟨Try.f102,c102,Try.func102,by kernel_rfl,by decide +kernel⟩,hh102⟩
 ·injection h with h; subst h; exact ⟨⟨Try.f103,c103,Try.func103,by kernel_rfl,by decide +kernel⟩,hh103⟩
 ·injection h with h; subst h; exact ⟨⟨Try.f104,c104,Try.func104,by kernel_rfl,by decide +kernel⟩,hh104⟩
 ·cases h
theorem hh67:Holds Try.prog 67 Sm67:=holds67 gam67
end Go.Proofs.Ythhopbicmaipgaa.Rx.S

namespace Go.Proofs.Ythhopbicmaipgaa.Rx.S
open Go Go.Proofs.Ythhopbicmaipgaa.Rx Go.RowKit Go.Proofs
set_option linter.unusedVariables false
noncomputable def c117:Code:=(Try.f117.body.getD .skip)
abbrev ps117:List PK:=[.val .str false,.val .str false]
abbrev rs117:List RK:=[.val i64 false]
abbrev R117:=retsD rs117 × outsD ps117
def cmpB (a b:ByteArray):Int:=Lib.compareBytes a.data.toList b.data.toList
def p117 (n:Nat) (a b:ByteArray):Option R117:=some ((cmpB a b,()),())
def q117 (n:Nat) (x:argsD ps117):Option R117:=p117 n x.1 x.2.1
def Sm117:Sm:=⟨ps117,rs117,false,q117⟩
set_option maxHeartbeats 1000000 in
set_option maxRecDepth 100000 in
theorem walk117 (a b:ByteArray) (w:World):Calls Try.prog 117 #[.string a,.string b] w fun e w'=>e = .returned (.int .i64 (cmpB a b))∧w'=w:=by
 have mixed:Try.prog.follows .mixedOrders=true:=by kernel_rfl
 go_enter Try.func117,Try.ntmps117
 go_wp2
 rw [run_callFunc_extern Try.func129 (by kernel_rfl) (by kernel_rfl) (by kernel_rfl) (e:=Extern.BytealgCompare.compare) (by kernel_rfl),Lib.run_compareString]
 simp only [Result.andThen]
 rw [Oper.upon_value]
 go_wp2
 go_ret
 exact ⟨rfl,rfl⟩
theorem hh117:Holds Try.prog 117 Sm117:=by
 rintro n w Z vs ⟨a,b,_⟩ Fs y hZ hlt hnd ha hF
 have ha:ArgsR w Z [.val .str false,.val .str false] (a,b,()) vs Fs:=ha
 rcases vs with _ | ⟨v0,_ | ⟨v1,_ | ⟨v2,vs⟩⟩⟩ <;> rcases Fs with _ | ⟨F0,_ | ⟨F1,_ | ⟨F2,Fs⟩⟩⟩ <;> simp only [ArgsR,and_false] at ha
 obtain ⟨⟨rfl,_,hv0⟩,⟨rfl,_,hv1⟩,_⟩:=ha
 have hv0:[v0]=[.string a]:=hv0
 have hv1:[v1]=[.string b]:=hv1
 injection hv0 with hv0 _
 injection hv1 with hv1 _
 subst hv0; subst hv1
 have hF:some ((cmpB a b,()),())=some y:=hF
 injection hF with hF
 subst hF
 refine (walk117 a b w).mono ?_
 rintro e w' ⟨rfl,rfl⟩
 exact ⟨[.int .i64 (cmpB a b)],[[]],[[],[]],rfl,⟨⟨rfl,rfl,rfl⟩,trivial⟩,⟨rfl,rfl,trivial⟩,by simp,by simp,Kp.refl _ _⟩
end Go.Proofs.Ythhopbicmaipgaa.Rx.S

namespace Go.Proofs.Ythhopbicmaipgaa.Rx.S
open Go Go.RowKit Go.Proofs
set_option maxRecDepth 100000
noncomputable def c97:Code:=(Try.f97.body.getD .skip)
def an97:An:=⟨fun _=>⟨[],[]⟩,fun _ _=>none⟩
abbrev ps97:List PK:=[.val .str false,.val .str false]
abbrev rs97:List RK:=[.val i64 false]
abbrev R97:=retsD rs97 × outsD ps97
noncomputable def G97:Gam:=fun f=>match f with | 117=>some Sm117 | _=>none
theorem h0_97 (hg:GamOK Try.prog G97):Holds Try.prog 97 ⟨ps97,rs97,false,runF TT G97 an97 Try.f97 c97 ps97 rs97⟩:=holds_of tt_ok hg mixed Try.func97 (by kernel_rfl) (by rfl) (by decide +kernel)
noncomputable def st97_top (n:Nat) (a:ByteArray) (b:ByteArray):Option R97 :=
 (q117 n (a,b,())).bind fun r0=>some ((r0.1.1,()),())
theorem e97_top (n:Nat) (a:ByteArray) (b:ByteArray):runF TT G97 an97 Try.f97 c97 ps97 rs97 n (a,b,())=st97_top n a b:=by kernel_rfl
noncomputable def p97 (n:Nat) (a:ByteArray) (b:ByteArray):Option R97:=st97_top n a b
theorem F97_eq (n:Nat) (a:ByteArray) (b:ByteArray):runF TT G97 an97 Try.f97 c97 ps97 rs97 n (a,b,())=p97 n a b:=by
 rw [e97_top]
 skip
 try rfl
noncomputable def q97 (n:Nat) (x:argsD ps97):Option R97:=p97 n x.1 x.2.1
noncomputable def Sm97:Sm:=⟨ps97,rs97,false,q97⟩
theorem holds97 (hg:GamOK Try.prog G97):Holds Try.prog 97 Sm97:=by
 have:=h0_97 hg
 have e:(runF TT G97 an97 Try.f97 c97 ps97 rs97)=q97:=by
  funext n x
  exact F97_eq n x.1 x.2.1
 rw [e] at this
 exact this
theorem gam97:GamOK Try.prog G97:=by
 intro f s h
 unfold G97 at h
 split at h
 ·injection h with h; subst h; exact ⟨⟨Try.f117,c117,Try.func117,by kernel_rfl,by decide +kernel⟩,hh117⟩
 ·cases h
theorem hh97:Holds Try.prog 97 Sm97:=holds97 gam97
end Go.Proofs.Ythhopbicmaipgaa.Rx.S

namespace Go.Proofs.Ythhopbicmaipgaa.Rx.S
open Go Go.RowKit Go.Proofs
set_option maxRecDepth 100000
noncomputable def c96:Code:=(Try.f96.body.getD .skip)
def an96:An:=⟨fun _=>⟨[],[]⟩,fun _ _=>none⟩
abbrev ps96:List PK:=[.val tEn true,.val .str false]
abbrev rs96:List RK:=[.val i64 false]
abbrev R96:=retsD rs96 × outsD ps96
noncomputable def G96:Gam:=fun f=>match f with | 97=>some Sm97 | _=>none
theorem h0_96 (hg:GamOK Try.prog G96):Holds Try.prog 96 ⟨ps96,rs96,false,runF TT G96 an96 Try.f96 c96 ps96 rs96⟩:=holds_of tt_ok hg mixed Try.func96 (by kernel_rfl) (by rfl) (by decide +kernel)
noncomputable def st96_top (n:Nat) (a:ByteArray × Int) (b:ByteArray):Option R96 :=
 (q97 n (a.1,b,())).bind fun r0=>some ((r0.1.1,()),())
theorem e96_top (n:Nat) (a:ByteArray × Int) (b:ByteArray):runF TT G96 an96 Try.f96 c96 ps96 rs96 n (a,b,())=st96_top n a b:=by kernel_rfl
noncomputable def p96 (n:Nat) (a:ByteArray × Int) (b:ByteArray):Option R96:=st96_top n a b
theorem F96_eq (n:Nat) (a:ByteArray × Int) (b:ByteArray):runF TT G96 an96 Try.f96 c96 ps96 rs96 n (a,b,())=p96 n a b:=by
 rw [e96_top]
 skip
 try rfl
noncomputable def q96 (n:Nat) (x:argsD ps96):Option R96:=p96 n x.1 x.2.1
noncomputable def Sm96:Sm:=⟨ps96,rs96,false,q96⟩
theorem holds96 (hg:GamOK Try.prog G96):Holds Try.prog 96 Sm96:=by
 have:=h0_96 hg
 have e:(runF TT G96 an96 Try.f96 c96 ps96 rs96)=q96:=by
  funext n x
  exact F96_eq n x.1 x.2.1
 rw [e] at this
 exact this
theorem gam96:GamOK Try.prog G96:=by
 intro f s h
 unfold G96 at h
 split at h
 ·injection h with h; subst h; exact ⟨⟨Try.f97,c97,Try.func97,by kernel_rfl,by decide +kernel⟩,hh97⟩
 ·cases h
theorem hh96:Holds Try.prog 96 Sm96:=holds96 gam96
end Go.Proofs.Ythhopbicmaipgaa.Rx.S

namespace Go.Proofs.Ythhopbicmaipgaa.Rx.S
open Go Go.RowKit Go.Proofs
set_option maxRecDepth 100000
noncomputable def c95:Code:=(Try.f95.body.getD .skip)
def an95:An:=⟨fun r=>match r with | 3=>⟨[0,1,2,8,9,10],[]⟩ | _=>⟨[],[]⟩,fun _ _=>none⟩
abbrev ps95:List PK:=[.val (.row 95 tEn) false,.val .str false,.fn 96 []]
abbrev rs95:List RK:=[.val i64 false,.val .bool false]
abbrev R95:=retsD rs95 × outsD ps95
noncomputable def G95:Gam:=fun f=>match f with | 96=>some Sm96 | _=>none
theorem h0_95 (hg:GamOK Try.prog G95):Holds Try.prog 95 ⟨ps95,rs95,false,runF TT G95 an95 Try.f95 c95 ps95 rs95⟩:=holds_of tt_ok hg mixed Try.func95 (by kernel_rfl) (by rfl) (by decide +kernel)
noncomputable def at95:Nat→Pt→List Nat→St→Option R95:=atF TT G95 an95 Try.f95 c95 _ _
def sh95_L3 (x0:List (ByteArray × Int)) (x1:ByteArray) (x2:Int) (x3:Int) (x4:Int):St:=(St.mk ((AV.one (SV.con (⟨95,Ty.str.pair (Ty.int Go.IntKind.i64),x0⟩:Rw))) :: ((AV.one (SV.str x1)) :: ((AV.fn 96 []) :: (AV.undef :: (AV.undef :: (AV.undef :: (AV.undef :: (AV.undef :: ((AV.one (SV.int (Go.IntKind.i64) x2)) :: ((AV.one (SV.int (Go.IntKind.i64) x3)) :: ((AV.one (SV.int (Go.IntKind.i64) x4)) :: (AV.undef :: (AV.undef :: (AV.undef :: (AV.undef :: (AV.undef :: (AV.undef :: (AV.undef :: (AV.undef :: (AV.undef :: (AV.undef :: (AV.undef :: (AV.undef :: (AV.undef :: (AV.undef :: (AV.undef :: (AV.undef :: (AV.undef :: (AV.undef :: (AV.undef :: (AV.undef :: (AV.undef :: (AV.undef :: (AV.undef :: (AV.undef :: (AV.undef :: (AV.undef :: (AV.undef :: (AV.undef :: (AV.undef :: (AV.undef :: (AV.undef :: (AV.undef :: (AV.undef :: (AV.undef :: (AV.undef :: (AV.undef :: (AV.undef :: (AV.undef :: []))))))))))))))))))))))))))))))))))))))))))))))))) [])
noncomputable def st95_top (n:Nat) (lL3:(List (ByteArray × Int))→ByteArray→Int→Int→Int→Option R95) (a:List (ByteArray × Int)) (b:ByteArray) (c:Unit):Option R95 :=
 lL3 (a) (b) ((↑a.length:Int)) ((0:Int)) ((↑a.length:Int))
noncomputable def st95_L3 (n:Nat) (lL3:(List (ByteArray × Int))→ByteArray→Int→Int→Int→Option R95) (x0:List (ByteArray × Int)) (x1:ByteArray) (x2:Int) (x3:Int) (x4:Int):Option R95 :=
 cond (decide (x3 < x4)) (cond (decide ((0:Int)≤Go.IntKind.i64.wrap ((Go.IntKind.u64.wrap (Go.IntKind.i64.wrap (x3 + x4))).fdiv ((2:Int) ^ min (Int.toNat (1:Int)) Go.IntKind.u64.bits)))) (cond (decide (Go.IntKind.i64.wrap ((Go.IntKind.u64.wrap (Go.IntKind.i64.wrap (x3 + x4))).fdiv ((2:Int) ^ min (Int.toNat (1:Int)) Go.IntKind.u64.bits)) < (↑x0.length:Int))) ((q96 n (((x0.getD (Go.IntKind.i64.wrap ((Go.IntKind.u64.wrap (Go.IntKind.i64.wrap (x3 + x4))).fdiv ((2:Int) ^ min (Int.toNat (1:Int)) Go.IntKind.u64.bits))).toNat (ByteArray.empty,(0:Int))).1,(x0.getD (Go.IntKind.i64.wrap ((Go.IntKind.u64.wrap (Go.IntKind.i64.wrap (x3 + x4))).fdiv ((2:Int) ^ min (Int.toNat (1:Int)) Go.IntKind.u64.bits))).toNat (ByteArray.empty,(0:Int))).2),x1,())).bind fun r1=>cond (decide (r1.1.1 < (0:Int))) (lL3 (x0) (x1) (x2) (Go.IntKind.i64.wrap (Go.IntKind.i64.wrap ((Go.IntKind.u64.wrap (Go.IntKind.i64.wrap (x3 + x4))).fdiv ((2:Int) ^ min (Int.toNat (1:Int)) Go.IntKind.u64.bits)) + (1:Int))) (x4)) (lL3 (x0) (x1) (x2) (x3) (Go.IntKind.i64.wrap ((Go.IntKind.u64.wrap (Go.IntKind.i64.wrap (x3 + x4))).fdiv ((2:Int) ^ min (Int.toNat (1:Int)) Go.IntKind.u64.bits))))) (none)) (none)) (cond (decide (x3 < x2)) (cond (decide ((0:Int)≤x3)) (cond (decide (x3 < (↑x0.length:Int))) ((q96 n (((x0.getD x3.toNat (ByteArray.empty,(0:Int))).1,(x0.getD x3.toNat (ByteArray.empty,(0:Int))).2),x1,())).bind fun r2=>some ((x3,(decide (r2.1.1=(0:Int)),())),())) (none)) (none)) (some ((x3,(false,())),())))
theorem e95_top (n:Nat) (a:List (ByteArray × Int)) (b:ByteArray) (c:Unit):runF TT G95 an95 Try.f95 c95 ps95 rs95 n (a,b,c,())=st95_top n (fun x0 x1 x2 x3 x4=>at95 n (.head 3) [n] (sh95_L3 x0 x1 x2 x3 x4)) a b c:=by kernel_rfl
theorem e95_L3_0 (n:Nat) (x0:List (ByteArray × Int)) (x1:ByteArray) (x2:Int) (x3:Int) (x4:Int):at95 n (.head 3) [0] (sh95_L3 x0 x1 x2 x3 x4)=none:=by kernel_rfl
theorem e95_L3 (n:Nat) (m3:Nat) (x0:List (ByteArray × Int)) (x1:ByteArray) (x2:Int) (x3:Int) (x4:Int):at95 n (.head 3) [m3 + 1] (sh95_L3 x0 x1 x2 x3 x4)=st95_L3 n (fun x0 x1 x2 x3 x4=>at95 n (.head 3) [m3] (sh95_L3 x0 x1 x2 x3 x4)) x0 x1 x2 x3 x4:=by kernel_rfl
noncomputable def p95_L3 (n:Nat):Nat→(List (ByteArray × Int))→ByteArray→Int→Int→Int→Option R95
 | 0,_,_,_,_,_=>none
 | m + 1,x0,x1,x2,x3,x4=>st95_L3 n (p95_L3 n m) x0 x1 x2 x3 x4
noncomputable def p95 (n:Nat) (a:List (ByteArray × Int)) (b:ByteArray) (c:Unit):Option R95:=st95_top n (p95_L3 n n) a b c
theorem t95_L3 (n:Nat):∀ (m3:Nat) (x0:List (ByteArray × Int)) (x1:ByteArray) (x2:Int) (x3:Int) (x4:Int),at95 n (.head 3) [m3] (sh95_L3 x0 x1 x2 x3 x4)=p95_L3 n m3 x0 x1 x2 x3 x4:=by
 intro m
 induction m with
 | zero=>intros; rw [e95_L3_0]; rfl
 | succ m ih =>
  intros
  rw [e95_L3]
  try simp only [ih]
  rfl
theorem F95_eq (n:Nat) (a:List (ByteArray × Int)) (b:ByteArray) (c:Unit):runF TT G95 an95 Try.f95 c95 ps95 rs95 n (a,b,c,())=p95 n a b c:=by
 rw [e95_top]
 simp only [t95_L3]
 try rfl
noncomputable def q95 (n:Nat) (x:argsD ps95):Option R95:=p95 n x.1 x.2.1 x.2.2.1
noncomputable def Sm95:Sm:=⟨ps95,rs95,false,q95⟩
theorem holds95 (hg:GamOK Try.prog G95):Holds Try.prog 95 Sm95:=by
 have:=h0_95 hg
 have e:(runF TT G95 an95 Try.f95 c95 ps95 rs95)=q95:=by
  funext n x
  exact F95_eq n x.1 x.2.1 x.2.2.1
 rw [e] at this
 exact this
theorem gam95:GamOK Try.prog G95:=by
 intro f s h
 unfold G95 at h
 split at h
 ·injection h with h; subst h; exact ⟨⟨Try.f96,c96,Try.func96,by kernel_rfl,by decide +kernel⟩,hh96⟩
 ·cases h
theorem hh95:Holds Try.prog 95 Sm95:=holds95 gam95
end Go.Proofs.Ythhopbicmaipgaa.Rx.S

namespace Go.Proofs.Ythhopbicmaipgaa.Rx.S
open Go Go.RowKit Go.Proofs
set_option maxRecDepth 100000
noncomputable def c59:Code:=(Try.f59.body.getD .skip)
def an59:An:=⟨fun _=>⟨[],[]⟩,fun _ _=>none⟩
abbrev ps59:List PK:=[.val (tIn 95) true,.val .str false]
abbrev rs59:List RK:=[.val i64 false,.val .bool false]
abbrev R59:=retsD rs59 × outsD ps59
noncomputable def G59:Gam:=fun f=>match f with | 95=>some Sm95 | _=>none
theorem h0_59 (hg:GamOK Try.prog G59):Holds Try.prog 59 ⟨ps59,rs59,false,runF TT G59 an59 Try.f59 c59 ps59 rs59⟩:=holds_of tt_ok hg mixed Try.func59 (by kernel_rfl) (by rfl) (by decide +kernel)
noncomputable def st59_top (n:Nat) (a:NT) (b:ByteArray):Option R59 :=
 (q95 n (a.2.2.2.2.2.2.2.2,b,(),())).bind fun r0=>some ((r0.1.1,(r0.1.2.1,())),())
theorem e59_top (n:Nat) (a:NT) (b:ByteArray):runF TT G59 an59 Try.f59 c59 ps59 rs59 n (a,b,())=st59_top n a b:=by kernel_rfl
noncomputable def p59 (n:Nat) (a:NT) (b:ByteArray):Option R59:=st59_top n a b
theorem F59_eq (n:Nat) (a:NT) (b:ByteArray):runF TT G59 an59 Try.f59 c59 ps59 rs59 n (a,b,())=p59 n a b:=by
 rw [e59_top]
 skip
 try rfl
noncomputable def q59 (n:Nat) (x:argsD ps59):Option R59:=p59 n x.1 x.2.1
noncomputable def Sm59:Sm:=⟨ps59,rs59,false,q59⟩
theorem holds59 (hg:GamOK Try.prog G59):Holds Try.prog 59 Sm59:=by
 have:=h0_59 hg
 have e:(runF TT G59 an59 Try.f59 c59 ps59 rs59)=q59:=by
  funext n x
  exact F59_eq n x.1 x.2.1
 rw [e] at this
 exact this
theorem gam59:GamOK Try.prog G59:=by
 intro f s h
 unfold G59 at h
 split at h
 ·injection h with h; subst h; exact ⟨⟨Try.f95,c95,Try.func95,by kernel_rfl,by decide +kernel⟩,hh95⟩
 ·cases h
theorem hh59:Holds Try.prog 59 Sm59:=holds59 gam59
end Go.Proofs.Ythhopbicmaipgaa.Rx.S

namespace Go.Proofs.Ythhopbicmaipgaa.Rx.S
open Go Go.RowKit Go.Proofs
set_option maxRecDepth 100000
noncomputable def c58:Code:=(Try.f58.body.getD .skip)
def an58:An:=⟨fun _=>⟨[],[]⟩,fun _ _=>none⟩
abbrev ps58:List PK:=[.val (tIn 95) true]
abbrev rs58:List RK:=[.val .bool false]
abbrev R58:=retsD rs58 × outsD ps58
noncomputable def G58:Gam:=fun _=>none
theorem h0_58 (hg:GamOK Try.prog G58):Holds Try.prog 58 ⟨ps58,rs58,false,runF TT G58 an58 Try.f58 c58 ps58 rs58⟩:=holds_of tt_ok hg mixed Try.func58 (by kernel_rfl) (by rfl) (by decide +kernel)
noncomputable def st58_top (n:Nat) (a:NT):Option R58 :=
 some ((decide (a.1=(0:Int)),()),())
theorem e58_top (n:Nat) (a:NT):runF TT G58 an58 Try.f58 c58 ps58 rs58 n (a,())=st58_top n a:=by kernel_rfl
noncomputable def p58 (n:Nat) (a:NT):Option R58:=st58_top n a
theorem F58_eq (n:Nat) (a:NT):runF TT G58 an58 Try.f58 c58 ps58 rs58 n (a,())=p58 n a:=by
 rw [e58_top]
 skip
 try rfl
noncomputable def q58 (n:Nat) (x:argsD ps58):Option R58:=p58 n x.1
noncomputable def Sm58:Sm:=⟨ps58,rs58,false,q58⟩
theorem holds58 (hg:GamOK Try.prog G58):Holds Try.prog 58 Sm58:=by
 have:=h0_58 hg
 have e:(runF TT G58 an58 Try.f58 c58 ps58 rs58)=q58:=by
  funext n x
  exact F58_eq n x.1
 rw [e] at this
 exact this
theorem gam58:GamOK Try.prog G58:=fun _ _ h=>by cases h
theorem hh58:Holds Try.prog 58 Sm58:=holds58 gam58
end Go.Proofs.Ythhopbicmaipgaa.Rx.S

namespace Go.Proofs.Ythhopbicmaipgaa.Rx.S
open Go Go.RowKit Go.Proofs
set_option maxRecDepth 100000
noncomputable def c57:Code:=(Try.f57.body.getD .skip)
def an57:An:=⟨fun r=>match r with | 2=>⟨[0,1,7,8],[]⟩ | _=>⟨[],[]⟩,fun _ _=>none⟩
abbrev ps57:List PK:=[.val tFs false,.fn 58 []]
abbrev rs57:List RK:=[.val i64 false]
abbrev R57:=retsD rs57 × outsD ps57
noncomputable def G57:Gam:=fun f=>match f with | 58=>some Sm58 | _=>none
theorem h0_57 (hg:GamOK Try.prog G57):Holds Try.prog 57 ⟨ps57,rs57,false,runF TT G57 an57 Try.f57 c57 ps57 rs57⟩:=holds_of tt_ok hg mixed Try.func57 (by kernel_rfl) (by rfl) (by decide +kernel)
noncomputable def at57:Nat→Pt→List Nat→St→Option R57:=atF TT G57 an57 Try.f57 c57 _ _
def sh57_L2 (x0:List NT) (x1:Int) (x2:Int):St:=(St.mk ((AV.one (SV.con (⟨39,(Ty.int Go.IntKind.i64).pair ((Ty.int Go.IntKind.i64).pair ((Ty.int Go.IntKind.i64).pair ((Ty.int Go.IntKind.i64).pair ((Ty.int Go.IntKind.i64).pair ((Ty.int Go.IntKind.i64).pair (Ty.bool.pair (Ty.str.pair (Ty.row (nat_lit 95) (Ty.str.pair (Ty.int Go.IntKind.i64)))))))))),x0⟩:Rw))) :: ((AV.fn 58 []) :: (AV.undef :: (AV.undef :: (AV.undef :: (AV.undef :: (AV.undef :: ((AV.one (SV.int (Go.IntKind.i64) x1)) :: ((AV.one (SV.int (Go.IntKind.i64) x2)) :: (AV.undef :: (AV.undef :: (AV.undef :: (AV.undef :: (AV.undef :: (AV.undef :: (AV.undef :: (AV.undef :: (AV.undef :: (AV.undef :: []))))))))))))))))))) [])
noncomputable def st57_top (n:Nat) (lL2:(List NT)→Int→Int→Option R57) (a:List NT) (b:Unit):Option R57 :=
 lL2 (a) ((↑a.length:Int)) ((0:Int))
noncomputable def st57_L2 (n:Nat) (lL2:(List NT)→Int→Int→Option R57) (x0:List NT) (x1:Int) (x2:Int):Option R57 :=
 cond (decide (x2 < x1)) (cond (decide ((0:Int)≤x2)) (cond (decide (x2 < (↑x0.length:Int))) ((q58 n (((x0.getD x2.toNat ZN).1,(x0.getD x2.toNat ZN).2.1,(x0.getD x2.toNat ZN).2.2.1,(x0.getD x2.toNat ZN).2.2.2.1,(x0.getD x2.toNat ZN).2.2.2.2.1,(x0.getD x2.toNat ZN).2.2.2.2.2.1,(x0.getD x2.toNat ZN).2.2.2.2.2.2.1,(x0.getD x2.toNat ZN).2.2.2.2.2.2.2.1,(x0.getD x2.toNat ZN).2.2.2.2.2.2.2.2),())).bind fun r1=>cond (r1.1.1) (some ((x2,()),())) (lL2 (x0) (x1) (Go.IntKind.i64.wrap (x2 + (1:Int))))) (none)) (none)) (some (((-1:Int),()),()))
theorem e57_top (n:Nat) (a:List NT) (b:Unit):runF TT G57 an57 Try.f57 c57 ps57 rs57 n (a,b,())=st57_top n (fun x0 x1 x2=>at57 n (.head 2) [n] (sh57_L2 x0 x1 x2)) a b:=by kernel_rfl
theorem e57_L2_0 (n:Nat) (x0:List NT) (x1:Int) (x2:Int):at57 n (.head 2) [0] (sh57_L2 x0 x1 x2)=none:=by kernel_rfl
theorem e57_L2 (n:Nat) (m2:Nat) (x0:List NT) (x1:Int) (x2:Int):at57 n (.head 2) [m2 + 1] (sh57_L2 x0 x1 x2)=st57_L2 n (fun x0 x1 x2=>at57 n (.head 2) [m2] (sh57_L2 x0 x1 x2)) x0 x1 x2:=by kernel_rfl
noncomputable def p57_L2 (n:Nat):Nat→(List NT)→Int→Int→Option R57
 | 0,_,_,_=>none
 | m + 1,x0,x1,x2=>st57_L2 n (p57_L2 n m) x0 x1 x2
noncomputable def p57 (n:Nat) (a:List NT) (b:Unit):Option R57:=st57_top n (p57_L2 n n) a b
theorem t57_L2 (n:Nat):∀ (m2:Nat) (x0:List NT) (x1:Int) (x2:Int),at57 n (.head 2) [m2] (sh57_L2 x0 x1 x2)=p57_L2 n m2 x0 x1 x2:=by
 intro m
 induction m with
 | zero=>intros; rw [e57_L2_0]; rfl
 | succ m ih =>
  intros
  rw [e57_L2]
  try simp only [ih]
  rfl
theorem F57_eq (n:Nat) (a:List NT) (b:Unit):runF TT G57 an57 Try.f57 c57 ps57 rs57 n (a,b,())=p57 n a b:=by
 rw [e57_top]
 simp only [t57_L2]
 try rfl
noncomputable def q57 (n:Nat) (x:argsD ps57):Option R57:=p57 n x.1 x.2.1
noncomputable def Sm57:Sm:=⟨ps57,rs57,false,q57⟩
theorem holds57 (hg:GamOK Try.prog G57):Holds Try.prog 57 Sm57:=by
 have:=h0_57 hg
 have e:(runF TT G57 an57 Try.f57 c57 ps57 rs57)=q57:=by
  funext n x
  exact F57_eq n x.1 x.2.1
 rw [e] at this
 exact this
theorem gam57:GamOK Try.prog G57:=by
 intro f s h
 unfold G57 at h
 split at h
 ·injection h with h; subst h; exact ⟨⟨Try.f58,c58,Try.func58,by kernel_rfl,by decide +kernel⟩,hh58⟩
 ·cases h
theorem hh57:Holds Try.prog 57 Sm57:=holds57 gam57
end Go.Proofs.Ythhopbicmaipgaa.Rx.S

namespace Go.Proofs.Ythhopbicmaipgaa.Rx.S
open Go Go.RowKit Go.Proofs
set_option maxRecDepth 100000
noncomputable def c118:Code:=(Try.f118.body.getD .skip)
def an118:An:=⟨fun _=>⟨[],[]⟩,fun _ _=>none⟩
abbrev ps118:List PK:=[.val i64 false,.val i64 false]
abbrev rs118:List RK:=[.val i64 false]
abbrev R118:=retsD rs118 × outsD ps118
noncomputable def G118:Gam:=fun _=>none
theorem h0_118 (hg:GamOK Try.prog G118):Holds Try.prog 118 ⟨ps118,rs118,false,runF TT G118 an118 Try.f118 c118 ps118 rs118⟩:=holds_of tt_ok hg mixed Try.func118 (by kernel_rfl) (by rfl) (by decide +kernel)
noncomputable def st118_top (n:Nat) (a:Int) (b:Int):Option R118 :=
 cond (decide ((0:Int)≤Go.IntKind.i64.wrap ((3:Int) * Go.IntKind.i64.wrap ((2:Int) - b)))) (some ((Go.IntKind.i64.wrap (↑(BitVec.ofInt Go.IntKind.i64.bits (a.fdiv ((2:Int) ^ min (Go.IntKind.i64.wrap ((3:Int) * Go.IntKind.i64.wrap ((2:Int) - b))).toNat Go.IntKind.i64.bits)) &&& BitVec.ofInt Go.IntKind.i64.bits (7:Int)).toNat:Int),()),())) (none)
theorem e118_top (n:Nat) (a:Int) (b:Int):runF TT G118 an118 Try.f118 c118 ps118 rs118 n (a,b,())=st118_top n a b:=by kernel_rfl
noncomputable def p118 (n:Nat) (a:Int) (b:Int):Option R118:=st118_top n a b
theorem F118_eq (n:Nat) (a:Int) (b:Int):runF TT G118 an118 Try.f118 c118 ps118 rs118 n (a,b,())=p118 n a b:=by
 rw [e118_top]
 skip
 try rfl
noncomputable def q118 (n:Nat) (x:argsD ps118):Option R118:=p118 n x.1 x.2.1
noncomputable def Sm118:Sm:=⟨ps118,rs118,false,q118⟩
theorem holds118 (hg:GamOK Try.prog G118):Holds Try.prog 118 Sm118:=by
 have:=h0_118 hg
 have e:(runF TT G118 an118 Try.f118 c118 ps118 rs118)=q118:=by
  funext n x
  exact F118_eq n x.1 x.2.1
 rw [e] at this
 exact this
theorem gam118:GamOK Try.prog G118:=fun _ _ h=>by cases h
theorem hh118:Holds Try.prog 118 Sm118:=holds118 gam118
end Go.Proofs.Ythhopbicmaipgaa.Rx.S

namespace Go.Proofs.Ythhopbicmaipgaa.Rx.S
open Go Go.RowKit Go.Proofs
set_option maxRecDepth 100000
noncomputable def c130:Code:=(Try.f130.body.getD .skip)
def an130:An:=⟨fun r=>match r with | 2=>⟨[0,1,7,8],[]⟩ | _=>⟨[],[]⟩,fun _ _=>none⟩
abbrev ps130:List PK:=[.val (.row 3 i64) false,.val i64 false]
abbrev rs130:List RK:=[.val i64 false]
abbrev R130:=retsD rs130 × outsD ps130
noncomputable def G130:Gam:=fun _=>none
theorem h0_130 (hg:GamOK Try.prog G130):Holds Try.prog 130 ⟨ps130,rs130,false,runF TT G130 an130 Try.f130 c130 ps130 rs130⟩:=holds_of tt_ok hg mixed Try.func130 (by kernel_rfl) (by rfl) (by decide +kernel)
noncomputable def at130:Nat→Pt→List Nat→St→Option R130:=atF TT G130 an130 Try.f130 c130 _ _
def sh130_L2 (x0:List Int) (x1:Int) (x2:Int) (x3:Int):St:=(St.mk ((AV.one (SV.con (⟨3,Ty.int Go.IntKind.i64,x0⟩:Rw))) :: ((AV.one (SV.int (Go.IntKind.i64) x1)) :: (AV.undef :: (AV.undef :: (AV.undef :: (AV.undef :: (AV.undef :: ((AV.one (SV.int (Go.IntKind.i64) x2)) :: ((AV.one (SV.int (Go.IntKind.i64) x3)) :: (AV.undef :: (AV.undef :: (AV.undef :: (AV.undef :: (AV.undef :: (AV.undef :: (AV.undef :: (AV.undef :: (AV.undef :: (AV.undef :: []))))))))))))))))))) [])
noncomputable def st130_top (n:Nat) (lL2:(List Int)→Int→Int→Int→Option R130) (a:List Int) (b:Int):Option R130 :=
 lL2 (a) (b) ((↑a.length:Int)) ((0:Int))
noncomputable def st130_L2 (n:Nat) (lL2:(List Int)→Int→Int→Int→Option R130) (x0:List Int) (x1:Int) (x2:Int) (x3:Int):Option R130 :=
 cond (decide (x3 < x2)) (cond (decide ((0:Int)≤x3)) (cond (decide (x3 < (↑x0.length:Int))) (cond (decide (x1=x0.getD x3.toNat (0:Int))) (some ((x3,()),())) (lL2 (x0) (x1) (x2) (Go.IntKind.i64.wrap (x3 + (1:Int))))) (none)) (none)) (some (((-1:Int),()),()))
theorem e130_top (n:Nat) (a:List Int) (b:Int):runF TT G130 an130 Try.f130 c130 ps130 rs130 n (a,b,())=st130_top n (fun x0 x1 x2 x3=>at130 n (.head 2) [n] (sh130_L2 x0 x1 x2 x3)) a b:=by kernel_rfl
theorem e130_L2_0 (n:Nat) (x0:List Int) (x1:Int) (x2:Int) (x3:Int):at130 n (.head 2) [0] (sh130_L2 x0 x1 x2 x3)=none:=by kernel_rfl
theorem e130_L2 (n:Nat) (m2:Nat) (x0:List Int) (x1:Int) (x2:Int) (x3:Int):at130 n (.head 2) [m2 + 1] (sh130_L2 x0 x1 x2 x3)=st130_L2 n (fun x0 x1 x2 x3=>at130 n (.head 2) [m2] (sh130_L2 x0 x1 x2 x3)) x0 x1 x2 x3:=by kernel_rfl
noncomputable def p130_L2 (n:Nat):Nat→(List Int)→Int→Int→Int→Option R130
 | 0,_,_,_,_=>none
 | m + 1,x0,x1,x2,x3=>st130_L2 n (p130_L2 n m) x0 x1 x2 x3
noncomputable def p130 (n:Nat) (a:List Int) (b:Int):Option R130:=st130_top n (p130_L2 n n) a b
theorem t130_L2 (n:Nat):∀ (m2:Nat) (x0:List Int) (x1:Int) (x2:Int) (x3:Int),at130 n (.head 2) [m2] (sh130_L2 x0 x1 x2 x3)=p130_L2 n m2 x0 x1 x2 x3:=by
 intro m
 induction m with
 | zero=>intros; rw [e130_L2_0]; rfl
 | succ m ih =>
  intros
  rw [e130_L2]
  try simp only [ih]
  rfl
theorem F130_eq (n:Nat) (a:List Int) (b:Int):runF TT G130 an130 Try.f130 c130 ps130 rs130 n (a,b,())=p130 n a b:=by
 rw [e130_top]
 simp only [t130_L2]
 try rfl
noncomputable def q130 (n:Nat) (x:argsD ps130):Option R130:=p130 n x.1 x.2.1
noncomputable def Sm130:Sm:=⟨ps130,rs130,false,q130⟩
theorem holds130 (hg:GamOK Try.prog G130):Holds Try.prog 130 Sm130:=by
 have:=h0_130 hg
 have e:(runF TT G130 an130 Try.f130 c130 ps130 rs130)=q130:=by
  funext n x
  exact F130_eq n x.1 x.2.1
 rw [e] at this
 exact this
theorem gam130:GamOK Try.prog G130:=fun _ _ h=>by cases h
theorem hh130:Holds Try.prog 130 Sm130:=holds130 gam130
end Go.Proofs.Ythhopbicmaipgaa.Rx.S

namespace Go.Proofs.Ythhopbicmaipgaa.Rx.S
open Go Go.RowKit Go.Proofs
set_option maxRecDepth 100000
noncomputable def c119:Code:=(Try.f119.body.getD .skip)
def an119:An:=⟨fun _=>⟨[],[]⟩,fun _ _=>none⟩
abbrev ps119:List PK:=[.val (.row 3 i64) false,.val i64 false]
abbrev rs119:List RK:=[.val .bool false]
abbrev R119:=retsD rs119 × outsD ps119
noncomputable def G119:Gam:=fun f=>match f with | 130=>some Sm130 | _=>none
theorem h0_119 (hg:GamOK Try.prog G119):Holds Try.prog 119 ⟨ps119,rs119,false,runF TT G119 an119 Try.f119 c119 ps119 rs119⟩:=holds_of tt_ok hg mixed Try.func119 (by kernel_rfl) (by rfl) (by decide +kernel)
noncomputable def st119_top (n:Nat) (a:List Int) (b:Int):Option R119 :=
 (q130 n (a,b,())).bind fun r0=>some ((decide ((0:Int)≤r0.1.1),()),())
theorem e119_top (n:Nat) (a:List Int) (b:Int):runF TT G119 an119 Try.f119 c119 ps119 rs119 n (a,b,())=st119_top n a b:=by kernel_rfl
noncomputable def p119 (n:Nat) (a:List Int) (b:Int):Option R119:=st119_top n a b
theorem F119_eq (n:Nat) (a:List Int) (b:Int):runF TT G119 an119 Try.f119 c119 ps119 rs119 n (a,b,())=p119 n a b:=by
 rw [e119_top]
 skip
 try rfl
noncomputable def q119 (n:Nat) (x:argsD ps119):Option R119:=p119 n x.1 x.2.1
noncomputable def Sm119:Sm:=⟨ps119,rs119,false,q119⟩
theorem holds119 (hg:GamOK Try.prog G119):Holds Try.prog 119 Sm119:=by
 have:=h0_119 hg
 have e:(runF TT G119 an119 Try.f119 c119 ps119 rs119)=q119:=by
  funext n x
  exact F119_eq n x.1 x.2.1
 rw [e] at this
 exact this
theorem gam119:GamOK Try.prog G119:=by
 intro f s h
 unfold G119 at h
 split at h
 ·injection h with h; subst h; exact ⟨⟨Try.f130,c130,Try.func130,by kernel_rfl,by decide +kernel⟩,hh130⟩
 ·cases h
theorem hh119:Holds Try.prog 119 Sm119:=holds119 gam119
end Go.Proofs.Ythhopbicmaipgaa.Rx.S

namespace Go.Proofs.Ythhopbicmaipgaa.Rx.S
open Go Go.RowKit Go.Proofs
set_option maxRecDepth 100000
noncomputable def c98:Code:=(Try.f98.body.getD .skip)
def an98:An:=⟨fun _=>⟨[],[]⟩,fun _ _=>none⟩
abbrev ps98:List PK:=[.val tCr true,.val i64 false,.val i64 false,.val i64 false,.val i64 false]
abbrev rs98:List RK:=[.val .bool false]
abbrev R98:=retsD rs98 × outsD ps98
noncomputable def G98:Gam:=fun f=>match f with | 55=>some Sm55 | 90=>some Sm90 | 118=>some Sm118 | 119=>some Sm119 | _=>none
theorem h0_98 (hg:GamOK Try.prog G98):Holds Try.prog 98 ⟨ps98,rs98,false,runF TT G98 an98 Try.f98 c98 ps98 rs98⟩:=holds_of tt_ok hg mixed Try.func98 (by kernel_rfl) (by rfl) (by decide +kernel)
noncomputable def st98_top (n:Nat) (a:Int × Int × List Int) (b:Int) (c:Int) (d:Int) (e:Int):Option R98 :=
 (q90 n ((a.1,a.2.1,a.2.2),())).bind fun r0=>cond (!r0.1.1) (some ((false,()),())) ((q55 n (b,(0:Int),(9:Int),())).bind fun r1=>cond (!r1.1.1) (some ((false,()),())) ((q55 n (c,(0:Int),(9:Int),())).bind fun r2=>cond (!r2.1.1) (some ((false,()),())) ((q55 n (d,(0:Int),(511:Int),())).bind fun r3=>cond (!r3.1.1) (some ((false,()),())) ((q55 n (e,(1:Int),(7:Int),())).bind fun r4=>cond (!r4.1.1) (some ((false,()),())) (cond (decide (a.1=(0:Int))) (cond (decide (Go.IntKind.i64.wrap (↑(BitVec.ofInt Go.IntKind.i64.bits e &&& BitVec.ofInt Go.IntKind.i64.bits (1:Int)).toNat:Int)=(0:Int))) (some ((true,()),())) ((q118 n (d,(0:Int),())).bind fun r5=>(q118 n (d,(1:Int),())).bind fun r6=>(q118 n (d,(2:Int),())).bind fun r7=>some ((decide (Go.IntKind.i64.wrap (↑(BitVec.ofInt Go.IntKind.i64.bits (Go.IntKind.i64.wrap (↑(BitVec.ofInt Go.IntKind.i64.bits (Go.IntKind.i64.wrap (↑(BitVec.ofInt Go.IntKind.i64.bits r5.1.1|||BitVec.ofInt Go.IntKind.i64.bits r6.1.1).toNat:Int))|||BitVec.ofInt Go.IntKind.i64.bits r7.1.1).toNat:Int)) &&& BitVec.ofInt Go.IntKind.i64.bits (1:Int)).toNat:Int)=(1:Int)),()),()))) (cond (decide (a.1=b)) ((q118 n (d,(0:Int),())).bind fun r8=>some ((decide (Go.IntKind.i64.wrap (↑(BitVec.ofInt Go.IntKind.i64.bits r8.1.1 &&& BitVec.ofInt Go.IntKind.i64.bits e).toNat:Int)=e),()),())) ((q119 n (a.2.2,c,())).bind fun r9=>cond (r9.1.1) ((q118 n (d,(1:Int),())).bind fun r10=>some ((decide (Go.IntKind.i64.wrap (↑(BitVec.ofInt Go.IntKind.i64.bits r10.1.1 &&& BitVec.ofInt Go.IntKind.i64.bits e).toNat:Int)=e),()),())) ((q118 n (d,(2:Int),())).bind fun r11=>some ((decide (Go.IntKind.i64.wrap (↑(BitVec.ofInt Go.IntKind.i64.bits r11.1.1 &&& BitVec.ofInt Go.IntKind.i64.bits e).toNat:Int)=e),()),())))))))))
theorem e98_top (n:Nat) (a:Int × Int × List Int) (b:Int) (c:Int) (d:Int) (e:Int):runF TT G98 an98 Try.f98 c98 ps98 rs98 n (a,b,c,d,e,())=st98_top n a b c d e:=by kernel_rfl
noncomputable def p98 (n:Nat) (a:Int × Int × List Int) (b:Int) (c:Int) (d:Int) (e:Int):Option R98:=st98_top n a b c d e
theorem F98_eq (n:Nat) (a:Int × Int × List Int) (b:Int) (c:Int) (d:Int) (e:Int):runF TT G98 an98 Try.f98 c98 ps98 rs98 n (a,b,c,d,e,())=p98 n a b c d e:=by
 rw [e98_top]
 skip
 try rfl
noncomputable def q98 (n:Nat) (x:argsD ps98):Option R98:=p98 n x.1 x.2.1 x.2.2.1 x.2.2.2.1 x.2.2.2.2.1
noncomputable def Sm98:Sm:=⟨ps98,rs98,false,q98⟩
theorem holds98 (hg:GamOK Try.prog G98):Holds Try.prog 98 Sm98:=by
 have:=h0_98 hg
 have e:(runF TT G98 an98 Try.f98 c98 ps98 rs98)=q98:=by
  funext n x
  exact F98_eq n x.1 x.2.1 x.2.2.1 x.2.2.2.1 x.2.2.2.2.1
 rw [e] at this
 exact this
theorem gam98:GamOK Try.prog G98:=by
 intro f s h
 unfold G98 at h
 split at h
 ·injection h with h; subst h; exact ⟨⟨Try.f55,c55,Try.func55,by kernel_rfl,by decide +kernel⟩,hh55⟩
 ·injection h with h; subst h; exact ⟨⟨Try.f90,c90,Try.func90,by kernel_rfl,by decide +kernel⟩,hh90⟩
 ·injection h with h; subst h; exact ⟨⟨Try.f118,c118,Try.func118,by kernel_rfl,by decide +kernel⟩,hh118⟩
 ·injection h with h; subst h; exact ⟨⟨Try.f119,c119,Try.func119,by kernel_rfl,by decide +kernel⟩,hh119⟩
 ·cases h
theorem hh98:Holds Try.prog 98 Sm98:=holds98 gam98
end Go.Proofs.Ythhopbicmaipgaa.Rx.S

namespace Go.Proofs.Ythhopbicmaipgaa.Rx.S
open Go Go.RowKit Go.Proofs
set_option maxRecDepth 100000
noncomputable def c60:Code:=(Try.f60.body.getD .skip)
def an60:An:=⟨fun _=>⟨[],[]⟩,fun _ _=>none⟩
abbrev ps60:List PK:=[.val (tIn 95) true,.val tCr true,.val i64 false]
abbrev rs60:List RK:=[.val .bool false]
abbrev R60:=retsD rs60 × outsD ps60
noncomputable def G60:Gam:=fun f=>match f with | 98=>some Sm98 | _=>none
theorem h0_60 (hg:GamOK Try.prog G60):Holds Try.prog 60 ⟨ps60,rs60,false,runF TT G60 an60 Try.f60 c60 ps60 rs60⟩:=holds_of tt_ok hg mixed Try.func60 (by kernel_rfl) (by rfl) (by decide +kernel)
noncomputable def st60_top (n:Nat) (a:NT) (b:Int × Int × List Int) (c:Int):Option R60 :=
 (q98 n ((b.1,b.2.1,b.2.2),a.2.2.1,a.2.2.2.1,a.2.1,c,())).bind fun r0=>some ((r0.1.1,()),())
theorem e60_top (n:Nat) (a:NT) (b:Int × Int × List Int) (c:Int):runF TT G60 an60 Try.f60 c60 ps60 rs60 n (a,b,c,())=st60_top n a b c:=by kernel_rfl
noncomputable def p60 (n:Nat) (a:NT) (b:Int × Int × List Int) (c:Int):Option R60:=st60_top n a b c
theorem F60_eq (n:Nat) (a:NT) (b:Int × Int × List Int) (c:Int):runF TT G60 an60 Try.f60 c60 ps60 rs60 n (a,b,c,())=p60 n a b c:=by
 rw [e60_top]
 skip
 try rfl
noncomputable def q60 (n:Nat) (x:argsD ps60):Option R60:=p60 n x.1 x.2.1 x.2.2.1
noncomputable def Sm60:Sm:=⟨ps60,rs60,false,q60⟩
theorem holds60 (hg:GamOK Try.prog G60):Holds Try.prog 60 Sm60:=by
 have:=h0_60 hg
 have e:(runF TT G60 an60 Try.f60 c60 ps60 rs60)=q60:=by
  funext n x
  exact F60_eq n x.1 x.2.1 x.2.2.1
 rw [e] at this
 exact this
theorem gam60:GamOK Try.prog G60:=by
 intro f s h
 unfold G60 at h
 split at h
 ·injection h with h; subst h; exact ⟨⟨Try.f98,c98,Try.func98,by kernel_rfl,by decide +kernel⟩,hh98⟩
 ·cases h
theorem hh60:Holds Try.prog 60 Sm60:=holds60 gam60
end Go.Proofs.Ythhopbicmaipgaa.Rx.S

namespace Go.Proofs.Ythhopbicmaipgaa.Rx.S
open Go Go.RowKit Go.Proofs
set_option maxRecDepth 100000
abbrev ps51:List PK:=[.bx tRd,.val i64 false]
abbrev rs51:List RK:=[.val i64 false]
abbrev R51:=retsD rs51 × outsD ps51
noncomputable def st51_top (n:Nat) (a:List Int × Int) (b:Int):Option R51 :=
 cond (decide (b < (1:Int))) (some (((0:Int),()),((a.1,Go.IntKind.i64.wrap (a.2 + (1:Int))),()))) (cond (decide ((↑(List.length a.1):Int)=(0:Int))) (some (((0:Int),()),((a.1,Go.IntKind.i64.wrap (a.2 + (1:Int))),()))) (cond (decide (Go.IntKind.i64.wrap (Go.IntKind.i64.wrap (a.2 + (1:Int)) - (1:Int)) < (↑(List.length a.1):Int))) (cond (decide ((0:Int)≤Go.IntKind.i64.wrap (Go.IntKind.i64.wrap (a.2 + (1:Int)) - (1:Int)))) (cond (decide (Go.IntKind.i64.wrap (Go.IntKind.i64.wrap (a.2 + (1:Int)) - (1:Int)) < (↑(List.length a.1):Int))) (cond (!decide (b=(0:Int))) (some (((Go.IntKind.i64.wrap (List.getD a.1 (Go.IntKind.i64.wrap (Go.IntKind.i64.wrap (a.2 + (1:Int)) - (1:Int))).toNat (0:Int))).tmod b,()),((a.1,Go.IntKind.i64.wrap (a.2 + (1:Int))),()))) (none)) (none)) (none)) (cond (!decide ((↑(List.length a.1):Int)=(0:Int))) (cond (decide ((0:Int)≤(Go.IntKind.i64.wrap (Go.IntKind.i64.wrap (a.2 + (1:Int)) - (1:Int))).tmod (↑(List.length a.1):Int))) (cond (decide ((Go.IntKind.i64.wrap (Go.IntKind.i64.wrap (a.2 + (1:Int)) - (1:Int))).tmod (↑(List.length a.1):Int) < (↑(List.length a.1):Int))) (cond (!decide ((↑(List.length a.1):Int)=(0:Int))) (cond (decide ((0:Int)≤(Go.IntKind.i64.wrap (Go.IntKind.i64.wrap (Go.IntKind.i64.wrap (Go.IntKind.i64.wrap (a.2 + (1:Int)) - (1:Int)) * (7:Int)) + (3:Int))).tmod (↑(List.length a.1):Int))) (cond (decide ((Go.IntKind.i64.wrap (Go.IntKind.i64.wrap (Go.IntKind.i64.wrap (Go.IntKind.i64.wrap (a.2 + (1:Int)) - (1:Int)) * (7:Int)) + (3:Int))).tmod (↑(List.length a.1):Int) < (↑(List.length a.1):Int))) (cond (!decide ((↑(List.length a.1):Int)=(0:Int))) (cond (!decide (b=(0:Int))) (some (((Go.IntKind.i64.wrap (↑(BitVec.ofInt Go.IntKind.i64.bits (Go.IntKind.i64.wrap (Go.IntKind.i64.wrap (Go.IntKind.i64.wrap (Go.IntKind.i64.wrap (Go.IntKind.i64.wrap (List.getD a.1 ((Go.IntKind.i64.wrap (Go.IntKind.i64.wrap (a.2 + (1:Int)) - (1:Int))).tmod (↑(List.length a.1):Int)).toNat (0:Int)) * (131:Int)) + Go.IntKind.i64.wrap (Go.IntKind.i64.wrap (List.getD a.1 ((Go.IntKind.i64.wrap (Go.IntKind.i64.wrap (Go.IntKind.i64.wrap (Go.IntKind.i64.wrap (a.2 + (1:Int)) - (1:Int)) * (7:Int)) + (3:Int))).tmod (↑(List.length a.1):Int)).toNat (0:Int)) * (1117:Int))) + Go.IntKind.i64.wrap (Go.IntKind.i64.wrap (Go.IntKind.i64.wrap (a.2 + (1:Int)) - (1:Int)) * (29:Int))) + Go.IntKind.i64.wrap (Go.IntKind.i64.wrap ((Go.IntKind.i64.wrap (Go.IntKind.i64.wrap (a.2 + (1:Int)) - (1:Int))).tdiv (↑(List.length a.1):Int)) * (53:Int)))) ^^^ BitVec.ofInt Go.IntKind.i64.bits (Go.IntKind.i64.wrap ((Go.IntKind.i64.wrap (Go.IntKind.i64.wrap (Go.IntKind.i64.wrap (Go.IntKind.i64.wrap (Go.IntKind.i64.wrap (List.getD a.1 ((Go.IntKind.i64.wrap (Go.IntKind.i64.wrap (a.2 + (1:Int)) - (1:Int))).tmod (↑(List.length a.1):Int)).toNat (0:Int)) * (131:Int)) + Go.IntKind.i64.wrap (Go.IntKind.i64.wrap (List.getD a.1 ((Go.IntKind.i64.wrap (Go.IntKind.i64.wrap (Go.IntKind.i64.wrap (Go.IntKind.i64.wrap (a.2 + (1:Int)) - (1:Int)) * (7:Int)) + (3:Int))).tmod (↑(List.length a.1):Int)).toNat (0:Int)) * (1117:Int))) + Go.IntKind.i64.wrap (Go.IntKind.i64.wrap (Go.IntKind.i64.wrap (a.2 + (1:Int)) - (1:Int)) * (29:Int))) + Go.IntKind.i64.wrap (Go.IntKind.i64.wrap ((Go.IntKind.i64.wrap (Go.IntKind.i64.wrap (a.2 + (1:Int)) - (1:Int))).tdiv (↑(List.length a.1):Int)) * (53:Int)))).tdiv (64:Int)))).toNat:Int)).tmod b,()),((a.1,Go.IntKind.i64.wrap (a.2 + (1:Int))),()))) (none)) (none)) (none)) (none)) (none)) (none)) (none)) (none))))
noncomputable def p51 (n:Nat) (a:List Int × Int) (b:Int):Option R51:=st51_top n a b
noncomputable def q51 (n:Nat) (x:argsD ps51):Option R51:=p51 n x.1 x.2.1
end Go.Proofs.Ythhopbicmaipgaa.Rx.S

namespace Go.Proofs.Ythhopbicmaipgaa.Rx.S
open Go Go.RowKit Go.Proofs
set_option maxRecDepth 100000
abbrev ps50:List PK:=[.bx tRd]
abbrev rs50:List RK:=[.val .str false]
abbrev R50:=retsD rs50 × outsD ps50
noncomputable def st50_top (n:Nat) (a:List Int × Int):Option R50 :=
 (q51 n ((a.1,a.2),(24:Int),())).bind fun r0=>cond (decide (r0.1.1=(0:Int))) ((q51 n ((r0.2.1.1,r0.2.1.2),(5:Int),())).bind fun r1=>cond (decide ((0:Int)≤r1.1.1)) (cond (decide (r1.1.1 < (↑[ByteArray.mk #[],ByteArray.mk #[(65:UInt8)],ByteArray.mk #[(97:UInt8),(98:UInt8),(99:UInt8),(100:UInt8)],ByteArray.mk #[(46:UInt8),(46:UInt8)],ByteArray.mk #[(97:UInt8),(47:UInt8)]].length:Int))) (some (([ByteArray.mk #[],ByteArray.mk #[(65:UInt8)],ByteArray.mk #[(97:UInt8),(98:UInt8),(99:UInt8),(100:UInt8)],ByteArray.mk #[(46:UInt8),(46:UInt8)],ByteArray.mk #[(97:UInt8),(47:UInt8)]].getD (Int.toNat r1.1.1) ByteArray.empty,()),((r1.2.1.1,r1.2.1.2),()))) (none)) (none)) ((q51 n ((r0.2.1.1,r0.2.1.2),(4:Int),())).bind fun r2=>cond (decide ((0:Int)≤r2.1.1)) (cond (decide (r2.1.1 < (↑[ByteArray.mk #[(97:UInt8)],ByteArray.mk #[(98:UInt8)],ByteArray.mk #[(99:UInt8)],ByteArray.mk #[(97:UInt8),(98:UInt8)]].length:Int))) (some (([ByteArray.mk #[(97:UInt8)],ByteArray.mk #[(98:UInt8)],ByteArray.mk #[(99:UInt8)],ByteArray.mk #[(97:UInt8),(98:UInt8)]].getD (Int.toNat r2.1.1) ByteArray.empty,()),((r2.2.1.1,r2.2.1.2),()))) (none)) (none))
noncomputable def p50 (n:Nat) (a:List Int × Int):Option R50:=st50_top n a
noncomputable def q50 (n:Nat) (x:argsD ps50):Option R50:=p50 n x.1
end Go.Proofs.Ythhopbicmaipgaa.Rx.S

namespace Go.Proofs.Ythhopbicmaipgaa.Rx.S
open Go Go.RowKit Go.Proofs
set_option maxRecDepth 100000
abbrev ps88:List PK:=[.val i64 false,.val i64 false]
abbrev rs88:List RK:=[.own tFs true,.val .bool false]
abbrev R88:=retsD rs88 × outsD ps88
noncomputable def st88_top (n:Nat) (a:Int) (b:Int):Option R88 :=
 (q87 n (a,())).bind fun r0=>cond (!r0.1.1) (some (([],(false,())),())) ((q66 n (b,(0:Int),(511:Int),())).bind fun r1=>cond (!r1.1.1) (some (([],(false,())),())) (some (((List.replicate (Int.toNat (10:Int)) ZN).set (Int.toNat (0:Int)) ((2:Int),b,a,a,(0:Int),(0:Int),false,ByteArray.empty,[]),(true,())),())))
noncomputable def p88 (n:Nat) (a:Int) (b:Int):Option R88:=st88_top n a b
noncomputable def q88 (n:Nat) (x:argsD ps88):Option R88:=p88 n x.1 x.2.1
end Go.Proofs.Ythhopbicmaipgaa.Rx.S

namespace Go.Proofs.Ythhopbicmaipgaa.Rx.S
open Go Go.RowKit Go.Proofs
set_option maxRecDepth 100000
abbrev ps48:List PK:=[.bx tRd]
abbrev rs48:List RK:=[.own tCr true]
abbrev R48:=retsD rs48 × outsD ps48
noncomputable def st48_top (n:Nat) (lL3:Int→(List Int)→Int→Int→Int→Int→Int→(List Int)→Option R48) (a:List Int × Int):Option R48 :=
 (q51 n ((a.1,a.2),(4:Int),())).bind fun r0=>(q51 n ((r0.2.1.1,r0.2.1.2),(4:Int),())).bind fun r1=>lL3 ((0:Int)) (r1.2.1.1) (r1.2.1.2) ((0:Int)) ((0:Int)) (r0.1.1) (r1.1.1) ([])
noncomputable def st48_L3 (n:Nat) (lL3:Int→(List Int)→Int→Int→Int→Int→Int→(List Int)→Option R48) (x0:Int) (x1:List Int) (x2:Int) (x3:Int) (x4:Int) (x5:Int) (x6:Int) (x7:List Int):Option R48 :=
 cond (decide (x0 < (5:Int))) (cond (decide ((↑x7.length:Int) < (3:Int))) ((q51 n ((x1,x2),(4:Int),())).bind fun r3=>cond (decide (r3.1.1=(0:Int))) (cond (decide ((x7.length + [x0].length) * (8:Nat)≤(140737488355328:Nat))) (lL3 (Go.IntKind.i64.wrap (x0 + (1:Int))) (r3.2.1.1) (r3.2.1.2) (x3) (x4) (x5) (x6) (x7 ++ [x0])) (none)) (lL3 (Go.IntKind.i64.wrap (x0 + (1:Int))) (r3.2.1.1) (r3.2.1.2) (x3) (x4) (x5) (x6) (x7))) ((q51 n ((x1,x2),(30:Int),())).bind fun r4=>cond (decide (r4.1.1=(0:Int))) ((q51 n ((r4.2.1.1,r4.2.1.2),(3:Int),())).bind fun r5=>cond (decide ((0:Int)≤r5.1.1)) (cond (decide (r5.1.1 < (↑[(-1:Int),(10:Int),(9:Int)].length:Int))) (some ((([(-1:Int),(10:Int),(9:Int)].getD (Int.toNat r5.1.1) (0:Int),(x6,x7)),()),((r5.2.1.1,r5.2.1.2),()))) (none)) (none)) (cond (decide (r4.1.1=(1:Int))) ((q51 n ((r4.2.1.1,r4.2.1.2),(3:Int),())).bind fun r6=>cond (decide ((0:Int)≤r6.1.1)) (cond (decide (r6.1.1 < (↑[(0:Int),(9:Int),(10:Int)].length:Int))) (cond (decide ((x7.length + [[(0:Int),(9:Int),(10:Int)].getD (Int.toNat r6.1.1) (0:Int)].length) * (8:Nat)≤(140737488355328:Nat))) (some (((x5,(x6,x7 ++ [[(0:Int),(9:Int),(10:Int)].getD (Int.toNat r6.1.1) (0:Int)])),()),((r6.2.1.1,r6.2.1.2),()))) (none)) (none)) (none)) (some (((x5,(x6,x7)),()),((r4.2.1.1,r4.2.1.2),())))))) ((q51 n ((x1,x2),(30:Int),())).bind fun r7=>cond (decide (r7.1.1=(0:Int))) ((q51 n ((r7.2.1.1,r7.2.1.2),(3:Int),())).bind fun r8=>cond (decide ((0:Int)≤r8.1.1)) (cond (decide (r8.1.1 < (↑[(-1:Int),(10:Int),(9:Int)].length:Int))) (some ((([(-1:Int),(10:Int),(9:Int)].getD (Int.toNat r8.1.1) (0:Int),(x6,x7)),()),((r8.2.1.1,r8.2.1.2),()))) (none)) (none)) (cond (decide (r7.1.1=(1:Int))) ((q51 n ((r7.2.1.1,r7.2.1.2),(3:Int),())).bind fun r9=>cond (decide ((0:Int)≤r9.1.1)) (cond (decide (r9.1.1 < (↑[(0:Int),(9:Int),(10:Int)].length:Int))) (cond (decide ((x7.length + [[(0:Int),(9:Int),(10:Int)].getD (Int.toNat r9.1.1) (0:Int)].length) * (8:Nat)≤(140737488355328:Nat))) (some (((x5,(x6,x7 ++ [[(0:Int),(9:Int),(10:Int)].getD (Int.toNat r9.1.1) (0:Int)])),()),((r9.2.1.1,r9.2.1.2),()))) (none)) (none)) (none)) (some (((x5,(x6,x7)),()),((r7.2.1.1,r7.2.1.2),())))))
noncomputable def p48_L3 (n:Nat):Nat→Int→(List Int)→Int→Int→Int→Int→Int→(List Int)→Option R48
 | 0,_,_,_,_,_,_,_,_=>none
 | m + 1,x0,x1,x2,x3,x4,x5,x6,x7=>st48_L3 n (p48_L3 n m) x0 x1 x2 x3 x4 x5 x6 x7
noncomputable def p48 (n:Nat) (a:List Int × Int):Option R48:=st48_top n (p48_L3 n n) a
noncomputable def q48 (n:Nat) (x:argsD ps48):Option R48:=p48 n x.1
end Go.Proofs.Ythhopbicmaipgaa.Rx.S

namespace Go.Proofs.Ythhopbicmaipgaa.Rx.S
open Go Go.RowKit Go.Proofs
set_option maxRecDepth 100000
abbrev ps85:List PK:=[.bx tRd,.val i64 false]
abbrev rs85:List RK:=[.val .str false]
abbrev R85:=retsD rs85 × outsD ps85
noncomputable def st85_top (n:Nat) (lL3:Int→(List Int)→Int→(List Int)→Option R85) (a:List Int × Int) (b:Int):Option R85 :=
 (q51 n ((a.1,a.2),Go.IntKind.i64.wrap (b + (1:Int)),())).bind fun r0=>lL3 (r0.1.1) (r0.2.1.1) (r0.2.1.2) ([])
noncomputable def st85_L3 (n:Nat) (lL3:Int→(List Int)→Int→(List Int)→Option R85) (x0:Int) (x1:List Int) (x2:Int) (x3:List Int):Option R85 :=
 cond (decide ((0:Int) < x0)) ((q51 n ((x1,x2),(12:Int),())).bind fun r2=>cond (decide ((0:Int)≤r2.1.1)) (cond (decide (r2.1.1 < (↑(ByteArray.mk #[(97:UInt8),(98:UInt8),(99:UInt8),(100:UInt8),(101:UInt8),(102:UInt8),(103:UInt8),(104:UInt8),(48:UInt8),(49:UInt8),(32:UInt8),(46:UInt8)]).size:Int))) (cond (decide ((x3.length + [(↑((ByteArray.mk #[(97:UInt8),(98:UInt8),(99:UInt8),(100:UInt8),(101:UInt8),(102:UInt8),(103:UInt8),(104:UInt8),(48:UInt8),(49:UInt8),(32:UInt8),(46:UInt8)]).data.toList.getD (Int.toNat r2.1.1) (0:UInt8)).toNat:Int)].length) * (1:Nat)≤(140737488355328:Nat))) (lL3 (Go.IntKind.i64.wrap (x0 - (1:Int))) (r2.2.1.1) (r2.2.1.2) (x3 ++ [(↑((ByteArray.mk #[(97:UInt8),(98:UInt8),(99:UInt8),(100:UInt8),(101:UInt8),(102:UInt8),(103:UInt8),(104:UInt8),(48:UInt8),(49:UInt8),(32:UInt8),(46:UInt8)]).data.toList.getD (Int.toNat r2.1.1) (0:UInt8)).toNat:Int)])) (none)) (none)) (none)) (some ((List.foldl (fun r n=>r.push (UInt8.ofNat n.toNat)) ByteArray.empty x3,()),((x1,x2),())))
noncomputable def p85_L3 (n:Nat):Nat→Int→(List Int)→Int→(List Int)→Option R85
 | 0,_,_,_,_=>none
 | m + 1,x0,x1,x2,x3=>st85_L3 n (p85_L3 n m) x0 x1 x2 x3
noncomputable def p85 (n:Nat) (a:List Int × Int) (b:Int):Option R85:=st85_top n (p85_L3 n n) a b
noncomputable def q85 (n:Nat) (x:argsD ps85):Option R85:=p85 n x.1 x.2.1
end Go.Proofs.Ythhopbicmaipgaa.Rx.S

namespace Go.Proofs.Ythhopbicmaipgaa.Rx.S
open Go Go.RowKit Go.Proofs
set_option maxRecDepth 100000
abbrev ps89:List PK:=[.bx tRd,.own tFs true]
abbrev rs89:List RK:=[.own tFs true]
abbrev R89:=retsD rs89 × outsD ps89
noncomputable def st89_top (n:Nat) (lC10_0:Int→Int→(List Int)→Int→Int→Int→(List NT)→(List Int)→Option R89) (a:List Int × Int) (b:List NT):Option R89 :=
 (q48 n ((a.1,a.2),())).bind fun r0=>(q51 n ((r0.2.1.1,r0.2.1.2),(2:Int),())).bind fun r1=>cond (decide (r1.1.1=(0:Int))) ((q51 n ((r1.2.1.1,r1.2.1.2),(6:Int),())).bind fun r2=>(q51 n ((r2.2.1.1,r2.2.1.2),(6:Int),())).bind fun r3=>(q64 n (b,r2.1.1,())).bind fun r4=>cond (!r4.1.1) ((q64 n (b,r3.1.1,())).bind fun r5=>cond (!r5.1.1) (lC10_0 ((0:Int)) ((0:Int)) (r3.2.1.1) (r3.2.1.2) ((0:Int)) (r0.1.1.2.1) (b) (r0.1.1.2.2)) (lC10_0 ((0:Int)) (r3.1.1) (r3.2.1.1) (r3.2.1.2) ((0:Int)) (r0.1.1.2.1) (b) (r0.1.1.2.2))) ((q64 n (b,r3.1.1,())).bind fun r29=>cond (!r29.1.1) (lC10_0 (r2.1.1) ((0:Int)) (r3.2.1.1) (r3.2.1.2) ((0:Int)) (r0.1.1.2.1) (b) (r0.1.1.2.2)) (lC10_0 (r2.1.1) (r3.1.1) (r3.2.1.1) (r3.2.1.2) ((0:Int)) (r0.1.1.2.1) (b) (r0.1.1.2.2)))) ((q51 n ((r1.2.1.1,r1.2.1.2),(6:Int),())).bind fun r30=>(q51 n ((r30.2.1.1,r30.2.1.2),(6:Int),())).bind fun r31=>(q64 n (b,r30.1.1,())).bind fun r32=>cond (!r32.1.1) ((q64 n (b,r31.1.1,())).bind fun r33=>cond (!r33.1.1) (lC10_0 ((0:Int)) ((0:Int)) (r31.2.1.1) (r31.2.1.2) (r0.1.1.1) (r0.1.1.2.1) (b) (r0.1.1.2.2)) (lC10_0 ((0:Int)) (r31.1.1) (r31.2.1.1) (r31.2.1.2) (r0.1.1.1) (r0.1.1.2.1) (b) (r0.1.1.2.2))) ((q64 n (b,r31.1.1,())).bind fun r34=>cond (!r34.1.1) (lC10_0 (r30.1.1) ((0:Int)) (r31.2.1.1) (r31.2.1.2) (r0.1.1.1) (r0.1.1.2.1) (b) (r0.1.1.2.2)) (lC10_0 (r30.1.1) (r31.1.1) (r31.2.1.1) (r31.2.1.2) (r0.1.1.1) (r0.1.1.2.1) (b) (r0.1.1.2.2))))
noncomputable def st89_C10_0 (n:Nat) (x0:Int) (x1:Int) (x2:List Int) (x3:Int) (x4:Int) (x5:Int) (x6:List NT) (x7:List Int):Option R89 :=
 (q51 n ((x2,x3),(4:Int),())).bind fun r7=>cond (decide ((0:Int)≤r7.1.1)) (cond (decide (r7.1.1 < (↑[ByteArray.mk #[(97:UInt8)],ByteArray.mk #[(98:UInt8)],ByteArray.mk #[(99:UInt8)],ByteArray.mk #[(97:UInt8),(98:UInt8)]].length:Int))) ((q51 n ((r7.2.1.1,r7.2.1.2),(4:Int),())).bind fun r8=>cond (decide ((0:Int)≤r8.1.1)) (cond (decide (r8.1.1 < (↑[ByteArray.mk #[(97:UInt8)],ByteArray.mk #[(98:UInt8)],ByteArray.mk #[(99:UInt8)],ByteArray.mk #[(97:UInt8),(98:UInt8)]].length:Int))) ((q68 n (x6,())).bind fun r9=>(q51 n ((r8.2.1.1,r8.2.1.2),(10:Int),())).bind fun r10=>cond (decide (r10.1.1=(0:Int))) ((q51 n ((r10.2.1.1,r10.2.1.2),(2:Int),())).bind fun r11=>(q51 n ((r11.2.1.1,r11.2.1.2),(3:Int),())).bind fun r12=>cond (decide ((0:Int)≤r12.1.1)) (cond (decide (r12.1.1 < (↑[(493:Int),(511:Int),(448:Int)].length:Int))) ((q67 n (r9.1.1,(x4,x5,x7),x0,[ByteArray.mk #[(97:UInt8)],ByteArray.mk #[(98:UInt8)],ByteArray.mk #[(99:UInt8)],ByteArray.mk #[(97:UInt8),(98:UInt8)]].getD (Int.toNat r7.1.1) ByteArray.empty,Go.IntKind.i64.wrap ((1:Int) + r11.1.1),[(493:Int),(511:Int),(448:Int)].getD (Int.toNat r12.1.1) (0:Int),())).bind fun r13=>some ((r13.1.1,()),((r12.2.1.1,r12.2.1.2),()))) (none)) (none)) (cond (decide (r10.1.1=(1:Int))) ((q51 n ((r10.2.1.1,r10.2.1.2),(2:Int),())).bind fun r14=>(q51 n ((r14.2.1.1,r14.2.1.2),(3:Int),())).bind fun r15=>cond (decide ((0:Int)≤r15.1.1)) (cond (decide (r15.1.1 < (↑[(493:Int),(511:Int),(448:Int)].length:Int))) ((q67 n (r9.1.1,(x4,x5,x7),x0,[ByteArray.mk #[(97:UInt8)],ByteArray.mk #[(98:UInt8)],ByteArray.mk #[(99:UInt8)],ByteArray.mk #[(97:UInt8),(98:UInt8)]].getD (Int.toNat r7.1.1) ByteArray.empty,Go.IntKind.i64.wrap ((1:Int) + r14.1.1),[(493:Int),(511:Int),(448:Int)].getD (Int.toNat r15.1.1) (0:Int),())).bind fun r16=>some ((r16.1.1,()),((r15.2.1.1,r15.2.1.2),()))) (none)) (none)) (cond (decide (r10.1.1=(2:Int))) ((q51 n ((r10.2.1.1,r10.2.1.2),(2:Int),())).bind fun r17=>(q51 n ((r17.2.1.1,r17.2.1.2),(3:Int),())).bind fun r18=>cond (decide ((0:Int)≤r18.1.1)) (cond (decide (r18.1.1 < (↑[(493:Int),(511:Int),(448:Int)].length:Int))) ((q67 n (r9.1.1,(x4,x5,x7),x0,[ByteArray.mk #[(97:UInt8)],ByteArray.mk #[(98:UInt8)],ByteArray.mk #[(99:UInt8)],ByteArray.mk #[(97:UInt8),(98:UInt8)]].getD (Int.toNat r7.1.1) ByteArray.empty,Go.IntKind.i64.wrap ((1:Int) + r17.1.1),[(493:Int),(511:Int),(448:Int)].getD (Int.toNat r18.1.1) (0:Int),())).bind fun r19=>some ((r19.1.1,()),((r18.2.1.1,r18.2.1.2),()))) (none)) (none)) (cond (decide (r10.1.1=(3:Int))) ((q113 n (r9.1.1,(x4,x5,x7),x1,x0,[ByteArray.mk #[(97:UInt8)],ByteArray.mk #[(98:UInt8)],ByteArray.mk #[(99:UInt8)],ByteArray.mk #[(97:UInt8),(98:UInt8)]].getD (Int.toNat r7.1.1) ByteArray.empty,())).bind fun r20=>some ((r20.1.1,()),((r10.2.1.1,r10.2.1.2),()))) (cond (decide (r10.1.1=(4:Int))) ((q114 n (r9.1.1,(x4,x5,x7),x0,[ByteArray.mk #[(97:UInt8)],ByteArray.mk #[(98:UInt8)],ByteArray.mk #[(99:UInt8)],ByteArray.mk #[(97:UInt8),(98:UInt8)]].getD (Int.toNat r7.1.1) ByteArray.empty,())).bind fun r21=>some ((r21.1.1,()),((r10.2.1.1,r10.2.1.2),()))) (cond (decide (r10.1.1=(5:Int))) ((q115 n (r9.1.1,(x4,x5,x7),x0,[ByteArray.mk #[(97:UInt8)],ByteArray.mk #[(98:UInt8)],ByteArray.mk #[(99:UInt8)],ByteArray.mk #[(97:UInt8),(98:UInt8)]].getD (Int.toNat r7.1.1) ByteArray.empty,x1,[ByteArray.mk #[(97:UInt8)],ByteArray.mk #[(98:UInt8)],ByteArray.mk #[(99:UInt8)],ByteArray.mk #[(97:UInt8),(98:UInt8)]].getD (Int.toNat r8.1.1) ByteArray.empty,())).bind fun r22=>some ((r22.1.1,()),((r10.2.1.1,r10.2.1.2),()))) (cond (decide (r10.1.1=(6:Int))) ((q51 n ((r10.2.1.1,r10.2.1.2),(3:Int),())).bind fun r23=>(q83 n (r9.1.1,x0,decide ((0:Int) < r23.1.1),())).bind fun r24=>some ((r24.1.1,()),((r23.2.1.1,r23.2.1.2),()))) (cond (decide (r10.1.1=(7:Int))) (cond (decide ((0:Int)≤x0)) (cond (decide (x0 < (↑(List.length r9.1.1):Int))) (cond (decide ((List.getD r9.1.1 x0.toNat ZN).1=(1:Int))) ((q51 n ((r10.2.1.1,r10.2.1.2),(2:Int),())).bind fun r25=>cond (decide ((0:Int)≤x0)) (cond (decide (x0 < (↑(List.length r9.1.1):Int))) (some ((List.set r9.1.1 x0.toNat ((List.getD r9.1.1 x0.toNat ZN).1,(List.getD r9.1.1 x0.toNat ZN).2.1,(List.getD r9.1.1 x0.toNat ZN).2.2.1,(List.getD r9.1.1 x0.toNat ZN).2.2.2.1,(List.getD r9.1.1 x0.toNat ZN).2.2.2.2.1,(List.getD r9.1.1 x0.toNat ZN).2.2.2.2.2.1,decide (r25.1.1=(0:Int)),(List.getD r9.1.1 x0.toNat ZN).2.2.2.2.2.2.2),()),((r25.2.1.1,r25.2.1.2),()))) (none)) (none)) (some ((r9.1.1,()),((r10.2.1.1,r10.2.1.2),())))) (none)) (none)) ((q51 n ((r10.2.1.1,r10.2.1.2),(20:Int),())).bind fun r26=>(q85 n ((r26.2.1.1,r26.2.1.2),(9:Int),())).bind fun r27=>(q81 n (r9.1.1,x0,r26.1.1,r27.1.1,())).bind fun r28=>some ((r28.1.1,()),((r27.2.1.1,r27.2.1.2),()))))))))))) (none)) (none)) (none)) (none)
noncomputable def p89_C10_0 (n:Nat) (x0:Int) (x1:Int) (x2:List Int) (x3:Int) (x4:Int) (x5:Int) (x6:List NT) (x7:List Int):Option R89:=st89_C10_0 n x0 x1 x2 x3 x4 x5 x6 x7
noncomputable def p89 (n:Nat) (a:List Int × Int) (b:List NT):Option R89:=st89_top n (p89_C10_0 n) a b
noncomputable def q89 (n:Nat) (x:argsD ps89):Option R89:=p89 n x.1 x.2.1
end Go.Proofs.Ythhopbicmaipgaa.Rx.S

namespace Go.Proofs.Ythhopbicmaipgaa.Rx.S
open Go Go.RowKit Go.Proofs
set_option maxRecDepth 100000
abbrev ps47:List PK:=[.bx tRd]
abbrev rs47:List RK:=[.ro 39 (tIn 95) true]
abbrev R47:=retsD rs47 × outsD ps47
noncomputable def st47_top (n:Nat) (lL3:Int→(List Int)→Int→(List NT)→Option R47) (a:List Int × Int):Option R47 :=
 (q51 n ((a.1,a.2),(3:Int),())).bind fun r0=>(q51 n ((r0.2.1.1,r0.2.1.2),(3:Int),())).bind fun r1=>cond (decide ((0:Int)≤r1.1.1)) (cond (decide (r1.1.1 < (↑[(493:Int),(511:Int),(448:Int)].length:Int))) ((q88 n (r0.1.1,[(493:Int),(511:Int),(448:Int)].getD (Int.toNat r1.1.1) (0:Int),())).bind fun r2=>(q51 n ((r1.2.1.1,r1.2.1.2),(16:Int),())).bind fun r3=>lL3 (r3.1.1) (r3.2.1.1) (r3.2.1.2) (r2.1.1)) (none)) (none)
noncomputable def st47_L3 (n:Nat) (lL3:Int→(List Int)→Int→(List NT)→Option R47) (x0:Int) (x1:List Int) (x2:Int) (x3:List NT):Option R47 :=
 cond (decide ((0:Int) < x0)) ((q89 n ((x1,x2),x3,())).bind fun r5=>lL3 (Go.IntKind.i64.wrap (x0 - (1:Int))) (r5.2.1.1) (r5.2.1.2) (r5.1.1)) ((q51 n ((x1,x2),(24:Int),())).bind fun r6=>cond (decide (r6.1.1=(0:Int))) ((q51 n ((r6.2.1.1,r6.2.1.2),(5:Int),())).bind fun r7=>(q51 n ((r7.2.1.1,r7.2.1.2),(3:Int),())).bind fun r8=>cond (decide ((0:Int)≤r7.1.1)) (cond (decide (r7.1.1 < (↑x3.length:Int))) (some ((x3.set (Int.toNat r7.1.1) ((x3.getD (Int.toNat r7.1.1) ZN).1,(x3.getD (Int.toNat r7.1.1) ZN).2.1,(x3.getD (Int.toNat r7.1.1) ZN).2.2.1,(x3.getD (Int.toNat r7.1.1) ZN).2.2.2.1,r8.1.1,(x3.getD (Int.toNat r7.1.1) ZN).2.2.2.2.2),()),((r8.2.1.1,r8.2.1.2),()))) (none)) (none)) (cond (decide (r6.1.1=(1:Int))) ((q51 n ((r6.2.1.1,r6.2.1.2),(5:Int),())).bind fun r9=>(q51 n ((r9.2.1.1,r9.2.1.2),(5:Int),())).bind fun r10=>cond (decide ((0:Int)≤r10.1.1)) (cond (decide (r10.1.1 < (↑x3.length:Int))) ((q50 n ((r10.2.1.1,r10.2.1.2),())).bind fun r11=>(q51 n ((r11.2.1.1,r11.2.1.2),(11:Int),())).bind fun r12=>cond (decide ((List.length (x3.getD (Int.toNat r10.1.1) ZN).2.2.2.2.2.2.2.2 + [(r11.1.1,r12.1.1)].length) * (24:Nat)≤(140737488355328:Nat))) (cond (decide ((0:Int)≤r9.1.1)) (cond (decide (r9.1.1 < (↑x3.length:Int))) (some ((x3.set (Int.toNat r9.1.1) ((x3.getD (Int.toNat r9.1.1) ZN).1,(x3.getD (Int.toNat r9.1.1) ZN).2.1,(x3.getD (Int.toNat r9.1.1) ZN).2.2.1,(x3.getD (Int.toNat r9.1.1) ZN).2.2.2.1,(x3.getD (Int.toNat r9.1.1) ZN).2.2.2.2.1,(x3.getD (Int.toNat r9.1.1) ZN).2.2.2.2.2.1,(x3.getD (Int.toNat r9.1.1) ZN).2.2.2.2.2.2.1,(x3.getD (Int.toNat r9.1.1) ZN).2.2.2.2.2.2.2.1,(x3.getD (Int.toNat r10.1.1) ZN).2.2.2.2.2.2.2.2 ++ [(r11.1.1,r12.1.1)]),()),((r12.2.1.1,r12.2.1.2),()))) (none)) (none)) (none)) (none)) (none)) (cond (decide (r6.1.1=(2:Int))) ((q51 n ((r6.2.1.1,r6.2.1.2),(5:Int),())).bind fun r13=>(q51 n ((r13.2.1.1,r13.2.1.2),(4:Int),())).bind fun r14=>cond (decide ((0:Int)≤r13.1.1)) (cond (decide (r13.1.1 < (↑x3.length:Int))) (some ((x3.set (Int.toNat r13.1.1) (r14.1.1,(x3.getD (Int.toNat r13.1.1) ZN).2),()),((r14.2.1.1,r14.2.1.2),()))) (none)) (none)) (cond (decide (r6.1.1=(3:Int))) (cond (decide ((1:Int)≤(↑x3.length:Int))) (some ((List.take ((↑x3.length:Int) - (1:Int)).toNat (List.drop ((0:Nat) + Int.toNat (1:Int)) x3),()),((r6.2.1.1,r6.2.1.2),()))) (none)) (cond (decide (r6.1.1=(4:Int))) ((q51 n ((r6.2.1.1,r6.2.1.2),(5:Int),())).bind fun r15=>(q51 n ((r15.2.1.1,r15.2.1.2),(4:Int),())).bind fun r16=>cond (decide ((0:Int)≤r16.1.1)) (cond (decide (r16.1.1 < (↑[(99:Int),(100:Int),(-1:Int),(0:Int)].length:Int))) (cond (decide ((0:Int)≤r15.1.1)) (cond (decide (r15.1.1 < (↑x3.length:Int))) (some ((x3.set (Int.toNat r15.1.1) ((x3.getD (Int.toNat r15.1.1) ZN).1,(x3.getD (Int.toNat r15.1.1) ZN).2.1,(x3.getD (Int.toNat r15.1.1) ZN).2.2.1,(x3.getD (Int.toNat r15.1.1) ZN).2.2.2.1,(x3.getD (Int.toNat r15.1.1) ZN).2.2.2.2.1,[(99:Int),(100:Int),(-1:Int),(0:Int)].getD (Int.toNat r16.1.1) (0:Int),(x3.getD (Int.toNat r15.1.1) ZN).2.2.2.2.2.2),()),((r16.2.1.1,r16.2.1.2),()))) (none)) (none)) (none)) (none)) (some ((x3,()),((r6.2.1.1,r6.2.1.2),()))))))))
noncomputable def p47_L3 (n:Nat):Nat→Int→(List Int)→Int→(List NT)→Option R47
 | 0,_,_,_,_=>none
 | m + 1,x0,x1,x2,x3=>st47_L3 n (p47_L3 n m) x0 x1 x2 x3
noncomputable def p47 (n:Nat) (a:List Int × Int):Option R47:=st47_top n (p47_L3 n n) a
noncomputable def q47 (n:Nat) (x:argsD ps47):Option R47:=p47 n x.1
end Go.Proofs.Ythhopbicmaipgaa.Rx.S

namespace Go.Proofs.Ythhopbicmaipgaa.Rx.S
open Go Go.RowKit Go.Proofs
set_option maxRecDepth 100000
abbrev ps46:List PK:=[.val (.row 5 (.int .u8)) false]
abbrev rs46:List RK:=[.bx tRd]
abbrev R46:=retsD rs46 × outsD ps46
noncomputable def st46_top (n:Nat) (a:List Int):Option R46 :=
 cond (decide ((2000:Int) < (↑a.length:Int))) (cond (decide ((2000:Int)≤(↑a.length:Int))) (some (((List.take (Int.toNat (2000:Int)) a,(0:Int)),()),())) (none)) (some (((a,(0:Int)),()),()))
noncomputable def p46 (n:Nat) (a:List Int):Option R46:=st46_top n a
noncomputable def q46 (n:Nat) (x:argsD ps46):Option R46:=p46 n x.1
end Go.Proofs.Ythhopbicmaipgaa.Rx.S

namespace Go.Proofs.Ythhopbicmaipgaa.Rx.S
open Go Go.RowKit Go.Proofs
set_option maxRecDepth 100000
abbrev ps49:List PK:=[.bx tRd]
abbrev rs49:List RK:=[.val i64 false]
abbrev R49:=retsD rs49 × outsD ps49
noncomputable def st49_top (n:Nat) (a:List Int × Int):Option R49 :=
 (q51 n ((a.1,a.2),(16:Int),())).bind fun r0=>cond (decide (r0.1.1=(0:Int))) ((q51 n ((r0.2.1.1,r0.2.1.2),(3:Int),())).bind fun r1=>cond (decide ((0:Int)≤r1.1.1)) (cond (decide (r1.1.1 < (↑[(-1:Int),(10:Int),(9:Int)].length:Int))) (some (([(-1:Int),(10:Int),(9:Int)].getD (Int.toNat r1.1.1) (0:Int),()),((r1.2.1.1,r1.2.1.2),()))) (none)) (none)) ((q51 n ((r0.2.1.1,r0.2.1.2),(5:Int),())).bind fun r2=>some ((r2.1.1,()),((r2.2.1.1,r2.2.1.2),())))
noncomputable def p49 (n:Nat) (a:List Int × Int):Option R49:=st49_top n a
noncomputable def q49 (n:Nat) (x:argsD ps49):Option R49:=p49 n x.1
end Go.Proofs.Ythhopbicmaipgaa.Rx.S

namespace Go.Proofs.Ythhopbicmaipgaa.Rx.S
open Go Go.Proofs.Ythhopbicmaipgaa.Rx Go.RowKit Go.Lib Go.Proofs
set_option linter.unusedVariables false
set_option linter.unusedSimpArgs false
theorem wp_copy_runR (w:World) {o:Oper} {a:Act} {K:Act→World→Prop} {Q:Exit→Act→World→Prop} (d s:Operand) (t t':TypeId)
  (ho:o.op = .call { callee:=.builtin .copy,args:=#[d,s],argTypes:=#[t,t'] }) (v u:Value) (hd:a.eval d=v) (hs:a.eval s=u) {v':Value} {w':World}
  (hr:(Builtin.copy_ #[t,t'] o.type #[v,u]).run Try.prog w = .ok v' w') (h:K (a.put o.dst v') w'):o.wp Try.prog a w K Q:=by
 unfold Oper.wp execOp
 simp only [ho,resolve,invoke,builtin,Sem.run_bind,Sem.run_pure,Result.andThen_ok,List.map_toArray,List.map_cons,List.map_nil,hd,hs,hr]
 exact h
theorem wpList_copy_runR (w:World) {ops:Array Oper} {rest:List Oper} {o:Oper} {a:Act} {Q:Exit→Act→World→Prop} (hgd:o.guard=none) (d s:Operand) (t t':TypeId)
  (ho:o.op = .call { callee:=.builtin .copy,args:=#[d,s],argTypes:=#[t,t'] }) (v u:Value) (hd:a.eval d=v) (hs:a.eval s=u) {v':Value} {w':World}
  (hr:(Builtin.copy_ #[t,t'] o.type #[v,u]).run Try.prog w = .ok v' w') (h:wpList Try.prog ops Q rest (a.put o.dst v') w'):wpList Try.prog ops Q (o :: rest) a w :=
 wpList_plain hgd fun _ hK=>wp_copy_runR w d s t t' ho v u hd hs hr (hK _ _ h)
theorem step_copy_runR {ops:Array Oper} {o:Oper} {a:Act} {w:World} {K:Act→World→Prop} {Q:Exit→Act→World→Prop} {E:Prop}
  (hg:o.guard=none) (d x:Operand) (dT sT:TypeId) (hop:o.op=Op.call { callee:=Callee.builtin Builtin.copy,args:=#[d,x],argTypes:=#[dT,sT] })
  (v u:Value) (hd:a.eval d=v) (hx:a.eval x=u) {v':Value} {w':World} (hr:(Builtin.copy_ #[dT,sT] o.type #[v,u]).run Try.prog w = .ok v' w') (hK:K (a.put o.dst v') w') :
  if Region.wanted o (yielded ops a.tmps)=true then Oper.wp Try.prog o a w K Q else E:=by
 have hw:Region.wanted o (yielded ops a.tmps)=true:=by simp [Region.wanted,hg]
 rw [if_pos hw]
 unfold Oper.wp
 simp [execOp,hop,resolve,invoke,builtin,hd,hx,hr,Result.andThen]
 exact hK
theorem i95:(Try.prog.info? 95).map (fun i=>(i.zero,i.size,i.bytes))=some (some (.agg #[.string ⟨#[]⟩,.int .i64 0]),2,24):=by kernel_rfl
set_option maxHeartbeats 4000000 in
set_option maxRecDepth 100000 in
theorem ins_shift (b off n c i vb voff m vc:Nat) (cs vs:List Value) (w:World) (hi:i < n) (hm:0 < m) (hroom:n + m≤c) (hc63:c≤9223372036854775807) (hvb:vb ≠ b)
  (hcl:cs.length=n * 2) (hvl:vs.length=m * 2)
  (hcs:∀ j v,cs[j]? = some v→w.cell? ⟨b,off + j,none⟩=some v) (hsp:∀ j,j < (n + m) * 2→(w.cell? ⟨b,off + j,none⟩).isSome=true) (hfz:∀ j,j < (n + m) * 2→w.frozen? ⟨b,off + j,none⟩=false)
  (hvs:∀ j v,vs[j]? = some v→w.cell? ⟨vb,voff + j,none⟩=some v) (h1c:∀ v ∈ cs,v.oneCell'=true) (h1v:∀ v ∈ vs,v.oneCell'=true)
  (tA tB:TypeId) (kA kB:Nat) (hsa:w.shape? vb=some (tA,kA)) (hsb:w.shape? b=some (tB,kB)) (hkB:kB ≠ 0) (hfa:w.frozen? ⟨vb,voff,none⟩=false) (hfe:w.frozen? ⟨vb,kA,none⟩=false) :
  Calls Try.prog 99 #[.slice (some ⟨b,off,none⟩) n c,.int .i64 i,.slice (some ⟨vb,voff,none⟩) m vc] w fun e w' =>
   e = .returned (.slice (some ⟨b,off,none⟩) (n + m) c)∧w'=(w.drew.setCells b (off + (i + m) * 2) (cs.drop (i * 2))).setCells b (off + i * 2) vs:=by
 have t37:Try.prog.underlying 37=some (.slice 95):=by kernel_rfl
 have mixed:Try.prog.follows .mixedOrders=true:=by kernel_rfl
 have hz1:¬ ((m:Int)=0):=by omega
 have hz2:¬ ((i:Int)=(n:Int)):=by omega
 have hsz:(Try.prog.info? 95).map (·.size)=some 2:=by kernel_rfl
 have z95:∀ w,(Go.sizeOf 95).run Try.prog w = .ok 2 w:=fun w=>by
  obtain ⟨i0,h0,h1⟩:=Option.map_eq_some_iff.1 hsz
  simp [Go.sizeOf,typeInfo,h0,h1]
 have hov:∀ lb cb,(callFunc 120 #[.slice (some ⟨vb,voff,none⟩) m vc,.slice (some ⟨b,off + (i + m) * 2,none⟩) lb cb]).run Try.prog w = .ok (.value (.bool false)) w:=fun lb cb=>by
  rw [run_callFunc_extern Try.func120 (by kernel_rfl) (by kernel_rfl) (by kernel_rfl) (e:=Extern.SlicesOverlaps.overlaps #[37,37] #[4]) (by kernel_rfl),
   Lib.run_overlaps_apart w 37 4 95 t37 2 z95 ⟨vb,voff,none⟩ ⟨b,off + (i + m) * 2,none⟩ m vc lb cb hvb tA tB kA kB hsa hsb hkB hfa hfe]
  rfl
 have hdl:(cs.drop (i * 2)).length=(n - i) * 2:=by rw [List.length_drop,hcl]; omega
 have hw1:IntKind.i64.wrap ((i:Int) + (m:Int))=(i:Int) + (m:Int):=by rw [IntKind.wrap_i64]; omega
 have hb1:(0:Int)≤(i:Int) + (m:Int):=by omega
 have hin:i≤n:=by omega
 have htn:((i:Int) + (m:Int)).toNat=i + m:=by omega
 have hb2:¬ (c=i + m):=by omega
 have hb3:(i:Int)≤(n:Int) + (m:Int):=by omega
 have hb4:¬ (c=i):=by omega
 have hcp1:∀ ty dc sc,(Builtin.copy_ #[37,37] ty #[.slice (some ⟨b,off + (i + m) * 2,none⟩) (n + m - (i + m)) dc,.slice (some ⟨b,off + i * 2,none⟩) (n + m - i) sc]).run Try.prog w.drew = .ok (goInt (Nat.min (n + m - i) (n + m - (i + m)))) (w.drew.setCells b (off + (i + m) * 2) (cs.drop (i * 2))):=fun ty dc sc =>
  run_copy_n w.drew _ _ ty 95 2 b (off + (i + m) * 2) (n + m - (i + m)) dc ⟨b,off + i * 2,none⟩ (n + m - i) sc (cs.drop (i * 2)) t37 hsz (by rw [hdl]; simp only [Nat.min_def]; split <;> omega)
   (fun j v hj=>by rw [Addr.add_lit,Nat.add_assoc]; exact hcs (i * 2 + j) v (by rwa [List.getElem?_drop] at hj))
   (fun j hj=>by rw [Nat.add_assoc]; exact hsp _ (by omega)) (fun j hj=>by rw [Nat.add_assoc]; exact hfz _ (by omega)) (fun v hv=>h1c v (List.mem_of_mem_drop hv))
 obtain ⟨W1,hW1⟩:∃ W1,W1=w.drew.setCells b (off + (i + m) * 2) (cs.drop (i * 2)):=⟨_,rfl⟩
 have hsp1:∀ k,k < (n + m) * 2→(W1.cell? ⟨b,off + k,none⟩).isSome=true:=fun k hk=>by
  rw [hW1]
  exact isSome_setCellsR b _ _ _ (fun j hj=>by rw [Nat.add_assoc]; exact hsp _ (by omega)) _ (hsp k hk)
 have hcp2:∀ (W:World),(∀ x,W.cell? x=W1.cell? x)→(∀ x,W.frozen? x=W1.frozen? x)→∀ ty dc,(Builtin.copy_ #[37,37] ty #[.slice (some ⟨b,off + i * 2,none⟩) (n + m - i) dc,.slice (some ⟨vb,voff,none⟩) m vc]).run Try.prog W = .ok (goInt (Nat.min m (n + m - i))) (W.setCells b (off + i * 2) vs):=fun W hWc hWf ty dc =>
  run_copy_n W _ _ ty 95 2 b (off + i * 2) (n + m - i) dc ⟨vb,voff,none⟩ m vc vs t37 hsz (by rw [hvl]; simp only [Nat.min_def]; split <;> omega)
   (fun j v hj=>by
    rw [Addr.add_lit,hWc,hW1,World.cell?_setCells_out b _ _ _ _ (fun h _=>absurd h hvb)]
    exact hvs j v hj)
   (fun j hj=>by rw [hWc,Nat.add_assoc]; exact hsp1 _ (by omega)) (fun j hj=>by rw [hWf,hW1,World.frozen?_setCells,Nat.add_assoc]; exact hfz _ (by omega)) h1v
 rw [← hW1] at hcp1
 rw [← hW1]
 clear hcl hvl hcs hsp hfz hvs hsp1 hdl hsa hsb hfa hfe
 go_enter Try.func99,Try.ntmps99
 go_wp2_with (simp only [hov])
 go_region_law (refine step_copy_runR rfl _ _ 37 37 rfl _ _ (by simp [Act.eval,Act.put]) (by simp [Act.eval,Act.put]) (hcp1 _ _ _) ?_)
 go_wp2_with (at_builtin; refine wpList_copy_runR _ rfl _ _ 37 37 rfl _ _ rfl rfl (hcp2 _ (fun _=>rfl) (fun _=>rfl) _ _) ?_)
 go_ret
 first | exact ⟨rfl,rfl⟩ | exact ⟨rfl,by rw [hW1]⟩
set_option maxHeartbeats 4000000 in
set_option maxRecDepth 100000 in
theorem ins_end (base:Option Addr) (n c m vc:Nat) (X:Option Addr) (w:World) (hm:0 < m) (hnc:n≤c) (hc63:c≤9223372036854775807) (hnil:base=none→n=0∧c=0) {v':Value} {w1:World}
  (hrun:∀ ty,(Builtin.append_ #[37,37] ty #[.slice base n c,.slice X m vc]).run Try.prog w = .ok v' w1) :
  Calls Try.prog 99 #[.slice base n c,.int .i64 n,.slice X m vc] w fun e w'=>e = .returned v'∧w'=w1:=by
 have t37:Try.prog.underlying 37=some (.slice 95):=by kernel_rfl
 have mixed:Try.prog.follows .mixedOrders=true:=by kernel_rfl
 have hz1:¬ ((m:Int)=0):=by omega
 go_enter Try.func99,Try.ntmps99
 cases base with
 | none =>
  obtain ⟨h0,h1⟩:=hnil rfl
  subst h0; subst h1
  go_wp2_with (at_builtin; refine Lib.wpList_append_run _ rfl _ _ _ _ rfl _ _ rfl rfl _ _ (hrun _) ?_)
  go_ret
  exact ⟨rfl,rfl⟩
 | some a =>
  obtain ⟨ab,ao,asp⟩:=a
  clear hnil
  go_wp2_with (at_builtin; refine Lib.wpList_append_run _ rfl _ _ _ _ rfl _ _ rfl rfl _ _ (hrun _) ?_)
  all_goals (go_ret; exact ⟨rfl,rfl⟩)
end Go.Proofs.Ythhopbicmaipgaa.Rx.S

namespace Go.Proofs.Ythhopbicmaipgaa.Rx.S
open Go Go.Proofs.Ythhopbicmaipgaa.Rx Go.RowKit Go.Lib Go.Proofs
set_option linter.unusedVariables false
set_option linter.unusedSimpArgs false
set_option maxHeartbeats 4000000 in
set_option maxRecDepth 100000 in
theorem ins_grow (b off n c i vb voff m vc:Nat) (cs vs:List Value) (w:World) (hi:i < n) (hm:0 < m) (hnc:n≤c) (hroom:c < n + m) (hbig:(n + m) * 24≤140737488355328)
  (hcl:cs.length=n * 2) (hvl:vs.length=m * 2)
  (hcs:∀ j v,cs[j]? = some v→w.cell? ⟨b,off + j,none⟩=some v)
  (hvs:∀ j v,vs[j]? = some v→w.cell? ⟨vb,voff + j,none⟩=some v) (h1c:∀ v ∈ cs,v.oneCell'=true) (h1v:∀ v ∈ vs,v.oneCell'=true) :
  Calls Try.prog 99 #[.slice (some ⟨b,off,none⟩) n c,.int .i64 i,.slice (some ⟨vb,voff,none⟩) m vc] w fun e w' =>
   e = .returned (.slice (some ⟨w.heap.size,0,none⟩) (n + m) (grownCap w (n + m) c 95)) ∧
   w'=(((w.alloc (.cells ((cs.take (i * 2)).toArray ++ Builtin.zeroCells (Value.agg #[.string ⟨#[]⟩,.int .i64 0]).cells (n + m - i) ++ Builtin.zeroCells (Value.agg #[.string ⟨#[]⟩,.int .i64 0]).cells (grownCap w (n + m) c 95 - (n + m))) 95)).drew.setCells w.heap.size (i * 2) vs).drew).setCells w.heap.size ((i + m) * 2) (cs.drop (i * 2)):=by
 have t37:Try.prog.underlying 37=some (.slice 95):=by kernel_rfl
 have t3:Try.prog.underlying 3=some (.int .i64):=by kernel_rfl
 have mixed:Try.prog.follows .mixedOrders=true:=by kernel_rfl
 obtain ⟨i0,hi0,hz0,hzs,hzb⟩:∃ i0,Try.prog.info? 95=some i0∧i0.zero=some (.agg #[.string ⟨#[]⟩,.int .i64 0])∧i0.size=2∧i0.bytes=24:=by
  obtain ⟨i0,h1,h2⟩:=Option.map_eq_some_iff.1 i95
  simp only [Prod.mk.injEq] at h2
  exact ⟨i0,h1,h2.1,h2.2.1,h2.2.2⟩
 have hz1:¬ ((m:Int)=0):=by omega
 have hz2:¬ ((i:Int)=(n:Int)):=by omega
 have hz3:(c:Int) < (n:Int) + (m:Int):=by omega
 have hsz:(Try.prog.info? 95).map (·.size)=some 2:=by kernel_rfl
 have hbw:b < w.heap.size:=block_lt_of_cell (hcs 0 _ (List.getElem?_eq_getElem (by omega)))
 have hvw:vb < w.heap.size:=block_lt_of_cell (hvs 0 _ (List.getElem?_eq_getElem (by omega)))
 have hkk:(n:Int) + (m:Int) - (i:Int)=((n + m - i:Nat):Int):=by omega
 have hik:i + (n + m - i)=n + m:=by omega
 have hold:(Builtin.firstCells i0.size i (.slice (some ⟨b,off,none⟩) i c)).run Try.prog w.drew = .ok (cs.take (i * 2)).toArray w.drew:=by
  rw [hzs]
  exact run_firstCells_some w.drew 2 i ⟨b,off,none⟩ i c (cs.take (i * 2)) (by rw [List.length_take]; omega) (fun j v hj=>by
   rw [Addr.add_lit]
   rw [List.getElem?_take] at hj
   split at hj
   ·exact hcs j v hj
   ·cases hj)
 have hrz:∀ ty,(Builtin.append_ #[37,3] ty #[.slice (some ⟨b,off,none⟩) i c,.int .i64 ((n:Int) + (m:Int) - (i:Int))]).run Try.prog w =
   .ok (.slice (some ⟨w.heap.size,0,none⟩) (n + m) (grownCap w (n + m) c 95)) (w.drew.alloc (.cells ((cs.take (i * 2)).toArray ++ Builtin.zeroCells (Value.agg #[.string ⟨#[]⟩,.int .i64 0]).cells (n + m - i) ++ Builtin.zeroCells (Value.agg #[.string ⟨#[]⟩,.int .i64 0]).cells (grownCap w (n + m) c 95 - (n + m))) 95)):=fun ty=>by
  have h:=Lib.run_append_grow_zeros w 37 3 ty 95 i0 _ .i64 .i64 t37 t3 hi0 hz0 (some ⟨b,off,none⟩) i c (cs.take (i * 2)) hold (n + m - i) (by omega) (by omega) (by omega) (by omega) (by rw [hzb]; omega) (by rw [hzb,hik]; exact growslice_fits hroom hbig)
  rw [hik] at h
  rw [hkk]
  exact h
 obtain ⟨G,hG⟩:∃ G,G=grownCap w (n + m) c 95:=⟨_,rfl⟩
 obtain ⟨ROW,hROW⟩:∃ ROW:Array Value,ROW=(cs.take (i * 2)).toArray ++ Builtin.zeroCells (Value.agg #[.string ⟨#[]⟩,.int .i64 0]).cells (n + m - i) ++ Builtin.zeroCells (Value.agg #[.string ⟨#[]⟩,.int .i64 0]).cells (G - (n + m)):=⟨_,rfl⟩
 rw [← hG] at hrz ⊢
 rw [← hROW] at hrz ⊢
 have hRl:(n + m) * 2≤ROW.size:=by
  rw [hROW]
  simp [Builtin.zeroCells,Value.cells]
  omega
 obtain ⟨W1,hW1⟩:∃ W1,W1=w.drew.alloc (.cells ROW 95):=⟨_,rfl⟩
 rw [← hW1] at hrz
 have hN:∀ j,j < (n + m) * 2→(W1.cell? ⟨w.heap.size,j,none⟩).isSome=true:=fun j hj=>by
  rw [hW1,World.cell?_alloc_at (w:=w.drew) ROW _ w.heap.size j rfl,Array.getElem?_eq_getElem (by omega)]; rfl
 have hNf:∀ j,W1.frozen? ⟨w.heap.size,j,none⟩=false:=fun j=>by rw [hW1]; exact World.frozen?_alloc_at (w:=w.drew) ROW _ w.heap.size j rfl
 have hOb:∀ j v,w.cell? ⟨b,j,none⟩=some v→W1.cell? ⟨b,j,none⟩=some v:=fun j v h=>by rw [hW1,World.cell?_alloc_past (w:=w.drew) _ b j hbw]; exact h
 have hOv:∀ j v,w.cell? ⟨vb,j,none⟩=some v→W1.cell? ⟨vb,j,none⟩=some v:=fun j v h=>by rw [hW1,World.cell?_alloc_past (w:=w.drew) _ vb j hvw]; exact h
 have hcpA:∀ (W:World),(∀ x,W.cell? x=W1.cell? x)→(∀ x,W.frozen? x=W1.frozen? x)→∀ ty dc,(Builtin.copy_ #[37,37] ty #[.slice (some ⟨w.heap.size,i * 2,none⟩) (n + m - i) dc,.slice (some ⟨vb,voff,none⟩) m vc]).run Try.prog W = .ok (goInt (Nat.min m (n + m - i))) (W.setCells w.heap.size (i * 2) vs):=fun W hWc hWf ty dc =>
  run_copy_n W _ _ ty 95 2 w.heap.size (i * 2) (n + m - i) dc ⟨vb,voff,none⟩ m vc vs t37 hsz (by rw [hvl]; simp only [Nat.min_def]; split <;> omega)
   (fun j v hj=>by rw [Addr.add_lit,hWc]; exact hOv _ v (hvs j v hj))
   (fun j hj=>by rw [hWc]; exact hN _ (by omega)) (fun j hj=>by rw [hWf]; exact hNf _) h1v
 have hGn:n + m≤G:=by rw [hG]; exact grownCap_ge w _ _ _
 have hG63:G≤9223372036854775807:=by
  have:=grownCap_le_maxLen w (n + m) c 95 (by unfold maxLen; omega)
  rw [← hG] at this
  unfold maxLen at this
  omega
 have hGi:¬ (G=i):=by omega
 have hGim:¬ (G=i + m):=by omega
 have hci:¬ (c=i):=by omega
 have hbN:b ≠ w.heap.size:=by omega
 have hdl:(cs.drop (i * 2)).length=(n - i) * 2:=by rw [List.length_drop,hcl]; omega
 have hcpB:∀ (W:World),(∀ x,W.cell? x=(W1.setCells w.heap.size (i * 2) vs).cell? x)→(∀ x,W.frozen? x=(W1.setCells w.heap.size (i * 2) vs).frozen? x)→∀ ty dc sc,(Builtin.copy_ #[37,37] ty #[.slice (some ⟨w.heap.size,(i + m) * 2,none⟩) (n + m - (i + m)) dc,.slice (some ⟨b,off + i * 2,none⟩) (n - i) sc]).run Try.prog W = .ok (goInt (Nat.min (n - i) (n + m - (i + m)))) (W.setCells w.heap.size ((i + m) * 2) (cs.drop (i * 2))):=fun W hWc hWf ty dc sc =>
  run_copy_n W _ _ ty 95 2 w.heap.size ((i + m) * 2) (n + m - (i + m)) dc ⟨b,off + i * 2,none⟩ (n - i) sc (cs.drop (i * 2)) t37 hsz (by rw [hdl]; simp only [Nat.min_def]; split <;> omega)
   (fun j v hj=>by
    rw [Addr.add_lit,hWc,World.cell?_setCells_out _ _ _ _ _ (fun h _=>absurd h hbN),Nat.add_assoc]
    exact hOb _ v (hcs (i * 2 + j) v (by rwa [List.getElem?_drop] at hj)))
   (fun j hj=>by rw [hWc]; exact isSome_setCellsR _ _ _ _ (fun t ht=>hN _ (by omega)) _ (hN _ (by omega)))
   (fun j hj=>by rw [hWf,World.frozen?_setCells]; exact hNf _) (fun v hv=>h1c v (List.mem_of_mem_drop hv))
 subst hW1
 have hE1:∀ x,((w.alloc (.cells ROW 95)).drew).cell? x=(w.drew.alloc (.cells ROW 95)).cell? x:=fun x=>rfl
 have hE2:∀ x,((w.alloc (.cells ROW 95)).drew).frozen? x=(w.drew.alloc (.cells ROW 95)).frozen? x:=fun x=>rfl
 have hF1:∀ x,(((w.alloc (.cells ROW 95)).drew.setCells w.heap.size (i * 2) vs).drew).cell? x=((w.drew.alloc (.cells ROW 95)).setCells w.heap.size (i * 2) vs).cell? x:=fun x=>rfl
 have hF2:∀ x,(((w.alloc (.cells ROW 95)).drew.setCells w.heap.size (i * 2) vs).drew).frozen? x=((w.drew.alloc (.cells ROW 95)).setCells w.heap.size (i * 2) vs).frozen? x:=fun x=>rfl
 have hw1:IntKind.i64.wrap ((i:Int) + (m:Int))=(i:Int) + (m:Int):=by rw [IntKind.wrap_i64]; omega
 have hb1:(0:Int)≤(i:Int) + (m:Int):=by omega
 have hin:i≤n:=by omega
 have htn:((i:Int) + (m:Int)).toNat=i + m:=by omega
 have hb3:(i:Int)≤(n:Int):=by omega
 clear hkk hik hold hROW hG hRl hN hNf hOb hOv hcs hvs hcl hvl hdl
 go_enter Try.func99,Try.ntmps99
 go_wp2_with (first
  | (at_builtin; refine Lib.wpList_append_run _ rfl _ _ _ _ rfl _ _ rfl rfl _ _ (hrz _) ?_)
  | (at_builtin; refine wpList_copy_runR _ rfl _ _ 37 37 rfl _ _ rfl rfl (hcpA _ hE1 hE2 _ _) ?_)
  | (at_builtin; refine wpList_copy_runR _ rfl _ _ 37 37 rfl _ _ rfl rfl (hcpB _ (fun _=>rfl) (fun _=>rfl) _ _ _) ?_))
 go_region_law (refine step_copy_runR rfl _ _ 37 37 rfl (.slice (some ⟨w.heap.size,(i + m) * 2,none⟩) (n + m - (i + m)) (G - (i + m))) (.slice (some ⟨b,off + i * 2,none⟩) (n - i) (c - i)) (by simp [Act.eval,Act.put]) (by simp [Act.eval,Act.put]) (hcpB _ hF1 hF2 3 (G - (i + m)) (c - i)) ?_)
 go_wp2
 go_ret
 exact ⟨rfl,rfl⟩
end Go.Proofs.Ythhopbicmaipgaa.Rx.S

namespace Go.Proofs.Ythhopbicmaipgaa.Rx.S
open Go Go.Proofs.Ythhopbicmaipgaa.Rx Go.RowKit Go.Proofs
noncomputable def c99:Code:=(Try.f99.body.getD .skip)
abbrev ps99:List PK:=[.own (.row 95 tEn) false,.val i64 false,.own (.row 95 tEn) false]
abbrev rs99:List RK:=[.own (.row 95 tEn) false]
abbrev R99:=retsD rs99 × outsD ps99
def p99 (n:Nat) (a:List (ByteArray × Int)) (b:Int) (c:List (ByteArray × Int)):Option R99 :=
 cond (decide (0≤b)) (cond (decide (b≤a.length)) (cond (decide (1≤c.length)) (cond (decide ((a.length + c.length) * 24≤140737488355328)) (some ((a.take b.toNat ++ c ++ a.drop b.toNat,()),())) none) none) none) none
noncomputable def q99 (n:Nat) (x:argsD ps99):Option R99:=p99 n x.1 x.2.1 x.2.2.1
noncomputable def Sm99:Sm:=⟨ps99,rs99,false,q99⟩
theorem hh99:Holds Try.prog 99 Sm99:=by
 have h:TT 95=some ⟨.struct [(0,1),(1,1)],2,24,[.str,.int .i64],some tEn,true⟩:=by rfl
 obtain ⟨hti⟩:=tt_ok.get h
 exact holds_ins (t:=37) (T:=tEn) rfl hti rfl (by kernel_rfl) (by decide) rfl ins_shift ins_end ins_grow
end Go.Proofs.Ythhopbicmaipgaa.Rx.S

namespace Go.Proofs.Ythhopbicmaipgaa.Rx.S
open Go Go.RowKit Go.Proofs
set_option maxRecDepth 100000
noncomputable def c61:Code:=(Try.f61.body.getD .skip)
def an61:An:=⟨fun _=>⟨[],[]⟩,fun _ _=>none⟩
abbrev ps61:List PK:=[.bo tFs,.val i64 false,.val .str false,.val i64 false]
abbrev rs61:List RK:=[]
abbrev R61:=retsD rs61 × outsD ps61
noncomputable def G61:Gam:=fun f=>match f with | 59=>some Sm59 | 99=>some Sm99 | _=>none
theorem h0_61 (hg:GamOK Try.prog G61):Holds Try.prog 61 ⟨ps61,rs61,false,runF TT G61 an61 Try.f61 c61 ps61 rs61⟩:=holds_of tt_ok hg mixed Try.func61 (by kernel_rfl) (by rfl) (by decide +kernel)
noncomputable def st61_top (n:Nat) (a:List NT) (b:Int) (c:ByteArray) (d:Int):Option R61 :=
 cond (decide ((0:Int)≤b)) (cond (decide (b < (↑a.length:Int))) ((q59 n (((a.getD b.toNat ZN).1,(a.getD b.toNat ZN).2.1,(a.getD b.toNat ZN).2.2.1,(a.getD b.toNat ZN).2.2.2.1,(a.getD b.toNat ZN).2.2.2.2.1,(a.getD b.toNat ZN).2.2.2.2.2.1,(a.getD b.toNat ZN).2.2.2.2.2.2.1,(a.getD b.toNat ZN).2.2.2.2.2.2.2.1,(a.getD b.toNat ZN).2.2.2.2.2.2.2.2),c,())).bind fun r0=>(q99 n ((a.getD b.toNat ZN).2.2.2.2.2.2.2.2,r0.1.1,[(c,d)],())).bind fun r1=>cond (decide ((↑b.toNat:Int)=(↑b.toNat:Int))) (cond (decide ((0:Int)≤d)) (cond (decide (d < (↑(a.set b.toNat ((a.getD b.toNat ZN).1,(a.getD b.toNat ZN).2.1,(a.getD b.toNat ZN).2.2.1,(a.getD b.toNat ZN).2.2.2.1,(a.getD b.toNat ZN).2.2.2.2.1,(a.getD b.toNat ZN).2.2.2.2.2.1,(a.getD b.toNat ZN).2.2.2.2.2.2.1,(a.getD b.toNat ZN).2.2.2.2.2.2.2.1,r1.1.1)).length:Int))) (cond (decide ((0:Int)≤d)) (cond (decide (d < (↑(a.set b.toNat ((a.getD b.toNat ZN).1,(a.getD b.toNat ZN).2.1,(a.getD b.toNat ZN).2.2.1,(a.getD b.toNat ZN).2.2.2.1,(a.getD b.toNat ZN).2.2.2.2.1,(a.getD b.toNat ZN).2.2.2.2.2.1,(a.getD b.toNat ZN).2.2.2.2.2.2.1,(a.getD b.toNat ZN).2.2.2.2.2.2.2.1,r1.1.1)).length:Int))) (some ((),((a.set b.toNat ((a.getD b.toNat ZN).1,(a.getD b.toNat ZN).2.1,(a.getD b.toNat ZN).2.2.1,(a.getD b.toNat ZN).2.2.2.1,(a.getD b.toNat ZN).2.2.2.2.1,(a.getD b.toNat ZN).2.2.2.2.2.1,(a.getD b.toNat ZN).2.2.2.2.2.2.1,(a.getD b.toNat ZN).2.2.2.2.2.2.2.1,r1.1.1)).set d.toNat (((a.set b.toNat ((a.getD b.toNat ZN).1,(a.getD b.toNat ZN).2.1,(a.getD b.toNat ZN).2.2.1,(a.getD b.toNat ZN).2.2.2.1,(a.getD b.toNat ZN).2.2.2.2.1,(a.getD b.toNat ZN).2.2.2.2.2.1,(a.getD b.toNat ZN).2.2.2.2.2.2.1,(a.getD b.toNat ZN).2.2.2.2.2.2.2.1,r1.1.1)).getD d.toNat ZN).1,((a.set b.toNat ((a.getD b.toNat ZN).1,(a.getD b.toNat ZN).2.1,(a.getD b.toNat ZN).2.2.1,(a.getD b.toNat ZN).2.2.2.1,(a.getD b.toNat ZN).2.2.2.2.1,(a.getD b.toNat ZN).2.2.2.2.2.1,(a.getD b.toNat ZN).2.2.2.2.2.2.1,(a.getD b.toNat ZN).2.2.2.2.2.2.2.1,r1.1.1)).getD d.toNat ZN).2.1,((a.set b.toNat ((a.getD b.toNat ZN).1,(a.getD b.toNat ZN).2.1,(a.getD b.toNat ZN).2.2.1,(a.getD b.toNat ZN).2.2.2.1,(a.getD b.toNat ZN).2.2.2.2.1,(a.getD b.toNat ZN).2.2.2.2.2.1,(a.getD b.toNat ZN).2.2.2.2.2.2.1,(a.getD b.toNat ZN).2.2.2.2.2.2.2.1,r1.1.1)).getD d.toNat ZN).2.2.1,((a.set b.toNat ((a.getD b.toNat ZN).1,(a.getD b.toNat ZN).2.1,(a.getD b.toNat ZN).2.2.1,(a.getD b.toNat ZN).2.2.2.1,(a.getD b.toNat ZN).2.2.2.2.1,(a.getD b.toNat ZN).2.2.2.2.2.1,(a.getD b.toNat ZN).2.2.2.2.2.2.1,(a.getD b.toNat ZN).2.2.2.2.2.2.2.1,r1.1.1)).getD d.toNat ZN).2.2.2.1,Go.IntKind.i64.wrap (((a.set b.toNat ((a.getD b.toNat ZN).1,(a.getD b.toNat ZN).2.1,(a.getD b.toNat ZN).2.2.1,(a.getD b.toNat ZN).2.2.2.1,(a.getD b.toNat ZN).2.2.2.2.1,(a.getD b.toNat ZN).2.2.2.2.2.1,(a.getD b.toNat ZN).2.2.2.2.2.2.1,(a.getD b.toNat ZN).2.2.2.2.2.2.2.1,r1.1.1)).getD d.toNat ZN).2.2.2.2.1 + (1:Int)),((a.set b.toNat ((a.getD b.toNat ZN).1,(a.getD b.toNat ZN).2.1,(a.getD b.toNat ZN).2.2.1,(a.getD b.toNat ZN).2.2.2.1,(a.getD b.toNat ZN).2.2.2.2.1,(a.getD b.toNat ZN).2.2.2.2.2.1,(a.getD b.toNat ZN).2.2.2.2.2.2.1,(a.getD b.toNat ZN).2.2.2.2.2.2.2.1,r1.1.1)).getD d.toNat ZN).2.2.2.2.2),()))) (none)) (none)) (none)) (none)) (none)) (none)) (none)
theorem e61_top (n:Nat) (a:List NT) (b:Int) (c:ByteArray) (d:Int):runF TT G61 an61 Try.f61 c61 ps61 rs61 n (a,b,c,d,())=st61_top n a b c d:=by kernel_rfl
noncomputable def p61 (n:Nat) (a:List NT) (b:Int) (c:ByteArray) (d:Int):Option R61:=st61_top n a b c d
theorem F61_eq (n:Nat) (a:List NT) (b:Int) (c:ByteArray) (d:Int):runF TT G61 an61 Try.f61 c61 ps61 rs61 n (a,b,c,d,())=p61 n a b c d:=by
 rw [e61_top]
 skip
 try rfl
noncomputable def q61 (n:Nat) (x:argsD ps61):Option R61:=p61 n x.1 x.2.1 x.2.2.1 x.2.2.2.1
noncomputable def Sm61:Sm:=⟨ps61,rs61,false,q61⟩
theorem holds61 (hg:GamOK Try.prog G61):Holds Try.prog 61 Sm61:=by
 have:=h0_61 hg
 have e:(runF TT G61 an61 Try.f61 c61 ps61 rs61)=q61:=by
  funext n x
  exact F61_eq n x.1 x.2.1 x.2.2.1 x.2.2.2.1
 rw [e] at this
 exact this
theorem gam61:GamOK Try.prog G61:=by
 intro f s h
 unfold G61 at h
 split at h
 ·injection h with h; subst h; exact ⟨⟨Try.f59,c59,Try.func59,by kernel_rfl,by decide +kernel⟩,hh59⟩
 ·injection h with h; subst h; exact ⟨⟨Try.f99,c99,Try.func99,by kernel_rfl,by decide +kernel⟩,hh99⟩
 ·cases h
theorem hh61:Holds Try.prog 61 Sm61:=holds61 gam61
end Go.Proofs.Ythhopbicmaipgaa.Rx.S

namespace Go.Proofs.Ythhopbicmaipgaa.Rx.S
open Go Go.Proofs.Ythhopbicmaipgaa.Rx Go.RowKit Go.Proofs
abbrev ps105:List PK:=[.own (.row 95 tEn) false,.val i64 false,.val i64 false]
abbrev rs105:List RK:=[.own (.row 95 tEn) false]
abbrev R105:=retsD rs105 × outsD ps105
def p105 (n:Nat) (a:List (ByteArray × Int)) (b:Int) (c:Int):Option R105 :=
 cond (decide (0≤b)) (cond (decide (b < a.length)) (cond (decide (c=b + 1)) (some ((a.take b.toNat ++ a.drop (b.toNat + 1),()),())) none) none) none
noncomputable def q105 (n:Nat) (x:argsD ps105):Option R105:=p105 n x.1 x.2.1 x.2.2.1
end Go.Proofs.Ythhopbicmaipgaa.Rx.S

namespace Go.Proofs.Ythhopbicmaipgaa.Rx.S
open Go Go.RowKit Go.Proofs
set_option maxRecDepth 100000
abbrev ps71:List PK:=[.bo tFs,.val i64 false,.val .str false]
abbrev rs71:List RK:=[.val i64 false]
abbrev R71:=retsD rs71 × outsD ps71
noncomputable def st71_top (n:Nat) (a:List NT) (b:Int) (c:ByteArray):Option R71 :=
 cond (decide ((0:Int)≤b)) (cond (decide (b < (↑a.length:Int))) ((q59 n (((a.getD b.toNat ZN).1,(a.getD b.toNat ZN).2.1,(a.getD b.toNat ZN).2.2.1,(a.getD b.toNat ZN).2.2.2.1,(a.getD b.toNat ZN).2.2.2.2.1,(a.getD b.toNat ZN).2.2.2.2.2.1,(a.getD b.toNat ZN).2.2.2.2.2.2.1,(a.getD b.toNat ZN).2.2.2.2.2.2.2.1,(a.getD b.toNat ZN).2.2.2.2.2.2.2.2),c,())).bind fun r0=>cond (decide ((0:Int)≤r0.1.1)) (cond (decide (r0.1.1 < (↑(List.length (a.getD b.toNat ZN).2.2.2.2.2.2.2.2):Int))) ((q105 n ((a.getD b.toNat ZN).2.2.2.2.2.2.2.2,r0.1.1,Go.IntKind.i64.wrap (r0.1.1 + (1:Int)),())).bind fun r1=>cond (decide ((↑b.toNat:Int)=(↑b.toNat:Int))) (cond (decide ((0:Int)≤(List.getD (a.getD b.toNat ZN).2.2.2.2.2.2.2.2 (Int.toNat r0.1.1) (ByteArray.empty,(0:Int))).2)) (cond (decide ((List.getD (a.getD b.toNat ZN).2.2.2.2.2.2.2.2 (Int.toNat r0.1.1) (ByteArray.empty,(0:Int))).2 < (↑(a.set b.toNat ((a.getD b.toNat ZN).1,(a.getD b.toNat ZN).2.1,(a.getD b.toNat ZN).2.2.1,(a.getD b.toNat ZN).2.2.2.1,(a.getD b.toNat ZN).2.2.2.2.1,(a.getD b.toNat ZN).2.2.2.2.2.1,(a.getD b.toNat ZN).2.2.2.2.2.2.1,(a.getD b.toNat ZN).2.2.2.2.2.2.2.1,r1.1.1)).length:Int))) (cond (decide ((0:Int)≤(List.getD (a.getD b.toNat ZN).2.2.2.2.2.2.2.2 (Int.toNat r0.1.1) (ByteArray.empty,(0:Int))).2)) (cond (decide ((List.getD (a.getD b.toNat ZN).2.2.2.2.2.2.2.2 (Int.toNat r0.1.1) (ByteArray.empty,(0:Int))).2 < (↑(a.set b.toNat ((a.getD b.toNat ZN).1,(a.getD b.toNat ZN).2.1,(a.getD b.toNat ZN).2.2.1,(a.getD b.toNat ZN).2.2.2.1,(a.getD b.toNat ZN).2.2.2.2.1,(a.getD b.toNat ZN).2.2.2.2.2.1,(a.getD b.toNat ZN).2.2.2.2.2.2.1,(a.getD b.toNat ZN).2.2.2.2.2.2.2.1,r1.1.1)).length:Int))) (some (((List.getD (a.getD b.toNat ZN).2.2.2.2.2.2.2.2 (Int.toNat r0.1.1) (ByteArray.empty,(0:Int))).2,()),((a.set b.toNat ((a.getD b.toNat ZN).1,(a.getD b.toNat ZN).2.1,(a.getD b.toNat ZN).2.2.1,(a.getD b.toNat ZN).2.2.2.1,(a.getD b.toNat ZN).2.2.2.2.1,(a.getD b.toNat ZN).2.2.2.2.2.1,(a.getD b.toNat ZN).2.2.2.2.2.2.1,(a.getD b.toNat ZN).2.2.2.2.2.2.2.1,r1.1.1)).set (Int.toNat (List.getD (a.getD b.toNat ZN).2.2.2.2.2.2.2.2 (Int.toNat r0.1.1) (ByteArray.empty,(0:Int))).2) (((a.set b.toNat ((a.getD b.toNat ZN).1,(a.getD b.toNat ZN).2.1,(a.getD b.toNat ZN).2.2.1,(a.getD b.toNat ZN).2.2.2.1,(a.getD b.toNat ZN).2.2.2.2.1,(a.getD b.toNat ZN).2.2.2.2.2.1,(a.getD b.toNat ZN).2.2.2.2.2.2.1,(a.getD b.toNat ZN).2.2.2.2.2.2.2.1,r1.1.1)).getD (Int.toNat (List.getD (a.getD b.toNat ZN).2.2.2.2.2.2.2.2 (Int.toNat r0.1.1) (ByteArray.empty,(0:Int))).2) ZN).1,((a.set b.toNat ((a.getD b.toNat ZN).1,(a.getD b.toNat ZN).2.1,(a.getD b.toNat ZN).2.2.1,(a.getD b.toNat ZN).2.2.2.1,(a.getD b.toNat ZN).2.2.2.2.1,(a.getD b.toNat ZN).2.2.2.2.2.1,(a.getD b.toNat ZN).2.2.2.2.2.2.1,(a.getD b.toNat ZN).2.2.2.2.2.2.2.1,r1.1.1)).getD (Int.toNat (List.getD (a.getD b.toNat ZN).2.2.2.2.2.2.2.2 (Int.toNat r0.1.1) (ByteArray.empty,(0:Int))).2) ZN).2.1,((a.set b.toNat ((a.getD b.toNat ZN).1,(a.getD b.toNat ZN).2.1,(a.getD b.toNat ZN).2.2.1,(a.getD b.toNat ZN).2.2.2.1,(a.getD b.toNat ZN).2.2.2.2.1,(a.getD b.toNat ZN).2.2.2.2.2.1,(a.getD b.toNat ZN).2.2.2.2.2.2.1,(a.getD b.toNat ZN).2.2.2.2.2.2.2.1,r1.1.1)).getD (Int.toNat (List.getD (a.getD b.toNat ZN).2.2.2.2.2.2.2.2 (Int.toNat r0.1.1) (ByteArray.empty,(0:Int))).2) ZN).2.2.1,((a.set b.toNat ((a.getD b.toNat ZN).1,(a.getD b.toNat ZN).2.1,(a.getD b.toNat ZN).2.2.1,(a.getD b.toNat ZN).2.2.2.1,(a.getD b.toNat ZN).2.2.2.2.1,(a.getD b.toNat ZN).2.2.2.2.2.1,(a.getD b.toNat ZN).2.2.2.2.2.2.1,(a.getD b.toNat ZN).2.2.2.2.2.2.2.1,r1.1.1)).getD (Int.toNat (List.getD (a.getD b.toNat ZN).2.2.2.2.2.2.2.2 (Int.toNat r0.1.1) (ByteArray.empty,(0:Int))).2) ZN).2.2.2.1,Go.IntKind.i64.wrap (((a.set b.toNat ((a.getD b.toNat ZN).1,(a.getD b.toNat ZN).2.1,(a.getD b.toNat ZN).2.2.1,(a.getD b.toNat ZN).2.2.2.1,(a.getD b.toNat ZN).2.2.2.2.1,(a.getD b.toNat ZN).2.2.2.2.2.1,(a.getD b.toNat ZN).2.2.2.2.2.2.1,(a.getD b.toNat ZN).2.2.2.2.2.2.2.1,r1.1.1)).getD (Int.toNat (List.getD (a.getD b.toNat ZN).2.2.2.2.2.2.2.2 (Int.toNat r0.1.1) (ByteArray.empty,(0:Int))).2) ZN).2.2.2.2.1 - (1:Int)),((a.set b.toNat ((a.getD b.toNat ZN).1,(a.getD b.toNat ZN).2.1,(a.getD b.toNat ZN).2.2.1,(a.getD b.toNat ZN).2.2.2.1,(a.getD b.toNat ZN).2.2.2.2.1,(a.getD b.toNat ZN).2.2.2.2.2.1,(a.getD b.toNat ZN).2.2.2.2.2.2.1,(a.getD b.toNat ZN).2.2.2.2.2.2.2.1,r1.1.1)).getD (Int.toNat (List.getD (a.getD b.toNat ZN).2.2.2.2.2.2.2.2 (Int.toNat r0.1.1) (ByteArray.empty,(0:Int))).2) ZN).2.2.2.2.2),()))) (none)) (none)) (none)) (none)) (none)) (none)) (none)) (none)) (none)
noncomputable def p71 (n:Nat) (a:List NT) (b:Int) (c:ByteArray):Option R71:=st71_top n a b c
noncomputable def q71 (n:Nat) (x:argsD ps71):Option R71:=p71 n x.1 x.2.1 x.2.2.1
end Go.Proofs.Ythhopbicmaipgaa.Rx.S

