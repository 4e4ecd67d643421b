/- What the functions of this seat compute, each as a plain function on lists and numbers, with the proof that a call answers so. No condition. -/
import Derived.WalkKit
import Derived.Lib.Walk
import Derived.Lib.Bytealg
import Derived.Laws.Externs
import Derived.Deep.LoopGhost
import Derived.Lib.AppendZerosOnto
import Derived.Laws.NewBlocks
import Derived.Test.YthhopbicmaipgaaGF0
set_option linter.unusedVariables false
set_option linter.unusedSimpArgs false
namespace Go.Proofs.Ythhopbicmaipgaa.Rx.S
open Go Go.RowKit Go.Proofs
set_option maxRecDepth 100000
noncomputable def c103:Code:=(Try.f103.body.getD .skip)
def an103:An:=⟨fun r=>match r with | 2=>⟨[1,2,5],[]⟩ | _=>⟨[],[]⟩,fun _ _=>none⟩
abbrev ps103:List PK:=[.val (tIn 95) true,.val .str false]
abbrev rs103:List RK:=[.val i64 false]
abbrev R103:=retsD rs103 × outsD ps103
noncomputable def G103:Gam:=fun _=>none
theorem h0_103 (hg:GamOK Try.prog G103):Holds Try.prog 103 ⟨ps103,rs103,false,runF TT G103 an103 Try.f103 c103 ps103 rs103⟩:=holds_of tt_ok hg mixed Try.func103 (by kernel_rfl) (by rfl) (by decide +kernel)
noncomputable def at103:Nat→Pt→List Nat→St→Option R103:=atF TT G103 an103 Try.f103 c103 _ _
def sh103_L2 (x0:ByteArray) (x1:Int) (x2:Int) (x3:Int) (x4:Int) (x5:Int) (x6:Int) (x7:Int) (x8:Bool) (x9:ByteArray) (x10:List (ByteArray × Int)):St:=(St.mk (AV.undef :: ((AV.one (SV.str x0)) :: ((AV.one (SV.bptr 1000000 0)) :: (AV.undef :: (AV.undef :: ((AV.one (SV.int (Go.IntKind.i64) x1)) :: (AV.undef :: (AV.undef :: (AV.undef :: (AV.undef :: (AV.undef :: (AV.undef :: (AV.undef :: (AV.undef :: (AV.undef :: (AV.undef :: (AV.undef :: (AV.undef :: (AV.undef :: (AV.undef :: (AV.undef :: (AV.undef :: [])))))))))))))))))))))) ((1000000,(Ent.box ((SV.int (Go.IntKind.i64) x2) :: ((SV.int (Go.IntKind.i64) x3) :: ((SV.int (Go.IntKind.i64) x4) :: ((SV.int (Go.IntKind.i64) x5) :: ((SV.int (Go.IntKind.i64) x6) :: ((SV.int (Go.IntKind.i64) x7) :: ((SV.bool x8) :: ((SV.str x9) :: ((SV.con (⟨95,Ty.str.pair (Ty.int Go.IntKind.i64),x10⟩:Rw)) :: []))))))))))) :: []))
noncomputable def st103_top (n:Nat) (lL2:ByteArray→Int→Int→Int→Int→Int→Int→Int→Bool→ByteArray→(List (ByteArray × Int))→Option R103) (a:NT) (b:ByteArray):Option R103 :=
 lL2 (b) ((0:Int)) (a.1) (a.2.1) (a.2.2.1) (a.2.2.2.1) (a.2.2.2.2.1) (a.2.2.2.2.2.1) (a.2.2.2.2.2.2.1) (a.2.2.2.2.2.2.2.1) (a.2.2.2.2.2.2.2.2)
noncomputable def st103_L2 (n:Nat) (lL2:ByteArray→Int→Int→Int→Int→Int→Int→Int→Bool→ByteArray→(List (ByteArray × Int))→Option R103) (x0:ByteArray) (x1:Int) (x2:Int) (x3:Int) (x4:Int) (x5:Int) (x6:Int) (x7:Int) (x8:Bool) (x9:ByteArray) (x10:List (ByteArray × Int)):Option R103 :=
 cond (decide (x1 < (↑x10.length:Int))) (cond (decide ((0:Int)≤x1)) (cond (decide (x1 < (↑x10.length:Int))) (cond (ByteArray.toList (x10.getD x1.toNat (ByteArray.empty,(0:Int))).1 == x0.toList) (some ((x1,()),())) (lL2 (x0) (Go.IntKind.i64.wrap (x1 + (1:Int))) (x2) (x3) (x4) (x5) (x6) (x7) (x8) (x9) (x10))) (none)) (none)) (some (((-1:Int),()),()))
theorem e103_top (n:Nat) (a:NT) (b:ByteArray):runF TT G103 an103 Try.f103 c103 ps103 rs103 n (a,b,())=st103_top n (fun x0 x1 x2 x3 x4 x5 x6 x7 x8 x9 x10=>at103 n (.head 2) [n] (sh103_L2 x0 x1 x2 x3 x4 x5 x6 x7 x8 x9 x10)) a b:=by kernel_rfl
theorem e103_L2_0 (n:Nat) (x0:ByteArray) (x1:Int) (x2:Int) (x3:Int) (x4:Int) (x5:Int) (x6:Int) (x7:Int) (x8:Bool) (x9:ByteArray) (x10:List (ByteArray × Int)):at103 n (.head 2) [0] (sh103_L2 x0 x1 x2 x3 x4 x5 x6 x7 x8 x9 x10)=none:=by kernel_rfl
theorem e103_L2 (n:Nat) (m2:Nat) (x0:ByteArray) (x1:Int) (x2:Int) (x3:Int) (x4:Int) (x5:Int) (x6:Int) (x7:Int) (x8:Bool) (x9:ByteArray) (x10:List (ByteArray × Int)):at103 n (.head 2) [m2 + 1] (sh103_L2 x0 x1 x2 x3 x4 x5 x6 x7 x8 x9 x10)=st103_L2 n (fun x0 x1 x2 x3 x4 x5 x6 x7 x8 x9 x10=>at103 n (.head 2) [m2] (sh103_L2 x0 x1 x2 x3 x4 x5 x6 x7 x8 x9 x10)) x0 x1 x2 x3 x4 x5 x6 x7 x8 x9 x10:=by kernel_rfl
noncomputable def p103_L2 (n:Nat):Nat→ByteArray→Int→Int→Int→Int→Int→Int→Int→Bool→ByteArray→(List (ByteArray × Int))→Option R103
 | 0,_,_,_,_,_,_,_,_,_,_,_=>none
 | m + 1,x0,x1,x2,x3,x4,x5,x6,x7,x8,x9,x10=>st103_L2 n (p103_L2 n m) x0 x1 x2 x3 x4 x5 x6 x7 x8 x9 x10
noncomputable def p103 (n:Nat) (a:NT) (b:ByteArray):Option R103:=st103_top n (p103_L2 n n) a b
theorem t103_L2 (n:Nat):∀ (m2:Nat) (x0:ByteArray) (x1:Int) (x2:Int) (x3:Int) (x4:Int) (x5:Int) (x6:Int) (x7:Int) (x8:Bool) (x9:ByteArray) (x10:List (ByteArray × Int)),at103 n (.head 2) [m2] (sh103_L2 x0 x1 x2 x3 x4 x5 x6 x7 x8 x9 x10)=p103_L2 n m2 x0 x1 x2 x3 x4 x5 x6 x7 x8 x9 x10:=by
 intro m
 induction m with
 | zero=>intros; rw [e103_L2_0]; rfl
 | succ m ih =>
  intros
  rw [e103_L2]
  try simp only [ih]
  rfl
theorem F103_eq (n:Nat) (a:NT) (b:ByteArray):runF TT G103 an103 Try.f103 c103 ps103 rs103 n (a,b,())=p103 n a b:=by
 rw [e103_top]
 simp only [t103_L2]
 try rfl
noncomputable def q103 (n:Nat) (x:argsD ps103):Option R103:=p103 n x.1 x.2.1
noncomputable def Sm103:Sm:=⟨ps103,rs103,false,q103⟩
theorem holds103 (hg:GamOK Try.prog G103):Holds Try.prog 103 Sm103:=by
 have:=h0_103 hg
 have e:(runF TT G103 an103 Try.f103 c103 ps103 rs103)=q103:=by
  funext n x
  exact F103_eq n x.1 x.2.1
 rw [e] at this
 exact this
theorem gam103:GamOK Try.prog G103:=fun _ _ h=>by cases h
theorem hh103:Holds Try.prog 103 Sm103:=holds103 gam103
end Go.Proofs.Ythhopbicmaipgaa.Rx.S

namespace Go.Proofs.Ythhopbicmaipgaa.Rx.S
open Go Go.RowKit Go.Proofs
set_option maxRecDepth 100000
noncomputable def c104:Code:=(Try.f104.body.getD .skip)
def an104:An:=⟨fun r=>match r with | 4=>⟨[1,3,5,6,7,8,9],[]⟩ | _=>⟨[],[]⟩,fun _ _=>none⟩
abbrev ps104:List PK:=[.own tFs true,.val i64 false,.val tEn true]
abbrev rs104:List RK:=[.own tFs true]
abbrev R104:=retsD rs104 × outsD ps104
noncomputable def G104:Gam:=fun _=>none
theorem h0_104 (hg:GamOK Try.prog G104):Holds Try.prog 104 ⟨ps104,rs104,false,runF TT G104 an104 Try.f104 c104 ps104 rs104⟩:=holds_of tt_ok hg mixed Try.func104 (by kernel_rfl) (by rfl) (by decide +kernel)
noncomputable def at104:Nat→Pt→List Nat→St→Option R104:=atF TT G104 an104 Try.f104 c104 _ _
def sh104_L4 (x0:Int) (x1:Bool) (x2:Int) (x3:ByteArray) (x4:Int) (x5:List (ByteArray × Int)) (x6:List NT):St:=(St.mk (AV.undef :: ((AV.one (SV.int (Go.IntKind.i64) x0)) :: (AV.undef :: ((AV.one (SV.bptr 1000000 0)) :: (AV.undef :: ((AV.one (SV.bptr 1000001 0)) :: ((AV.one (SV.bptr 1000002 0)) :: ((AV.one (SV.ref 1000003 0 [] Option.none)) :: ((AV.one (SV.bool x1)) :: ((AV.one (SV.int (Go.IntKind.i64) x2)) :: (AV.undef :: (AV.undef :: (AV.undef :: (AV.undef :: (AV.undef :: (AV.undef :: (AV.undef :: (AV.undef :: (AV.undef :: (AV.undef :: (AV.undef :: (AV.undef :: (AV.undef :: (AV.undef :: (AV.undef :: (AV.undef :: (AV.undef :: (AV.undef :: (AV.undef :: (AV.undef :: (AV.undef :: (AV.undef :: (AV.undef :: (AV.undef :: (AV.undef :: (AV.undef :: (AV.undef :: (AV.undef :: (AV.undef :: (AV.undef :: (AV.undef :: (AV.undef :: (AV.undef :: (AV.undef :: (AV.undef :: (AV.undef :: (AV.undef :: (AV.undef :: (AV.undef :: (AV.undef :: (AV.undef :: (AV.undef :: (AV.undef :: (AV.undef :: (AV.undef :: (AV.undef :: (AV.undef :: (AV.undef :: (AV.undef :: (AV.undef :: (AV.undef :: (AV.undef :: [])))))))))))))))))))))))))))))))))))))))))))))))))))))))))))))) ((1000000,(Ent.box ((SV.ref 1000004 0 [] Option.none) :: []))) :: ((1000001,(Ent.box ((SV.str x3) :: ((SV.int (Go.IntKind.i64) x4) :: [])))) :: ((1000002,(Ent.box (SV.nil :: []))) :: ((1000003,(Ent.row (⟨95,Ty.str.pair (Ty.int Go.IntKind.i64),x5⟩:Rw) 0 Option.none)) :: ((1000004,(Ent.row (⟨39,(Ty.int Go.IntKind.i64).pair ((Ty.int Go.IntKind.i64).pair ((Ty.int Go.IntKind.i64).pair ((Ty.int Go.IntKind.i64).pair ((Ty.int Go.IntKind.i64).pair ((Ty.int Go.IntKind.i64).pair (Ty.bool.pair (Ty.str.pair (Ty.row (nat_lit 95) (Ty.str.pair (Ty.int Go.IntKind.i64)))))))))),x6⟩:Rw) 0 Option.none)) :: []))))))
noncomputable def st104_top (n:Nat) (lL4:Int→Bool→Int→ByteArray→Int→(List (ByteArray × Int))→(List NT)→Option R104) (a:List NT) (b:Int) (c:ByteArray × Int):Option R104 :=
 lL4 (b) (false) ((0:Int)) (c.1) (c.2) ([]) (a)
noncomputable def st104_L4 (n:Nat) (lL4:Int→Bool→Int→ByteArray→Int→(List (ByteArray × Int))→(List NT)→Option R104) (x0:Int) (x1:Bool) (x2:Int) (x3:ByteArray) (x4:Int) (x5:List (ByteArray × Int)) (x6:List NT):Option R104 :=
 cond (decide ((0:Int)≤x0)) (cond (decide (x0 < (↑x6.length:Int))) (cond (decide (x2 < (↑(List.length (x6.getD x0.toNat ZN).2.2.2.2.2.2.2.2):Int))) (cond (decide ((0:Int)≤x0)) (cond (decide (x0 < (↑x6.length:Int))) (cond (decide ((0:Int)≤x2)) (cond (decide (x2 < (↑(List.length (x6.getD x0.toNat ZN).2.2.2.2.2.2.2.2):Int))) (cond (!x1) (cond (!(Go.Op.bytesLess (ByteArray.toList (List.getD (x6.getD x0.toNat ZN).2.2.2.2.2.2.2.2 x2.toNat (ByteArray.empty,(0:Int))).1) x3.toList || ByteArray.toList (List.getD (x6.getD x0.toNat ZN).2.2.2.2.2.2.2.2 x2.toNat (ByteArray.empty,(0:Int))).1 == x3.toList)) (cond (decide ((x5.length + [(x3,x4)].length) * (24:Nat)≤(140737488355328:Nat))) (cond (decide (((x5 ++ [(x3,x4)]).length + [((List.getD (x6.getD x0.toNat ZN).2.2.2.2.2.2.2.2 x2.toNat (ByteArray.empty,(0:Int))).1,(List.getD (x6.getD x0.toNat ZN).2.2.2.2.2.2.2.2 x2.toNat (ByteArray.empty,(0:Int))).2)].length) * (24:Nat)≤(140737488355328:Nat))) (lL4 (x0) (true) (Go.IntKind.i64.wrap (x2 + (1:Int))) (x3) (x4) (x5 ++ [(x3,x4)] ++ [((List.getD (x6.getD x0.toNat ZN).2.2.2.2.2.2.2.2 x2.toNat (ByteArray.empty,(0:Int))).1,(List.getD (x6.getD x0.toNat ZN).2.2.2.2.2.2.2.2 x2.toNat (ByteArray.empty,(0:Int))).2)]) (x6)) (none)) (none)) (cond (decide ((x5.length + [((List.getD (x6.getD x0.toNat ZN).2.2.2.2.2.2.2.2 x2.toNat (ByteArray.empty,(0:Int))).1,(List.getD (x6.getD x0.toNat ZN).2.2.2.2.2.2.2.2 x2.toNat (ByteArray.empty,(0:Int))).2)].length) * (24:Nat)≤(140737488355328:Nat))) (lL4 (x0) (x1) (Go.IntKind.i64.wrap (x2 + (1:Int))) (x3) (x4) (x5 ++ [((List.getD (x6.getD x0.toNat ZN).2.2.2.2.2.2.2.2 x2.toNat (ByteArray.empty,(0:Int))).1,(List.getD (x6.getD x0.toNat ZN).2.2.2.2.2.2.2.2 x2.toNat (ByteArray.empty,(0:Int))).2)]) (x6)) (none))) (cond (decide ((x5.length + [((List.getD (x6.getD x0.toNat ZN).2.2.2.2.2.2.2.2 x2.toNat (ByteArray.empty,(0:Int))).1,(List.getD (x6.getD x0.toNat ZN).2.2.2.2.2.2.2.2 x2.toNat (ByteArray.empty,(0:Int))).2)].length) * (24:Nat)≤(140737488355328:Nat))) (lL4 (x0) (x1) (Go.IntKind.i64.wrap (x2 + (1:Int))) (x3) (x4) (x5 ++ [((List.getD (x6.getD x0.toNat ZN).2.2.2.2.2.2.2.2 x2.toNat (ByteArray.empty,(0:Int))).1,(List.getD (x6.getD x0.toNat ZN).2.2.2.2.2.2.2.2 x2.toNat (ByteArray.empty,(0:Int))).2)]) (x6)) (none))) (none)) (none)) (none)) (none)) (cond (!x1) (cond (decide ((x5.length + [(x3,x4)].length) * (24:Nat)≤(140737488355328:Nat))) (cond (decide ((0:Int)≤x0)) (cond (decide (x0 < (↑x6.length:Int))) (some ((x6.set x0.toNat ((x6.getD x0.toNat ZN).1,(x6.getD x0.toNat ZN).2.1,(x6.getD x0.toNat ZN).2.2.1,(x6.getD x0.toNat ZN).2.2.2.1,(x6.getD x0.toNat ZN).2.2.2.2.1,(x6.getD x0.toNat ZN).2.2.2.2.2.1,(x6.getD x0.toNat ZN).2.2.2.2.2.2.1,(x6.getD x0.toNat ZN).2.2.2.2.2.2.2.1,x5 ++ [(x3,x4)]),()),())) (none)) (none)) (none)) (cond (decide ((0:Int)≤x0)) (cond (decide (x0 < (↑x6.length:Int))) (some ((x6.set x0.toNat ((x6.getD x0.toNat ZN).1,(x6.getD x0.toNat ZN).2.1,(x6.getD x0.toNat ZN).2.2.1,(x6.getD x0.toNat ZN).2.2.2.1,(x6.getD x0.toNat ZN).2.2.2.2.1,(x6.getD x0.toNat ZN).2.2.2.2.2.1,(x6.getD x0.toNat ZN).2.2.2.2.2.2.1,(x6.getD x0.toNat ZN).2.2.2.2.2.2.2.1,x5),()),())) (none)) (none)))) (none)) (none)
theorem e104_top (n:Nat) (a:List NT) (b:Int) (c:ByteArray × Int):runF TT G104 an104 Try.f104 c104 ps104 rs104 n (a,b,c,())=st104_top n (fun x0 x1 x2 x3 x4 x5 x6=>at104 n (.head 4) [n] (sh104_L4 x0 x1 x2 x3 x4 x5 x6)) a b c:=by kernel_rfl
theorem e104_L4_0 (n:Nat) (x0:Int) (x1:Bool) (x2:Int) (x3:ByteArray) (x4:Int) (x5:List (ByteArray × Int)) (x6:List NT):at104 n (.head 4) [0] (sh104_L4 x0 x1 x2 x3 x4 x5 x6)=none:=by kernel_rfl
theorem e104_L4 (n:Nat) (m4:Nat) (x0:Int) (x1:Bool) (x2:Int) (x3:ByteArray) (x4:Int) (x5:List (ByteArray × Int)) (x6:List NT):at104 n (.head 4) [m4 + 1] (sh104_L4 x0 x1 x2 x3 x4 x5 x6)=st104_L4 n (fun x0 x1 x2 x3 x4 x5 x6=>at104 n (.head 4) [m4] (sh104_L4 x0 x1 x2 x3 x4 x5 x6)) x0 x1 x2 x3 x4 x5 x6:=by kernel_rfl
noncomputable def p104_L4 (n:Nat):Nat→Int→Bool→Int→ByteArray→Int→(List (ByteArray × Int))→(List NT)→Option R104
 | 0,_,_,_,_,_,_,_=>none
 | m + 1,x0,x1,x2,x3,x4,x5,x6=>st104_L4 n (p104_L4 n m) x0 x1 x2 x3 x4 x5 x6
noncomputable def p104 (n:Nat) (a:List NT) (b:Int) (c:ByteArray × Int):Option R104:=st104_top n (p104_L4 n n) a b c
theorem t104_L4 (n:Nat):∀ (m4:Nat) (x0:Int) (x1:Bool) (x2:Int) (x3:ByteArray) (x4:Int) (x5:List (ByteArray × Int)) (x6:List NT),at104 n (.head 4) [m4] (sh104_L4 x0 x1 x2 x3 x4 x5 x6)=p104_L4 n m4 x0 x1 x2 x3 x4 x5 x6:=by
 intro m
 induction m with
 | zero=>intros; rw [e104_L4_0]; rfl
 | succ m ih =>
  intros
  rw [e104_L4]
  try simp only [ih]
  rfl
theorem F104_eq (n:Nat) (a:List NT) (b:Int) (c:ByteArray × Int):runF TT G104 an104 Try.f104 c104 ps104 rs104 n (a,b,c,())=p104 n a b c:=by
 rw [e104_top]
 simp only [t104_L4]
 try rfl
noncomputable def q104 (n:Nat) (x:argsD ps104):Option R104:=p104 n x.1 x.2.1 x.2.2.1
noncomputable def Sm104:Sm:=⟨ps104,rs104,false,q104⟩
theorem holds104 (hg:GamOK Try.prog G104):Holds Try.prog 104 Sm104:=by
 have:=h0_104 hg
 have e:(runF TT G104 an104 Try.f104 c104 ps104 rs104)=q104:=by
  funext n x
  exact F104_eq n x.1 x.2.1 x.2.2.1
 rw [e] at this
 exact this
theorem gam104:GamOK Try.prog G104:=fun _ _ h=>by cases h
theorem hh104:Holds Try.prog 104 Sm104:=holds104 gam104
end Go.Proofs.Ythhopbicmaipgaa.Rx.S

namespace Go.Proofs.Ythhopbicmaipgaa.Rx.S
open Go Go.RowKit Go.Proofs
set_option maxRecDepth 100000
noncomputable def c137:Code:=(Try.f137.body.getD .skip)
def an137:An:=⟨fun r=>match r with | 2=>⟨[0,1,5],[]⟩ | _=>⟨[],[]⟩,fun _ _=>none⟩
abbrev ps137:List PK:=[.val (.row 3 i64) false,.val i64 false]
abbrev rs137:List RK:=[.val .bool false]
abbrev R137:=retsD rs137 × outsD ps137
noncomputable def G137:Gam:=fun _=>none
theorem h0_137 (hg:GamOK Try.prog G137):Holds Try.prog 137 ⟨ps137,rs137,false,runF TT G137 an137 Try.f137 c137 ps137 rs137⟩:=holds_of tt_ok hg mixed Try.func137 (by kernel_rfl) (by rfl) (by decide +kernel)
noncomputable def at137:Nat→Pt→List Nat→St→Option R137:=atF TT G137 an137 Try.f137 c137 _ _
def sh137_L2 (x0:List Int) (x1:Int) (x2:Int):St:=(St.mk ((AV.one (SV.con (⟨3,Ty.int Go.IntKind.i64,x0⟩:Rw))) :: ((AV.one (SV.int (Go.IntKind.i64) x1)) :: (AV.undef :: (AV.undef :: (AV.undef :: ((AV.one (SV.int (Go.IntKind.i64) x2)) :: (AV.undef :: (AV.undef :: (AV.undef :: (AV.undef :: (AV.undef :: (AV.undef :: (AV.undef :: (AV.undef :: (AV.undef :: (AV.undef :: (AV.undef :: (AV.undef :: [])))))))))))))))))) [])
noncomputable def st137_top (n:Nat) (lL2:(List Int)→Int→Int→Option R137) (a:List Int) (b:Int):Option R137 :=
 lL2 (a) (b) ((0:Int))
noncomputable def st137_L2 (n:Nat) (lL2:(List Int)→Int→Int→Option R137) (x0:List Int) (x1:Int) (x2:Int):Option R137 :=
 cond (decide (x2 < (↑x0.length:Int))) (cond (decide ((0:Int)≤x2)) (cond (decide (x2 < (↑x0.length:Int))) (cond (decide (x0.getD x2.toNat (0:Int)=x1)) (some ((true,()),())) (lL2 (x0) (x1) (Go.IntKind.i64.wrap (x2 + (1:Int))))) (none)) (none)) (some ((false,()),()))
theorem e137_top (n:Nat) (a:List Int) (b:Int):runF TT G137 an137 Try.f137 c137 ps137 rs137 n (a,b,())=st137_top n (fun x0 x1 x2=>at137 n (.head 2) [n] (sh137_L2 x0 x1 x2)) a b:=by kernel_rfl
theorem e137_L2_0 (n:Nat) (x0:List Int) (x1:Int) (x2:Int):at137 n (.head 2) [0] (sh137_L2 x0 x1 x2)=none:=by kernel_rfl
theorem e137_L2 (n:Nat) (m2:Nat) (x0:List Int) (x1:Int) (x2:Int):at137 n (.head 2) [m2 + 1] (sh137_L2 x0 x1 x2)=st137_L2 n (fun x0 x1 x2=>at137 n (.head 2) [m2] (sh137_L2 x0 x1 x2)) x0 x1 x2:=by kernel_rfl
noncomputable def p137_L2 (n:Nat):Nat→(List Int)→Int→Int→Option R137
 | 0,_,_,_=>none
 | m + 1,x0,x1,x2=>st137_L2 n (p137_L2 n m) x0 x1 x2
noncomputable def p137 (n:Nat) (a:List Int) (b:Int):Option R137:=st137_top n (p137_L2 n n) a b
theorem t137_L2 (n:Nat):∀ (m2:Nat) (x0:List Int) (x1:Int) (x2:Int),at137 n (.head 2) [m2] (sh137_L2 x0 x1 x2)=p137_L2 n m2 x0 x1 x2:=by
 intro m
 induction m with
 | zero=>intros; rw [e137_L2_0]; rfl
 | succ m ih =>
  intros
  rw [e137_L2]
  try simp only [ih]
  rfl
theorem F137_eq (n:Nat) (a:List Int) (b:Int):runF TT G137 an137 Try.f137 c137 ps137 rs137 n (a,b,())=p137 n a b:=by
 rw [e137_top]
 simp only [t137_L2]
 try rfl
noncomputable def q137 (n:Nat) (x:argsD ps137):Option R137:=p137 n x.1 x.2.1
noncomputable def Sm137:Sm:=⟨ps137,rs137,false,q137⟩
theorem holds137 (hg:GamOK Try.prog G137):Holds Try.prog 137 Sm137:=by
 have:=h0_137 hg
 have e:(runF TT G137 an137 Try.f137 c137 ps137 rs137)=q137:=by
  funext n x
  exact F137_eq n x.1 x.2.1
 rw [e] at this
 exact this
theorem gam137:GamOK Try.prog G137:=fun _ _ h=>by cases h
theorem hh137:Holds Try.prog 137 Sm137:=holds137 gam137
end Go.Proofs.Ythhopbicmaipgaa.Rx.S

namespace Go.Proofs.Ythhopbicmaipgaa.Rx.S
open Go Go.RowKit Go.Proofs
set_option maxRecDepth 100000
noncomputable def c132:Code:=(Try.f132.body.getD .skip)
def an132:An:=⟨fun _=>⟨[],[]⟩,fun _ _=>none⟩
abbrev ps132:List PK:=[.val tCr true,.val i64 false,.val i64 false,.val i64 false,.val i64 false]
abbrev rs132:List RK:=[.val .bool false]
abbrev R132:=retsD rs132 × outsD ps132
noncomputable def G132:Gam:=fun f=>match f with | 137=>some Sm137 | _=>none
theorem h0_132 (hg:GamOK Try.prog G132):Holds Try.prog 132 ⟨ps132,rs132,false,runF TT G132 an132 Try.f132 c132 ps132 rs132⟩:=holds_of tt_ok hg mixed Try.func132 (by kernel_rfl) (by rfl) (by decide +kernel)
noncomputable def st132_top (n:Nat) (a:Int × Int × List Int) (b:Int) (c:Int) (d:Int) (e:Int):Option R132 :=
 cond (decide (a.1=(0:Int))) (cond (decide ((0:Int) < Go.IntKind.i64.wrap (Go.IntKind.i64.wrap (d.tmod (2:Int) + (Go.IntKind.i64.wrap (d.tdiv (8:Int))).tmod (2:Int)) + (Go.IntKind.i64.wrap (d.tdiv (64:Int))).tmod (2:Int)))) (some ((decide (Go.IntKind.i64.wrap (↑(BitVec.ofInt Go.IntKind.i64.bits (7:Int) &&& BitVec.ofInt Go.IntKind.i64.bits e).toNat:Int)=e),()),())) (some ((decide (Go.IntKind.i64.wrap (↑(BitVec.ofInt Go.IntKind.i64.bits (6:Int) &&& BitVec.ofInt Go.IntKind.i64.bits e).toNat:Int)=e),()),()))) (cond (decide (a.1=b)) (some ((decide (Go.IntKind.i64.wrap (↑(BitVec.ofInt Go.IntKind.i64.bits (Go.IntKind.i64.wrap (d.tdiv (64:Int))) &&& BitVec.ofInt Go.IntKind.i64.bits e).toNat:Int)=e),()),())) ((q137 n (a.2.2,c,())).bind fun r0=>cond (r0.1.1) (some ((decide (Go.IntKind.i64.wrap (↑(BitVec.ofInt Go.IntKind.i64.bits ((Go.IntKind.i64.wrap (d.tdiv (8:Int))).tmod (8:Int)) &&& BitVec.ofInt Go.IntKind.i64.bits e).toNat:Int)=e),()),())) (some ((decide (Go.IntKind.i64.wrap (↑(BitVec.ofInt Go.IntKind.i64.bits (d.tmod (8:Int)) &&& BitVec.ofInt Go.IntKind.i64.bits e).toNat:Int)=e),()),()))))
theorem e132_top (n:Nat) (a:Int × Int × List Int) (b:Int) (c:Int) (d:Int) (e:Int):runF TT G132 an132 Try.f132 c132 ps132 rs132 n (a,b,c,d,e,())=st132_top n a b c d e:=by kernel_rfl
noncomputable def p132 (n:Nat) (a:Int × Int × List Int) (b:Int) (c:Int) (d:Int) (e:Int):Option R132:=st132_top n a b c d e
theorem F132_eq (n:Nat) (a:Int × Int × List Int) (b:Int) (c:Int) (d:Int) (e:Int):runF TT G132 an132 Try.f132 c132 ps132 rs132 n (a,b,c,d,e,())=p132 n a b c d e:=by
 rw [e132_top]
 skip
 try rfl
noncomputable def q132 (n:Nat) (x:argsD ps132):Option R132:=p132 n x.1 x.2.1 x.2.2.1 x.2.2.2.1 x.2.2.2.2.1
noncomputable def Sm132:Sm:=⟨ps132,rs132,false,q132⟩
theorem holds132 (hg:GamOK Try.prog G132):Holds Try.prog 132 Sm132:=by
 have:=h0_132 hg
 have e:(runF TT G132 an132 Try.f132 c132 ps132 rs132)=q132:=by
  funext n x
  exact F132_eq n x.1 x.2.1 x.2.2.1 x.2.2.2.1 x.2.2.2.2.1
 rw [e] at this
 exact this
theorem gam132:GamOK Try.prog G132:=by
 intro f s h
 unfold G132 at h
 split at h
 ·injection h with h; subst h; exact ⟨⟨Try.f137,c137,Try.func137,by kernel_rfl,by decide +kernel⟩,hh137⟩
 ·cases h
theorem hh132:Holds Try.prog 132 Sm132:=holds132 gam132
end Go.Proofs.Ythhopbicmaipgaa.Rx.S

namespace Go.Proofs.Ythhopbicmaipgaa.Rx.S
open Go Go.RowKit Go.Proofs
set_option maxRecDepth 100000
noncomputable def c123:Code:=(Try.f123.body.getD .skip)
def an123:An:=⟨fun _=>⟨[],[]⟩,fun _ _=>none⟩
abbrev ps123:List PK:=[.val tFs true,.val tCr true,.val i64 false,.val i64 false]
abbrev rs123:List RK:=[.val .bool false]
abbrev R123:=retsD rs123 × outsD ps123
noncomputable def G123:Gam:=fun f=>match f with | 132=>some Sm132 | _=>none
theorem h0_123 (hg:GamOK Try.prog G123):Holds Try.prog 123 ⟨ps123,rs123,false,runF TT G123 an123 Try.f123 c123 ps123 rs123⟩:=holds_of tt_ok hg mixed Try.func123 (by kernel_rfl) (by rfl) (by decide +kernel)
noncomputable def st123_top (n:Nat) (a:List NT) (b:Int × Int × List Int) (c:Int) (d:Int):Option R123 :=
 cond (decide ((0:Int)≤c)) (cond (decide (c < (↑a.length:Int))) ((q132 n ((b.1,b.2.1,b.2.2),(a.getD c.toNat ZN).2.2.1,(a.getD c.toNat ZN).2.2.2.1,(a.getD c.toNat ZN).2.1,d,())).bind fun r0=>some ((r0.1.1,()),())) (none)) (none)
theorem e123_top (n:Nat) (a:List NT) (b:Int × Int × List Int) (c:Int) (d:Int):runF TT G123 an123 Try.f123 c123 ps123 rs123 n (a,b,c,d,())=st123_top n a b c d:=by kernel_rfl
noncomputable def p123 (n:Nat) (a:List NT) (b:Int × Int × List Int) (c:Int) (d:Int):Option R123:=st123_top n a b c d
theorem F123_eq (n:Nat) (a:List NT) (b:Int × Int × List Int) (c:Int) (d:Int):runF TT G123 an123 Try.f123 c123 ps123 rs123 n (a,b,c,d,())=p123 n a b c d:=by
 rw [e123_top]
 skip
 try rfl
noncomputable def q123 (n:Nat) (x:argsD ps123):Option R123:=p123 n x.1 x.2.1 x.2.2.1 x.2.2.2.1
noncomputable def Sm123:Sm:=⟨ps123,rs123,false,q123⟩
theorem holds123 (hg:GamOK Try.prog G123):Holds Try.prog 123 Sm123:=by
 have:=h0_123 hg
 have e:(runF TT G123 an123 Try.f123 c123 ps123 rs123)=q123:=by
  funext n x
  exact F123_eq n x.1 x.2.1 x.2.2.1 x.2.2.2.1
 rw [e] at this
 exact this
theorem gam123:GamOK Try.prog G123:=by
 intro f s h
 unfold G123 at h
 split at h
 ·injection h with h; subst h; exact ⟨⟨Try.f132,c132,Try.func132,by kernel_rfl,by decide +kernel⟩,hh132⟩
 ·cases h
theorem hh123:Holds Try.prog 123 Sm123:=holds123 gam123
end Go.Proofs.Ythhopbicmaipgaa.Rx.S

namespace Go.Proofs.Ythhopbicmaipgaa.Rx.S
open Go Go.RowKit Go.Proofs
set_option maxRecDepth 100000
noncomputable def c127:Code:=(Try.f127.body.getD .skip)
def an127:An:=⟨fun _=>⟨[],[]⟩,fun _ _=>none⟩
abbrev ps127:List PK:=[.own tFs true,.val i64 false,.val i64 false]
abbrev rs127:List RK:=[.own tFs true]
abbrev R127:=retsD rs127 × outsD ps127
noncomputable def G127:Gam:=fun _=>none
theorem h0_127 (hg:GamOK Try.prog G127):Holds Try.prog 127 ⟨ps127,rs127,false,runF TT G127 an127 Try.f127 c127 ps127 rs127⟩:=holds_of tt_ok hg mixed Try.func127 (by kernel_rfl) (by rfl) (by decide +kernel)
noncomputable def st127_top (n:Nat) (a:List NT) (b:Int) (c:Int):Option R127 :=
 cond (decide ((0:Int)≤b)) (cond (decide (b < (↑a.length:Int))) (cond (decide ((0:Int)≤c)) (cond (decide (c≤(↑(List.length (a.getD b.toNat ZN).2.2.2.2.2.2.2.2):Int))) (cond (decide (((0:Nat) + (List.take (c - (0:Int)).toNat (List.drop ((0:Nat) + Int.toNat (0:Int)) (a.getD b.toNat ZN).2.2.2.2.2.2.2.2)).length) * (24:Nat)≤(140737488355328:Nat))) (cond (decide ((0:Int)≤Go.IntKind.i64.wrap (c + (1:Int)))) (cond (decide (Go.IntKind.i64.wrap (c + (1:Int))≤(↑(List.length (a.getD b.toNat ZN).2.2.2.2.2.2.2.2):Int))) (cond (decide (((List.take (c - (0:Int)).toNat (List.drop ((0:Nat) + Int.toNat (0:Int)) (a.getD b.toNat ZN).2.2.2.2.2.2.2.2)).length + (List.take ((↑(List.length (a.getD b.toNat ZN).2.2.2.2.2.2.2.2):Int) - Go.IntKind.i64.wrap (c + (1:Int))).toNat (List.drop ((0:Nat) + (Go.IntKind.i64.wrap (c + (1:Int))).toNat) (a.getD b.toNat ZN).2.2.2.2.2.2.2.2)).length) * (24:Nat)≤(140737488355328:Nat))) (cond (decide ((0:Int)≤b)) (cond (decide (b < (↑a.length:Int))) (some ((a.set b.toNat ((a.getD b.toNat ZN).1,(a.getD b.toNat ZN).2.1,(a.getD b.toNat ZN).2.2.1,(a.getD b.toNat ZN).2.2.2.1,(a.getD b.toNat ZN).2.2.2.2.1,(a.getD b.toNat ZN).2.2.2.2.2.1,(a.getD b.toNat ZN).2.2.2.2.2.2.1,(a.getD b.toNat ZN).2.2.2.2.2.2.2.1,List.take (c - (0:Int)).toNat (List.drop ((0:Nat) + Int.toNat (0:Int)) (a.getD b.toNat ZN).2.2.2.2.2.2.2.2) ++ List.take ((↑(List.length (a.getD b.toNat ZN).2.2.2.2.2.2.2.2):Int) - Go.IntKind.i64.wrap (c + (1:Int))).toNat (List.drop ((0:Nat) + (Go.IntKind.i64.wrap (c + (1:Int))).toNat) (a.getD b.toNat ZN).2.2.2.2.2.2.2.2)),()),())) (none)) (none)) (none)) (none)) (none)) (none)) (none)) (none)) (none)) (none)
theorem e127_top (n:Nat) (a:List NT) (b:Int) (c:Int):runF TT G127 an127 Try.f127 c127 ps127 rs127 n (a,b,c,())=st127_top n a b c:=by kernel_rfl
noncomputable def p127 (n:Nat) (a:List NT) (b:Int) (c:Int):Option R127:=st127_top n a b c
theorem F127_eq (n:Nat) (a:List NT) (b:Int) (c:Int):runF TT G127 an127 Try.f127 c127 ps127 rs127 n (a,b,c,())=p127 n a b c:=by
 rw [e127_top]
 skip
 try rfl
noncomputable def q127 (n:Nat) (x:argsD ps127):Option R127:=p127 n x.1 x.2.1 x.2.2.1
noncomputable def Sm127:Sm:=⟨ps127,rs127,false,q127⟩
theorem holds127 (hg:GamOK Try.prog G127):Holds Try.prog 127 Sm127:=by
 have:=h0_127 hg
 have e:(runF TT G127 an127 Try.f127 c127 ps127 rs127)=q127:=by
  funext n x
  exact F127_eq n x.1 x.2.1 x.2.2.1
 rw [e] at this
 exact this
theorem gam127:GamOK Try.prog G127:=fun _ _ h=>by cases h
theorem hh127:Holds Try.prog 127 Sm127:=holds127 gam127
end Go.Proofs.Ythhopbicmaipgaa.Rx.S

namespace Go.Proofs.Ythhopbicmaipgaa.Rx.S
open Go Go.RowKit Go.Proofs
set_option maxRecDepth 100000
noncomputable def c128:Code:=(Try.f128.body.getD .skip)
def an128:An:=⟨fun r=>match r with | 4=>⟨[1,2,3,7],[]⟩ | _=>⟨[],[]⟩,fun _ _=>none⟩
abbrev ps128:List PK:=[.val tFs true,.val i64 false,.val i64 false]
abbrev rs128:List RK:=[.val .bool false]
abbrev R128:=retsD rs128 × outsD ps128
abbrev Fn128:=Nat→argsD ps128→Option R128
noncomputable def Smr128 (q:Fn128):Sm:=⟨ps128,rs128,false,q⟩
noncomputable def G128 (qr128:Fn128):Gam:=fun f=>match f with | 128=>some (Smr128 qr128) | _=>none
theorem h0_128 (qr128:Fn128) (hg:GamOK Try.prog (G128 qr128)):Holds Try.prog 128 ⟨ps128,rs128,false,runF TT (G128 qr128) an128 Try.f128 c128 ps128 rs128⟩:=holds_of tt_ok hg mixed Try.func128 (by kernel_rfl) (by rfl) (by decide +kernel)
noncomputable def at128 (qr128:Fn128):Nat→Pt→List Nat→St→Option R128:=atF TT (G128 qr128) an128 Try.f128 c128 _ _
def sh128_L4 (x0:Int) (x1:Int) (x2:Int) (x3:List NT):St:=(St.mk (AV.undef :: ((AV.one (SV.int (Go.IntKind.i64) x0)) :: ((AV.one (SV.int (Go.IntKind.i64) x1)) :: ((AV.one (SV.bptr 1000000 0)) :: (AV.undef :: (AV.undef :: (AV.undef :: ((AV.one (SV.int (Go.IntKind.i64) x2)) :: (AV.undef :: (AV.undef :: (AV.undef :: (AV.undef :: (AV.undef :: (AV.undef :: (AV.undef :: (AV.undef :: (AV.undef :: (AV.undef :: (AV.undef :: (AV.undef :: (AV.undef :: (AV.undef :: (AV.undef :: (AV.undef :: (AV.undef :: (AV.undef :: (AV.undef :: (AV.undef :: (AV.undef :: (AV.undef :: (AV.undef :: (AV.undef :: (AV.undef :: (AV.undef :: (AV.undef :: (AV.undef :: (AV.undef :: (AV.undef :: (AV.undef :: (AV.undef :: (AV.undef :: (AV.undef :: (AV.undef :: (AV.undef :: (AV.undef :: (AV.undef :: [])))))))))))))))))))))))))))))))))))))))))))))) ((1000000,(Ent.box ((SV.con (⟨39,(Ty.int Go.IntKind.i64).pair ((Ty.int Go.IntKind.i64).pair ((Ty.int Go.IntKind.i64).pair ((Ty.int Go.IntKind.i64).pair ((Ty.int Go.IntKind.i64).pair ((Ty.int Go.IntKind.i64).pair (Ty.bool.pair (Ty.str.pair (Ty.row (nat_lit 95) (Ty.str.pair (Ty.int Go.IntKind.i64)))))))))),x3⟩:Rw)) :: []))) :: []))
noncomputable def st128_top (qr128:Fn128) (n:Nat) (lL4:Int→Int→Int→(List NT)→Option R128) (a:List NT) (b:Int) (c:Int):Option R128 :=
 cond (decide (b=c)) (some ((true,()),())) (lL4 (b) (c) ((0:Int)) (a))
noncomputable def st128_L4 (qr128:Fn128) (n:Nat) (lL4:Int→Int→Int→(List NT)→Option R128) (x0:Int) (x1:Int) (x2:Int) (x3:List NT):Option R128 :=
 cond (decide ((0:Int)≤x0)) (cond (decide (x0 < (↑x3.length:Int))) (cond (decide (x2 < (↑(List.length (x3.getD x0.toNat ZN).2.2.2.2.2.2.2.2):Int))) (cond (decide ((0:Int)≤x0)) (cond (decide (x0 < (↑x3.length:Int))) (cond (decide ((0:Int)≤x2)) (cond (decide (x2 < (↑(List.length (x3.getD x0.toNat ZN).2.2.2.2.2.2.2.2):Int))) (cond (decide ((0:Int)≤(List.getD (x3.getD x0.toNat ZN).2.2.2.2.2.2.2.2 x2.toNat (ByteArray.empty,(0:Int))).2)) (cond (decide ((List.getD (x3.getD x0.toNat ZN).2.2.2.2.2.2.2.2 x2.toNat (ByteArray.empty,(0:Int))).2 < (↑x3.length:Int))) (cond (decide ((x3.getD (Int.toNat (List.getD (x3.getD x0.toNat ZN).2.2.2.2.2.2.2.2 x2.toNat (ByteArray.empty,(0:Int))).2) ZN).1=(2:Int))) ((qr128 n (x3,(List.getD (x3.getD x0.toNat ZN).2.2.2.2.2.2.2.2 x2.toNat (ByteArray.empty,(0:Int))).2,x1,())).bind fun r1=>cond (r1.1.1) (some ((true,()),())) (lL4 (x0) (x1) (Go.IntKind.i64.wrap (x2 + (1:Int))) (x3))) (lL4 (x0) (x1) (Go.IntKind.i64.wrap (x2 + (1:Int))) (x3))) (none)) (none)) (none)) (none)) (none)) (none)) (some ((false,()),()))) (none)) (none)
theorem e128_top (qr128:Fn128) (n:Nat) (a:List NT) (b:Int) (c:Int):runF TT (G128 qr128) an128 Try.f128 c128 ps128 rs128 n (a,b,c,())=(st128_top qr128) n (fun x0 x1 x2 x3=>(at128 qr128) n (.head 4) [n] (sh128_L4 x0 x1 x2 x3)) a b c:=by kernel_rfl
theorem e128_L4_0 (qr128:Fn128) (n:Nat) (x0:Int) (x1:Int) (x2:Int) (x3:List NT):(at128 qr128) n (.head 4) [0] (sh128_L4 x0 x1 x2 x3)=none:=by kernel_rfl
theorem e128_L4 (qr128:Fn128) (n:Nat) (m4:Nat) (x0:Int) (x1:Int) (x2:Int) (x3:List NT):(at128 qr128) n (.head 4) [m4 + 1] (sh128_L4 x0 x1 x2 x3)=(st128_L4 qr128) n (fun x0 x1 x2 x3=>(at128 qr128) n (.head 4) [m4] (sh128_L4 x0 x1 x2 x3)) x0 x1 x2 x3:=by kernel_rfl
noncomputable def p128_L4 (qr128:Fn128) (n:Nat):Nat→Int→Int→Int→(List NT)→Option R128
 | 0,_,_,_,_=>none
 | m + 1,x0,x1,x2,x3=>(st128_L4 qr128) n ((p128_L4 qr128) n m) x0 x1 x2 x3
noncomputable def p128 (qr128:Fn128) (n:Nat) (a:List NT) (b:Int) (c:Int):Option R128:=(st128_top qr128) n ((p128_L4 qr128) n n) a b c
theorem t128_L4 (qr128:Fn128) (n:Nat):∀ (m4:Nat) (x0:Int) (x1:Int) (x2:Int) (x3:List NT),(at128 qr128) n (.head 4) [m4] (sh128_L4 x0 x1 x2 x3)=(p128_L4 qr128) n m4 x0 x1 x2 x3:=by
 intro m
 induction m with
 | zero=>intros; rw [(e128_L4_0 qr128)]; rfl
 | succ m ih =>
  intros
  rw [(e128_L4 qr128)]
  try simp only [ih]
  rfl
theorem F128_eq (qr128:Fn128) (n:Nat) (a:List NT) (b:Int) (c:Int):runF TT (G128 qr128) an128 Try.f128 c128 ps128 rs128 n (a,b,c,())=(p128 qr128) n a b c:=by
 rw [(e128_top qr128)]
 simp only [(t128_L4 qr128)]
 try rfl
noncomputable def q128r (qr128:Fn128) (n:Nat) (x:argsD ps128):Option R128:=(p128 qr128) n x.1 x.2.1 x.2.2.1
theorem holds128 (qr128:Fn128) (hg:GamOK Try.prog (G128 qr128)):Holds Try.prog 128 ⟨ps128,rs128,false,(q128r qr128)⟩:=by
 have:=(h0_128 qr128) hg
 have e:(runF TT (G128 qr128) an128 Try.f128 c128 ps128 rs128)=(q128r qr128):=by
  funext n x
  exact (F128_eq qr128) n x.1 x.2.1 x.2.2.1
 rw [e] at this
 exact this
theorem gam128 (qr128:Fn128) (hq:Holds Try.prog 128 (Smr128 qr128)):GamOK Try.prog (G128 qr128):=by
 intro f s h
 unfold G128 at h
 split at h
 ·injection h with h; subst h; exact ⟨⟨Try.f128,c128,Try.func128,by kernel_rfl,by decide +kernel⟩,hq⟩
 ·cases h
noncomputable def lv128:Nat→Fn128
 | 0=>fun _ _=>none
 | k + 1=>q128r (lv128 k)
theorem hlv128:∀ k,Holds Try.prog 128 (Smr128 (lv128 k))
 | 0=>by intro n w Z vs x Fs y _ _ _ _ he; cases he
 | k + 1=>holds128 (lv128 k) (gam128 (lv128 k) (hlv128 k))
noncomputable def q128:Fn128:=fun n x=>lv128 n n x
noncomputable def Sm128:Sm:=⟨ps128,rs128,false,q128⟩
theorem hh128:Holds Try.prog 128 Sm128:=fun n=>hlv128 n n
end Go.Proofs.Ythhopbicmaipgaa.Rx.S

namespace Go.Proofs.Ythhopbicmaipgaa.Rx.S
open Go Go.RowKit Go.Proofs
set_option maxRecDepth 100000
noncomputable def c115:Code:=(Try.f115.body.getD .skip)
def an115:An:=⟨fun _=>⟨[],[]⟩,fun _ _=>none⟩
abbrev ps115:List PK:=[.own tFs true,.val tCr true,.val i64 false,.val .str false,.val i64 false,.val .str false]
abbrev rs115:List RK:=[.own tFs true,.val i64 false]
abbrev R115:=retsD rs115 × outsD ps115
noncomputable def G115:Gam:=fun f=>match f with | 103=>some Sm103 | 104=>some Sm104 | 123=>some Sm123 | 127=>some Sm127 | 128=>some Sm128 | _=>none
theorem h0_115 (hg:GamOK Try.prog G115):Holds Try.prog 115 ⟨ps115,rs115,false,runF TT G115 an115 Try.f115 c115 ps115 rs115⟩:=holds_of tt_ok hg mixed Try.func115 (by kernel_rfl) (by rfl) (by decide +kernel)
noncomputable def st115_top (n:Nat) (a:List NT) (b:Int × Int × List Int) (c:Int) (d:ByteArray) (e:Int) (f:ByteArray):Option R115 :=
 cond (decide ((0:Int)≤c)) (cond (decide (c < (↑a.length:Int))) (cond (!decide ((a.getD c.toNat ZN).1=(2:Int))) (some ((a,((4:Int),())),())) (cond (decide ((0:Int)≤e)) (cond (decide (e < (↑a.length:Int))) (cond (!decide ((a.getD e.toNat ZN).1=(2:Int))) (some ((a,((4:Int),())),())) ((q123 n (a,(b.1,b.2.1,b.2.2),c,(3:Int),())).bind fun r0=>cond (!r0.1.1) (some ((a,((5:Int),())),())) ((q123 n (a,(b.1,b.2.1,b.2.2),e,(3:Int),())).bind fun r1=>cond (!r1.1.1) (some ((a,((5:Int),())),())) (cond (decide ((0:Int)≤c)) (cond (decide (c < (↑a.length:Int))) ((q103 n (((a.getD c.toNat ZN).1,(a.getD c.toNat ZN).2.1,(a.getD c.toNat ZN).2.2.1,(a.getD c.toNat ZN).2.2.2.1,(a.getD c.toNat ZN).2.2.2.2.1,(a.getD c.toNat ZN).2.2.2.2.2.1,(a.getD c.toNat ZN).2.2.2.2.2.2.1,(a.getD c.toNat ZN).2.2.2.2.2.2.2.1,(a.getD c.toNat ZN).2.2.2.2.2.2.2.2),d,())).bind fun r2=>cond (decide (r2.1.1 < (0:Int))) (some ((a,((2:Int),())),())) (cond (decide ((0:Int)≤c)) (cond (decide (c < (↑a.length:Int))) (cond (decide ((0:Int)≤r2.1.1)) (cond (decide (r2.1.1 < (↑(List.length (a.getD c.toNat ZN).2.2.2.2.2.2.2.2):Int))) (cond (decide ((0:Int)≤e)) (cond (decide (e < (↑a.length:Int))) ((q103 n (((a.getD e.toNat ZN).1,(a.getD e.toNat ZN).2.1,(a.getD e.toNat ZN).2.2.1,(a.getD e.toNat ZN).2.2.2.1,(a.getD e.toNat ZN).2.2.2.2.1,(a.getD e.toNat ZN).2.2.2.2.2.1,(a.getD e.toNat ZN).2.2.2.2.2.2.1,(a.getD e.toNat ZN).2.2.2.2.2.2.2.1,(a.getD e.toNat ZN).2.2.2.2.2.2.2.2),f,())).bind fun r3=>cond (decide ((0:Int)≤r3.1.1)) (some ((a,((3:Int),())),())) (cond (decide ((0:Int)≤(List.getD (a.getD c.toNat ZN).2.2.2.2.2.2.2.2 (Int.toNat r2.1.1) (ByteArray.empty,(0:Int))).2)) (cond (decide ((List.getD (a.getD c.toNat ZN).2.2.2.2.2.2.2.2 (Int.toNat r2.1.1) (ByteArray.empty,(0:Int))).2 < (↑a.length:Int))) (cond (decide ((a.getD (Int.toNat (List.getD (a.getD c.toNat ZN).2.2.2.2.2.2.2.2 (Int.toNat r2.1.1) (ByteArray.empty,(0:Int))).2) ZN).1=(2:Int))) ((q128 n (a,(List.getD (a.getD c.toNat ZN).2.2.2.2.2.2.2.2 (Int.toNat r2.1.1) (ByteArray.empty,(0:Int))).2,e,())).bind fun r4=>cond (r4.1.1) (some ((a,((6:Int),())),())) (cond (!decide (c=e)) (cond (decide ((0:Int)≤e)) (cond (decide (e < (↑a.length:Int))) (cond (decide ((6:Int)≤(↑(List.length (a.getD e.toNat ZN).2.2.2.2.2.2.2.2):Int))) (some ((a,((7:Int),())),())) ((q127 n (a,c,r2.1.1,())).bind fun r5=>(q104 n (r5.1.1,e,(f,(List.getD (a.getD c.toNat ZN).2.2.2.2.2.2.2.2 (Int.toNat r2.1.1) (ByteArray.empty,(0:Int))).2),())).bind fun r6=>some ((r6.1.1,((0:Int),())),()))) (none)) (none)) ((q127 n (a,c,r2.1.1,())).bind fun r7=>(q104 n (r7.1.1,e,(f,(List.getD (a.getD c.toNat ZN).2.2.2.2.2.2.2.2 (Int.toNat r2.1.1) (ByteArray.empty,(0:Int))).2),())).bind fun r8=>some ((r8.1.1,((0:Int),())),())))) (cond (!decide (c=e)) (cond (decide ((0:Int)≤e)) (cond (decide (e < (↑a.length:Int))) (cond (decide ((6:Int)≤(↑(List.length (a.getD e.toNat ZN).2.2.2.2.2.2.2.2):Int))) (some ((a,((7:Int),())),())) ((q127 n (a,c,r2.1.1,())).bind fun r9=>(q104 n (r9.1.1,e,(f,(List.getD (a.getD c.toNat ZN).2.2.2.2.2.2.2.2 (Int.toNat r2.1.1) (ByteArray.empty,(0:Int))).2),())).bind fun r10=>some ((r10.1.1,((0:Int),())),()))) (none)) (none)) ((q127 n (a,c,r2.1.1,())).bind fun r11=>(q104 n (r11.1.1,e,(f,(List.getD (a.getD c.toNat ZN).2.2.2.2.2.2.2.2 (Int.toNat r2.1.1) (ByteArray.empty,(0:Int))).2),())).bind fun r12=>some ((r12.1.1,((0:Int),())),())))) (none)) (none))) (none)) (none)) (none)) (none)) (none)) (none))) (none)) (none))))) (none)) (none))) (none)) (none)
theorem e115_top (n:Nat) (a:List NT) (b:Int × Int × List Int) (c:Int) (d:ByteArray) (e:Int) (f:ByteArray):runF TT G115 an115 Try.f115 c115 ps115 rs115 n (a,b,c,d,e,f,())=st115_top n a b c d e f:=by kernel_rfl
noncomputable def p115 (n:Nat) (a:List NT) (b:Int × Int × List Int) (c:Int) (d:ByteArray) (e:Int) (f:ByteArray):Option R115:=st115_top n a b c d e f
theorem F115_eq (n:Nat) (a:List NT) (b:Int × Int × List Int) (c:Int) (d:ByteArray) (e:Int) (f:ByteArray):runF TT G115 an115 Try.f115 c115 ps115 rs115 n (a,b,c,d,e,f,())=p115 n a b c d e f:=by
 rw [e115_top]
 skip
 try rfl
noncomputable def q115 (n:Nat) (x:argsD ps115):Option R115:=p115 n x.1 x.2.1 x.2.2.1 x.2.2.2.1 x.2.2.2.2.1 x.2.2.2.2.2.1
noncomputable def Sm115:Sm:=⟨ps115,rs115,false,q115⟩
theorem holds115 (hg:GamOK Try.prog G115):Holds Try.prog 115 Sm115:=by
 have:=h0_115 hg
 have e:(runF TT G115 an115 Try.f115 c115 ps115 rs115)=q115:=by
  funext n x
  exact F115_eq n x.1 x.2.1 x.2.2.1 x.2.2.2.1 x.2.2.2.2.1 x.2.2.2.2.2.1
 rw [e] at this
 exact this
theorem gam115:GamOK Try.prog G115:=by
 intro f s h
 unfold G115 at h
 split at h
 ·injection h with h; subst h; exact ⟨⟨Try.f103,c103,Try.func103,by kernel_rfl,by decide +kernel⟩,hh103⟩
 ·injection h with h; subst h; exact ⟨⟨Try.f104,c104,Try.func104,by kernel_rfl,by decide +kernel⟩,hh104⟩
 ·injection h with h; subst h; exact ⟨⟨Try.f123,c123,Try.func123,by kernel_rfl,by decide +kernel⟩,hh123⟩
 ·injection h with h; subst h; exact ⟨⟨Try.f127,c127,Try.func127,by kernel_rfl,by decide +kernel⟩,hh127⟩
 ·injection h with h; subst h; exact ⟨⟨Try.f128,c128,Try.func128,by kernel_rfl,by decide +kernel⟩,hh128⟩
 ·cases h
theorem hh115:Holds Try.prog 115 Sm115:=holds115 gam115
end Go.Proofs.Ythhopbicmaipgaa.Rx.S

namespace Go.Proofs.Ythhopbicmaipgaa.Rx.S
open Go Go.RowKit Go.Proofs
set_option maxRecDepth 100000
noncomputable def c102:Code:=(Try.f102.body.getD .skip)
def an102:An:=⟨fun _=>⟨[],[]⟩,fun _ _=>none⟩
abbrev ps102:List PK:=[.val tFs true,.val tCr true,.val i64 false,.val i64 false]
abbrev rs102:List RK:=[.val i64 false]
abbrev R102:=retsD rs102 × outsD ps102
noncomputable def G102:Gam:=fun f=>match f with | 123=>some Sm123 | _=>none
theorem h0_102 (hg:GamOK Try.prog G102):Holds Try.prog 102 ⟨ps102,rs102,false,runF TT G102 an102 Try.f102 c102 ps102 rs102⟩:=holds_of tt_ok hg mixed Try.func102 (by kernel_rfl) (by rfl) (by decide +kernel)
noncomputable def st102_top (n:Nat) (a:List NT) (b:Int × Int × List Int) (c:Int) (d:Int):Option R102 :=
 cond (decide ((0:Int)≤c)) (cond (decide (c < (↑a.length:Int))) (cond (!decide ((a.getD c.toNat ZN).1=(2:Int))) (some (((4:Int),()),())) ((q123 n (a,(b.1,b.2.1,b.2.2),c,d,())).bind fun r0=>cond (!r0.1.1) (some (((5:Int),()),())) (some (((0:Int),()),())))) (none)) (none)
theorem e102_top (n:Nat) (a:List NT) (b:Int × Int × List Int) (c:Int) (d:Int):runF TT G102 an102 Try.f102 c102 ps102 rs102 n (a,b,c,d,())=st102_top n a b c d:=by kernel_rfl
noncomputable def p102 (n:Nat) (a:List NT) (b:Int × Int × List Int) (c:Int) (d:Int):Option R102:=st102_top n a b c d
theorem F102_eq (n:Nat) (a:List NT) (b:Int × Int × List Int) (c:Int) (d:Int):runF TT G102 an102 Try.f102 c102 ps102 rs102 n (a,b,c,d,())=p102 n a b c d:=by
 rw [e102_top]
 skip
 try rfl
noncomputable def q102 (n:Nat) (x:argsD ps102):Option R102:=p102 n x.1 x.2.1 x.2.2.1 x.2.2.2.1
noncomputable def Sm102:Sm:=⟨ps102,rs102,false,q102⟩
theorem holds102 (hg:GamOK Try.prog G102):Holds Try.prog 102 Sm102:=by
 have:=h0_102 hg
 have e:(runF TT G102 an102 Try.f102 c102 ps102 rs102)=q102:=by
  funext n x
  exact F102_eq n x.1 x.2.1 x.2.2.1 x.2.2.2.1
 rw [e] at this
 exact this
theorem gam102:GamOK Try.prog G102:=by
 intro f s h
 unfold G102 at h
 split at h
 ·injection h with h; subst h; exact ⟨⟨Try.f123,c123,Try.func123,by kernel_rfl,by decide +kernel⟩,hh123⟩
 ·cases h
theorem hh102:Holds Try.prog 102 Sm102:=holds102 gam102
end Go.Proofs.Ythhopbicmaipgaa.Rx.S

namespace Go.Proofs.Ythhopbicmaipgaa.Rx.S
open Go Go.RowKit Go.Proofs
set_option maxRecDepth 100000
noncomputable def c114:Code:=(Try.f114.body.getD .skip)
def an114:An:=⟨fun _=>⟨[],[]⟩,fun _ _=>none⟩
abbrev ps114:List PK:=[.own tFs true,.val tCr true,.val i64 false,.val .str false]
abbrev rs114:List RK:=[.own tFs true,.val i64 false]
abbrev R114:=retsD rs114 × outsD ps114
noncomputable def G114:Gam:=fun f=>match f with | 102=>some Sm102 | 103=>some Sm103 | 112=>some Sm112 | 127=>some Sm127 | _=>none
theorem h0_114 (hg:GamOK Try.prog G114):Holds Try.prog 114 ⟨ps114,rs114,false,runF TT G114 an114 Try.f114 c114 ps114 rs114⟩:=holds_of tt_ok hg mixed Try.func114 (by kernel_rfl) (by rfl) (by decide +kernel)
noncomputable def st114_top (n:Nat) (a:List NT) (b:Int × Int × List Int) (c:Int) (d:ByteArray):Option R114 :=
 (q102 n (a,(b.1,b.2.1,b.2.2),c,(3:Int),())).bind fun r0=>cond (!decide (r0.1.1=(0:Int))) (some ((a,(r0.1.1,())),())) (cond (decide ((0:Int)≤c)) (cond (decide (c < (↑a.length:Int))) ((q103 n (((a.getD c.toNat ZN).1,(a.getD c.toNat ZN).2.1,(a.getD c.toNat ZN).2.2.1,(a.getD c.toNat ZN).2.2.2.1,(a.getD c.toNat ZN).2.2.2.2.1,(a.getD c.toNat ZN).2.2.2.2.2.1,(a.getD c.toNat ZN).2.2.2.2.2.2.1,(a.getD c.toNat ZN).2.2.2.2.2.2.2.1,(a.getD c.toNat ZN).2.2.2.2.2.2.2.2),d,())).bind fun r1=>cond (decide (r1.1.1 < (0:Int))) (some ((a,((2:Int),())),())) (cond (decide ((0:Int)≤c)) (cond (decide (c < (↑a.length:Int))) (cond (decide ((0:Int)≤r1.1.1)) (cond (decide (r1.1.1 < (↑(List.length (a.getD c.toNat ZN).2.2.2.2.2.2.2.2):Int))) (cond (decide ((0:Int)≤(List.getD (a.getD c.toNat ZN).2.2.2.2.2.2.2.2 (Int.toNat r1.1.1) (ByteArray.empty,(0:Int))).2)) (cond (decide ((List.getD (a.getD c.toNat ZN).2.2.2.2.2.2.2.2 (Int.toNat r1.1.1) (ByteArray.empty,(0:Int))).2 < (↑a.length:Int))) (cond (decide ((a.getD (Int.toNat (List.getD (a.getD c.toNat ZN).2.2.2.2.2.2.2.2 (Int.toNat r1.1.1) (ByteArray.empty,(0:Int))).2) ZN).1=(2:Int))) (cond (decide ((0:Int) < (↑(List.length (a.getD (Int.toNat (List.getD (a.getD c.toNat ZN).2.2.2.2.2.2.2.2 (Int.toNat r1.1.1) (ByteArray.empty,(0:Int))).2) ZN).2.2.2.2.2.2.2.2):Int))) (some ((a,((6:Int),())),())) (cond (decide ((0:Int) < (a.getD (Int.toNat (List.getD (a.getD c.toNat ZN).2.2.2.2.2.2.2.2 (Int.toNat r1.1.1) (ByteArray.empty,(0:Int))).2) ZN).2.2.2.2.2.1)) (some ((a,((6:Int),())),())) (cond (decide ((0:Int)≤(List.getD (a.getD c.toNat ZN).2.2.2.2.2.2.2.2 (Int.toNat r1.1.1) (ByteArray.empty,(0:Int))).2)) (cond (decide ((List.getD (a.getD c.toNat ZN).2.2.2.2.2.2.2.2 (Int.toNat r1.1.1) (ByteArray.empty,(0:Int))).2 < (↑a.length:Int))) ((q127 n (a.set (Int.toNat (List.getD (a.getD c.toNat ZN).2.2.2.2.2.2.2.2 (Int.toNat r1.1.1) (ByteArray.empty,(0:Int))).2) ((a.getD (Int.toNat (List.getD (a.getD c.toNat ZN).2.2.2.2.2.2.2.2 (Int.toNat r1.1.1) (ByteArray.empty,(0:Int))).2) ZN).1,(a.getD (Int.toNat (List.getD (a.getD c.toNat ZN).2.2.2.2.2.2.2.2 (Int.toNat r1.1.1) (ByteArray.empty,(0:Int))).2) ZN).2.1,(a.getD (Int.toNat (List.getD (a.getD c.toNat ZN).2.2.2.2.2.2.2.2 (Int.toNat r1.1.1) (ByteArray.empty,(0:Int))).2) ZN).2.2.1,(a.getD (Int.toNat (List.getD (a.getD c.toNat ZN).2.2.2.2.2.2.2.2 (Int.toNat r1.1.1) (ByteArray.empty,(0:Int))).2) ZN).2.2.2.1,Go.IntKind.i64.wrap ((a.getD (Int.toNat (List.getD (a.getD c.toNat ZN).2.2.2.2.2.2.2.2 (Int.toNat r1.1.1) (ByteArray.empty,(0:Int))).2) ZN).2.2.2.2.1 - (1:Int)),(a.getD (Int.toNat (List.getD (a.getD c.toNat ZN).2.2.2.2.2.2.2.2 (Int.toNat r1.1.1) (ByteArray.empty,(0:Int))).2) ZN).2.2.2.2.2),c,r1.1.1,())).bind fun r2=>(q112 n (r2.1.1,(List.getD (a.getD c.toNat ZN).2.2.2.2.2.2.2.2 (Int.toNat r1.1.1) (ByteArray.empty,(0:Int))).2,())).bind fun r3=>some ((r3.1.1,((0:Int),())),())) (none)) (none)))) (cond (decide ((0:Int)≤(List.getD (a.getD c.toNat ZN).2.2.2.2.2.2.2.2 (Int.toNat r1.1.1) (ByteArray.empty,(0:Int))).2)) (cond (decide ((List.getD (a.getD c.toNat ZN).2.2.2.2.2.2.2.2 (Int.toNat r1.1.1) (ByteArray.empty,(0:Int))).2 < (↑a.length:Int))) ((q127 n (a.set (Int.toNat (List.getD (a.getD c.toNat ZN).2.2.2.2.2.2.2.2 (Int.toNat r1.1.1) (ByteArray.empty,(0:Int))).2) ((a.getD (Int.toNat (List.getD (a.getD c.toNat ZN).2.2.2.2.2.2.2.2 (Int.toNat r1.1.1) (ByteArray.empty,(0:Int))).2) ZN).1,(a.getD (Int.toNat (List.getD (a.getD c.toNat ZN).2.2.2.2.2.2.2.2 (Int.toNat r1.1.1) (ByteArray.empty,(0:Int))).2) ZN).2.1,(a.getD (Int.toNat (List.getD (a.getD c.toNat ZN).2.2.2.2.2.2.2.2 (Int.toNat r1.1.1) (ByteArray.empty,(0:Int))).2) ZN).2.2.1,(a.getD (Int.toNat (List.getD (a.getD c.toNat ZN).2.2.2.2.2.2.2.2 (Int.toNat r1.1.1) (ByteArray.empty,(0:Int))).2) ZN).2.2.2.1,Go.IntKind.i64.wrap ((a.getD (Int.toNat (List.getD (a.getD c.toNat ZN).2.2.2.2.2.2.2.2 (Int.toNat r1.1.1) (ByteArray.empty,(0:Int))).2) ZN).2.2.2.2.1 - (1:Int)),(a.getD (Int.toNat (List.getD (a.getD c.toNat ZN).2.2.2.2.2.2.2.2 (Int.toNat r1.1.1) (ByteArray.empty,(0:Int))).2) ZN).2.2.2.2.2),c,r1.1.1,())).bind fun r4=>(q112 n (r4.1.1,(List.getD (a.getD c.toNat ZN).2.2.2.2.2.2.2.2 (Int.toNat r1.1.1) (ByteArray.empty,(0:Int))).2,())).bind fun r5=>some ((r5.1.1,((0:Int),())),())) (none)) (none))) (none)) (none)) (none)) (none)) (none)) (none))) (none)) (none))
theorem e114_top (n:Nat) (a:List NT) (b:Int × Int × List Int) (c:Int) (d:ByteArray):runF TT G114 an114 Try.f114 c114 ps114 rs114 n (a,b,c,d,())=st114_top n a b c d:=by kernel_rfl
noncomputable def p114 (n:Nat) (a:List NT) (b:Int × Int × List Int) (c:Int) (d:ByteArray):Option R114:=st114_top n a b c d
theorem F114_eq (n:Nat) (a:List NT) (b:Int × Int × List Int) (c:Int) (d:ByteArray):runF TT G114 an114 Try.f114 c114 ps114 rs114 n (a,b,c,d,())=p114 n a b c d:=by
 rw [e114_top]
 skip
 try rfl
noncomputable def q114 (n:Nat) (x:argsD ps114):Option R114:=p114 n x.1 x.2.1 x.2.2.1 x.2.2.2.1
noncomputable def Sm114:Sm:=⟨ps114,rs114,false,q114⟩
theorem holds114 (hg:GamOK Try.prog G114):Holds Try.prog 114 Sm114:=by
 have:=h0_114 hg
 have e:(runF TT G114 an114 Try.f114 c114 ps114 rs114)=q114:=by
  funext n x
  exact F114_eq n x.1 x.2.1 x.2.2.1 x.2.2.2.1
 rw [e] at this
 exact this
theorem gam114:GamOK Try.prog G114:=by
 intro f s h
 unfold G114 at h
 split at h
 ·injection h with h; subst h; exact ⟨⟨Try.f102,c102,Try.func102,by kernel_rfl,by decide +kernel⟩,hh102⟩
 ·injection h with h; subst h; exact ⟨⟨Try.f103,c103,Try.func103,by kernel_rfl,by decide +kernel⟩,hh103⟩
 ·injection h with h; subst h; exact ⟨⟨Try.f112,c112,Try.func112,by kernel_rfl,by decide +kernel⟩,hh112⟩
 ·injection h with h; subst h; exact ⟨⟨Try.f127,c127,Try.func127,by kernel_rfl,by decide +kernel⟩,hh127⟩
 ·cases h
theorem hh114:Holds Try.prog 114 Sm114:=holds114 gam114
end Go.Proofs.Ythhopbicmaipgaa.Rx.S

namespace Go.Proofs.Ythhopbicmaipgaa.Rx.S
open Go Go.RowKit Go.Proofs
set_option maxRecDepth 100000
noncomputable def c113:Code:=(Try.f113.body.getD .skip)
def an113:An:=⟨fun _=>⟨[],[]⟩,fun _ _=>none⟩
abbrev ps113:List PK:=[.own tFs true,.val tCr true,.val i64 false,.val i64 false,.val .str false]
abbrev rs113:List RK:=[.own tFs true,.val i64 false]
abbrev R113:=retsD rs113 × outsD ps113
noncomputable def G113:Gam:=fun f=>match f with | 102=>some Sm102 | 103=>some Sm103 | 104=>some Sm104 | _=>none
theorem h0_113 (hg:GamOK Try.prog G113):Holds Try.prog 113 ⟨ps113,rs113,false,runF TT G113 an113 Try.f113 c113 ps113 rs113⟩:=holds_of tt_ok hg mixed Try.func113 (by kernel_rfl) (by rfl) (by decide +kernel)
noncomputable def st113_top (n:Nat) (a:List NT) (b:Int × Int × List Int) (c:Int) (d:Int) (e:ByteArray):Option R113 :=
 cond (decide ((0:Int)≤c)) (cond (decide (c < (↑a.length:Int))) (cond (!decide ((a.getD c.toNat ZN).1=(1:Int))) (some ((a,((4:Int),())),())) ((q102 n (a,(b.1,b.2.1,b.2.2),d,(3:Int),())).bind fun r0=>cond (!decide (r0.1.1=(0:Int))) (some ((a,(r0.1.1,())),())) (cond (decide ((0:Int)≤d)) (cond (decide (d < (↑a.length:Int))) ((q103 n (((a.getD d.toNat ZN).1,(a.getD d.toNat ZN).2.1,(a.getD d.toNat ZN).2.2.1,(a.getD d.toNat ZN).2.2.2.1,(a.getD d.toNat ZN).2.2.2.2.1,(a.getD d.toNat ZN).2.2.2.2.2.1,(a.getD d.toNat ZN).2.2.2.2.2.2.1,(a.getD d.toNat ZN).2.2.2.2.2.2.2.1,(a.getD d.toNat ZN).2.2.2.2.2.2.2.2),e,())).bind fun r1=>cond (decide ((0:Int)≤r1.1.1)) (some ((a,((3:Int),())),())) (cond (decide ((0:Int)≤d)) (cond (decide (d < (↑a.length:Int))) (cond (decide ((6:Int)≤(↑(List.length (a.getD d.toNat ZN).2.2.2.2.2.2.2.2):Int))) (some ((a,((7:Int),())),())) (cond (decide ((0:Int)≤c)) (cond (decide (c < (↑a.length:Int))) (cond (decide ((99:Int)≤(a.getD c.toNat ZN).2.2.2.2.1)) (some ((a,((7:Int),())),())) (cond (decide ((0:Int)≤c)) (cond (decide (c < (↑a.length:Int))) (cond (decide ((0:Int)≤c)) (cond (decide (c < (↑a.length:Int))) ((q104 n (a.set c.toNat ((a.getD c.toNat ZN).1,(a.getD c.toNat ZN).2.1,(a.getD c.toNat ZN).2.2.1,(a.getD c.toNat ZN).2.2.2.1,Go.IntKind.i64.wrap ((a.getD c.toNat ZN).2.2.2.2.1 + (1:Int)),(a.getD c.toNat ZN).2.2.2.2.2),d,(e,c),())).bind fun r2=>some ((r2.1.1,((0:Int),())),())) (none)) (none)) (none)) (none))) (none)) (none))) (none)) (none))) (none)) (none)))) (none)) (none)
theorem e113_top (n:Nat) (a:List NT) (b:Int × Int × List Int) (c:Int) (d:Int) (e:ByteArray):runF TT G113 an113 Try.f113 c113 ps113 rs113 n (a,b,c,d,e,())=st113_top n a b c d e:=by kernel_rfl
noncomputable def p113 (n:Nat) (a:List NT) (b:Int × Int × List Int) (c:Int) (d:Int) (e:ByteArray):Option R113:=st113_top n a b c d e
theorem F113_eq (n:Nat) (a:List NT) (b:Int × Int × List Int) (c:Int) (d:Int) (e:ByteArray):runF TT G113 an113 Try.f113 c113 ps113 rs113 n (a,b,c,d,e,())=p113 n a b c d e:=by
 rw [e113_top]
 skip
 try rfl
noncomputable def q113 (n:Nat) (x:argsD ps113):Option R113:=p113 n x.1 x.2.1 x.2.2.1 x.2.2.2.1 x.2.2.2.2.1
noncomputable def Sm113:Sm:=⟨ps113,rs113,false,q113⟩
theorem holds113 (hg:GamOK Try.prog G113):Holds Try.prog 113 Sm113:=by
 have:=h0_113 hg
 have e:(runF TT G113 an113 Try.f113 c113 ps113 rs113)=q113:=by
  funext n x
  exact F113_eq n x.1 x.2.1 x.2.2.1 x.2.2.2.1 x.2.2.2.2.1
 rw [e] at this
 exact this
theorem gam113:GamOK Try.prog G113:=by
 intro f s h
 unfold G113 at h
 split at h
 ·injection h with h; subst h; exact ⟨⟨Try.f102,c102,Try.func102,by kernel_rfl,by decide +kernel⟩,hh102⟩
 ·injection h with h; subst h; exact ⟨⟨Try.f103,c103,Try.func103,by kernel_rfl,by decide +kernel⟩,hh103⟩
 ·injection h with h; subst h; exact ⟨⟨Try.f104,c104,Try.func104,by kernel_rfl,by decide +kernel⟩,hh104⟩
 ·cases h
theorem hh113:Holds Try.prog 113 Sm113:=holds113 gam113
end Go.Proofs.Ythhopbicmaipgaa.Rx.S

namespace Go.Proofs.Ythhopbicmaipgaa.Rx.S
open Go Go.RowKit Go.Proofs
set_option maxRecDepth 100000
noncomputable def c67:Code:=(Try.f67.body.getD .skip)
def an67:An:=⟨fun r=>match r with | 8=>⟨[2,3,4,5,6,7,12,16,17],[]⟩ | _=>⟨[],[]⟩,fun _ _=>none⟩
abbrev ps67:List PK:=[.own tFs true,.val tCr true,.val i64 false,.val .str false,.val i64 false,.val i64 false]
abbrev rs67:List RK:=[.own tFs true,.val i64 false,.val i64 false]
abbrev R67:=retsD rs67 × outsD ps67
noncomputable def G67:Gam:=fun f=>match f with | 102=>some Sm102 | 103=>some Sm103 | 104=>some Sm104 | _=>none
theorem h0_67 (hg:GamOK Try.prog G67):Holds Try.prog 67 ⟨ps67,rs67,false,runF TT G67 an67 Try.f67 c67 ps67 rs67⟩:=holds_of tt_ok hg mixed Try.func67 (by kernel_rfl) (by rfl) (by decide +kernel)
noncomputable def at67:Nat→Pt→List Nat→St→Option R67:=atF TT G67 an67 Try.f67 c67 _ _
def sh67_L8 (x0:Int) (x1:ByteArray) (x2:Int) (x3:Int) (x4:Int) (x5:Int) (x6:Int) (x7:Int) (x8:List Int) (x9:List NT):St:=(St.mk (AV.undef :: (AV.undef :: ((AV.one (SV.int (Go.IntKind.i64) x0)) :: ((AV.one (SV.str x1)) :: ((AV.one (SV.int (Go.IntKind.i64) x2)) :: ((AV.one (SV.int (Go.IntKind.i64) x3)) :: ((AV.one (SV.bptr 1000000 0)) :: ((AV.one (SV.bptr 1000001 0)) :: (AV.undef :: (AV.undef :: (AV.undef :: (AV.undef :: ((AV.one (SV.bptr 1000002 0)) :: (AV.undef :: (AV.undef :: (AV.undef :: ((AV.one (SV.int (Go.IntKind.i64) x4)) :: ((AV.one (SV.int (Go.IntKind.i64) x5)) :: (AV.undef :: (AV.undef :: (AV.undef :: (AV.undef :: (AV.undef :: (AV.undef :: (AV.undef :: (AV.undef :: (AV.undef :: (AV.undef :: (AV.undef :: (AV.undef :: (AV.undef :: (AV.undef :: (AV.undef :: (AV.undef :: (AV.undef :: (AV.undef :: (AV.undef :: (AV.undef :: (AV.undef :: (AV.undef :: (AV.undef :: (AV.undef :: (AV.undef :: (AV.undef :: (AV.undef :: (AV.undef :: (AV.undef :: (AV.undef :: (AV.undef :: (AV.undef :: (AV.undef :: (AV.undef :: (AV.undef :: (AV.undef :: (AV.undef :: (AV.undef :: (AV.undef :: (AV.undef :: (AV.undef :: (AV.undef :: (AV.undef :: (AV.undef :: (AV.undef :: (AV.undef :: (AV.undef :: (AV.undef :: (AV.undef :: (AV.undef :: (AV.undef :: (AV.undef :: (AV.undef :: (AV.undef :: (AV.undef :: (AV.undef :: (AV.undef :: (AV.undef :: (AV.undef :: (AV.undef :: (AV.undef :: (AV.undef :: (AV.undef :: (AV.undef :: (AV.undef :: (AV.undef :: (AV.undef :: (AV.undef :: (AV.undef :: (AV.undef :: (AV.undef :: (AV.undef :: (AV.undef :: (AV.undef :: (AV.undef :: []))))))))))))))))))))))))))))))))))))))))))))))))))))))))))))))))))))))))))))))))))))))))))))) ((1000000,(Ent.box ((SV.ref 1000003 0 [] Option.none) :: []))) :: ((1000001,(Ent.box ((SV.int (Go.IntKind.i64) x6) :: ((SV.int (Go.IntKind.i64) x7) :: ((SV.con (⟨3,Ty.int Go.IntKind.i64,x8⟩:Rw)) :: []))))) :: ((1000002,(Ent.box (SV.nil :: []))) :: ((1000003,(Ent.row (⟨39,(Ty.int Go.IntKind.i64).pair ((Ty.int Go.IntKind.i64).pair ((Ty.int Go.IntKind.i64).pair ((Ty.int Go.IntKind.i64).pair ((Ty.int Go.IntKind.i64).pair ((Ty.int Go.IntKind.i64).pair (Ty.bool.pair (Ty.str.pair (Ty.row (nat_lit 95) (Ty.str.pair (Ty.int Go.IntKind.i64)))))))))),x9⟩:Rw) 0 Option.none)) :: [])))))
noncomputable def st67_top (n:Nat) (lL8:Int→ByteArray→Int→Int→Int→Int→Int→Int→(List Int)→(List NT)→Option R67) (a:List NT) (b:Int × Int × List Int) (c:Int) (d:ByteArray) (e:Int) (f:Int):Option R67 :=
 (q102 n (a,(b.1,b.2.1,b.2.2),c,(3:Int),())).bind fun r0=>cond (!decide (r0.1.1=(0:Int))) (some ((a,((-1:Int),(r0.1.1,()))),())) (cond (decide ((0:Int)≤c)) (cond (decide (c < (↑a.length:Int))) ((q103 n (((a.getD c.toNat ZN).1,(a.getD c.toNat ZN).2.1,(a.getD c.toNat ZN).2.2.1,(a.getD c.toNat ZN).2.2.2.1,(a.getD c.toNat ZN).2.2.2.2.1,(a.getD c.toNat ZN).2.2.2.2.2.1,(a.getD c.toNat ZN).2.2.2.2.2.2.1,(a.getD c.toNat ZN).2.2.2.2.2.2.2.1,(a.getD c.toNat ZN).2.2.2.2.2.2.2.2),d,())).bind fun r1=>cond (decide ((0:Int)≤r1.1.1)) (some ((a,((-1:Int),((3:Int),()))),())) (lL8 (c) (d) (e) (f) ((-1:Int)) (Go.IntKind.i64.wrap ((↑a.length:Int) - (1:Int))) (b.1) (b.2.1) (b.2.2) (a))) (none)) (none))
noncomputable def st67_L8 (n:Nat) (lL8:Int→ByteArray→Int→Int→Int→Int→Int→Int→(List Int)→(List NT)→Option R67) (x0:Int) (x1:ByteArray) (x2:Int) (x3:Int) (x4:Int) (x5:Int) (x6:Int) (x7:Int) (x8:List Int) (x9:List NT):Option R67 :=
 cond (decide ((0:Int)≤x5)) (cond (decide ((0:Int)≤x5)) (cond (decide (x5 < (↑x9.length:Int))) (cond (decide ((x9.getD x5.toNat ZN).1=(0:Int))) (lL8 (x0) (x1) (x2) (x3) (x5) (Go.IntKind.i64.wrap (x5 - (1:Int))) (x6) (x7) (x8) (x9)) (lL8 (x0) (x1) (x2) (x3) (x4) (Go.IntKind.i64.wrap (x5 - (1:Int))) (x6) (x7) (x8) (x9))) (none)) (none)) (cond (decide (x4 < (0:Int))) (some ((x9,((-1:Int),((7:Int),()))),())) (cond (decide ((0:Int)≤x0)) (cond (decide (x0 < (↑x9.length:Int))) (cond (decide ((6:Int)≤(↑(List.length (x9.getD x0.toNat ZN).2.2.2.2.2.2.2.2):Int))) (some ((x9,((-1:Int),((7:Int),()))),())) (cond (decide ((0:Int) < (↑x8.length:Int))) (cond (decide ((0:Int) < (↑x8.length:Int))) (cond (decide ((0:Int)≤x4)) (cond (decide (x4 < (↑x9.length:Int))) ((q104 n (x9.set x4.toNat (x2,x3,x6,x8.getD (Int.toNat (0:Int)) (0:Int),(1:Int),(0:Int),false,ByteArray.empty,[]),x0,(x1,x4),())).bind fun r3=>some ((r3.1.1,(x4,((0:Int),()))),())) (none)) (none)) (none)) (cond (decide ((0:Int)≤x4)) (cond (decide (x4 < (↑x9.length:Int))) ((q104 n (x9.set x4.toNat (x2,x3,x6,x6,(1:Int),(0:Int),false,ByteArray.empty,[]),x0,(x1,x4),())).bind fun r4=>some ((r4.1.1,(x4,((0:Int),()))),())) (none)) (none)))) (none)) (none)))
theorem e67_top (n:Nat) (a:List NT) (b:Int × Int × List Int) (c:Int) (d:ByteArray) (e:Int) (f:Int):runF TT G67 an67 Try.f67 c67 ps67 rs67 n (a,b,c,d,e,f,())=st67_top n (fun x0 x1 x2 x3 x4 x5 x6 x7 x8 x9=>at67 n (.head 8) [n] (sh67_L8 x0 x1 x2 x3 x4 x5 x6 x7 x8 x9)) a b c d e f:=by kernel_rfl
theorem e67_L8_0 (n:Nat) (x0:Int) (x1:ByteArray) (x2:Int) (x3:Int) (x4:Int) (x5:Int) (x6:Int) (x7:Int) (x8:List Int) (x9:List NT):at67 n (.head 8) [0] (sh67_L8 x0 x1 x2 x3 x4 x5 x6 x7 x8 x9)=none:=by kernel_rfl
theorem e67_L8 (n:Nat) (m8:Nat) (x0:Int) (x1:ByteArray) (x2:Int) (x3:Int) (x4:Int) (x5:Int) (x6:Int) (x7:Int) (x8:List Int) (x9:List NT):at67 n (.head 8) [m8 + 1] (sh67_L8 x0 x1 x2 x3 x4 x5 x6 x7 x8 x9)=st67_L8 n (fun x0 x1 x2 x3 x4 x5 x6 x7 x8 x9=>at67 n (.head 8) [m8] (sh67_L8 x0 x1 x2 x3 x4 x5 x6 x7 x8 x9)) x0 x1 x2 x3 x4 x5 x6 x7 x8 x9:=by kernel_rfl
noncomputable def p67_L8 (n:Nat):Nat→Int→ByteArray→Int→Int→Int→Int→Int→Int→(List Int)→(List NT)→Option R67
 | 0,_,_,_,_,_,_,_,_,_,_=>none
 | m + 1,x0,x1,x2,x3,x4,x5,x6,x7,x8,x9=>st67_L8 n (p67_L8 n m) x0 x1 x2 x3 x4 x5 x6 x7 x8 x9
noncomputable def p67 (n:Nat) (a:List NT) (b:Int × Int × List Int) (c:Int) (d:ByteArray) (e:Int) (f:Int):Option R67:=st67_top n (p67_L8 n n) a b c d e f
theorem t67_L8 (n:Nat):∀ (m8:Nat) (x0:Int) (x1:ByteArray) (x2:Int) (x3:Int) (x4:Int) (x5:Int) (x6:Int) (x7:Int) (x8:List Int) (x9:List NT),at67 n (.head 8) [m8] (sh67_L8 x0 x1 x2 x3 x4 x5 x6 x7 x8 x9)=p67_L8 n m8 x0 x1 x2 x3 x4 x5 x6 x7 x8 x9:=by
 intro m
 induction m with
 | zero=>intros; rw [e67_L8_0]; rfl
 | succ m ih =>
  intros
  rw [e67_L8]
  try simp only [ih]
  rfl
theorem F67_eq (n:Nat) (a:List NT) (b:Int × Int × List Int) (c:Int) (d:ByteArray) (e:Int) (f:Int):runF TT G67 an67 Try.f67 c67 ps67 rs67 n (a,b,c,d,e,f,())=p67 n a b c d e f:=by
 rw [e67_top]
 simp only [t67_L8]
 try rfl
noncomputable def q67 (n:Nat) (x:argsD ps67):Option R67:=p67 n x.1 x.2.1 x.2.2.1 x.2.2.2.1 x.2.2.2.2.1 x.2.2.2.2.2.1
noncomputable def Sm67:Sm:=⟨ps67,rs67,false,q67⟩
theorem holds67 (hg:GamOK Try.prog G67):Holds Try.prog 67 Sm67:=by
 have:=h0_67 hg
 have e:(runF TT G67 an67 Try.f67 c67 ps67 rs67)=q67:=by
  funext n x
  exact F67_eq n x.1 x.2.1 x.2.2.1 x.2.2.2.1 x.2.2.2.2.1 x.2.2.2.2.2.1
 rw [e] at this
 exact this
theorem gam67:GamOK Try.prog G67:=by
 intro f s h
 unfold G67 at h
 split at h
 ·injection h with h; subst h; exact ⟨⟨Try.f102,c102,Try.func102,by kernel_rfl,by decide +kernel⟩,hh102⟩
 ·injection h with h; subst h; exact ⟨⟨Try.f103,c103,Try.func103,by kernel_rfl,by decide +kernel⟩,hh103⟩
 ·injection h with h; subst h; exact ⟨⟨Try.f104,c104,Try.func104,by kernel_rfl,by decide +kernel⟩,hh104⟩
 ·cases h
theorem hh67:Holds Try.prog 67 Sm67:=holds67 gam67
end Go.Proofs.Ythhopbicmaipgaa.Rx.S

namespace Go.Proofs.Ythhopbicmaipgaa.Rx.S
open Go Go.Proofs.Ythhopbicmaipgaa.Rx Go.RowKit Go.Proofs
set_option linter.unusedVariables false
noncomputable def c117:Code:=(Try.f117.body.getD .skip)
abbrev ps117:List PK:=[.val .str false,.val .str false]
abbrev rs117:List RK:=[.val i64 false]
abbrev R117:=retsD rs117 × outsD ps117
def cmpB (a b:ByteArray):Int:=Lib.compareBytes a.data.toList b.data.toList
def p117 (n:Nat) (a b:ByteArray):Option R117:=some ((cmpB a b,()),())
def q117 (n:Nat) (x:argsD ps117):Option R117:=p117 n x.1 x.2.1
def Sm117:Sm:=⟨ps117,rs117,false,q117⟩
set_option maxHeartbeats 1000000 in
set_option maxRecDepth 100000 in
theorem walk117 (a b:ByteArray) (w:World):Calls Try.prog 117 #[.string a,.string b] w fun e w'=>e = .returned (.int .i64 (cmpB a b))∧w'=w:=by
 have mixed:Try.prog.follows .mixedOrders=true:=by kernel_rfl
 go_enter Try.func117,Try.ntmps117
 go_wp2
 rw [run_callFunc_extern Try.func129 (by kernel_rfl) (by kernel_rfl) (by kernel_rfl) (e:=Extern.BytealgCompare.compare) (by kernel_rfl),Lib.run_compareString]
 simp only [Result.andThen]
 rw [Oper.upon_value]
 go_wp2
 go_ret
 exact ⟨rfl,rfl⟩
theorem hh117:Holds Try.prog 117 Sm117:=by
 rintro n w Z vs ⟨a,b,_⟩ Fs y hZ hlt hnd ha hF
 have ha:ArgsR w Z [.val .str false,.val .str false] (a,b,()) vs Fs:=ha
 rcases vs with _ | ⟨v0,_ | ⟨v1,_ | ⟨v2,vs⟩⟩⟩ <;> rcases Fs with _ | ⟨F0,_ | ⟨F1,_ | ⟨F2,Fs⟩⟩⟩ <;> simp only [ArgsR,and_false] at ha
 obtain ⟨⟨rfl,_,hv0⟩,⟨rfl,_,hv1⟩,_⟩:=ha
 have hv0:[v0]=[.string a]:=hv0
 have hv1:[v1]=[.string b]:=hv1
 injection hv0 with hv0 _
 injection hv1 with hv1 _
 subst hv0; subst hv1
 have hF:some ((cmpB a b,()),())=some y:=hF
 injection hF with hF
 subst hF
 refine (walk117 a b w).mono ?_
 rintro e w' ⟨rfl,rfl⟩
 exact ⟨[.int .i64 (cmpB a b)],[[]],[[],[]],rfl,⟨⟨rfl,rfl,rfl⟩,trivial⟩,⟨rfl,rfl,trivial⟩,by simp,by simp,Kp.refl _ _⟩
end Go.Proofs.Ythhopbicmaipgaa.Rx.S

namespace Go.Proofs.Ythhopbicmaipgaa.Rx.S
open Go Go.RowKit Go.Proofs
set_option maxRecDepth 100000
noncomputable def c97:Code:=(Try.f97.body.getD .skip)
def an97:An:=⟨fun _=>⟨[],[]⟩,fun _ _=>none⟩
abbrev ps97:List PK:=[.val .str false,.val .str false]
abbrev rs97:List RK:=[.val i64 false]
abbrev R97:=retsD rs97 × outsD ps97
noncomputable def G97:Gam:=fun f=>match f with | 117=>some Sm117 | _=>none
theorem h0_97 (hg:GamOK Try.prog G97):Holds Try.prog 97 ⟨ps97,rs97,false,runF TT G97 an97 Try.f97 c97 ps97 rs97⟩:=holds_of tt_ok hg mixed Try.func97 (by kernel_rfl) (by rfl) (by decide +kernel)
noncomputable def st97_top (n:Nat) (a:ByteArray) (b:ByteArray):Option R97 :=
 (q117 n (a,b,())).bind fun r0=>some ((r0.1.1,()),())
theorem e97_top (n:Nat) (a:ByteArray) (b:ByteArray):runF TT G97 an97 Try.f97 c97 ps97 rs97 n (a,b,())=st97_top n a b:=by kernel_rfl
noncomputable def p97 (n:Nat) (a:ByteArray) (b:ByteArray):Option R97:=st97_top n a b
theorem F97_eq (n:Nat) (a:ByteArray) (b:ByteArray):runF TT G97 an97 Try.f97 c97 ps97 rs97 n (a,b,())=p97 n a b:=by
 rw [e97_top]
 skip
 try rfl
noncomputable def q97 (n:Nat) (x:argsD ps97):Option R97:=p97 n x.1 x.2.1
noncomputable def Sm97:Sm:=⟨ps97,rs97,false,q97⟩
theorem holds97 (hg:GamOK Try.prog G97):Holds Try.prog 97 Sm97:=by
 have:=h0_97 hg
 have e:(runF TT G97 an97 Try.f97 c97 ps97 rs97)=q97:=by
  funext n x
  exact F97_eq n x.1 x.2.1
 rw [e] at this
 exact this
theorem gam97:GamOK Try.prog G97:=by
 intro f s h
 unfold G97 at h
 split at h
 ·injection h with h; subst h; exact ⟨⟨Try.f117,c117,Try.func117,by kernel_rfl,by decide +kernel⟩,hh117⟩
 ·cases h
theorem hh97:Holds Try.prog 97 Sm97:=holds97 gam97
end Go.Proofs.Ythhopbicmaipgaa.Rx.S

namespace Go.Proofs.Ythhopbicmaipgaa.Rx.S
open Go Go.RowKit Go.Proofs
set_option maxRecDepth 100000
noncomputable def c96:Code:=(Try.f96.body.getD .skip)
def an96:An:=⟨fun _=>⟨[],[]⟩,fun _ _=>none⟩
abbrev ps96:List PK:=[.val tEn true,.val .str false]
abbrev rs96:List RK:=[.val i64 false]
abbrev R96:=retsD rs96 × outsD ps96
noncomputable def G96:Gam:=fun f=>match f with | 97=>some Sm97 | _=>none
theorem h0_96 (hg:GamOK Try.prog G96):Holds Try.prog 96 ⟨ps96,rs96,false,runF TT G96 an96 Try.f96 c96 ps96 rs96⟩:=holds_of tt_ok hg mixed Try.func96 (by kernel_rfl) (by rfl) (by decide +kernel)
noncomputable def st96_top (n:Nat) (a:ByteArray × Int) (b:ByteArray):Option R96 :=
 (q97 n (a.1,b,())).bind fun r0=>some ((r0.1.1,()),())
theorem e96_top (n:Nat) (a:ByteArray × Int) (b:ByteArray):runF TT G96 an96 Try.f96 c96 ps96 rs96 n (a,b,())=st96_top n a b:=by kernel_rfl
noncomputable def p96 (n:Nat) (a:ByteArray × Int) (b:ByteArray):Option R96:=st96_top n a b
theorem F96_eq (n:Nat) (a:ByteArray × Int) (b:ByteArray):runF TT G96 an96 Try.f96 c96 ps96 rs96 n (a,b,())=p96 n a b:=by
 rw [e96_top]
 skip
 try rfl
noncomputable def q96 (n:Nat) (x:argsD ps96):Option R96:=p96 n x.1 x.2.1
noncomputable def Sm96:Sm:=⟨ps96,rs96,false,q96⟩
theorem holds96 (hg:GamOK Try.prog G96):Holds Try.prog 96 Sm96:=by
 have:=h0_96 hg
 have e:(runF TT G96 an96 Try.f96 c96 ps96 rs96)=q96:=by
  funext n x
  exact F96_eq n x.1 x.2.1
 rw [e] at this
 exact this
theorem gam96:GamOK Try.prog G96:=by
 intro f s h
 unfold G96 at h
 split at h
 ·injection h with h; subst h; exact ⟨⟨Try.f97,c97,Try.func97,by kernel_rfl,by decide +kernel⟩,hh97⟩
 ·cases h
theorem hh96:Holds Try.prog 96 Sm96:=holds96 gam96
end Go.Proofs.Ythhopbicmaipgaa.Rx.S

namespace Go.Proofs.Ythhopbicmaipgaa.Rx.S
open Go Go.RowKit Go.Proofs
set_option maxRecDepth 100000
noncomputable def c95:Code:=(Try.f95.body.getD .skip)
def an95:An:=⟨fun r=>match r with | 3=>⟨[0,1,2,8,9,10],[]⟩ | _=>⟨[],[]⟩,fun _ _=>none⟩
abbrev ps95:List PK:=[.val (.row 95 tEn) false,.val .str false,.fn 96 []]
abbrev rs95:List RK:=[.val i64 false,.val .bool false]
abbrev R95:=retsD rs95 × outsD ps95
noncomputable def G95:Gam:=fun f=>match f with | 96=>some Sm96 | _=>none
theorem h0_95 (hg:GamOK Try.prog G95):Holds Try.prog 95 ⟨ps95,rs95,false,runF TT G95 an95 Try.f95 c95 ps95 rs95⟩:=holds_of tt_ok hg mixed Try.func95 (by kernel_rfl) (by rfl) (by decide +kernel)
noncomputable def at95:Nat→Pt→List Nat→St→Option R95:=atF TT G95 an95 Try.f95 c95 _ _
def sh95_L3 (x0:List (ByteArray × Int)) (x1:ByteArray) (x2:Int) (x3:Int) (x4:Int):St:=(St.mk ((AV.one (SV.con (⟨95,Ty.str.pair (Ty.int Go.IntKind.i64),x0⟩:Rw))) :: ((AV.one (SV.str x1)) :: ((AV.fn 96 []) :: (AV.undef :: (AV.undef :: (AV.undef :: (AV.undef :: (AV.undef :: ((AV.one (SV.int (Go.IntKind.i64) x2)) :: ((AV.one (SV.int (Go.IntKind.i64) x3)) :: ((AV.one (SV.int (Go.IntKind.i64) x4)) :: (AV.undef :: (AV.undef :: (AV.undef :: (AV.undef :: (AV.undef :: (AV.undef :: (AV.undef :: (AV.undef :: (AV.undef :: (AV.undef :: (AV.undef :: (AV.undef :: (AV.undef :: (AV.undef :: (AV.undef :: (AV.undef :: (AV.undef :: (AV.undef :: (AV.undef :: (AV.undef :: (AV.undef :: (AV.undef :: (AV.undef :: (AV.undef :: (AV.undef :: (AV.undef :: (AV.undef :: (AV.undef :: (AV.undef :: (AV.undef :: (AV.undef :: (AV.undef :: (AV.undef :: (AV.undef :: (AV.undef :: (AV.undef :: (AV.undef :: (AV.undef :: []))))))))))))))))))))))))))))))))))))))))))))))))) [])
noncomputable def st95_top (n:Nat) (lL3:(List (ByteArray × Int))→ByteArray→Int→Int→Int→Option R95) (a:List (ByteArray × Int)) (b:ByteArray) (c:Unit):Option R95 :=
 lL3 (a) (b) ((↑a.length:Int)) ((0:Int)) ((↑a.length:Int))
noncomputable def st95_L3 (n:Nat) (lL3:(List (ByteArray × Int))→ByteArray→Int→Int→Int→Option R95) (x0:List (ByteArray × Int)) (x1:ByteArray) (x2:Int) (x3:Int) (x4:Int):Option R95 :=
 cond (decide (x3 < x4)) (cond (decide ((0:Int)≤Go.IntKind.i64.wrap ((Go.IntKind.u64.wrap (Go.IntKind.i64.wrap (x3 + x4))).fdiv ((2:Int) ^ min (Int.toNat (1:Int)) Go.IntKind.u64.bits)))) (cond (decide (Go.IntKind.i64.wrap ((Go.IntKind.u64.wrap (Go.IntKind.i64.wrap (x3 + x4))).fdiv ((2:Int) ^ min (Int.toNat (1:Int)) Go.IntKind.u64.bits)) < (↑x0.length:Int))) ((q96 n (((x0.getD (Go.IntKind.i64.wrap ((Go.IntKind.u64.wrap (Go.IntKind.i64.wrap (x3 + x4))).fdiv ((2:Int) ^ min (Int.toNat (1:Int)) Go.IntKind.u64.bits))).toNat (ByteArray.empty,(0:Int))).1,(x0.getD (Go.IntKind.i64.wrap ((Go.IntKind.u64.wrap (Go.IntKind.i64.wrap (x3 + x4))).fdiv ((2:Int) ^ min (Int.toNat (1:Int)) Go.IntKind.u64.bits))).toNat (ByteArray.empty,(0:Int))).2),x1,())).bind fun r1=>cond (decide (r1.1.1 < (0:Int))) (lL3 (x0) (x1) (x2) (Go.IntKind.i64.wrap (Go.IntKind.i64.wrap ((Go.IntKind.u64.wrap (Go.IntKind.i64.wrap (x3 + x4))).fdiv ((2:Int) ^ min (Int.toNat (1:Int)) Go.IntKind.u64.bits)) + (1:Int))) (x4)) (lL3 (x0) (x1) (x2) (x3) (Go.IntKind.i64.wrap ((Go.IntKind.u64.wrap (Go.IntKind.i64.wrap (x3 + x4))).fdiv ((2:Int) ^ min (Int.toNat (1:Int)) Go.IntKind.u64.bits))))) (none)) (none)) (cond (decide (x3 < x2)) (cond (decide ((0:Int)≤x3)) (cond (decide (x3 < (↑x0.length:Int))) ((q96 n (((x0.getD x3.toNat (ByteArray.empty,(0:Int))).1,(x0.getD x3.toNat (ByteArray.empty,(0:Int))).2),x1,())).bind fun r2=>some ((x3,(decide (r2.1.1=(0:Int)),())),())) (none)) (none)) (some ((x3,(false,())),())))
theorem e95_top (n:Nat) (a:List (ByteArray × Int)) (b:ByteArray) (c:Unit):runF TT G95 an95 Try.f95 c95 ps95 rs95 n (a,b,c,())=st95_top n (fun x0 x1 x2 x3 x4=>at95 n (.head 3) [n] (sh95_L3 x0 x1 x2 x3 x4)) a b c:=by kernel_rfl
theorem e95_L3_0 (n:Nat) (x0:List (ByteArray × Int)) (x1:ByteArray) (x2:Int) (x3:Int) (x4:Int):at95 n (.head 3) [0] (sh95_L3 x0 x1 x2 x3 x4)=none:=by kernel_rfl
theorem e95_L3 (n:Nat) (m3:Nat) (x0:List (ByteArray × Int)) (x1:ByteArray) (x2:Int) (x3:Int) (x4:Int):at95 n (.head 3) [m3 + 1] (sh95_L3 x0 x1 x2 x3 x4)=st95_L3 n (fun x0 x1 x2 x3 x4=>at95 n (.head 3) [m3] (sh95_L3 x0 x1 x2 x3 x4)) x0 x1 x2 x3 x4:=by kernel_rfl
noncomputable def p95_L3 (n:Nat):Nat→(List (ByteArray × Int))→ByteArray→Int→Int→Int→Option R95
 | 0,_,_,_,_,_=>none
 | m + 1,x0,x1,x2,x3,x4=>st95_L3 n (p95_L3 n m) x0 x1 x2 x3 x4
noncomputable def p95 (n:Nat) (a:List (ByteArray × Int)) (b:ByteArray) (c:Unit):Option R95:=st95_top n (p95_L3 n n) a b c
theorem t95_L3 (n:Nat):∀ (m3:Nat) (x0:List (ByteArray × Int)) (x1:ByteArray) (x2:Int) (x3:Int) (x4:Int),at95 n (.head 3) [m3] (sh95_L3 x0 x1 x2 x3 x4)=p95_L3 n m3 x0 x1 x2 x3 x4:=by
 intro m
 induction m with
 | zero=>intros; rw [e95_L3_0]; rfl
 | succ m ih =>
  intros
  rw [e95_L3]
  try simp only [ih]
  rfl
theorem F95_eq (n:Nat) (a:List (ByteArray × Int)) (b:ByteArray) (c:Unit):runF TT G95 an95 Try.f95 c95 ps95 rs95 n (a,b,c,())=p95 n a b c:=by
 rw [e95_top]
 simp only [t95_L3]
 try rfl
noncomputable def q95 (n:Nat) (x:argsD ps95):Option R95:=p95 n x.1 x.2.1 x.2.2.1
noncomputable def Sm95:Sm:=⟨ps95,rs95,false,q95⟩
theorem holds95 (hg:GamOK Try.prog G95):Holds Try.prog 95 Sm95:=by
 have:=h0_95 hg
 have e:(runF TT G95 an95 Try.f95 c95 ps95 rs95)=q95:=by
  funext n x
  exact F95_eq n x.1 x.2.1 x.2.2.1
 rw [e] at this
 exact this
theorem gam95:GamOK Try.prog G95:=by
 intro f s h
 unfold G95 at h
 split at h
 ·injection h with h; subst h; exact ⟨⟨Try.f96,c96,Try.func96,by kernel_rfl,by decide +kernel⟩,hh96⟩
 ·cases h
theorem hh95:Holds Try.prog 95 Sm95:=holds95 gam95
end Go.Proofs.Ythhopbicmaipgaa.Rx.S

namespace Go.Proofs.Ythhopbicmaipgaa.Rx.S
open Go Go.RowKit Go.Proofs
set_option maxRecDepth 100000
noncomputable def c59:Code:=(Try.f59.body.getD .skip)
def an59:An:=⟨fun _=>⟨[],[]⟩,fun _ _=>none⟩
abbrev ps59:List PK:=[.val (tIn 95) true,.val .str false]
abbrev rs59:List RK:=[.val i64 false,.val .bool false]
abbrev R59:=retsD rs59 × outsD ps59
noncomputable def G59:Gam:=fun f=>match f with | 95=>some Sm95 | _=>none
theorem h0_59 (hg:GamOK Try.prog G59):Holds Try.prog 59 ⟨ps59,rs59,false,runF TT G59 an59 Try.f59 c59 ps59 rs59⟩:=holds_of tt_ok hg mixed Try.func59 (by kernel_rfl) (by rfl) (by decide +kernel)
noncomputable def st59_top (n:Nat) (a:NT) (b:ByteArray):Option R59 :=
 (q95 n (a.2.2.2.2.2.2.2.2,b,(),())).bind fun r0=>some ((r0.1.1,(r0.1.2.1,())),())
theorem e59_top (n:Nat) (a:NT) (b:ByteArray):runF TT G59 an59 Try.f59 c59 ps59 rs59 n (a,b,())=st59_top n a b:=by kernel_rfl
noncomputable def p59 (n:Nat) (a:NT) (b:ByteArray):Option R59:=st59_top n a b
theorem F59_eq (n:Nat) (a:NT) (b:ByteArray):runF TT G59 an59 Try.f59 c59 ps59 rs59 n (a,b,())=p59 n a b:=by
 rw [e59_top]
 skip
 try rfl
noncomputable def q59 (n:Nat) (x:argsD ps59):Option R59:=p59 n x.1 x.2.1
noncomputable def Sm59:Sm:=⟨ps59,rs59,false,q59⟩
theorem holds59 (hg:GamOK Try.prog G59):Holds Try.prog 59 Sm59:=by
 have:=h0_59 hg
 have e:(runF TT G59 an59 Try.f59 c59 ps59 rs59)=q59:=by
  funext n x
  exact F59_eq n x.1 x.2.1
 rw [e] at this
 exact this
theorem gam59:GamOK Try.prog G59:=by
 intro f s h
 unfold G59 at h
 split at h
 ·injection h with h; subst h; exact ⟨⟨Try.f95,c95,Try.func95,by kernel_rfl,by decide +kernel⟩,hh95⟩
 ·cases h
theorem hh59:Holds Try.prog 59 Sm59:=holds59 gam59
end Go.Proofs.Ythhopbicmaipgaa.Rx.S

namespace Go.Proofs.Ythhopbicmaipgaa.Rx.S
open Go Go.RowKit Go.Proofs
set_option maxRecDepth 100000
noncomputable def c58:Code:=(Try.f58.body.getD .skip)
def an58:An:=⟨fun _=>⟨[],[]⟩,fun _ _=>none⟩
abbrev ps58:List PK:=[.val (tIn 95) true]
abbrev rs58:List RK:=[.val .bool false]
abbrev R58:=retsD rs58 × outsD ps58
noncomputable def G58:Gam:=fun _=>none
theorem h0_58 (hg:GamOK Try.prog G58):Holds Try.prog 58 ⟨ps58,rs58,false,runF TT G58 an58 Try.f58 c58 ps58 rs58⟩:=holds_of tt_ok hg mixed Try.func58 (by kernel_rfl) (by rfl) (by decide +kernel)
noncomputable def st58_top (n:Nat) (a:NT):Option R58 :=
 some ((decide (a.1=(0:Int)),()),())
theorem e58_top (n:Nat) (a:NT):runF TT G58 an58 Try.f58 c58 ps58 rs58 n (a,())=st58_top n a:=by kernel_rfl
noncomputable def p58 (n:Nat) (a:NT):Option R58:=st58_top n a
theorem F58_eq (n:Nat) (a:NT):runF TT G58 an58 Try.f58 c58 ps58 rs58 n (a,())=p58 n a:=by
 rw [e58_top]
 skip
 try rfl
noncomputable def q58 (n:Nat) (x:argsD ps58):Option R58:=p58 n x.1
noncomputable def Sm58:Sm:=⟨ps58,rs58,false,q58⟩
theorem holds58 (hg:GamOK Try.prog G58):Holds Try.prog 58 Sm58:=by
 have:=h0_58 hg
 have e:(runF TT G58 an58 Try.f58 c58 ps58 rs58)=q58:=by
  funext n x
  exact F58_eq n x.1
 rw [e] at this
 exact this
theorem gam58:GamOK Try.prog G58:=fun _ _ h=>by cases h
theorem hh58:Holds Try.prog 58 Sm58:=holds58 gam58
end Go.Proofs.Ythhopbicmaipgaa.Rx.S

namespace Go.Proofs.Ythhopbicmaipgaa.Rx.S
open Go Go.RowKit Go.Proofs
set_option maxRecDepth 100000
noncomputable def c57:Code:=(Try.f57.body.getD .skip)
def an57:An:=⟨fun r=>match r with | 2=>⟨[0,1,7,8],[]⟩ | _=>⟨[],[]⟩,fun _ _=>none⟩
abbrev ps57:List PK:=[.val tFs false,.fn 58 []]
abbrev rs57:List RK:=[.val i64 false]
abbrev R57:=retsD rs57 × outsD ps57
noncomputable def G57:Gam:=fun f=>match f with | 58=>some Sm58 | _=>none
theorem h0_57 (hg:GamOK Try.prog G57):Holds Try.prog 57 ⟨ps57,rs57,false,runF TT G57 an57 Try.f57 c57 ps57 rs57⟩:=holds_of tt_ok hg mixed Try.func57 (by kernel_rfl) (by rfl) (by decide +kernel)
noncomputable def at57:Nat→Pt→List Nat→St→Option R57:=atF TT G57 an57 Try.f57 c57 _ _
def sh57_L2 (x0:List NT) (x1:Int) (x2:Int):St:=(St.mk ((AV.one (SV.con (⟨39,(Ty.int Go.IntKind.i64).pair ((Ty.int Go.IntKind.i64).pair ((Ty.int Go.IntKind.i64).pair ((Ty.int Go.IntKind.i64).pair ((Ty.int Go.IntKind.i64).pair ((Ty.int Go.IntKind.i64).pair (Ty.bool.pair (Ty.str.pair (Ty.row (nat_lit 95) (Ty.str.pair (Ty.int Go.IntKind.i64)))))))))),x0⟩:Rw))) :: ((AV.fn 58 []) :: (AV.undef :: (AV.undef :: (AV.undef :: (AV.undef :: (AV.undef :: ((AV.one (SV.int (Go.IntKind.i64) x1)) :: ((AV.one (SV.int (Go.IntKind.i64) x2)) :: (AV.undef :: (AV.undef :: (AV.undef :: (AV.undef :: (AV.undef :: (AV.undef :: (AV.undef :: (AV.undef :: (AV.undef :: (AV.undef :: []))))))))))))))))))) [])
noncomputable def st57_top (n:Nat) (lL2:(List NT)→Int→Int→Option R57) (a:List NT) (b:Unit):Option R57 :=
 lL2 (a) ((↑a.length:Int)) ((0:Int))
noncomputable def st57_L2 (n:Nat) (lL2:(List NT)→Int→Int→Option R57) (x0:List NT) (x1:Int) (x2:Int):Option R57 :=
 cond (decide (x2 < x1)) (cond (decide ((0:Int)≤x2)) (cond (decide (x2 < (↑x0.length:Int))) ((q58 n (((x0.getD x2.toNat ZN).1,(x0.getD x2.toNat ZN).2.1,(x0.getD x2.toNat ZN).2.2.1,(x0.getD x2.toNat ZN).2.2.2.1,(x0.getD x2.toNat ZN).2.2.2.2.1,(x0.getD x2.toNat ZN).2.2.2.2.2.1,(x0.getD x2.toNat ZN).2.2.2.2.2.2.1,(x0.getD x2.toNat ZN).2.2.2.2.2.2.2.1,(x0.getD x2.toNat ZN).2.2.2.2.2.2.2.2),())).bind fun r1=>cond (r1.1.1) (some ((x2,()),())) (lL2 (x0) (x1) (Go.IntKind.i64.wrap (x2 + (1:Int))))) (none)) (none)) (some (((-1:Int),()),()))
theorem e57_top (n:Nat) (a:List NT) (b:Unit):runF TT G57 an57 Try.f57 c57 ps57 rs57 n (a,b,())=st57_top n (fun x0 x1 x2=>at57 n (.head 2) [n] (sh57_L2 x0 x1 x2)) a b:=by kernel_rfl
theorem e57_L2_0 (n:Nat) (x0:List NT) (x1:Int) (x2:Int):at57 n (.head 2) [0] (sh57_L2 x0 x1 x2)=none:=by kernel_rfl
theorem e57_L2 (n:Nat) (m2:Nat) (x0:List NT) (x1:Int) (x2:Int):at57 n (.head 2) [m2 + 1] (sh57_L2 x0 x1 x2)=st57_L2 n (fun x0 x1 x2=>at57 n (.head 2) [m2] (sh57_L2 x0 x1 x2)) x0 x1 x2:=by kernel_rfl
noncomputable def p57_L2 (n:Nat):Nat→(List NT)→Int→Int→Option R57
 | 0,_,_,_=>none
 | m + 1,x0,x1,x2=>st57_L2 n (p57_L2 n m) x0 x1 x2
noncomputable def p57 (n:Nat) (a:List NT) (b:Unit):Option R57:=st57_top n (p57_L2 n n) a b
theorem t57_L2 (n:Nat):∀ (m2:Nat) (x0:List NT) (x1:Int) (x2:Int),at57 n (.head 2) [m2] (sh57_L2 x0 x1 x2)=p57_L2 n m2 x0 x1 x2:=by
 intro m
 induction m with
 | zero=>intros; rw [e57_L2_0]; rfl
 | succ m ih =>
  intros
  rw [e57_L2]
  try simp only [ih]
  rfl
theorem F57_eq (n:Nat) (a:List NT) (b:Unit):runF TT G57 an57 Try.f57 c57 ps57 rs57 n (a,b,())=p57 n a b:=by
 rw [e57_top]
 simp only [t57_L2]
 try rfl
noncomputable def q57 (n:Nat) (x:argsD ps57):Option R57:=p57 n x.1 x.2.1
noncomputable def Sm57:Sm:=⟨ps57,rs57,false,q57⟩
theorem holds57 (hg:GamOK Try.prog G57):Holds Try.prog 57 Sm57:=by
 have:=h0_57 hg
 have e:(runF TT G57 an57 Try.f57 c57 ps57 rs57)=q57:=by
  funext n x
  exact F57_eq n x.1 x.2.1
 rw [e] at this
 exact this
theorem gam57:GamOK Try.prog G57:=by
 intro f s h
 unfold G57 at h
 split at h
 ·injection h with h; subst h; exact ⟨⟨Try.f58,c58,Try.func58,by kernel_rfl,by decide +kernel⟩,hh58⟩
 ·cases h
theorem hh57:Holds Try.prog 57 Sm57:=holds57 gam57
end Go.Proofs.Ythhopbicmaipgaa.Rx.S

namespace Go.Proofs.Ythhopbicmaipgaa.Rx.S
open Go Go.RowKit Go.Proofs
set_option maxRecDepth 100000
noncomputable def c118:Code:=(Try.f118.body.getD .skip)
def an118:An:=⟨fun _=>⟨[],[]⟩,fun _ _=>none⟩
abbrev ps118:List PK:=[.val i64 false,.val i64 false]
abbrev rs118:List RK:=[.val i64 false]
abbrev R118:=retsD rs118 × outsD ps118
noncomputable def G118:Gam:=fun _=>none
theorem h0_118 (hg:GamOK Try.prog G118):Holds Try.prog 118 ⟨ps118,rs118,false,runF TT G118 an118 Try.f118 c118 ps118 rs118⟩:=holds_of tt_ok hg mixed Try.func118 (by kernel_rfl) (by rfl) (by decide +kernel)
noncomputable def st118_top (n:Nat) (a:Int) (b:Int):Option R118 :=
 cond (decide ((0:Int)≤Go.IntKind.i64.wrap ((3:Int) * Go.IntKind.i64.wrap ((2:Int) - b)))) (some ((Go.IntKind.i64.wrap (↑(BitVec.ofInt Go.IntKind.i64.bits (a.fdiv ((2:Int) ^ min (Go.IntKind.i64.wrap ((3:Int) * Go.IntKind.i64.wrap ((2:Int) - b))).toNat Go.IntKind.i64.bits)) &&& BitVec.ofInt Go.IntKind.i64.bits (7:Int)).toNat:Int),()),())) (none)
theorem e118_top (n:Nat) (a:Int) (b:Int):runF TT G118 an118 Try.f118 c118 ps118 rs118 n (a,b,())=st118_top n a b:=by kernel_rfl
noncomputable def p118 (n:Nat) (a:Int) (b:Int):Option R118:=st118_top n a b
theorem F118_eq (n:Nat) (a:Int) (b:Int):runF TT G118 an118 Try.f118 c118 ps118 rs118 n (a,b,())=p118 n a b:=by
 rw [e118_top]
 skip
 try rfl
noncomputable def q118 (n:Nat) (x:argsD ps118):Option R118:=p118 n x.1 x.2.1
noncomputable def Sm118:Sm:=⟨ps118,rs118,false,q118⟩
theorem holds118 (hg:GamOK Try.prog G118):Holds Try.prog 118 Sm118:=by
 have:=h0_118 hg
 have e:(runF TT G118 an118 Try.f118 c118 ps118 rs118)=q118:=by
  funext n x
  exact F118_eq n x.1 x.2.1
 rw [e] at this
 exact this
theorem gam118:GamOK Try.prog G118:=fun _ _ h=>by cases h
theorem hh118:Holds Try.prog 118 Sm118:=holds118 gam118
end Go.Proofs.Ythhopbicmaipgaa.Rx.S

namespace Go.Proofs.Ythhopbicmaipgaa.Rx.S
open Go Go.RowKit Go.Proofs
set_option maxRecDepth 100000
noncomputable def c130:Code:=(Try.f130.body.getD .skip)
def an130:An:=⟨fun r=>match r with | 2=>⟨[0,1,7,8],[]⟩ | _=>⟨[],[]⟩,fun _ _=>none⟩
abbrev ps130:List PK:=[.val (.row 3 i64) false,.val i64 false]
abbrev rs130:List RK:=[.val i64 false]
abbrev R130:=retsD rs130 × outsD ps130
noncomputable def G130:Gam:=fun _=>none
theorem h0_130 (hg:GamOK Try.prog G130):Holds Try.prog 130 ⟨ps130,rs130,false,runF TT G130 an130 Try.f130 c130 ps130 rs130⟩:=holds_of tt_ok hg mixed Try.func130 (by kernel_rfl) (by rfl) (by decide +kernel)
noncomputable def at130:Nat→Pt→List Nat→St→Option R130:=atF TT G130 an130 Try.f130 c130 _ _
def sh130_L2 (x0:List Int) (x1:Int) (x2:Int) (x3:Int):St:=(St.mk ((AV.one (SV.con (⟨3,Ty.int Go.IntKind.i64,x0⟩:Rw))) :: ((AV.one (SV.int (Go.IntKind.i64) x1)) :: (AV.undef :: (AV.undef :: (AV.undef :: (AV.undef :: (AV.undef :: ((AV.one (SV.int (Go.IntKind.i64) x2)) :: ((AV.one (SV.int (Go.IntKind.i64) x3)) :: (AV.undef :: (AV.undef :: (AV.undef :: (AV.undef :: (AV.undef :: (AV.undef :: (AV.undef :: (AV.undef :: (AV.undef :: (AV.undef :: []))))))))))))))))))) [])
noncomputable def st130_top (n:Nat) (lL2:(List Int)→Int→Int→Int→Option R130) (a:List Int) (b:Int):Option R130 :=
 lL2 (a) (b) ((↑a.length:Int)) ((0:Int))
noncomputable def st130_L2 (n:Nat) (lL2:(List Int)→Int→Int→Int→Option R130) (x0:List Int) (x1:Int) (x2:Int) (x3:Int):Option R130 :=
 cond (decide (x3 < x2)) (cond (decide ((0:Int)≤x3)) (cond (decide (x3 < (↑x0.length:Int))) (cond (decide (x1=x0.getD x3.toNat (0:Int))) (some ((x3,()),())) (lL2 (x0) (x1) (x2) (Go.IntKind.i64.wrap (x3 + (1:Int))))) (none)) (none)) (some (((-1:Int),()),()))
theorem e130_top (n:Nat) (a:List Int) (b:Int):runF TT G130 an130 Try.f130 c130 ps130 rs130 n (a,b,())=st130_top n (fun x0 x1 x2 x3=>at130 n (.head 2) [n] (sh130_L2 x0 x1 x2 x3)) a b:=by kernel_rfl
theorem e130_L2_0 (n:Nat) (x0:List Int) (x1:Int) (x2:Int) (x3:Int):at130 n (.head 2) [0] (sh130_L2 x0 x1 x2 x3)=none:=by kernel_rfl
theorem e130_L2 (n:Nat) (m2:Nat) (x0:List Int) (x1:Int) (x2:Int) (x3:Int):at130 n (.head 2) [m2 + 1] (sh130_L2 x0 x1 x2 x3)=st130_L2 n (fun x0 x1 x2 x3=>at130 n (.head 2) [m2] (sh130_L2 x0 x1 x2 x3)) x0 x1 x2 x3:=by kernel_rfl
noncomputable def p130_L2 (n:Nat):Nat→(List Int)→Int→Int→Int→Option R130
 | 0,_,_,_,_=>none
 | m + 1,x0,x1,x2,x3=>st130_L2 n (p130_L2 n m) x0 x1 x2 x3
noncomputable def p130 (n:Nat) (a:List Int) (b:Int):Option R130:=st130_top n (p130_L2 n n) a b
theorem t130_L2 (n:Nat):∀ (m2:Nat) (x0:List Int) (x1:Int) (x2:Int) (x3:Int),at130 n (.head 2) [m2] (sh130_L2 x0 x1 x2 x3)=p130_L2 n m2 x0 x1 x2 x3:=by
 intro m
 induction m with
 | zero=>intros; rw [e130_L2_0]; rfl
 | succ m ih =>
  intros
  rw [e130_L2]
  try simp only [ih]
  rfl
theorem F130_eq (n:Nat) (a:List Int) (b:Int):runF TT G130 an130 Try.f130 c130 ps130 rs130 n (a,b,())=p130 n a b:=by
 rw [e130_top]
 simp only [t130_L2]
 try rfl
noncomputable def q130 (n:Nat) (x:argsD ps130):Option R130:=p130 n x.1 x.2.1
noncomputable def Sm130:Sm:=⟨ps130,rs130,false,q130⟩
theorem holds130 (hg:GamOK Try.prog G130):Holds Try.prog 130 Sm130:=by
 have:=h0_130 hg
 have e:(runF TT G130 an130 Try.f130 c130 ps130 rs130)=q130:=by
  funext n x
  exact F130_eq n x.1 x.2.1
 rw [e] at this
 exact this
theorem gam130:GamOK Try.prog G130:=fun _ _ h=>by cases h
theorem hh130:Holds Try.prog 130 Sm130:=holds130 gam130
end Go.Proofs.Ythhopbicmaipgaa.Rx.S

namespace Go.Proofs.Ythhopbicmaipgaa.Rx.S
open Go Go.RowKit Go.Proofs
set_option maxRecDepth 100000
noncomputable def c119:Code:=(Try.f119.body.getD .skip)
def an119:An:=⟨fun _=>⟨[],[]⟩,fun _ _=>none⟩
abbrev ps119:List PK:=[.val (.row 3 i64) false,.val i64 false]
abbrev rs119:List RK:=[.val .bool false]
abbrev R119:=retsD rs119 × outsD ps119
noncomputable def G119:Gam:=fun f=>match f with | 130=>some Sm130 | _=>none
theorem h0_119 (hg:GamOK Try.prog G119):Holds Try.prog 119 ⟨ps119,rs119,false,runF TT G119 an119 Try.f119 c119 ps119 rs119⟩:=holds_of tt_ok hg mixed Try.func119 (by kernel_rfl) (by rfl) (by decide +kernel)
noncomputable def st119_top (n:Nat) (a:List Int) (b:Int):Option R119 :=
 (q130 n (a,b,())).bind fun r0=>some ((decide ((0:Int)≤r0.1.1),()),())
theorem e119_top (n:Nat) (a:List Int) (b:Int):runF TT G119 an119 Try.f119 c119 ps119 rs119 n (a,b,())=st119_top n a b:=by kernel_rfl
noncomputable def p119 (n:Nat) (a:List Int) (b:Int):Option R119:=st119_top n a b
theorem F119_eq (n:Nat) (a:List Int) (b:Int):runF TT G119 an119 Try.f119 c119 ps119 rs119 n (a,b,())=p119 n a b:=by
 rw [e119_top]
 skip
 try rfl
noncomputable def q119 (n:Nat) (x:argsD ps119):Option R119:=p119 n x.1 x.2.1
noncomputable def Sm119:Sm:=⟨ps119,rs119,false,q119⟩
theorem holds119 (hg:GamOK Try.prog G119):Holds Try.prog 119 Sm119:=by
 have:=h0_119 hg
 have e:(runF TT G119 an119 Try.f119 c119 ps119 rs119)=q119:=by
  funext n x
  exact F119_eq n x.1 x.2.1
 rw [e] at this
 exact this
theorem gam119:GamOK Try.prog G119:=by
 intro f s h
 unfold G119 at h
 split at h
 ·injection h with h; subst h; exact ⟨⟨Try.f130,c130,Try.func130,by kernel_rfl,by decide +kernel⟩,hh130⟩
 ·cases h
theorem hh119:Holds Try.prog 119 Sm119:=holds119 gam119
end Go.Proofs.Ythhopbicmaipgaa.Rx.S

namespace Go.Proofs.Ythhopbicmaipgaa.Rx.S
open Go Go.RowKit Go.Proofs
set_option maxRecDepth 100000
noncomputable def c98:Code:=(Try.f98.body.getD .skip)
def an98:An:=⟨fun _=>⟨[],[]⟩,fun _ _=>none⟩
abbrev ps98:List PK:=[.val tCr true,.val i64 false,.val i64 false,.val i64 false,.val i64 false]
abbrev rs98:List RK:=[.val .bool false]
abbrev R98:=retsD rs98 × outsD ps98
noncomputable def G98:Gam:=fun f=>match f with | 55=>some Sm55 | 90=>some Sm90 | 118=>some Sm118 | 119=>some Sm119 | _=>none
theorem h0_98 (hg:GamOK Try.prog G98):Holds Try.prog 98 ⟨ps98,rs98,false,runF TT G98 an98 Try.f98 c98 ps98 rs98⟩:=holds_of tt_ok hg mixed Try.func98 (by kernel_rfl) (by rfl) (by decide +kernel)
noncomputable def st98_top (n:Nat) (a:Int × Int × List Int) (b:Int) (c:Int) (d:Int) (e:Int):Option R98 :=
 (q90 n ((a.1,a.2.1,a.2.2),())).bind fun r0=>cond (!r0.1.1) (some ((false,()),())) ((q55 n (b,(0:Int),(9:Int),())).bind fun r1=>cond (!r1.1.1) (some ((false,()),())) ((q55 n (c,(0:Int),(9:Int),())).bind fun r2=>cond (!r2.1.1) (some ((false,()),())) ((q55 n (d,(0:Int),(511:Int),())).bind fun r3=>cond (!r3.1.1) (some ((false,()),())) ((q55 n (e,(1:Int),(7:Int),())).bind fun r4=>cond (!r4.1.1) (some ((false,()),())) (cond (decide (a.1=(0:Int))) (cond (decide (Go.IntKind.i64.wrap (↑(BitVec.ofInt Go.IntKind.i64.bits e &&& BitVec.ofInt Go.IntKind.i64.bits (1:Int)).toNat:Int)=(0:Int))) (some ((true,()),())) ((q118 n (d,(0:Int),())).bind fun r5=>(q118 n (d,(1:Int),())).bind fun r6=>(q118 n (d,(2:Int),())).bind fun r7=>some ((decide (Go.IntKind.i64.wrap (↑(BitVec.ofInt Go.IntKind.i64.bits (Go.IntKind.i64.wrap (↑(BitVec.ofInt Go.IntKind.i64.bits (Go.IntKind.i64.wrap (↑(BitVec.ofInt Go.IntKind.i64.bits r5.1.1|||BitVec.ofInt Go.IntKind.i64.bits r6.1.1).toNat:Int))|||BitVec.ofInt Go.IntKind.i64.bits r7.1.1).toNat:Int)) &&& BitVec.ofInt Go.IntKind.i64.bits (1:Int)).toNat:Int)=(1:Int)),()),()))) (cond (decide (a.1=b)) ((q118 n (d,(0:Int),())).bind fun r8=>some ((decide (Go.IntKind.i64.wrap (↑(BitVec.ofInt Go.IntKind.i64.bits r8.1.1 &&& BitVec.ofInt Go.IntKind.i64.bits e).toNat:Int)=e),()),())) ((q119 n (a.2.2,c,())).bind fun r9=>cond (r9.1.1) ((q118 n (d,(1:Int),())).bind fun r10=>some ((decide (Go.IntKind.i64.wrap (↑(BitVec.ofInt Go.IntKind.i64.bits r10.1.1 &&& BitVec.ofInt Go.IntKind.i64.bits e).toNat:Int)=e),()),())) ((q118 n (d,(2:Int),())).bind fun r11=>some ((decide (Go.IntKind.i64.wrap (↑(BitVec.ofInt Go.IntKind.i64.bits r11.1.1 &&& BitVec.ofInt Go.IntKind.i64.bits e).toNat:Int)=e),()),())))))))))
theorem e98_top (n:Nat) (a:Int × Int × List Int) (b:Int) (c:Int) (d:Int) (e:Int):runF TT G98 an98 Try.f98 c98 ps98 rs98 n (a,b,c,d,e,())=st98_top n a b c d e:=by kernel_rfl
noncomputable def p98 (n:Nat) (a:Int × Int × List Int) (b:Int) (c:Int) (d:Int) (e:Int):Option R98:=st98_top n a b c d e
theorem F98_eq (n:Nat) (a:Int × Int × List Int) (b:Int) (c:Int) (d:Int) (e:Int):runF TT G98 an98 Try.f98 c98 ps98 rs98 n (a,b,c,d,e,())=p98 n a b c d e:=by
 rw [e98_top]
 skip
 try rfl
noncomputable def q98 (n:Nat) (x:argsD ps98):Option R98:=p98 n x.1 x.2.1 x.2.2.1 x.2.2.2.1 x.2.2.2.2.1
noncomputable def Sm98:Sm:=⟨ps98,rs98,false,q98⟩
theorem holds98 (hg:GamOK Try.prog G98):Holds Try.prog 98 Sm98:=by
 have:=h0_98 hg
 have e:(runF TT G98 an98 Try.f98 c98 ps98 rs98)=q98:=by
  funext n x
  exact F98_eq n x.1 x.2.1 x.2.2.1 x.2.2.2.1 x.2.2.2.2.1
 rw [e] at this
 exact this
theorem gam98:GamOK Try.prog G98:=by
 intro f s h
 unfold G98 at h
 split at h
 ·injection h with h; subst h; exact ⟨⟨Try.f55,c55,Try.func55,by kernel_rfl,by decide +kernel⟩,hh55⟩
 ·injection h with h; subst h; exact ⟨⟨Try.f90,c90,Try.func90,by kernel_rfl,by decide +kernel⟩,hh90⟩
 ·injection h with h; subst h; exact ⟨⟨Try.f118,c118,Try.func118,by kernel_rfl,by decide +kernel⟩,hh118⟩
 ·injection h with h; subst h; exact ⟨⟨Try.f119,c119,Try.func119,by kernel_rfl,by decide +kernel⟩,hh119⟩
 ·cases h
theorem hh98:Holds Try.prog 98 Sm98:=holds98 gam98
end Go.Proofs.Ythhopbicmaipgaa.Rx.S

namespace Go.Proofs.Ythhopbicmaipgaa.Rx.S
open Go Go.RowKit Go.Proofs
set_option maxRecDepth 100000
noncomputable def c60:Code:=(Try.f60.body.getD .skip)
def an60:An:=⟨fun _=>⟨[],[]⟩,fun _ _=>none⟩
abbrev ps60:List PK:=[.val (tIn 95) true,.val tCr true,.val i64 false]
abbrev rs60:List RK:=[.val .bool false]
abbrev R60:=retsD rs60 × outsD ps60
noncomputable def G60:Gam:=fun f=>match f with | 98=>some Sm98 | _=>none
theorem h0_60 (hg:GamOK Try.prog G60):Holds Try.prog 60 ⟨ps60,rs60,false,runF TT G60 an60 Try.f60 c60 ps60 rs60⟩:=holds_of tt_ok hg mixed Try.func60 (by kernel_rfl) (by rfl) (by decide +kernel)
noncomputable def st60_top (n:Nat) (a:NT) (b:Int × Int × List Int) (c:Int):Option R60 :=
 (q98 n ((b.1,b.2.1,b.2.2),a.2.2.1,a.2.2.2.1,a.2.1,c,())).bind fun r0=>some ((r0.1.1,()),())
theorem e60_top (n:Nat) (a:NT) (b:Int × Int × List Int) (c:Int):runF TT G60 an60 Try.f60 c60 ps60 rs60 n (a,b,c,())=st60_top n a b c:=by kernel_rfl
noncomputable def p60 (n:Nat) (a:NT) (b:Int × Int × List Int) (c:Int):Option R60:=st60_top n a b c
theorem F60_eq (n:Nat) (a:NT) (b:Int × Int × List Int) (c:Int):runF TT G60 an60 Try.f60 c60 ps60 rs60 n (a,b,c,())=p60 n a b c:=by
 rw [e60_top]
 skip
 try rfl
noncomputable def q60 (n:Nat) (x:argsD ps60):Option R60:=p60 n x.1 x.2.1 x.2.2.1
noncomputable def Sm60:Sm:=⟨ps60,rs60,false,q60⟩
theorem holds60 (hg:GamOK Try.prog G60):Holds Try.prog 60 Sm60:=by
 have:=h0_60 hg
 have e:(runF TT G60 an60 Try.f60 c60 ps60 rs60)=q60:=by
  funext n x
  exact F60_eq n x.1 x.2.1 x.2.2.1
 rw [e] at this
 exact this
theorem gam60:GamOK Try.prog G60:=by
 intro f s h
 unfold G60 at h
 split at h
 ·injection h with h; subst h; exact ⟨⟨Try.f98,c98,Try.func98,by kernel_rfl,by decide +kernel⟩,hh98⟩
 ·cases h
theorem hh60:Holds Try.prog 60 Sm60:=holds60 gam60
end Go.Proofs.Ythhopbicmaipgaa.Rx.S

namespace Go.Proofs.Ythhopbicmaipgaa.Rx.S
open Go Go.RowKit Go.Proofs
set_option maxRecDepth 100000
noncomputable def c51:Code:=(Try.f51.body.getD .skip)
def an51:An:=⟨fun _=>⟨[],[]⟩,fun _ _=>none⟩
abbrev ps51:List PK:=[.bx tRd,.val i64 false]
abbrev rs51:List RK:=[.val i64 false]
abbrev R51:=retsD rs51 × outsD ps51
noncomputable def G51:Gam:=fun _=>none
theorem h0_51 (hg:GamOK Try.prog G51):Holds Try.prog 51 ⟨ps51,rs51,true,runF TT G51 an51 Try.f51 c51 ps51 rs51⟩:=holds_of tt_ok hg mixed Try.func51 (by kernel_rfl) (by rfl) (by decide +kernel)
noncomputable def st51_top (n:Nat) (a:List Int × Int) (b:Int):Option R51 :=
 cond (decide (b < (1:Int))) (some (((0:Int),()),((a.1,Go.IntKind.i64.wrap (a.2 + (1:Int))),()))) (cond (decide ((↑(List.length a.1):Int)=(0:Int))) (some (((0:Int),()),((a.1,Go.IntKind.i64.wrap (a.2 + (1:Int))),()))) (cond (decide (Go.IntKind.i64.wrap (Go.IntKind.i64.wrap (a.2 + (1:Int)) - (1:Int)) < (↑(List.length a.1):Int))) (cond (decide ((0:Int)≤Go.IntKind.i64.wrap (Go.IntKind.i64.wrap (a.2 + (1:Int)) - (1:Int)))) (cond (decide (Go.IntKind.i64.wrap (Go.IntKind.i64.wrap (a.2 + (1:Int)) - (1:Int)) < (↑(List.length a.1):Int))) (cond (!decide (b=(0:Int))) (some (((Go.IntKind.i64.wrap (List.getD a.1 (Go.IntKind.i64.wrap (Go.IntKind.i64.wrap (a.2 + (1:Int)) - (1:Int))).toNat (0:Int))).tmod b,()),((a.1,Go.IntKind.i64.wrap (a.2 + (1:Int))),()))) (none)) (none)) (none)) (cond (!decide ((↑(List.length a.1):Int)=(0:Int))) (cond (decide ((0:Int)≤(Go.IntKind.i64.wrap (Go.IntKind.i64.wrap (a.2 + (1:Int)) - (1:Int))).tmod (↑(List.length a.1):Int))) (cond (decide ((Go.IntKind.i64.wrap (Go.IntKind.i64.wrap (a.2 + (1:Int)) - (1:Int))).tmod (↑(List.length a.1):Int) < (↑(List.length a.1):Int))) (cond (!decide ((↑(List.length a.1):Int)=(0:Int))) (cond (decide ((0:Int)≤(Go.IntKind.i64.wrap (Go.IntKind.i64.wrap (Go.IntKind.i64.wrap (Go.IntKind.i64.wrap (a.2 + (1:Int)) - (1:Int)) * (7:Int)) + (3:Int))).tmod (↑(List.length a.1):Int))) (cond (decide ((Go.IntKind.i64.wrap (Go.IntKind.i64.wrap (Go.IntKind.i64.wrap (Go.IntKind.i64.wrap (a.2 + (1:Int)) - (1:Int)) * (7:Int)) + (3:Int))).tmod (↑(List.length a.1):Int) < (↑(List.length a.1):Int))) (cond (!decide ((↑(List.length a.1):Int)=(0:Int))) (cond (!decide (b=(0:Int))) (some (((Go.IntKind.i64.wrap (↑(BitVec.ofInt Go.IntKind.i64.bits (Go.IntKind.i64.wrap (Go.IntKind.i64.wrap (Go.IntKind.i64.wrap (Go.IntKind.i64.wrap (Go.IntKind.i64.wrap (List.getD a.1 ((Go.IntKind.i64.wrap (Go.IntKind.i64.wrap (a.2 + (1:Int)) - (1:Int))).tmod (↑(List.length a.1):Int)).toNat (0:Int)) * (131:Int)) + Go.IntKind.i64.wrap (Go.IntKind.i64.wrap (List.getD a.1 ((Go.IntKind.i64.wrap (Go.IntKind.i64.wrap (Go.IntKind.i64.wrap (Go.IntKind.i64.wrap (a.2 + (1:Int)) - (1:Int)) * (7:Int)) + (3:Int))).tmod (↑(List.length a.1):Int)).toNat (0:Int)) * (1117:Int))) + Go.IntKind.i64.wrap (Go.IntKind.i64.wrap (Go.IntKind.i64.wrap (a.2 + (1:Int)) - (1:Int)) * (29:Int))) + Go.IntKind.i64.wrap (Go.IntKind.i64.wrap ((Go.IntKind.i64.wrap (Go.IntKind.i64.wrap (a.2 + (1:Int)) - (1:Int))).tdiv (↑(List.length a.1):Int)) * (53:Int)))) ^^^ BitVec.ofInt Go.IntKind.i64.bits (Go.IntKind.i64.wrap ((Go.IntKind.i64.wrap (Go.IntKind.i64.wrap (Go.IntKind.i64.wrap (Go.IntKind.i64.wrap (Go.IntKind.i64.wrap (List.getD a.1 ((Go.IntKind.i64.wrap (Go.IntKind.i64.wrap (a.2 + (1:Int)) - (1:Int))).tmod (↑(List.length a.1):Int)).toNat (0:Int)) * (131:Int)) + Go.IntKind.i64.wrap (Go.IntKind.i64.wrap (List.getD a.1 ((Go.IntKind.i64.wrap (Go.IntKind.i64.wrap (Go.IntKind.i64.wrap (Go.IntKind.i64.wrap (a.2 + (1:Int)) - (1:Int)) * (7:Int)) + (3:Int))).tmod (↑(List.length a.1):Int)).toNat (0:Int)) * (1117:Int))) + Go.IntKind.i64.wrap (Go.IntKind.i64.wrap (Go.IntKind.i64.wrap (a.2 + (1:Int)) - (1:Int)) * (29:Int))) + Go.IntKind.i64.wrap (Go.IntKind.i64.wrap ((Go.IntKind.i64.wrap (Go.IntKind.i64.wrap (a.2 + (1:Int)) - (1:Int))).tdiv (↑(List.length a.1):Int)) * (53:Int)))).tdiv (64:Int)))).toNat:Int)).tmod b,()),((a.1,Go.IntKind.i64.wrap (a.2 + (1:Int))),()))) (none)) (none)) (none)) (none)) (none)) (none)) (none)) (none))))
theorem e51_top (n:Nat) (a:List Int × Int) (b:Int):runF TT G51 an51 Try.f51 c51 ps51 rs51 n (a,b,())=st51_top n a b:=by kernel_rfl
noncomputable def p51 (n:Nat) (a:List Int × Int) (b:Int):Option R51:=st51_top n a b
theorem F51_eq (n:Nat) (a:List Int × Int) (b:Int):runF TT G51 an51 Try.f51 c51 ps51 rs51 n (a,b,())=p51 n a b:=by
 rw [e51_top]
 skip
 try rfl
noncomputable def q51 (n:Nat) (x:argsD ps51):Option R51:=p51 n x.1 x.2.1
noncomputable def Sm51:Sm:=⟨ps51,rs51,true,q51⟩
theorem holds51 (hg:GamOK Try.prog G51):Holds Try.prog 51 Sm51:=by
 have:=h0_51 hg
 have e:(runF TT G51 an51 Try.f51 c51 ps51 rs51)=q51:=by
  funext n x
  exact F51_eq n x.1 x.2.1
 rw [e] at this
 exact this
theorem gam51:GamOK Try.prog G51:=fun _ _ h=>by cases h
theorem hh51:Holds Try.prog 51 Sm51:=holds51 gam51
end Go.Proofs.Ythhopbicmaipgaa.Rx.S

namespace Go.Proofs.Ythhopbicmaipgaa.Rx.S
open Go Go.RowKit Go.Proofs
set_option maxRecDepth 100000
noncomputable def c50:Code:=(Try.f50.body.getD .skip)
def an50:An:=⟨fun _=>⟨[],[]⟩,fun _ _=>none⟩
abbrev ps50:List PK:=[.bx tRd]
abbrev rs50:List RK:=[.val .str false]
abbrev R50:=retsD rs50 × outsD ps50
noncomputable def G50:Gam:=fun f=>match f with | 51=>some Sm51 | _=>none
theorem h0_50 (hg:GamOK Try.prog G50):Holds Try.prog 50 ⟨ps50,rs50,true,runF TT G50 an50 Try.f50 c50 ps50 rs50⟩:=holds_of tt_ok hg mixed Try.func50 (by kernel_rfl) (by rfl) (by decide +kernel)
noncomputable def st50_top (n:Nat) (a:List Int × Int):Option R50 :=
 (q51 n ((a.1,a.2),(24:Int),())).bind fun r0=>cond (decide (r0.1.1=(0:Int))) ((q51 n ((r0.2.1.1,r0.2.1.2),(5:Int),())).bind fun r1=>cond (decide ((0:Int)≤r1.1.1)) (cond (decide (r1.1.1 < (↑[ByteArray.mk #[],ByteArray.mk #[(65:UInt8)],ByteArray.mk #[(97:UInt8),(98:UInt8),(99:UInt8),(100:UInt8)],ByteArray.mk #[(46:UInt8),(46:UInt8)],ByteArray.mk #[(97:UInt8),(47:UInt8)]].length:Int))) (some (([ByteArray.mk #[],ByteArray.mk #[(65:UInt8)],ByteArray.mk #[(97:UInt8),(98:UInt8),(99:UInt8),(100:UInt8)],ByteArray.mk #[(46:UInt8),(46:UInt8)],ByteArray.mk #[(97:UInt8),(47:UInt8)]].getD (Int.toNat r1.1.1) ByteArray.empty,()),((r1.2.1.1,r1.2.1.2),()))) (none)) (none)) ((q51 n ((r0.2.1.1,r0.2.1.2),(4:Int),())).bind fun r2=>cond (decide ((0:Int)≤r2.1.1)) (cond (decide (r2.1.1 < (↑[ByteArray.mk #[(97:UInt8)],ByteArray.mk #[(98:UInt8)],ByteArray.mk #[(99:UInt8)],ByteArray.mk #[(97:UInt8),(98:UInt8)]].length:Int))) (some (([ByteArray.mk #[(97:UInt8)],ByteArray.mk #[(98:UInt8)],ByteArray.mk #[(99:UInt8)],ByteArray.mk #[(97:UInt8),(98:UInt8)]].getD (Int.toNat r2.1.1) ByteArray.empty,()),((r2.2.1.1,r2.2.1.2),()))) (none)) (none))
theorem e50_top (n:Nat) (a:List Int × Int):runF TT G50 an50 Try.f50 c50 ps50 rs50 n (a,())=st50_top n a:=by kernel_rfl
noncomputable def p50 (n:Nat) (a:List Int × Int):Option R50:=st50_top n a
theorem F50_eq (n:Nat) (a:List Int × Int):runF TT G50 an50 Try.f50 c50 ps50 rs50 n (a,())=p50 n a:=by
 rw [e50_top]
 skip
 try rfl
noncomputable def q50 (n:Nat) (x:argsD ps50):Option R50:=p50 n x.1
noncomputable def Sm50:Sm:=⟨ps50,rs50,true,q50⟩
theorem holds50 (hg:GamOK Try.prog G50):Holds Try.prog 50 Sm50:=by
 have:=h0_50 hg
 have e:(runF TT G50 an50 Try.f50 c50 ps50 rs50)=q50:=by
  funext n x
  exact F50_eq n x.1
 rw [e] at this
 exact this
theorem gam50:GamOK Try.prog G50:=by
 intro f s h
 unfold G50 at h
 split at h
 ·injection h with h; subst h; exact ⟨⟨Try.f51,c51,Try.func51,by kernel_rfl,by decide +kernel⟩,hh51⟩
 ·cases h
theorem hh50:Holds Try.prog 50 Sm50:=holds50 gam50
end Go.Proofs.Ythhopbicmaipgaa.Rx.S

namespace Go.Proofs.Ythhopbicmaipgaa.Rx.S
open Go Go.RowKit Go.Proofs
set_option maxRecDepth 100000
noncomputable def c88:Code:=(Try.f88.body.getD .skip)
def an88:An:=⟨fun _=>⟨[],[]⟩,fun _ _=>none⟩
abbrev ps88:List PK:=[.val i64 false,.val i64 false]
abbrev rs88:List RK:=[.own tFs true,.val .bool false]
abbrev R88:=retsD rs88 × outsD ps88
noncomputable def G88:Gam:=fun f=>match f with | 66=>some Sm66 | 87=>some Sm87 | _=>none
theorem h0_88 (hg:GamOK Try.prog G88):Holds Try.prog 88 ⟨ps88,rs88,false,runF TT G88 an88 Try.f88 c88 ps88 rs88⟩:=holds_of tt_ok hg mixed Try.func88 (by kernel_rfl) (by rfl) (by decide +kernel)
noncomputable def st88_top (n:Nat) (a:Int) (b:Int):Option R88 :=
 (q87 n (a,())).bind fun r0=>cond (!r0.1.1) (some (([],(false,())),())) ((q66 n (b,(0:Int),(511:Int),())).bind fun r1=>cond (!r1.1.1) (some (([],(false,())),())) (some (((List.replicate (Int.toNat (10:Int)) ZN).set (Int.toNat (0:Int)) ((2:Int),b,a,a,(0:Int),(0:Int),false,ByteArray.empty,[]),(true,())),())))
theorem e88_top (n:Nat) (a:Int) (b:Int):runF TT G88 an88 Try.f88 c88 ps88 rs88 n (a,b,())=st88_top n a b:=by kernel_rfl
noncomputable def p88 (n:Nat) (a:Int) (b:Int):Option R88:=st88_top n a b
theorem F88_eq (n:Nat) (a:Int) (b:Int):runF TT G88 an88 Try.f88 c88 ps88 rs88 n (a,b,())=p88 n a b:=by
 rw [e88_top]
 skip
 try rfl
noncomputable def q88 (n:Nat) (x:argsD ps88):Option R88:=p88 n x.1 x.2.1
noncomputable def Sm88:Sm:=⟨ps88,rs88,false,q88⟩
theorem holds88 (hg:GamOK Try.prog G88):Holds Try.prog 88 Sm88:=by
 have:=h0_88 hg
 have e:(runF TT G88 an88 Try.f88 c88 ps88 rs88)=q88:=by
  funext n x
  exact F88_eq n x.1 x.2.1
 rw [e] at this
 exact this
theorem gam88:GamOK Try.prog G88:=by
 intro f s h
 unfold G88 at h
 split at h
 ·injection h with h; subst h; exact ⟨⟨Try.f66,c66,Try.func66,by kernel_rfl,by decide +kernel⟩,hh66⟩
 ·injection h with h; subst h; exact ⟨⟨Try.f87,c87,Try.func87,by kernel_rfl,by decide +kernel⟩,hh87⟩
 ·cases h
theorem hh88:Holds Try.prog 88 Sm88:=holds88 gam88
end Go.Proofs.Ythhopbicmaipgaa.Rx.S

namespace Go.Proofs.Ythhopbicmaipgaa.Rx.S
open Go Go.RowKit Go.Proofs
set_option maxRecDepth 100000
noncomputable def c48:Code:=(Try.f48.body.getD .skip)
def an48:An:=⟨fun r=>match r with | 3=>⟨[0,2,3,4],[]⟩ | _=>⟨[],[]⟩,fun _ _=>none⟩
abbrev ps48:List PK:=[.bx tRd]
abbrev rs48:List RK:=[.own tCr true]
abbrev R48:=retsD rs48 × outsD ps48
noncomputable def G48:Gam:=fun f=>match f with | 51=>some Sm51 | _=>none
theorem h0_48 (hg:GamOK Try.prog G48):Holds Try.prog 48 ⟨ps48,rs48,true,runF TT G48 an48 Try.f48 c48 ps48 rs48⟩:=holds_of tt_ok hg mixed Try.func48 (by kernel_rfl) (by rfl) (by decide +kernel)
noncomputable def at48:Nat→Pt→List Nat→St→Option R48:=atF TT G48 an48 Try.f48 c48 _ _
def sh48_L3 (x0:Int) (x1:List Int) (x2:Int) (x3:Int) (x4:Int) (x5:Int) (x6:Int) (x7:List Int):St:=(St.mk ((AV.par 0 false ((SV.bptr 1000000 0) :: [])) :: (AV.undef :: ((AV.one (SV.bptr 1000001 0)) :: ((AV.one (SV.bptr 1000002 0)) :: ((AV.one (SV.int (Go.IntKind.i64) x0)) :: (AV.undef :: (AV.undef :: (AV.undef :: (AV.undef :: (AV.undef :: (AV.undef :: (AV.undef :: (AV.undef :: (AV.undef :: (AV.undef :: (AV.undef :: (AV.undef :: (AV.undef :: (AV.undef :: (AV.undef :: (AV.undef :: (AV.undef :: (AV.undef :: (AV.undef :: (AV.undef :: (AV.undef :: (AV.undef :: (AV.undef :: (AV.undef :: (AV.undef :: (AV.undef :: (AV.undef :: (AV.undef :: (AV.undef :: (AV.undef :: (AV.undef :: (AV.undef :: (AV.undef :: (AV.undef :: (AV.undef :: (AV.undef :: (AV.undef :: (AV.undef :: (AV.undef :: (AV.undef :: (AV.undef :: (AV.undef :: (AV.undef :: (AV.undef :: (AV.undef :: (AV.undef :: (AV.undef :: (AV.undef :: []))))))))))))))))))))))))))))))))))))))))))))))))))))) ((1000000,(Ent.box ((SV.con (⟨5,Ty.int Go.IntKind.u8,x1⟩:Rw)) :: ((SV.int (Go.IntKind.i64) x2) :: [])))) :: ((1000001,(Ent.box ((SV.int (Go.IntKind.i64) x3) :: ((SV.int (Go.IntKind.i64) x4) :: (SV.nil :: []))))) :: ((1000002,(Ent.box ((SV.int (Go.IntKind.i64) x5) :: ((SV.int (Go.IntKind.i64) x6) :: ((SV.ref 1000003 0 [] Option.none) :: []))))) :: ((1000003,(Ent.row (⟨3,Ty.int Go.IntKind.i64,x7⟩:Rw) 0 Option.none)) :: [])))))
noncomputable def st48_top (n:Nat) (lL3:Int→(List Int)→Int→Int→Int→Int→Int→(List Int)→Option R48) (a:List Int × Int):Option R48 :=
 (q51 n ((a.1,a.2),(4:Int),())).bind fun r0=>(q51 n ((r0.2.1.1,r0.2.1.2),(4:Int),())).bind fun r1=>lL3 ((0:Int)) (r1.2.1.1) (r1.2.1.2) ((0:Int)) ((0:Int)) (r0.1.1) (r1.1.1) ([])
noncomputable def st48_L3 (n:Nat) (lL3:Int→(List Int)→Int→Int→Int→Int→Int→(List Int)→Option R48) (x0:Int) (x1:List Int) (x2:Int) (x3:Int) (x4:Int) (x5:Int) (x6:Int) (x7:List Int):Option R48 :=
 cond (decide (x0 < (5:Int))) (cond (decide ((↑x7.length:Int) < (3:Int))) ((q51 n ((x1,x2),(4:Int),())).bind fun r3=>cond (decide (r3.1.1=(0:Int))) (cond (decide ((x7.length + [x0].length) * (8:Nat)≤(140737488355328:Nat))) (lL3 (Go.IntKind.i64.wrap (x0 + (1:Int))) (r3.2.1.1) (r3.2.1.2) (x3) (x4) (x5) (x6) (x7 ++ [x0])) (none)) (lL3 (Go.IntKind.i64.wrap (x0 + (1:Int))) (r3.2.1.1) (r3.2.1.2) (x3) (x4) (x5) (x6) (x7))) ((q51 n ((x1,x2),(30:Int),())).bind fun r4=>cond (decide (r4.1.1=(0:Int))) ((q51 n ((r4.2.1.1,r4.2.1.2),(3:Int),())).bind fun r5=>cond (decide ((0:Int)≤r5.1.1)) (cond (decide (r5.1.1 < (↑[(-1:Int),(10:Int),(9:Int)].length:Int))) (some ((([(-1:Int),(10:Int),(9:Int)].getD (Int.toNat r5.1.1) (0:Int),(x6,x7)),()),((r5.2.1.1,r5.2.1.2),()))) (none)) (none)) (cond (decide (r4.1.1=(1:Int))) ((q51 n ((r4.2.1.1,r4.2.1.2),(3:Int),())).bind fun r6=>cond (decide ((0:Int)≤r6.1.1)) (cond (decide (r6.1.1 < (↑[(0:Int),(9:Int),(10:Int)].length:Int))) (cond (decide ((x7.length + [[(0:Int),(9:Int),(10:Int)].getD (Int.toNat r6.1.1) (0:Int)].length) * (8:Nat)≤(140737488355328:Nat))) (some (((x5,(x6,x7 ++ [[(0:Int),(9:Int),(10:Int)].getD (Int.toNat r6.1.1) (0:Int)])),()),((r6.2.1.1,r6.2.1.2),()))) (none)) (none)) (none)) (some (((x5,(x6,x7)),()),((r4.2.1.1,r4.2.1.2),())))))) ((q51 n ((x1,x2),(30:Int),())).bind fun r7=>cond (decide (r7.1.1=(0:Int))) ((q51 n ((r7.2.1.1,r7.2.1.2),(3:Int),())).bind fun r8=>cond (decide ((0:Int)≤r8.1.1)) (cond (decide (r8.1.1 < (↑[(-1:Int),(10:Int),(9:Int)].length:Int))) (some ((([(-1:Int),(10:Int),(9:Int)].getD (Int.toNat r8.1.1) (0:Int),(x6,x7)),()),((r8.2.1.1,r8.2.1.2),()))) (none)) (none)) (cond (decide (r7.1.1=(1:Int))) ((q51 n ((r7.2.1.1,r7.2.1.2),(3:Int),())).bind fun r9=>cond (decide ((0:Int)≤r9.1.1)) (cond (decide (r9.1.1 < (↑[(0:Int),(9:Int),(10:Int)].length:Int))) (cond (decide ((x7.length + [[(0:Int),(9:Int),(10:Int)].getD (Int.toNat r9.1.1) (0:Int)].length) * (8:Nat)≤(140737488355328:Nat))) (some (((x5,(x6,x7 ++ [[(0:Int),(9:Int),(10:Int)].getD (Int.toNat r9.1.1) (0:Int)])),()),((r9.2.1.1,r9.2.1.2),()))) (none)) (none)) (none)) (some (((x5,(x6,x7)),()),((r7.2.1.1,r7.2.1.2),())))))
theorem e48_top (n:Nat) (a:List Int × Int):runF TT G48 an48 Try.f48 c48 ps48 rs48 n (a,())=st48_top n (fun x0 x1 x2 x3 x4 x5 x6 x7=>at48 n (.head 3) [n] (sh48_L3 x0 x1 x2 x3 x4 x5 x6 x7)) a:=by kernel_rfl
theorem e48_L3_0 (n:Nat) (x0:Int) (x1:List Int) (x2:Int) (x3:Int) (x4:Int) (x5:Int) (x6:Int) (x7:List Int):at48 n (.head 3) [0] (sh48_L3 x0 x1 x2 x3 x4 x5 x6 x7)=none:=by kernel_rfl
theorem e48_L3 (n:Nat) (m3:Nat) (x0:Int) (x1:List Int) (x2:Int) (x3:Int) (x4:Int) (x5:Int) (x6:Int) (x7:List Int):at48 n (.head 3) [m3 + 1] (sh48_L3 x0 x1 x2 x3 x4 x5 x6 x7)=st48_L3 n (fun x0 x1 x2 x3 x4 x5 x6 x7=>at48 n (.head 3) [m3] (sh48_L3 x0 x1 x2 x3 x4 x5 x6 x7)) x0 x1 x2 x3 x4 x5 x6 x7:=by kernel_rfl
noncomputable def p48_L3 (n:Nat):Nat→Int→(List Int)→Int→Int→Int→Int→Int→(List Int)→Option R48
 | 0,_,_,_,_,_,_,_,_=>none
 | m + 1,x0,x1,x2,x3,x4,x5,x6,x7=>st48_L3 n (p48_L3 n m) x0 x1 x2 x3 x4 x5 x6 x7
noncomputable def p48 (n:Nat) (a:List Int × Int):Option R48:=st48_top n (p48_L3 n n) a
theorem t48_L3 (n:Nat):∀ (m3:Nat) (x0:Int) (x1:List Int) (x2:Int) (x3:Int) (x4:Int) (x5:Int) (x6:Int) (x7:List Int),at48 n (.head 3) [m3] (sh48_L3 x0 x1 x2 x3 x4 x5 x6 x7)=p48_L3 n m3 x0 x1 x2 x3 x4 x5 x6 x7:=by
 intro m
 induction m with
 | zero=>intros; rw [e48_L3_0]; rfl
 | succ m ih =>
  intros
  rw [e48_L3]
  try simp only [ih]
  rfl
theorem F48_eq (n:Nat) (a:List Int × Int):runF TT G48 an48 Try.f48 c48 ps48 rs48 n (a,())=p48 n a:=by
 rw [e48_top]
 simp only [t48_L3]
 try rfl
noncomputable def q48 (n:Nat) (x:argsD ps48):Option R48:=p48 n x.1
noncomputable def Sm48:Sm:=⟨ps48,rs48,true,q48⟩
theorem holds48 (hg:GamOK Try.prog G48):Holds Try.prog 48 Sm48:=by
 have:=h0_48 hg
 have e:(runF TT G48 an48 Try.f48 c48 ps48 rs48)=q48:=by
  funext n x
  exact F48_eq n x.1
 rw [e] at this
 exact this
theorem gam48:GamOK Try.prog G48:=by
 intro f s h
 unfold G48 at h
 split at h
 ·injection h with h; subst h; exact ⟨⟨Try.f51,c51,Try.func51,by kernel_rfl,by decide +kernel⟩,hh51⟩
 ·cases h
theorem hh48:Holds Try.prog 48 Sm48:=holds48 gam48
end Go.Proofs.Ythhopbicmaipgaa.Rx.S

namespace Go.Proofs.Ythhopbicmaipgaa.Rx.S
open Go Go.RowKit Go.Proofs
set_option maxRecDepth 100000
noncomputable def c85:Code:=(Try.f85.body.getD .skip)
def an85:An:=⟨fun r=>match r with | 3=>⟨[0,5,6],[]⟩ | _=>⟨[],[]⟩,fun _ _=>none⟩
abbrev ps85:List PK:=[.bx tRd,.val i64 false]
abbrev rs85:List RK:=[.val .str false]
abbrev R85:=retsD rs85 × outsD ps85
noncomputable def G85:Gam:=fun f=>match f with | 51=>some Sm51 | _=>none
theorem h0_85 (hg:GamOK Try.prog G85):Holds Try.prog 85 ⟨ps85,rs85,true,runF TT G85 an85 Try.f85 c85 ps85 rs85⟩:=holds_of tt_ok hg mixed Try.func85 (by kernel_rfl) (by rfl) (by decide +kernel)
noncomputable def at85:Nat→Pt→List Nat→St→Option R85:=atF TT G85 an85 Try.f85 c85 _ _
def sh85_L3 (x0:Int) (x1:List Int) (x2:Int) (x3:List Int):St:=(St.mk ((AV.par 0 false ((SV.bptr 1000000 0) :: [])) :: (AV.undef :: (AV.undef :: (AV.undef :: (AV.undef :: ((AV.one (SV.ref 1000001 0 [] Option.none)) :: ((AV.one (SV.int (Go.IntKind.i64) x0)) :: (AV.undef :: (AV.undef :: (AV.undef :: (AV.undef :: (AV.undef :: (AV.undef :: (AV.undef :: (AV.undef :: (AV.undef :: (AV.undef :: (AV.undef :: (AV.undef :: (AV.undef :: (AV.undef :: (AV.undef :: (AV.undef :: (AV.undef :: [])))))))))))))))))))))))) ((1000000,(Ent.box ((SV.con (⟨5,Ty.int Go.IntKind.u8,x1⟩:Rw)) :: ((SV.int (Go.IntKind.i64) x2) :: [])))) :: ((1000001,(Ent.row (⟨5,Ty.int Go.IntKind.u8,x3⟩:Rw) 0 Option.none)) :: [])))
noncomputable def st85_top (n:Nat) (lL3:Int→(List Int)→Int→(List Int)→Option R85) (a:List Int × Int) (b:Int):Option R85 :=
 (q51 n ((a.1,a.2),Go.IntKind.i64.wrap (b + (1:Int)),())).bind fun r0=>lL3 (r0.1.1) (r0.2.1.1) (r0.2.1.2) ([])
noncomputable def st85_L3 (n:Nat) (lL3:Int→(List Int)→Int→(List Int)→Option R85) (x0:Int) (x1:List Int) (x2:Int) (x3:List Int):Option R85 :=
 cond (decide ((0:Int) < x0)) ((q51 n ((x1,x2),(12:Int),())).bind fun r2=>cond (decide ((0:Int)≤r2.1.1)) (cond (decide (r2.1.1 < (↑(ByteArray.mk #[(97:UInt8),(98:UInt8),(99:UInt8),(100:UInt8),(101:UInt8),(102:UInt8),(103:UInt8),(104:UInt8),(48:UInt8),(49:UInt8),(32:UInt8),(46:UInt8)]).size:Int))) (cond (decide ((x3.length + [(↑((ByteArray.mk #[(97:UInt8),(98:UInt8),(99:UInt8),(100:UInt8),(101:UInt8),(102:UInt8),(103:UInt8),(104:UInt8),(48:UInt8),(49:UInt8),(32:UInt8),(46:UInt8)]).data.toList.getD (Int.toNat r2.1.1) (0:UInt8)).toNat:Int)].length) * (1:Nat)≤(140737488355328:Nat))) (lL3 (Go.IntKind.i64.wrap (x0 - (1:Int))) (r2.2.1.1) (r2.2.1.2) (x3 ++ [(↑((ByteArray.mk #[(97:UInt8),(98:UInt8),(99:UInt8),(100:UInt8),(101:UInt8),(102:UInt8),(103:UInt8),(104:UInt8),(48:UInt8),(49:UInt8),(32:UInt8),(46:UInt8)]).data.toList.getD (Int.toNat r2.1.1) (0:UInt8)).toNat:Int)])) (none)) (none)) (none)) (some ((List.foldl (fun r n=>r.push (UInt8.ofNat n.toNat)) ByteArray.empty x3,()),((x1,x2),())))
theorem e85_top (n:Nat) (a:List Int × Int) (b:Int):runF TT G85 an85 Try.f85 c85 ps85 rs85 n (a,b,())=st85_top n (fun x0 x1 x2 x3=>at85 n (.head 3) [n] (sh85_L3 x0 x1 x2 x3)) a b:=by kernel_rfl
theorem e85_L3_0 (n:Nat) (x0:Int) (x1:List Int) (x2:Int) (x3:List Int):at85 n (.head 3) [0] (sh85_L3 x0 x1 x2 x3)=none:=by kernel_rfl
theorem e85_L3 (n:Nat) (m3:Nat) (x0:Int) (x1:List Int) (x2:Int) (x3:List Int):at85 n (.head 3) [m3 + 1] (sh85_L3 x0 x1 x2 x3)=st85_L3 n (fun x0 x1 x2 x3=>at85 n (.head 3) [m3] (sh85_L3 x0 x1 x2 x3)) x0 x1 x2 x3:=by kernel_rfl
noncomputable def p85_L3 (n:Nat):Nat→Int→(List Int)→Int→(List Int)→Option R85
 | 0,_,_,_,_=>none
 | m + 1,x0,x1,x2,x3=>st85_L3 n (p85_L3 n m) x0 x1 x2 x3
noncomputable def p85 (n:Nat) (a:List Int × Int) (b:Int):Option R85:=st85_top n (p85_L3 n n) a b
theorem t85_L3 (n:Nat):∀ (m3:Nat) (x0:Int) (x1:List Int) (x2:Int) (x3:List Int),at85 n (.head 3) [m3] (sh85_L3 x0 x1 x2 x3)=p85_L3 n m3 x0 x1 x2 x3:=by
 intro m
 induction m with
 | zero=>intros; rw [e85_L3_0]; rfl
 | succ m ih =>
  intros
  rw [e85_L3]
  try simp only [ih]
  rfl
theorem F85_eq (n:Nat) (a:List Int × Int) (b:Int):runF TT G85 an85 Try.f85 c85 ps85 rs85 n (a,b,())=p85 n a b:=by
 rw [e85_top]
 simp only [t85_L3]
 try rfl
noncomputable def q85 (n:Nat) (x:argsD ps85):Option R85:=p85 n x.1 x.2.1
noncomputable def Sm85:Sm:=⟨ps85,rs85,true,q85⟩
theorem holds85 (hg:GamOK Try.prog G85):Holds Try.prog 85 Sm85:=by
 have:=h0_85 hg
 have e:(runF TT G85 an85 Try.f85 c85 ps85 rs85)=q85:=by
  funext n x
  exact F85_eq n x.1 x.2.1
 rw [e] at this
 exact this
theorem gam85:GamOK Try.prog G85:=by
 intro f s h
 unfold G85 at h
 split at h
 ·injection h with h; subst h; exact ⟨⟨Try.f51,c51,Try.func51,by kernel_rfl,by decide +kernel⟩,hh51⟩
 ·cases h
theorem hh85:Holds Try.prog 85 Sm85:=holds85 gam85
end Go.Proofs.Ythhopbicmaipgaa.Rx.S

namespace Go.Proofs.Ythhopbicmaipgaa.Rx.S
open Go Go.RowKit Go.Proofs
set_option maxRecDepth 100000
noncomputable def c89:Code:=(Try.f89.body.getD .skip)
def an89:An:=⟨fun _=>⟨[],[]⟩,fun r i=>match r,i with | 10,0=>some ⟨[0,3,4,5,6,7],[]⟩ | _,_=>none⟩
abbrev ps89:List PK:=[.bx tRd,.own tFs true]
abbrev rs89:List RK:=[.own tFs true]
abbrev R89:=retsD rs89 × outsD ps89
noncomputable def G89:Gam:=fun f=>match f with | 48=>some Sm48 | 51=>some Sm51 | 64=>some Sm64 | 67=>some Sm67 | 68=>some Sm68 | 81=>some Sm81 | 83=>some Sm83 | 85=>some Sm85 | 113=>some Sm113 | 114=>some Sm114 | 115=>some Sm115 | _=>none
theorem ateq89 {β:Type} (t:Nat) (f:St→Option β) (S:St):at_ t f S=f S:=rfl
theorem h0_89 (hg:GamOK Try.prog G89):Holds Try.prog 89 ⟨ps89,rs89,true,runF TT G89 an89 Try.f89 c89 ps89 rs89⟩:=holds_of tt_ok hg mixed Try.func89 (by kernel_rfl) (by rfl) (by decide +kernel)
noncomputable def at89:Nat→Pt→List Nat→St→Option R89:=atF TT G89 an89 Try.f89 c89 _ _
def sh89_C10_0 (x0:Int) (x1:Int) (x2:List Int) (x3:Int) (x4:Int) (x5:Int) (x6:List NT) (x7:List Int):St:=(St.mk ((AV.par 0 false ((SV.bptr 1000000 0) :: [])) :: (AV.undef :: (AV.undef :: ((AV.one (SV.bptr 1000001 0)) :: ((AV.one (SV.bptr 1000002 0)) :: ((AV.one (SV.bptr 1000003 0)) :: ((AV.one (SV.int (Go.IntKind.i64) x0)) :: ((AV.one (SV.int (Go.IntKind.i64) x1)) :: (AV.undef :: (AV.undef :: (AV.undef :: (AV.undef :: (AV.undef :: (AV.undef :: (AV.undef :: (AV.undef :: (AV.undef :: (AV.undef :: (AV.undef :: (AV.undef :: (AV.undef :: (AV.undef :: (AV.undef :: (AV.undef :: (AV.undef :: (AV.undef :: (AV.undef :: (AV.undef :: (AV.undef :: (AV.undef :: (AV.undef :: (AV.undef :: (AV.undef :: (AV.undef :: (AV.undef :: (AV.undef :: (AV.undef :: (AV.undef :: (AV.undef :: (AV.undef :: (AV.undef :: (AV.undef :: (AV.undef :: (AV.undef :: (AV.undef :: (AV.undef :: (AV.undef :: (AV.undef :: (AV.undef :: (AV.undef :: (AV.undef :: (AV.undef :: (AV.undef :: (AV.undef :: (AV.undef :: (AV.undef :: (AV.undef :: (AV.undef :: (AV.undef :: (AV.undef :: (AV.undef :: (AV.undef :: (AV.undef :: (AV.undef :: (AV.undef :: (AV.undef :: (AV.undef :: (AV.undef :: (AV.undef :: (AV.undef :: (AV.undef :: (AV.undef :: (AV.undef :: (AV.undef :: (AV.undef :: (AV.undef :: (AV.undef :: (AV.undef :: (AV.undef :: (AV.undef :: (AV.undef :: (AV.undef :: (AV.undef :: (AV.undef :: (AV.undef :: (AV.undef :: (AV.undef :: (AV.undef :: (AV.undef :: (AV.undef :: (AV.undef :: (AV.undef :: (AV.undef :: (AV.undef :: (AV.undef :: (AV.undef :: (AV.undef :: (AV.undef :: (AV.undef :: (AV.undef :: (AV.undef :: (AV.undef :: (AV.undef :: (AV.undef :: (AV.undef :: (AV.undef :: (AV.undef :: (AV.undef :: (AV.undef :: (AV.undef :: (AV.undef :: (AV.undef :: (AV.undef :: (AV.undef :: (AV.undef :: (AV.undef :: (AV.undef :: (AV.undef :: (AV.undef :: (AV.undef :: (AV.undef :: (AV.undef :: (AV.undef :: (AV.undef :: (AV.undef :: (AV.undef :: (AV.undef :: (AV.undef :: (AV.undef :: (AV.undef :: (AV.undef :: (AV.undef :: (AV.undef :: (AV.undef :: (AV.undef :: (AV.undef :: [])))))))))))))))))))))))))))))))))))))))))))))))))))))))))))))))))))))))))))))))))))))))))))))))))))))))))))))))))))))))))))))))))))))))) ((1000000,(Ent.box ((SV.con (⟨5,Ty.int Go.IntKind.u8,x2⟩:Rw)) :: ((SV.int (Go.IntKind.i64) x3) :: [])))) :: ((1000001,(Ent.box ((SV.ref 1000004 0 [] Option.none) :: []))) :: ((1000002,(Ent.box (SV.nil :: []))) :: ((1000003,(Ent.box ((SV.int (Go.IntKind.i64) x4) :: ((SV.int (Go.IntKind.i64) x5) :: ((SV.ref 1000005 0 [] Option.none) :: []))))) :: ((1000004,(Ent.row (⟨39,(Ty.int Go.IntKind.i64).pair ((Ty.int Go.IntKind.i64).pair ((Ty.int Go.IntKind.i64).pair ((Ty.int Go.IntKind.i64).pair ((Ty.int Go.IntKind.i64).pair ((Ty.int Go.IntKind.i64).pair (Ty.bool.pair (Ty.str.pair (Ty.row (nat_lit 95) (Ty.str.pair (Ty.int Go.IntKind.i64)))))))))),x6⟩:Rw) 0 Option.none)) :: ((1000005,(Ent.row (⟨3,Ty.int Go.IntKind.i64,x7⟩:Rw) 0 Option.none)) :: [])))))))
noncomputable def st89_top (n:Nat) (lC10_0:Int→Int→(List Int)→Int→Int→Int→(List NT)→(List Int)→Option R89) (a:List Int × Int) (b:List NT):Option R89 :=
 (q48 n ((a.1,a.2),())).bind fun r0=>(q51 n ((r0.2.1.1,r0.2.1.2),(2:Int),())).bind fun r1=>cond (decide (r1.1.1=(0:Int))) ((q51 n ((r1.2.1.1,r1.2.1.2),(6:Int),())).bind fun r2=>(q51 n ((r2.2.1.1,r2.2.1.2),(6:Int),())).bind fun r3=>(q64 n (b,r2.1.1,())).bind fun r4=>cond (!r4.1.1) ((q64 n (b,r3.1.1,())).bind fun r5=>cond (!r5.1.1) (lC10_0 ((0:Int)) ((0:Int)) (r3.2.1.1) (r3.2.1.2) ((0:Int)) (r0.1.1.2.1) (b) (r0.1.1.2.2)) (lC10_0 ((0:Int)) (r3.1.1) (r3.2.1.1) (r3.2.1.2) ((0:Int)) (r0.1.1.2.1) (b) (r0.1.1.2.2))) ((q64 n (b,r3.1.1,())).bind fun r29=>cond (!r29.1.1) (lC10_0 (r2.1.1) ((0:Int)) (r3.2.1.1) (r3.2.1.2) ((0:Int)) (r0.1.1.2.1) (b) (r0.1.1.2.2)) (lC10_0 (r2.1.1) (r3.1.1) (r3.2.1.1) (r3.2.1.2) ((0:Int)) (r0.1.1.2.1) (b) (r0.1.1.2.2)))) ((q51 n ((r1.2.1.1,r1.2.1.2),(6:Int),())).bind fun r30=>(q51 n ((r30.2.1.1,r30.2.1.2),(6:Int),())).bind fun r31=>(q64 n (b,r30.1.1,())).bind fun r32=>cond (!r32.1.1) ((q64 n (b,r31.1.1,())).bind fun r33=>cond (!r33.1.1) (lC10_0 ((0:Int)) ((0:Int)) (r31.2.1.1) (r31.2.1.2) (r0.1.1.1) (r0.1.1.2.1) (b) (r0.1.1.2.2)) (lC10_0 ((0:Int)) (r31.1.1) (r31.2.1.1) (r31.2.1.2) (r0.1.1.1) (r0.1.1.2.1) (b) (r0.1.1.2.2))) ((q64 n (b,r31.1.1,())).bind fun r34=>cond (!r34.1.1) (lC10_0 (r30.1.1) ((0:Int)) (r31.2.1.1) (r31.2.1.2) (r0.1.1.1) (r0.1.1.2.1) (b) (r0.1.1.2.2)) (lC10_0 (r30.1.1) (r31.1.1) (r31.2.1.1) (r31.2.1.2) (r0.1.1.1) (r0.1.1.2.1) (b) (r0.1.1.2.2))))
noncomputable def st89_C10_0 (n:Nat) (x0:Int) (x1:Int) (x2:List Int) (x3:Int) (x4:Int) (x5:Int) (x6:List NT) (x7:List Int):Option R89 :=
 (q51 n ((x2,x3),(4:Int),())).bind fun r7=>cond (decide ((0:Int)≤r7.1.1)) (cond (decide (r7.1.1 < (↑[ByteArray.mk #[(97:UInt8)],ByteArray.mk #[(98:UInt8)],ByteArray.mk #[(99:UInt8)],ByteArray.mk #[(97:UInt8),(98:UInt8)]].length:Int))) ((q51 n ((r7.2.1.1,r7.2.1.2),(4:Int),())).bind fun r8=>cond (decide ((0:Int)≤r8.1.1)) (cond (decide (r8.1.1 < (↑[ByteArray.mk #[(97:UInt8)],ByteArray.mk #[(98:UInt8)],ByteArray.mk #[(99:UInt8)],ByteArray.mk #[(97:UInt8),(98:UInt8)]].length:Int))) ((q68 n (x6,())).bind fun r9=>(q51 n ((r8.2.1.1,r8.2.1.2),(10:Int),())).bind fun r10=>cond (decide (r10.1.1=(0:Int))) ((q51 n ((r10.2.1.1,r10.2.1.2),(2:Int),())).bind fun r11=>(q51 n ((r11.2.1.1,r11.2.1.2),(3:Int),())).bind fun r12=>cond (decide ((0:Int)≤r12.1.1)) (cond (decide (r12.1.1 < (↑[(493:Int),(511:Int),(448:Int)].length:Int))) ((q67 n (r9.1.1,(x4,x5,x7),x0,[ByteArray.mk #[(97:UInt8)],ByteArray.mk #[(98:UInt8)],ByteArray.mk #[(99:UInt8)],ByteArray.mk #[(97:UInt8),(98:UInt8)]].getD (Int.toNat r7.1.1) ByteArray.empty,Go.IntKind.i64.wrap ((1:Int) + r11.1.1),[(493:Int),(511:Int),(448:Int)].getD (Int.toNat r12.1.1) (0:Int),())).bind fun r13=>some ((r13.1.1,()),((r12.2.1.1,r12.2.1.2),()))) (none)) (none)) (cond (decide (r10.1.1=(1:Int))) ((q51 n ((r10.2.1.1,r10.2.1.2),(2:Int),())).bind fun r14=>(q51 n ((r14.2.1.1,r14.2.1.2),(3:Int),())).bind fun r15=>cond (decide ((0:Int)≤r15.1.1)) (cond (decide (r15.1.1 < (↑[(493:Int),(511:Int),(448:Int)].length:Int))) ((q67 n (r9.1.1,(x4,x5,x7),x0,[ByteArray.mk #[(97:UInt8)],ByteArray.mk #[(98:UInt8)],ByteArray.mk #[(99:UInt8)],ByteArray.mk #[(97:UInt8),(98:UInt8)]].getD (Int.toNat r7.1.1) ByteArray.empty,Go.IntKind.i64.wrap ((1:Int) + r14.1.1),[(493:Int),(511:Int),(448:Int)].getD (Int.toNat r15.1.1) (0:Int),())).bind fun r16=>some ((r16.1.1,()),((r15.2.1.1,r15.2.1.2),()))) (none)) (none)) (cond (decide (r10.1.1=(2:Int))) ((q51 n ((r10.2.1.1,r10.2.1.2),(2:Int),())).bind fun r17=>(q51 n ((r17.2.1.1,r17.2.1.2),(3:Int),())).bind fun r18=>cond (decide ((0:Int)≤r18.1.1)) (cond (decide (r18.1.1 < (↑[(493:Int),(511:Int),(448:Int)].length:Int))) ((q67 n (r9.1.1,(x4,x5,x7),x0,[ByteArray.mk #[(97:UInt8)],ByteArray.mk #[(98:UInt8)],ByteArray.mk #[(99:UInt8)],ByteArray.mk #[(97:UInt8),(98:UInt8)]].getD (Int.toNat r7.1.1) ByteArray.empty,Go.IntKind.i64.wrap ((1:Int) + r17.1.1),[(493:Int),(511:Int),(448:Int)].getD (Int.toNat r18.1.1) (0:Int),())).bind fun r19=>some ((r19.1.1,()),((r18.2.1.1,r18.2.1.2),()))) (none)) (none)) (cond (decide (r10.1.1=(3:Int))) ((q113 n (r9.1.1,(x4,x5,x7),x1,x0,[ByteArray.mk #[(97:UInt8)],ByteArray.mk #[(98:UInt8)],ByteArray.mk #[(99:UInt8)],ByteArray.mk #[(97:UInt8),(98:UInt8)]].getD (Int.toNat r7.1.1) ByteArray.empty,())).bind fun r20=>some ((r20.1.1,()),((r10.2.1.1,r10.2.1.2),()))) (cond (decide (r10.1.1=(4:Int))) ((q114 n (r9.1.1,(x4,x5,x7),x0,[ByteArray.mk #[(97:UInt8)],ByteArray.mk #[(98:UInt8)],ByteArray.mk #[(99:UInt8)],ByteArray.mk #[(97:UInt8),(98:UInt8)]].getD (Int.toNat r7.1.1) ByteArray.empty,())).bind fun r21=>some ((r21.1.1,()),((r10.2.1.1,r10.2.1.2),()))) (cond (decide (r10.1.1=(5:Int))) ((q115 n (r9.1.1,(x4,x5,x7),x0,[ByteArray.mk #[(97:UInt8)],ByteArray.mk #[(98:UInt8)],ByteArray.mk #[(99:UInt8)],ByteArray.mk #[(97:UInt8),(98:UInt8)]].getD (Int.toNat r7.1.1) ByteArray.empty,x1,[ByteArray.mk #[(97:UInt8)],ByteArray.mk #[(98:UInt8)],ByteArray.mk #[(99:UInt8)],ByteArray.mk #[(97:UInt8),(98:UInt8)]].getD (Int.toNat r8.1.1) ByteArray.empty,())).bind fun r22=>some ((r22.1.1,()),((r10.2.1.1,r10.2.1.2),()))) (cond (decide (r10.1.1=(6:Int))) ((q51 n ((r10.2.1.1,r10.2.1.2),(3:Int),())).bind fun r23=>(q83 n (r9.1.1,x0,decide ((0:Int) < r23.1.1),())).bind fun r24=>some ((r24.1.1,()),((r23.2.1.1,r23.2.1.2),()))) (cond (decide (r10.1.1=(7:Int))) (cond (decide ((0:Int)≤x0)) (cond (decide (x0 < (↑(List.length r9.1.1):Int))) (cond (decide ((List.getD r9.1.1 x0.toNat ZN).1=(1:Int))) ((q51 n ((r10.2.1.1,r10.2.1.2),(2:Int),())).bind fun r25=>cond (decide ((0:Int)≤x0)) (cond (decide (x0 < (↑(List.length r9.1.1):Int))) (some ((List.set r9.1.1 x0.toNat ((List.getD r9.1.1 x0.toNat ZN).1,(List.getD r9.1.1 x0.toNat ZN).2.1,(List.getD r9.1.1 x0.toNat ZN).2.2.1,(List.getD r9.1.1 x0.toNat ZN).2.2.2.1,(List.getD r9.1.1 x0.toNat ZN).2.2.2.2.1,(List.getD r9.1.1 x0.toNat ZN).2.2.2.2.2.1,decide (r25.1.1=(0:Int)),(List.getD r9.1.1 x0.toNat ZN).2.2.2.2.2.2.2),()),((r25.2.1.1,r25.2.1.2),()))) (none)) (none)) (some ((r9.1.1,()),((r10.2.1.1,r10.2.1.2),())))) (none)) (none)) ((q51 n ((r10.2.1.1,r10.2.1.2),(20:Int),())).bind fun r26=>(q85 n ((r26.2.1.1,r26.2.1.2),(9:Int),())).bind fun r27=>(q81 n (r9.1.1,x0,r26.1.1,r27.1.1,())).bind fun r28=>some ((r28.1.1,()),((r27.2.1.1,r27.2.1.2),()))))))))))) (none)) (none)) (none)) (none)
theorem e89_top (n:Nat) (a:List Int × Int) (b:List NT):runF TT G89 an89 Try.f89 c89 ps89 rs89 n (a,b,())=st89_top n (fun x0 x1 x2 x3 x4 x5 x6 x7=>at_ 10000 (at89 n (.op 10 0) []) (sh89_C10_0 x0 x1 x2 x3 x4 x5 x6 x7)) a b:=by kernel_rfl
theorem e89_C10_0 (n:Nat) (x0:Int) (x1:Int) (x2:List Int) (x3:Int) (x4:Int) (x5:Int) (x6:List NT) (x7:List Int):at89 n (.op 10 0) [] (sh89_C10_0 x0 x1 x2 x3 x4 x5 x6 x7)=st89_C10_0 n x0 x1 x2 x3 x4 x5 x6 x7:=by kernel_rfl
noncomputable def p89_C10_0 (n:Nat) (x0:Int) (x1:Int) (x2:List Int) (x3:Int) (x4:Int) (x5:Int) (x6:List NT) (x7:List Int):Option R89:=st89_C10_0 n x0 x1 x2 x3 x4 x5 x6 x7
noncomputable def p89 (n:Nat) (a:List Int × Int) (b:List NT):Option R89:=st89_top n (p89_C10_0 n) a b
theorem t89_C10_0 (n:Nat) (x0:Int) (x1:Int) (x2:List Int) (x3:Int) (x4:Int) (x5:Int) (x6:List NT) (x7:List Int):at89 n (.op 10 0) [] (sh89_C10_0 x0 x1 x2 x3 x4 x5 x6 x7)=p89_C10_0 n x0 x1 x2 x3 x4 x5 x6 x7:=by
 rw [e89_C10_0]
 skip
 try rfl
theorem F89_eq (n:Nat) (a:List Int × Int) (b:List NT):runF TT G89 an89 Try.f89 c89 ps89 rs89 n (a,b,())=p89 n a b:=by
 rw [e89_top]
 simp only [ateq89,t89_C10_0]
 try rfl
noncomputable def q89 (n:Nat) (x:argsD ps89):Option R89:=p89 n x.1 x.2.1
noncomputable def Sm89:Sm:=⟨ps89,rs89,true,q89⟩
theorem holds89 (hg:GamOK Try.prog G89):Holds Try.prog 89 Sm89:=by
 have:=h0_89 hg
 have e:(runF TT G89 an89 Try.f89 c89 ps89 rs89)=q89:=by
  funext n x
  exact F89_eq n x.1 x.2.1
 rw [e] at this
 exact this
theorem gam89:GamOK Try.prog G89:=by
 intro f s h
 unfold G89 at h
 split at h
 ·injection h with h; subst h; exact ⟨⟨Try.f48,c48,Try.func48,by kernel_rfl,by decide +kernel⟩,hh48⟩
 ·injection h with h; subst h; exact ⟨⟨Try.f51,c51,Try.func51,by kernel_rfl,by decide +kernel⟩,hh51⟩
 ·injection h with h; subst h; exact ⟨⟨Try.f64,c64,Try.func64,by kernel_rfl,by decide +kernel⟩,hh64⟩
 ·injection h with h; subst h; exact ⟨⟨Try.f67,c67,Try.func67,by kernel_rfl,by decide +kernel⟩,hh67⟩
 ·injection h with h; subst h; exact ⟨⟨Try.f68,c68,Try.func68,by kernel_rfl,by decide +kernel⟩,hh68⟩
 ·injection h with h; subst h; exact ⟨⟨Try.f81,c81,Try.func81,by kernel_rfl,by decide +kernel⟩,hh81⟩
 ·injection h with h; subst h; exact ⟨⟨Try.f83,c83,Try.func83,by kernel_rfl,by decide +kernel⟩,hh83⟩
 ·injection h with h; subst h; exact ⟨⟨Try.f85,c85,Try.func85,by kernel_rfl,by decide +kernel⟩,hh85⟩
 ·injection h with h; subst h; exact ⟨⟨Try.f113,c113,Try.func113,by kernel_rfl,by decide +kernel⟩,hh113⟩
 ·injection h with h; subst h; exact ⟨⟨Try.f114,c114,Try.func114,by kernel_rfl,by decide +kernel⟩,hh114⟩
 ·injection h with h; subst h; exact ⟨⟨Try.f115,c115,Try.func115,by kernel_rfl,by decide +kernel⟩,hh115⟩
 ·cases h
theorem hh89:Holds Try.prog 89 Sm89:=holds89 gam89
end Go.Proofs.Ythhopbicmaipgaa.Rx.S

namespace Go.Proofs.Ythhopbicmaipgaa.Rx.S
open Go Go.RowKit Go.Proofs
set_option maxRecDepth 100000
noncomputable def c47:Code:=(Try.f47.body.getD .skip)
def an47:An:=⟨fun r=>match r with | 3=>⟨[0,2,3,5],[]⟩ | _=>⟨[],[]⟩,fun _ _=>none⟩
abbrev ps47:List PK:=[.bx tRd]
abbrev rs47:List RK:=[.ro 39 (tIn 95) true]
abbrev R47:=retsD rs47 × outsD ps47
noncomputable def G47:Gam:=fun f=>match f with | 50=>some Sm50 | 51=>some Sm51 | 88=>some Sm88 | 89=>some Sm89 | _=>none
theorem h0_47 (hg:GamOK Try.prog G47):Holds Try.prog 47 ⟨ps47,rs47,true,runF TT G47 an47 Try.f47 c47 ps47 rs47⟩:=holds_of tt_ok hg mixed Try.func47 (by kernel_rfl) (by rfl) (by decide +kernel)
noncomputable def at47:Nat→Pt→List Nat→St→Option R47:=atF TT G47 an47 Try.f47 c47 _ _
def sh47_L3 (x0:Int) (x1:List Int) (x2:Int) (x3:List NT):St:=(St.mk ((AV.par 0 false ((SV.bptr 1000000 0) :: [])) :: (AV.undef :: ((AV.one (SV.bptr 1000001 0)) :: ((AV.one (SV.bptr 1000002 0)) :: (AV.undef :: ((AV.one (SV.int (Go.IntKind.i64) x0)) :: (AV.undef :: (AV.undef :: (AV.undef :: (AV.undef :: (AV.undef :: (AV.undef :: (AV.undef :: (AV.undef :: (AV.undef :: (AV.undef :: (AV.undef :: (AV.undef :: (AV.undef :: (AV.undef :: (AV.undef :: (AV.undef :: (AV.undef :: (AV.undef :: (AV.undef :: (AV.undef :: (AV.undef :: (AV.undef :: (AV.undef :: (AV.undef :: (AV.undef :: (AV.undef :: (AV.undef :: (AV.undef :: (AV.undef :: (AV.undef :: (AV.undef :: (AV.undef :: (AV.undef :: (AV.undef :: (AV.undef :: (AV.undef :: (AV.undef :: (AV.undef :: (AV.undef :: (AV.undef :: (AV.undef :: (AV.undef :: (AV.undef :: (AV.undef :: (AV.undef :: (AV.undef :: (AV.undef :: (AV.undef :: (AV.undef :: (AV.undef :: (AV.undef :: (AV.undef :: (AV.undef :: (AV.undef :: (AV.undef :: (AV.undef :: (AV.undef :: (AV.undef :: (AV.undef :: (AV.undef :: (AV.undef :: (AV.undef :: (AV.undef :: (AV.undef :: (AV.undef :: (AV.undef :: (AV.undef :: (AV.undef :: (AV.undef :: (AV.undef :: (AV.undef :: (AV.undef :: (AV.undef :: (AV.undef :: (AV.undef :: (AV.undef :: (AV.undef :: (AV.undef :: (AV.undef :: (AV.undef :: (AV.undef :: (AV.undef :: (AV.undef :: (AV.undef :: [])))))))))))))))))))))))))))))))))))))))))))))))))))))))))))))))))))))))))))))))))))))))))) ((1000000,(Ent.box ((SV.con (⟨5,Ty.int Go.IntKind.u8,x1⟩:Rw)) :: ((SV.int (Go.IntKind.i64) x2) :: [])))) :: ((1000001,(Ent.box (SV.nil :: []))) :: ((1000002,(Ent.box ((SV.ref 1000003 0 [] Option.none) :: []))) :: ((1000003,(Ent.row (⟨39,(Ty.int Go.IntKind.i64).pair ((Ty.int Go.IntKind.i64).pair ((Ty.int Go.IntKind.i64).pair ((Ty.int Go.IntKind.i64).pair ((Ty.int Go.IntKind.i64).pair ((Ty.int Go.IntKind.i64).pair (Ty.bool.pair (Ty.str.pair (Ty.row (nat_lit 95) (Ty.str.pair (Ty.int Go.IntKind.i64)))))))))),x3⟩:Rw) 0 Option.none)) :: [])))))
noncomputable def st47_top (n:Nat) (lL3:Int→(List Int)→Int→(List NT)→Option R47) (a:List Int × Int):Option R47 :=
 (q51 n ((a.1,a.2),(3:Int),())).bind fun r0=>(q51 n ((r0.2.1.1,r0.2.1.2),(3:Int),())).bind fun r1=>cond (decide ((0:Int)≤r1.1.1)) (cond (decide (r1.1.1 < (↑[(493:Int),(511:Int),(448:Int)].length:Int))) ((q88 n (r0.1.1,[(493:Int),(511:Int),(448:Int)].getD (Int.toNat r1.1.1) (0:Int),())).bind fun r2=>(q51 n ((r1.2.1.1,r1.2.1.2),(16:Int),())).bind fun r3=>lL3 (r3.1.1) (r3.2.1.1) (r3.2.1.2) (r2.1.1)) (none)) (none)
noncomputable def st47_L3 (n:Nat) (lL3:Int→(List Int)→Int→(List NT)→Option R47) (x0:Int) (x1:List Int) (x2:Int) (x3:List NT):Option R47 :=
 cond (decide ((0:Int) < x0)) ((q89 n ((x1,x2),x3,())).bind fun r5=>lL3 (Go.IntKind.i64.wrap (x0 - (1:Int))) (r5.2.1.1) (r5.2.1.2) (r5.1.1)) ((q51 n ((x1,x2),(24:Int),())).bind fun r6=>cond (decide (r6.1.1=(0:Int))) ((q51 n ((r6.2.1.1,r6.2.1.2),(5:Int),())).bind fun r7=>(q51 n ((r7.2.1.1,r7.2.1.2),(3:Int),())).bind fun r8=>cond (decide ((0:Int)≤r7.1.1)) (cond (decide (r7.1.1 < (↑x3.length:Int))) (some ((x3.set (Int.toNat r7.1.1) ((x3.getD (Int.toNat r7.1.1) ZN).1,(x3.getD (Int.toNat r7.1.1) ZN).2.1,(x3.getD (Int.toNat r7.1.1) ZN).2.2.1,(x3.getD (Int.toNat r7.1.1) ZN).2.2.2.1,r8.1.1,(x3.getD (Int.toNat r7.1.1) ZN).2.2.2.2.2),()),((r8.2.1.1,r8.2.1.2),()))) (none)) (none)) (cond (decide (r6.1.1=(1:Int))) ((q51 n ((r6.2.1.1,r6.2.1.2),(5:Int),())).bind fun r9=>(q51 n ((r9.2.1.1,r9.2.1.2),(5:Int),())).bind fun r10=>cond (decide ((0:Int)≤r10.1.1)) (cond (decide (r10.1.1 < (↑x3.length:Int))) ((q50 n ((r10.2.1.1,r10.2.1.2),())).bind fun r11=>(q51 n ((r11.2.1.1,r11.2.1.2),(11:Int),())).bind fun r12=>cond (decide ((List.length (x3.getD (Int.toNat r10.1.1) ZN).2.2.2.2.2.2.2.2 + [(r11.1.1,r12.1.1)].length) * (24:Nat)≤(140737488355328:Nat))) (cond (decide ((0:Int)≤r9.1.1)) (cond (decide (r9.1.1 < (↑x3.length:Int))) (some ((x3.set (Int.toNat r9.1.1) ((x3.getD (Int.toNat r9.1.1) ZN).1,(x3.getD (Int.toNat r9.1.1) ZN).2.1,(x3.getD (Int.toNat r9.1.1) ZN).2.2.1,(x3.getD (Int.toNat r9.1.1) ZN).2.2.2.1,(x3.getD (Int.toNat r9.1.1) ZN).2.2.2.2.1,(x3.getD (Int.toNat r9.1.1) ZN).2.2.2.2.2.1,(x3.getD (Int.toNat r9.1.1) ZN).2.2.2.2.2.2.1,(x3.getD (Int.toNat r9.1.1) ZN).2.2.2.2.2.2.2.1,(x3.getD (Int.toNat r10.1.1) ZN).2.2.2.2.2.2.2.2 ++ [(r11.1.1,r12.1.1)]),()),((r12.2.1.1,r12.2.1.2),()))) (none)) (none)) (none)) (none)) (none)) (cond (decide (r6.1.1=(2:Int))) ((q51 n ((r6.2.1.1,r6.2.1.2),(5:Int),())).bind fun r13=>(q51 n ((r13.2.1.1,r13.2.1.2),(4:Int),())).bind fun r14=>cond (decide ((0:Int)≤r13.1.1)) (cond (decide (r13.1.1 < (↑x3.length:Int))) (some ((x3.set (Int.toNat r13.1.1) (r14.1.1,(x3.getD (Int.toNat r13.1.1) ZN).2),()),((r14.2.1.1,r14.2.1.2),()))) (none)) (none)) (cond (decide (r6.1.1=(3:Int))) (cond (decide ((1:Int)≤(↑x3.length:Int))) (some ((List.take ((↑x3.length:Int) - (1:Int)).toNat (List.drop ((0:Nat) + Int.toNat (1:Int)) x3),()),((r6.2.1.1,r6.2.1.2),()))) (none)) (cond (decide (r6.1.1=(4:Int))) ((q51 n ((r6.2.1.1,r6.2.1.2),(5:Int),())).bind fun r15=>(q51 n ((r15.2.1.1,r15.2.1.2),(4:Int),())).bind fun r16=>cond (decide ((0:Int)≤r16.1.1)) (cond (decide (r16.1.1 < (↑[(99:Int),(100:Int),(-1:Int),(0:Int)].length:Int))) (cond (decide ((0:Int)≤r15.1.1)) (cond (decide (r15.1.1 < (↑x3.length:Int))) (some ((x3.set (Int.toNat r15.1.1) ((x3.getD (Int.toNat r15.1.1) ZN).1,(x3.getD (Int.toNat r15.1.1) ZN).2.1,(x3.getD (Int.toNat r15.1.1) ZN).2.2.1,(x3.getD (Int.toNat r15.1.1) ZN).2.2.2.1,(x3.getD (Int.toNat r15.1.1) ZN).2.2.2.2.1,[(99:Int),(100:Int),(-1:Int),(0:Int)].getD (Int.toNat r16.1.1) (0:Int),(x3.getD (Int.toNat r15.1.1) ZN).2.2.2.2.2.2),()),((r16.2.1.1,r16.2.1.2),()))) (none)) (none)) (none)) (none)) (some ((x3,()),((r6.2.1.1,r6.2.1.2),()))))))))
theorem e47_top (n:Nat) (a:List Int × Int):runF TT G47 an47 Try.f47 c47 ps47 rs47 n (a,())=st47_top n (fun x0 x1 x2 x3=>at47 n (.head 3) [n] (sh47_L3 x0 x1 x2 x3)) a:=by kernel_rfl
theorem e47_L3_0 (n:Nat) (x0:Int) (x1:List Int) (x2:Int) (x3:List NT):at47 n (.head 3) [0] (sh47_L3 x0 x1 x2 x3)=none:=by kernel_rfl
theorem e47_L3 (n:Nat) (m3:Nat) (x0:Int) (x1:List Int) (x2:Int) (x3:List NT):at47 n (.head 3) [m3 + 1] (sh47_L3 x0 x1 x2 x3)=st47_L3 n (fun x0 x1 x2 x3=>at47 n (.head 3) [m3] (sh47_L3 x0 x1 x2 x3)) x0 x1 x2 x3:=by kernel_rfl
noncomputable def p47_L3 (n:Nat):Nat→Int→(List Int)→Int→(List NT)→Option R47
 | 0,_,_,_,_=>none
 | m + 1,x0,x1,x2,x3=>st47_L3 n (p47_L3 n m) x0 x1 x2 x3
noncomputable def p47 (n:Nat) (a:List Int × Int):Option R47:=st47_top n (p47_L3 n n) a
theorem t47_L3 (n:Nat):∀ (m3:Nat) (x0:Int) (x1:List Int) (x2:Int) (x3:List NT),at47 n (.head 3) [m3] (sh47_L3 x0 x1 x2 x3)=p47_L3 n m3 x0 x1 x2 x3:=by
 intro m
 induction m with
 | zero=>intros; rw [e47_L3_0]; rfl
 | succ m ih =>
  intros
  rw [e47_L3]
  try simp only [ih]
  rfl
theorem F47_eq (n:Nat) (a:List Int × Int):runF TT G47 an47 Try.f47 c47 ps47 rs47 n (a,())=p47 n a:=by
 rw [e47_top]
 simp only [t47_L3]
 try rfl
noncomputable def q47 (n:Nat) (x:argsD ps47):Option R47:=p47 n x.1
noncomputable def Sm47:Sm:=⟨ps47,rs47,true,q47⟩
theorem holds47 (hg:GamOK Try.prog G47):Holds Try.prog 47 Sm47:=by
 have:=h0_47 hg
 have e:(runF TT G47 an47 Try.f47 c47 ps47 rs47)=q47:=by
  funext n x
  exact F47_eq n x.1
 rw [e] at this
 exact this
theorem gam47:GamOK Try.prog G47:=by
 intro f s h
 unfold G47 at h
 split at h
 ·injection h with h; subst h; exact ⟨⟨Try.f50,c50,Try.func50,by kernel_rfl,by decide +kernel⟩,hh50⟩
 ·injection h with h; subst h; exact ⟨⟨Try.f51,c51,Try.func51,by kernel_rfl,by decide +kernel⟩,hh51⟩
 ·injection h with h; subst h; exact ⟨⟨Try.f88,c88,Try.func88,by kernel_rfl,by decide +kernel⟩,hh88⟩
 ·injection h with h; subst h; exact ⟨⟨Try.f89,c89,Try.func89,by kernel_rfl,by decide +kernel⟩,hh89⟩
 ·cases h
theorem hh47:Holds Try.prog 47 Sm47:=holds47 gam47
end Go.Proofs.Ythhopbicmaipgaa.Rx.S

namespace Go.Proofs.Ythhopbicmaipgaa.Rx.S
open Go Go.RowKit Go.Proofs
set_option maxRecDepth 100000
noncomputable def c46:Code:=(Try.f46.body.getD .skip)
def an46:An:=⟨fun _=>⟨[],[]⟩,fun _ _=>none⟩
abbrev ps46:List PK:=[.val (.row 5 (.int .u8)) false]
abbrev rs46:List RK:=[.bx tRd]
abbrev R46:=retsD rs46 × outsD ps46
noncomputable def G46:Gam:=fun _=>none
theorem h0_46 (hg:GamOK Try.prog G46):Holds Try.prog 46 ⟨ps46,rs46,true,runF TT G46 an46 Try.f46 c46 ps46 rs46⟩:=holds_of tt_ok hg mixed Try.func46 (by kernel_rfl) (by rfl) (by decide +kernel)
noncomputable def st46_top (n:Nat) (a:List Int):Option R46 :=
 cond (decide ((2000:Int) < (↑a.length:Int))) (cond (decide ((2000:Int)≤(↑a.length:Int))) (some (((List.take (Int.toNat (2000:Int)) a,(0:Int)),()),())) (none)) (some (((a,(0:Int)),()),()))
theorem e46_top (n:Nat) (a:List Int):runF TT G46 an46 Try.f46 c46 ps46 rs46 n (a,())=st46_top n a:=by kernel_rfl
noncomputable def p46 (n:Nat) (a:List Int):Option R46:=st46_top n a
theorem F46_eq (n:Nat) (a:List Int):runF TT G46 an46 Try.f46 c46 ps46 rs46 n (a,())=p46 n a:=by
 rw [e46_top]
 skip
 try rfl
noncomputable def q46 (n:Nat) (x:argsD ps46):Option R46:=p46 n x.1
noncomputable def Sm46:Sm:=⟨ps46,rs46,true,q46⟩
theorem holds46 (hg:GamOK Try.prog G46):Holds Try.prog 46 Sm46:=by
 have:=h0_46 hg
 have e:(runF TT G46 an46 Try.f46 c46 ps46 rs46)=q46:=by
  funext n x
  exact F46_eq n x.1
 rw [e] at this
 exact this
theorem gam46:GamOK Try.prog G46:=fun _ _ h=>by cases h
theorem hh46:Holds Try.prog 46 Sm46:=holds46 gam46
end Go.Proofs.Ythhopbicmaipgaa.Rx.S

namespace Go.Proofs.Ythhopbicmaipgaa.Rx.S
open Go Go.RowKit Go.Proofs
set_option maxRecDepth 100000
noncomputable def c49:Code:=(Try.f49.body.getD .skip)
def an49:An:=⟨fun _=>⟨[],[]⟩,fun _ _=>none⟩
abbrev ps49:List PK:=[.bx tRd]
abbrev rs49:List RK:=[.val i64 false]
abbrev R49:=retsD rs49 × outsD ps49
noncomputable def G49:Gam:=fun f=>match f with | 51=>some Sm51 | _=>none
theorem h0_49 (hg:GamOK Try.prog G49):Holds Try.prog 49 ⟨ps49,rs49,true,runF TT G49 an49 Try.f49 c49 ps49 rs49⟩:=holds_of tt_ok hg mixed Try.func49 (by kernel_rfl) (by rfl) (by decide +kernel)
noncomputable def st49_top (n:Nat) (a:List Int × Int):Option R49 :=
 (q51 n ((a.1,a.2),(16:Int),())).bind fun r0=>cond (decide (r0.1.1=(0:Int))) ((q51 n ((r0.2.1.1,r0.2.1.2),(3:Int),())).bind fun r1=>cond (decide ((0:Int)≤r1.1.1)) (cond (decide (r1.1.1 < (↑[(-1:Int),(10:Int),(9:Int)].length:Int))) (some (([(-1:Int),(10:Int),(9:Int)].getD (Int.toNat r1.1.1) (0:Int),()),((r1.2.1.1,r1.2.1.2),()))) (none)) (none)) ((q51 n ((r0.2.1.1,r0.2.1.2),(5:Int),())).bind fun r2=>some ((r2.1.1,()),((r2.2.1.1,r2.2.1.2),())))
theorem e49_top (n:Nat) (a:List Int × Int):runF TT G49 an49 Try.f49 c49 ps49 rs49 n (a,())=st49_top n a:=by kernel_rfl
noncomputable def p49 (n:Nat) (a:List Int × Int):Option R49:=st49_top n a
theorem F49_eq (n:Nat) (a:List Int × Int):runF TT G49 an49 Try.f49 c49 ps49 rs49 n (a,())=p49 n a:=by
 rw [e49_top]
 skip
 try rfl
noncomputable def q49 (n:Nat) (x:argsD ps49):Option R49:=p49 n x.1
noncomputable def Sm49:Sm:=⟨ps49,rs49,true,q49⟩
theorem holds49 (hg:GamOK Try.prog G49):Holds Try.prog 49 Sm49:=by
 have:=h0_49 hg
 have e:(runF TT G49 an49 Try.f49 c49 ps49 rs49)=q49:=by
  funext n x
  exact F49_eq n x.1
 rw [e] at this
 exact this
theorem gam49:GamOK Try.prog G49:=by
 intro f s h
 unfold G49 at h
 split at h
 ·injection h with h; subst h; exact ⟨⟨Try.f51,c51,Try.func51,by kernel_rfl,by decide +kernel⟩,hh51⟩
 ·cases h
theorem hh49:Holds Try.prog 49 Sm49:=holds49 gam49
end Go.Proofs.Ythhopbicmaipgaa.Rx.S

namespace Go.Proofs.Ythhopbicmaipgaa.Rx.S
open Go Go.Proofs.Ythhopbicmaipgaa.Rx Go.RowKit Go.Lib Go.Proofs
set_option linter.unusedVariables false
set_option linter.unusedSimpArgs false
theorem zero95:∀ w,(zeroValue 95).run Try.prog w = .ok (.agg #[.string ⟨#[]⟩,.int .i64 0]) w:=fun w=>by
 have hi:(Try.prog.info? 95).bind (·.zero)=some (.agg #[.string ⟨#[]⟩,.int .i64 0]):=by kernel_rfl
 obtain ⟨i,h1,h2⟩:=Option.bind_eq_some_iff.1 hi
 simp [zeroValue,typeInfo,h1,h2]
set_option maxHeartbeats 4000000 in
set_option maxRecDepth 1000000 in
theorem del_walk (blk off n cap i j:Nat) (hj:j=i + 1) (us:List Value) (w:World) (hl:us.length=n * 2) (h1:∀ u ∈ us,u.oneCell'=true) (hcell:∀ j u,us[j]? = some u→w.cell? ⟨blk,off + j,none⟩=some u)
  (hfz:∀ j,j < n * 2→w.frozen? ⟨blk,off + j,none⟩=false) (hn:n≤cap) (hm:cap≤9223372036854775807) (hi:i < n) :
  Calls Try.prog 105 #[.slice (some ⟨blk,off,none⟩) n cap,.int .i64 i,.int .i64 (j:Nat)] w fun e w'=>e = .returned (.slice (some ⟨blk,off,none⟩) (n - 1) cap) ∧
   w'=(w.drew.setCells blk (off + i * 2) (us.drop (j * 2))).setCells blk (off + (n - 1) * 2) [.string ⟨#[]⟩,.int .i64 0]:=by
 have mixed:Try.prog.follows .mixedOrders=true:=by kernel_rfl
 have t37:Try.prog.underlying 37=some (.slice 95):=by kernel_rfl
 obtain ⟨news,hnews⟩:∃ news,news=us.drop (j * 2):=⟨_,rfl⟩
 have hlen:news.length=(n - j) * 2:=by rw [hnews,List.length_drop,hl]; omega
 obtain ⟨i0,hi0,hz1⟩:∃ i0,Try.prog.info? 95=some i0∧i0.size=2:=by
  have h:(Try.prog.info? 95).map (·.size)=some 2:=by kernel_rfl
  obtain ⟨i0,h1,h2⟩:=Option.map_eq_some_iff.1 h
  exact ⟨i0,h1,h2⟩
 obtain ⟨A,hA,hsrc⟩:∃ A:Addr,(if cap=j then (some ⟨blk,off,none⟩:Option Addr) else some ⟨blk,off + j * 2,none⟩)=some A∧Hid (∀ t u,news[t]? = some u→w.drew.cell? (A.add t)=some u):=by
  by_cases h:cap=j
  ·refine ⟨⟨blk,off,none⟩,by simp [h],fun t u hu=>?_⟩
   have h0:news.length=0:=by rw [hlen]; omega
   rw [List.length_eq_zero_iff.1 h0] at hu
   simp at hu
  ·refine ⟨⟨blk,off + j * 2,none⟩,by simp [h],fun t u hu=>?_⟩
   rw [hnews,List.getElem?_drop] at hu
   rw [Addr.add_lit,Nat.add_assoc]
   exact hcell _ _ hu
 have s2:Hid (∀ u ∈ news,u.oneCell'=true):=fun u hu=>h1 u (List.mem_of_mem_drop (hnews ▸ hu))
 have s1:Hid (news.length=(n - j) * 2):=hlen
 have hsome:∀ j,j < n * 2→(w.cell? ⟨blk,off + j,none⟩).isSome=true:=fun j hj=>by
  rw [hcell j _ (List.getElem?_eq_getElem (by rw [hl]; exact hj))]; rfl
 have s3:Hid (∀ t,t < news.length→(w.drew.cell? ⟨blk,off + i * 2 + t,none⟩).isSome=true∧w.drew.frozen? ⟨blk,off + i * 2 + t,none⟩=false):=by
  intro t ht
  rw [hlen] at ht
  rw [Nat.add_assoc]
  exact ⟨hsome _ (by omega),hfz _ (by omega)⟩
 obtain ⟨W1,hW1⟩:∃ W1,W1=w.drew.setCells blk (off + i * 2) news:=⟨_,rfl⟩
 have hcl:∀ ty,(Builtin.clear_ #[37] ty #[.slice (some ⟨blk,off + (i + (n - j)) * 2,none⟩) (n - (i + (n - j))) (cap - (i + (n - j)))]).run Try.prog W1 = .ok (.tuple #[]) (W1.setCells blk (off + (n - 1) * 2) [.string ⟨#[]⟩,.int .i64 0]):=fun ty=>by
  rw [show i + (n - j)=n - 1 by omega,show n - (n - 1)=1 by omega]
  refine run_clear_n W1 37 95 ty _ t37 zero95 (by decide) (by decide) blk _ 1 _ (by omega) (fun j hj=>?_) (fun j hj=>?_)
  ·have hj:j < 2:=hj
   rw [hW1]
   refine isSome_setCellsR blk _ _ _ (fun k hk=>?_) _ ?_
   ·rw [hlen] at hk; rw [Nat.add_assoc]; exact hsome _ (by omega)
   ·rw [Nat.add_assoc]; exact hsome _ (by omega)
  ·have hj:j < 2:=hj
   rw [hW1,World.frozen?_setCells,Nat.add_assoc]; exact hfz _ (by omega)
 have hW:Hid (W1=w.drew.setCells blk (off + i * 2) news):=hW1
 have hic:i≤cap:=by omega
 have hjn:j≤n:=by omega
 have hij:¬ ((i:Int)=j):=by omega
 have hjc:j≤cap:=by omega
 rw [← hnews,← hW1]
 have hlt:i < j:=by omega
 have hj':Hid (j=i + 1):=hj
 clear hj hW1 hcell hfz hsome hnews hlen h1
 go_enter Try.func105,Try.ntmps105
 go_wp2_with fail
 go_region_law (refine step_append_room rfl (.tmp 22) (.tmp 25) 37 rfl 95 i0 2 t37 hi0 hz1 blk off i cap (by simp [Act.eval,Act.put]) A (n - j) (cap - j) news (by simp [Act.eval,Act.put,hA]) s1.out hsrc.out s2.out (by omega) s3.out ?_; rw [← hW.out])
 go_wp2
 go_ret
 refine ⟨?_,rfl⟩
 rw [show i + (n - j)=n - 1 by have:=hj'.out; omega]
 rfl
end Go.Proofs.Ythhopbicmaipgaa.Rx.S

namespace Go.Proofs.Ythhopbicmaipgaa.Rx.S
open Go Go.Proofs.Ythhopbicmaipgaa.Rx Go.RowKit Go.Lib Go.Proofs
set_option linter.unusedVariables false
set_option linter.unusedSimpArgs false
theorem wp_copy_runR (w:World) {o:Oper} {a:Act} {K:Act→World→Prop} {Q:Exit→Act→World→Prop} (d s:Operand) (t t':TypeId)
  (ho:o.op = .call { callee:=.builtin .copy,args:=#[d,s],argTypes:=#[t,t'] }) (v u:Value) (hd:a.eval d=v) (hs:a.eval s=u) {v':Value} {w':World}
  (hr:(Builtin.copy_ #[t,t'] o.type #[v,u]).run Try.prog w = .ok v' w') (h:K (a.put o.dst v') w'):o.wp Try.prog a w K Q:=by
 unfold Oper.wp execOp
 simp only [ho,resolve,invoke,builtin,Sem.run_bind,Sem.run_pure,Result.andThen_ok,List.map_toArray,List.map_cons,List.map_nil,hd,hs,hr]
 exact h
theorem wpList_copy_runR (w:World) {ops:Array Oper} {rest:List Oper} {o:Oper} {a:Act} {Q:Exit→Act→World→Prop} (hgd:o.guard=none) (d s:Operand) (t t':TypeId)
  (ho:o.op = .call { callee:=.builtin .copy,args:=#[d,s],argTypes:=#[t,t'] }) (v u:Value) (hd:a.eval d=v) (hs:a.eval s=u) {v':Value} {w':World}
  (hr:(Builtin.copy_ #[t,t'] o.type #[v,u]).run Try.prog w = .ok v' w') (h:wpList Try.prog ops Q rest (a.put o.dst v') w'):wpList Try.prog ops Q (o :: rest) a w :=
 wpList_plain hgd fun _ hK=>wp_copy_runR w d s t t' ho v u hd hs hr (hK _ _ h)
theorem step_copy_runR {ops:Array Oper} {o:Oper} {a:Act} {w:World} {K:Act→World→Prop} {Q:Exit→Act→World→Prop} {E:Prop}
  (hg:o.guard=none) (d x:Operand) (dT sT:TypeId) (hop:o.op=Op.call { callee:=Callee.builtin Builtin.copy,args:=#[d,x],argTypes:=#[dT,sT] })
  (v u:Value) (hd:a.eval d=v) (hx:a.eval x=u) {v':Value} {w':World} (hr:(Builtin.copy_ #[dT,sT] o.type #[v,u]).run Try.prog w = .ok v' w') (hK:K (a.put o.dst v') w') :
  if Region.wanted o (yielded ops a.tmps)=true then Oper.wp Try.prog o a w K Q else E:=by
 have hw:Region.wanted o (yielded ops a.tmps)=true:=by simp [Region.wanted,hg]
 rw [if_pos hw]
 unfold Oper.wp
 simp [execOp,hop,resolve,invoke,builtin,hd,hx,hr,Result.andThen]
 exact hK
theorem i95:(Try.prog.info? 95).map (fun i=>(i.zero,i.size,i.bytes))=some (some (.agg #[.string ⟨#[]⟩,.int .i64 0]),2,24):=by kernel_rfl
set_option maxHeartbeats 4000000 in
set_option maxRecDepth 100000 in
theorem ins_shift (b off n c i vb voff m vc:Nat) (cs vs:List Value) (w:World) (hi:i < n) (hm:0 < m) (hroom:n + m≤c) (hc63:c≤9223372036854775807) (hvb:vb ≠ b)
  (hcl:cs.length=n * 2) (hvl:vs.length=m * 2)
  (hcs:∀ j v,cs[j]? = some v→w.cell? ⟨b,off + j,none⟩=some v) (hsp:∀ j,j < (n + m) * 2→(w.cell? ⟨b,off + j,none⟩).isSome=true) (hfz:∀ j,j < (n + m) * 2→w.frozen? ⟨b,off + j,none⟩=false)
  (hvs:∀ j v,vs[j]? = some v→w.cell? ⟨vb,voff + j,none⟩=some v) (h1c:∀ v ∈ cs,v.oneCell'=true) (h1v:∀ v ∈ vs,v.oneCell'=true)
  (tA tB:TypeId) (kA kB:Nat) (hsa:w.shape? vb=some (tA,kA)) (hsb:w.shape? b=some (tB,kB)) (hkB:kB ≠ 0) (hfa:w.frozen? ⟨vb,voff,none⟩=false) (hfe:w.frozen? ⟨vb,kA,none⟩=false) :
  Calls Try.prog 99 #[.slice (some ⟨b,off,none⟩) n c,.int .i64 i,.slice (some ⟨vb,voff,none⟩) m vc] w fun e w' =>
   e = .returned (.slice (some ⟨b,off,none⟩) (n + m) c)∧w'=(w.drew.setCells b (off + (i + m) * 2) (cs.drop (i * 2))).setCells b (off + i * 2) vs:=by
 have t37:Try.prog.underlying 37=some (.slice 95):=by kernel_rfl
 have mixed:Try.prog.follows .mixedOrders=true:=by kernel_rfl
 have hz1:¬ ((m:Int)=0):=by omega
 have hz2:¬ ((i:Int)=(n:Int)):=by omega
 have hsz:(Try.prog.info? 95).map (·.size)=some 2:=by kernel_rfl
 have z95:∀ w,(Go.sizeOf 95).run Try.prog w = .ok 2 w:=fun w=>by
  obtain ⟨i0,h0,h1⟩:=Option.map_eq_some_iff.1 hsz
  simp [Go.sizeOf,typeInfo,h0,h1]
 have hov:∀ lb cb,(callFunc 120 #[.slice (some ⟨vb,voff,none⟩) m vc,.slice (some ⟨b,off + (i + m) * 2,none⟩) lb cb]).run Try.prog w = .ok (.value (.bool false)) w:=fun lb cb=>by
  rw [run_callFunc_extern Try.func120 (by kernel_rfl) (by kernel_rfl) (by kernel_rfl) (e:=Extern.SlicesOverlaps.overlaps #[37,37] #[4]) (by kernel_rfl),
   Lib.run_overlaps_apart w 37 4 95 t37 2 z95 ⟨vb,voff,none⟩ ⟨b,off + (i + m) * 2,none⟩ m vc lb cb hvb tA tB kA kB hsa hsb hkB hfa hfe]
  rfl
 have hdl:(cs.drop (i * 2)).length=(n - i) * 2:=by rw [List.length_drop,hcl]; omega
 have hw1:IntKind.i64.wrap ((i:Int) + (m:Int))=(i:Int) + (m:Int):=by rw [IntKind.wrap_i64]; omega
 have hb1:(0:Int)≤(i:Int) + (m:Int):=by omega
 have hin:i≤n:=by omega
 have htn:((i:Int) + (m:Int)).toNat=i + m:=by omega
 have hb2:¬ (c=i + m):=by omega
 have hb3:(i:Int)≤(n:Int) + (m:Int):=by omega
 have hb4:¬ (c=i):=by omega
 have hcp1:∀ ty dc sc,(Builtin.copy_ #[37,37] ty #[.slice (some ⟨b,off + (i + m) * 2,none⟩) (n + m - (i + m)) dc,.slice (some ⟨b,off + i * 2,none⟩) (n + m - i) sc]).run Try.prog w.drew = .ok (goInt (Nat.min (n + m - i) (n + m - (i + m)))) (w.drew.setCells b (off + (i + m) * 2) (cs.drop (i * 2))):=fun ty dc sc =>
  run_copy_n w.drew _ _ ty 95 2 b (off + (i + m) * 2) (n + m - (i + m)) dc ⟨b,off + i * 2,none⟩ (n + m - i) sc (cs.drop (i * 2)) t37 hsz (by rw [hdl]; simp only [Nat.min_def]; split <;> omega)
   (fun j v hj=>by rw [Addr.add_lit,Nat.add_assoc]; exact hcs (i * 2 + j) v (by rwa [List.getElem?_drop] at hj))
   (fun j hj=>by rw [Nat.add_assoc]; exact hsp _ (by omega)) (fun j hj=>by rw [Nat.add_assoc]; exact hfz _ (by omega)) (fun v hv=>h1c v (List.mem_of_mem_drop hv))
 obtain ⟨W1,hW1⟩:∃ W1,W1=w.drew.setCells b (off + (i + m) * 2) (cs.drop (i * 2)):=⟨_,rfl⟩
 have hsp1:∀ k,k < (n + m) * 2→(W1.cell? ⟨b,off + k,none⟩).isSome=true:=fun k hk=>by
  rw [hW1]
  exact isSome_setCellsR b _ _ _ (fun j hj=>by rw [Nat.add_assoc]; exact hsp _ (by omega)) _ (hsp k hk)
 have hcp2:∀ (W:World),(∀ x,W.cell? x=W1.cell? x)→(∀ x,W.frozen? x=W1.frozen? x)→∀ ty dc,(Builtin.copy_ #[37,37] ty #[.slice (some ⟨b,off + i * 2,none⟩) (n + m - i) dc,.slice (some ⟨vb,voff,none⟩) m vc]).run Try.prog W = .ok (goInt (Nat.min m (n + m - i))) (W.setCells b (off + i * 2) vs):=fun W hWc hWf ty dc =>
  run_copy_n W _ _ ty 95 2 b (off + i * 2) (n + m - i) dc ⟨vb,voff,none⟩ m vc vs t37 hsz (by rw [hvl]; simp only [Nat.min_def]; split <;> omega)
   (fun j v hj=>by
    rw [Addr.add_lit,hWc,hW1,World.cell?_setCells_out b _ _ _ _ (fun h _=>absurd h hvb)]
    exact hvs j v hj)
   (fun j hj=>by rw [hWc,Nat.add_assoc]; exact hsp1 _ (by omega)) (fun j hj=>by rw [hWf,hW1,World.frozen?_setCells,Nat.add_assoc]; exact hfz _ (by omega)) h1v
 rw [← hW1] at hcp1
 rw [← hW1]
 clear hcl hvl hcs hsp hfz hvs hsp1 hdl hsa hsb hfa hfe
 go_enter Try.func99,Try.ntmps99
 go_wp2_with (simp only [hov])
 go_region_law (refine step_copy_runR rfl _ _ 37 37 rfl _ _ (by simp [Act.eval,Act.put]) (by simp [Act.eval,Act.put]) (hcp1 _ _ _) ?_)
 go_wp2_with (at_builtin; refine wpList_copy_runR _ rfl _ _ 37 37 rfl _ _ rfl rfl (hcp2 _ (fun _=>rfl) (fun _=>rfl) _ _) ?_)
 go_ret
 first | exact ⟨rfl,rfl⟩ | exact ⟨rfl,by rw [hW1]⟩
set_option maxHeartbeats 4000000 in
set_option maxRecDepth 100000 in
theorem ins_end (base:Option Addr) (n c m vc:Nat) (X:Option Addr) (w:World) (hm:0 < m) (hnc:n≤c) (hc63:c≤9223372036854775807) (hnil:base=none→n=0∧c=0) {v':Value} {w1:World}
  (hrun:∀ ty,(Builtin.append_ #[37,37] ty #[.slice base n c,.slice X m vc]).run Try.prog w = .ok v' w1) :
  Calls Try.prog 99 #[.slice base n c,.int .i64 n,.slice X m vc] w fun e w'=>e = .returned v'∧w'=w1:=by
 have t37:Try.prog.underlying 37=some (.slice 95):=by kernel_rfl
 have mixed:Try.prog.follows .mixedOrders=true:=by kernel_rfl
 have hz1:¬ ((m:Int)=0):=by omega
 go_enter Try.func99,Try.ntmps99
 cases base with
 | none =>
  obtain ⟨h0,h1⟩:=hnil rfl
  subst h0; subst h1
  go_wp2_with (at_builtin; refine Lib.wpList_append_run _ rfl _ _ _ _ rfl _ _ rfl rfl _ _ (hrun _) ?_)
  go_ret
  exact ⟨rfl,rfl⟩
 | some a =>
  obtain ⟨ab,ao,asp⟩:=a
  clear hnil
  go_wp2_with (at_builtin; refine Lib.wpList_append_run _ rfl _ _ _ _ rfl _ _ rfl rfl _ _ (hrun _) ?_)
  all_goals (go_ret; exact ⟨rfl,rfl⟩)
end Go.Proofs.Ythhopbicmaipgaa.Rx.S

namespace Go.Proofs.Ythhopbicmaipgaa.Rx.S
open Go Go.Proofs.Ythhopbicmaipgaa.Rx Go.RowKit Go.Lib Go.Proofs
set_option linter.unusedVariables false
set_option linter.unusedSimpArgs false
set_option maxHeartbeats 4000000 in
set_option maxRecDepth 100000 in
theorem ins_grow (b off n c i vb voff m vc:Nat) (cs vs:List Value) (w:World) (hi:i < n) (hm:0 < m) (hnc:n≤c) (hroom:c < n + m) (hbig:(n + m) * 24≤140737488355328)
  (hcl:cs.length=n * 2) (hvl:vs.length=m * 2)
  (hcs:∀ j v,cs[j]? = some v→w.cell? ⟨b,off + j,none⟩=some v)
  (hvs:∀ j v,vs[j]? = some v→w.cell? ⟨vb,voff + j,none⟩=some v) (h1c:∀ v ∈ cs,v.oneCell'=true) (h1v:∀ v ∈ vs,v.oneCell'=true) :
  Calls Try.prog 99 #[.slice (some ⟨b,off,none⟩) n c,.int .i64 i,.slice (some ⟨vb,voff,none⟩) m vc] w fun e w' =>
   e = .returned (.slice (some ⟨w.heap.size,0,none⟩) (n + m) (grownCap w (n + m) c 95)) ∧
   w'=(((w.alloc (.cells ((cs.take (i * 2)).toArray ++ Builtin.zeroCells (Value.agg #[.string ⟨#[]⟩,.int .i64 0]).cells (n + m - i) ++ Builtin.zeroCells (Value.agg #[.string ⟨#[]⟩,.int .i64 0]).cells (grownCap w (n + m) c 95 - (n + m))) 95)).drew.setCells w.heap.size (i * 2) vs).drew).setCells w.heap.size ((i + m) * 2) (cs.drop (i * 2)):=by
 have t37:Try.prog.underlying 37=some (.slice 95):=by kernel_rfl
 have t3:Try.prog.underlying 3=some (.int .i64):=by kernel_rfl
 have mixed:Try.prog.follows .mixedOrders=true:=by kernel_rfl
 obtain ⟨i0,hi0,hz0,hzs,hzb⟩:∃ i0,Try.prog.info? 95=some i0∧i0.zero=some (.agg #[.string ⟨#[]⟩,.int .i64 0])∧i0.size=2∧i0.bytes=24:=by
  obtain ⟨i0,h1,h2⟩:=Option.map_eq_some_iff.1 i95
  simp only [Prod.mk.injEq] at h2
  exact ⟨i0,h1,h2.1,h2.2.1,h2.2.2⟩
 have hz1:¬ ((m:Int)=0):=by omega
 have hz2:¬ ((i:Int)=(n:Int)):=by omega
 have hz3:(c:Int) < (n:Int) + (m:Int):=by omega
 have hsz:(Try.prog.info? 95).map (·.size)=some 2:=by kernel_rfl
 have hbw:b < w.heap.size:=block_lt_of_cell (hcs 0 _ (List.getElem?_eq_getElem (by omega)))
 have hvw:vb < w.heap.size:=block_lt_of_cell (hvs 0 _ (List.getElem?_eq_getElem (by omega)))
 have hkk:(n:Int) + (m:Int) - (i:Int)=((n + m - i:Nat):Int):=by omega
 have hik:i + (n + m - i)=n + m:=by omega
 have hold:(Builtin.firstCells i0.size i (.slice (some ⟨b,off,none⟩) i c)).run Try.prog w.drew = .ok (cs.take (i * 2)).toArray w.drew:=by
  rw [hzs]
  exact run_firstCells_some w.drew 2 i ⟨b,off,none⟩ i c (cs.take (i * 2)) (by rw [List.length_take]; omega) (fun j v hj=>by
   rw [Addr.add_lit]
   rw [List.getElem?_take] at hj
   split at hj
   ·exact hcs j v hj
   ·cases hj)
 have hrz:∀ ty,(Builtin.append_ #[37,3] ty #[.slice (some ⟨b,off,none⟩) i c,.int .i64 ((n:Int) + (m:Int) - (i:Int))]).run Try.prog w =
   .ok (.slice (some ⟨w.heap.size,0,none⟩) (n + m) (grownCap w (n + m) c 95)) (w.drew.alloc (.cells ((cs.take (i * 2)).toArray ++ Builtin.zeroCells (Value.agg #[.string ⟨#[]⟩,.int .i64 0]).cells (n + m - i) ++ Builtin.zeroCells (Value.agg #[.string ⟨#[]⟩,.int .i64 0]).cells (grownCap w (n + m) c 95 - (n + m))) 95)):=fun ty=>by
  have h:=Lib.run_append_grow_zeros w 37 3 ty 95 i0 _ .i64 .i64 t37 t3 hi0 hz0 (some ⟨b,off,none⟩) i c (cs.take (i * 2)) hold (n + m - i) (by omega) (by omega) (by omega) (by omega) (by rw [hzb]; omega) (by rw [hzb,hik]; exact growslice_fits hroom hbig)
  rw [hik] at h
  rw [hkk]
  exact h
 obtain ⟨G,hG⟩:∃ G,G=grownCap w (n + m) c 95:=⟨_,rfl⟩
 obtain ⟨ROW,hROW⟩:∃ ROW:Array Value,ROW=(cs.take (i * 2)).toArray ++ Builtin.zeroCells (Value.agg #[.string ⟨#[]⟩,.int .i64 0]).cells (n + m - i) ++ Builtin.zeroCells (Value.agg #[.string ⟨#[]⟩,.int .i64 0]).cells (G - (n + m)):=⟨_,rfl⟩
 rw [← hG] at hrz ⊢
 rw [← hROW] at hrz ⊢
 have hRl:(n + m) * 2≤ROW.size:=by
  rw [hROW]
  simp [Builtin.zeroCells,Value.cells]
  omega
 obtain ⟨W1,hW1⟩:∃ W1,W1=w.drew.alloc (.cells ROW 95):=⟨_,rfl⟩
 rw [← hW1] at hrz
 have hN:∀ j,j < (n + m) * 2→(W1.cell? ⟨w.heap.size,j,none⟩).isSome=true:=fun j hj=>by
  rw [hW1,World.cell?_alloc_at (w:=w.drew) ROW _ w.heap.size j rfl,Array.getElem?_eq_getElem (by omega)]; rfl
 have hNf:∀ j,W1.frozen? ⟨w.heap.size,j,none⟩=false:=fun j=>by rw [hW1]; exact World.frozen?_alloc_at (w:=w.drew) ROW _ w.heap.size j rfl
 have hOb:∀ j v,w.cell? ⟨b,j,none⟩=some v→W1.cell? ⟨b,j,none⟩=some v:=fun j v h=>by rw [hW1,World.cell?_alloc_past (w:=w.drew) _ b j hbw]; exact h
 have hOv:∀ j v,w.cell? ⟨vb,j,none⟩=some v→W1.cell? ⟨vb,j,none⟩=some v:=fun j v h=>by rw [hW1,World.cell?_alloc_past (w:=w.drew) _ vb j hvw]; exact h
 have hcpA:∀ (W:World),(∀ x,W.cell? x=W1.cell? x)→(∀ x,W.frozen? x=W1.frozen? x)→∀ ty dc,(Builtin.copy_ #[37,37] ty #[.slice (some ⟨w.heap.size,i * 2,none⟩) (n + m - i) dc,.slice (some ⟨vb,voff,none⟩) m vc]).run Try.prog W = .ok (goInt (Nat.min m (n + m - i))) (W.setCells w.heap.size (i * 2) vs):=fun W hWc hWf ty dc =>
  run_copy_n W _ _ ty 95 2 w.heap.size (i * 2) (n + m - i) dc ⟨vb,voff,none⟩ m vc vs t37 hsz (by rw [hvl]; simp only [Nat.min_def]; split <;> omega)
   (fun j v hj=>by rw [Addr.add_lit,hWc]; exact hOv _ v (hvs j v hj))
   (fun j hj=>by rw [hWc]; exact hN _ (by omega)) (fun j hj=>by rw [hWf]; exact hNf _) h1v
 have hGn:n + m≤G:=by rw [hG]; exact grownCap_ge w _ _ _
 have hG63:G≤9223372036854775807:=by
  have:=grownCap_le_maxLen w (n + m) c 95 (by unfold maxLen; omega)
  rw [← hG] at this
  unfold maxLen at this
  omega
 have hGi:¬ (G=i):=by omega
 have hGim:¬ (G=i + m):=by omega
 have hci:¬ (c=i):=by omega
 have hbN:b ≠ w.heap.size:=by omega
 have hdl:(cs.drop (i * 2)).length=(n - i) * 2:=by rw [List.length_drop,hcl]; omega
 have hcpB:∀ (W:World),(∀ x,W.cell? x=(W1.setCells w.heap.size (i * 2) vs).cell? x)→(∀ x,W.frozen? x=(W1.setCells w.heap.size (i * 2) vs).frozen? x)→∀ ty dc sc,(Builtin.copy_ #[37,37] ty #[.slice (some ⟨w.heap.size,(i + m) * 2,none⟩) (n + m - (i + m)) dc,.slice (some ⟨b,off + i * 2,none⟩) (n - i) sc]).run Try.prog W = .ok (goInt (Nat.min (n - i) (n + m - (i + m)))) (W.setCells w.heap.size ((i + m) * 2) (cs.drop (i * 2))):=fun W hWc hWf ty dc sc =>
  run_copy_n W _ _ ty 95 2 w.heap.size ((i + m) * 2) (n + m - (i + m)) dc ⟨b,off + i * 2,none⟩ (n - i) sc (cs.drop (i * 2)) t37 hsz (by rw [hdl]; simp only [Nat.min_def]; split <;> omega)
   (fun j v hj=>by
    rw [Addr.add_lit,hWc,World.cell?_setCells_out _ _ _ _ _ (fun h _=>absurd h hbN),Nat.add_assoc]
    exact hOb _ v (hcs (i * 2 + j) v (by rwa [List.getElem?_drop] at hj)))
   (fun j hj=>by rw [hWc]; exact isSome_setCellsR _ _ _ _ (fun t ht=>hN _ (by omega)) _ (hN _ (by omega)))
   (fun j hj=>by rw [hWf,World.frozen?_setCells]; exact hNf _) (fun v hv=>h1c v (List.mem_of_mem_drop hv))
 subst hW1
 have hE1:∀ x,((w.alloc (.cells ROW 95)).drew).cell? x=(w.drew.alloc (.cells ROW 95)).cell? x:=fun x=>rfl
 have hE2:∀ x,((w.alloc (.cells ROW 95)).drew).frozen? x=(w.drew.alloc (.cells ROW 95)).frozen? x:=fun x=>rfl
 have hF1:∀ x,(((w.alloc (.cells ROW 95)).drew.setCells w.heap.size (i * 2) vs).drew).cell? x=((w.drew.alloc (.cells ROW 95)).setCells w.heap.size (i * 2) vs).cell? x:=fun x=>rfl
 have hF2:∀ x,(((w.alloc (.cells ROW 95)).drew.setCells w.heap.size (i * 2) vs).drew).frozen? x=((w.drew.alloc (.cells ROW 95)).setCells w.heap.size (i * 2) vs).frozen? x:=fun x=>rfl
 have hw1:IntKind.i64.wrap ((i:Int) + (m:Int))=(i:Int) + (m:Int):=by rw [IntKind.wrap_i64]; omega
 have hb1:(0:Int)≤(i:Int) + (m:Int):=by omega
 have hin:i≤n:=by omega
 have htn:((i:Int) + (m:Int)).toNat=i + m:=by omega
 have hb3:(i:Int)≤(n:Int):=by omega
 clear hkk hik hold hROW hG hRl hN hNf hOb hOv hcs hvs hcl hvl hdl
 go_enter Try.func99,Try.ntmps99
 go_wp2_with (first
  | (at_builtin; refine Lib.wpList_append_run _ rfl _ _ _ _ rfl _ _ rfl rfl _ _ (hrz _) ?_)
  | (at_builtin; refine wpList_copy_runR _ rfl _ _ 37 37 rfl _ _ rfl rfl (hcpA _ hE1 hE2 _ _) ?_)
  | (at_builtin; refine wpList_copy_runR _ rfl _ _ 37 37 rfl _ _ rfl rfl (hcpB _ (fun _=>rfl) (fun _=>rfl) _ _ _) ?_))
 go_region_law (refine step_copy_runR rfl _ _ 37 37 rfl (.slice (some ⟨w.heap.size,(i + m) * 2,none⟩) (n + m - (i + m)) (G - (i + m))) (.slice (some ⟨b,off + i * 2,none⟩) (n - i) (c - i)) (by simp [Act.eval,Act.put]) (by simp [Act.eval,Act.put]) (hcpB _ hF1 hF2 3 (G - (i + m)) (c - i)) ?_)
 go_wp2
 go_ret
 exact ⟨rfl,rfl⟩
end Go.Proofs.Ythhopbicmaipgaa.Rx.S

namespace Go.Proofs.Ythhopbicmaipgaa.Rx.S
open Go Go.Proofs.Ythhopbicmaipgaa.Rx Go.RowKit Go.Proofs
noncomputable def c99:Code:=(Try.f99.body.getD .skip)
abbrev ps99:List PK:=[.own (.row 95 tEn) false,.val i64 false,.own (.row 95 tEn) false]
abbrev rs99:List RK:=[.own (.row 95 tEn) false]
abbrev R99:=retsD rs99 × outsD ps99
def p99 (n:Nat) (a:List (ByteArray × Int)) (b:Int) (c:List (ByteArray × Int)):Option R99 :=
 cond (decide (0≤b)) (cond (decide (b≤a.length)) (cond (decide (1≤c.length)) (cond (decide ((a.length + c.length) * 24≤140737488355328)) (some ((a.take b.toNat ++ c ++ a.drop b.toNat,()),())) none) none) none) none
noncomputable def q99 (n:Nat) (x:argsD ps99):Option R99:=p99 n x.1 x.2.1 x.2.2.1
noncomputable def Sm99:Sm:=⟨ps99,rs99,false,q99⟩
theorem hh99:Holds Try.prog 99 Sm99:=by
 have h:TT 95=some ⟨.struct [(0,1),(1,1)],2,24,[.str,.int .i64],some tEn,true⟩:=by rfl
 obtain ⟨hti⟩:=tt_ok.get h
 exact holds_ins (t:=37) (T:=tEn) rfl hti rfl (by kernel_rfl) (by decide) rfl ins_shift ins_end ins_grow
end Go.Proofs.Ythhopbicmaipgaa.Rx.S

namespace Go.Proofs.Ythhopbicmaipgaa.Rx.S
open Go Go.RowKit Go.Proofs
set_option maxRecDepth 100000
noncomputable def c61:Code:=(Try.f61.body.getD .skip)
def an61:An:=⟨fun _=>⟨[],[]⟩,fun _ _=>none⟩
abbrev ps61:List PK:=[.bo tFs,.val i64 false,.val .str false,.val i64 false]
abbrev rs61:List RK:=[]
abbrev R61:=retsD rs61 × outsD ps61
noncomputable def G61:Gam:=fun f=>match f with | 59=>some Sm59 | 99=>some Sm99 | _=>none
theorem h0_61 (hg:GamOK Try.prog G61):Holds Try.prog 61 ⟨ps61,rs61,false,runF TT G61 an61 Try.f61 c61 ps61 rs61⟩:=holds_of tt_ok hg mixed Try.func61 (by kernel_rfl) (by rfl) (by decide +kernel)
noncomputable def st61_top (n:Nat) (a:List NT) (b:Int) (c:ByteArray) (d:Int):Option R61 :=
 cond (decide ((0:Int)≤b)) (cond (decide (b < (↑a.length:Int))) ((q59 n (((a.getD b.toNat ZN).1,(a.getD b.toNat ZN).2.1,(a.getD b.toNat ZN).2.2.1,(a.getD b.toNat ZN).2.2.2.1,(a.getD b.toNat ZN).2.2.2.2.1,(a.getD b.toNat ZN).2.2.2.2.2.1,(a.getD b.toNat ZN).2.2.2.2.2.2.1,(a.getD b.toNat ZN).2.2.2.2.2.2.2.1,(a.getD b.toNat ZN).2.2.2.2.2.2.2.2),c,())).bind fun r0=>(q99 n ((a.getD b.toNat ZN).2.2.2.2.2.2.2.2,r0.1.1,[(c,d)],())).bind fun r1=>cond (decide ((↑b.toNat:Int)=(↑b.toNat:Int))) (cond (decide ((0:Int)≤d)) (cond (decide (d < (↑(a.set b.toNat ((a.getD b.toNat ZN).1,(a.getD b.toNat ZN).2.1,(a.getD b.toNat ZN).2.2.1,(a.getD b.toNat ZN).2.2.2.1,(a.getD b.toNat ZN).2.2.2.2.1,(a.getD b.toNat ZN).2.2.2.2.2.1,(a.getD b.toNat ZN).2.2.2.2.2.2.1,(a.getD b.toNat ZN).2.2.2.2.2.2.2.1,r1.1.1)).length:Int))) (cond (decide ((0:Int)≤d)) (cond (decide (d < (↑(a.set b.toNat ((a.getD b.toNat ZN).1,(a.getD b.toNat ZN).2.1,(a.getD b.toNat ZN).2.2.1,(a.getD b.toNat ZN).2.2.2.1,(a.getD b.toNat ZN).2.2.2.2.1,(a.getD b.toNat ZN).2.2.2.2.2.1,(a.getD b.toNat ZN).2.2.2.2.2.2.1,(a.getD b.toNat ZN).2.2.2.2.2.2.2.1,r1.1.1)).length:Int))) (some ((),((a.set b.toNat ((a.getD b.toNat ZN).1,(a.getD b.toNat ZN).2.1,(a.getD b.toNat ZN).2.2.1,(a.getD b.toNat ZN).2.2.2.1,(a.getD b.toNat ZN).2.2.2.2.1,(a.getD b.toNat ZN).2.2.2.2.2.1,(a.getD b.toNat ZN).2.2.2.2.2.2.1,(a.getD b.toNat ZN).2.2.2.2.2.2.2.1,r1.1.1)).set d.toNat (((a.set b.toNat ((a.getD b.toNat ZN).1,(a.getD b.toNat ZN).2.1,(a.getD b.toNat ZN).2.2.1,(a.getD b.toNat ZN).2.2.2.1,(a.getD b.toNat ZN).2.2.2.2.1,(a.getD b.toNat ZN).2.2.2.2.2.1,(a.getD b.toNat ZN).2.2.2.2.2.2.1,(a.getD b.toNat ZN).2.2.2.2.2.2.2.1,r1.1.1)).getD d.toNat ZN).1,((a.set b.toNat ((a.getD b.toNat ZN).1,(a.getD b.toNat ZN).2.1,(a.getD b.toNat ZN).2.2.1,(a.getD b.toNat ZN).2.2.2.1,(a.getD b.toNat ZN).2.2.2.2.1,(a.getD b.toNat ZN).2.2.2.2.2.1,(a.getD b.toNat ZN).2.2.2.2.2.2.1,(a.getD b.toNat ZN).2.2.2.2.2.2.2.1,r1.1.1)).getD d.toNat ZN).2.1,((a.set b.toNat ((a.getD b.toNat ZN).1,(a.getD b.toNat ZN).2.1,(a.getD b.toNat ZN).2.2.1,(a.getD b.toNat ZN).2.2.2.1,(a.getD b.toNat ZN).2.2.2.2.1,(a.getD b.toNat ZN).2.2.2.2.2.1,(a.getD b.toNat ZN).2.2.2.2.2.2.1,(a.getD b.toNat ZN).2.2.2.2.2.2.2.1,r1.1.1)).getD d.toNat ZN).2.2.1,((a.set b.toNat ((a.getD b.toNat ZN).1,(a.getD b.toNat ZN).2.1,(a.getD b.toNat ZN).2.2.1,(a.getD b.toNat ZN).2.2.2.1,(a.getD b.toNat ZN).2.2.2.2.1,(a.getD b.toNat ZN).2.2.2.2.2.1,(a.getD b.toNat ZN).2.2.2.2.2.2.1,(a.getD b.toNat ZN).2.2.2.2.2.2.2.1,r1.1.1)).getD d.toNat ZN).2.2.2.1,Go.IntKind.i64.wrap (((a.set b.toNat ((a.getD b.toNat ZN).1,(a.getD b.toNat ZN).2.1,(a.getD b.toNat ZN).2.2.1,(a.getD b.toNat ZN).2.2.2.1,(a.getD b.toNat ZN).2.2.2.2.1,(a.getD b.toNat ZN).2.2.2.2.2.1,(a.getD b.toNat ZN).2.2.2.2.2.2.1,(a.getD b.toNat ZN).2.2.2.2.2.2.2.1,r1.1.1)).getD d.toNat ZN).2.2.2.2.1 + (1:Int)),((a.set b.toNat ((a.getD b.toNat ZN).1,(a.getD b.toNat ZN).2.1,(a.getD b.toNat ZN).2.2.1,(a.getD b.toNat ZN).2.2.2.1,(a.getD b.toNat ZN).2.2.2.2.1,(a.getD b.toNat ZN).2.2.2.2.2.1,(a.getD b.toNat ZN).2.2.2.2.2.2.1,(a.getD b.toNat ZN).2.2.2.2.2.2.2.1,r1.1.1)).getD d.toNat ZN).2.2.2.2.2),()))) (none)) (none)) (none)) (none)) (none)) (none)) (none)
theorem e61_top (n:Nat) (a:List NT) (b:Int) (c:ByteArray) (d:Int):runF TT G61 an61 Try.f61 c61 ps61 rs61 n (a,b,c,d,())=st61_top n a b c d:=by kernel_rfl
noncomputable def p61 (n:Nat) (a:List NT) (b:Int) (c:ByteArray) (d:Int):Option R61:=st61_top n a b c d
theorem F61_eq (n:Nat) (a:List NT) (b:Int) (c:ByteArray) (d:Int):runF TT G61 an61 Try.f61 c61 ps61 rs61 n (a,b,c,d,())=p61 n a b c d:=by
 rw [e61_top]
 skip
 try rfl
noncomputable def q61 (n:Nat) (x:argsD ps61):Option R61:=p61 n x.1 x.2.1 x.2.2.1 x.2.2.2.1
noncomputable def Sm61:Sm:=⟨ps61,rs61,false,q61⟩
theorem holds61 (hg:GamOK Try.prog G61):Holds Try.prog 61 Sm61:=by
 have:=h0_61 hg
 have e:(runF TT G61 an61 Try.f61 c61 ps61 rs61)=q61:=by
  funext n x
  exact F61_eq n x.1 x.2.1 x.2.2.1 x.2.2.2.1
 rw [e] at this
 exact this
theorem gam61:GamOK Try.prog G61:=by
 intro f s h
 unfold G61 at h
 split at h
 ·injection h with h; subst h; exact ⟨⟨Try.f59,c59,Try.func59,by kernel_rfl,by decide +kernel⟩,hh59⟩
 ·injection h with h; subst h; exact ⟨⟨Try.f99,c99,Try.func99,by kernel_rfl,by decide +kernel⟩,hh99⟩
 ·cases h
theorem hh61:Holds Try.prog 61 Sm61:=holds61 gam61
end Go.Proofs.Ythhopbicmaipgaa.Rx.S

namespace Go.Proofs.Ythhopbicmaipgaa.Rx.S
open Go Go.Proofs.Ythhopbicmaipgaa.Rx Go.RowKit Go.Proofs
noncomputable def c105:Code:=(Try.f105.body.getD .skip)
abbrev ps105:List PK:=[.own (.row 95 tEn) false,.val i64 false,.val i64 false]
abbrev rs105:List RK:=[.own (.row 95 tEn) false]
abbrev R105:=retsD rs105 × outsD ps105
def p105 (n:Nat) (a:List (ByteArray × Int)) (b:Int) (c:Int):Option R105 :=
 cond (decide (0≤b)) (cond (decide (b < a.length)) (cond (decide (c=b + 1)) (some ((a.take b.toNat ++ a.drop (b.toNat + 1),()),())) none) none) none
noncomputable def q105 (n:Nat) (x:argsD ps105):Option R105:=p105 n x.1 x.2.1 x.2.2.1
noncomputable def Sm105:Sm:=⟨ps105,rs105,false,q105⟩
theorem hh105:Holds Try.prog 105 Sm105:=holds_del (T:=tEn) rfl rfl del_walk
end Go.Proofs.Ythhopbicmaipgaa.Rx.S

namespace Go.Proofs.Ythhopbicmaipgaa.Rx.S
open Go Go.RowKit Go.Proofs
set_option maxRecDepth 100000
noncomputable def c71:Code:=(Try.f71.body.getD .skip)
def an71:An:=⟨fun _=>⟨[],[]⟩,fun _ _=>none⟩
abbrev ps71:List PK:=[.bo tFs,.val i64 false,.val .str false]
abbrev rs71:List RK:=[.val i64 false]
abbrev R71:=retsD rs71 × outsD ps71
noncomputable def G71:Gam:=fun f=>match f with | 59=>some Sm59 | 105=>some Sm105 | _=>none
theorem h0_71 (hg:GamOK Try.prog G71):Holds Try.prog 71 ⟨ps71,rs71,false,runF TT G71 an71 Try.f71 c71 ps71 rs71⟩:=holds_of tt_ok hg mixed Try.func71 (by kernel_rfl) (by rfl) (by decide +kernel)
noncomputable def st71_top (n:Nat) (a:List NT) (b:Int) (c:ByteArray):Option R71 :=
 cond (decide ((0:Int)≤b)) (cond (decide (b < (↑a.length:Int))) ((q59 n (((a.getD b.toNat ZN).1,(a.getD b.toNat ZN).2.1,(a.getD b.toNat ZN).2.2.1,(a.getD b.toNat ZN).2.2.2.1,(a.getD b.toNat ZN).2.2.2.2.1,(a.getD b.toNat ZN).2.2.2.2.2.1,(a.getD b.toNat ZN).2.2.2.2.2.2.1,(a.getD b.toNat ZN).2.2.2.2.2.2.2.1,(a.getD b.toNat ZN).2.2.2.2.2.2.2.2),c,())).bind fun r0=>cond (decide ((0:Int)≤r0.1.1)) (cond (decide (r0.1.1 < (↑(List.length (a.getD b.toNat ZN).2.2.2.2.2.2.2.2):Int))) ((q105 n ((a.getD b.toNat ZN).2.2.2.2.2.2.2.2,r0.1.1,Go.IntKind.i64.wrap (r0.1.1 + (1:Int)),())).bind fun r1=>cond (decide ((↑b.toNat:Int)=(↑b.toNat:Int))) (cond (decide ((0:Int)≤(List.getD (a.getD b.toNat ZN).2.2.2.2.2.2.2.2 (Int.toNat r0.1.1) (ByteArray.empty,(0:Int))).2)) (cond (decide ((List.getD (a.getD b.toNat ZN).2.2.2.2.2.2.2.2 (Int.toNat r0.1.1) (ByteArray.empty,(0:Int))).2 < (↑(a.set b.toNat ((a.getD b.toNat ZN).1,(a.getD b.toNat ZN).2.1,(a.getD b.toNat ZN).2.2.1,(a.getD b.toNat ZN).2.2.2.1,(a.getD b.toNat ZN).2.2.2.2.1,(a.getD b.toNat ZN).2.2.2.2.2.1,(a.getD b.toNat ZN).2.2.2.2.2.2.1,(a.getD b.toNat ZN).2.2.2.2.2.2.2.1,r1.1.1)).length:Int))) (cond (decide ((0:Int)≤(List.getD (a.getD b.toNat ZN).2.2.2.2.2.2.2.2 (Int.toNat r0.1.1) (ByteArray.empty,(0:Int))).2)) (cond (decide ((List.getD (a.getD b.toNat ZN).2.2.2.2.2.2.2.2 (Int.toNat r0.1.1) (ByteArray.empty,(0:Int))).2 < (↑(a.set b.toNat ((a.getD b.toNat ZN).1,(a.getD b.toNat ZN).2.1,(a.getD b.toNat ZN).2.2.1,(a.getD b.toNat ZN).2.2.2.1,(a.getD b.toNat ZN).2.2.2.2.1,(a.getD b.toNat ZN).2.2.2.2.2.1,(a.getD b.toNat ZN).2.2.2.2.2.2.1,(a.getD b.toNat ZN).2.2.2.2.2.2.2.1,r1.1.1)).length:Int))) (some (((List.getD (a.getD b.toNat ZN).2.2.2.2.2.2.2.2 (Int.toNat r0.1.1) (ByteArray.empty,(0:Int))).2,()),((a.set b.toNat ((a.getD b.toNat ZN).1,(a.getD b.toNat ZN).2.1,(a.getD b.toNat ZN).2.2.1,(a.getD b.toNat ZN).2.2.2.1,(a.getD b.toNat ZN).2.2.2.2.1,(a.getD b.toNat ZN).2.2.2.2.2.1,(a.getD b.toNat ZN).2.2.2.2.2.2.1,(a.getD b.toNat ZN).2.2.2.2.2.2.2.1,r1.1.1)).set (Int.toNat (List.getD (a.getD b.toNat ZN).2.2.2.2.2.2.2.2 (Int.toNat r0.1.1) (ByteArray.empty,(0:Int))).2) (((a.set b.toNat ((a.getD b.toNat ZN).1,(a.getD b.toNat ZN).2.1,(a.getD b.toNat ZN).2.2.1,(a.getD b.toNat ZN).2.2.2.1,(a.getD b.toNat ZN).2.2.2.2.1,(a.getD b.toNat ZN).2.2.2.2.2.1,(a.getD b.toNat ZN).2.2.2.2.2.2.1,(a.getD b.toNat ZN).2.2.2.2.2.2.2.1,r1.1.1)).getD (Int.toNat (List.getD (a.getD b.toNat ZN).2.2.2.2.2.2.2.2 (Int.toNat r0.1.1) (ByteArray.empty,(0:Int))).2) ZN).1,((a.set b.toNat ((a.getD b.toNat ZN).1,(a.getD b.toNat ZN).2.1,(a.getD b.toNat ZN).2.2.1,(a.getD b.toNat ZN).2.2.2.1,(a.getD b.toNat ZN).2.2.2.2.1,(a.getD b.toNat ZN).2.2.2.2.2.1,(a.getD b.toNat ZN).2.2.2.2.2.2.1,(a.getD b.toNat ZN).2.2.2.2.2.2.2.1,r1.1.1)).getD (Int.toNat (List.getD (a.getD b.toNat ZN).2.2.2.2.2.2.2.2 (Int.toNat r0.1.1) (ByteArray.empty,(0:Int))).2) ZN).2.1,((a.set b.toNat ((a.getD b.toNat ZN).1,(a.getD b.toNat ZN).2.1,(a.getD b.toNat ZN).2.2.1,(a.getD b.toNat ZN).2.2.2.1,(a.getD b.toNat ZN).2.2.2.2.1,(a.getD b.toNat ZN).2.2.2.2.2.1,(a.getD b.toNat ZN).2.2.2.2.2.2.1,(a.getD b.toNat ZN).2.2.2.2.2.2.2.1,r1.1.1)).getD (Int.toNat (List.getD (a.getD b.toNat ZN).2.2.2.2.2.2.2.2 (Int.toNat r0.1.1) (ByteArray.empty,(0:Int))).2) ZN).2.2.1,((a.set b.toNat ((a.getD b.toNat ZN).1,(a.getD b.toNat ZN).2.1,(a.getD b.toNat ZN).2.2.1,(a.getD b.toNat ZN).2.2.2.1,(a.getD b.toNat ZN).2.2.2.2.1,(a.getD b.toNat ZN).2.2.2.2.2.1,(a.getD b.toNat ZN).2.2.2.2.2.2.1,(a.getD b.toNat ZN).2.2.2.2.2.2.2.1,r1.1.1)).getD (Int.toNat (List.getD (a.getD b.toNat ZN).2.2.2.2.2.2.2.2 (Int.toNat r0.1.1) (ByteArray.empty,(0:Int))).2) ZN).2.2.2.1,Go.IntKind.i64.wrap (((a.set b.toNat ((a.getD b.toNat ZN).1,(a.getD b.toNat ZN).2.1,(a.getD b.toNat ZN).2.2.1,(a.getD b.toNat ZN).2.2.2.1,(a.getD b.toNat ZN).2.2.2.2.1,(a.getD b.toNat ZN).2.2.2.2.2.1,(a.getD b.toNat ZN).2.2.2.2.2.2.1,(a.getD b.toNat ZN).2.2.2.2.2.2.2.1,r1.1.1)).getD (Int.toNat (List.getD (a.getD b.toNat ZN).2.2.2.2.2.2.2.2 (Int.toNat r0.1.1) (ByteArray.empty,(0:Int))).2) ZN).2.2.2.2.1 - (1:Int)),((a.set b.toNat ((a.getD b.toNat ZN).1,(a.getD b.toNat ZN).2.1,(a.getD b.toNat ZN).2.2.1,(a.getD b.toNat ZN).2.2.2.1,(a.getD b.toNat ZN).2.2.2.2.1,(a.getD b.toNat ZN).2.2.2.2.2.1,(a.getD b.toNat ZN).2.2.2.2.2.2.1,(a.getD b.toNat ZN).2.2.2.2.2.2.2.1,r1.1.1)).getD (Int.toNat (List.getD (a.getD b.toNat ZN).2.2.2.2.2.2.2.2 (Int.toNat r0.1.1) (ByteArray.empty,(0:Int))).2) ZN).2.2.2.2.2),()))) (none)) (none)) (none)) (none)) (none)) (none)) (none)) (none)) (none)
theorem e71_top (n:Nat) (a:List NT) (b:Int) (c:ByteArray):runF TT G71 an71 Try.f71 c71 ps71 rs71 n (a,b,c,())=st71_top n a b c:=by kernel_rfl
noncomputable def p71 (n:Nat) (a:List NT) (b:Int) (c:ByteArray):Option R71:=st71_top n a b c
theorem F71_eq (n:Nat) (a:List NT) (b:Int) (c:ByteArray):runF TT G71 an71 Try.f71 c71 ps71 rs71 n (a,b,c,())=p71 n a b c:=by
 rw [e71_top]
 skip
 try rfl
noncomputable def q71 (n:Nat) (x:argsD ps71):Option R71:=p71 n x.1 x.2.1 x.2.2.1
noncomputable def Sm71:Sm:=⟨ps71,rs71,false,q71⟩
theorem holds71 (hg:GamOK Try.prog G71):Holds Try.prog 71 Sm71:=by
 have:=h0_71 hg
 have e:(runF TT G71 an71 Try.f71 c71 ps71 rs71)=q71:=by
  funext n x
  exact F71_eq n x.1 x.2.1 x.2.2.1
 rw [e] at this
 exact this
theorem gam71:GamOK Try.prog G71:=by
 intro f s h
 unfold G71 at h
 split at h
 ·injection h with h; subst h; exact ⟨⟨Try.f59,c59,Try.func59,by kernel_rfl,by decide +kernel⟩,hh59⟩
 ·injection h with h; subst h; exact ⟨⟨Try.f105,c105,Try.func105,by kernel_rfl,by decide +kernel⟩,hh105⟩
 ·cases h
theorem hh71:Holds Try.prog 71 Sm71:=holds71 gam71
end Go.Proofs.Ythhopbicmaipgaa.Rx.S

namespace Go.Proofs.Ythhopbicmaipgaa.Rx.S
open Go Go.RowKit Go.Proofs
set_option maxRecDepth 100000
noncomputable def c16:Code:=(Try.f16.body.getD .skip)
def an16:An:=⟨fun _=>⟨[],[]⟩,fun _ _=>none⟩
abbrev ps16:List PK:=[.val tFs true,.val tCr true,.val i64 false,.val .str false,.val i64 false,.val i64 false]
abbrev rs16:List RK:=[.own tFs true,.val i64 false,.val i64 false]
abbrev R16:=retsD rs16 × outsD ps16
noncomputable def G16:Gam:=fun f=>match f with | 53=>some Sm53 | 54=>some Sm54 | 55=>some Sm55 | 56=>some Sm56 | 57=>some Sm57 | 59=>some Sm59 | 60=>some Sm60 | 61=>some Sm61 | _=>none
theorem h0_16 (hg:GamOK Try.prog G16):Holds Try.prog 16 ⟨ps16,rs16,false,runF TT G16 an16 Try.f16 c16 ps16 rs16⟩:=holds_of tt_ok hg mixed Try.func16 (by kernel_rfl) (by rfl) (by decide +kernel)
noncomputable def st16_top (n:Nat) (a:List NT) (b:Int × Int × List Int) (c:Int) (d:ByteArray) (e:Int) (f:Int):Option R16 :=
 (q53 n (a,(b.1,b.2.1,b.2.2),[c],())).bind fun r0=>cond (!r0.1.1) (some (([],((-1:Int),((1:Int),()))),())) ((q54 n (d,())).bind fun r1=>cond (!r1.1.1) (some (([],((-1:Int),((1:Int),()))),())) ((q55 n (e,(1:Int),(2:Int),())).bind fun r2=>cond (!r2.1.1) (some (([],((-1:Int),((1:Int),()))),())) ((q55 n (f,(0:Int),(511:Int),())).bind fun r3=>cond (!r3.1.1) (some (([],((-1:Int),((1:Int),()))),())) ((q56 n (a,())).bind fun r4=>cond (decide ((0:Int)≤c)) (cond (decide (c < (↑a.length:Int))) ((q57 n (a,(),())).bind fun r5=>(q59 n (((a.getD c.toNat ZN).1,(a.getD c.toNat ZN).2.1,(a.getD c.toNat ZN).2.2.1,(a.getD c.toNat ZN).2.2.2.1,(a.getD c.toNat ZN).2.2.2.2.1,(a.getD c.toNat ZN).2.2.2.2.2.1,(a.getD c.toNat ZN).2.2.2.2.2.2.1,(a.getD c.toNat ZN).2.2.2.2.2.2.2.1,(a.getD c.toNat ZN).2.2.2.2.2.2.2.2),d,())).bind fun r6=>cond (!decide ((a.getD c.toNat ZN).1=(2:Int))) (some ((r4.1.1,((-1:Int),((4:Int),()))),())) ((q60 n (((a.getD c.toNat ZN).1,(a.getD c.toNat ZN).2.1,(a.getD c.toNat ZN).2.2.1,(a.getD c.toNat ZN).2.2.2.1,(a.getD c.toNat ZN).2.2.2.2.1,(a.getD c.toNat ZN).2.2.2.2.2.1,(a.getD c.toNat ZN).2.2.2.2.2.2.1,(a.getD c.toNat ZN).2.2.2.2.2.2.2.1,(a.getD c.toNat ZN).2.2.2.2.2.2.2.2),(b.1,b.2.1,b.2.2),(3:Int),())).bind fun r7=>cond (!r7.1.1) (some ((r4.1.1,((-1:Int),((5:Int),()))),())) (cond (r6.1.2.1) (some ((r4.1.1,((-1:Int),((3:Int),()))),())) (cond (decide (r5.1.1 < (0:Int))) (some ((r4.1.1,((-1:Int),((7:Int),()))),())) (cond (decide ((↑(List.length (a.getD c.toNat ZN).2.2.2.2.2.2.2.2):Int)=(6:Int))) (some ((r4.1.1,((-1:Int),((7:Int),()))),())) (cond (decide ((0:Int) < (↑(List.length b.2.2):Int))) (cond (decide ((0:Int) < (↑(List.length b.2.2):Int))) (cond (decide ((0:Int)≤r5.1.1)) (cond (decide (r5.1.1 < (↑(List.length r4.1.1):Int))) ((q61 n (List.set r4.1.1 (Int.toNat r5.1.1) (e,f,b.1,List.getD b.2.2 (Int.toNat (0:Int)) (0:Int),(0:Int),(0:Int),false,ByteArray.empty,[]),c,d,r5.1.1,())).bind fun r8=>some ((r8.2.1,(r5.1.1,((0:Int),()))),())) (none)) (none)) (none)) (cond (decide ((0:Int)≤r5.1.1)) (cond (decide (r5.1.1 < (↑(List.length r4.1.1):Int))) ((q61 n (List.set r4.1.1 (Int.toNat r5.1.1) (e,f,b.1,b.1,(0:Int),(0:Int),false,ByteArray.empty,[]),c,d,r5.1.1,())).bind fun r9=>some ((r9.2.1,(r5.1.1,((0:Int),()))),())) (none)) (none)))))))) (none)) (none)))))
theorem e16_top (n:Nat) (a:List NT) (b:Int × Int × List Int) (c:Int) (d:ByteArray) (e:Int) (f:Int):runF TT G16 an16 Try.f16 c16 ps16 rs16 n (a,b,c,d,e,f,())=st16_top n a b c d e f:=by kernel_rfl
noncomputable def p16 (n:Nat) (a:List NT) (b:Int × Int × List Int) (c:Int) (d:ByteArray) (e:Int) (f:Int):Option R16:=st16_top n a b c d e f
theorem F16_eq (n:Nat) (a:List NT) (b:Int × Int × List Int) (c:Int) (d:ByteArray) (e:Int) (f:Int):runF TT G16 an16 Try.f16 c16 ps16 rs16 n (a,b,c,d,e,f,())=p16 n a b c d e f:=by
 rw [e16_top]
 skip
 try rfl
noncomputable def q16 (n:Nat) (x:argsD ps16):Option R16:=p16 n x.1 x.2.1 x.2.2.1 x.2.2.2.1 x.2.2.2.2.1 x.2.2.2.2.2.1
noncomputable def Sm16:Sm:=⟨ps16,rs16,false,q16⟩
theorem holds16 (hg:GamOK Try.prog G16):Holds Try.prog 16 Sm16:=by
 have:=h0_16 hg
 have e:(runF TT G16 an16 Try.f16 c16 ps16 rs16)=q16:=by
  funext n x
  exact F16_eq n x.1 x.2.1 x.2.2.1 x.2.2.2.1 x.2.2.2.2.1 x.2.2.2.2.2.1
 rw [e] at this
 exact this
theorem gam16:GamOK Try.prog G16:=by
 intro f s h
 unfold G16 at h
 split at h
 ·injection h with h; subst h; exact ⟨⟨Try.f53,c53,Try.func53,by kernel_rfl,by decide +kernel⟩,hh53⟩
 ·injection h with h; subst h; exact ⟨⟨Try.f54,c54,Try.func54,by kernel_rfl,by decide +kernel⟩,hh54⟩
 ·injection h with h; subst h; exact ⟨⟨Try.f55,c55,Try.func55,by kernel_rfl,by decide +kernel⟩,hh55⟩
 ·injection h with h; subst h; exact ⟨⟨Try.f56,c56,Try.func56,by kernel_rfl,by decide +kernel⟩,hh56⟩
 ·injection h with h; subst h; exact ⟨⟨Try.f57,c57,Try.func57,by kernel_rfl,by decide +kernel⟩,hh57⟩
 ·injection h with h; subst h; exact ⟨⟨Try.f59,c59,Try.func59,by kernel_rfl,by decide +kernel⟩,hh59⟩
 ·injection h with h; subst h; exact ⟨⟨Try.f60,c60,Try.func60,by kernel_rfl,by decide +kernel⟩,hh60⟩
 ·injection h with h; subst h; exact ⟨⟨Try.f61,c61,Try.func61,by kernel_rfl,by decide +kernel⟩,hh61⟩
 ·cases h
theorem hh16:Holds Try.prog 16 Sm16:=holds16 gam16
end Go.Proofs.Ythhopbicmaipgaa.Rx.S

namespace Go.Proofs.Ythhopbicmaipgaa.Rx.S
open Go Go.RowKit Go.Proofs
set_option maxRecDepth 100000
noncomputable def c17:Code:=(Try.f17.body.getD .skip)
def an17:An:=⟨fun _=>⟨[],[]⟩,fun _ _=>none⟩
abbrev ps17:List PK:=[.val tFs true,.val tCr true,.val i64 false,.val .str false,.val i64 false,.val i64 false]
abbrev rs17:List RK:=[.own tFs true,.val i64 false,.val i64 false]
abbrev R17:=retsD rs17 × outsD ps17
noncomputable def G17:Gam:=fun f=>match f with | 62=>some Sm62 | 63=>some Sm63 | 64=>some Sm64 | 65=>some Sm65 | 66=>some Sm66 | 67=>some Sm67 | 68=>some Sm68 | _=>none
theorem h0_17 (hg:GamOK Try.prog G17):Holds Try.prog 17 ⟨ps17,rs17,false,runF TT G17 an17 Try.f17 c17 ps17 rs17⟩:=holds_of tt_ok hg mixed Try.func17 (by kernel_rfl) (by rfl) (by decide +kernel)
noncomputable def st17_top (n:Nat) (a:List NT) (b:Int × Int × List Int) (c:Int) (d:ByteArray) (e:Int) (f:Int):Option R17 :=
 (q62 n (a,())).bind fun r0=>cond (!r0.1.1) (some (([],((-1:Int),((1:Int),()))),())) ((q63 n ((b.1,b.2.1,b.2.2),())).bind fun r1=>cond (!r1.1.1) (some (([],((-1:Int),((1:Int),()))),())) ((q64 n (a,c,())).bind fun r2=>cond (!r2.1.1) (some (([],((-1:Int),((1:Int),()))),())) ((q65 n (d,())).bind fun r3=>cond (!r3.1.1) (some (([],((-1:Int),((1:Int),()))),())) ((q66 n (e,(1:Int),(2:Int),())).bind fun r4=>cond (!r4.1.1) (some (([],((-1:Int),((1:Int),()))),())) ((q66 n (f,(0:Int),(511:Int),())).bind fun r5=>cond (!r5.1.1) (some (([],((-1:Int),((1:Int),()))),())) ((q68 n (a,())).bind fun r6=>(q67 n (r6.1.1,(b.1,b.2.1,b.2.2),c,d,e,f,())).bind fun r7=>some ((r7.1.1,(r7.1.2.1,(r7.1.2.2.1,()))),())))))))
theorem e17_top (n:Nat) (a:List NT) (b:Int × Int × List Int) (c:Int) (d:ByteArray) (e:Int) (f:Int):runF TT G17 an17 Try.f17 c17 ps17 rs17 n (a,b,c,d,e,f,())=st17_top n a b c d e f:=by kernel_rfl
noncomputable def p17 (n:Nat) (a:List NT) (b:Int × Int × List Int) (c:Int) (d:ByteArray) (e:Int) (f:Int):Option R17:=st17_top n a b c d e f
theorem F17_eq (n:Nat) (a:List NT) (b:Int × Int × List Int) (c:Int) (d:ByteArray) (e:Int) (f:Int):runF TT G17 an17 Try.f17 c17 ps17 rs17 n (a,b,c,d,e,f,())=p17 n a b c d e f:=by
 rw [e17_top]
 skip
 try rfl
noncomputable def q17 (n:Nat) (x:argsD ps17):Option R17:=p17 n x.1 x.2.1 x.2.2.1 x.2.2.2.1 x.2.2.2.2.1 x.2.2.2.2.2.1
noncomputable def Sm17:Sm:=⟨ps17,rs17,false,q17⟩
theorem holds17 (hg:GamOK Try.prog G17):Holds Try.prog 17 Sm17:=by
 have:=h0_17 hg
 have e:(runF TT G17 an17 Try.f17 c17 ps17 rs17)=q17:=by
  funext n x
  exact F17_eq n x.1 x.2.1 x.2.2.1 x.2.2.2.1 x.2.2.2.2.1 x.2.2.2.2.2.1
 rw [e] at this
 exact this
theorem gam17:GamOK Try.prog G17:=by
 intro f s h
 unfold G17 at h
 split at h
 ·injection h with h; subst h; exact ⟨⟨Try.f62,c62,Try.func62,by kernel_rfl,by decide +kernel⟩,hh62⟩
 ·injection h with h; subst h; exact ⟨⟨Try.f63,c63,Try.func63,by kernel_rfl,by decide +kernel⟩,hh63⟩
 ·injection h with h; subst h; exact ⟨⟨Try.f64,c64,Try.func64,by kernel_rfl,by decide +kernel⟩,hh64⟩
 ·injection h with h; subst h; exact ⟨⟨Try.f65,c65,Try.func65,by kernel_rfl,by decide +kernel⟩,hh65⟩
 ·injection h with h; subst h; exact ⟨⟨Try.f66,c66,Try.func66,by kernel_rfl,by decide +kernel⟩,hh66⟩
 ·injection h with h; subst h; exact ⟨⟨Try.f67,c67,Try.func67,by kernel_rfl,by decide +kernel⟩,hh67⟩
 ·injection h with h; subst h; exact ⟨⟨Try.f68,c68,Try.func68,by kernel_rfl,by decide +kernel⟩,hh68⟩
 ·cases h
theorem hh17:Holds Try.prog 17 Sm17:=holds17 gam17
end Go.Proofs.Ythhopbicmaipgaa.Rx.S

namespace Go.Proofs.Ythhopbicmaipgaa.Rx.S
open Go Go.RowKit Go.Proofs
set_option maxRecDepth 100000
noncomputable def c19:Code:=(Try.f19.body.getD .skip)
def an19:An:=⟨fun _=>⟨[],[]⟩,fun _ _=>none⟩
abbrev ps19:List PK:=[.val tFs true,.val tCr true,.val i64 false,.val i64 false,.val .str false]
abbrev rs19:List RK:=[.own tFs true,.val i64 false]
abbrev R19:=retsD rs19 × outsD ps19
noncomputable def G19:Gam:=fun f=>match f with | 53=>some Sm53 | 54=>some Sm54 | 56=>some Sm56 | 59=>some Sm59 | 60=>some Sm60 | 61=>some Sm61 | _=>none
theorem h0_19 (hg:GamOK Try.prog G19):Holds Try.prog 19 ⟨ps19,rs19,false,runF TT G19 an19 Try.f19 c19 ps19 rs19⟩:=holds_of tt_ok hg mixed Try.func19 (by kernel_rfl) (by rfl) (by decide +kernel)
noncomputable def st19_top (n:Nat) (a:List NT) (b:Int × Int × List Int) (c:Int) (d:Int) (e:ByteArray):Option R19 :=
 (q53 n (a,(b.1,b.2.1,b.2.2),[c,d],())).bind fun r0=>cond (!r0.1.1) (some (([],((1:Int),())),())) ((q54 n (e,())).bind fun r1=>cond (!r1.1.1) (some (([],((1:Int),())),())) ((q56 n (a,())).bind fun r2=>cond (decide ((0:Int)≤d)) (cond (decide (d < (↑a.length:Int))) ((q59 n (((a.getD d.toNat ZN).1,(a.getD d.toNat ZN).2.1,(a.getD d.toNat ZN).2.2.1,(a.getD d.toNat ZN).2.2.2.1,(a.getD d.toNat ZN).2.2.2.2.1,(a.getD d.toNat ZN).2.2.2.2.2.1,(a.getD d.toNat ZN).2.2.2.2.2.2.1,(a.getD d.toNat ZN).2.2.2.2.2.2.2.1,(a.getD d.toNat ZN).2.2.2.2.2.2.2.2),e,())).bind fun r3=>cond (decide ((0:Int)≤c)) (cond (decide (c < (↑a.length:Int))) (cond (!decide ((a.getD c.toNat ZN).1=(1:Int))) (some ((r2.1.1,((4:Int),())),())) (cond (!decide ((a.getD d.toNat ZN).1=(2:Int))) (some ((r2.1.1,((4:Int),())),())) ((q60 n (((a.getD d.toNat ZN).1,(a.getD d.toNat ZN).2.1,(a.getD d.toNat ZN).2.2.1,(a.getD d.toNat ZN).2.2.2.1,(a.getD d.toNat ZN).2.2.2.2.1,(a.getD d.toNat ZN).2.2.2.2.2.1,(a.getD d.toNat ZN).2.2.2.2.2.2.1,(a.getD d.toNat ZN).2.2.2.2.2.2.2.1,(a.getD d.toNat ZN).2.2.2.2.2.2.2.2),(b.1,b.2.1,b.2.2),(3:Int),())).bind fun r4=>cond (!r4.1.1) (some ((r2.1.1,((5:Int),())),())) (cond (r3.1.2.1) (some ((r2.1.1,((3:Int),())),())) (cond (decide ((↑(List.length (a.getD d.toNat ZN).2.2.2.2.2.2.2.2):Int)=(6:Int))) (some ((r2.1.1,((7:Int),())),())) (cond (decide ((0:Int)≤c)) (cond (decide (c < (↑a.length:Int))) (cond (decide ((a.getD c.toNat ZN).2.2.2.2.1=(99:Int))) (some ((r2.1.1,((7:Int),())),())) ((q61 n (r2.1.1,d,e,c,())).bind fun r5=>some ((r5.2.1,((0:Int),())),()))) (none)) (none))))))) (none)) (none)) (none)) (none)))
theorem e19_top (n:Nat) (a:List NT) (b:Int × Int × List Int) (c:Int) (d:Int) (e:ByteArray):runF TT G19 an19 Try.f19 c19 ps19 rs19 n (a,b,c,d,e,())=st19_top n a b c d e:=by kernel_rfl
noncomputable def p19 (n:Nat) (a:List NT) (b:Int × Int × List Int) (c:Int) (d:Int) (e:ByteArray):Option R19:=st19_top n a b c d e
theorem F19_eq (n:Nat) (a:List NT) (b:Int × Int × List Int) (c:Int) (d:Int) (e:ByteArray):runF TT G19 an19 Try.f19 c19 ps19 rs19 n (a,b,c,d,e,())=p19 n a b c d e:=by
 rw [e19_top]
 skip
 try rfl
noncomputable def q19 (n:Nat) (x:argsD ps19):Option R19:=p19 n x.1 x.2.1 x.2.2.1 x.2.2.2.1 x.2.2.2.2.1
noncomputable def Sm19:Sm:=⟨ps19,rs19,false,q19⟩
theorem holds19 (hg:GamOK Try.prog G19):Holds Try.prog 19 Sm19:=by
 have:=h0_19 hg
 have e:(runF TT G19 an19 Try.f19 c19 ps19 rs19)=q19:=by
  funext n x
  exact F19_eq n x.1 x.2.1 x.2.2.1 x.2.2.2.1 x.2.2.2.2.1
 rw [e] at this
 exact this
theorem gam19:GamOK Try.prog G19:=by
 intro f s h
 unfold G19 at h
 split at h
 ·injection h with h; subst h; exact ⟨⟨Try.f53,c53,Try.func53,by kernel_rfl,by decide +kernel⟩,hh53⟩
 ·injection h with h; subst h; exact ⟨⟨Try.f54,c54,Try.func54,by kernel_rfl,by decide +kernel⟩,hh54⟩
 ·injection h with h; subst h; exact ⟨⟨Try.f56,c56,Try.func56,by kernel_rfl,by decide +kernel⟩,hh56⟩
 ·injection h with h; subst h; exact ⟨⟨Try.f59,c59,Try.func59,by kernel_rfl,by decide +kernel⟩,hh59⟩
 ·injection h with h; subst h; exact ⟨⟨Try.f60,c60,Try.func60,by kernel_rfl,by decide +kernel⟩,hh60⟩
 ·injection h with h; subst h; exact ⟨⟨Try.f61,c61,Try.func61,by kernel_rfl,by decide +kernel⟩,hh61⟩
 ·cases h
theorem hh19:Holds Try.prog 19 Sm19:=holds19 gam19
end Go.Proofs.Ythhopbicmaipgaa.Rx.S

namespace Go.Proofs.Ythhopbicmaipgaa.Rx.S
open Go Go.RowKit Go.Proofs
set_option maxRecDepth 100000
noncomputable def c20:Code:=(Try.f20.body.getD .skip)
def an20:An:=⟨fun _=>⟨[],[]⟩,fun _ _=>none⟩
abbrev ps20:List PK:=[.val tFs true,.val tCr true,.val i64 false,.val .str false]
abbrev rs20:List RK:=[.own tFs true,.val i64 false]
abbrev R20:=retsD rs20 × outsD ps20
noncomputable def G20:Gam:=fun f=>match f with | 53=>some Sm53 | 54=>some Sm54 | 56=>some Sm56 | 59=>some Sm59 | 60=>some Sm60 | 70=>some Sm70 | 71=>some Sm71 | _=>none
theorem h0_20 (hg:GamOK Try.prog G20):Holds Try.prog 20 ⟨ps20,rs20,false,runF TT G20 an20 Try.f20 c20 ps20 rs20⟩:=holds_of tt_ok hg mixed Try.func20 (by kernel_rfl) (by rfl) (by decide +kernel)
noncomputable def st20_top (n:Nat) (a:List NT) (b:Int × Int × List Int) (c:Int) (d:ByteArray):Option R20 :=
 (q53 n (a,(b.1,b.2.1,b.2.2),[c],())).bind fun r0=>cond (!r0.1.1) (some (([],((1:Int),())),())) ((q54 n (d,())).bind fun r1=>cond (!r1.1.1) (some (([],((1:Int),())),())) ((q56 n (a,())).bind fun r2=>cond (decide ((0:Int)≤c)) (cond (decide (c < (↑a.length:Int))) (cond (!decide ((a.getD c.toNat ZN).1=(2:Int))) (some ((r2.1.1,((4:Int),())),())) ((q60 n (((a.getD c.toNat ZN).1,(a.getD c.toNat ZN).2.1,(a.getD c.toNat ZN).2.2.1,(a.getD c.toNat ZN).2.2.2.1,(a.getD c.toNat ZN).2.2.2.2.1,(a.getD c.toNat ZN).2.2.2.2.2.1,(a.getD c.toNat ZN).2.2.2.2.2.2.1,(a.getD c.toNat ZN).2.2.2.2.2.2.2.1,(a.getD c.toNat ZN).2.2.2.2.2.2.2.2),(b.1,b.2.1,b.2.2),(3:Int),())).bind fun r3=>cond (!r3.1.1) (some ((r2.1.1,((5:Int),())),())) ((q59 n (((a.getD c.toNat ZN).1,(a.getD c.toNat ZN).2.1,(a.getD c.toNat ZN).2.2.1,(a.getD c.toNat ZN).2.2.2.1,(a.getD c.toNat ZN).2.2.2.2.1,(a.getD c.toNat ZN).2.2.2.2.2.1,(a.getD c.toNat ZN).2.2.2.2.2.2.1,(a.getD c.toNat ZN).2.2.2.2.2.2.2.1,(a.getD c.toNat ZN).2.2.2.2.2.2.2.2),d,())).bind fun r4=>cond (!r4.1.2.1) (some ((r2.1.1,((2:Int),())),())) (cond (decide ((0:Int)≤r4.1.1)) (cond (decide (r4.1.1 < (↑(List.length (a.getD c.toNat ZN).2.2.2.2.2.2.2.2):Int))) (cond (decide ((0:Int)≤(List.getD (a.getD c.toNat ZN).2.2.2.2.2.2.2.2 (Int.toNat r4.1.1) (ByteArray.empty,(0:Int))).2)) (cond (decide ((List.getD (a.getD c.toNat ZN).2.2.2.2.2.2.2.2 (Int.toNat r4.1.1) (ByteArray.empty,(0:Int))).2 < (↑a.length:Int))) (cond (decide ((a.getD (Int.toNat (List.getD (a.getD c.toNat ZN).2.2.2.2.2.2.2.2 (Int.toNat r4.1.1) (ByteArray.empty,(0:Int))).2) ZN).1=(2:Int))) (cond (decide ((0:Int) < (↑(List.length (a.getD (Int.toNat (List.getD (a.getD c.toNat ZN).2.2.2.2.2.2.2.2 (Int.toNat r4.1.1) (ByteArray.empty,(0:Int))).2) ZN).2.2.2.2.2.2.2.2):Int))) (some ((r2.1.1,((6:Int),())),())) (cond (decide ((0:Int) < (a.getD (Int.toNat (List.getD (a.getD c.toNat ZN).2.2.2.2.2.2.2.2 (Int.toNat r4.1.1) (ByteArray.empty,(0:Int))).2) ZN).2.2.2.2.2.1)) (some ((r2.1.1,((6:Int),())),())) ((q71 n (r2.1.1,c,d,())).bind fun r5=>(q70 n (r5.2.1,r5.1.1,())).bind fun r6=>some ((r6.2.1,((0:Int),())),())))) ((q71 n (r2.1.1,c,d,())).bind fun r7=>(q70 n (r7.2.1,r7.1.1,())).bind fun r8=>some ((r8.2.1,((0:Int),())),()))) (none)) (none)) (none)) (none))))) (none)) (none)))
theorem e20_top (n:Nat) (a:List NT) (b:Int × Int × List Int) (c:Int) (d:ByteArray):runF TT G20 an20 Try.f20 c20 ps20 rs20 n (a,b,c,d,())=st20_top n a b c d:=by kernel_rfl
noncomputable def p20 (n:Nat) (a:List NT) (b:Int × Int × List Int) (c:Int) (d:ByteArray):Option R20:=st20_top n a b c d
theorem F20_eq (n:Nat) (a:List NT) (b:Int × Int × List Int) (c:Int) (d:ByteArray):runF TT G20 an20 Try.f20 c20 ps20 rs20 n (a,b,c,d,())=p20 n a b c d:=by
 rw [e20_top]
 skip
 try rfl
noncomputable def q20 (n:Nat) (x:argsD ps20):Option R20:=p20 n x.1 x.2.1 x.2.2.1 x.2.2.2.1
noncomputable def Sm20:Sm:=⟨ps20,rs20,false,q20⟩
theorem holds20 (hg:GamOK Try.prog G20):Holds Try.prog 20 Sm20:=by
 have:=h0_20 hg
 have e:(runF TT G20 an20 Try.f20 c20 ps20 rs20)=q20:=by
  funext n x
  exact F20_eq n x.1 x.2.1 x.2.2.1 x.2.2.2.1
 rw [e] at this
 exact this
theorem gam20:GamOK Try.prog G20:=by
 intro f s h
 unfold G20 at h
 split at h
 ·injection h with h; subst h; exact ⟨⟨Try.f53,c53,Try.func53,by kernel_rfl,by decide +kernel⟩,hh53⟩
 ·injection h with h; subst h; exact ⟨⟨Try.f54,c54,Try.func54,by kernel_rfl,by decide +kernel⟩,hh54⟩
 ·injection h with h; subst h; exact ⟨⟨Try.f56,c56,Try.func56,by kernel_rfl,by decide +kernel⟩,hh56⟩
 ·injection h with h; subst h; exact ⟨⟨Try.f59,c59,Try.func59,by kernel_rfl,by decide +kernel⟩,hh59⟩
 ·injection h with h; subst h; exact ⟨⟨Try.f60,c60,Try.func60,by kernel_rfl,by decide +kernel⟩,hh60⟩
 ·injection h with h; subst h; exact ⟨⟨Try.f70,c70,Try.func70,by kernel_rfl,by decide +kernel⟩,hh70⟩
 ·injection h with h; subst h; exact ⟨⟨Try.f71,c71,Try.func71,by kernel_rfl,by decide +kernel⟩,hh71⟩
 ·cases h
theorem hh20:Holds Try.prog 20 Sm20:=holds20 gam20
end Go.Proofs.Ythhopbicmaipgaa.Rx.S

namespace Go.Proofs.Ythhopbicmaipgaa.Rx.S
open Go Go.RowKit Go.Proofs
set_option maxRecDepth 100000
noncomputable def c69:Code:=(Try.f69.body.getD .skip)
def an69:An:=⟨fun r=>match r with | 4=>⟨[2,3,5],[]⟩ | _=>⟨[],[]⟩,fun _ _=>none⟩
abbrev ps69:List PK:=[.val (tIn 95) true,.val (tIn 95) true]
abbrev rs69:List RK:=[.val .bool false]
abbrev R69:=retsD rs69 × outsD ps69
noncomputable def G69:Gam:=fun _=>none
theorem h0_69 (hg:GamOK Try.prog G69):Holds Try.prog 69 ⟨ps69,rs69,false,runF TT G69 an69 Try.f69 c69 ps69 rs69⟩:=holds_of tt_ok hg mixed Try.func69 (by kernel_rfl) (by rfl) (by decide +kernel)
noncomputable def at69:Nat→Pt→List Nat→St→Option R69:=atF TT G69 an69 Try.f69 c69 _ _
def sh69_L4 (x0:Int) (x1:Int) (x2:Int) (x3:Int) (x4:Int) (x5:Int) (x6:Int) (x7:Bool) (x8:ByteArray) (x9:List (ByteArray × Int)) (x10:Int) (x11:Int) (x12:Int) (x13:Int) (x14:Int) (x15:Int) (x16:Bool) (x17:ByteArray) (x18:List (ByteArray × Int)):St:=(St.mk (AV.undef :: (AV.undef :: ((AV.one (SV.bptr 1000000 0)) :: ((AV.one (SV.bptr 1000001 0)) :: (AV.undef :: ((AV.one (SV.int (Go.IntKind.i64) x0)) :: (AV.undef :: (AV.undef :: (AV.undef :: (AV.undef :: (AV.undef :: (AV.undef :: (AV.undef :: (AV.undef :: (AV.undef :: (AV.undef :: (AV.undef :: (AV.undef :: (AV.undef :: (AV.undef :: (AV.undef :: (AV.undef :: (AV.undef :: (AV.undef :: (AV.undef :: (AV.undef :: (AV.undef :: (AV.undef :: (AV.undef :: (AV.undef :: (AV.undef :: (AV.undef :: (AV.undef :: (AV.undef :: (AV.undef :: (AV.undef :: (AV.undef :: (AV.undef :: (AV.undef :: (AV.undef :: (AV.undef :: (AV.undef :: (AV.undef :: (AV.undef :: (AV.undef :: (AV.undef :: (AV.undef :: (AV.undef :: (AV.undef :: (AV.undef :: (AV.undef :: (AV.undef :: (AV.undef :: (AV.undef :: (AV.undef :: (AV.undef :: (AV.undef :: (AV.undef :: (AV.undef :: (AV.undef :: (AV.undef :: (AV.undef :: (AV.undef :: (AV.undef :: (AV.undef :: (AV.undef :: (AV.undef :: (AV.undef :: (AV.undef :: (AV.undef :: (AV.undef :: (AV.undef :: (AV.undef :: (AV.undef :: (AV.undef :: (AV.undef :: (AV.undef :: (AV.undef :: (AV.undef :: (AV.undef :: (AV.undef :: (AV.undef :: (AV.undef :: (AV.undef :: (AV.undef :: (AV.undef :: (AV.undef :: []))))))))))))))))))))))))))))))))))))))))))))))))))))))))))))))))))))))))))))))))))))))) ((1000000,(Ent.box ((SV.int (Go.IntKind.i64) x1) :: ((SV.int (Go.IntKind.i64) x2) :: ((SV.int (Go.IntKind.i64) x3) :: ((SV.int (Go.IntKind.i64) x4) :: ((SV.int (Go.IntKind.i64) x5) :: ((SV.int (Go.IntKind.i64) x6) :: ((SV.bool x7) :: ((SV.str x8) :: ((SV.con (⟨95,Ty.str.pair (Ty.int Go.IntKind.i64),x9⟩:Rw)) :: []))))))))))) :: ((1000001,(Ent.box ((SV.int (Go.IntKind.i64) x10) :: ((SV.int (Go.IntKind.i64) x11) :: ((SV.int (Go.IntKind.i64) x12) :: ((SV.int (Go.IntKind.i64) x13) :: ((SV.int (Go.IntKind.i64) x14) :: ((SV.int (Go.IntKind.i64) x15) :: ((SV.bool x16) :: ((SV.str x17) :: ((SV.con (⟨95,Ty.str.pair (Ty.int Go.IntKind.i64),x18⟩:Rw)) :: []))))))))))) :: [])))
noncomputable def st69_top (n:Nat) (lL4:Int→Int→Int→Int→Int→Int→Int→Bool→ByteArray→(List (ByteArray × Int))→Int→Int→Int→Int→Int→Int→Bool→ByteArray→(List (ByteArray × Int))→Option R69) (a:NT) (b:NT):Option R69 :=
 cond (!decide (a.1=b.1)) (some ((false,()),())) (cond (!decide (a.2.1=b.2.1)) (some ((false,()),())) (cond (!decide (a.2.2.1=b.2.2.1)) (some ((false,()),())) (cond (!decide (a.2.2.2.1=b.2.2.2.1)) (some ((false,()),())) (cond (!decide (a.2.2.2.2.1=b.2.2.2.2.1)) (some ((false,()),())) (cond (!decide (a.2.2.2.2.2.1=b.2.2.2.2.2.1)) (some ((false,()),())) (cond (!a.2.2.2.2.2.2.1 == b.2.2.2.2.2.2.1) (some ((false,()),())) (cond (!ByteArray.toList a.2.2.2.2.2.2.2.1 == ByteArray.toList b.2.2.2.2.2.2.2.1) (some ((false,()),())) (cond (!decide ((↑(List.length a.2.2.2.2.2.2.2.2):Int)=(↑(List.length b.2.2.2.2.2.2.2.2):Int))) (some ((false,()),())) (lL4 ((0:Int)) (a.1) (a.2.1) (a.2.2.1) (a.2.2.2.1) (a.2.2.2.2.1) (a.2.2.2.2.2.1) (a.2.2.2.2.2.2.1) (a.2.2.2.2.2.2.2.1) (a.2.2.2.2.2.2.2.2) (b.1) (b.2.1) (b.2.2.1) (b.2.2.2.1) (b.2.2.2.2.1) (b.2.2.2.2.2.1) (b.2.2.2.2.2.2.1) (b.2.2.2.2.2.2.2.1) (b.2.2.2.2.2.2.2.2))))))))))
noncomputable def st69_L4 (n:Nat) (lL4:Int→Int→Int→Int→Int→Int→Int→Bool→ByteArray→(List (ByteArray × Int))→Int→Int→Int→Int→Int→Int→Bool→ByteArray→(List (ByteArray × Int))→Option R69) (x0:Int) (x1:Int) (x2:Int) (x3:Int) (x4:Int) (x5:Int) (x6:Int) (x7:Bool) (x8:ByteArray) (x9:List (ByteArray × Int)) (x10:Int) (x11:Int) (x12:Int) (x13:Int) (x14:Int) (x15:Int) (x16:Bool) (x17:ByteArray) (x18:List (ByteArray × Int)):Option R69 :=
 cond (decide (x0 < (↑x9.length:Int))) (cond (decide ((0:Int)≤x0)) (cond (decide (x0 < (↑x9.length:Int))) (cond (decide ((0:Int)≤x0)) (cond (decide (x0 < (↑x18.length:Int))) (cond (!(ByteArray.toList (x9.getD x0.toNat (ByteArray.empty,(0:Int))).1 == ByteArray.toList (x18.getD x0.toNat (ByteArray.empty,(0:Int))).1&&(decide ((x9.getD x0.toNat (ByteArray.empty,(0:Int))).2=(x18.getD x0.toNat (ByteArray.empty,(0:Int))).2)&&true))) (some ((false,()),())) (lL4 (Go.IntKind.i64.wrap (x0 + (1:Int))) (x1) (x2) (x3) (x4) (x5) (x6) (x7) (x8) (x9) (x10) (x11) (x12) (x13) (x14) (x15) (x16) (x17) (x18))) (none)) (none)) (none)) (none)) (some ((true,()),()))
theorem e69_top (n:Nat) (a:NT) (b:NT):runF TT G69 an69 Try.f69 c69 ps69 rs69 n (a,b,())=st69_top n (fun x0 x1 x2 x3 x4 x5 x6 x7 x8 x9 x10 x11 x12 x13 x14 x15 x16 x17 x18=>at69 n (.head 4) [n] (sh69_L4 x0 x1 x2 x3 x4 x5 x6 x7 x8 x9 x10 x11 x12 x13 x14 x15 x16 x17 x18)) a b:=by kernel_rfl
theorem e69_L4_0 (n:Nat) (x0:Int) (x1:Int) (x2:Int) (x3:Int) (x4:Int) (x5:Int) (x6:Int) (x7:Bool) (x8:ByteArray) (x9:List (ByteArray × Int)) (x10:Int) (x11:Int) (x12:Int) (x13:Int) (x14:Int) (x15:Int) (x16:Bool) (x17:ByteArray) (x18:List (ByteArray × Int)):at69 n (.head 4) [0] (sh69_L4 x0 x1 x2 x3 x4 x5 x6 x7 x8 x9 x10 x11 x12 x13 x14 x15 x16 x17 x18)=none:=by kernel_rfl
theorem e69_L4 (n:Nat) (m4:Nat) (x0:Int) (x1:Int) (x2:Int) (x3:Int) (x4:Int) (x5:Int) (x6:Int) (x7:Bool) (x8:ByteArray) (x9:List (ByteArray × Int)) (x10:Int) (x11:Int) (x12:Int) (x13:Int) (x14:Int) (x15:Int) (x16:Bool) (x17:ByteArray) (x18:List (ByteArray × Int)):at69 n (.head 4) [m4 + 1] (sh69_L4 x0 x1 x2 x3 x4 x5 x6 x7 x8 x9 x10 x11 x12 x13 x14 x15 x16 x17 x18)=st69_L4 n (fun x0 x1 x2 x3 x4 x5 x6 x7 x8 x9 x10 x11 x12 x13 x14 x15 x16 x17 x18=>at69 n (.head 4) [m4] (sh69_L4 x0 x1 x2 x3 x4 x5 x6 x7 x8 x9 x10 x11 x12 x13 x14 x15 x16 x17 x18)) x0 x1 x2 x3 x4 x5 x6 x7 x8 x9 x10 x11 x12 x13 x14 x15 x16 x17 x18:=by kernel_rfl
noncomputable def p69_L4 (n:Nat):Nat→Int→Int→Int→Int→Int→Int→Int→Bool→ByteArray→(List (ByteArray × Int))→Int→Int→Int→Int→Int→Int→Bool→ByteArray→(List (ByteArray × Int))→Option R69
 | 0,_,_,_,_,_,_,_,_,_,_,_,_,_,_,_,_,_,_,_=>none
 | m + 1,x0,x1,x2,x3,x4,x5,x6,x7,x8,x9,x10,x11,x12,x13,x14,x15,x16,x17,x18=>st69_L4 n (p69_L4 n m) x0 x1 x2 x3 x4 x5 x6 x7 x8 x9 x10 x11 x12 x13 x14 x15 x16 x17 x18
noncomputable def p69 (n:Nat) (a:NT) (b:NT):Option R69:=st69_top n (p69_L4 n n) a b
theorem t69_L4 (n:Nat):∀ (m4:Nat) (x0:Int) (x1:Int) (x2:Int) (x3:Int) (x4:Int) (x5:Int) (x6:Int) (x7:Bool) (x8:ByteArray) (x9:List (ByteArray × Int)) (x10:Int) (x11:Int) (x12:Int) (x13:Int) (x14:Int) (x15:Int) (x16:Bool) (x17:ByteArray) (x18:List (ByteArray × Int)),at69 n (.head 4) [m4] (sh69_L4 x0 x1 x2 x3 x4 x5 x6 x7 x8 x9 x10 x11 x12 x13 x14 x15 x16 x17 x18)=p69_L4 n m4 x0 x1 x2 x3 x4 x5 x6 x7 x8 x9 x10 x11 x12 x13 x14 x15 x16 x17 x18:=by
 intro m
 induction m with
 | zero=>intros; rw [e69_L4_0]; rfl
 | succ m ih =>
  intros
  rw [e69_L4]
  try simp only [ih]
  rfl
theorem F69_eq (n:Nat) (a:NT) (b:NT):runF TT G69 an69 Try.f69 c69 ps69 rs69 n (a,b,())=p69 n a b:=by
 rw [e69_top]
 simp only [t69_L4]
 try rfl
noncomputable def q69 (n:Nat) (x:argsD ps69):Option R69:=p69 n x.1 x.2.1
noncomputable def Sm69:Sm:=⟨ps69,rs69,false,q69⟩
theorem holds69 (hg:GamOK Try.prog G69):Holds Try.prog 69 Sm69:=by
 have:=h0_69 hg
 have e:(runF TT G69 an69 Try.f69 c69 ps69 rs69)=q69:=by
  funext n x
  exact F69_eq n x.1 x.2.1
 rw [e] at this
 exact this
theorem gam69:GamOK Try.prog G69:=fun _ _ h=>by cases h
theorem hh69:Holds Try.prog 69 Sm69:=holds69 gam69
end Go.Proofs.Ythhopbicmaipgaa.Rx.S

