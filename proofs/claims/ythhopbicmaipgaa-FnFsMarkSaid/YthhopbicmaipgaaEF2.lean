/- What the functions of this seat compute, each as a plain function on lists and numbers, with the proof that a call answers so. No condition. -/
import Derived.Test.YthhopbicmaipgaaEF1
set_option linter.unusedVariables false
set_option linter.unusedSimpArgs false
namespace Go.Proofs.Ythhopbicmaipgaa.Rx.S
open Go Go.RowKit Go.Proofs
set_option maxRecDepth 100000
noncomputable def c69:Code:=(Try.f69.body.getD .skip)
def an69:An:=⟨fun r=>match r with | 4=>⟨[2,3,5],[]⟩ | _=>⟨[],[]⟩,fun _ _=>none⟩
abbrev ps69:List PK:=[.val (tIn 95) true,.val (tIn 95) true]
abbrev rs69:List RK:=[.val .bool false]
abbrev R69:=retsD rs69 × outsD ps69
noncomputable def G69:Gam:=fun _=>none
theorem h0_69 (hg:GamOK Try.prog G69):Holds Try.prog 69 ⟨ps69,rs69,false,runF TT G69 an69 Try.f69 c69 ps69 rs69⟩:=holds_of tt_ok hg mixed Try.func69 (by kernel_rfl) (by rfl) (by decide +kernel)
noncomputable def at69:Nat→Pt→List Nat→St→Option R69:=atF TT G69 an69 Try.f69 c69 _ _
def sh69_L4 (x0:Int) (x1:Int) (x2:Int) (x3:Int) (x4:Int) (x5:Int) (x6:Int) (x7:Bool) (x8:ByteArray) (x9:List (ByteArray × Int)) (x10:Int) (x11:Int) (x12:Int) (x13:Int) (x14:Int) (x15:Int) (x16:Bool) (x17:ByteArray) (x18:List (ByteArray × Int)):St:=(St.mk (AV.undef :: (AV.undef :: ((AV.one (SV.bptr 1000000 0)) :: ((AV.one (SV.bptr 1000001 0)) :: (AV.undef :: ((AV.one (SV.int (Go.IntKind.i64) x0)) :: (AV.undef :: (AV.undef :: (AV.undef :: (AV.undef :: (AV.undef :: (AV.undef :: (AV.undef :: (AV.undef :: (AV.undef :: (AV.undef :: (AV.undef :: (AV.undef :: (AV.undef :: (AV.undef :: (AV.undef :: (AV.undef :: (AV.undef :: (AV.undef :: (AV.undef :: (AV.undef :: (AV.undef :: (AV.undef :: (AV.undef :: (AV.undef :: (AV.undef :: (AV.undef :: (AV.undef :: (AV.undef :: (AV.undef :: (AV.undef :: (AV.undef :: (AV.undef :: (AV.undef :: (AV.undef :: (AV.undef :: (AV.undef :: (AV.undef :: (AV.undef :: (AV.undef :: (AV.undef :: (AV.undef :: (AV.undef :: (AV.undef :: (AV.undef :: (AV.undef :: (AV.undef :: (AV.undef :: (AV.undef :: (AV.undef :: (AV.undef :: (AV.undef :: (AV.undef :: (AV.undef :: (AV.undef :: (AV.undef :: (AV.undef :: (AV.undef :: (AV.undef :: (AV.undef :: (AV.undef :: (AV.undef :: (AV.undef :: (AV.undef :: (AV.undef :: (AV.undef :: (AV.undef :: (AV.undef :: (AV.undef :: (AV.undef :: (AV.undef :: (AV.undef :: (AV.undef :: (AV.undef :: (AV.undef :: (AV.undef :: (AV.undef :: (AV.undef :: (AV.undef :: (AV.undef :: (AV.undef :: (AV.undef :: []))))))))))))))))))))))))))))))))))))))))))))))))))))))))))))))))))))))))))))))))))))))) ((1000000,(Ent.box ((SV.int (Go.IntKind.i64) x1) :: ((SV.int (Go.IntKind.i64) x2) :: ((SV.int (Go.IntKind.i64) x3) :: ((SV.int (Go.IntKind.i64) x4) :: ((SV.int (Go.IntKind.i64) x5) :: ((SV.int (Go.IntKind.i64) x6) :: ((SV.bool x7) :: ((SV.str x8) :: ((SV.con (⟨95,Ty.str.pair (Ty.int Go.IntKind.i64),x9⟩:Rw)) :: []))))))))))) :: ((1000001,(Ent.box ((SV.int (Go.IntKind.i64) x10) :: ((SV.int (Go.IntKind.i64) x11) :: ((SV.int (Go.IntKind.i64) x12) :: ((SV.int (Go.IntKind.i64) x13) :: ((SV.int (Go.IntKind.i64) x14) :: ((SV.int (Go.IntKind.i64) x15) :: ((SV.bool x16) :: ((SV.str x17) :: ((SV.con (⟨95,Ty.str.pair (Ty.int Go.IntKind.i64),x18⟩:Rw)) :: []))))))))))) :: [])))
noncomputable def st69_top (n:Nat) (lL4:Int→Int→Int→Int→Int→Int→Int→Bool→ByteArray→(List (ByteArray × Int))→Int→Int→Int→Int→Int→Int→Bool→ByteArray→(List (ByteArray × Int))→Option R69) (a:Int × Int × Int × Int × Int × Int × Bool × ByteArray × List (ByteArray × Int)) (b:Int × Int × Int × Int × Int × Int × Bool × ByteArray × List (ByteArray × Int)):Option R69 :=
  cond (!decide (a.1=b.1)) (some ((false,()),())) (cond (!decide (a.2.1=b.2.1)) (some ((false,()),())) (cond (!decide (a.2.2.1=b.2.2.1)) (some ((false,()),())) (cond (!decide (a.2.2.2.1=b.2.2.2.1)) (some ((false,()),())) (cond (!decide (a.2.2.2.2.1=b.2.2.2.2.1)) (some ((false,()),())) (cond (!decide (a.2.2.2.2.2.1=b.2.2.2.2.2.1)) (some ((false,()),())) (cond (!a.2.2.2.2.2.2.1 == b.2.2.2.2.2.2.1) (some ((false,()),())) (cond (!ByteArray.toList a.2.2.2.2.2.2.2.1 == ByteArray.toList b.2.2.2.2.2.2.2.1) (some ((false,()),())) (cond (!decide ((↑(List.length a.2.2.2.2.2.2.2.2):Int)=(↑(List.length b.2.2.2.2.2.2.2.2):Int))) (some ((false,()),())) (lL4 ((0:Int)) (a.1) (a.2.1) (a.2.2.1) (a.2.2.2.1) (a.2.2.2.2.1) (a.2.2.2.2.2.1) (a.2.2.2.2.2.2.1) (a.2.2.2.2.2.2.2.1) (a.2.2.2.2.2.2.2.2) (b.1) (b.2.1) (b.2.2.1) (b.2.2.2.1) (b.2.2.2.2.1) (b.2.2.2.2.2.1) (b.2.2.2.2.2.2.1) (b.2.2.2.2.2.2.2.1) (b.2.2.2.2.2.2.2.2))))))))))
noncomputable def st69_L4 (n:Nat) (lL4:Int→Int→Int→Int→Int→Int→Int→Bool→ByteArray→(List (ByteArray × Int))→Int→Int→Int→Int→Int→Int→Bool→ByteArray→(List (ByteArray × Int))→Option R69) (x0:Int) (x1:Int) (x2:Int) (x3:Int) (x4:Int) (x5:Int) (x6:Int) (x7:Bool) (x8:ByteArray) (x9:List (ByteArray × Int)) (x10:Int) (x11:Int) (x12:Int) (x13:Int) (x14:Int) (x15:Int) (x16:Bool) (x17:ByteArray) (x18:List (ByteArray × Int)):Option R69 :=
  cond (decide (x0 < (↑x9.length:Int))) (cond (decide ((0:Int)≤x0)) (cond (decide (x0 < (↑x9.length:Int))) (cond (decide ((0:Int)≤x0)) (cond (decide (x0 < (↑x18.length:Int))) (cond (!(ByteArray.toList (x9.getD x0.toNat (ByteArray.empty,(0:Int))).1 == ByteArray.toList (x18.getD x0.toNat (ByteArray.empty,(0:Int))).1&&(decide ((x9.getD x0.toNat (ByteArray.empty,(0:Int))).2=(x18.getD x0.toNat (ByteArray.empty,(0:Int))).2)&&true))) (some ((false,()),())) (lL4 (Go.IntKind.i64.wrap (x0 + (1:Int))) (x1) (x2) (x3) (x4) (x5) (x6) (x7) (x8) (x9) (x10) (x11) (x12) (x13) (x14) (x15) (x16) (x17) (x18))) (none)) (none)) (none)) (none)) (some ((true,()),()))
theorem e69_top (n:Nat) (a:Int × Int × Int × Int × Int × Int × Bool × ByteArray × List (ByteArray × Int)) (b:Int × Int × Int × Int × Int × Int × Bool × ByteArray × List (ByteArray × Int)):runF TT G69 an69 Try.f69 c69 ps69 rs69 n (a,b,())=st69_top n (fun x0 x1 x2 x3 x4 x5 x6 x7 x8 x9 x10 x11 x12 x13 x14 x15 x16 x17 x18=>at69 n (.head 4) [n] (sh69_L4 x0 x1 x2 x3 x4 x5 x6 x7 x8 x9 x10 x11 x12 x13 x14 x15 x16 x17 x18)) a b:=by kernel_rfl
theorem e69_L4_0 (n:Nat) (x0:Int) (x1:Int) (x2:Int) (x3:Int) (x4:Int) (x5:Int) (x6:Int) (x7:Bool) (x8:ByteArray) (x9:List (ByteArray × Int)) (x10:Int) (x11:Int) (x12:Int) (x13:Int) (x14:Int) (x15:Int) (x16:Bool) (x17:ByteArray) (x18:List (ByteArray × Int)):at69 n (.head 4) [0] (sh69_L4 x0 x1 x2 x3 x4 x5 x6 x7 x8 x9 x10 x11 x12 x13 x14 x15 x16 x17 x18)=none:=by kernel_rfl
theorem e69_L4 (n:Nat) (m4:Nat) (x0:Int) (x1:Int) (x2:Int) (x3:Int) (x4:Int) (x5:Int) (x6:Int) (x7:Bool) (x8:ByteArray) (x9:List (ByteArray × Int)) (x10:Int) (x11:Int) (x12:Int) (x13:Int) (x14:Int) (x15:Int) (x16:Bool) (x17:ByteArray) (x18:List (ByteArray × Int)):at69 n (.head 4) [m4 + 1] (sh69_L4 x0 x1 x2 x3 x4 x5 x6 x7 x8 x9 x10 x11 x12 x13 x14 x15 x16 x17 x18)=st69_L4 n (fun x0 x1 x2 x3 x4 x5 x6 x7 x8 x9 x10 x11 x12 x13 x14 x15 x16 x17 x18=>at69 n (.head 4) [m4] (sh69_L4 x0 x1 x2 x3 x4 x5 x6 x7 x8 x9 x10 x11 x12 x13 x14 x15 x16 x17 x18)) x0 x1 x2 x3 x4 x5 x6 x7 x8 x9 x10 x11 x12 x13 x14 x15 x16 x17 x18:=by kernel_rfl
noncomputable def p69_L4 (n:Nat):Nat→Int→Int→Int→Int→Int→Int→Int→Bool→ByteArray→(List (ByteArray × Int))→Int→Int→Int→Int→Int→Int→Bool→ByteArray→(List (ByteArray × Int))→Option R69
  | 0,_,_,_,_,_,_,_,_,_,_,_,_,_,_,_,_,_,_,_=>none
  | m + 1,x0,x1,x2,x3,x4,x5,x6,x7,x8,x9,x10,x11,x12,x13,x14,x15,x16,x17,x18=>st69_L4 n (p69_L4 n m) x0 x1 x2 x3 x4 x5 x6 x7 x8 x9 x10 x11 x12 x13 x14 x15 x16 x17 x18
noncomputable def p69 (n:Nat) (a:Int × Int × Int × Int × Int × Int × Bool × ByteArray × List (ByteArray × Int)) (b:Int × Int × Int × Int × Int × Int × Bool × ByteArray × List (ByteArray × Int)):Option R69:=st69_top n (p69_L4 n n) a b
theorem t69_L4 (n:Nat):∀ (m4:Nat) (x0:Int) (x1:Int) (x2:Int) (x3:Int) (x4:Int) (x5:Int) (x6:Int) (x7:Bool) (x8:ByteArray) (x9:List (ByteArray × Int)) (x10:Int) (x11:Int) (x12:Int) (x13:Int) (x14:Int) (x15:Int) (x16:Bool) (x17:ByteArray) (x18:List (ByteArray × Int)),at69 n (.head 4) [m4] (sh69_L4 x0 x1 x2 x3 x4 x5 x6 x7 x8 x9 x10 x11 x12 x13 x14 x15 x16 x17 x18)=p69_L4 n m4 x0 x1 x2 x3 x4 x5 x6 x7 x8 x9 x10 x11 x12 x13 x14 x15 x16 x17 x18:=by
  intro m
  induction m with
  | zero=>intros; rw [e69_L4_0]; rfl
  | succ m ih =>
    intros
    rw [e69_L4]
    try simp only [ih]
    rfl
theorem F69_eq (n:Nat) (a:Int × Int × Int × Int × Int × Int × Bool × ByteArray × List (ByteArray × Int)) (b:Int × Int × Int × Int × Int × Int × Bool × ByteArray × List (ByteArray × Int)):runF TT G69 an69 Try.f69 c69 ps69 rs69 n (a,b,())=p69 n a b:=by
  rw [e69_top]
  simp only [t69_L4]
  try rfl
noncomputable def q69 (n:Nat) (x:argsD ps69):Option R69:=p69 n x.1 x.2.1
noncomputable def Sm69:Sm:=⟨ps69,rs69,false,q69⟩
theorem holds69 (hg:GamOK Try.prog G69):Holds Try.prog 69 Sm69:=by
  have:=h0_69 hg
  have e:(runF TT G69 an69 Try.f69 c69 ps69 rs69)=q69:=by
    funext n x
    exact F69_eq n x.1 x.2.1
  rw [e] at this
  exact this
theorem gam69:GamOK Try.prog G69:=fun _ _ h=>by cases h
theorem hh69:Holds Try.prog 69 Sm69:=holds69 gam69
end Go.Proofs.Ythhopbicmaipgaa.Rx.S
namespace Go.Proofs.Ythhopbicmaipgaa.Rx.S
open Go Go.RowKit Go.Proofs
set_option maxRecDepth 100000
noncomputable def c18:Code:=(Try.f18.body.getD .skip)
def an18:An:=⟨fun r=>match r with | 4=>⟨[2,3,5],[]⟩ | _=>⟨[],[]⟩,fun _ _=>none⟩
abbrev ps18:List PK:=[.val tFs true,.val tFs true]
abbrev rs18:List RK:=[.val .bool false]
abbrev R18:=retsD rs18 × outsD ps18
noncomputable def G18:Gam:=fun f=>match f with | 69=>some Sm69 | _=>none
theorem h0_18 (hg:GamOK Try.prog G18):Holds Try.prog 18 ⟨ps18,rs18,false,runF TT G18 an18 Try.f18 c18 ps18 rs18⟩:=holds_of tt_ok hg mixed Try.func18 (by kernel_rfl) (by rfl) (by decide +kernel)
noncomputable def at18:Nat→Pt→List Nat→St→Option R18:=atF TT G18 an18 Try.f18 c18 _ _
def sh18_L4 (x0:Int) (x1:List (Int × Int × Int × Int × Int × Int × Bool × ByteArray × List (ByteArray × Int))) (x2:List (Int × Int × Int × Int × Int × Int × Bool × ByteArray × List (ByteArray × Int))):St:=(St.mk (AV.undef :: (AV.undef :: ((AV.one (SV.bptr 1000000 0)) :: ((AV.one (SV.bptr 1000001 0)) :: (AV.undef :: ((AV.one (SV.int (Go.IntKind.i64) x0)) :: (AV.undef :: (AV.undef :: (AV.undef :: (AV.undef :: (AV.undef :: (AV.undef :: (AV.undef :: (AV.undef :: (AV.undef :: (AV.undef :: (AV.undef :: (AV.undef :: (AV.undef :: (AV.undef :: (AV.undef :: (AV.undef :: (AV.undef :: (AV.undef :: (AV.undef :: (AV.undef :: (AV.undef :: (AV.undef :: (AV.undef :: (AV.undef :: (AV.undef :: (AV.undef :: [])))))))))))))))))))))))))))))))) ((1000000,(Ent.box ((SV.con (⟨39,(Ty.int Go.IntKind.i64).pair ((Ty.int Go.IntKind.i64).pair ((Ty.int Go.IntKind.i64).pair ((Ty.int Go.IntKind.i64).pair ((Ty.int Go.IntKind.i64).pair ((Ty.int Go.IntKind.i64).pair (Ty.bool.pair (Ty.str.pair (Ty.row (nat_lit 95) (Ty.str.pair (Ty.int Go.IntKind.i64)))))))))),x1⟩:Rw)) :: []))) :: ((1000001,(Ent.box ((SV.con (⟨39,(Ty.int Go.IntKind.i64).pair ((Ty.int Go.IntKind.i64).pair ((Ty.int Go.IntKind.i64).pair ((Ty.int Go.IntKind.i64).pair ((Ty.int Go.IntKind.i64).pair ((Ty.int Go.IntKind.i64).pair (Ty.bool.pair (Ty.str.pair (Ty.row (nat_lit 95) (Ty.str.pair (Ty.int Go.IntKind.i64)))))))))),x2⟩:Rw)) :: []))) :: [])))
noncomputable def st18_top (n:Nat) (lL4:Int→(List (Int × Int × Int × Int × Int × Int × Bool × ByteArray × List (ByteArray × Int)))→(List (Int × Int × Int × Int × Int × Int × Bool × ByteArray × List (ByteArray × Int)))→Option R18) (a:List (Int × Int × Int × Int × Int × Int × Bool × ByteArray × List (ByteArray × Int))) (b:List (Int × Int × Int × Int × Int × Int × Bool × ByteArray × List (ByteArray × Int))):Option R18 :=
  cond (!decide ((↑a.length:Int)=(↑b.length:Int))) (some ((false,()),())) (lL4 ((0:Int)) (a) (b))
noncomputable def st18_L4 (n:Nat) (lL4:Int→(List (Int × Int × Int × Int × Int × Int × Bool × ByteArray × List (ByteArray × Int)))→(List (Int × Int × Int × Int × Int × Int × Bool × ByteArray × List (ByteArray × Int)))→Option R18) (x0:Int) (x1:List (Int × Int × Int × Int × Int × Int × Bool × ByteArray × List (ByteArray × Int))) (x2:List (Int × Int × Int × Int × Int × Int × Bool × ByteArray × List (ByteArray × Int))):Option R18 :=
  cond (decide (x0 < (↑x1.length:Int))) (cond (decide ((0:Int)≤x0)) (cond (decide (x0 < (↑x1.length:Int))) (cond (decide ((0:Int)≤x0)) (cond (decide (x0 < (↑x2.length:Int))) ((q69 n (((x1.getD x0.toNat ((0:Int),(0:Int),(0:Int),(0:Int),(0:Int),(0:Int),false,ByteArray.empty,[])).1,(x1.getD x0.toNat ((0:Int),(0:Int),(0:Int),(0:Int),(0:Int),(0:Int),false,ByteArray.empty,[])).2.1,(x1.getD x0.toNat ((0:Int),(0:Int),(0:Int),(0:Int),(0:Int),(0:Int),false,ByteArray.empty,[])).2.2.1,(x1.getD x0.toNat ((0:Int),(0:Int),(0:Int),(0:Int),(0:Int),(0:Int),false,ByteArray.empty,[])).2.2.2.1,(x1.getD x0.toNat ((0:Int),(0:Int),(0:Int),(0:Int),(0:Int),(0:Int),false,ByteArray.empty,[])).2.2.2.2.1,(x1.getD x0.toNat ((0:Int),(0:Int),(0:Int),(0:Int),(0:Int),(0:Int),false,ByteArray.empty,[])).2.2.2.2.2.1,(x1.getD x0.toNat ((0:Int),(0:Int),(0:Int),(0:Int),(0:Int),(0:Int),false,ByteArray.empty,[])).2.2.2.2.2.2.1,(x1.getD x0.toNat ((0:Int),(0:Int),(0:Int),(0:Int),(0:Int),(0:Int),false,ByteArray.empty,[])).2.2.2.2.2.2.2.1,(x1.getD x0.toNat ((0:Int),(0:Int),(0:Int),(0:Int),(0:Int),(0:Int),false,ByteArray.empty,[])).2.2.2.2.2.2.2.2),((x2.getD x0.toNat ((0:Int),(0:Int),(0:Int),(0:Int),(0:Int),(0:Int),false,ByteArray.empty,[])).1,(x2.getD x0.toNat ((0:Int),(0:Int),(0:Int),(0:Int),(0:Int),(0:Int),false,ByteArray.empty,[])).2.1,(x2.getD x0.toNat ((0:Int),(0:Int),(0:Int),(0:Int),(0:Int),(0:Int),false,ByteArray.empty,[])).2.2.1,(x2.getD x0.toNat ((0:Int),(0:Int),(0:Int),(0:Int),(0:Int),(0:Int),false,ByteArray.empty,[])).2.2.2.1,(x2.getD x0.toNat ((0:Int),(0:Int),(0:Int),(0:Int),(0:Int),(0:Int),false,ByteArray.empty,[])).2.2.2.2.1,(x2.getD x0.toNat ((0:Int),(0:Int),(0:Int),(0:Int),(0:Int),(0:Int),false,ByteArray.empty,[])).2.2.2.2.2.1,(x2.getD x0.toNat ((0:Int),(0:Int),(0:Int),(0:Int),(0:Int),(0:Int),false,ByteArray.empty,[])).2.2.2.2.2.2.1,(x2.getD x0.toNat ((0:Int),(0:Int),(0:Int),(0:Int),(0:Int),(0:Int),false,ByteArray.empty,[])).2.2.2.2.2.2.2.1,(x2.getD x0.toNat ((0:Int),(0:Int),(0:Int),(0:Int),(0:Int),(0:Int),false,ByteArray.empty,[])).2.2.2.2.2.2.2.2),())).bind fun r1=>cond (!r1.1.1) (some ((false,()),())) (lL4 (Go.IntKind.i64.wrap (x0 + (1:Int))) (x1) (x2))) (none)) (none)) (none)) (none)) (some ((true,()),()))
theorem e18_top (n:Nat) (a:List (Int × Int × Int × Int × Int × Int × Bool × ByteArray × List (ByteArray × Int))) (b:List (Int × Int × Int × Int × Int × Int × Bool × ByteArray × List (ByteArray × Int))):runF TT G18 an18 Try.f18 c18 ps18 rs18 n (a,b,())=st18_top n (fun x0 x1 x2=>at18 n (.head 4) [n] (sh18_L4 x0 x1 x2)) a b:=by kernel_rfl
theorem e18_L4_0 (n:Nat) (x0:Int) (x1:List (Int × Int × Int × Int × Int × Int × Bool × ByteArray × List (ByteArray × Int))) (x2:List (Int × Int × Int × Int × Int × Int × Bool × ByteArray × List (ByteArray × Int))):at18 n (.head 4) [0] (sh18_L4 x0 x1 x2)=none:=by kernel_rfl
theorem e18_L4 (n:Nat) (m4:Nat) (x0:Int) (x1:List (Int × Int × Int × Int × Int × Int × Bool × ByteArray × List (ByteArray × Int))) (x2:List (Int × Int × Int × Int × Int × Int × Bool × ByteArray × List (ByteArray × Int))):at18 n (.head 4) [m4 + 1] (sh18_L4 x0 x1 x2)=st18_L4 n (fun x0 x1 x2=>at18 n (.head 4) [m4] (sh18_L4 x0 x1 x2)) x0 x1 x2:=by kernel_rfl
noncomputable def p18_L4 (n:Nat):Nat→Int→(List (Int × Int × Int × Int × Int × Int × Bool × ByteArray × List (ByteArray × Int)))→(List (Int × Int × Int × Int × Int × Int × Bool × ByteArray × List (ByteArray × Int)))→Option R18
  | 0,_,_,_=>none
  | m + 1,x0,x1,x2=>st18_L4 n (p18_L4 n m) x0 x1 x2
noncomputable def p18 (n:Nat) (a:List (Int × Int × Int × Int × Int × Int × Bool × ByteArray × List (ByteArray × Int))) (b:List (Int × Int × Int × Int × Int × Int × Bool × ByteArray × List (ByteArray × Int))):Option R18:=st18_top n (p18_L4 n n) a b
theorem t18_L4 (n:Nat):∀ (m4:Nat) (x0:Int) (x1:List (Int × Int × Int × Int × Int × Int × Bool × ByteArray × List (ByteArray × Int))) (x2:List (Int × Int × Int × Int × Int × Int × Bool × ByteArray × List (ByteArray × Int))),at18 n (.head 4) [m4] (sh18_L4 x0 x1 x2)=p18_L4 n m4 x0 x1 x2:=by
  intro m
  induction m with
  | zero=>intros; rw [e18_L4_0]; rfl
  | succ m ih =>
    intros
    rw [e18_L4]
    try simp only [ih]
    rfl
theorem F18_eq (n:Nat) (a:List (Int × Int × Int × Int × Int × Int × Bool × ByteArray × List (ByteArray × Int))) (b:List (Int × Int × Int × Int × Int × Int × Bool × ByteArray × List (ByteArray × Int))):runF TT G18 an18 Try.f18 c18 ps18 rs18 n (a,b,())=p18 n a b:=by
  rw [e18_top]
  simp only [t18_L4]
  try rfl
noncomputable def q18 (n:Nat) (x:argsD ps18):Option R18:=p18 n x.1 x.2.1
noncomputable def Sm18:Sm:=⟨ps18,rs18,false,q18⟩
theorem holds18 (hg:GamOK Try.prog G18):Holds Try.prog 18 Sm18:=by
  have:=h0_18 hg
  have e:(runF TT G18 an18 Try.f18 c18 ps18 rs18)=q18:=by
    funext n x
    exact F18_eq n x.1 x.2.1
  rw [e] at this
  exact this
theorem gam18:GamOK Try.prog G18:=by
  intro f s h
  unfold G18 at h
  split at h
  · injection h with h; subst h; exact ⟨⟨Try.f69,c69,Try.func69,by kernel_rfl,by decide +kernel⟩,hh69⟩
  · cases h
theorem hh18:Holds Try.prog 18 Sm18:=holds18 gam18
end Go.Proofs.Ythhopbicmaipgaa.Rx.S
namespace Go.Proofs.Ythhopbicmaipgaa.Rx.S
open Go Go.RowKit Go.Proofs
set_option maxRecDepth 100000
abbrev ps35:List PK:=[.val (.row 5 (.int .u8)) false]
abbrev rs35:List RK:=[.ro 39 (tIn 95) true,.val i64 false,.val .bool false]
abbrev R35:=retsD rs35 × outsD ps35
noncomputable def st35_top (n:Nat) (a:List Int):Option R35 :=
  (q46 n (a,())).bind fun r0=>(q47 n ((r0.1.1.1,r0.1.1.2),())).bind fun r1=>(q49 n ((r1.2.1.1,r1.2.1.2),())).bind fun r2=>(q51 n ((r2.2.1.1,r2.2.1.2),(3:Int),())).bind fun r3=>some ((r1.1.1,(r2.1.1,(decide ((0:Int) < r3.1.1),()))),())
noncomputable def p35 (n:Nat) (a:List Int):Option R35:=st35_top n a
noncomputable def q35 (n:Nat) (x:argsD ps35):Option R35:=p35 n x.1
end Go.Proofs.Ythhopbicmaipgaa.Rx.S
namespace Go.Proofs.Ythhopbicmaipgaa.Rx.S
open Go Go.RowKit Go.Proofs
set_option maxRecDepth 100000
abbrev ps8:List PK:=[.val (.row 5 (.int .u8)) false]
abbrev rs8:List RK:=[.val .bool false]
abbrev R8:=retsD rs8 × outsD ps8
noncomputable def st8_top (n:Nat) (a:List Int):Option R8 :=
  cond (decide ((1048576:Int) < (↑a.length:Int))) (some ((true,()),())) ((q35 n (a,())).bind fun r0=>(q33 n (r0.1.1,r0.1.2.1,r0.1.2.2.1,())).bind fun r1=>(q32 n (r0.1.1,r0.1.2.1,r0.1.2.2.1,())).bind fun r2=>(q18 n (r1.1.1,r2.1.1,())).bind fun r3=>cond (r3.1.1) (cond (!decide (r1.1.2.1=r2.1.2.1)) (some ((decide (r1.1.2.1=r2.1.2.1),()),())) (cond (!!decide (r1.1.2.1=(1:Int))) (some ((decide (r1.1.2.1=r2.1.2.1),()),())) (cond (!decide (r1.1.2.1=(0:Int))) ((q18 n (r0.1.1,r1.1.1,())).bind fun r4=>some ((r4.1.1,()),())) (cond (!r0.1.2.2.1) ((q36 n (r1.1.1,())).bind fun r5=>some ((r5.1.1,()),())) ((q33 n (r1.1.1,r0.1.2.1,false,())).bind fun r6=>(q36 n (r1.1.1,())).bind fun r7=>cond (r7.1.1) (cond (decide (r6.1.2.1=(0:Int))) ((q18 n (r6.1.1,r0.1.1,())).bind fun r8=>some ((r8.1.1,()),())) (some ((false,()),()))) (some ((false,()),()))))))) (some ((false,()),())))
noncomputable def p8 (n:Nat) (a:List Int):Option R8:=st8_top n a
noncomputable def q8 (n:Nat) (x:argsD ps8):Option R8:=p8 n x.1
end Go.Proofs.Ythhopbicmaipgaa.Rx.S
namespace Go.Proofs.Ythhopbicmaipgaa.Rx.S
open Go Go.RowKit Go.Proofs
set_option maxRecDepth 100000
noncomputable def c45:Code:=(Try.f45.body.getD .skip)
def an45:An:=⟨fun _=>⟨[],[]⟩,fun _ _=>none⟩
abbrev ps45:List PK:=[.val (.row 5 (.int .u8)) false]
abbrev rs45:List RK:=[.ro 39 (tIn 95) true,.own tCr true,.val i64 false,.val .bool false]
abbrev R45:=retsD rs45 × outsD ps45
noncomputable def G45:Gam:=fun f=>match f with | 46=>some Sm46 | 47=>some Sm47 | 48=>some Sm48 | 49=>some Sm49 | 51=>some Sm51 | _=>none
theorem h0_45 (hg:GamOK Try.prog G45):Holds Try.prog 45 ⟨ps45,rs45,true,runF TT G45 an45 Try.f45 c45 ps45 rs45⟩:=holds_of tt_ok hg mixed Try.func45 (by kernel_rfl) (by rfl) (by decide +kernel)
noncomputable def st45_top (n:Nat) (a:List Int):Option R45 :=
  (q46 n (a,())).bind fun r0=>(q47 n ((r0.1.1.1,r0.1.1.2),())).bind fun r1=>(q48 n ((r1.2.1.1,r1.2.1.2),())).bind fun r2=>(q49 n ((r2.2.1.1,r2.2.1.2),())).bind fun r3=>(q51 n ((r3.2.1.1,r3.2.1.2),(2:Int),())).bind fun r4=>some ((r1.1.1,((r2.1.1.1,(r2.1.1.2.1,r2.1.1.2.2)),(r3.1.1,(decide (r4.1.1=(0:Int)),())))),())
theorem e45_top (n:Nat) (a:List Int):runF TT G45 an45 Try.f45 c45 ps45 rs45 n (a,())=st45_top n a:=by kernel_rfl
noncomputable def p45 (n:Nat) (a:List Int):Option R45:=st45_top n a
theorem F45_eq (n:Nat) (a:List Int):runF TT G45 an45 Try.f45 c45 ps45 rs45 n (a,())=p45 n a:=by
  rw [e45_top]
  skip
  try rfl
noncomputable def q45 (n:Nat) (x:argsD ps45):Option R45:=p45 n x.1
noncomputable def Sm45:Sm:=⟨ps45,rs45,true,q45⟩
theorem holds45 (hg:GamOK Try.prog G45):Holds Try.prog 45 Sm45:=by
  have:=h0_45 hg
  have e:(runF TT G45 an45 Try.f45 c45 ps45 rs45)=q45:=by
    funext n x
    exact F45_eq n x.1
  rw [e] at this
  exact this
theorem gam45:GamOK Try.prog G45:=by
  intro f s h
  unfold G45 at h
  split at h
  · injection h with h; subst h; exact ⟨⟨Try.f46,c46,Try.func46,by kernel_rfl,by decide +kernel⟩,hh46⟩
  · injection h with h; subst h; exact ⟨⟨Try.f47,c47,Try.func47,by kernel_rfl,by decide +kernel⟩,hh47⟩
  · injection h with h; subst h; exact ⟨⟨Try.f48,c48,Try.func48,by kernel_rfl,by decide +kernel⟩,hh48⟩
  · injection h with h; subst h; exact ⟨⟨Try.f49,c49,Try.func49,by kernel_rfl,by decide +kernel⟩,hh49⟩
  · injection h with h; subst h; exact ⟨⟨Try.f51,c51,Try.func51,by kernel_rfl,by decide +kernel⟩,hh51⟩
  · cases h
theorem hh45:Holds Try.prog 45 Sm45:=holds45 gam45
end Go.Proofs.Ythhopbicmaipgaa.Rx.S
namespace Go.Proofs.Ythhopbicmaipgaa.Rx.S
open Go Go.RowKit Go.Proofs
set_option maxRecDepth 100000
noncomputable def c14:Code:=(Try.f14.body.getD .skip)
def an14:An:=⟨fun _=>⟨[],[]⟩,fun _ _=>none⟩
abbrev ps14:List PK:=[.val (.row 5 (.int .u8)) false]
abbrev rs14:List RK:=[.val .bool false]
abbrev R14:=retsD rs14 × outsD ps14
noncomputable def G14:Gam:=fun f=>match f with | 18=>some Sm18 | 36=>some Sm36 | 42=>some Sm42 | 43=>some Sm43 | 45=>some Sm45 | _=>none
theorem h0_14 (hg:GamOK Try.prog G14):Holds Try.prog 14 ⟨ps14,rs14,false,runF TT G14 an14 Try.f14 c14 ps14 rs14⟩:=holds_of tt_ok hg mixed Try.func14 (by kernel_rfl) (by rfl) (by decide +kernel)
noncomputable def st14_top (n:Nat) (a:List Int):Option R14 :=
  cond (decide ((1048576:Int) < (↑a.length:Int))) (some ((true,()),())) ((q45 n (a,())).bind fun r0=>(q43 n (r0.1.1,(r0.1.2.1.1,r0.1.2.1.2.1,r0.1.2.1.2.2),r0.1.2.2.1,r0.1.2.2.2.1,())).bind fun r1=>(q42 n (r0.1.1,(r0.1.2.1.1,r0.1.2.1.2.1,r0.1.2.1.2.2),r0.1.2.2.1,r0.1.2.2.2.1,())).bind fun r2=>(q18 n (r1.1.1,r2.1.1,())).bind fun r3=>cond (r3.1.1) (cond (!decide (r1.1.2.1=r2.1.2.1)) (some ((decide (r1.1.2.1=r2.1.2.1),()),())) (cond (!!decide (r1.1.2.1=(1:Int))) (some ((decide (r1.1.2.1=r2.1.2.1),()),())) (cond (!decide (r1.1.2.1=(0:Int))) ((q18 n (r0.1.1,r1.1.1,())).bind fun r4=>some ((r4.1.1,()),())) ((q36 n (r1.1.1,())).bind fun r5=>cond (r5.1.1) (cond (decide ((0:Int)≤r0.1.2.2.1)) (cond (decide (r0.1.2.2.1 < (↑(List.length r1.1.1):Int))) (cond ((List.getD r1.1.1 (Int.toNat r0.1.2.2.1) ((0:Int),(0:Int),(0:Int),(0:Int),(0:Int),(0:Int),false,ByteArray.empty,[])).2.2.2.2.2.2.1 == r0.1.2.2.2.1) (cond (decide ((0:Int)≤r0.1.2.2.1)) (cond (decide (r0.1.2.2.1 < (↑(List.length r0.1.1):Int))) (cond (decide ((List.getD r0.1.1 (Int.toNat r0.1.2.2.1) ((0:Int),(0:Int),(0:Int),(0:Int),(0:Int),(0:Int),false,ByteArray.empty,[])).1=(1:Int))) (cond (decide (r0.1.2.1.1=(0:Int))) (some ((true,()),())) (cond (decide ((0:Int)≤r0.1.2.2.1)) (cond (decide (r0.1.2.2.1 < (↑(List.length r0.1.1):Int))) (some ((decide (r0.1.2.1.1=(List.getD r0.1.1 (Int.toNat r0.1.2.2.1) ((0:Int),(0:Int),(0:Int),(0:Int),(0:Int),(0:Int),false,ByteArray.empty,[])).2.2.1),()),())) (none)) (none))) (some ((false,()),()))) (none)) (none)) (some ((false,()),()))) (none)) (none)) (some ((false,()),())))))) (some ((false,()),())))
theorem e14_top (n:Nat) (a:List Int):runF TT G14 an14 Try.f14 c14 ps14 rs14 n (a,())=st14_top n a:=by kernel_rfl
noncomputable def p14 (n:Nat) (a:List Int):Option R14:=st14_top n a
theorem F14_eq (n:Nat) (a:List Int):runF TT G14 an14 Try.f14 c14 ps14 rs14 n (a,())=p14 n a:=by
  rw [e14_top]
  skip
  try rfl
noncomputable def q14 (n:Nat) (x:argsD ps14):Option R14:=p14 n x.1
noncomputable def Sm14:Sm:=⟨ps14,rs14,false,q14⟩
theorem holds14 (hg:GamOK Try.prog G14):Holds Try.prog 14 Sm14:=by
  have:=h0_14 hg
  have e:(runF TT G14 an14 Try.f14 c14 ps14 rs14)=q14:=by
    funext n x
    exact F14_eq n x.1
  rw [e] at this
  exact this
theorem gam14:GamOK Try.prog G14:=by
  intro f s h
  unfold G14 at h
  split at h
  · injection h with h; subst h; exact ⟨⟨Try.f18,c18,Try.func18,by kernel_rfl,by decide +kernel⟩,hh18⟩
  · injection h with h; subst h; exact ⟨⟨Try.f36,c36,Try.func36,by kernel_rfl,by decide +kernel⟩,hh36⟩
  · injection h with h; subst h; exact ⟨⟨Try.f42,c42,Try.func42,by kernel_rfl,by decide +kernel⟩,hh42⟩
  · injection h with h; subst h; exact ⟨⟨Try.f43,c43,Try.func43,by kernel_rfl,by decide +kernel⟩,hh43⟩
  · injection h with h; subst h; exact ⟨⟨Try.f45,c45,Try.func45,by kernel_rfl,by decide +kernel⟩,hh45⟩
  · cases h
theorem hh14:Holds Try.prog 14 Sm14:=holds14 gam14
end Go.Proofs.Ythhopbicmaipgaa.Rx.S
