/- What the functions of this seat compute, each as a plain function on lists and numbers, with the proof that a call answers so. No condition. -/
import Derived.Test.YtbjgiioppmkpiaaBF0
set_option linter.unusedVariables false
set_option linter.unusedSimpArgs false
namespace Go.Proofs.Ytbjgiioppmkpiaa.Rx.S
open Go Go.RowKit Go.Proofs
set_option maxRecDepth 100000
noncomputable def c63:Code:=(Try.f63.body.getD .skip)
def an63:An:=⟨fun r=>match r with | 5=>⟨[1,3,4],[]⟩ | 10=>⟨[1,3,4,5],[]⟩ | 17=>⟨[1,3,6,7,8],[]⟩ | _=>⟨[],[]⟩,fun _ _=>none⟩
abbrev ps63:List PK:=[.val tFs true]
abbrev rs63:List RK:=[.val .bool false]
abbrev R63:=retsD rs63 × outsD ps63
noncomputable def G63:Gam:=fun f=>match f with | 116=>some Sm116 | 117=>some Sm117 | _=>none
theorem h0_63 (hg:GamOK Try.prog G63):Holds Try.prog 63 ⟨ps63,rs63,false,runF TT G63 an63 Try.f63 c63 ps63 rs63⟩:=holds_of tt_ok hg mixed Try.func63 (by kernel_rfl) (by rfl) (by decide +kernel)
noncomputable def at63:Nat→Pt→List Nat→St→Option R63:=atF TT G63 an63 Try.f63 c63 _ _
def sh63_L10 (x0:Int) (x1:Int) (x2:List NT) (x3:List Int):St:=(St.mk (AV.undef :: ((AV.one (SV.bptr 1000000 0)) :: (AV.undef :: ((AV.one (SV.ref 1000001 0 [] Option.none)) :: ((AV.one (SV.int (Go.IntKind.i64) x0)) :: ((AV.one (SV.int (Go.IntKind.i64) x1)) :: (AV.undef :: (AV.undef :: (AV.undef :: (AV.undef :: (AV.undef :: (AV.undef :: (AV.undef :: (AV.undef :: (AV.undef :: (AV.undef :: (AV.undef :: (AV.undef :: (AV.undef :: (AV.undef :: (AV.undef :: (AV.undef :: (AV.undef :: (AV.undef :: (AV.undef :: (AV.undef :: (AV.undef :: (AV.undef :: (AV.undef :: (AV.undef :: (AV.undef :: (AV.undef :: (AV.undef :: (AV.undef :: (AV.undef :: (AV.undef :: (AV.undef :: (AV.undef :: (AV.undef :: (AV.undef :: (AV.undef :: (AV.undef :: (AV.undef :: (AV.undef :: (AV.undef :: (AV.undef :: (AV.undef :: (AV.undef :: (AV.undef :: (AV.undef :: (AV.undef :: (AV.undef :: (AV.undef :: (AV.undef :: (AV.undef :: (AV.undef :: (AV.undef :: (AV.undef :: (AV.undef :: (AV.undef :: (AV.undef :: (AV.undef :: (AV.undef :: (AV.undef :: (AV.undef :: (AV.undef :: (AV.undef :: (AV.undef :: (AV.undef :: (AV.undef :: (AV.undef :: (AV.undef :: (AV.undef :: (AV.undef :: (AV.undef :: (AV.undef :: (AV.undef :: (AV.undef :: (AV.undef :: (AV.undef :: (AV.undef :: (AV.undef :: (AV.undef :: (AV.undef :: (AV.undef :: (AV.undef :: (AV.undef :: (AV.undef :: (AV.undef :: (AV.undef :: (AV.undef :: (AV.undef :: (AV.undef :: (AV.undef :: (AV.undef :: (AV.undef :: (AV.undef :: (AV.undef :: (AV.undef :: (AV.undef :: (AV.undef :: (AV.undef :: (AV.undef :: (AV.undef :: (AV.undef :: (AV.undef :: (AV.undef :: (AV.undef :: (AV.undef :: (AV.undef :: (AV.undef :: (AV.undef :: (AV.undef :: (AV.undef :: (AV.undef :: (AV.undef :: (AV.undef :: (AV.undef :: (AV.undef :: (AV.undef :: (AV.undef :: (AV.undef :: (AV.undef :: (AV.undef :: (AV.undef :: (AV.undef :: (AV.undef :: (AV.undef :: (AV.undef :: (AV.undef :: (AV.undef :: (AV.undef :: (AV.undef :: (AV.undef :: (AV.undef :: (AV.undef :: (AV.undef :: (AV.undef :: [])))))))))))))))))))))))))))))))))))))))))))))))))))))))))))))))))))))))))))))))))))))))))))))))))))))))))))))))))))))))))))))))))))))))))) ((1000000,(Ent.box ((SV.con (⟨37,(Ty.int Go.IntKind.i64).pair ((Ty.int Go.IntKind.i64).pair ((Ty.int Go.IntKind.i64).pair ((Ty.int Go.IntKind.i64).pair ((Ty.int Go.IntKind.i64).pair ((Ty.int Go.IntKind.i64).pair (Ty.bool.pair (Ty.str.pair (Ty.row (nat_lit 100) (Ty.str.pair (Ty.int Go.IntKind.i64)))))))))),x2⟩:Rw)) :: []))) :: ((1000001,(Ent.row (⟨3,Ty.int Go.IntKind.i64,x3⟩:Rw) 0 Option.none)) :: [])))
def sh63_L17 (x0:Bool) (x1:Int) (x2:List NT) (x3:List Int) (x4:List Bool):St:=(St.mk (AV.undef :: ((AV.one (SV.bptr 1000000 0)) :: (AV.undef :: ((AV.one (SV.ref 1000001 0 [] Option.none)) :: (AV.undef :: (AV.undef :: ((AV.one (SV.ref 1000002 0 [] Option.none)) :: ((AV.one (SV.bool x0)) :: ((AV.one (SV.int (Go.IntKind.i64) x1)) :: (AV.undef :: (AV.undef :: (AV.undef :: (AV.undef :: (AV.undef :: (AV.undef :: (AV.undef :: (AV.undef :: (AV.undef :: (AV.undef :: (AV.undef :: (AV.undef :: (AV.undef :: (AV.undef :: (AV.undef :: (AV.undef :: (AV.undef :: (AV.undef :: (AV.undef :: (AV.undef :: (AV.undef :: (AV.undef :: (AV.undef :: (AV.undef :: (AV.undef :: (AV.undef :: (AV.undef :: (AV.undef :: (AV.undef :: (AV.undef :: (AV.undef :: (AV.undef :: (AV.undef :: (AV.undef :: (AV.undef :: (AV.undef :: (AV.undef :: (AV.undef :: (AV.undef :: (AV.undef :: (AV.undef :: (AV.undef :: (AV.undef :: (AV.undef :: (AV.undef :: (AV.undef :: (AV.undef :: (AV.undef :: (AV.undef :: (AV.undef :: (AV.undef :: (AV.undef :: (AV.undef :: (AV.undef :: (AV.undef :: (AV.undef :: (AV.undef :: (AV.undef :: (AV.undef :: (AV.undef :: (AV.undef :: (AV.undef :: (AV.undef :: (AV.undef :: (AV.undef :: (AV.undef :: (AV.undef :: (AV.undef :: (AV.undef :: (AV.undef :: (AV.undef :: (AV.undef :: (AV.undef :: (AV.undef :: (AV.undef :: (AV.undef :: (AV.undef :: (AV.undef :: (AV.undef :: (AV.undef :: (AV.undef :: (AV.undef :: (AV.undef :: (AV.undef :: (AV.undef :: (AV.undef :: (AV.undef :: (AV.undef :: (AV.undef :: (AV.undef :: (AV.undef :: (AV.undef :: (AV.undef :: (AV.undef :: (AV.undef :: (AV.undef :: (AV.undef :: (AV.undef :: (AV.undef :: (AV.undef :: (AV.undef :: (AV.undef :: (AV.undef :: (AV.undef :: (AV.undef :: (AV.undef :: (AV.undef :: (AV.undef :: (AV.undef :: (AV.undef :: (AV.undef :: (AV.undef :: (AV.undef :: (AV.undef :: (AV.undef :: (AV.undef :: (AV.undef :: (AV.undef :: (AV.undef :: (AV.undef :: (AV.undef :: (AV.undef :: (AV.undef :: (AV.undef :: (AV.undef :: (AV.undef :: (AV.undef :: (AV.undef :: (AV.undef :: [])))))))))))))))))))))))))))))))))))))))))))))))))))))))))))))))))))))))))))))))))))))))))))))))))))))))))))))))))))))))))))))))))))))))))) ((1000000,(Ent.box ((SV.con (⟨37,(Ty.int Go.IntKind.i64).pair ((Ty.int Go.IntKind.i64).pair ((Ty.int Go.IntKind.i64).pair ((Ty.int Go.IntKind.i64).pair ((Ty.int Go.IntKind.i64).pair ((Ty.int Go.IntKind.i64).pair (Ty.bool.pair (Ty.str.pair (Ty.row (nat_lit 100) (Ty.str.pair (Ty.int Go.IntKind.i64)))))))))),x2⟩:Rw)) :: []))) :: ((1000001,(Ent.row (⟨3,Ty.int Go.IntKind.i64,x3⟩:Rw) 0 Option.none)) :: ((1000002,(Ent.row (⟨4,Ty.bool,x4⟩:Rw) 0 Option.none)) :: []))))
def sh63_L5 (x0:Int) (x1:List NT) (x2:List Int):St:=(St.mk (AV.undef :: ((AV.one (SV.bptr 1000000 0)) :: (AV.undef :: ((AV.one (SV.ref 1000001 0 [] Option.none)) :: ((AV.one (SV.int (Go.IntKind.i64) x0)) :: (AV.undef :: (AV.undef :: (AV.undef :: (AV.undef :: (AV.undef :: (AV.undef :: (AV.undef :: (AV.undef :: (AV.undef :: (AV.undef :: (AV.undef :: (AV.undef :: (AV.undef :: (AV.undef :: (AV.undef :: (AV.undef :: (AV.undef :: (AV.undef :: (AV.undef :: (AV.undef :: (AV.undef :: (AV.undef :: (AV.undef :: (AV.undef :: (AV.undef :: (AV.undef :: (AV.undef :: (AV.undef :: (AV.undef :: (AV.undef :: (AV.undef :: (AV.undef :: (AV.undef :: (AV.undef :: (AV.undef :: (AV.undef :: (AV.undef :: (AV.undef :: (AV.undef :: (AV.undef :: (AV.undef :: (AV.undef :: (AV.undef :: (AV.undef :: (AV.undef :: (AV.undef :: (AV.undef :: (AV.undef :: (AV.undef :: (AV.undef :: (AV.undef :: (AV.undef :: (AV.undef :: (AV.undef :: (AV.undef :: (AV.undef :: (AV.undef :: (AV.undef :: (AV.undef :: (AV.undef :: (AV.undef :: (AV.undef :: (AV.undef :: (AV.undef :: (AV.undef :: (AV.undef :: (AV.undef :: (AV.undef :: (AV.undef :: (AV.undef :: (AV.undef :: (AV.undef :: (AV.undef :: (AV.undef :: (AV.undef :: (AV.undef :: (AV.undef :: (AV.undef :: (AV.undef :: (AV.undef :: (AV.undef :: (AV.undef :: (AV.undef :: (AV.undef :: (AV.undef :: (AV.undef :: (AV.undef :: (AV.undef :: (AV.undef :: (AV.undef :: (AV.undef :: (AV.undef :: (AV.undef :: (AV.undef :: (AV.undef :: (AV.undef :: (AV.undef :: (AV.undef :: (AV.undef :: (AV.undef :: (AV.undef :: (AV.undef :: (AV.undef :: (AV.undef :: (AV.undef :: (AV.undef :: (AV.undef :: (AV.undef :: (AV.undef :: (AV.undef :: (AV.undef :: (AV.undef :: (AV.undef :: (AV.undef :: (AV.undef :: (AV.undef :: (AV.undef :: (AV.undef :: (AV.undef :: (AV.undef :: (AV.undef :: (AV.undef :: (AV.undef :: (AV.undef :: (AV.undef :: (AV.undef :: (AV.undef :: (AV.undef :: (AV.undef :: (AV.undef :: (AV.undef :: (AV.undef :: (AV.undef :: [])))))))))))))))))))))))))))))))))))))))))))))))))))))))))))))))))))))))))))))))))))))))))))))))))))))))))))))))))))))))))))))))))))))))))) ((1000000,(Ent.box ((SV.con (⟨37,(Ty.int Go.IntKind.i64).pair ((Ty.int Go.IntKind.i64).pair ((Ty.int Go.IntKind.i64).pair ((Ty.int Go.IntKind.i64).pair ((Ty.int Go.IntKind.i64).pair ((Ty.int Go.IntKind.i64).pair (Ty.bool.pair (Ty.str.pair (Ty.row (nat_lit 100) (Ty.str.pair (Ty.int Go.IntKind.i64)))))))))),x1⟩:Rw)) :: []))) :: ((1000001,(Ent.row (⟨3,Ty.int Go.IntKind.i64,x2⟩:Rw) 0 Option.none)) :: [])))
noncomputable def st63_top (n:Nat) (lL5:Int→(List NT)→(List Int)→Option R63) (a:List NT):Option R63 :=
 cond (!decide ((↑a.length:Int)=(10:Int))) (some ((false,()),())) (lL5 ((0:Int)) (a) (List.replicate (Int.toNat (10:Int)) (0:Int)))
noncomputable def st63_L10 (n:Nat) (lL10:Int→Int→(List NT)→(List Int)→Option R63) (lL5:Int→(List NT)→(List Int)→Option R63) (x0:Int) (x1:Int) (x2:List NT) (x3:List Int):Option R63 :=
 cond (decide ((0:Int)≤x0)) (cond (decide (x0 < (↑x2.length:Int))) (cond (decide (x1 < (↑(List.length (x2.getD x0.toNat ZN).2.2.2.2.2.2.2.2):Int))) (cond (decide ((0:Int)≤x0)) (cond (decide (x0 < (↑x2.length:Int))) (cond (decide ((0:Int)≤x1)) (cond (decide (x1 < (↑(List.length (x2.getD x0.toNat ZN).2.2.2.2.2.2.2.2):Int))) (cond (decide ((0:Int)≤x0)) (cond (decide (x0 < (↑x2.length:Int))) (cond (decide ((0:Int)≤x1)) (cond (decide (x1 < (↑(List.length (x2.getD x0.toNat ZN).2.2.2.2.2.2.2.2):Int))) (cond (decide ((0:Int)≤(List.getD (x2.getD x0.toNat ZN).2.2.2.2.2.2.2.2 x1.toNat (ByteArray.empty,(0:Int))).2)) (cond (decide ((List.getD (x2.getD x0.toNat ZN).2.2.2.2.2.2.2.2 x1.toNat (ByteArray.empty,(0:Int))).2 < (↑x3.length:Int))) (cond (decide ((0:Int)≤(List.getD (x2.getD x0.toNat ZN).2.2.2.2.2.2.2.2 x1.toNat (ByteArray.empty,(0:Int))).2)) (cond (decide ((List.getD (x2.getD x0.toNat ZN).2.2.2.2.2.2.2.2 x1.toNat (ByteArray.empty,(0:Int))).2 < (↑x3.length:Int))) (lL10 (x0) (Go.IntKind.i64.wrap (x1 + (1:Int))) (x2) (x3.set (Int.toNat (List.getD (x2.getD x0.toNat ZN).2.2.2.2.2.2.2.2 x1.toNat (ByteArray.empty,(0:Int))).2) (Go.IntKind.i64.wrap (x3.getD (Int.toNat (List.getD (x2.getD x0.toNat ZN).2.2.2.2.2.2.2.2 x1.toNat (ByteArray.empty,(0:Int))).2) (0:Int) + (1:Int))))) (none)) (none)) (none)) (none)) (none)) (none)) (none)) (none)) (none)) (none)) (none)) (none)) (lL5 (Go.IntKind.i64.wrap (x0 + (1:Int))) (x2) (x3))) (none)) (none)
noncomputable def st63_L17 (n:Nat) (lL17:Bool→Int→(List NT)→(List Int)→(List Bool)→Option R63) (x0:Bool) (x1:Int) (x2:List NT) (x3:List Int) (x4:List Bool):Option R63 :=
 cond (decide (x1 < (10:Int))) (cond (x0) (cond (decide ((0:Int)≤x1)) (cond (decide (x1 < (↑x2.length:Int))) (cond (decide ((0:Int)≤x1)) (cond (decide (x1 < (↑x3.length:Int))) (cond (decide ((0:Int) < x3.getD x1.toNat (0:Int))) (cond (decide ((x2.getD x1.toNat ZN).1=(0:Int))) (some ((false,()),())) (cond (!decide ((x2.getD x1.toNat ZN).1=(0:Int))) (cond (decide ((0:Int)≤x1)) (cond (decide (x1 < (↑x3.length:Int))) (cond (!decide ((x2.getD x1.toNat ZN).2.2.2.2.1=x3.getD x1.toNat (0:Int))) (some ((false,()),())) (cond (decide ((x2.getD x1.toNat ZN).1=(2:Int))) (cond (decide ((0:Int)≤x1)) (cond (decide (x1 < (↑x4.length:Int))) (cond (!x4.getD x1.toNat false) (some ((false,()),())) (cond (decide ((x2.getD x1.toNat ZN).1=(1:Int))) (cond (decide ((x2.getD x1.toNat ZN).2.2.2.2.1=(0:Int))) (cond (decide ((x2.getD x1.toNat ZN).2.2.2.2.2.1=(0:Int))) (some ((false,()),())) (lL17 (x0) (Go.IntKind.i64.wrap (x1 + (1:Int))) (x2) (x3) (x4))) (lL17 (x0) (Go.IntKind.i64.wrap (x1 + (1:Int))) (x2) (x3) (x4))) (lL17 (x0) (Go.IntKind.i64.wrap (x1 + (1:Int))) (x2) (x3) (x4)))) (none)) (none)) (cond (decide ((x2.getD x1.toNat ZN).1=(1:Int))) (cond (decide ((x2.getD x1.toNat ZN).2.2.2.2.1=(0:Int))) (cond (decide ((x2.getD x1.toNat ZN).2.2.2.2.2.1=(0:Int))) (some ((false,()),())) (lL17 (x0) (Go.IntKind.i64.wrap (x1 + (1:Int))) (x2) (x3) (x4))) (lL17 (x0) (Go.IntKind.i64.wrap (x1 + (1:Int))) (x2) (x3) (x4))) (lL17 (x0) (Go.IntKind.i64.wrap (x1 + (1:Int))) (x2) (x3) (x4))))) (none)) (none)) (cond (decide ((x2.getD x1.toNat ZN).1=(2:Int))) (cond (decide ((0:Int)≤x1)) (cond (decide (x1 < (↑x4.length:Int))) (cond (!x4.getD x1.toNat false) (some ((false,()),())) (cond (decide ((x2.getD x1.toNat ZN).1=(1:Int))) (cond (decide ((x2.getD x1.toNat ZN).2.2.2.2.1=(0:Int))) (cond (decide ((x2.getD x1.toNat ZN).2.2.2.2.2.1=(0:Int))) (some ((false,()),())) (lL17 (x0) (Go.IntKind.i64.wrap (x1 + (1:Int))) (x2) (x3) (x4))) (lL17 (x0) (Go.IntKind.i64.wrap (x1 + (1:Int))) (x2) (x3) (x4))) (lL17 (x0) (Go.IntKind.i64.wrap (x1 + (1:Int))) (x2) (x3) (x4)))) (none)) (none)) (cond (decide ((x2.getD x1.toNat ZN).1=(1:Int))) (cond (decide ((x2.getD x1.toNat ZN).2.2.2.2.1=(0:Int))) (cond (decide ((x2.getD x1.toNat ZN).2.2.2.2.2.1=(0:Int))) (some ((false,()),())) (lL17 (x0) (Go.IntKind.i64.wrap (x1 + (1:Int))) (x2) (x3) (x4))) (lL17 (x0) (Go.IntKind.i64.wrap (x1 + (1:Int))) (x2) (x3) (x4))) (lL17 (x0) (Go.IntKind.i64.wrap (x1 + (1:Int))) (x2) (x3) (x4)))))) (cond (!decide ((x2.getD x1.toNat ZN).1=(0:Int))) (cond (decide ((0:Int)≤x1)) (cond (decide (x1 < (↑x3.length:Int))) (cond (!decide ((x2.getD x1.toNat ZN).2.2.2.2.1=x3.getD x1.toNat (0:Int))) (some ((false,()),())) (cond (decide ((x2.getD x1.toNat ZN).1=(2:Int))) (cond (decide ((0:Int)≤x1)) (cond (decide (x1 < (↑x4.length:Int))) (cond (!x4.getD x1.toNat false) (some ((false,()),())) (cond (decide ((x2.getD x1.toNat ZN).1=(1:Int))) (cond (decide ((x2.getD x1.toNat ZN).2.2.2.2.1=(0:Int))) (cond (decide ((x2.getD x1.toNat ZN).2.2.2.2.2.1=(0:Int))) (some ((false,()),())) (lL17 (x0) (Go.IntKind.i64.wrap (x1 + (1:Int))) (x2) (x3) (x4))) (lL17 (x0) (Go.IntKind.i64.wrap (x1 + (1:Int))) (x2) (x3) (x4))) (lL17 (x0) (Go.IntKind.i64.wrap (x1 + (1:Int))) (x2) (x3) (x4)))) (none)) (none)) (cond (decide ((x2.getD x1.toNat ZN).1=(1:Int))) (cond (decide ((x2.getD x1.toNat ZN).2.2.2.2.1=(0:Int))) (cond (decide ((x2.getD x1.toNat ZN).2.2.2.2.2.1=(0:Int))) (some ((false,()),())) (lL17 (x0) (Go.IntKind.i64.wrap (x1 + (1:Int))) (x2) (x3) (x4))) (lL17 (x0) (Go.IntKind.i64.wrap (x1 + (1:Int))) (x2) (x3) (x4))) (lL17 (x0) (Go.IntKind.i64.wrap (x1 + (1:Int))) (x2) (x3) (x4))))) (none)) (none)) (cond (decide ((x2.getD x1.toNat ZN).1=(2:Int))) (cond (decide ((0:Int)≤x1)) (cond (decide (x1 < (↑x4.length:Int))) (cond (!x4.getD x1.toNat false) (some ((false,()),())) (cond (decide ((x2.getD x1.toNat ZN).1=(1:Int))) (cond (decide ((x2.getD x1.toNat ZN).2.2.2.2.1=(0:Int))) (cond (decide ((x2.getD x1.toNat ZN).2.2.2.2.2.1=(0:Int))) (some ((false,()),())) (lL17 (x0) (Go.IntKind.i64.wrap (x1 + (1:Int))) (x2) (x3) (x4))) (lL17 (x0) (Go.IntKind.i64.wrap (x1 + (1:Int))) (x2) (x3) (x4))) (lL17 (x0) (Go.IntKind.i64.wrap (x1 + (1:Int))) (x2) (x3) (x4)))) (none)) (none)) (cond (decide ((x2.getD x1.toNat ZN).1=(1:Int))) (cond (decide ((x2.getD x1.toNat ZN).2.2.2.2.1=(0:Int))) (cond (decide ((x2.getD x1.toNat ZN).2.2.2.2.2.1=(0:Int))) (some ((false,()),())) (lL17 (x0) (Go.IntKind.i64.wrap (x1 + (1:Int))) (x2) (x3) (x4))) (lL17 (x0) (Go.IntKind.i64.wrap (x1 + (1:Int))) (x2) (x3) (x4))) (lL17 (x0) (Go.IntKind.i64.wrap (x1 + (1:Int))) (x2) (x3) (x4)))))) (none)) (none)) (none)) (none)) (some ((x0,()),()))) (some ((x0,()),()))
noncomputable def st63_L5 (n:Nat) (lL10:Int→Int→(List NT)→(List Int)→Option R63) (lL17:Bool→Int→(List NT)→(List Int)→(List Bool)→Option R63) (x0:Int) (x1:List NT) (x2:List Int):Option R63 :=
 cond (decide (x0 < (10:Int))) (cond (decide ((0:Int)≤x0)) (cond (decide (x0 < (↑x1.length:Int))) ((q116 n (((x1.getD x0.toNat ZN).1,(x1.getD x0.toNat ZN).2.1,(x1.getD x0.toNat ZN).2.2.1,(x1.getD x0.toNat ZN).2.2.2.1,(x1.getD x0.toNat ZN).2.2.2.2.1,(x1.getD x0.toNat ZN).2.2.2.2.2.1,(x1.getD x0.toNat ZN).2.2.2.2.2.2.1,(x1.getD x0.toNat ZN).2.2.2.2.2.2.2.1,(x1.getD x0.toNat ZN).2.2.2.2.2.2.2.2),())).bind fun r1=>cond (!r1.1.1) (some ((false,()),())) (lL10 (x0) ((0:Int)) (x1) (x2))) (none)) (none)) (cond (decide ((0:Int) < (↑x1.length:Int))) (cond (!decide ((x1.getD (Int.toNat (0:Int)) ZN).1=(2:Int))) (some ((false,()),())) ((q117 n (x1,())).bind fun r3=>lL17 (r3.1.2.1) ((0:Int)) (x1) (x2) (r3.1.1))) (none))
theorem e63_top (n:Nat) (a:List NT):runF TT G63 an63 Try.f63 c63 ps63 rs63 n (a,())=st63_top n (fun x0 x1 x2=>at63 n (.head 5) [n] (sh63_L5 x0 x1 x2)) a:=by kernel_rfl
theorem e63_L10_0 (n:Nat) (m5:Nat) (x0:Int) (x1:Int) (x2:List NT) (x3:List Int):at63 n (.head 10) [m5,0] (sh63_L10 x0 x1 x2 x3)=none:=by kernel_rfl
theorem e63_L10 (n:Nat) (m5:Nat) (m10:Nat) (x0:Int) (x1:Int) (x2:List NT) (x3:List Int):at63 n (.head 10) [m5,m10 + 1] (sh63_L10 x0 x1 x2 x3)=st63_L10 n (fun x0 x1 x2 x3=>at63 n (.head 10) [m5,m10] (sh63_L10 x0 x1 x2 x3)) (fun x0 x1 x2=>at63 n (.head 5) [m5] (sh63_L5 x0 x1 x2)) x0 x1 x2 x3:=by kernel_rfl
theorem e63_L17_0 (n:Nat) (x0:Bool) (x1:Int) (x2:List NT) (x3:List Int) (x4:List Bool):at63 n (.head 17) [0] (sh63_L17 x0 x1 x2 x3 x4)=none:=by kernel_rfl
theorem e63_L17 (n:Nat) (m17:Nat) (x0:Bool) (x1:Int) (x2:List NT) (x3:List Int) (x4:List Bool):at63 n (.head 17) [m17 + 1] (sh63_L17 x0 x1 x2 x3 x4)=st63_L17 n (fun x0 x1 x2 x3 x4=>at63 n (.head 17) [m17] (sh63_L17 x0 x1 x2 x3 x4)) x0 x1 x2 x3 x4:=by kernel_rfl
theorem e63_L5_0 (n:Nat) (x0:Int) (x1:List NT) (x2:List Int):at63 n (.head 5) [0] (sh63_L5 x0 x1 x2)=none:=by kernel_rfl
theorem e63_L5 (n:Nat) (m5:Nat) (x0:Int) (x1:List NT) (x2:List Int):at63 n (.head 5) [m5 + 1] (sh63_L5 x0 x1 x2)=st63_L5 n (fun x0 x1 x2 x3=>at63 n (.head 10) [m5,n] (sh63_L10 x0 x1 x2 x3)) (fun x0 x1 x2 x3 x4=>at63 n (.head 17) [n] (sh63_L17 x0 x1 x2 x3 x4)) x0 x1 x2:=by kernel_rfl
noncomputable def p63_L10 (g5:Int→(List NT)→(List Int)→Option R63) (n:Nat):Nat→Int→Int→(List NT)→(List Int)→Option R63
 | 0,_,_,_,_=>none
 | m + 1,x0,x1,x2,x3=>st63_L10 n (p63_L10 g5 n m) g5 x0 x1 x2 x3
noncomputable def p63_L17 (n:Nat):Nat→Bool→Int→(List NT)→(List Int)→(List Bool)→Option R63
 | 0,_,_,_,_,_=>none
 | m + 1,x0,x1,x2,x3,x4=>st63_L17 n (p63_L17 n m) x0 x1 x2 x3 x4
noncomputable def p63_L5 (n:Nat):Nat→Int→(List NT)→(List Int)→Option R63
 | 0,_,_,_=>none
 | m + 1,x0,x1,x2=>st63_L5 n (p63_L10 (p63_L5 n m) n n) (p63_L17 n n) x0 x1 x2
noncomputable def p63 (n:Nat) (a:List NT):Option R63:=st63_top n (p63_L5 n n) a
theorem t63_L10 (n:Nat) (m5:Nat):∀ (m10:Nat) (x0:Int) (x1:Int) (x2:List NT) (x3:List Int),at63 n (.head 10) [m5,m10] (sh63_L10 x0 x1 x2 x3)=p63_L10 (fun x0 x1 x2=>at63 n (.head 5) [m5] (sh63_L5 x0 x1 x2)) n m10 x0 x1 x2 x3:=by
 intro m
 induction m with
 | zero=>intros; rw [e63_L10_0]; rfl
 | succ m ih =>
  intros
  rw [e63_L10]
  try simp only [ih]
  rfl
theorem t63_L17 (n:Nat):∀ (m17:Nat) (x0:Bool) (x1:Int) (x2:List NT) (x3:List Int) (x4:List Bool),at63 n (.head 17) [m17] (sh63_L17 x0 x1 x2 x3 x4)=p63_L17 n m17 x0 x1 x2 x3 x4:=by
 intro m
 induction m with
 | zero=>intros; rw [e63_L17_0]; rfl
 | succ m ih =>
  intros
  rw [e63_L17]
  try simp only [ih]
  rfl
theorem t63_L5 (n:Nat):∀ (m5:Nat) (x0:Int) (x1:List NT) (x2:List Int),at63 n (.head 5) [m5] (sh63_L5 x0 x1 x2)=p63_L5 n m5 x0 x1 x2:=by
 intro m
 induction m with
 | zero=>intros; rw [e63_L5_0]; rfl
 | succ m ih =>
  intros
  rw [e63_L5]
  try simp only [t63_L10,t63_L17,ih]
  rfl
theorem F63_eq (n:Nat) (a:List NT):runF TT G63 an63 Try.f63 c63 ps63 rs63 n (a,())=p63 n a:=by
 rw [e63_top]
 simp only [t63_L5]
 try rfl
noncomputable def q63 (n:Nat) (x:argsD ps63):Option R63:=p63 n x.1
noncomputable def Sm63:Sm:=⟨ps63,rs63,false,q63⟩
theorem holds63 (hg:GamOK Try.prog G63):Holds Try.prog 63 Sm63:=by
 have:=h0_63 hg
 have e:(runF TT G63 an63 Try.f63 c63 ps63 rs63)=q63:=by
  funext n x
  exact F63_eq n x.1
 rw [e] at this
 exact this
theorem gam63:GamOK Try.prog G63:=by
 intro f s h
 unfold G63 at h
 split at h
 ·injection h with h; subst h; exact ⟨⟨Try.f116,c116,Try.func116,by kernel_rfl,by decide +kernel⟩,hh116⟩
 ·injection h with h; subst h; exact ⟨⟨Try.f117,c117,Try.func117,by kernel_rfl,by decide +kernel⟩,hh117⟩
 ·cases h
theorem hh63:Holds Try.prog 63 Sm63:=holds63 gam63
end Go.Proofs.Ytbjgiioppmkpiaa.Rx.S

namespace Go.Proofs.Ytbjgiioppmkpiaa.Rx.S
open Go Go.RowKit Go.Proofs
set_option maxRecDepth 100000
noncomputable def c64:Code:=(Try.f64.body.getD .skip)
def an64:An:=⟨fun r=>match r with | 2=>⟨[1,3],[]⟩ | _=>⟨[],[]⟩,fun _ _=>none⟩
abbrev ps64:List PK:=[.val tCr true]
abbrev rs64:List RK:=[.val .bool false]
abbrev R64:=retsD rs64 × outsD ps64
noncomputable def G64:Gam:=fun f=>match f with | 118=>some Sm118 | _=>none
theorem h0_64 (hg:GamOK Try.prog G64):Holds Try.prog 64 ⟨ps64,rs64,false,runF TT G64 an64 Try.f64 c64 ps64 rs64⟩:=holds_of tt_ok hg mixed Try.func64 (by kernel_rfl) (by rfl) (by decide +kernel)
noncomputable def at64:Nat→Pt→List Nat→St→Option R64:=atF TT G64 an64 Try.f64 c64 _ _
def sh64_L2 (x0:Int) (x1:Int) (x2:Int) (x3:List Int):St:=(St.mk (AV.undef :: ((AV.one (SV.bptr 1000000 0)) :: (AV.undef :: ((AV.one (SV.int (Go.IntKind.i64) x0)) :: (AV.undef :: (AV.undef :: (AV.undef :: (AV.undef :: (AV.undef :: (AV.undef :: (AV.undef :: (AV.undef :: (AV.undef :: (AV.undef :: (AV.undef :: (AV.undef :: (AV.undef :: (AV.undef :: (AV.undef :: (AV.undef :: (AV.undef :: (AV.undef :: (AV.undef :: (AV.undef :: (AV.undef :: (AV.undef :: (AV.undef :: (AV.undef :: (AV.undef :: (AV.undef :: (AV.undef :: (AV.undef :: (AV.undef :: (AV.undef :: (AV.undef :: (AV.undef :: (AV.undef :: (AV.undef :: (AV.undef :: (AV.undef :: (AV.undef :: (AV.undef :: (AV.undef :: (AV.undef :: (AV.undef :: (AV.undef :: (AV.undef :: (AV.undef :: (AV.undef :: (AV.undef :: [])))))))))))))))))))))))))))))))))))))))))))))))))) ((1000000,(Ent.box ((SV.int (Go.IntKind.i64) x1) :: ((SV.int (Go.IntKind.i64) x2) :: ((SV.con (⟨3,Ty.int Go.IntKind.i64,x3⟩:Rw)) :: []))))) :: []))
noncomputable def st64_top (n:Nat) (lL2:Int→Int→Int→(List Int)→Option R64) (a:Int × Int × List Int):Option R64 :=
 lL2 ((0:Int)) (a.1) (a.2.1) (a.2.2)
noncomputable def st64_L2 (n:Nat) (lL2:Int→Int→Int→(List Int)→Option R64) (x0:Int) (x1:Int) (x2:Int) (x3:List Int):Option R64 :=
 cond (decide (x0 < (↑x3.length:Int))) (cond (decide ((0:Int)≤x0)) (cond (decide (x0 < (↑x3.length:Int))) ((q118 n (x3.getD x0.toNat (0:Int),())).bind fun r1=>cond (!r1.1.1) (some ((false,()),())) (cond (decide ((0:Int) < x0)) (cond (decide ((0:Int)≤Go.IntKind.i64.wrap (x0 - (1:Int)))) (cond (decide (Go.IntKind.i64.wrap (x0 - (1:Int)) < (↑x3.length:Int))) (cond (decide ((0:Int)≤x0)) (cond (decide (x0 < (↑x3.length:Int))) (cond (decide (x3.getD x0.toNat (0:Int)≤x3.getD (Go.IntKind.i64.wrap (x0 - (1:Int))).toNat (0:Int))) (some ((false,()),())) (lL2 (Go.IntKind.i64.wrap (x0 + (1:Int))) (x1) (x2) (x3))) (none)) (none)) (none)) (none)) (lL2 (Go.IntKind.i64.wrap (x0 + (1:Int))) (x1) (x2) (x3)))) (none)) (none)) ((q118 n (x1,())).bind fun r2=>cond (r2.1.1) ((q118 n (x2,())).bind fun r3=>cond (r3.1.1) (some ((decide ((↑x3.length:Int)≤(3:Int)),()),())) (some ((false,()),()))) (some ((false,()),())))
theorem e64_top (n:Nat) (a:Int × Int × List Int):runF TT G64 an64 Try.f64 c64 ps64 rs64 n (a,())=st64_top n (fun x0 x1 x2 x3=>at64 n (.head 2) [n] (sh64_L2 x0 x1 x2 x3)) a:=by kernel_rfl
theorem e64_L2_0 (n:Nat) (x0:Int) (x1:Int) (x2:Int) (x3:List Int):at64 n (.head 2) [0] (sh64_L2 x0 x1 x2 x3)=none:=by kernel_rfl
theorem e64_L2 (n:Nat) (m2:Nat) (x0:Int) (x1:Int) (x2:Int) (x3:List Int):at64 n (.head 2) [m2 + 1] (sh64_L2 x0 x1 x2 x3)=st64_L2 n (fun x0 x1 x2 x3=>at64 n (.head 2) [m2] (sh64_L2 x0 x1 x2 x3)) x0 x1 x2 x3:=by kernel_rfl
noncomputable def p64_L2 (n:Nat):Nat→Int→Int→Int→(List Int)→Option R64
 | 0,_,_,_,_=>none
 | m + 1,x0,x1,x2,x3=>st64_L2 n (p64_L2 n m) x0 x1 x2 x3
noncomputable def p64 (n:Nat) (a:Int × Int × List Int):Option R64:=st64_top n (p64_L2 n n) a
theorem t64_L2 (n:Nat):∀ (m2:Nat) (x0:Int) (x1:Int) (x2:Int) (x3:List Int),at64 n (.head 2) [m2] (sh64_L2 x0 x1 x2 x3)=p64_L2 n m2 x0 x1 x2 x3:=by
 intro m
 induction m with
 | zero=>intros; rw [e64_L2_0]; rfl
 | succ m ih =>
  intros
  rw [e64_L2]
  try simp only [ih]
  rfl
theorem F64_eq (n:Nat) (a:Int × Int × List Int):runF TT G64 an64 Try.f64 c64 ps64 rs64 n (a,())=p64 n a:=by
 rw [e64_top]
 simp only [t64_L2]
 try rfl
noncomputable def q64 (n:Nat) (x:argsD ps64):Option R64:=p64 n x.1
noncomputable def Sm64:Sm:=⟨ps64,rs64,false,q64⟩
theorem holds64 (hg:GamOK Try.prog G64):Holds Try.prog 64 Sm64:=by
 have:=h0_64 hg
 have e:(runF TT G64 an64 Try.f64 c64 ps64 rs64)=q64:=by
  funext n x
  exact F64_eq n x.1
 rw [e] at this
 exact this
theorem gam64:GamOK Try.prog G64:=by
 intro f s h
 unfold G64 at h
 split at h
 ·injection h with h; subst h; exact ⟨⟨Try.f118,c118,Try.func118,by kernel_rfl,by decide +kernel⟩,hh118⟩
 ·cases h
theorem hh64:Holds Try.prog 64 Sm64:=holds64 gam64
end Go.Proofs.Ytbjgiioppmkpiaa.Rx.S

namespace Go.Proofs.Ytbjgiioppmkpiaa.Rx.S
open Go Go.RowKit Go.Proofs
set_option maxRecDepth 100000
noncomputable def c136:Code:=(Try.f136.body.getD .skip)
def an136:An:=⟨fun r=>match r with | 4=>⟨[0,3],[]⟩ | _=>⟨[],[]⟩,fun _ _=>none⟩
abbrev ps136:List PK:=[.val i64 false]
abbrev rs136:List RK:=[.val .str false]
abbrev R136:=retsD rs136 × outsD ps136
noncomputable def G136:Gam:=fun _=>none
theorem h0_136 (hg:GamOK Try.prog G136):Holds Try.prog 136 ⟨ps136,rs136,false,runF TT G136 an136 Try.f136 c136 ps136 rs136⟩:=holds_of tt_ok hg mixed Try.func136 (by kernel_rfl) (by rfl) (by decide +kernel)
noncomputable def at136:Nat→Pt→List Nat→St→Option R136:=atF TT G136 an136 Try.f136 c136 _ _
def sh136_L4 (x0:Int) (x1:ByteArray):St:=(St.mk ((AV.one (SV.int (Go.IntKind.i64) x0)) :: (AV.undef :: (AV.undef :: ((AV.one (SV.str x1)) :: (AV.undef :: (AV.undef :: (AV.undef :: (AV.undef :: (AV.undef :: (AV.undef :: (AV.undef :: (AV.undef :: (AV.undef :: (AV.undef :: (AV.undef :: (AV.undef :: (AV.undef :: (AV.undef :: (AV.undef :: (AV.undef :: [])))))))))))))))))))) [])
noncomputable def st136_top (n:Nat) (lL4:Int→ByteArray→Option R136) (a:Int):Option R136 :=
 cond (decide (a≤(0:Int))) (some ((ByteArray.mk #[(109:UInt8),(48:UInt8)],()),())) (lL4 (a) (ByteArray.mk #[]))
noncomputable def st136_L4 (n:Nat) (lL4:Int→ByteArray→Option R136) (x0:Int) (x1:ByteArray):Option R136 :=
 cond (decide ((0:Int) < x0)) (cond (decide ((List.foldl (fun r n=>r.push (UInt8.ofNat n.toNat)) ByteArray.empty [Go.IntKind.u8.wrap (Go.IntKind.i64.wrap ((48:Int) + x0.tmod (10:Int)))]).size + x1.size≤(9223372036854775807:Nat))) (lL4 (Go.IntKind.i64.wrap (x0.tdiv (10:Int))) (List.foldl (fun r n=>r.push (UInt8.ofNat n.toNat)) ByteArray.empty [Go.IntKind.u8.wrap (Go.IntKind.i64.wrap ((48:Int) + x0.tmod (10:Int)))] ++ x1)) (none)) (cond (decide ((ByteArray.mk #[(109:UInt8)]).size + x1.size≤(9223372036854775807:Nat))) (some ((ByteArray.mk #[(109:UInt8)] ++ x1,()),())) (none))
theorem e136_top (n:Nat) (a:Int):runF TT G136 an136 Try.f136 c136 ps136 rs136 n (a,())=st136_top n (fun x0 x1=>at136 n (.head 4) [n] (sh136_L4 x0 x1)) a:=by kernel_rfl
theorem e136_L4_0 (n:Nat) (x0:Int) (x1:ByteArray):at136 n (.head 4) [0] (sh136_L4 x0 x1)=none:=by kernel_rfl
theorem e136_L4 (n:Nat) (m4:Nat) (x0:Int) (x1:ByteArray):at136 n (.head 4) [m4 + 1] (sh136_L4 x0 x1)=st136_L4 n (fun x0 x1=>at136 n (.head 4) [m4] (sh136_L4 x0 x1)) x0 x1:=by kernel_rfl
noncomputable def p136_L4 (n:Nat):Nat→Int→ByteArray→Option R136
 | 0,_,_=>none
 | m + 1,x0,x1=>st136_L4 n (p136_L4 n m) x0 x1
noncomputable def p136 (n:Nat) (a:Int):Option R136:=st136_top n (p136_L4 n n) a
theorem t136_L4 (n:Nat):∀ (m4:Nat) (x0:Int) (x1:ByteArray),at136 n (.head 4) [m4] (sh136_L4 x0 x1)=p136_L4 n m4 x0 x1:=by
 intro m
 induction m with
 | zero=>intros; rw [e136_L4_0]; rfl
 | succ m ih =>
  intros
  rw [e136_L4]
  try simp only [ih]
  rfl
theorem F136_eq (n:Nat) (a:Int):runF TT G136 an136 Try.f136 c136 ps136 rs136 n (a,())=p136 n a:=by
 rw [e136_top]
 simp only [t136_L4]
 try rfl
noncomputable def q136 (n:Nat) (x:argsD ps136):Option R136:=p136 n x.1
noncomputable def Sm136:Sm:=⟨ps136,rs136,false,q136⟩
theorem holds136 (hg:GamOK Try.prog G136):Holds Try.prog 136 Sm136:=by
 have:=h0_136 hg
 have e:(runF TT G136 an136 Try.f136 c136 ps136 rs136)=q136:=by
  funext n x
  exact F136_eq n x.1
 rw [e] at this
 exact this
theorem gam136:GamOK Try.prog G136:=fun _ _ h=>by cases h
theorem hh136:Holds Try.prog 136 Sm136:=holds136 gam136
end Go.Proofs.Ytbjgiioppmkpiaa.Rx.S

namespace Go.Proofs.Ytbjgiioppmkpiaa.Rx.S
open Go Go.RowKit Go.Proofs
set_option maxRecDepth 100000
noncomputable def c138:Code:=(Try.f138.body.getD .skip)
def an138:An:=⟨fun r=>match r with | 2=>⟨[0,1,5],[]⟩ | _=>⟨[],[]⟩,fun _ _=>none⟩
abbrev ps138:List PK:=[.val (.row 100 tEn) false,.val i64 false]
abbrev rs138:List RK:=[.val i64 false]
abbrev R138:=retsD rs138 × outsD ps138
noncomputable def G138:Gam:=fun f=>match f with | 136=>some Sm136 | _=>none
theorem h0_138 (hg:GamOK Try.prog G138):Holds Try.prog 138 ⟨ps138,rs138,false,runF TT G138 an138 Try.f138 c138 ps138 rs138⟩:=holds_of tt_ok hg mixed Try.func138 (by kernel_rfl) (by rfl) (by decide +kernel)
noncomputable def at138:Nat→Pt→List Nat→St→Option R138:=atF TT G138 an138 Try.f138 c138 _ _
def sh138_L2 (x0:List (ByteArray × Int)) (x1:Int) (x2:Int):St:=(St.mk ((AV.one (SV.con (⟨100,Ty.str.pair (Ty.int Go.IntKind.i64),x0⟩:Rw))) :: ((AV.one (SV.int (Go.IntKind.i64) x1)) :: (AV.undef :: (AV.undef :: (AV.undef :: ((AV.one (SV.int (Go.IntKind.i64) x2)) :: (AV.undef :: (AV.undef :: (AV.undef :: (AV.undef :: (AV.undef :: (AV.undef :: (AV.undef :: (AV.undef :: (AV.undef :: (AV.undef :: (AV.undef :: (AV.undef :: (AV.undef :: (AV.undef :: (AV.undef :: (AV.undef :: (AV.undef :: (AV.undef :: (AV.undef :: (AV.undef :: (AV.undef :: (AV.undef :: (AV.undef :: (AV.undef :: (AV.undef :: (AV.undef :: [])))))))))))))))))))))))))))))))) [])
noncomputable def st138_top (n:Nat) (lL2:(List (ByteArray × Int))→Int→Int→Option R138) (a:List (ByteArray × Int)) (b:Int):Option R138 :=
 lL2 (a) (b) ((0:Int))
noncomputable def st138_L2 (n:Nat) (lL2:(List (ByteArray × Int))→Int→Int→Option R138) (x0:List (ByteArray × Int)) (x1:Int) (x2:Int):Option R138 :=
 cond (decide (x2 < (↑x0.length:Int))) (cond (decide ((0:Int)≤x2)) (cond (decide (x2 < (↑x0.length:Int))) ((q136 n (x1,())).bind fun r1=>cond (!ByteArray.toList (x0.getD x2.toNat (ByteArray.empty,(0:Int))).1 == ByteArray.toList r1.1.1) (some (((-1:Int),()),())) (cond (decide ((0:Int)≤x2)) (cond (decide (x2 < (↑x0.length:Int))) (cond (!decide ((x0.getD x2.toNat (ByteArray.empty,(0:Int))).2=Go.IntKind.i64.wrap (x1 + (1:Int)))) (some (((-1:Int),()),())) (lL2 (x0) (Go.IntKind.i64.wrap (Go.IntKind.i64.wrap (x1 + (1:Int)) + (1:Int))) (Go.IntKind.i64.wrap (x2 + (1:Int))))) (none)) (none))) (none)) (none)) (some ((x1,()),()))
theorem e138_top (n:Nat) (a:List (ByteArray × Int)) (b:Int):runF TT G138 an138 Try.f138 c138 ps138 rs138 n (a,b,())=st138_top n (fun x0 x1 x2=>at138 n (.head 2) [n] (sh138_L2 x0 x1 x2)) a b:=by kernel_rfl
theorem e138_L2_0 (n:Nat) (x0:List (ByteArray × Int)) (x1:Int) (x2:Int):at138 n (.head 2) [0] (sh138_L2 x0 x1 x2)=none:=by kernel_rfl
theorem e138_L2 (n:Nat) (m2:Nat) (x0:List (ByteArray × Int)) (x1:Int) (x2:Int):at138 n (.head 2) [m2 + 1] (sh138_L2 x0 x1 x2)=st138_L2 n (fun x0 x1 x2=>at138 n (.head 2) [m2] (sh138_L2 x0 x1 x2)) x0 x1 x2:=by kernel_rfl
noncomputable def p138_L2 (n:Nat):Nat→(List (ByteArray × Int))→Int→Int→Option R138
 | 0,_,_,_=>none
 | m + 1,x0,x1,x2=>st138_L2 n (p138_L2 n m) x0 x1 x2
noncomputable def p138 (n:Nat) (a:List (ByteArray × Int)) (b:Int):Option R138:=st138_top n (p138_L2 n n) a b
theorem t138_L2 (n:Nat):∀ (m2:Nat) (x0:List (ByteArray × Int)) (x1:Int) (x2:Int),at138 n (.head 2) [m2] (sh138_L2 x0 x1 x2)=p138_L2 n m2 x0 x1 x2:=by
 intro m
 induction m with
 | zero=>intros; rw [e138_L2_0]; rfl
 | succ m ih =>
  intros
  rw [e138_L2]
  try simp only [ih]
  rfl
theorem F138_eq (n:Nat) (a:List (ByteArray × Int)) (b:Int):runF TT G138 an138 Try.f138 c138 ps138 rs138 n (a,b,())=p138 n a b:=by
 rw [e138_top]
 simp only [t138_L2]
 try rfl
noncomputable def q138 (n:Nat) (x:argsD ps138):Option R138:=p138 n x.1 x.2.1
noncomputable def Sm138:Sm:=⟨ps138,rs138,false,q138⟩
theorem holds138 (hg:GamOK Try.prog G138):Holds Try.prog 138 Sm138:=by
 have:=h0_138 hg
 have e:(runF TT G138 an138 Try.f138 c138 ps138 rs138)=q138:=by
  funext n x
  exact F138_eq n x.1 x.2.1
 rw [e] at this
 exact this
theorem gam138:GamOK Try.prog G138:=by
 intro f s h
 unfold G138 at h
 split at h
 ·injection h with h; subst h; exact ⟨⟨Try.f136,c136,Try.func136,by kernel_rfl,by decide +kernel⟩,hh136⟩
 ·cases h
theorem hh138:Holds Try.prog 138 Sm138:=holds138 gam138
end Go.Proofs.Ytbjgiioppmkpiaa.Rx.S

namespace Go.Proofs.Ytbjgiioppmkpiaa.Rx.S
open Go Go.RowKit Go.Proofs
set_option maxRecDepth 100000
noncomputable def c100:Code:=(Try.f100.body.getD .skip)
def an100:An:=⟨fun r=>match r with | 2=>⟨[0,1,5],[]⟩ | _=>⟨[],[]⟩,fun _ _=>none⟩
abbrev ps100:List PK:=[.val tFs false,.val i64 false]
abbrev rs100:List RK:=[.val i64 false]
abbrev R100:=retsD rs100 × outsD ps100
noncomputable def G100:Gam:=fun f=>match f with | 136=>some Sm136 | 138=>some Sm138 | _=>none
theorem h0_100 (hg:GamOK Try.prog G100):Holds Try.prog 100 ⟨ps100,rs100,false,runF TT G100 an100 Try.f100 c100 ps100 rs100⟩:=holds_of tt_ok hg mixed Try.func100 (by kernel_rfl) (by rfl) (by decide +kernel)
noncomputable def at100:Nat→Pt→List Nat→St→Option R100:=atF TT G100 an100 Try.f100 c100 _ _
def sh100_L2 (x0:List NT) (x1:Int) (x2:Int):St:=(St.mk ((AV.one (SV.con (⟨37,(Ty.int Go.IntKind.i64).pair ((Ty.int Go.IntKind.i64).pair ((Ty.int Go.IntKind.i64).pair ((Ty.int Go.IntKind.i64).pair ((Ty.int Go.IntKind.i64).pair ((Ty.int Go.IntKind.i64).pair (Ty.bool.pair (Ty.str.pair (Ty.row (nat_lit 100) (Ty.str.pair (Ty.int Go.IntKind.i64)))))))))),x0⟩:Rw))) :: ((AV.one (SV.int (Go.IntKind.i64) x1)) :: (AV.undef :: (AV.undef :: (AV.undef :: ((AV.one (SV.int (Go.IntKind.i64) x2)) :: (AV.undef :: (AV.undef :: (AV.undef :: (AV.undef :: (AV.undef :: (AV.undef :: (AV.undef :: (AV.undef :: (AV.undef :: (AV.undef :: (AV.undef :: (AV.undef :: (AV.undef :: (AV.undef :: (AV.undef :: (AV.undef :: (AV.undef :: (AV.undef :: (AV.undef :: (AV.undef :: (AV.undef :: (AV.undef :: (AV.undef :: (AV.undef :: (AV.undef :: (AV.undef :: (AV.undef :: (AV.undef :: (AV.undef :: (AV.undef :: (AV.undef :: (AV.undef :: (AV.undef :: (AV.undef :: (AV.undef :: (AV.undef :: (AV.undef :: (AV.undef :: (AV.undef :: (AV.undef :: (AV.undef :: (AV.undef :: (AV.undef :: (AV.undef :: (AV.undef :: (AV.undef :: (AV.undef :: (AV.undef :: (AV.undef :: (AV.undef :: (AV.undef :: (AV.undef :: (AV.undef :: (AV.undef :: (AV.undef :: (AV.undef :: (AV.undef :: (AV.undef :: (AV.undef :: (AV.undef :: (AV.undef :: (AV.undef :: (AV.undef :: (AV.undef :: (AV.undef :: (AV.undef :: (AV.undef :: (AV.undef :: (AV.undef :: (AV.undef :: (AV.undef :: (AV.undef :: (AV.undef :: (AV.undef :: (AV.undef :: (AV.undef :: (AV.undef :: (AV.undef :: (AV.undef :: (AV.undef :: (AV.undef :: (AV.undef :: (AV.undef :: (AV.undef :: (AV.undef :: (AV.undef :: (AV.undef :: (AV.undef :: (AV.undef :: (AV.undef :: (AV.undef :: []))))))))))))))))))))))))))))))))))))))))))))))))))))))))))))))))))))))))))))))))))))))))))))))))) [])
noncomputable def st100_top (n:Nat) (lL2:(List NT)→Int→Int→Option R100) (a:List NT) (b:Int):Option R100 :=
 lL2 (a) (b) ((0:Int))
noncomputable def st100_L2 (n:Nat) (lL2:(List NT)→Int→Int→Option R100) (x0:List NT) (x1:Int) (x2:Int):Option R100 :=
 cond (decide (x2 < (↑x0.length:Int))) (cond (decide ((0:Int)≤x2)) (cond (decide (x2 < (↑x0.length:Int))) (cond (!decide ((x0.getD x2.toNat ZN).1=x1)) (some (((-1:Int),()),())) (cond (decide ((0:Int)≤x2)) (cond (decide (x2 < (↑x0.length:Int))) (cond (!decide ((x0.getD x2.toNat ZN).2.1=Go.IntKind.i64.wrap (x1 + (1:Int)))) (some (((-1:Int),()),())) (cond (decide ((0:Int)≤x2)) (cond (decide (x2 < (↑x0.length:Int))) (cond (!decide ((x0.getD x2.toNat ZN).2.2.1=Go.IntKind.i64.wrap (Go.IntKind.i64.wrap (x1 + (1:Int)) + (1:Int)))) (some (((-1:Int),()),())) (cond (decide ((0:Int)≤x2)) (cond (decide (x2 < (↑x0.length:Int))) (cond (!decide ((x0.getD x2.toNat ZN).2.2.2.1=Go.IntKind.i64.wrap (Go.IntKind.i64.wrap (Go.IntKind.i64.wrap (x1 + (1:Int)) + (1:Int)) + (1:Int)))) (some (((-1:Int),()),())) (cond (decide ((0:Int)≤x2)) (cond (decide (x2 < (↑x0.length:Int))) (cond (!decide ((x0.getD x2.toNat ZN).2.2.2.2.1=Go.IntKind.i64.wrap (Go.IntKind.i64.wrap (Go.IntKind.i64.wrap (Go.IntKind.i64.wrap (x1 + (1:Int)) + (1:Int)) + (1:Int)) + (1:Int)))) (some (((-1:Int),()),())) (cond (decide ((0:Int)≤x2)) (cond (decide (x2 < (↑x0.length:Int))) (cond (!decide ((x0.getD x2.toNat ZN).2.2.2.2.2.1=Go.IntKind.i64.wrap (Go.IntKind.i64.wrap (Go.IntKind.i64.wrap (Go.IntKind.i64.wrap (Go.IntKind.i64.wrap (x1 + (1:Int)) + (1:Int)) + (1:Int)) + (1:Int)) + (1:Int)))) (some (((-1:Int),()),())) (cond (decide ((0:Int)≤x2)) (cond (decide (x2 < (↑x0.length:Int))) (cond (!(x0.getD x2.toNat ZN).2.2.2.2.2.2.1 == decide ((Go.IntKind.i64.wrap (Go.IntKind.i64.wrap (Go.IntKind.i64.wrap (Go.IntKind.i64.wrap (Go.IntKind.i64.wrap (Go.IntKind.i64.wrap (x1 + (1:Int)) + (1:Int)) + (1:Int)) + (1:Int)) + (1:Int)) + (1:Int))).tmod (3:Int)=(0:Int))) (some (((-1:Int),()),())) (cond (decide ((0:Int)≤x2)) (cond (decide (x2 < (↑x0.length:Int))) ((q136 n (Go.IntKind.i64.wrap (Go.IntKind.i64.wrap (Go.IntKind.i64.wrap (Go.IntKind.i64.wrap (Go.IntKind.i64.wrap (Go.IntKind.i64.wrap (Go.IntKind.i64.wrap (x1 + (1:Int)) + (1:Int)) + (1:Int)) + (1:Int)) + (1:Int)) + (1:Int)) + (1:Int)),())).bind fun r1=>cond (!ByteArray.toList (x0.getD x2.toNat ZN).2.2.2.2.2.2.2.1 == ByteArray.toList r1.1.1) (some (((-1:Int),()),())) (cond (decide ((0:Int)≤x2)) (cond (decide (x2 < (↑x0.length:Int))) ((q138 n ((x0.getD x2.toNat ZN).2.2.2.2.2.2.2.2,Go.IntKind.i64.wrap (Go.IntKind.i64.wrap (Go.IntKind.i64.wrap (Go.IntKind.i64.wrap (Go.IntKind.i64.wrap (Go.IntKind.i64.wrap (Go.IntKind.i64.wrap (Go.IntKind.i64.wrap (x1 + (1:Int)) + (1:Int)) + (1:Int)) + (1:Int)) + (1:Int)) + (1:Int)) + (1:Int)) + (1:Int)),())).bind fun r2=>cond (decide (r2.1.1 < (0:Int))) (some (((-1:Int),()),())) (lL2 (x0) (r2.1.1) (Go.IntKind.i64.wrap (x2 + (1:Int))))) (none)) (none))) (none)) (none))) (none)) (none))) (none)) (none))) (none)) (none))) (none)) (none))) (none)) (none))) (none)) (none))) (none)) (none)) (some ((x1,()),()))
theorem e100_top (n:Nat) (a:List NT) (b:Int):runF TT G100 an100 Try.f100 c100 ps100 rs100 n (a,b,())=st100_top n (fun x0 x1 x2=>at100 n (.head 2) [n] (sh100_L2 x0 x1 x2)) a b:=by kernel_rfl
theorem e100_L2_0 (n:Nat) (x0:List NT) (x1:Int) (x2:Int):at100 n (.head 2) [0] (sh100_L2 x0 x1 x2)=none:=by kernel_rfl
theorem e100_L2 (n:Nat) (m2:Nat) (x0:List NT) (x1:Int) (x2:Int):at100 n (.head 2) [m2 + 1] (sh100_L2 x0 x1 x2)=st100_L2 n (fun x0 x1 x2=>at100 n (.head 2) [m2] (sh100_L2 x0 x1 x2)) x0 x1 x2:=by kernel_rfl
noncomputable def p100_L2 (n:Nat):Nat→(List NT)→Int→Int→Option R100
 | 0,_,_,_=>none
 | m + 1,x0,x1,x2=>st100_L2 n (p100_L2 n m) x0 x1 x2
noncomputable def p100 (n:Nat) (a:List NT) (b:Int):Option R100:=st100_top n (p100_L2 n n) a b
theorem t100_L2 (n:Nat):∀ (m2:Nat) (x0:List NT) (x1:Int) (x2:Int),at100 n (.head 2) [m2] (sh100_L2 x0 x1 x2)=p100_L2 n m2 x0 x1 x2:=by
 intro m
 induction m with
 | zero=>intros; rw [e100_L2_0]; rfl
 | succ m ih =>
  intros
  rw [e100_L2]
  try simp only [ih]
  rfl
theorem F100_eq (n:Nat) (a:List NT) (b:Int):runF TT G100 an100 Try.f100 c100 ps100 rs100 n (a,b,())=p100 n a b:=by
 rw [e100_top]
 simp only [t100_L2]
 try rfl
noncomputable def q100 (n:Nat) (x:argsD ps100):Option R100:=p100 n x.1 x.2.1
noncomputable def Sm100:Sm:=⟨ps100,rs100,false,q100⟩
theorem holds100 (hg:GamOK Try.prog G100):Holds Try.prog 100 Sm100:=by
 have:=h0_100 hg
 have e:(runF TT G100 an100 Try.f100 c100 ps100 rs100)=q100:=by
  funext n x
  exact F100_eq n x.1 x.2.1
 rw [e] at this
 exact this
theorem gam100:GamOK Try.prog G100:=by
 intro f s h
 unfold G100 at h
 split at h
 ·injection h with h; subst h; exact ⟨⟨Try.f136,c136,Try.func136,by kernel_rfl,by decide +kernel⟩,hh136⟩
 ·injection h with h; subst h; exact ⟨⟨Try.f138,c138,Try.func138,by kernel_rfl,by decide +kernel⟩,hh138⟩
 ·cases h
theorem hh100:Holds Try.prog 100 Sm100:=holds100 gam100
end Go.Proofs.Ytbjgiioppmkpiaa.Rx.S

namespace Go.Proofs.Ytbjgiioppmkpiaa.Rx.S
open Go Go.RowKit Go.Proofs
set_option maxRecDepth 100000
noncomputable def c137:Code:=(Try.f137.body.getD .skip)
def an137:An:=⟨fun r=>match r with | 2=>⟨[0,1,5],[]⟩ | _=>⟨[],[]⟩,fun _ _=>none⟩
abbrev ps137:List PK:=[.io (.row 100 tEn) false,.val i64 false]
abbrev rs137:List RK:=[.val i64 false]
abbrev R137:=retsD rs137 × outsD ps137
noncomputable def G137:Gam:=fun f=>match f with | 136=>some Sm136 | _=>none
theorem h0_137 (hg:GamOK Try.prog G137):Holds Try.prog 137 ⟨ps137,rs137,false,runF TT G137 an137 Try.f137 c137 ps137 rs137⟩:=holds_of tt_ok hg mixed Try.func137 (by kernel_rfl) (by rfl) (by decide +kernel)
noncomputable def at137:Nat→Pt→List Nat→St→Option R137:=atF TT G137 an137 Try.f137 c137 _ _
def sh137_L2 (x0:Int) (x1:Int) (x2:List (ByteArray × Int)):St:=(St.mk ((AV.par 0 false ((SV.ref 1000000 0 [] Option.none) :: [])) :: ((AV.one (SV.int (Go.IntKind.i64) x0)) :: (AV.undef :: (AV.undef :: (AV.undef :: ((AV.one (SV.int (Go.IntKind.i64) x1)) :: (AV.undef :: (AV.undef :: (AV.undef :: (AV.undef :: (AV.undef :: (AV.undef :: (AV.undef :: (AV.undef :: (AV.undef :: (AV.undef :: (AV.undef :: (AV.undef :: (AV.undef :: (AV.undef :: (AV.undef :: (AV.undef :: (AV.undef :: (AV.undef :: (AV.undef :: (AV.undef :: (AV.undef :: (AV.undef :: [])))))))))))))))))))))))))))) ((1000000,(Ent.row (⟨100,Ty.str.pair (Ty.int Go.IntKind.i64),x2⟩:Rw) 0 Option.none)) :: []))
noncomputable def st137_top (n:Nat) (lL2:Int→Int→(List (ByteArray × Int))→Option R137) (a:List (ByteArray × Int)) (b:Int):Option R137 :=
 lL2 (b) ((0:Int)) (a)
noncomputable def st137_L2 (n:Nat) (lL2:Int→Int→(List (ByteArray × Int))→Option R137) (x0:Int) (x1:Int) (x2:List (ByteArray × Int)):Option R137 :=
 cond (decide (x1 < (↑x2.length:Int))) ((q136 n (x0,())).bind fun r1=>cond (decide ((0:Int)≤x1)) (cond (decide (x1 < (↑x2.length:Int))) (cond (decide ((0:Int)≤x1)) (cond (decide (x1 < (↑(x2.set x1.toNat (r1.1.1,(x2.getD x1.toNat (ByteArray.empty,(0:Int))).2)).length:Int))) (lL2 (Go.IntKind.i64.wrap (Go.IntKind.i64.wrap (x0 + (1:Int)) + (1:Int))) (Go.IntKind.i64.wrap (x1 + (1:Int))) ((x2.set x1.toNat (r1.1.1,(x2.getD x1.toNat (ByteArray.empty,(0:Int))).2)).set x1.toNat (((x2.set x1.toNat (r1.1.1,(x2.getD x1.toNat (ByteArray.empty,(0:Int))).2)).getD x1.toNat (ByteArray.empty,(0:Int))).1,Go.IntKind.i64.wrap (x0 + (1:Int))))) (none)) (none)) (none)) (none)) (some ((x0,()),(x2,())))
theorem e137_top (n:Nat) (a:List (ByteArray × Int)) (b:Int):runF TT G137 an137 Try.f137 c137 ps137 rs137 n (a,b,())=st137_top n (fun x0 x1 x2=>at137 n (.head 2) [n] (sh137_L2 x0 x1 x2)) a b:=by kernel_rfl
theorem e137_L2_0 (n:Nat) (x0:Int) (x1:Int) (x2:List (ByteArray × Int)):at137 n (.head 2) [0] (sh137_L2 x0 x1 x2)=none:=by kernel_rfl
theorem e137_L2 (n:Nat) (m2:Nat) (x0:Int) (x1:Int) (x2:List (ByteArray × Int)):at137 n (.head 2) [m2 + 1] (sh137_L2 x0 x1 x2)=st137_L2 n (fun x0 x1 x2=>at137 n (.head 2) [m2] (sh137_L2 x0 x1 x2)) x0 x1 x2:=by kernel_rfl
noncomputable def p137_L2 (n:Nat):Nat→Int→Int→(List (ByteArray × Int))→Option R137
 | 0,_,_,_=>none
 | m + 1,x0,x1,x2=>st137_L2 n (p137_L2 n m) x0 x1 x2
noncomputable def p137 (n:Nat) (a:List (ByteArray × Int)) (b:Int):Option R137:=st137_top n (p137_L2 n n) a b
theorem t137_L2 (n:Nat):∀ (m2:Nat) (x0:Int) (x1:Int) (x2:List (ByteArray × Int)),at137 n (.head 2) [m2] (sh137_L2 x0 x1 x2)=p137_L2 n m2 x0 x1 x2:=by
 intro m
 induction m with
 | zero=>intros; rw [e137_L2_0]; rfl
 | succ m ih =>
  intros
  rw [e137_L2]
  try simp only [ih]
  rfl
theorem F137_eq (n:Nat) (a:List (ByteArray × Int)) (b:Int):runF TT G137 an137 Try.f137 c137 ps137 rs137 n (a,b,())=p137 n a b:=by
 rw [e137_top]
 simp only [t137_L2]
 try rfl
noncomputable def q137 (n:Nat) (x:argsD ps137):Option R137:=p137 n x.1 x.2.1
noncomputable def Sm137:Sm:=⟨ps137,rs137,false,q137⟩
theorem holds137 (hg:GamOK Try.prog G137):Holds Try.prog 137 Sm137:=by
 have:=h0_137 hg
 have e:(runF TT G137 an137 Try.f137 c137 ps137 rs137)=q137:=by
  funext n x
  exact F137_eq n x.1 x.2.1
 rw [e] at this
 exact this
theorem gam137:GamOK Try.prog G137:=by
 intro f s h
 unfold G137 at h
 split at h
 ·injection h with h; subst h; exact ⟨⟨Try.f136,c136,Try.func136,by kernel_rfl,by decide +kernel⟩,hh136⟩
 ·cases h
theorem hh137:Holds Try.prog 137 Sm137:=holds137 gam137
end Go.Proofs.Ytbjgiioppmkpiaa.Rx.S

namespace Go.Proofs.Ytbjgiioppmkpiaa.Rx.S
open Go Go.RowKit Go.Proofs
set_option maxRecDepth 100000
noncomputable def c94:Code:=(Try.f94.body.getD .skip)
def an94:An:=⟨fun r=>match r with | 2=>⟨[0,1,5],[]⟩ | _=>⟨[],[]⟩,fun _ _=>none⟩
abbrev ps94:List PK:=[.io (.row 3 i64) false,.val i64 false]
abbrev rs94:List RK:=[.val i64 false]
abbrev R94:=retsD rs94 × outsD ps94
noncomputable def G94:Gam:=fun _=>none
theorem h0_94 (hg:GamOK Try.prog G94):Holds Try.prog 94 ⟨ps94,rs94,false,runF TT G94 an94 Try.f94 c94 ps94 rs94⟩:=holds_of tt_ok hg mixed Try.func94 (by kernel_rfl) (by rfl) (by decide +kernel)
noncomputable def at94:Nat→Pt→List Nat→St→Option R94:=atF TT G94 an94 Try.f94 c94 _ _
def sh94_L2 (x0:Int) (x1:Int) (x2:List Int):St:=(St.mk ((AV.par 0 false ((SV.ref 1000000 0 [] Option.none) :: [])) :: ((AV.one (SV.int (Go.IntKind.i64) x0)) :: (AV.undef :: (AV.undef :: (AV.undef :: ((AV.one (SV.int (Go.IntKind.i64) x1)) :: (AV.undef :: (AV.undef :: (AV.undef :: (AV.undef :: (AV.undef :: (AV.undef :: (AV.undef :: (AV.undef :: (AV.undef :: (AV.undef :: (AV.undef :: (AV.undef :: (AV.undef :: []))))))))))))))))))) ((1000000,(Ent.row (⟨3,Ty.int Go.IntKind.i64,x2⟩:Rw) 0 Option.none)) :: []))
noncomputable def st94_top (n:Nat) (lL2:Int→Int→(List Int)→Option R94) (a:List Int) (b:Int):Option R94 :=
 lL2 (b) ((0:Int)) (a)
noncomputable def st94_L2 (n:Nat) (lL2:Int→Int→(List Int)→Option R94) (x0:Int) (x1:Int) (x2:List Int):Option R94 :=
 cond (decide (x1 < (↑x2.length:Int))) (cond (decide ((0:Int)≤x1)) (cond (decide (x1 < (↑x2.length:Int))) (lL2 (Go.IntKind.i64.wrap (x0 + (1:Int))) (Go.IntKind.i64.wrap (x1 + (1:Int))) (x2.set x1.toNat x0)) (none)) (none)) (some ((x0,()),(x2,())))
theorem e94_top (n:Nat) (a:List Int) (b:Int):runF TT G94 an94 Try.f94 c94 ps94 rs94 n (a,b,())=st94_top n (fun x0 x1 x2=>at94 n (.head 2) [n] (sh94_L2 x0 x1 x2)) a b:=by kernel_rfl
theorem e94_L2_0 (n:Nat) (x0:Int) (x1:Int) (x2:List Int):at94 n (.head 2) [0] (sh94_L2 x0 x1 x2)=none:=by kernel_rfl
theorem e94_L2 (n:Nat) (m2:Nat) (x0:Int) (x1:Int) (x2:List Int):at94 n (.head 2) [m2 + 1] (sh94_L2 x0 x1 x2)=st94_L2 n (fun x0 x1 x2=>at94 n (.head 2) [m2] (sh94_L2 x0 x1 x2)) x0 x1 x2:=by kernel_rfl
noncomputable def p94_L2 (n:Nat):Nat→Int→Int→(List Int)→Option R94
 | 0,_,_,_=>none
 | m + 1,x0,x1,x2=>st94_L2 n (p94_L2 n m) x0 x1 x2
noncomputable def p94 (n:Nat) (a:List Int) (b:Int):Option R94:=st94_top n (p94_L2 n n) a b
theorem t94_L2 (n:Nat):∀ (m2:Nat) (x0:Int) (x1:Int) (x2:List Int),at94 n (.head 2) [m2] (sh94_L2 x0 x1 x2)=p94_L2 n m2 x0 x1 x2:=by
 intro m
 induction m with
 | zero=>intros; rw [e94_L2_0]; rfl
 | succ m ih =>
  intros
  rw [e94_L2]
  try simp only [ih]
  rfl
theorem F94_eq (n:Nat) (a:List Int) (b:Int):runF TT G94 an94 Try.f94 c94 ps94 rs94 n (a,b,())=p94 n a b:=by
 rw [e94_top]
 simp only [t94_L2]
 try rfl
noncomputable def q94 (n:Nat) (x:argsD ps94):Option R94:=p94 n x.1 x.2.1
noncomputable def Sm94:Sm:=⟨ps94,rs94,false,q94⟩
theorem holds94 (hg:GamOK Try.prog G94):Holds Try.prog 94 Sm94:=by
 have:=h0_94 hg
 have e:(runF TT G94 an94 Try.f94 c94 ps94 rs94)=q94:=by
  funext n x
  exact F94_eq n x.1 x.2.1
 rw [e] at this
 exact this
theorem gam94:GamOK Try.prog G94:=fun _ _ h=>by cases h
theorem hh94:Holds Try.prog 94 Sm94:=holds94 gam94
end Go.Proofs.Ytbjgiioppmkpiaa.Rx.S

namespace Go.Proofs.Ytbjgiioppmkpiaa.Rx.S
open Go Go.RowKit Go.Proofs
set_option maxRecDepth 100000
noncomputable def c37:Code:=(Try.f37.body.getD .skip)
def an37:An:=⟨fun _=>⟨[],[]⟩,fun _ _=>none⟩
abbrev ps37:List PK:=[.io tCr true,.val i64 false]
abbrev rs37:List RK:=[.val i64 false]
abbrev R37:=retsD rs37 × outsD ps37
noncomputable def G37:Gam:=fun f=>match f with | 94=>some Sm94 | _=>none
theorem h0_37 (hg:GamOK Try.prog G37):Holds Try.prog 37 ⟨ps37,rs37,false,runF TT G37 an37 Try.f37 c37 ps37 rs37⟩:=holds_of tt_ok hg mixed Try.func37 (by kernel_rfl) (by rfl) (by decide +kernel)
noncomputable def st37_top (n:Nat) (a:Int × Int × List Int) (b:Int):Option R37 :=
 (q94 n (a.2.2,b,())).bind fun r0=>some ((r0.1.1,()),((a.1,(a.2.1,r0.2.1)),()))
theorem e37_top (n:Nat) (a:Int × Int × List Int) (b:Int):runF TT G37 an37 Try.f37 c37 ps37 rs37 n (a,b,())=st37_top n a b:=by kernel_rfl
noncomputable def p37 (n:Nat) (a:Int × Int × List Int) (b:Int):Option R37:=st37_top n a b
theorem F37_eq (n:Nat) (a:Int × Int × List Int) (b:Int):runF TT G37 an37 Try.f37 c37 ps37 rs37 n (a,b,())=p37 n a b:=by
 rw [e37_top]
 skip
 try rfl
noncomputable def q37 (n:Nat) (x:argsD ps37):Option R37:=p37 n x.1 x.2.1
noncomputable def Sm37:Sm:=⟨ps37,rs37,false,q37⟩
theorem holds37 (hg:GamOK Try.prog G37):Holds Try.prog 37 Sm37:=by
 have:=h0_37 hg
 have e:(runF TT G37 an37 Try.f37 c37 ps37 rs37)=q37:=by
  funext n x
  exact F37_eq n x.1 x.2.1
 rw [e] at this
 exact this
theorem gam37:GamOK Try.prog G37:=by
 intro f s h
 unfold G37 at h
 split at h
 ·injection h with h; subst h; exact ⟨⟨Try.f94,c94,Try.func94,by kernel_rfl,by decide +kernel⟩,hh94⟩
 ·cases h
theorem hh37:Holds Try.prog 37 Sm37:=holds37 gam37
end Go.Proofs.Ytbjgiioppmkpiaa.Rx.S

namespace Go.Proofs.Ytbjgiioppmkpiaa.Rx.S
open Go Go.RowKit Go.Proofs
set_option maxRecDepth 100000
noncomputable def c99:Code:=(Try.f99.body.getD .skip)
def an99:An:=⟨fun r=>match r with | 2=>⟨[0,1,5],[]⟩ | _=>⟨[],[]⟩,fun r i=>match r,i with | 6,0=>some ⟨[0,1,5],[]⟩ | 8,0=>some ⟨[0,1,5],[]⟩ | 10,0=>some ⟨[0,1,5],[]⟩ | 12,0=>some ⟨[0,1,5],[]⟩ | 14,0=>some ⟨[0,1,5],[]⟩ | 16,0=>some ⟨[0,1,5],[]⟩ | 18,0=>some ⟨[0,1,5],[]⟩ | 20,0=>some ⟨[0,1,5],[]⟩ | _,_=>none⟩
abbrev ps99:List PK:=[.io tFs false,.val i64 false]
abbrev rs99:List RK:=[.val i64 false]
abbrev R99:=retsD rs99 × outsD ps99
noncomputable def G99:Gam:=fun f=>match f with | 136=>some Sm136 | 137=>some Sm137 | _=>none
theorem ateq99 {β:Type} (t:Nat) (f:St→Option β) (S:St):at_ t f S=f S:=rfl
theorem h0_99 (hg:GamOK Try.prog G99):Holds Try.prog 99 ⟨ps99,rs99,false,runF TT G99 an99 Try.f99 c99 ps99 rs99⟩:=holds_of tt_ok hg mixed Try.func99 (by kernel_rfl) (by rfl) (by decide +kernel)
noncomputable def at99:Nat→Pt→List Nat→St→Option R99:=atF TT G99 an99 Try.f99 c99 _ _
def sh99_C20_0 (x0:Int) (x1:Int) (x2:List NT):St:=(St.mk ((AV.par 0 false ((SV.ref 1000000 0 [] Option.none) :: [])) :: ((AV.one (SV.int (Go.IntKind.i64) x0)) :: (AV.undef :: (AV.undef :: (AV.undef :: ((AV.one (SV.int (Go.IntKind.i64) x1)) :: (AV.undef :: (AV.undef :: (AV.undef :: (AV.undef :: (AV.undef :: (AV.undef :: (AV.undef :: (AV.undef :: (AV.undef :: (AV.undef :: (AV.undef :: (AV.undef :: (AV.undef :: (AV.undef :: (AV.undef :: (AV.undef :: (AV.undef :: (AV.undef :: (AV.undef :: (AV.undef :: (AV.undef :: (AV.undef :: (AV.undef :: (AV.undef :: (AV.undef :: (AV.undef :: (AV.undef :: (AV.undef :: (AV.undef :: (AV.undef :: (AV.undef :: (AV.undef :: (AV.undef :: (AV.undef :: (AV.undef :: (AV.undef :: (AV.undef :: (AV.undef :: (AV.undef :: (AV.undef :: (AV.undef :: (AV.undef :: (AV.undef :: (AV.undef :: (AV.undef :: (AV.undef :: (AV.undef :: (AV.undef :: (AV.undef :: (AV.undef :: (AV.undef :: (AV.undef :: (AV.undef :: (AV.undef :: (AV.undef :: (AV.undef :: (AV.undef :: (AV.undef :: (AV.undef :: (AV.undef :: (AV.undef :: (AV.undef :: (AV.undef :: (AV.undef :: (AV.undef :: (AV.undef :: (AV.undef :: (AV.undef :: (AV.undef :: (AV.undef :: (AV.undef :: (AV.undef :: (AV.undef :: []))))))))))))))))))))))))))))))))))))))))))))))))))))))))))))))))))))))))))))))) ((1000000,(Ent.row (⟨37,(Ty.int Go.IntKind.i64).pair ((Ty.int Go.IntKind.i64).pair ((Ty.int Go.IntKind.i64).pair ((Ty.int Go.IntKind.i64).pair ((Ty.int Go.IntKind.i64).pair ((Ty.int Go.IntKind.i64).pair (Ty.bool.pair (Ty.str.pair (Ty.row (nat_lit 100) (Ty.str.pair (Ty.int Go.IntKind.i64)))))))))),x2⟩:Rw) 0 Option.none)) :: []))
def sh99_C18_0 (x0:Int) (x1:Int) (x2:List NT):St:=(St.mk ((AV.par 0 false ((SV.ref 1000000 0 [] Option.none) :: [])) :: ((AV.one (SV.int (Go.IntKind.i64) x0)) :: (AV.undef :: (AV.undef :: (AV.undef :: ((AV.one (SV.int (Go.IntKind.i64) x1)) :: (AV.undef :: (AV.undef :: (AV.undef :: (AV.undef :: (AV.undef :: (AV.undef :: (AV.undef :: (AV.undef :: (AV.undef :: (AV.undef :: (AV.undef :: (AV.undef :: (AV.undef :: (AV.undef :: (AV.undef :: (AV.undef :: (AV.undef :: (AV.undef :: (AV.undef :: (AV.undef :: (AV.undef :: (AV.undef :: (AV.undef :: (AV.undef :: (AV.undef :: (AV.undef :: (AV.undef :: (AV.undef :: (AV.undef :: (AV.undef :: (AV.undef :: (AV.undef :: (AV.undef :: (AV.undef :: (AV.undef :: (AV.undef :: (AV.undef :: (AV.undef :: (AV.undef :: (AV.undef :: (AV.undef :: (AV.undef :: (AV.undef :: (AV.undef :: (AV.undef :: (AV.undef :: (AV.undef :: (AV.undef :: (AV.undef :: (AV.undef :: (AV.undef :: (AV.undef :: (AV.undef :: (AV.undef :: (AV.undef :: (AV.undef :: (AV.undef :: (AV.undef :: (AV.undef :: (AV.undef :: (AV.undef :: (AV.undef :: (AV.undef :: (AV.undef :: (AV.undef :: (AV.undef :: (AV.undef :: (AV.undef :: (AV.undef :: (AV.undef :: (AV.undef :: (AV.undef :: (AV.undef :: []))))))))))))))))))))))))))))))))))))))))))))))))))))))))))))))))))))))))))))))) ((1000000,(Ent.row (⟨37,(Ty.int Go.IntKind.i64).pair ((Ty.int Go.IntKind.i64).pair ((Ty.int Go.IntKind.i64).pair ((Ty.int Go.IntKind.i64).pair ((Ty.int Go.IntKind.i64).pair ((Ty.int Go.IntKind.i64).pair (Ty.bool.pair (Ty.str.pair (Ty.row (nat_lit 100) (Ty.str.pair (Ty.int Go.IntKind.i64)))))))))),x2⟩:Rw) 0 Option.none)) :: []))
def sh99_C16_0 (x0:Int) (x1:Int) (x2:List NT):St:=(St.mk ((AV.par 0 false ((SV.ref 1000000 0 [] Option.none) :: [])) :: ((AV.one (SV.int (Go.IntKind.i64) x0)) :: (AV.undef :: (AV.undef :: (AV.undef :: ((AV.one (SV.int (Go.IntKind.i64) x1)) :: (AV.undef :: (AV.undef :: (AV.undef :: (AV.undef :: (AV.undef :: (AV.undef :: (AV.undef :: (AV.undef :: (AV.undef :: (AV.undef :: (AV.undef :: (AV.undef :: (AV.undef :: (AV.undef :: (AV.undef :: (AV.undef :: (AV.undef :: (AV.undef :: (AV.undef :: (AV.undef :: (AV.undef :: (AV.undef :: (AV.undef :: (AV.undef :: (AV.undef :: (AV.undef :: (AV.undef :: (AV.undef :: (AV.undef :: (AV.undef :: (AV.undef :: (AV.undef :: (AV.undef :: (AV.undef :: (AV.undef :: (AV.undef :: (AV.undef :: (AV.undef :: (AV.undef :: (AV.undef :: (AV.undef :: (AV.undef :: (AV.undef :: (AV.undef :: (AV.undef :: (AV.undef :: (AV.undef :: (AV.undef :: (AV.undef :: (AV.undef :: (AV.undef :: (AV.undef :: (AV.undef :: (AV.undef :: (AV.undef :: (AV.undef :: (AV.undef :: (AV.undef :: (AV.undef :: (AV.undef :: (AV.undef :: (AV.undef :: (AV.undef :: (AV.undef :: (AV.undef :: (AV.undef :: (AV.undef :: (AV.undef :: (AV.undef :: (AV.undef :: (AV.undef :: (AV.undef :: (AV.undef :: []))))))))))))))))))))))))))))))))))))))))))))))))))))))))))))))))))))))))))))))) ((1000000,(Ent.row (⟨37,(Ty.int Go.IntKind.i64).pair ((Ty.int Go.IntKind.i64).pair ((Ty.int Go.IntKind.i64).pair ((Ty.int Go.IntKind.i64).pair ((Ty.int Go.IntKind.i64).pair ((Ty.int Go.IntKind.i64).pair (Ty.bool.pair (Ty.str.pair (Ty.row (nat_lit 100) (Ty.str.pair (Ty.int Go.IntKind.i64)))))))))),x2⟩:Rw) 0 Option.none)) :: []))
def sh99_C14_0 (x0:Int) (x1:Int) (x2:List NT):St:=(St.mk ((AV.par 0 false ((SV.ref 1000000 0 [] Option.none) :: [])) :: ((AV.one (SV.int (Go.IntKind.i64) x0)) :: (AV.undef :: (AV.undef :: (AV.undef :: ((AV.one (SV.int (Go.IntKind.i64) x1)) :: (AV.undef :: (AV.undef :: (AV.undef :: (AV.undef :: (AV.undef :: (AV.undef :: (AV.undef :: (AV.undef :: (AV.undef :: (AV.undef :: (AV.undef :: (AV.undef :: (AV.undef :: (AV.undef :: (AV.undef :: (AV.undef :: (AV.undef :: (AV.undef :: (AV.undef :: (AV.undef :: (AV.undef :: (AV.undef :: (AV.undef :: (AV.undef :: (AV.undef :: (AV.undef :: (AV.undef :: (AV.undef :: (AV.undef :: (AV.undef :: (AV.undef :: (AV.undef :: (AV.undef :: (AV.undef :: (AV.undef :: (AV.undef :: (AV.undef :: (AV.undef :: (AV.undef :: (AV.undef :: (AV.undef :: (AV.undef :: (AV.undef :: (AV.undef :: (AV.undef :: (AV.undef :: (AV.undef :: (AV.undef :: (AV.undef :: (AV.undef :: (AV.undef :: (AV.undef :: (AV.undef :: (AV.undef :: (AV.undef :: (AV.undef :: (AV.undef :: (AV.undef :: (AV.undef :: (AV.undef :: (AV.undef :: (AV.undef :: (AV.undef :: (AV.undef :: (AV.undef :: (AV.undef :: (AV.undef :: (AV.undef :: (AV.undef :: (AV.undef :: (AV.undef :: (AV.undef :: (AV.undef :: []))))))))))))))))))))))))))))))))))))))))))))))))))))))))))))))))))))))))))))))) ((1000000,(Ent.row (⟨37,(Ty.int Go.IntKind.i64).pair ((Ty.int Go.IntKind.i64).pair ((Ty.int Go.IntKind.i64).pair ((Ty.int Go.IntKind.i64).pair ((Ty.int Go.IntKind.i64).pair ((Ty.int Go.IntKind.i64).pair (Ty.bool.pair (Ty.str.pair (Ty.row (nat_lit 100) (Ty.str.pair (Ty.int Go.IntKind.i64)))))))))),x2⟩:Rw) 0 Option.none)) :: []))
def sh99_C12_0 (x0:Int) (x1:Int) (x2:List NT):St:=(St.mk ((AV.par 0 false ((SV.ref 1000000 0 [] Option.none) :: [])) :: ((AV.one (SV.int (Go.IntKind.i64) x0)) :: (AV.undef :: (AV.undef :: (AV.undef :: ((AV.one (SV.int (Go.IntKind.i64) x1)) :: (AV.undef :: (AV.undef :: (AV.undef :: (AV.undef :: (AV.undef :: (AV.undef :: (AV.undef :: (AV.undef :: (AV.undef :: (AV.undef :: (AV.undef :: (AV.undef :: (AV.undef :: (AV.undef :: (AV.undef :: (AV.undef :: (AV.undef :: (AV.undef :: (AV.undef :: (AV.undef :: (AV.undef :: (AV.undef :: (AV.undef :: (AV.undef :: (AV.undef :: (AV.undef :: (AV.undef :: (AV.undef :: (AV.undef :: (AV.undef :: (AV.undef :: (AV.undef :: (AV.undef :: (AV.undef :: (AV.undef :: (AV.undef :: (AV.undef :: (AV.undef :: (AV.undef :: (AV.undef :: (AV.undef :: (AV.undef :: (AV.undef :: (AV.undef :: (AV.undef :: (AV.undef :: (AV.undef :: (AV.undef :: (AV.undef :: (AV.undef :: (AV.undef :: (AV.undef :: (AV.undef :: (AV.undef :: (AV.undef :: (AV.undef :: (AV.undef :: (AV.undef :: (AV.undef :: (AV.undef :: (AV.undef :: (AV.undef :: (AV.undef :: (AV.undef :: (AV.undef :: (AV.undef :: (AV.undef :: (AV.undef :: (AV.undef :: (AV.undef :: (AV.undef :: (AV.undef :: (AV.undef :: []))))))))))))))))))))))))))))))))))))))))))))))))))))))))))))))))))))))))))))))) ((1000000,(Ent.row (⟨37,(Ty.int Go.IntKind.i64).pair ((Ty.int Go.IntKind.i64).pair ((Ty.int Go.IntKind.i64).pair ((Ty.int Go.IntKind.i64).pair ((Ty.int Go.IntKind.i64).pair ((Ty.int Go.IntKind.i64).pair (Ty.bool.pair (Ty.str.pair (Ty.row (nat_lit 100) (Ty.str.pair (Ty.int Go.IntKind.i64)))))))))),x2⟩:Rw) 0 Option.none)) :: []))
def sh99_C10_0 (x0:Int) (x1:Int) (x2:List NT):St:=(St.mk ((AV.par 0 false ((SV.ref 1000000 0 [] Option.none) :: [])) :: ((AV.one (SV.int (Go.IntKind.i64) x0)) :: (AV.undef :: (AV.undef :: (AV.undef :: ((AV.one (SV.int (Go.IntKind.i64) x1)) :: (AV.undef :: (AV.undef :: (AV.undef :: (AV.undef :: (AV.undef :: (AV.undef :: (AV.undef :: (AV.undef :: (AV.undef :: (AV.undef :: (AV.undef :: (AV.undef :: (AV.undef :: (AV.undef :: (AV.undef :: (AV.undef :: (AV.undef :: (AV.undef :: (AV.undef :: (AV.undef :: (AV.undef :: (AV.undef :: (AV.undef :: (AV.undef :: (AV.undef :: (AV.undef :: (AV.undef :: (AV.undef :: (AV.undef :: (AV.undef :: (AV.undef :: (AV.undef :: (AV.undef :: (AV.undef :: (AV.undef :: (AV.undef :: (AV.undef :: (AV.undef :: (AV.undef :: (AV.undef :: (AV.undef :: (AV.undef :: (AV.undef :: (AV.undef :: (AV.undef :: (AV.undef :: (AV.undef :: (AV.undef :: (AV.undef :: (AV.undef :: (AV.undef :: (AV.undef :: (AV.undef :: (AV.undef :: (AV.undef :: (AV.undef :: (AV.undef :: (AV.undef :: (AV.undef :: (AV.undef :: (AV.undef :: (AV.undef :: (AV.undef :: (AV.undef :: (AV.undef :: (AV.undef :: (AV.undef :: (AV.undef :: (AV.undef :: (AV.undef :: (AV.undef :: (AV.undef :: (AV.undef :: []))))))))))))))))))))))))))))))))))))))))))))))))))))))))))))))))))))))))))))))) ((1000000,(Ent.row (⟨37,(Ty.int Go.IntKind.i64).pair ((Ty.int Go.IntKind.i64).pair ((Ty.int Go.IntKind.i64).pair ((Ty.int Go.IntKind.i64).pair ((Ty.int Go.IntKind.i64).pair ((Ty.int Go.IntKind.i64).pair (Ty.bool.pair (Ty.str.pair (Ty.row (nat_lit 100) (Ty.str.pair (Ty.int Go.IntKind.i64)))))))))),x2⟩:Rw) 0 Option.none)) :: []))
def sh99_C8_0 (x0:Int) (x1:Int) (x2:List NT):St:=(St.mk ((AV.par 0 false ((SV.ref 1000000 0 [] Option.none) :: [])) :: ((AV.one (SV.int (Go.IntKind.i64) x0)) :: (AV.undef :: (AV.undef :: (AV.undef :: ((AV.one (SV.int (Go.IntKind.i64) x1)) :: (AV.undef :: (AV.undef :: (AV.undef :: (AV.undef :: (AV.undef :: (AV.undef :: (AV.undef :: (AV.undef :: (AV.undef :: (AV.undef :: (AV.undef :: (AV.undef :: (AV.undef :: (AV.undef :: (AV.undef :: (AV.undef :: (AV.undef :: (AV.undef :: (AV.undef :: (AV.undef :: (AV.undef :: (AV.undef :: (AV.undef :: (AV.undef :: (AV.undef :: (AV.undef :: (AV.undef :: (AV.undef :: (AV.undef :: (AV.undef :: (AV.undef :: (AV.undef :: (AV.undef :: (AV.undef :: (AV.undef :: (AV.undef :: (AV.undef :: (AV.undef :: (AV.undef :: (AV.undef :: (AV.undef :: (AV.undef :: (AV.undef :: (AV.undef :: (AV.undef :: (AV.undef :: (AV.undef :: (AV.undef :: (AV.undef :: (AV.undef :: (AV.undef :: (AV.undef :: (AV.undef :: (AV.undef :: (AV.undef :: (AV.undef :: (AV.undef :: (AV.undef :: (AV.undef :: (AV.undef :: (AV.undef :: (AV.undef :: (AV.undef :: (AV.undef :: (AV.undef :: (AV.undef :: (AV.undef :: (AV.undef :: (AV.undef :: (AV.undef :: (AV.undef :: (AV.undef :: (AV.undef :: []))))))))))))))))))))))))))))))))))))))))))))))))))))))))))))))))))))))))))))))) ((1000000,(Ent.row (⟨37,(Ty.int Go.IntKind.i64).pair ((Ty.int Go.IntKind.i64).pair ((Ty.int Go.IntKind.i64).pair ((Ty.int Go.IntKind.i64).pair ((Ty.int Go.IntKind.i64).pair ((Ty.int Go.IntKind.i64).pair (Ty.bool.pair (Ty.str.pair (Ty.row (nat_lit 100) (Ty.str.pair (Ty.int Go.IntKind.i64)))))))))),x2⟩:Rw) 0 Option.none)) :: []))
def sh99_C6_0 (x0:Int) (x1:Int) (x2:List NT):St:=(St.mk ((AV.par 0 false ((SV.ref 1000000 0 [] Option.none) :: [])) :: ((AV.one (SV.int (Go.IntKind.i64) x0)) :: (AV.undef :: (AV.undef :: (AV.undef :: ((AV.one (SV.int (Go.IntKind.i64) x1)) :: (AV.undef :: (AV.undef :: (AV.undef :: (AV.undef :: (AV.undef :: (AV.undef :: (AV.undef :: (AV.undef :: (AV.undef :: (AV.undef :: (AV.undef :: (AV.undef :: (AV.undef :: (AV.undef :: (AV.undef :: (AV.undef :: (AV.undef :: (AV.undef :: (AV.undef :: (AV.undef :: (AV.undef :: (AV.undef :: (AV.undef :: (AV.undef :: (AV.undef :: (AV.undef :: (AV.undef :: (AV.undef :: (AV.undef :: (AV.undef :: (AV.undef :: (AV.undef :: (AV.undef :: (AV.undef :: (AV.undef :: (AV.undef :: (AV.undef :: (AV.undef :: (AV.undef :: (AV.undef :: (AV.undef :: (AV.undef :: (AV.undef :: (AV.undef :: (AV.undef :: (AV.undef :: (AV.undef :: (AV.undef :: (AV.undef :: (AV.undef :: (AV.undef :: (AV.undef :: (AV.undef :: (AV.undef :: (AV.undef :: (AV.undef :: (AV.undef :: (AV.undef :: (AV.undef :: (AV.undef :: (AV.undef :: (AV.undef :: (AV.undef :: (AV.undef :: (AV.undef :: (AV.undef :: (AV.undef :: (AV.undef :: (AV.undef :: (AV.undef :: (AV.undef :: (AV.undef :: (AV.undef :: []))))))))))))))))))))))))))))))))))))))))))))))))))))))))))))))))))))))))))))))) ((1000000,(Ent.row (⟨37,(Ty.int Go.IntKind.i64).pair ((Ty.int Go.IntKind.i64).pair ((Ty.int Go.IntKind.i64).pair ((Ty.int Go.IntKind.i64).pair ((Ty.int Go.IntKind.i64).pair ((Ty.int Go.IntKind.i64).pair (Ty.bool.pair (Ty.str.pair (Ty.row (nat_lit 100) (Ty.str.pair (Ty.int Go.IntKind.i64)))))))))),x2⟩:Rw) 0 Option.none)) :: []))
def sh99_L2 (x0:Int) (x1:Int) (x2:List NT):St:=(St.mk ((AV.par 0 false ((SV.ref 1000000 0 [] Option.none) :: [])) :: ((AV.one (SV.int (Go.IntKind.i64) x0)) :: (AV.undef :: (AV.undef :: (AV.undef :: ((AV.one (SV.int (Go.IntKind.i64) x1)) :: (AV.undef :: (AV.undef :: (AV.undef :: (AV.undef :: (AV.undef :: (AV.undef :: (AV.undef :: (AV.undef :: (AV.undef :: (AV.undef :: (AV.undef :: (AV.undef :: (AV.undef :: (AV.undef :: (AV.undef :: (AV.undef :: (AV.undef :: (AV.undef :: (AV.undef :: (AV.undef :: (AV.undef :: (AV.undef :: (AV.undef :: (AV.undef :: (AV.undef :: (AV.undef :: (AV.undef :: (AV.undef :: (AV.undef :: (AV.undef :: (AV.undef :: (AV.undef :: (AV.undef :: (AV.undef :: (AV.undef :: (AV.undef :: (AV.undef :: (AV.undef :: (AV.undef :: (AV.undef :: (AV.undef :: (AV.undef :: (AV.undef :: (AV.undef :: (AV.undef :: (AV.undef :: (AV.undef :: (AV.undef :: (AV.undef :: (AV.undef :: (AV.undef :: (AV.undef :: (AV.undef :: (AV.undef :: (AV.undef :: (AV.undef :: (AV.undef :: (AV.undef :: (AV.undef :: (AV.undef :: (AV.undef :: (AV.undef :: (AV.undef :: (AV.undef :: (AV.undef :: (AV.undef :: (AV.undef :: (AV.undef :: (AV.undef :: (AV.undef :: (AV.undef :: (AV.undef :: (AV.undef :: []))))))))))))))))))))))))))))))))))))))))))))))))))))))))))))))))))))))))))))))) ((1000000,(Ent.row (⟨37,(Ty.int Go.IntKind.i64).pair ((Ty.int Go.IntKind.i64).pair ((Ty.int Go.IntKind.i64).pair ((Ty.int Go.IntKind.i64).pair ((Ty.int Go.IntKind.i64).pair ((Ty.int Go.IntKind.i64).pair (Ty.bool.pair (Ty.str.pair (Ty.row (nat_lit 100) (Ty.str.pair (Ty.int Go.IntKind.i64)))))))))),x2⟩:Rw) 0 Option.none)) :: []))
noncomputable def st99_top (n:Nat) (lL2:Int→Int→(List NT)→Option R99) (a:List NT) (b:Int):Option R99 :=
 lL2 (b) ((0:Int)) (a)
noncomputable def st99_C20_0 (n:Nat) (lL2:Int→Int→(List NT)→Option R99) (x0:Int) (x1:Int) (x2:List NT):Option R99 :=
 cond (decide ((0:Int)≤x1)) (cond (decide (x1 < (↑x2.length:Int))) ((q137 n ((x2.getD x1.toNat ZN).2.2.2.2.2.2.2.2,x0,())).bind fun r10=>lL2 (r10.1.1) (Go.IntKind.i64.wrap (x1 + (1:Int))) (x2.set x1.toNat ((x2.getD x1.toNat ZN).1,(x2.getD x1.toNat ZN).2.1,(x2.getD x1.toNat ZN).2.2.1,(x2.getD x1.toNat ZN).2.2.2.1,(x2.getD x1.toNat ZN).2.2.2.2.1,(x2.getD x1.toNat ZN).2.2.2.2.2.1,(x2.getD x1.toNat ZN).2.2.2.2.2.2.1,(x2.getD x1.toNat ZN).2.2.2.2.2.2.2.1,r10.2.1))) (none)) (none)
noncomputable def st99_C18_0 (n:Nat) (lC20_0:Int→Int→(List NT)→Option R99) (x0:Int) (x1:Int) (x2:List NT):Option R99 :=
 (q136 n (x0,())).bind fun r8=>cond (decide ((0:Int)≤x1)) (cond (decide (x1 < (↑x2.length:Int))) (lC20_0 (Go.IntKind.i64.wrap (x0 + (1:Int))) (x1) (x2.set x1.toNat ((x2.getD x1.toNat ZN).1,(x2.getD x1.toNat ZN).2.1,(x2.getD x1.toNat ZN).2.2.1,(x2.getD x1.toNat ZN).2.2.2.1,(x2.getD x1.toNat ZN).2.2.2.2.1,(x2.getD x1.toNat ZN).2.2.2.2.2.1,(x2.getD x1.toNat ZN).2.2.2.2.2.2.1,r8.1.1,(x2.getD x1.toNat ZN).2.2.2.2.2.2.2.2))) (none)) (none)
noncomputable def st99_C16_0 (n:Nat) (lC18_0:Int→Int→(List NT)→Option R99) (x0:Int) (x1:Int) (x2:List NT):Option R99 :=
 cond (decide ((0:Int)≤x1)) (cond (decide (x1 < (↑x2.length:Int))) (lC18_0 (Go.IntKind.i64.wrap (x0 + (1:Int))) (x1) (x2.set x1.toNat ((x2.getD x1.toNat ZN).1,(x2.getD x1.toNat ZN).2.1,(x2.getD x1.toNat ZN).2.2.1,(x2.getD x1.toNat ZN).2.2.2.1,(x2.getD x1.toNat ZN).2.2.2.2.1,(x2.getD x1.toNat ZN).2.2.2.2.2.1,decide (x0.tmod (3:Int)=(0:Int)),(x2.getD x1.toNat ZN).2.2.2.2.2.2.2))) (none)) (none)
noncomputable def st99_C14_0 (n:Nat) (lC16_0:Int→Int→(List NT)→Option R99) (x0:Int) (x1:Int) (x2:List NT):Option R99 :=
 cond (decide ((0:Int)≤x1)) (cond (decide (x1 < (↑x2.length:Int))) (lC16_0 (Go.IntKind.i64.wrap (x0 + (1:Int))) (x1) (x2.set x1.toNat ((x2.getD x1.toNat ZN).1,(x2.getD x1.toNat ZN).2.1,(x2.getD x1.toNat ZN).2.2.1,(x2.getD x1.toNat ZN).2.2.2.1,(x2.getD x1.toNat ZN).2.2.2.2.1,x0,(x2.getD x1.toNat ZN).2.2.2.2.2.2))) (none)) (none)
noncomputable def st99_C12_0 (n:Nat) (lC14_0:Int→Int→(List NT)→Option R99) (x0:Int) (x1:Int) (x2:List NT):Option R99 :=
 cond (decide ((0:Int)≤x1)) (cond (decide (x1 < (↑x2.length:Int))) (lC14_0 (Go.IntKind.i64.wrap (x0 + (1:Int))) (x1) (x2.set x1.toNat ((x2.getD x1.toNat ZN).1,(x2.getD x1.toNat ZN).2.1,(x2.getD x1.toNat ZN).2.2.1,(x2.getD x1.toNat ZN).2.2.2.1,x0,(x2.getD x1.toNat ZN).2.2.2.2.2))) (none)) (none)
noncomputable def st99_C10_0 (n:Nat) (lC12_0:Int→Int→(List NT)→Option R99) (x0:Int) (x1:Int) (x2:List NT):Option R99 :=
 cond (decide ((0:Int)≤x1)) (cond (decide (x1 < (↑x2.length:Int))) (lC12_0 (Go.IntKind.i64.wrap (x0 + (1:Int))) (x1) (x2.set x1.toNat ((x2.getD x1.toNat ZN).1,(x2.getD x1.toNat ZN).2.1,(x2.getD x1.toNat ZN).2.2.1,x0,(x2.getD x1.toNat ZN).2.2.2.2))) (none)) (none)
noncomputable def st99_C8_0 (n:Nat) (lC10_0:Int→Int→(List NT)→Option R99) (x0:Int) (x1:Int) (x2:List NT):Option R99 :=
 cond (decide ((0:Int)≤x1)) (cond (decide (x1 < (↑x2.length:Int))) (lC10_0 (Go.IntKind.i64.wrap (x0 + (1:Int))) (x1) (x2.set x1.toNat ((x2.getD x1.toNat ZN).1,(x2.getD x1.toNat ZN).2.1,x0,(x2.getD x1.toNat ZN).2.2.2))) (none)) (none)
noncomputable def st99_C6_0 (n:Nat) (lC8_0:Int→Int→(List NT)→Option R99) (x0:Int) (x1:Int) (x2:List NT):Option R99 :=
 cond (decide ((0:Int)≤x1)) (cond (decide (x1 < (↑x2.length:Int))) (lC8_0 (Go.IntKind.i64.wrap (x0 + (1:Int))) (x1) (x2.set x1.toNat ((x2.getD x1.toNat ZN).1,x0,(x2.getD x1.toNat ZN).2.2))) (none)) (none)
noncomputable def st99_L2 (n:Nat) (lC6_0:Int→Int→(List NT)→Option R99) (x0:Int) (x1:Int) (x2:List NT):Option R99 :=
 cond (decide (x1 < (↑x2.length:Int))) (cond (decide ((0:Int)≤x1)) (cond (decide (x1 < (↑x2.length:Int))) (lC6_0 (Go.IntKind.i64.wrap (x0 + (1:Int))) (x1) (x2.set x1.toNat (x0,(x2.getD x1.toNat ZN).2))) (none)) (none)) (some ((x0,()),(x2,())))
theorem e99_top (n:Nat) (a:List NT) (b:Int):runF TT G99 an99 Try.f99 c99 ps99 rs99 n (a,b,())=st99_top n (fun x0 x1 x2=>at99 n (.head 2) [n] (sh99_L2 x0 x1 x2)) a b:=by kernel_rfl
theorem e99_C20_0 (n:Nat) (m2:Nat) (x0:Int) (x1:Int) (x2:List NT):at99 n (.op 20 0) [m2] (sh99_C20_0 x0 x1 x2)=st99_C20_0 n (fun x0 x1 x2=>at99 n (.head 2) [m2] (sh99_L2 x0 x1 x2)) x0 x1 x2:=by kernel_rfl
theorem e99_C18_0 (n:Nat) (m2:Nat) (x0:Int) (x1:Int) (x2:List NT):at99 n (.op 18 0) [m2] (sh99_C18_0 x0 x1 x2)=st99_C18_0 n (fun x0 x1 x2=>at_ 20000 (at99 n (.op 20 0) [m2]) (sh99_C20_0 x0 x1 x2)) x0 x1 x2:=by kernel_rfl
theorem e99_C16_0 (n:Nat) (m2:Nat) (x0:Int) (x1:Int) (x2:List NT):at99 n (.op 16 0) [m2] (sh99_C16_0 x0 x1 x2)=st99_C16_0 n (fun x0 x1 x2=>at_ 18000 (at99 n (.op 18 0) [m2]) (sh99_C18_0 x0 x1 x2)) x0 x1 x2:=by kernel_rfl
theorem e99_C14_0 (n:Nat) (m2:Nat) (x0:Int) (x1:Int) (x2:List NT):at99 n (.op 14 0) [m2] (sh99_C14_0 x0 x1 x2)=st99_C14_0 n (fun x0 x1 x2=>at_ 16000 (at99 n (.op 16 0) [m2]) (sh99_C16_0 x0 x1 x2)) x0 x1 x2:=by kernel_rfl
theorem e99_C12_0 (n:Nat) (m2:Nat) (x0:Int) (x1:Int) (x2:List NT):at99 n (.op 12 0) [m2] (sh99_C12_0 x0 x1 x2)=st99_C12_0 n (fun x0 x1 x2=>at_ 14000 (at99 n (.op 14 0) [m2]) (sh99_C14_0 x0 x1 x2)) x0 x1 x2:=by kernel_rfl
theorem e99_C10_0 (n:Nat) (m2:Nat) (x0:Int) (x1:Int) (x2:List NT):at99 n (.op 10 0) [m2] (sh99_C10_0 x0 x1 x2)=st99_C10_0 n (fun x0 x1 x2=>at_ 12000 (at99 n (.op 12 0) [m2]) (sh99_C12_0 x0 x1 x2)) x0 x1 x2:=by kernel_rfl
theorem e99_C8_0 (n:Nat) (m2:Nat) (x0:Int) (x1:Int) (x2:List NT):at99 n (.op 8 0) [m2] (sh99_C8_0 x0 x1 x2)=st99_C8_0 n (fun x0 x1 x2=>at_ 10000 (at99 n (.op 10 0) [m2]) (sh99_C10_0 x0 x1 x2)) x0 x1 x2:=by kernel_rfl
theorem e99_C6_0 (n:Nat) (m2:Nat) (x0:Int) (x1:Int) (x2:List NT):at99 n (.op 6 0) [m2] (sh99_C6_0 x0 x1 x2)=st99_C6_0 n (fun x0 x1 x2=>at_ 8000 (at99 n (.op 8 0) [m2]) (sh99_C8_0 x0 x1 x2)) x0 x1 x2:=by kernel_rfl
theorem e99_L2_0 (n:Nat) (x0:Int) (x1:Int) (x2:List NT):at99 n (.head 2) [0] (sh99_L2 x0 x1 x2)=none:=by kernel_rfl
theorem e99_L2 (n:Nat) (m2:Nat) (x0:Int) (x1:Int) (x2:List NT):at99 n (.head 2) [m2 + 1] (sh99_L2 x0 x1 x2)=st99_L2 n (fun x0 x1 x2=>at_ 6000 (at99 n (.op 6 0) [m2]) (sh99_C6_0 x0 x1 x2)) x0 x1 x2:=by kernel_rfl
noncomputable def p99_C20_0 (g2:Int→Int→(List NT)→Option R99) (n:Nat) (x0:Int) (x1:Int) (x2:List NT):Option R99:=st99_C20_0 n g2 x0 x1 x2
noncomputable def p99_C18_0 (g2:Int→Int→(List NT)→Option R99) (n:Nat) (x0:Int) (x1:Int) (x2:List NT):Option R99:=st99_C18_0 n (p99_C20_0 g2 n) x0 x1 x2
noncomputable def p99_C16_0 (g2:Int→Int→(List NT)→Option R99) (n:Nat) (x0:Int) (x1:Int) (x2:List NT):Option R99:=st99_C16_0 n (p99_C18_0 g2 n) x0 x1 x2
noncomputable def p99_C14_0 (g2:Int→Int→(List NT)→Option R99) (n:Nat) (x0:Int) (x1:Int) (x2:List NT):Option R99:=st99_C14_0 n (p99_C16_0 g2 n) x0 x1 x2
noncomputable def p99_C12_0 (g2:Int→Int→(List NT)→Option R99) (n:Nat) (x0:Int) (x1:Int) (x2:List NT):Option R99:=st99_C12_0 n (p99_C14_0 g2 n) x0 x1 x2
noncomputable def p99_C10_0 (g2:Int→Int→(List NT)→Option R99) (n:Nat) (x0:Int) (x1:Int) (x2:List NT):Option R99:=st99_C10_0 n (p99_C12_0 g2 n) x0 x1 x2
noncomputable def p99_C8_0 (g2:Int→Int→(List NT)→Option R99) (n:Nat) (x0:Int) (x1:Int) (x2:List NT):Option R99:=st99_C8_0 n (p99_C10_0 g2 n) x0 x1 x2
noncomputable def p99_C6_0 (g2:Int→Int→(List NT)→Option R99) (n:Nat) (x0:Int) (x1:Int) (x2:List NT):Option R99:=st99_C6_0 n (p99_C8_0 g2 n) x0 x1 x2
noncomputable def p99_L2 (n:Nat):Nat→Int→Int→(List NT)→Option R99
 | 0,_,_,_=>none
 | m + 1,x0,x1,x2=>st99_L2 n (p99_C6_0 (p99_L2 n m) n) x0 x1 x2
noncomputable def p99 (n:Nat) (a:List NT) (b:Int):Option R99:=st99_top n (p99_L2 n n) a b
theorem t99_C20_0 (n:Nat) (m2:Nat) (x0:Int) (x1:Int) (x2:List NT):at99 n (.op 20 0) [m2] (sh99_C20_0 x0 x1 x2)=p99_C20_0 (fun x0 x1 x2=>at99 n (.head 2) [m2] (sh99_L2 x0 x1 x2)) n x0 x1 x2:=by
 rw [e99_C20_0]
 skip
 try rfl
theorem t99_C18_0 (n:Nat) (m2:Nat) (x0:Int) (x1:Int) (x2:List NT):at99 n (.op 18 0) [m2] (sh99_C18_0 x0 x1 x2)=p99_C18_0 (fun x0 x1 x2=>at99 n (.head 2) [m2] (sh99_L2 x0 x1 x2)) n x0 x1 x2:=by
 rw [e99_C18_0]
 simp only [ateq99,t99_C20_0]
 try rfl
theorem t99_C16_0 (n:Nat) (m2:Nat) (x0:Int) (x1:Int) (x2:List NT):at99 n (.op 16 0) [m2] (sh99_C16_0 x0 x1 x2)=p99_C16_0 (fun x0 x1 x2=>at99 n (.head 2) [m2] (sh99_L2 x0 x1 x2)) n x0 x1 x2:=by
 rw [e99_C16_0]
 simp only [ateq99,t99_C18_0]
 try rfl
theorem t99_C14_0 (n:Nat) (m2:Nat) (x0:Int) (x1:Int) (x2:List NT):at99 n (.op 14 0) [m2] (sh99_C14_0 x0 x1 x2)=p99_C14_0 (fun x0 x1 x2=>at99 n (.head 2) [m2] (sh99_L2 x0 x1 x2)) n x0 x1 x2:=by
 rw [e99_C14_0]
 simp only [ateq99,t99_C16_0]
 try rfl
theorem t99_C12_0 (n:Nat) (m2:Nat) (x0:Int) (x1:Int) (x2:List NT):at99 n (.op 12 0) [m2] (sh99_C12_0 x0 x1 x2)=p99_C12_0 (fun x0 x1 x2=>at99 n (.head 2) [m2] (sh99_L2 x0 x1 x2)) n x0 x1 x2:=by
 rw [e99_C12_0]
 simp only [ateq99,t99_C14_0]
 try rfl
theorem t99_C10_0 (n:Nat) (m2:Nat) (x0:Int) (x1:Int) (x2:List NT):at99 n (.op 10 0) [m2] (sh99_C10_0 x0 x1 x2)=p99_C10_0 (fun x0 x1 x2=>at99 n (.head 2) [m2] (sh99_L2 x0 x1 x2)) n x0 x1 x2:=by
 rw [e99_C10_0]
 simp only [ateq99,t99_C12_0]
 try rfl
theorem t99_C8_0 (n:Nat) (m2:Nat) (x0:Int) (x1:Int) (x2:List NT):at99 n (.op 8 0) [m2] (sh99_C8_0 x0 x1 x2)=p99_C8_0 (fun x0 x1 x2=>at99 n (.head 2) [m2] (sh99_L2 x0 x1 x2)) n x0 x1 x2:=by
 rw [e99_C8_0]
 simp only [ateq99,t99_C10_0]
 try rfl
theorem t99_C6_0 (n:Nat) (m2:Nat) (x0:Int) (x1:Int) (x2:List NT):at99 n (.op 6 0) [m2] (sh99_C6_0 x0 x1 x2)=p99_C6_0 (fun x0 x1 x2=>at99 n (.head 2) [m2] (sh99_L2 x0 x1 x2)) n x0 x1 x2:=by
 rw [e99_C6_0]
 simp only [ateq99,t99_C8_0]
 try rfl
theorem t99_L2 (n:Nat):∀ (m2:Nat) (x0:Int) (x1:Int) (x2:List NT),at99 n (.head 2) [m2] (sh99_L2 x0 x1 x2)=p99_L2 n m2 x0 x1 x2:=by
 intro m
 induction m with
 | zero=>intros; rw [e99_L2_0]; rfl
 | succ m ih =>
  intros
  rw [e99_L2]
  try simp only [ateq99,t99_C6_0,ih]
  rfl
theorem F99_eq (n:Nat) (a:List NT) (b:Int):runF TT G99 an99 Try.f99 c99 ps99 rs99 n (a,b,())=p99 n a b:=by
 rw [e99_top]
 simp only [t99_L2]
 try rfl
noncomputable def q99 (n:Nat) (x:argsD ps99):Option R99:=p99 n x.1 x.2.1
noncomputable def Sm99:Sm:=⟨ps99,rs99,false,q99⟩
theorem holds99 (hg:GamOK Try.prog G99):Holds Try.prog 99 Sm99:=by
 have:=h0_99 hg
 have e:(runF TT G99 an99 Try.f99 c99 ps99 rs99)=q99:=by
  funext n x
  exact F99_eq n x.1 x.2.1
 rw [e] at this
 exact this
theorem gam99:GamOK Try.prog G99:=by
 intro f s h
 unfold G99 at h
 split at h
 ·injection h with h; subst h; exact ⟨⟨Try.f136,c136,Try.func136,by kernel_rfl,by decide +kernel⟩,hh136⟩
 ·injection h with h; subst h; exact ⟨⟨Try.f137,c137,Try.func137,by kernel_rfl,by decide +kernel⟩,hh137⟩
 ·cases h
theorem hh99:Holds Try.prog 99 Sm99:=holds99 gam99
end Go.Proofs.Ytbjgiioppmkpiaa.Rx.S

namespace Go.Proofs.Ytbjgiioppmkpiaa.Rx.S
open Go Go.RowKit Go.Proofs
set_option maxRecDepth 100000
noncomputable def c42:Code:=(Try.f42.body.getD .skip)
def an42:An:=⟨fun _=>⟨[],[]⟩,fun _ _=>none⟩
abbrev ps42:List PK:=[.io tFs true,.val i64 false]
abbrev rs42:List RK:=[.val i64 false]
abbrev R42:=retsD rs42 × outsD ps42
noncomputable def G42:Gam:=fun f=>match f with | 99=>some Sm99 | _=>none
theorem h0_42 (hg:GamOK Try.prog G42):Holds Try.prog 42 ⟨ps42,rs42,false,runF TT G42 an42 Try.f42 c42 ps42 rs42⟩:=holds_of tt_ok hg mixed Try.func42 (by kernel_rfl) (by rfl) (by decide +kernel)
noncomputable def st42_top (n:Nat) (a:List NT) (b:Int):Option R42 :=
 (q99 n (a,b,())).bind fun r0=>some ((r0.1.1,()),(r0.2.1,()))
theorem e42_top (n:Nat) (a:List NT) (b:Int):runF TT G42 an42 Try.f42 c42 ps42 rs42 n (a,b,())=st42_top n a b:=by kernel_rfl
noncomputable def p42 (n:Nat) (a:List NT) (b:Int):Option R42:=st42_top n a b
theorem F42_eq (n:Nat) (a:List NT) (b:Int):runF TT G42 an42 Try.f42 c42 ps42 rs42 n (a,b,())=p42 n a b:=by
 rw [e42_top]
 skip
 try rfl
noncomputable def q42 (n:Nat) (x:argsD ps42):Option R42:=p42 n x.1 x.2.1
noncomputable def Sm42:Sm:=⟨ps42,rs42,false,q42⟩
theorem holds42 (hg:GamOK Try.prog G42):Holds Try.prog 42 Sm42:=by
 have:=h0_42 hg
 have e:(runF TT G42 an42 Try.f42 c42 ps42 rs42)=q42:=by
  funext n x
  exact F42_eq n x.1 x.2.1
 rw [e] at this
 exact this
theorem gam42:GamOK Try.prog G42:=by
 intro f s h
 unfold G42 at h
 split at h
 ·injection h with h; subst h; exact ⟨⟨Try.f99,c99,Try.func99,by kernel_rfl,by decide +kernel⟩,hh99⟩
 ·cases h
theorem hh42:Holds Try.prog 42 Sm42:=holds42 gam42
end Go.Proofs.Ytbjgiioppmkpiaa.Rx.S

namespace Go.Proofs.Ytbjgiioppmkpiaa.Rx.S
open Go Go.RowKit Go.Proofs
set_option maxRecDepth 100000
noncomputable def c43:Code:=(Try.f43.body.getD .skip)
def an43:An:=⟨fun _=>⟨[],[]⟩,fun _ _=>none⟩
abbrev ps43:List PK:=[.val tFs true,.val i64 false]
abbrev rs43:List RK:=[.val i64 false]
abbrev R43:=retsD rs43 × outsD ps43
noncomputable def G43:Gam:=fun f=>match f with | 100=>some Sm100 | _=>none
theorem h0_43 (hg:GamOK Try.prog G43):Holds Try.prog 43 ⟨ps43,rs43,false,runF TT G43 an43 Try.f43 c43 ps43 rs43⟩:=holds_of tt_ok hg mixed Try.func43 (by kernel_rfl) (by rfl) (by decide +kernel)
noncomputable def st43_top (n:Nat) (a:List NT) (b:Int):Option R43 :=
 (q100 n (a,b,())).bind fun r0=>cond (decide (r0.1.1 < (0:Int))) (some (((-1:Int),()),())) (some ((r0.1.1,()),()))
theorem e43_top (n:Nat) (a:List NT) (b:Int):runF TT G43 an43 Try.f43 c43 ps43 rs43 n (a,b,())=st43_top n a b:=by kernel_rfl
noncomputable def p43 (n:Nat) (a:List NT) (b:Int):Option R43:=st43_top n a b
theorem F43_eq (n:Nat) (a:List NT) (b:Int):runF TT G43 an43 Try.f43 c43 ps43 rs43 n (a,b,())=p43 n a b:=by
 rw [e43_top]
 skip
 try rfl
noncomputable def q43 (n:Nat) (x:argsD ps43):Option R43:=p43 n x.1 x.2.1
noncomputable def Sm43:Sm:=⟨ps43,rs43,false,q43⟩
theorem holds43 (hg:GamOK Try.prog G43):Holds Try.prog 43 Sm43:=by
 have:=h0_43 hg
 have e:(runF TT G43 an43 Try.f43 c43 ps43 rs43)=q43:=by
  funext n x
  exact F43_eq n x.1 x.2.1
 rw [e] at this
 exact this
theorem gam43:GamOK Try.prog G43:=by
 intro f s h
 unfold G43 at h
 split at h
 ·injection h with h; subst h; exact ⟨⟨Try.f100,c100,Try.func100,by kernel_rfl,by decide +kernel⟩,hh100⟩
 ·cases h
theorem hh43:Holds Try.prog 43 Sm43:=holds43 gam43
end Go.Proofs.Ytbjgiioppmkpiaa.Rx.S

namespace Go.Proofs.Ytbjgiioppmkpiaa.Rx.S
open Go Go.RowKit Go.Proofs
set_option maxRecDepth 100000
noncomputable def c156:Code:=(Try.f156.body.getD .skip)
def an156:An:=⟨fun _=>⟨[],[]⟩,fun _ _=>none⟩
abbrev ps156:List PK:=[.val tEn true,.val i64 false]
abbrev rs156:List RK:=[.val i64 false]
abbrev R156:=retsD rs156 × outsD ps156
noncomputable def G156:Gam:=fun _=>none
theorem h0_156 (hg:GamOK Try.prog G156):Holds Try.prog 156 ⟨ps156,rs156,false,runF TT G156 an156 Try.f156 c156 ps156 rs156⟩:=holds_of tt_ok hg mixed Try.func156 (by kernel_rfl) (by rfl) (by decide +kernel)
noncomputable def st156_top (n:Nat) (a:ByteArray × Int) (b:Int):Option R156 :=
 cond (decide (Go.IntKind.i64.wrap (b - (↑(ByteArray.size a.1):Int)) < (0:Int))) (some (((-1:Int),()),())) (some ((Go.IntKind.i64.wrap (b - (↑(ByteArray.size a.1):Int)),()),()))
theorem e156_top (n:Nat) (a:ByteArray × Int) (b:Int):runF TT G156 an156 Try.f156 c156 ps156 rs156 n (a,b,())=st156_top n a b:=by kernel_rfl
noncomputable def p156 (n:Nat) (a:ByteArray × Int) (b:Int):Option R156:=st156_top n a b
theorem F156_eq (n:Nat) (a:ByteArray × Int) (b:Int):runF TT G156 an156 Try.f156 c156 ps156 rs156 n (a,b,())=p156 n a b:=by
 rw [e156_top]
 skip
 try rfl
noncomputable def q156 (n:Nat) (x:argsD ps156):Option R156:=p156 n x.1 x.2.1
noncomputable def Sm156:Sm:=⟨ps156,rs156,false,q156⟩
theorem holds156 (hg:GamOK Try.prog G156):Holds Try.prog 156 Sm156:=by
 have:=h0_156 hg
 have e:(runF TT G156 an156 Try.f156 c156 ps156 rs156)=q156:=by
  funext n x
  exact F156_eq n x.1 x.2.1
 rw [e] at this
 exact this
theorem gam156:GamOK Try.prog G156:=fun _ _ h=>by cases h
theorem hh156:Holds Try.prog 156 Sm156:=holds156 gam156
end Go.Proofs.Ytbjgiioppmkpiaa.Rx.S

namespace Go.Proofs.Ytbjgiioppmkpiaa.Rx.S
open Go Go.RowKit Go.Proofs
set_option maxRecDepth 100000
noncomputable def c149:Code:=(Try.f149.body.getD .skip)
def an149:An:=⟨fun r=>match r with | 5=>⟨[0,1,5],[]⟩ | _=>⟨[],[]⟩,fun _ _=>none⟩
abbrev ps149:List PK:=[.val (.row 178 tEn) false,.val i64 false]
abbrev rs149:List RK:=[.val i64 false]
abbrev R149:=retsD rs149 × outsD ps149
noncomputable def G149:Gam:=fun f=>match f with | 156=>some Sm156 | _=>none
theorem h0_149 (hg:GamOK Try.prog G149):Holds Try.prog 149 ⟨ps149,rs149,false,runF TT G149 an149 Try.f149 c149 ps149 rs149⟩:=holds_of tt_ok hg mixed Try.func149 (by kernel_rfl) (by rfl) (by decide +kernel)
noncomputable def at149:Nat→Pt→List Nat→St→Option R149:=atF TT G149 an149 Try.f149 c149 _ _
def sh149_L5 (x0:List (ByteArray × Int)) (x1:Int) (x2:Int):St:=(St.mk ((AV.one (SV.con (⟨178,Ty.str.pair (Ty.int Go.IntKind.i64),x0⟩:Rw))) :: ((AV.one (SV.int (Go.IntKind.i64) x1)) :: (AV.undef :: (AV.undef :: (AV.undef :: ((AV.one (SV.int (Go.IntKind.i64) x2)) :: (AV.undef :: (AV.undef :: (AV.undef :: (AV.undef :: (AV.undef :: (AV.undef :: (AV.undef :: (AV.undef :: (AV.undef :: (AV.undef :: (AV.undef :: (AV.undef :: (AV.undef :: (AV.undef :: (AV.undef :: (AV.undef :: (AV.undef :: (AV.undef :: (AV.undef :: (AV.undef :: (AV.undef :: []))))))))))))))))))))))))))) [])
noncomputable def st149_top (n:Nat) (lL5:(List (ByteArray × Int))→Int→Int→Option R149) (a:List (ByteArray × Int)) (b:Int):Option R149 :=
 cond (decide (Go.IntKind.i64.wrap (b - (↑a.length:Int)) < (0:Int))) (some (((-1:Int),()),())) (lL5 (a) (Go.IntKind.i64.wrap (b - (↑a.length:Int))) ((0:Int)))
noncomputable def st149_L5 (n:Nat) (lL5:(List (ByteArray × Int))→Int→Int→Option R149) (x0:List (ByteArray × Int)) (x1:Int) (x2:Int):Option R149 :=
 cond (decide (x2 < (↑x0.length:Int))) (cond (decide ((0:Int)≤x2)) (cond (decide (x2 < (↑x0.length:Int))) ((q156 n (((x0.getD x2.toNat (ByteArray.empty,(0:Int))).1,(x0.getD x2.toNat (ByteArray.empty,(0:Int))).2),x1,())).bind fun r1=>cond (decide (r1.1.1 < (0:Int))) (some (((-1:Int),()),())) (lL5 (x0) (r1.1.1) (Go.IntKind.i64.wrap (x2 + (1:Int))))) (none)) (none)) (some ((x1,()),()))
theorem e149_top (n:Nat) (a:List (ByteArray × Int)) (b:Int):runF TT G149 an149 Try.f149 c149 ps149 rs149 n (a,b,())=st149_top n (fun x0 x1 x2=>at149 n (.head 5) [n] (sh149_L5 x0 x1 x2)) a b:=by kernel_rfl
theorem e149_L5_0 (n:Nat) (x0:List (ByteArray × Int)) (x1:Int) (x2:Int):at149 n (.head 5) [0] (sh149_L5 x0 x1 x2)=none:=by kernel_rfl
theorem e149_L5 (n:Nat) (m5:Nat) (x0:List (ByteArray × Int)) (x1:Int) (x2:Int):at149 n (.head 5) [m5 + 1] (sh149_L5 x0 x1 x2)=st149_L5 n (fun x0 x1 x2=>at149 n (.head 5) [m5] (sh149_L5 x0 x1 x2)) x0 x1 x2:=by kernel_rfl
noncomputable def p149_L5 (n:Nat):Nat→(List (ByteArray × Int))→Int→Int→Option R149
 | 0,_,_,_=>none
 | m + 1,x0,x1,x2=>st149_L5 n (p149_L5 n m) x0 x1 x2
noncomputable def p149 (n:Nat) (a:List (ByteArray × Int)) (b:Int):Option R149:=st149_top n (p149_L5 n n) a b
theorem t149_L5 (n:Nat):∀ (m5:Nat) (x0:List (ByteArray × Int)) (x1:Int) (x2:Int),at149 n (.head 5) [m5] (sh149_L5 x0 x1 x2)=p149_L5 n m5 x0 x1 x2:=by
 intro m
 induction m with
 | zero=>intros; rw [e149_L5_0]; rfl
 | succ m ih =>
  intros
  rw [e149_L5]
  try simp only [ih]
  rfl
theorem F149_eq (n:Nat) (a:List (ByteArray × Int)) (b:Int):runF TT G149 an149 Try.f149 c149 ps149 rs149 n (a,b,())=p149 n a b:=by
 rw [e149_top]
 simp only [t149_L5]
 try rfl
noncomputable def q149 (n:Nat) (x:argsD ps149):Option R149:=p149 n x.1 x.2.1
noncomputable def Sm149:Sm:=⟨ps149,rs149,false,q149⟩
theorem holds149 (hg:GamOK Try.prog G149):Holds Try.prog 149 Sm149:=by
 have:=h0_149 hg
 have e:(runF TT G149 an149 Try.f149 c149 ps149 rs149)=q149:=by
  funext n x
  exact F149_eq n x.1 x.2.1
 rw [e] at this
 exact this
theorem gam149:GamOK Try.prog G149:=by
 intro f s h
 unfold G149 at h
 split at h
 ·injection h with h; subst h; exact ⟨⟨Try.f156,c156,Try.func156,by kernel_rfl,by decide +kernel⟩,hh156⟩
 ·cases h
theorem hh149:Holds Try.prog 149 Sm149:=holds149 gam149
end Go.Proofs.Ytbjgiioppmkpiaa.Rx.S

namespace Go.Proofs.Ytbjgiioppmkpiaa.Rx.S
open Go Go.RowKit Go.Proofs
set_option maxRecDepth 100000
noncomputable def c133:Code:=(Try.f133.body.getD .skip)
def an133:An:=⟨fun _=>⟨[],[]⟩,fun _ _=>none⟩
abbrev ps133:List PK:=[.val (tIn 178) true,.val i64 false]
abbrev rs133:List RK:=[.val i64 false]
abbrev R133:=retsD rs133 × outsD ps133
noncomputable def G133:Gam:=fun f=>match f with | 149=>some Sm149 | _=>none
theorem h0_133 (hg:GamOK Try.prog G133):Holds Try.prog 133 ⟨ps133,rs133,false,runF TT G133 an133 Try.f133 c133 ps133 rs133⟩:=holds_of tt_ok hg mixed Try.func133 (by kernel_rfl) (by rfl) (by decide +kernel)
noncomputable def st133_top (n:Nat) (a:NT) (b:Int):Option R133 :=
 cond (decide (Go.IntKind.i64.wrap (b - (↑(ByteArray.size a.2.2.2.2.2.2.2.1):Int)) < (0:Int))) (some (((-1:Int),()),())) ((q149 n (a.2.2.2.2.2.2.2.2,Go.IntKind.i64.wrap (b - (↑(ByteArray.size a.2.2.2.2.2.2.2.1):Int)),())).bind fun r0=>cond (decide (r0.1.1 < (0:Int))) (some (((-1:Int),()),())) (some ((r0.1.1,()),())))
theorem e133_top (n:Nat) (a:NT) (b:Int):runF TT G133 an133 Try.f133 c133 ps133 rs133 n (a,b,())=st133_top n a b:=by kernel_rfl
noncomputable def p133 (n:Nat) (a:NT) (b:Int):Option R133:=st133_top n a b
theorem F133_eq (n:Nat) (a:NT) (b:Int):runF TT G133 an133 Try.f133 c133 ps133 rs133 n (a,b,())=p133 n a b:=by
 rw [e133_top]
 skip
 try rfl
noncomputable def q133 (n:Nat) (x:argsD ps133):Option R133:=p133 n x.1 x.2.1
noncomputable def Sm133:Sm:=⟨ps133,rs133,false,q133⟩
theorem holds133 (hg:GamOK Try.prog G133):Holds Try.prog 133 Sm133:=by
 have:=h0_133 hg
 have e:(runF TT G133 an133 Try.f133 c133 ps133 rs133)=q133:=by
  funext n x
  exact F133_eq n x.1 x.2.1
 rw [e] at this
 exact this
theorem gam133:GamOK Try.prog G133:=by
 intro f s h
 unfold G133 at h
 split at h
 ·injection h with h; subst h; exact ⟨⟨Try.f149,c149,Try.func149,by kernel_rfl,by decide +kernel⟩,hh149⟩
 ·cases h
theorem hh133:Holds Try.prog 133 Sm133:=holds133 gam133
end Go.Proofs.Ytbjgiioppmkpiaa.Rx.S

namespace Go.Proofs.Ytbjgiioppmkpiaa.Rx.S
open Go Go.RowKit Go.Proofs
set_option maxRecDepth 100000
noncomputable def c157:Code:=(Try.f157.body.getD .skip)
def an157:An:=⟨fun _=>⟨[],[]⟩,fun _ _=>none⟩
abbrev ps157:List PK:=[.val tEn true]
abbrev rs157:List RK:=[.val tEn true]
abbrev R157:=retsD rs157 × outsD ps157
noncomputable def G157:Gam:=fun _=>none
theorem h0_157 (hg:GamOK Try.prog G157):Holds Try.prog 157 ⟨ps157,rs157,false,runF TT G157 an157 Try.f157 c157 ps157 rs157⟩:=holds_of tt_ok hg mixed Try.func157 (by kernel_rfl) (by rfl) (by decide +kernel)
noncomputable def st157_top (n:Nat) (a:ByteArray × Int):Option R157 :=
 some (((a.1,a.2),()),())
theorem e157_top (n:Nat) (a:ByteArray × Int):runF TT G157 an157 Try.f157 c157 ps157 rs157 n (a,())=st157_top n a:=by kernel_rfl
noncomputable def p157 (n:Nat) (a:ByteArray × Int):Option R157:=st157_top n a
theorem F157_eq (n:Nat) (a:ByteArray × Int):runF TT G157 an157 Try.f157 c157 ps157 rs157 n (a,())=p157 n a:=by
 rw [e157_top]
 skip
 try rfl
noncomputable def q157 (n:Nat) (x:argsD ps157):Option R157:=p157 n x.1
noncomputable def Sm157:Sm:=⟨ps157,rs157,false,q157⟩
theorem holds157 (hg:GamOK Try.prog G157):Holds Try.prog 157 Sm157:=by
 have:=h0_157 hg
 have e:(runF TT G157 an157 Try.f157 c157 ps157 rs157)=q157:=by
  funext n x
  exact F157_eq n x.1
 rw [e] at this
 exact this
theorem gam157:GamOK Try.prog G157:=fun _ _ h=>by cases h
theorem hh157:Holds Try.prog 157 Sm157:=holds157 gam157
end Go.Proofs.Ytbjgiioppmkpiaa.Rx.S

namespace Go.Proofs.Ytbjgiioppmkpiaa.Rx.S
open Go Go.RowKit Go.Proofs
set_option maxRecDepth 100000
noncomputable def c150:Code:=(Try.f150.body.getD .skip)
def an150:An:=⟨fun r=>match r with | 3=>⟨[0,3,4],[]⟩ | _=>⟨[],[]⟩,fun _ _=>none⟩
abbrev ps150:List PK:=[.val (.row 178 tEn) false]
abbrev rs150:List RK:=[.own (.row 100 tEn) false]
abbrev R150:=retsD rs150 × outsD ps150
noncomputable def G150:Gam:=fun f=>match f with | 157=>some Sm157 | _=>none
theorem h0_150 (hg:GamOK Try.prog G150):Holds Try.prog 150 ⟨ps150,rs150,false,runF TT G150 an150 Try.f150 c150 ps150 rs150⟩:=holds_of tt_ok hg mixed Try.func150 (by kernel_rfl) (by rfl) (by decide +kernel)
noncomputable def at150:Nat→Pt→List Nat→St→Option R150:=atF TT G150 an150 Try.f150 c150 _ _
def sh150_L3 (x0:List (ByteArray × Int)) (x1:Int) (x2:List (ByteArray × Int)):St:=(St.mk ((AV.one (SV.con (⟨178,Ty.str.pair (Ty.int Go.IntKind.i64),x0⟩:Rw))) :: (AV.undef :: (AV.undef :: ((AV.one (SV.ref 1000000 0 [] Option.none)) :: ((AV.one (SV.int (Go.IntKind.i64) x1)) :: (AV.undef :: (AV.undef :: (AV.undef :: (AV.undef :: (AV.undef :: (AV.undef :: (AV.undef :: (AV.undef :: (AV.undef :: (AV.undef :: (AV.undef :: (AV.undef :: (AV.undef :: (AV.undef :: (AV.undef :: (AV.undef :: (AV.undef :: (AV.undef :: []))))))))))))))))))))))) ((1000000,(Ent.row (⟨100,Ty.str.pair (Ty.int Go.IntKind.i64),x2⟩:Rw) 0 Option.none)) :: []))
noncomputable def st150_top (n:Nat) (lL3:(List (ByteArray × Int))→Int→(List (ByteArray × Int))→Option R150) (a:List (ByteArray × Int)):Option R150 :=
 cond (decide ((↑a.length:Int) * (↑(24:Nat):Int)≤(140737488355328:Int))) (lL3 (a) ((0:Int)) (List.replicate (↑a.length:Int).toNat (ByteArray.empty,(0:Int)))) (none)
noncomputable def st150_L3 (n:Nat) (lL3:(List (ByteArray × Int))→Int→(List (ByteArray × Int))→Option R150) (x0:List (ByteArray × Int)) (x1:Int) (x2:List (ByteArray × Int)):Option R150 :=
 cond (decide (x1 < (↑x0.length:Int))) (cond (decide ((0:Int)≤x1)) (cond (decide (x1 < (↑x0.length:Int))) ((q157 n (((x0.getD x1.toNat (ByteArray.empty,(0:Int))).1,(x0.getD x1.toNat (ByteArray.empty,(0:Int))).2),())).bind fun r1=>cond (decide ((0:Int)≤x1)) (cond (decide (x1 < (↑x2.length:Int))) (lL3 (x0) (Go.IntKind.i64.wrap (x1 + (1:Int))) (x2.set x1.toNat (r1.1.1.1,r1.1.1.2))) (none)) (none)) (none)) (none)) (some ((x2,()),()))
theorem e150_top (n:Nat) (a:List (ByteArray × Int)):runF TT G150 an150 Try.f150 c150 ps150 rs150 n (a,())=st150_top n (fun x0 x1 x2=>at150 n (.head 3) [n] (sh150_L3 x0 x1 x2)) a:=by kernel_rfl
theorem e150_L3_0 (n:Nat) (x0:List (ByteArray × Int)) (x1:Int) (x2:List (ByteArray × Int)):at150 n (.head 3) [0] (sh150_L3 x0 x1 x2)=none:=by kernel_rfl
theorem e150_L3 (n:Nat) (m3:Nat) (x0:List (ByteArray × Int)) (x1:Int) (x2:List (ByteArray × Int)):at150 n (.head 3) [m3 + 1] (sh150_L3 x0 x1 x2)=st150_L3 n (fun x0 x1 x2=>at150 n (.head 3) [m3] (sh150_L3 x0 x1 x2)) x0 x1 x2:=by kernel_rfl
noncomputable def p150_L3 (n:Nat):Nat→(List (ByteArray × Int))→Int→(List (ByteArray × Int))→Option R150
 | 0,_,_,_=>none
 | m + 1,x0,x1,x2=>st150_L3 n (p150_L3 n m) x0 x1 x2
noncomputable def p150 (n:Nat) (a:List (ByteArray × Int)):Option R150:=st150_top n (p150_L3 n n) a
theorem t150_L3 (n:Nat):∀ (m3:Nat) (x0:List (ByteArray × Int)) (x1:Int) (x2:List (ByteArray × Int)),at150 n (.head 3) [m3] (sh150_L3 x0 x1 x2)=p150_L3 n m3 x0 x1 x2:=by
 intro m
 induction m with
 | zero=>intros; rw [e150_L3_0]; rfl
 | succ m ih =>
  intros
  rw [e150_L3]
  try simp only [ih]
  rfl
theorem F150_eq (n:Nat) (a:List (ByteArray × Int)):runF TT G150 an150 Try.f150 c150 ps150 rs150 n (a,())=p150 n a:=by
 rw [e150_top]
 simp only [t150_L3]
 try rfl
noncomputable def q150 (n:Nat) (x:argsD ps150):Option R150:=p150 n x.1
noncomputable def Sm150:Sm:=⟨ps150,rs150,false,q150⟩
theorem holds150 (hg:GamOK Try.prog G150):Holds Try.prog 150 Sm150:=by
 have:=h0_150 hg
 have e:(runF TT G150 an150 Try.f150 c150 ps150 rs150)=q150:=by
  funext n x
  exact F150_eq n x.1
 rw [e] at this
 exact this
theorem gam150:GamOK Try.prog G150:=by
 intro f s h
 unfold G150 at h
 split at h
 ·injection h with h; subst h; exact ⟨⟨Try.f157,c157,Try.func157,by kernel_rfl,by decide +kernel⟩,hh157⟩
 ·cases h
theorem hh150:Holds Try.prog 150 Sm150:=holds150 gam150
end Go.Proofs.Ytbjgiioppmkpiaa.Rx.S

namespace Go.Proofs.Ytbjgiioppmkpiaa.Rx.S
open Go Go.RowKit Go.Proofs
set_option maxRecDepth 100000
noncomputable def c134:Code:=(Try.f134.body.getD .skip)
def an134:An:=⟨fun _=>⟨[],[]⟩,fun _ _=>none⟩
abbrev ps134:List PK:=[.val (tIn 178) true]
abbrev rs134:List RK:=[.own (tIn 100) true]
abbrev R134:=retsD rs134 × outsD ps134
noncomputable def G134:Gam:=fun f=>match f with | 150=>some Sm150 | _=>none
theorem h0_134 (hg:GamOK Try.prog G134):Holds Try.prog 134 ⟨ps134,rs134,false,runF TT G134 an134 Try.f134 c134 ps134 rs134⟩:=holds_of tt_ok hg mixed Try.func134 (by kernel_rfl) (by rfl) (by decide +kernel)
noncomputable def st134_top (n:Nat) (a:NT):Option R134 :=
 (q150 n (a.2.2.2.2.2.2.2.2,())).bind fun r0=>some (((a.1,(a.2.1,(a.2.2.1,(a.2.2.2.1,(a.2.2.2.2.1,(a.2.2.2.2.2.1,(a.2.2.2.2.2.2.1,(a.2.2.2.2.2.2.2.1,r0.1.1)))))))),()),())
theorem e134_top (n:Nat) (a:NT):runF TT G134 an134 Try.f134 c134 ps134 rs134 n (a,())=st134_top n a:=by kernel_rfl
noncomputable def p134 (n:Nat) (a:NT):Option R134:=st134_top n a
theorem F134_eq (n:Nat) (a:NT):runF TT G134 an134 Try.f134 c134 ps134 rs134 n (a,())=p134 n a:=by
 rw [e134_top]
 skip
 try rfl
noncomputable def q134 (n:Nat) (x:argsD ps134):Option R134:=p134 n x.1
noncomputable def Sm134:Sm:=⟨ps134,rs134,false,q134⟩
theorem holds134 (hg:GamOK Try.prog G134):Holds Try.prog 134 Sm134:=by
 have:=h0_134 hg
 have e:(runF TT G134 an134 Try.f134 c134 ps134 rs134)=q134:=by
  funext n x
  exact F134_eq n x.1
 rw [e] at this
 exact this
theorem gam134:GamOK Try.prog G134:=by
 intro f s h
 unfold G134 at h
 split at h
 ·injection h with h; subst h; exact ⟨⟨Try.f150,c150,Try.func150,by kernel_rfl,by decide +kernel⟩,hh150⟩
 ·cases h
theorem hh134:Holds Try.prog 134 Sm134:=holds134 gam134
end Go.Proofs.Ytbjgiioppmkpiaa.Rx.S

namespace Go.Proofs.Ytbjgiioppmkpiaa.Rx.S
open Go Go.RowKit Go.Proofs
set_option maxRecDepth 100000
noncomputable def c158:Code:=(Try.f158.body.getD .skip)
def an158:An:=⟨fun _=>⟨[],[]⟩,fun _ _=>none⟩
abbrev ps158:List PK:=[.val tEn true,.val tEn true]
abbrev rs158:List RK:=[.val .bool false]
abbrev R158:=retsD rs158 × outsD ps158
noncomputable def G158:Gam:=fun _=>none
theorem h0_158 (hg:GamOK Try.prog G158):Holds Try.prog 158 ⟨ps158,rs158,false,runF TT G158 an158 Try.f158 c158 ps158 rs158⟩:=holds_of tt_ok hg mixed Try.func158 (by kernel_rfl) (by rfl) (by decide +kernel)
noncomputable def st158_top (n:Nat) (a:ByteArray × Int) (b:ByteArray × Int):Option R158 :=
 cond (!ByteArray.toList a.1 == ByteArray.toList b.1) (some ((false,()),())) (cond (!decide (a.2=b.2)) (some ((false,()),())) (some ((true,()),())))
theorem e158_top (n:Nat) (a:ByteArray × Int) (b:ByteArray × Int):runF TT G158 an158 Try.f158 c158 ps158 rs158 n (a,b,())=st158_top n a b:=by kernel_rfl
noncomputable def p158 (n:Nat) (a:ByteArray × Int) (b:ByteArray × Int):Option R158:=st158_top n a b
theorem F158_eq (n:Nat) (a:ByteArray × Int) (b:ByteArray × Int):runF TT G158 an158 Try.f158 c158 ps158 rs158 n (a,b,())=p158 n a b:=by
 rw [e158_top]
 skip
 try rfl
noncomputable def q158 (n:Nat) (x:argsD ps158):Option R158:=p158 n x.1 x.2.1
noncomputable def Sm158:Sm:=⟨ps158,rs158,false,q158⟩
theorem holds158 (hg:GamOK Try.prog G158):Holds Try.prog 158 Sm158:=by
 have:=h0_158 hg
 have e:(runF TT G158 an158 Try.f158 c158 ps158 rs158)=q158:=by
  funext n x
  exact F158_eq n x.1 x.2.1
 rw [e] at this
 exact this
theorem gam158:GamOK Try.prog G158:=fun _ _ h=>by cases h
theorem hh158:Holds Try.prog 158 Sm158:=holds158 gam158
end Go.Proofs.Ytbjgiioppmkpiaa.Rx.S

namespace Go.Proofs.Ytbjgiioppmkpiaa.Rx.S
open Go Go.RowKit Go.Proofs
set_option maxRecDepth 100000
noncomputable def c151:Code:=(Try.f151.body.getD .skip)
def an151:An:=⟨fun r=>match r with | 4=>⟨[0,1,5],[]⟩ | _=>⟨[],[]⟩,fun _ _=>none⟩
abbrev ps151:List PK:=[.val (.row 100 tEn) false,.val (.row 100 tEn) false]
abbrev rs151:List RK:=[.val .bool false]
abbrev R151:=retsD rs151 × outsD ps151
noncomputable def G151:Gam:=fun f=>match f with | 158=>some Sm158 | _=>none
theorem h0_151 (hg:GamOK Try.prog G151):Holds Try.prog 151 ⟨ps151,rs151,false,runF TT G151 an151 Try.f151 c151 ps151 rs151⟩:=holds_of tt_ok hg mixed Try.func151 (by kernel_rfl) (by rfl) (by decide +kernel)
noncomputable def at151:Nat→Pt→List Nat→St→Option R151:=atF TT G151 an151 Try.f151 c151 _ _
def sh151_L4 (x0:List (ByteArray × Int)) (x1:List (ByteArray × Int)) (x2:Int):St:=(St.mk ((AV.one (SV.con (⟨100,Ty.str.pair (Ty.int Go.IntKind.i64),x0⟩:Rw))) :: ((AV.one (SV.con (⟨100,Ty.str.pair (Ty.int Go.IntKind.i64),x1⟩:Rw))) :: (AV.undef :: (AV.undef :: (AV.undef :: ((AV.one (SV.int (Go.IntKind.i64) x2)) :: (AV.undef :: (AV.undef :: (AV.undef :: (AV.undef :: (AV.undef :: (AV.undef :: (AV.undef :: (AV.undef :: (AV.undef :: (AV.undef :: (AV.undef :: (AV.undef :: (AV.undef :: (AV.undef :: (AV.undef :: (AV.undef :: (AV.undef :: (AV.undef :: (AV.undef :: (AV.undef :: (AV.undef :: []))))))))))))))))))))))))))) [])
noncomputable def st151_top (n:Nat) (lL4:(List (ByteArray × Int))→(List (ByteArray × Int))→Int→Option R151) (a:List (ByteArray × Int)) (b:List (ByteArray × Int)):Option R151 :=
 cond (!decide ((↑a.length:Int)=(↑b.length:Int))) (some ((false,()),())) (lL4 (a) (b) ((0:Int)))
noncomputable def st151_L4 (n:Nat) (lL4:(List (ByteArray × Int))→(List (ByteArray × Int))→Int→Option R151) (x0:List (ByteArray × Int)) (x1:List (ByteArray × Int)) (x2:Int):Option R151 :=
 cond (decide (x2 < (↑x0.length:Int))) (cond (decide ((0:Int)≤x2)) (cond (decide (x2 < (↑x0.length:Int))) (cond (decide ((0:Int)≤x2)) (cond (decide (x2 < (↑x1.length:Int))) ((q158 n (((x0.getD x2.toNat (ByteArray.empty,(0:Int))).1,(x0.getD x2.toNat (ByteArray.empty,(0:Int))).2),((x1.getD x2.toNat (ByteArray.empty,(0:Int))).1,(x1.getD x2.toNat (ByteArray.empty,(0:Int))).2),())).bind fun r1=>cond (!r1.1.1) (some ((false,()),())) (lL4 (x0) (x1) (Go.IntKind.i64.wrap (x2 + (1:Int))))) (none)) (none)) (none)) (none)) (some ((true,()),()))
theorem e151_top (n:Nat) (a:List (ByteArray × Int)) (b:List (ByteArray × Int)):runF TT G151 an151 Try.f151 c151 ps151 rs151 n (a,b,())=st151_top n (fun x0 x1 x2=>at151 n (.head 4) [n] (sh151_L4 x0 x1 x2)) a b:=by kernel_rfl
theorem e151_L4_0 (n:Nat) (x0:List (ByteArray × Int)) (x1:List (ByteArray × Int)) (x2:Int):at151 n (.head 4) [0] (sh151_L4 x0 x1 x2)=none:=by kernel_rfl
theorem e151_L4 (n:Nat) (m4:Nat) (x0:List (ByteArray × Int)) (x1:List (ByteArray × Int)) (x2:Int):at151 n (.head 4) [m4 + 1] (sh151_L4 x0 x1 x2)=st151_L4 n (fun x0 x1 x2=>at151 n (.head 4) [m4] (sh151_L4 x0 x1 x2)) x0 x1 x2:=by kernel_rfl
noncomputable def p151_L4 (n:Nat):Nat→(List (ByteArray × Int))→(List (ByteArray × Int))→Int→Option R151
 | 0,_,_,_=>none
 | m + 1,x0,x1,x2=>st151_L4 n (p151_L4 n m) x0 x1 x2
noncomputable def p151 (n:Nat) (a:List (ByteArray × Int)) (b:List (ByteArray × Int)):Option R151:=st151_top n (p151_L4 n n) a b
theorem t151_L4 (n:Nat):∀ (m4:Nat) (x0:List (ByteArray × Int)) (x1:List (ByteArray × Int)) (x2:Int),at151 n (.head 4) [m4] (sh151_L4 x0 x1 x2)=p151_L4 n m4 x0 x1 x2:=by
 intro m
 induction m with
 | zero=>intros; rw [e151_L4_0]; rfl
 | succ m ih =>
  intros
  rw [e151_L4]
  try simp only [ih]
  rfl
theorem F151_eq (n:Nat) (a:List (ByteArray × Int)) (b:List (ByteArray × Int)):runF TT G151 an151 Try.f151 c151 ps151 rs151 n (a,b,())=p151 n a b:=by
 rw [e151_top]
 simp only [t151_L4]
 try rfl
noncomputable def q151 (n:Nat) (x:argsD ps151):Option R151:=p151 n x.1 x.2.1
noncomputable def Sm151:Sm:=⟨ps151,rs151,false,q151⟩
theorem holds151 (hg:GamOK Try.prog G151):Holds Try.prog 151 Sm151:=by
 have:=h0_151 hg
 have e:(runF TT G151 an151 Try.f151 c151 ps151 rs151)=q151:=by
  funext n x
  exact F151_eq n x.1 x.2.1
 rw [e] at this
 exact this
theorem gam151:GamOK Try.prog G151:=by
 intro f s h
 unfold G151 at h
 split at h
 ·injection h with h; subst h; exact ⟨⟨Try.f158,c158,Try.func158,by kernel_rfl,by decide +kernel⟩,hh158⟩
 ·cases h
theorem hh151:Holds Try.prog 151 Sm151:=holds151 gam151
end Go.Proofs.Ytbjgiioppmkpiaa.Rx.S

namespace Go.Proofs.Ytbjgiioppmkpiaa.Rx.S
open Go Go.RowKit Go.Proofs
set_option maxRecDepth 100000
noncomputable def c135:Code:=(Try.f135.body.getD .skip)
def an135:An:=⟨fun _=>⟨[],[]⟩,fun _ _=>none⟩
abbrev ps135:List PK:=[.val (tIn 100) true,.val (tIn 100) true]
abbrev rs135:List RK:=[.val .bool false]
abbrev R135:=retsD rs135 × outsD ps135
noncomputable def G135:Gam:=fun f=>match f with | 151=>some Sm151 | _=>none
theorem h0_135 (hg:GamOK Try.prog G135):Holds Try.prog 135 ⟨ps135,rs135,false,runF TT G135 an135 Try.f135 c135 ps135 rs135⟩:=holds_of tt_ok hg mixed Try.func135 (by kernel_rfl) (by rfl) (by decide +kernel)
noncomputable def st135_top (n:Nat) (a:NT) (b:NT):Option R135 :=
 cond (!decide (a.1=b.1)) (some ((false,()),())) (cond (!decide (a.2.1=b.2.1)) (some ((false,()),())) (cond (!decide (a.2.2.1=b.2.2.1)) (some ((false,()),())) (cond (!decide (a.2.2.2.1=b.2.2.2.1)) (some ((false,()),())) (cond (!decide (a.2.2.2.2.1=b.2.2.2.2.1)) (some ((false,()),())) (cond (!decide (a.2.2.2.2.2.1=b.2.2.2.2.2.1)) (some ((false,()),())) (cond (!a.2.2.2.2.2.2.1 == b.2.2.2.2.2.2.1) (some ((false,()),())) (cond (!ByteArray.toList a.2.2.2.2.2.2.2.1 == ByteArray.toList b.2.2.2.2.2.2.2.1) (some ((false,()),())) ((q151 n (a.2.2.2.2.2.2.2.2,b.2.2.2.2.2.2.2.2,())).bind fun r0=>cond (!r0.1.1) (some ((false,()),())) (some ((true,()),()))))))))))
theorem e135_top (n:Nat) (a:NT) (b:NT):runF TT G135 an135 Try.f135 c135 ps135 rs135 n (a,b,())=st135_top n a b:=by kernel_rfl
noncomputable def p135 (n:Nat) (a:NT) (b:NT):Option R135:=st135_top n a b
theorem F135_eq (n:Nat) (a:NT) (b:NT):runF TT G135 an135 Try.f135 c135 ps135 rs135 n (a,b,())=p135 n a b:=by
 rw [e135_top]
 skip
 try rfl
noncomputable def q135 (n:Nat) (x:argsD ps135):Option R135:=p135 n x.1 x.2.1
noncomputable def Sm135:Sm:=⟨ps135,rs135,false,q135⟩
theorem holds135 (hg:GamOK Try.prog G135):Holds Try.prog 135 Sm135:=by
 have:=h0_135 hg
 have e:(runF TT G135 an135 Try.f135 c135 ps135 rs135)=q135:=by
  funext n x
  exact F135_eq n x.1 x.2.1
 rw [e] at this
 exact this
theorem gam135:GamOK Try.prog G135:=by
 intro f s h
 unfold G135 at h
 split at h
 ·injection h with h; subst h; exact ⟨⟨Try.f151,c151,Try.func151,by kernel_rfl,by decide +kernel⟩,hh151⟩
 ·cases h
theorem hh135:Holds Try.prog 135 Sm135:=holds135 gam135
end Go.Proofs.Ytbjgiioppmkpiaa.Rx.S

namespace Go.Proofs.Ytbjgiioppmkpiaa.Rx.S
open Go Go.RowKit Go.Proofs
set_option maxRecDepth 100000
noncomputable def c88:Code:=(Try.f88.body.getD .skip)
def an88:An:=⟨fun _=>⟨[],[]⟩,fun _ _=>none⟩
abbrev ps88:List PK:=[.val (.row 3 i64) false,.val i64 false]
abbrev rs88:List RK:=[.val i64 false]
abbrev R88:=retsD rs88 × outsD ps88
noncomputable def G88:Gam:=fun _=>none
theorem h0_88 (hg:GamOK Try.prog G88):Holds Try.prog 88 ⟨ps88,rs88,false,runF TT G88 an88 Try.f88 c88 ps88 rs88⟩:=holds_of tt_ok hg mixed Try.func88 (by kernel_rfl) (by rfl) (by decide +kernel)
noncomputable def st88_top (n:Nat) (a:List Int) (b:Int):Option R88 :=
 cond (decide (Go.IntKind.i64.wrap (b - (↑a.length:Int)) < (0:Int))) (some (((-1:Int),()),())) (some ((Go.IntKind.i64.wrap (b - (↑a.length:Int)),()),()))
theorem e88_top (n:Nat) (a:List Int) (b:Int):runF TT G88 an88 Try.f88 c88 ps88 rs88 n (a,b,())=st88_top n a b:=by kernel_rfl
noncomputable def p88 (n:Nat) (a:List Int) (b:Int):Option R88:=st88_top n a b
theorem F88_eq (n:Nat) (a:List Int) (b:Int):runF TT G88 an88 Try.f88 c88 ps88 rs88 n (a,b,())=p88 n a b:=by
 rw [e88_top]
 skip
 try rfl
noncomputable def q88 (n:Nat) (x:argsD ps88):Option R88:=p88 n x.1 x.2.1
noncomputable def Sm88:Sm:=⟨ps88,rs88,false,q88⟩
theorem holds88 (hg:GamOK Try.prog G88):Holds Try.prog 88 Sm88:=by
 have:=h0_88 hg
 have e:(runF TT G88 an88 Try.f88 c88 ps88 rs88)=q88:=by
  funext n x
  exact F88_eq n x.1 x.2.1
 rw [e] at this
 exact this
theorem gam88:GamOK Try.prog G88:=fun _ _ h=>by cases h
theorem hh88:Holds Try.prog 88 Sm88:=holds88 gam88
end Go.Proofs.Ytbjgiioppmkpiaa.Rx.S

namespace Go.Proofs.Ytbjgiioppmkpiaa.Rx.S
open Go Go.RowKit Go.Proofs
set_option maxRecDepth 100000
noncomputable def c31:Code:=(Try.f31.body.getD .skip)
def an31:An:=⟨fun _=>⟨[],[]⟩,fun _ _=>none⟩
abbrev ps31:List PK:=[.val tCr true,.val i64 false]
abbrev rs31:List RK:=[.val i64 false]
abbrev R31:=retsD rs31 × outsD ps31
noncomputable def G31:Gam:=fun f=>match f with | 88=>some Sm88 | _=>none
theorem h0_31 (hg:GamOK Try.prog G31):Holds Try.prog 31 ⟨ps31,rs31,false,runF TT G31 an31 Try.f31 c31 ps31 rs31⟩:=holds_of tt_ok hg mixed Try.func31 (by kernel_rfl) (by rfl) (by decide +kernel)
noncomputable def st31_top (n:Nat) (a:Int × Int × List Int) (b:Int):Option R31 :=
 (q88 n (a.2.2,b,())).bind fun r0=>cond (decide (r0.1.1 < (0:Int))) (some (((-1:Int),()),())) (some ((r0.1.1,()),()))
theorem e31_top (n:Nat) (a:Int × Int × List Int) (b:Int):runF TT G31 an31 Try.f31 c31 ps31 rs31 n (a,b,())=st31_top n a b:=by kernel_rfl
noncomputable def p31 (n:Nat) (a:Int × Int × List Int) (b:Int):Option R31:=st31_top n a b
theorem F31_eq (n:Nat) (a:Int × Int × List Int) (b:Int):runF TT G31 an31 Try.f31 c31 ps31 rs31 n (a,b,())=p31 n a b:=by
 rw [e31_top]
 skip
 try rfl
noncomputable def q31 (n:Nat) (x:argsD ps31):Option R31:=p31 n x.1 x.2.1
noncomputable def Sm31:Sm:=⟨ps31,rs31,false,q31⟩
theorem holds31 (hg:GamOK Try.prog G31):Holds Try.prog 31 Sm31:=by
 have:=h0_31 hg
 have e:(runF TT G31 an31 Try.f31 c31 ps31 rs31)=q31:=by
  funext n x
  exact F31_eq n x.1 x.2.1
 rw [e] at this
 exact this
theorem gam31:GamOK Try.prog G31:=by
 intro f s h
 unfold G31 at h
 split at h
 ·injection h with h; subst h; exact ⟨⟨Try.f88,c88,Try.func88,by kernel_rfl,by decide +kernel⟩,hh88⟩
 ·cases h
theorem hh31:Holds Try.prog 31 Sm31:=holds31 gam31
end Go.Proofs.Ytbjgiioppmkpiaa.Rx.S

namespace Go.Proofs.Ytbjgiioppmkpiaa.Rx.S
open Go Go.RowKit Go.Proofs
set_option maxRecDepth 100000
noncomputable def c90:Code:=(Try.f90.body.getD .skip)
def an90:An:=⟨fun r=>match r with | 3=>⟨[0,3,4],[]⟩ | _=>⟨[],[]⟩,fun _ _=>none⟩
abbrev ps90:List PK:=[.val (.row 3 i64) false]
abbrev rs90:List RK:=[.own (.row 3 i64) false]
abbrev R90:=retsD rs90 × outsD ps90
noncomputable def G90:Gam:=fun _=>none
theorem h0_90 (hg:GamOK Try.prog G90):Holds Try.prog 90 ⟨ps90,rs90,false,runF TT G90 an90 Try.f90 c90 ps90 rs90⟩:=holds_of tt_ok hg mixed Try.func90 (by kernel_rfl) (by rfl) (by decide +kernel)
noncomputable def at90:Nat→Pt→List Nat→St→Option R90:=atF TT G90 an90 Try.f90 c90 _ _
def sh90_L3 (x0:List Int) (x1:Int) (x2:List Int):St:=(St.mk ((AV.one (SV.con (⟨3,Ty.int Go.IntKind.i64,x0⟩:Rw))) :: (AV.undef :: (AV.undef :: ((AV.one (SV.ref 1000000 0 [] Option.none)) :: ((AV.one (SV.int (Go.IntKind.i64) x1)) :: (AV.undef :: (AV.undef :: (AV.undef :: (AV.undef :: (AV.undef :: (AV.undef :: (AV.undef :: (AV.undef :: (AV.undef :: (AV.undef :: (AV.undef :: (AV.undef :: (AV.undef :: (AV.undef :: (AV.undef :: (AV.undef :: (AV.undef :: [])))))))))))))))))))))) ((1000000,(Ent.row (⟨3,Ty.int Go.IntKind.i64,x2⟩:Rw) 0 Option.none)) :: []))
noncomputable def st90_top (n:Nat) (lL3:(List Int)→Int→(List Int)→Option R90) (a:List Int):Option R90 :=
 cond (decide ((↑a.length:Int) * (↑(8:Nat):Int)≤(140737488355328:Int))) (lL3 (a) ((0:Int)) (List.replicate (↑a.length:Int).toNat (0:Int))) (none)
noncomputable def st90_L3 (n:Nat) (lL3:(List Int)→Int→(List Int)→Option R90) (x0:List Int) (x1:Int) (x2:List Int):Option R90 :=
 cond (decide (x1 < (↑x0.length:Int))) (cond (decide ((0:Int)≤x1)) (cond (decide (x1 < (↑x0.length:Int))) (cond (decide ((0:Int)≤x1)) (cond (decide (x1 < (↑x2.length:Int))) (lL3 (x0) (Go.IntKind.i64.wrap (x1 + (1:Int))) (x2.set x1.toNat (x0.getD x1.toNat (0:Int)))) (none)) (none)) (none)) (none)) (some ((x2,()),()))
theorem e90_top (n:Nat) (a:List Int):runF TT G90 an90 Try.f90 c90 ps90 rs90 n (a,())=st90_top n (fun x0 x1 x2=>at90 n (.head 3) [n] (sh90_L3 x0 x1 x2)) a:=by kernel_rfl
theorem e90_L3_0 (n:Nat) (x0:List Int) (x1:Int) (x2:List Int):at90 n (.head 3) [0] (sh90_L3 x0 x1 x2)=none:=by kernel_rfl
theorem e90_L3 (n:Nat) (m3:Nat) (x0:List Int) (x1:Int) (x2:List Int):at90 n (.head 3) [m3 + 1] (sh90_L3 x0 x1 x2)=st90_L3 n (fun x0 x1 x2=>at90 n (.head 3) [m3] (sh90_L3 x0 x1 x2)) x0 x1 x2:=by kernel_rfl
noncomputable def p90_L3 (n:Nat):Nat→(List Int)→Int→(List Int)→Option R90
 | 0,_,_,_=>none
 | m + 1,x0,x1,x2=>st90_L3 n (p90_L3 n m) x0 x1 x2
noncomputable def p90 (n:Nat) (a:List Int):Option R90:=st90_top n (p90_L3 n n) a
theorem t90_L3 (n:Nat):∀ (m3:Nat) (x0:List Int) (x1:Int) (x2:List Int),at90 n (.head 3) [m3] (sh90_L3 x0 x1 x2)=p90_L3 n m3 x0 x1 x2:=by
 intro m
 induction m with
 | zero=>intros; rw [e90_L3_0]; rfl
 | succ m ih =>
  intros
  rw [e90_L3]
  try simp only [ih]
  rfl
theorem F90_eq (n:Nat) (a:List Int):runF TT G90 an90 Try.f90 c90 ps90 rs90 n (a,())=p90 n a:=by
 rw [e90_top]
 simp only [t90_L3]
 try rfl
noncomputable def q90 (n:Nat) (x:argsD ps90):Option R90:=p90 n x.1
noncomputable def Sm90:Sm:=⟨ps90,rs90,false,q90⟩
theorem holds90 (hg:GamOK Try.prog G90):Holds Try.prog 90 Sm90:=by
 have:=h0_90 hg
 have e:(runF TT G90 an90 Try.f90 c90 ps90 rs90)=q90:=by
  funext n x
  exact F90_eq n x.1
 rw [e] at this
 exact this
theorem gam90:GamOK Try.prog G90:=fun _ _ h=>by cases h
theorem hh90:Holds Try.prog 90 Sm90:=holds90 gam90
end Go.Proofs.Ytbjgiioppmkpiaa.Rx.S

namespace Go.Proofs.Ytbjgiioppmkpiaa.Rx.S
open Go Go.RowKit Go.Proofs
set_option maxRecDepth 100000
noncomputable def c33:Code:=(Try.f33.body.getD .skip)
def an33:An:=⟨fun _=>⟨[],[]⟩,fun _ _=>none⟩
abbrev ps33:List PK:=[.val tCr true]
abbrev rs33:List RK:=[.own tCr true]
abbrev R33:=retsD rs33 × outsD ps33
noncomputable def G33:Gam:=fun f=>match f with | 90=>some Sm90 | _=>none
theorem h0_33 (hg:GamOK Try.prog G33):Holds Try.prog 33 ⟨ps33,rs33,false,runF TT G33 an33 Try.f33 c33 ps33 rs33⟩:=holds_of tt_ok hg mixed Try.func33 (by kernel_rfl) (by rfl) (by decide +kernel)
noncomputable def st33_top (n:Nat) (a:Int × Int × List Int):Option R33 :=
 (q90 n (a.2.2,())).bind fun r0=>some (((a.1,(a.2.1,r0.1.1)),()),())
theorem e33_top (n:Nat) (a:Int × Int × List Int):runF TT G33 an33 Try.f33 c33 ps33 rs33 n (a,())=st33_top n a:=by kernel_rfl
noncomputable def p33 (n:Nat) (a:Int × Int × List Int):Option R33:=st33_top n a
theorem F33_eq (n:Nat) (a:Int × Int × List Int):runF TT G33 an33 Try.f33 c33 ps33 rs33 n (a,())=p33 n a:=by
 rw [e33_top]
 skip
 try rfl
noncomputable def q33 (n:Nat) (x:argsD ps33):Option R33:=p33 n x.1
noncomputable def Sm33:Sm:=⟨ps33,rs33,false,q33⟩
theorem holds33 (hg:GamOK Try.prog G33):Holds Try.prog 33 Sm33:=by
 have:=h0_33 hg
 have e:(runF TT G33 an33 Try.f33 c33 ps33 rs33)=q33:=by
  funext n x
  exact F33_eq n x.1
 rw [e] at this
 exact this
theorem gam33:GamOK Try.prog G33:=by
 intro f s h
 unfold G33 at h
 split at h
 ·injection h with h; subst h; exact ⟨⟨Try.f90,c90,Try.func90,by kernel_rfl,by decide +kernel⟩,hh90⟩
 ·cases h
theorem hh33:Holds Try.prog 33 Sm33:=holds33 gam33
end Go.Proofs.Ytbjgiioppmkpiaa.Rx.S

namespace Go.Proofs.Ytbjgiioppmkpiaa.Rx.S
open Go Go.RowKit Go.Proofs
set_option maxRecDepth 100000
noncomputable def c92:Code:=(Try.f92.body.getD .skip)
def an92:An:=⟨fun r=>match r with | 4=>⟨[0,1,5],[]⟩ | _=>⟨[],[]⟩,fun _ _=>none⟩
abbrev ps92:List PK:=[.val (.row 3 i64) false,.val (.row 3 i64) false]
abbrev rs92:List RK:=[.val .bool false]
abbrev R92:=retsD rs92 × outsD ps92
noncomputable def G92:Gam:=fun _=>none
theorem h0_92 (hg:GamOK Try.prog G92):Holds Try.prog 92 ⟨ps92,rs92,false,runF TT G92 an92 Try.f92 c92 ps92 rs92⟩:=holds_of tt_ok hg mixed Try.func92 (by kernel_rfl) (by rfl) (by decide +kernel)
noncomputable def at92:Nat→Pt→List Nat→St→Option R92:=atF TT G92 an92 Try.f92 c92 _ _
def sh92_L4 (x0:List Int) (x1:List Int) (x2:Int):St:=(St.mk ((AV.one (SV.con (⟨3,Ty.int Go.IntKind.i64,x0⟩:Rw))) :: ((AV.one (SV.con (⟨3,Ty.int Go.IntKind.i64,x1⟩:Rw))) :: (AV.undef :: (AV.undef :: (AV.undef :: ((AV.one (SV.int (Go.IntKind.i64) x2)) :: (AV.undef :: (AV.undef :: (AV.undef :: (AV.undef :: (AV.undef :: (AV.undef :: (AV.undef :: (AV.undef :: (AV.undef :: (AV.undef :: (AV.undef :: (AV.undef :: (AV.undef :: (AV.undef :: (AV.undef :: (AV.undef :: (AV.undef :: (AV.undef :: (AV.undef :: (AV.undef :: [])))))))))))))))))))))))))) [])
noncomputable def st92_top (n:Nat) (lL4:(List Int)→(List Int)→Int→Option R92) (a:List Int) (b:List Int):Option R92 :=
 cond (!decide ((↑a.length:Int)=(↑b.length:Int))) (some ((false,()),())) (lL4 (a) (b) ((0:Int)))
noncomputable def st92_L4 (n:Nat) (lL4:(List Int)→(List Int)→Int→Option R92) (x0:List Int) (x1:List Int) (x2:Int):Option R92 :=
 cond (decide (x2 < (↑x0.length:Int))) (cond (decide ((0:Int)≤x2)) (cond (decide (x2 < (↑x0.length:Int))) (cond (decide ((0:Int)≤x2)) (cond (decide (x2 < (↑x1.length:Int))) (cond (!decide (x0.getD x2.toNat (0:Int)=x1.getD x2.toNat (0:Int))) (some ((false,()),())) (lL4 (x0) (x1) (Go.IntKind.i64.wrap (x2 + (1:Int))))) (none)) (none)) (none)) (none)) (some ((true,()),()))
theorem e92_top (n:Nat) (a:List Int) (b:List Int):runF TT G92 an92 Try.f92 c92 ps92 rs92 n (a,b,())=st92_top n (fun x0 x1 x2=>at92 n (.head 4) [n] (sh92_L4 x0 x1 x2)) a b:=by kernel_rfl
theorem e92_L4_0 (n:Nat) (x0:List Int) (x1:List Int) (x2:Int):at92 n (.head 4) [0] (sh92_L4 x0 x1 x2)=none:=by kernel_rfl
theorem e92_L4 (n:Nat) (m4:Nat) (x0:List Int) (x1:List Int) (x2:Int):at92 n (.head 4) [m4 + 1] (sh92_L4 x0 x1 x2)=st92_L4 n (fun x0 x1 x2=>at92 n (.head 4) [m4] (sh92_L4 x0 x1 x2)) x0 x1 x2:=by kernel_rfl
noncomputable def p92_L4 (n:Nat):Nat→(List Int)→(List Int)→Int→Option R92
 | 0,_,_,_=>none
 | m + 1,x0,x1,x2=>st92_L4 n (p92_L4 n m) x0 x1 x2
noncomputable def p92 (n:Nat) (a:List Int) (b:List Int):Option R92:=st92_top n (p92_L4 n n) a b
theorem t92_L4 (n:Nat):∀ (m4:Nat) (x0:List Int) (x1:List Int) (x2:Int),at92 n (.head 4) [m4] (sh92_L4 x0 x1 x2)=p92_L4 n m4 x0 x1 x2:=by
 intro m
 induction m with
 | zero=>intros; rw [e92_L4_0]; rfl
 | succ m ih =>
  intros
  rw [e92_L4]
  try simp only [ih]
  rfl
theorem F92_eq (n:Nat) (a:List Int) (b:List Int):runF TT G92 an92 Try.f92 c92 ps92 rs92 n (a,b,())=p92 n a b:=by
 rw [e92_top]
 simp only [t92_L4]
 try rfl
noncomputable def q92 (n:Nat) (x:argsD ps92):Option R92:=p92 n x.1 x.2.1
noncomputable def Sm92:Sm:=⟨ps92,rs92,false,q92⟩
theorem holds92 (hg:GamOK Try.prog G92):Holds Try.prog 92 Sm92:=by
 have:=h0_92 hg
 have e:(runF TT G92 an92 Try.f92 c92 ps92 rs92)=q92:=by
  funext n x
  exact F92_eq n x.1 x.2.1
 rw [e] at this
 exact this
theorem gam92:GamOK Try.prog G92:=fun _ _ h=>by cases h
theorem hh92:Holds Try.prog 92 Sm92:=holds92 gam92
end Go.Proofs.Ytbjgiioppmkpiaa.Rx.S

namespace Go.Proofs.Ytbjgiioppmkpiaa.Rx.S
open Go Go.RowKit Go.Proofs
set_option maxRecDepth 100000
noncomputable def c35:Code:=(Try.f35.body.getD .skip)
def an35:An:=⟨fun _=>⟨[],[]⟩,fun _ _=>none⟩
abbrev ps35:List PK:=[.val tCr true,.val tCr true]
abbrev rs35:List RK:=[.val .bool false]
abbrev R35:=retsD rs35 × outsD ps35
noncomputable def G35:Gam:=fun f=>match f with | 92=>some Sm92 | _=>none
theorem h0_35 (hg:GamOK Try.prog G35):Holds Try.prog 35 ⟨ps35,rs35,false,runF TT G35 an35 Try.f35 c35 ps35 rs35⟩:=holds_of tt_ok hg mixed Try.func35 (by kernel_rfl) (by rfl) (by decide +kernel)
noncomputable def st35_top (n:Nat) (a:Int × Int × List Int) (b:Int × Int × List Int):Option R35 :=
 cond (!decide (a.1=b.1)) (some ((false,()),())) (cond (!decide (a.2.1=b.2.1)) (some ((false,()),())) ((q92 n (a.2.2,b.2.2,())).bind fun r0=>cond (!r0.1.1) (some ((false,()),())) (some ((true,()),()))))
theorem e35_top (n:Nat) (a:Int × Int × List Int) (b:Int × Int × List Int):runF TT G35 an35 Try.f35 c35 ps35 rs35 n (a,b,())=st35_top n a b:=by kernel_rfl
noncomputable def p35 (n:Nat) (a:Int × Int × List Int) (b:Int × Int × List Int):Option R35:=st35_top n a b
theorem F35_eq (n:Nat) (a:Int × Int × List Int) (b:Int × Int × List Int):runF TT G35 an35 Try.f35 c35 ps35 rs35 n (a,b,())=p35 n a b:=by
 rw [e35_top]
 skip
 try rfl
noncomputable def q35 (n:Nat) (x:argsD ps35):Option R35:=p35 n x.1 x.2.1
noncomputable def Sm35:Sm:=⟨ps35,rs35,false,q35⟩
theorem holds35 (hg:GamOK Try.prog G35):Holds Try.prog 35 Sm35:=by
 have:=h0_35 hg
 have e:(runF TT G35 an35 Try.f35 c35 ps35 rs35)=q35:=by
  funext n x
  exact F35_eq n x.1 x.2.1
 rw [e] at this
 exact this
theorem gam35:GamOK Try.prog G35:=by
 intro f s h
 unfold G35 at h
 split at h
 ·injection h with h; subst h; exact ⟨⟨Try.f92,c92,Try.func92,by kernel_rfl,by decide +kernel⟩,hh92⟩
 ·cases h
theorem hh35:Holds Try.prog 35 Sm35:=holds35 gam35
end Go.Proofs.Ytbjgiioppmkpiaa.Rx.S

namespace Go.Proofs.Ytbjgiioppmkpiaa.Rx.S
open Go Go.RowKit Go.Proofs
set_option maxRecDepth 100000
noncomputable def c96:Code:=(Try.f96.body.getD .skip)
def an96:An:=⟨fun r=>match r with | 5=>⟨[0,1,5],[]⟩ | _=>⟨[],[]⟩,fun _ _=>none⟩
abbrev ps96:List PK:=[.val tLf false,.val i64 false]
abbrev rs96:List RK:=[.val i64 false]
abbrev R96:=retsD rs96 × outsD ps96
noncomputable def G96:Gam:=fun f=>match f with | 133=>some Sm133 | _=>none
theorem h0_96 (hg:GamOK Try.prog G96):Holds Try.prog 96 ⟨ps96,rs96,false,runF TT G96 an96 Try.f96 c96 ps96 rs96⟩:=holds_of tt_ok hg mixed Try.func96 (by kernel_rfl) (by rfl) (by decide +kernel)
noncomputable def at96:Nat→Pt→List Nat→St→Option R96:=atF TT G96 an96 Try.f96 c96 _ _
def sh96_L5 (x0:List NT) (x1:Int) (x2:Int):St:=(St.mk ((AV.one (SV.con (⟨161,(Ty.int Go.IntKind.i64).pair ((Ty.int Go.IntKind.i64).pair ((Ty.int Go.IntKind.i64).pair ((Ty.int Go.IntKind.i64).pair ((Ty.int Go.IntKind.i64).pair ((Ty.int Go.IntKind.i64).pair (Ty.bool.pair (Ty.str.pair (Ty.row (nat_lit 178) (Ty.str.pair (Ty.int Go.IntKind.i64)))))))))),x0⟩:Rw))) :: ((AV.one (SV.int (Go.IntKind.i64) x1)) :: (AV.undef :: (AV.undef :: (AV.undef :: ((AV.one (SV.int (Go.IntKind.i64) x2)) :: (AV.undef :: (AV.undef :: (AV.undef :: (AV.undef :: (AV.undef :: (AV.undef :: (AV.undef :: (AV.undef :: (AV.undef :: (AV.undef :: (AV.undef :: (AV.undef :: (AV.undef :: (AV.undef :: (AV.undef :: (AV.undef :: (AV.undef :: (AV.undef :: (AV.undef :: (AV.undef :: (AV.undef :: []))))))))))))))))))))))))))) [])
noncomputable def st96_top (n:Nat) (lL5:(List NT)→Int→Int→Option R96) (a:List NT) (b:Int):Option R96 :=
 cond (decide (Go.IntKind.i64.wrap (b - (↑a.length:Int)) < (0:Int))) (some (((-1:Int),()),())) (lL5 (a) (Go.IntKind.i64.wrap (b - (↑a.length:Int))) ((0:Int)))
noncomputable def st96_L5 (n:Nat) (lL5:(List NT)→Int→Int→Option R96) (x0:List NT) (x1:Int) (x2:Int):Option R96 :=
 cond (decide (x2 < (↑x0.length:Int))) (cond (decide ((0:Int)≤x2)) (cond (decide (x2 < (↑x0.length:Int))) ((q133 n (((x0.getD x2.toNat ZN).1,(x0.getD x2.toNat ZN).2.1,(x0.getD x2.toNat ZN).2.2.1,(x0.getD x2.toNat ZN).2.2.2.1,(x0.getD x2.toNat ZN).2.2.2.2.1,(x0.getD x2.toNat ZN).2.2.2.2.2.1,(x0.getD x2.toNat ZN).2.2.2.2.2.2.1,(x0.getD x2.toNat ZN).2.2.2.2.2.2.2.1,(x0.getD x2.toNat ZN).2.2.2.2.2.2.2.2),x1,())).bind fun r1=>cond (decide (r1.1.1 < (0:Int))) (some (((-1:Int),()),())) (lL5 (x0) (r1.1.1) (Go.IntKind.i64.wrap (x2 + (1:Int))))) (none)) (none)) (some ((x1,()),()))
theorem e96_top (n:Nat) (a:List NT) (b:Int):runF TT G96 an96 Try.f96 c96 ps96 rs96 n (a,b,())=st96_top n (fun x0 x1 x2=>at96 n (.head 5) [n] (sh96_L5 x0 x1 x2)) a b:=by kernel_rfl
theorem e96_L5_0 (n:Nat) (x0:List NT) (x1:Int) (x2:Int):at96 n (.head 5) [0] (sh96_L5 x0 x1 x2)=none:=by kernel_rfl
theorem e96_L5 (n:Nat) (m5:Nat) (x0:List NT) (x1:Int) (x2:Int):at96 n (.head 5) [m5 + 1] (sh96_L5 x0 x1 x2)=st96_L5 n (fun x0 x1 x2=>at96 n (.head 5) [m5] (sh96_L5 x0 x1 x2)) x0 x1 x2:=by kernel_rfl
noncomputable def p96_L5 (n:Nat):Nat→(List NT)→Int→Int→Option R96
 | 0,_,_,_=>none
 | m + 1,x0,x1,x2=>st96_L5 n (p96_L5 n m) x0 x1 x2
noncomputable def p96 (n:Nat) (a:List NT) (b:Int):Option R96:=st96_top n (p96_L5 n n) a b
theorem t96_L5 (n:Nat):∀ (m5:Nat) (x0:List NT) (x1:Int) (x2:Int),at96 n (.head 5) [m5] (sh96_L5 x0 x1 x2)=p96_L5 n m5 x0 x1 x2:=by
 intro m
 induction m with
 | zero=>intros; rw [e96_L5_0]; rfl
 | succ m ih =>
  intros
  rw [e96_L5]
  try simp only [ih]
  rfl
theorem F96_eq (n:Nat) (a:List NT) (b:Int):runF TT G96 an96 Try.f96 c96 ps96 rs96 n (a,b,())=p96 n a b:=by
 rw [e96_top]
 simp only [t96_L5]
 try rfl
noncomputable def q96 (n:Nat) (x:argsD ps96):Option R96:=p96 n x.1 x.2.1
noncomputable def Sm96:Sm:=⟨ps96,rs96,false,q96⟩
theorem holds96 (hg:GamOK Try.prog G96):Holds Try.prog 96 Sm96:=by
 have:=h0_96 hg
 have e:(runF TT G96 an96 Try.f96 c96 ps96 rs96)=q96:=by
  funext n x
  exact F96_eq n x.1 x.2.1
 rw [e] at this
 exact this
theorem gam96:GamOK Try.prog G96:=by
 intro f s h
 unfold G96 at h
 split at h
 ·injection h with h; subst h; exact ⟨⟨Try.f133,c133,Try.func133,by kernel_rfl,by decide +kernel⟩,hh133⟩
 ·cases h
theorem hh96:Holds Try.prog 96 Sm96:=holds96 gam96
end Go.Proofs.Ytbjgiioppmkpiaa.Rx.S

namespace Go.Proofs.Ytbjgiioppmkpiaa.Rx.S
open Go Go.RowKit Go.Proofs
set_option maxRecDepth 100000
noncomputable def c39:Code:=(Try.f39.body.getD .skip)
def an39:An:=⟨fun _=>⟨[],[]⟩,fun _ _=>none⟩
abbrev ps39:List PK:=[.val tLf true,.val i64 false]
abbrev rs39:List RK:=[.val i64 false]
abbrev R39:=retsD rs39 × outsD ps39
noncomputable def G39:Gam:=fun f=>match f with | 96=>some Sm96 | _=>none
theorem h0_39 (hg:GamOK Try.prog G39):Holds Try.prog 39 ⟨ps39,rs39,false,runF TT G39 an39 Try.f39 c39 ps39 rs39⟩:=holds_of tt_ok hg mixed Try.func39 (by kernel_rfl) (by rfl) (by decide +kernel)
noncomputable def st39_top (n:Nat) (a:List NT) (b:Int):Option R39 :=
 (q96 n (a,b,())).bind fun r0=>cond (decide (r0.1.1 < (0:Int))) (some (((-1:Int),()),())) (some ((r0.1.1,()),()))
theorem e39_top (n:Nat) (a:List NT) (b:Int):runF TT G39 an39 Try.f39 c39 ps39 rs39 n (a,b,())=st39_top n a b:=by kernel_rfl
noncomputable def p39 (n:Nat) (a:List NT) (b:Int):Option R39:=st39_top n a b
theorem F39_eq (n:Nat) (a:List NT) (b:Int):runF TT G39 an39 Try.f39 c39 ps39 rs39 n (a,b,())=p39 n a b:=by
 rw [e39_top]
 skip
 try rfl
noncomputable def q39 (n:Nat) (x:argsD ps39):Option R39:=p39 n x.1 x.2.1
noncomputable def Sm39:Sm:=⟨ps39,rs39,false,q39⟩
theorem holds39 (hg:GamOK Try.prog G39):Holds Try.prog 39 Sm39:=by
 have:=h0_39 hg
 have e:(runF TT G39 an39 Try.f39 c39 ps39 rs39)=q39:=by
  funext n x
  exact F39_eq n x.1 x.2.1
 rw [e] at this
 exact this
theorem gam39:GamOK Try.prog G39:=by
 intro f s h
 unfold G39 at h
 split at h
 ·injection h with h; subst h; exact ⟨⟨Try.f96,c96,Try.func96,by kernel_rfl,by decide +kernel⟩,hh96⟩
 ·cases h
theorem hh39:Holds Try.prog 39 Sm39:=holds39 gam39
end Go.Proofs.Ytbjgiioppmkpiaa.Rx.S

namespace Go.Proofs.Ytbjgiioppmkpiaa.Rx.S
open Go Go.RowKit Go.Proofs
set_option maxRecDepth 100000
noncomputable def c97:Code:=(Try.f97.body.getD .skip)
def an97:An:=⟨fun r=>match r with | 3=>⟨[0,3,4],[]⟩ | _=>⟨[],[]⟩,fun _ _=>none⟩
abbrev ps97:List PK:=[.val tLf false]
abbrev rs97:List RK:=[.own tFs false]
abbrev R97:=retsD rs97 × outsD ps97
noncomputable def G97:Gam:=fun f=>match f with | 134=>some Sm134 | _=>none
theorem h0_97 (hg:GamOK Try.prog G97):Holds Try.prog 97 ⟨ps97,rs97,false,runF TT G97 an97 Try.f97 c97 ps97 rs97⟩:=holds_of tt_ok hg mixed Try.func97 (by kernel_rfl) (by rfl) (by decide +kernel)
noncomputable def at97:Nat→Pt→List Nat→St→Option R97:=atF TT G97 an97 Try.f97 c97 _ _
def sh97_L3 (x0:List NT) (x1:Int) (x2:List NT):St:=(St.mk ((AV.one (SV.con (⟨161,(Ty.int Go.IntKind.i64).pair ((Ty.int Go.IntKind.i64).pair ((Ty.int Go.IntKind.i64).pair ((Ty.int Go.IntKind.i64).pair ((Ty.int Go.IntKind.i64).pair ((Ty.int Go.IntKind.i64).pair (Ty.bool.pair (Ty.str.pair (Ty.row (nat_lit 178) (Ty.str.pair (Ty.int Go.IntKind.i64)))))))))),x0⟩:Rw))) :: (AV.undef :: (AV.undef :: ((AV.one (SV.ref 1000000 0 [] Option.none)) :: ((AV.one (SV.int (Go.IntKind.i64) x1)) :: (AV.undef :: (AV.undef :: (AV.undef :: (AV.undef :: (AV.undef :: (AV.undef :: (AV.undef :: (AV.undef :: (AV.undef :: (AV.undef :: (AV.undef :: (AV.undef :: (AV.undef :: (AV.undef :: (AV.undef :: (AV.undef :: (AV.undef :: (AV.undef :: []))))))))))))))))))))))) ((1000000,(Ent.row (⟨37,(Ty.int Go.IntKind.i64).pair ((Ty.int Go.IntKind.i64).pair ((Ty.int Go.IntKind.i64).pair ((Ty.int Go.IntKind.i64).pair ((Ty.int Go.IntKind.i64).pair ((Ty.int Go.IntKind.i64).pair (Ty.bool.pair (Ty.str.pair (Ty.row (nat_lit 100) (Ty.str.pair (Ty.int Go.IntKind.i64)))))))))),x2⟩:Rw) 0 Option.none)) :: []))
noncomputable def st97_top (n:Nat) (lL3:(List NT)→Int→(List NT)→Option R97) (a:List NT):Option R97 :=
 cond (decide ((↑a.length:Int) * (↑(96:Nat):Int)≤(140737488355328:Int))) (lL3 (a) ((0:Int)) (List.replicate (↑a.length:Int).toNat ZN)) (none)
noncomputable def st97_L3 (n:Nat) (lL3:(List NT)→Int→(List NT)→Option R97) (x0:List NT) (x1:Int) (x2:List NT):Option R97 :=
 cond (decide (x1 < (↑x0.length:Int))) (cond (decide ((0:Int)≤x1)) (cond (decide (x1 < (↑x0.length:Int))) ((q134 n (((x0.getD x1.toNat ZN).1,(x0.getD x1.toNat ZN).2.1,(x0.getD x1.toNat ZN).2.2.1,(x0.getD x1.toNat ZN).2.2.2.1,(x0.getD x1.toNat ZN).2.2.2.2.1,(x0.getD x1.toNat ZN).2.2.2.2.2.1,(x0.getD x1.toNat ZN).2.2.2.2.2.2.1,(x0.getD x1.toNat ZN).2.2.2.2.2.2.2.1,(x0.getD x1.toNat ZN).2.2.2.2.2.2.2.2),())).bind fun r1=>cond (decide ((0:Int)≤x1)) (cond (decide (x1 < (↑x2.length:Int))) (lL3 (x0) (Go.IntKind.i64.wrap (x1 + (1:Int))) (x2.set x1.toNat (r1.1.1.1,r1.1.1.2.1,r1.1.1.2.2.1,r1.1.1.2.2.2.1,r1.1.1.2.2.2.2.1,r1.1.1.2.2.2.2.2.1,r1.1.1.2.2.2.2.2.2.1,r1.1.1.2.2.2.2.2.2.2.1,r1.1.1.2.2.2.2.2.2.2.2))) (none)) (none)) (none)) (none)) (some ((x2,()),()))
theorem e97_top (n:Nat) (a:List NT):runF TT G97 an97 Try.f97 c97 ps97 rs97 n (a,())=st97_top n (fun x0 x1 x2=>at97 n (.head 3) [n] (sh97_L3 x0 x1 x2)) a:=by kernel_rfl
theorem e97_L3_0 (n:Nat) (x0:List NT) (x1:Int) (x2:List NT):at97 n (.head 3) [0] (sh97_L3 x0 x1 x2)=none:=by kernel_rfl
theorem e97_L3 (n:Nat) (m3:Nat) (x0:List NT) (x1:Int) (x2:List NT):at97 n (.head 3) [m3 + 1] (sh97_L3 x0 x1 x2)=st97_L3 n (fun x0 x1 x2=>at97 n (.head 3) [m3] (sh97_L3 x0 x1 x2)) x0 x1 x2:=by kernel_rfl
noncomputable def p97_L3 (n:Nat):Nat→(List NT)→Int→(List NT)→Option R97
 | 0,_,_,_=>none
 | m + 1,x0,x1,x2=>st97_L3 n (p97_L3 n m) x0 x1 x2
noncomputable def p97 (n:Nat) (a:List NT):Option R97:=st97_top n (p97_L3 n n) a
theorem t97_L3 (n:Nat):∀ (m3:Nat) (x0:List NT) (x1:Int) (x2:List NT),at97 n (.head 3) [m3] (sh97_L3 x0 x1 x2)=p97_L3 n m3 x0 x1 x2:=by
 intro m
 induction m with
 | zero=>intros; rw [e97_L3_0]; rfl
 | succ m ih =>
  intros
  rw [e97_L3]
  try simp only [ih]
  rfl
theorem F97_eq (n:Nat) (a:List NT):runF TT G97 an97 Try.f97 c97 ps97 rs97 n (a,())=p97 n a:=by
 rw [e97_top]
 simp only [t97_L3]
 try rfl
noncomputable def q97 (n:Nat) (x:argsD ps97):Option R97:=p97 n x.1
noncomputable def Sm97:Sm:=⟨ps97,rs97,false,q97⟩
theorem holds97 (hg:GamOK Try.prog G97):Holds Try.prog 97 Sm97:=by
 have:=h0_97 hg
 have e:(runF TT G97 an97 Try.f97 c97 ps97 rs97)=q97:=by
  funext n x
  exact F97_eq n x.1
 rw [e] at this
 exact this
theorem gam97:GamOK Try.prog G97:=by
 intro f s h
 unfold G97 at h
 split at h
 ·injection h with h; subst h; exact ⟨⟨Try.f134,c134,Try.func134,by kernel_rfl,by decide +kernel⟩,hh134⟩
 ·cases h
theorem hh97:Holds Try.prog 97 Sm97:=holds97 gam97
end Go.Proofs.Ytbjgiioppmkpiaa.Rx.S

namespace Go.Proofs.Ytbjgiioppmkpiaa.Rx.S
open Go Go.RowKit Go.Proofs
set_option maxRecDepth 100000
noncomputable def c40:Code:=(Try.f40.body.getD .skip)
def an40:An:=⟨fun _=>⟨[],[]⟩,fun _ _=>none⟩
abbrev ps40:List PK:=[.val tLf true]
abbrev rs40:List RK:=[.own tFs true]
abbrev R40:=retsD rs40 × outsD ps40
noncomputable def G40:Gam:=fun f=>match f with | 97=>some Sm97 | _=>none
theorem h0_40 (hg:GamOK Try.prog G40):Holds Try.prog 40 ⟨ps40,rs40,false,runF TT G40 an40 Try.f40 c40 ps40 rs40⟩:=holds_of tt_ok hg mixed Try.func40 (by kernel_rfl) (by rfl) (by decide +kernel)
noncomputable def st40_top (n:Nat) (a:List NT):Option R40 :=
 (q97 n (a,())).bind fun r0=>some ((r0.1.1,()),())
theorem e40_top (n:Nat) (a:List NT):runF TT G40 an40 Try.f40 c40 ps40 rs40 n (a,())=st40_top n a:=by kernel_rfl
noncomputable def p40 (n:Nat) (a:List NT):Option R40:=st40_top n a
theorem F40_eq (n:Nat) (a:List NT):runF TT G40 an40 Try.f40 c40 ps40 rs40 n (a,())=p40 n a:=by
 rw [e40_top]
 skip
 try rfl
noncomputable def q40 (n:Nat) (x:argsD ps40):Option R40:=p40 n x.1
noncomputable def Sm40:Sm:=⟨ps40,rs40,false,q40⟩
theorem holds40 (hg:GamOK Try.prog G40):Holds Try.prog 40 Sm40:=by
 have:=h0_40 hg
 have e:(runF TT G40 an40 Try.f40 c40 ps40 rs40)=q40:=by
  funext n x
  exact F40_eq n x.1
 rw [e] at this
 exact this
theorem gam40:GamOK Try.prog G40:=by
 intro f s h
 unfold G40 at h
 split at h
 ·injection h with h; subst h; exact ⟨⟨Try.f97,c97,Try.func97,by kernel_rfl,by decide +kernel⟩,hh97⟩
 ·cases h
theorem hh40:Holds Try.prog 40 Sm40:=holds40 gam40
end Go.Proofs.Ytbjgiioppmkpiaa.Rx.S

namespace Go.Proofs.Ytbjgiioppmkpiaa.Rx.S
open Go Go.RowKit Go.Proofs
set_option maxRecDepth 100000
noncomputable def c98:Code:=(Try.f98.body.getD .skip)
def an98:An:=⟨fun r=>match r with | 4=>⟨[0,1,5],[]⟩ | _=>⟨[],[]⟩,fun _ _=>none⟩
abbrev ps98:List PK:=[.val tFs false,.val tFs false]
abbrev rs98:List RK:=[.val .bool false]
abbrev R98:=retsD rs98 × outsD ps98
noncomputable def G98:Gam:=fun f=>match f with | 135=>some Sm135 | _=>none
theorem h0_98 (hg:GamOK Try.prog G98):Holds Try.prog 98 ⟨ps98,rs98,false,runF TT G98 an98 Try.f98 c98 ps98 rs98⟩:=holds_of tt_ok hg mixed Try.func98 (by kernel_rfl) (by rfl) (by decide +kernel)
noncomputable def at98:Nat→Pt→List Nat→St→Option R98:=atF TT G98 an98 Try.f98 c98 _ _
def sh98_L4 (x0:List NT) (x1:List NT) (x2:Int):St:=(St.mk ((AV.one (SV.con (⟨37,(Ty.int Go.IntKind.i64).pair ((Ty.int Go.IntKind.i64).pair ((Ty.int Go.IntKind.i64).pair ((Ty.int Go.IntKind.i64).pair ((Ty.int Go.IntKind.i64).pair ((Ty.int Go.IntKind.i64).pair (Ty.bool.pair (Ty.str.pair (Ty.row (nat_lit 100) (Ty.str.pair (Ty.int Go.IntKind.i64)))))))))),x0⟩:Rw))) :: ((AV.one (SV.con (⟨37,(Ty.int Go.IntKind.i64).pair ((Ty.int Go.IntKind.i64).pair ((Ty.int Go.IntKind.i64).pair ((Ty.int Go.IntKind.i64).pair ((Ty.int Go.IntKind.i64).pair ((Ty.int Go.IntKind.i64).pair (Ty.bool.pair (Ty.str.pair (Ty.row (nat_lit 100) (Ty.str.pair (Ty.int Go.IntKind.i64)))))))))),x1⟩:Rw))) :: (AV.undef :: (AV.undef :: (AV.undef :: ((AV.one (SV.int (Go.IntKind.i64) x2)) :: (AV.undef :: (AV.undef :: (AV.undef :: (AV.undef :: (AV.undef :: (AV.undef :: (AV.undef :: (AV.undef :: (AV.undef :: (AV.undef :: (AV.undef :: (AV.undef :: (AV.undef :: (AV.undef :: (AV.undef :: (AV.undef :: (AV.undef :: (AV.undef :: (AV.undef :: (AV.undef :: (AV.undef :: []))))))))))))))))))))))))))) [])
noncomputable def st98_top (n:Nat) (lL4:(List NT)→(List NT)→Int→Option R98) (a:List NT) (b:List NT):Option R98 :=
 cond (!decide ((↑a.length:Int)=(↑b.length:Int))) (some ((false,()),())) (lL4 (a) (b) ((0:Int)))
noncomputable def st98_L4 (n:Nat) (lL4:(List NT)→(List NT)→Int→Option R98) (x0:List NT) (x1:List NT) (x2:Int):Option R98 :=
 cond (decide (x2 < (↑x0.length:Int))) (cond (decide ((0:Int)≤x2)) (cond (decide (x2 < (↑x0.length:Int))) (cond (decide ((0:Int)≤x2)) (cond (decide (x2 < (↑x1.length:Int))) ((q135 n (((x0.getD x2.toNat ZN).1,(x0.getD x2.toNat ZN).2.1,(x0.getD x2.toNat ZN).2.2.1,(x0.getD x2.toNat ZN).2.2.2.1,(x0.getD x2.toNat ZN).2.2.2.2.1,(x0.getD x2.toNat ZN).2.2.2.2.2.1,(x0.getD x2.toNat ZN).2.2.2.2.2.2.1,(x0.getD x2.toNat ZN).2.2.2.2.2.2.2.1,(x0.getD x2.toNat ZN).2.2.2.2.2.2.2.2),((x1.getD x2.toNat ZN).1,(x1.getD x2.toNat ZN).2.1,(x1.getD x2.toNat ZN).2.2.1,(x1.getD x2.toNat ZN).2.2.2.1,(x1.getD x2.toNat ZN).2.2.2.2.1,(x1.getD x2.toNat ZN).2.2.2.2.2.1,(x1.getD x2.toNat ZN).2.2.2.2.2.2.1,(x1.getD x2.toNat ZN).2.2.2.2.2.2.2.1,(x1.getD x2.toNat ZN).2.2.2.2.2.2.2.2),())).bind fun r1=>cond (!r1.1.1) (some ((false,()),())) (lL4 (x0) (x1) (Go.IntKind.i64.wrap (x2 + (1:Int))))) (none)) (none)) (none)) (none)) (some ((true,()),()))
theorem e98_top (n:Nat) (a:List NT) (b:List NT):runF TT G98 an98 Try.f98 c98 ps98 rs98 n (a,b,())=st98_top n (fun x0 x1 x2=>at98 n (.head 4) [n] (sh98_L4 x0 x1 x2)) a b:=by kernel_rfl
theorem e98_L4_0 (n:Nat) (x0:List NT) (x1:List NT) (x2:Int):at98 n (.head 4) [0] (sh98_L4 x0 x1 x2)=none:=by kernel_rfl
theorem e98_L4 (n:Nat) (m4:Nat) (x0:List NT) (x1:List NT) (x2:Int):at98 n (.head 4) [m4 + 1] (sh98_L4 x0 x1 x2)=st98_L4 n (fun x0 x1 x2=>at98 n (.head 4) [m4] (sh98_L4 x0 x1 x2)) x0 x1 x2:=by kernel_rfl
noncomputable def p98_L4 (n:Nat):Nat→(List NT)→(List NT)→Int→Option R98
 | 0,_,_,_=>none
 | m + 1,x0,x1,x2=>st98_L4 n (p98_L4 n m) x0 x1 x2
noncomputable def p98 (n:Nat) (a:List NT) (b:List NT):Option R98:=st98_top n (p98_L4 n n) a b
theorem t98_L4 (n:Nat):∀ (m4:Nat) (x0:List NT) (x1:List NT) (x2:Int),at98 n (.head 4) [m4] (sh98_L4 x0 x1 x2)=p98_L4 n m4 x0 x1 x2:=by
 intro m
 induction m with
 | zero=>intros; rw [e98_L4_0]; rfl
 | succ m ih =>
  intros
  rw [e98_L4]
  try simp only [ih]
  rfl
theorem F98_eq (n:Nat) (a:List NT) (b:List NT):runF TT G98 an98 Try.f98 c98 ps98 rs98 n (a,b,())=p98 n a b:=by
 rw [e98_top]
 simp only [t98_L4]
 try rfl
noncomputable def q98 (n:Nat) (x:argsD ps98):Option R98:=p98 n x.1 x.2.1
noncomputable def Sm98:Sm:=⟨ps98,rs98,false,q98⟩
theorem holds98 (hg:GamOK Try.prog G98):Holds Try.prog 98 Sm98:=by
 have:=h0_98 hg
 have e:(runF TT G98 an98 Try.f98 c98 ps98 rs98)=q98:=by
  funext n x
  exact F98_eq n x.1 x.2.1
 rw [e] at this
 exact this
theorem gam98:GamOK Try.prog G98:=by
 intro f s h
 unfold G98 at h
 split at h
 ·injection h with h; subst h; exact ⟨⟨Try.f135,c135,Try.func135,by kernel_rfl,by decide +kernel⟩,hh135⟩
 ·cases h
theorem hh98:Holds Try.prog 98 Sm98:=holds98 gam98
end Go.Proofs.Ytbjgiioppmkpiaa.Rx.S

namespace Go.Proofs.Ytbjgiioppmkpiaa.Rx.S
open Go Go.RowKit Go.Proofs
set_option maxRecDepth 100000
noncomputable def c41:Code:=(Try.f41.body.getD .skip)
def an41:An:=⟨fun _=>⟨[],[]⟩,fun _ _=>none⟩
abbrev ps41:List PK:=[.val tFs true,.val tFs true]
abbrev rs41:List RK:=[.val .bool false]
abbrev R41:=retsD rs41 × outsD ps41
noncomputable def G41:Gam:=fun f=>match f with | 98=>some Sm98 | _=>none
theorem h0_41 (hg:GamOK Try.prog G41):Holds Try.prog 41 ⟨ps41,rs41,false,runF TT G41 an41 Try.f41 c41 ps41 rs41⟩:=holds_of tt_ok hg mixed Try.func41 (by kernel_rfl) (by rfl) (by decide +kernel)
noncomputable def st41_top (n:Nat) (a:List NT) (b:List NT):Option R41 :=
 (q98 n (a,b,())).bind fun r0=>cond (!r0.1.1) (some ((false,()),())) (some ((true,()),()))
theorem e41_top (n:Nat) (a:List NT) (b:List NT):runF TT G41 an41 Try.f41 c41 ps41 rs41 n (a,b,())=st41_top n a b:=by kernel_rfl
noncomputable def p41 (n:Nat) (a:List NT) (b:List NT):Option R41:=st41_top n a b
theorem F41_eq (n:Nat) (a:List NT) (b:List NT):runF TT G41 an41 Try.f41 c41 ps41 rs41 n (a,b,())=p41 n a b:=by
 rw [e41_top]
 skip
 try rfl
noncomputable def q41 (n:Nat) (x:argsD ps41):Option R41:=p41 n x.1 x.2.1
noncomputable def Sm41:Sm:=⟨ps41,rs41,false,q41⟩
theorem holds41 (hg:GamOK Try.prog G41):Holds Try.prog 41 Sm41:=by
 have:=h0_41 hg
 have e:(runF TT G41 an41 Try.f41 c41 ps41 rs41)=q41:=by
  funext n x
  exact F41_eq n x.1 x.2.1
 rw [e] at this
 exact this
theorem gam41:GamOK Try.prog G41:=by
 intro f s h
 unfold G41 at h
 split at h
 ·injection h with h; subst h; exact ⟨⟨Try.f98,c98,Try.func98,by kernel_rfl,by decide +kernel⟩,hh98⟩
 ·cases h
theorem hh41:Holds Try.prog 41 Sm41:=holds41 gam41
end Go.Proofs.Ytbjgiioppmkpiaa.Rx.S

namespace Go.Proofs.Ytbjgiioppmkpiaa.Rx.S
open Go Go.RowKit Go.Proofs
set_option maxRecDepth 100000
noncomputable def c54:Code:=(Try.f54.body.getD .skip)
def an54:An:=⟨fun _=>⟨[],[]⟩,fun _ _=>none⟩
abbrev ps54:List PK:=[.val tFs true,.val tCr true,.val i64 false,.val i64 false,.val .str false]
abbrev rs54:List RK:=[.own tFs true,.val i64 false]
abbrev R54:=retsD rs54 × outsD ps54
noncomputable def G54:Gam:=fun f=>match f with | 63=>some Sm63 | 64=>some Sm64 | 65=>some Sm65 | 67=>some Sm67 | 76=>some Sm76 | 111=>some Sm111 | _=>none
theorem h0_54 (hg:GamOK Try.prog G54):Holds Try.prog 54 ⟨ps54,rs54,false,runF TT G54 an54 Try.f54 c54 ps54 rs54⟩:=holds_of tt_ok hg mixed Try.func54 (by kernel_rfl) (by rfl) (by decide +kernel)
noncomputable def st54_top (n:Nat) (a:List NT) (b:Int × Int × List Int) (c:Int) (d:Int) (e:ByteArray):Option R54 :=
 (q63 n (a,())).bind fun r0=>cond (!r0.1.1) (some (([],((1:Int),())),())) ((q64 n ((b.1,b.2.1,b.2.2),())).bind fun r1=>cond (!r1.1.1) (some (([],((1:Int),())),())) ((q65 n (a,c,())).bind fun r2=>cond (!r2.1.1) (some (([],((1:Int),())),())) ((q65 n (a,d,())).bind fun r3=>cond (!r3.1.1) (some (([],((1:Int),())),())) ((q76 n (e,())).bind fun r4=>cond (!r4.1.1) (some (([],((1:Int),())),())) ((q67 n (a,())).bind fun r5=>(q111 n (r5.1.1,(b.1,b.2.1,b.2.2),c,d,e,())).bind fun r6=>some ((r6.1.1,(r6.1.2.1,())),()))))))
theorem e54_top (n:Nat) (a:List NT) (b:Int × Int × List Int) (c:Int) (d:Int) (e:ByteArray):runF TT G54 an54 Try.f54 c54 ps54 rs54 n (a,b,c,d,e,())=st54_top n a b c d e:=by kernel_rfl
noncomputable def p54 (n:Nat) (a:List NT) (b:Int × Int × List Int) (c:Int) (d:Int) (e:ByteArray):Option R54:=st54_top n a b c d e
theorem F54_eq (n:Nat) (a:List NT) (b:Int × Int × List Int) (c:Int) (d:Int) (e:ByteArray):runF TT G54 an54 Try.f54 c54 ps54 rs54 n (a,b,c,d,e,())=p54 n a b c d e:=by
 rw [e54_top]
 skip
 try rfl
noncomputable def q54 (n:Nat) (x:argsD ps54):Option R54:=p54 n x.1 x.2.1 x.2.2.1 x.2.2.2.1 x.2.2.2.2.1
noncomputable def Sm54:Sm:=⟨ps54,rs54,false,q54⟩
theorem holds54 (hg:GamOK Try.prog G54):Holds Try.prog 54 Sm54:=by
 have:=h0_54 hg
 have e:(runF TT G54 an54 Try.f54 c54 ps54 rs54)=q54:=by
  funext n x
  exact F54_eq n x.1 x.2.1 x.2.2.1 x.2.2.2.1 x.2.2.2.2.1
 rw [e] at this
 exact this
theorem gam54:GamOK Try.prog G54:=by
 intro f s h
 unfold G54 at h
 split at h
 ·injection h with h; subst h; exact ⟨⟨Try.f63,c63,Try.func63,by kernel_rfl,by decide +kernel⟩,hh63⟩
 ·injection h with h; subst h; exact ⟨⟨Try.f64,c64,Try.func64,by kernel_rfl,by decide +kernel⟩,hh64⟩
 ·injection h with h; subst h; exact ⟨⟨Try.f65,c65,Try.func65,by kernel_rfl,by decide +kernel⟩,hh65⟩
 ·injection h with h; subst h; exact ⟨⟨Try.f67,c67,Try.func67,by kernel_rfl,by decide +kernel⟩,hh67⟩
 ·injection h with h; subst h; exact ⟨⟨Try.f76,c76,Try.func76,by kernel_rfl,by decide +kernel⟩,hh76⟩
 ·injection h with h; subst h; exact ⟨⟨Try.f111,c111,Try.func111,by kernel_rfl,by decide +kernel⟩,hh111⟩
 ·cases h
theorem hh54:Holds Try.prog 54 Sm54:=holds54 gam54
end Go.Proofs.Ytbjgiioppmkpiaa.Rx.S

namespace Go.Proofs.Ytbjgiioppmkpiaa.Rx.S
open Go Go.RowKit Go.Proofs
set_option maxRecDepth 100000
noncomputable def c14:Code:=(Try.f14.body.getD .skip)
def an14:An:=⟨fun _=>⟨[],[]⟩,fun _ _=>none⟩
abbrev ps14:List PK:=[.val tLf true,.val tCr true,.val i64 false,.val i64 false,.val .str false]
abbrev rs14:List RK:=[.val .bool false]
abbrev R14:=retsD rs14 × outsD ps14
noncomputable def G14:Gam:=fun f=>match f with | 31=>some Sm31 | 33=>some Sm33 | 35=>some Sm35 | 37=>some Sm37 | 39=>some Sm39 | 40=>some Sm40 | 41=>some Sm41 | 42=>some Sm42 | 43=>some Sm43 | 53=>some Sm53 | 54=>some Sm54 | _=>none
theorem h0_14 (hg:GamOK Try.prog G14):Holds Try.prog 14 ⟨ps14,rs14,false,runF TT G14 an14 Try.f14 c14 ps14 rs14⟩:=holds_of tt_ok hg mixed Try.func14 (by kernel_rfl) (by rfl) (by decide +kernel)
noncomputable def st14_top (n:Nat) (a:List NT) (b:Int × Int × List Int) (c:Int) (d:Int) (e:ByteArray):Option R14 :=
 cond (decide ((1048576:Int) < (↑e.size:Int))) (some ((true,()),())) ((q39 n (a,(1048576:Int),())).bind fun r0=>cond (decide (r0.1.1 < (0:Int))) (some ((true,()),())) ((q31 n ((b.1,b.2.1,b.2.2),r0.1.1,())).bind fun r1=>cond (decide (r1.1.1 < (0:Int))) (some ((true,()),())) ((q40 n (a,())).bind fun r2=>(q33 n ((b.1,b.2.1,b.2.2),())).bind fun r3=>(q54 n (r2.1.1,(r3.1.1.1,r3.1.1.2.1,r3.1.1.2.2),c,d,e,())).bind fun r4=>(q40 n (a,())).bind fun r5=>(q33 n ((b.1,b.2.1,b.2.2),())).bind fun r6=>(q53 n (r5.1.1,(r6.1.1.1,r6.1.1.2.1,r6.1.1.2.2),c,d,e,())).bind fun r7=>(q41 n (r7.1.1,r4.1.1,())).bind fun r8=>cond (!r8.1.1) (some ((false,()),())) (cond (!decide (r7.1.2.1=r4.1.2.1)) (some ((false,()),())) ((q40 n (a,())).bind fun r9=>(q41 n (r5.1.1,r9.1.1,())).bind fun r10=>cond (!r10.1.1) (some ((false,()),())) ((q33 n ((b.1,b.2.1,b.2.2),())).bind fun r11=>(q35 n ((r6.1.1.1,r6.1.1.2.1,r6.1.1.2.2),(r11.1.1.1,r11.1.1.2.1,r11.1.1.2.2),())).bind fun r12=>cond (!r12.1.1) (some ((false,()),())) ((q42 n (r5.1.1,(1:Int),())).bind fun r13=>(q37 n ((r6.1.1.1,r6.1.1.2.1,r6.1.1.2.2),r13.1.1,())).bind fun r14=>cond (decide (r14.1.1 < (0:Int))) (some ((false,()),())) ((q41 n (r7.1.1,r4.1.1,())).bind fun r15=>cond (!r15.1.1) (some ((false,()),())) (cond (!decide (r7.1.2.1=r4.1.2.1)) (some ((false,()),())) ((q42 n (r7.1.1,(1:Int),())).bind fun r16=>(q43 n (r16.2.1,(1:Int),())).bind fun r17=>cond (decide (r17.1.1 < (0:Int))) (some ((false,()),())) (cond (!decide (r17.1.1=r16.1.1)) (some ((false,()),())) ((q40 n (a,())).bind fun r18=>(q33 n ((b.1,b.2.1,b.2.2),())).bind fun r19=>(q53 n (r18.1.1,(r19.1.1.1,r19.1.1.2.1,r19.1.1.2.2),c,d,e,())).bind fun r20=>(q41 n (r20.1.1,r4.1.1,())).bind fun r21=>cond (!r21.1.1) (some ((false,()),())) (cond (!decide (r20.1.2.1=r4.1.2.1)) (some ((false,()),())) ((q43 n (r16.2.1,(1:Int),())).bind fun r22=>cond (decide (r22.1.1 < (0:Int))) (some ((false,()),())) (cond (!decide (r22.1.1=r16.1.1)) (some ((false,()),())) (some ((true,()),())))))))))))))))))
theorem e14_top (n:Nat) (a:List NT) (b:Int × Int × List Int) (c:Int) (d:Int) (e:ByteArray):runF TT G14 an14 Try.f14 c14 ps14 rs14 n (a,b,c,d,e,())=st14_top n a b c d e:=by kernel_rfl
noncomputable def p14 (n:Nat) (a:List NT) (b:Int × Int × List Int) (c:Int) (d:Int) (e:ByteArray):Option R14:=st14_top n a b c d e
theorem F14_eq (n:Nat) (a:List NT) (b:Int × Int × List Int) (c:Int) (d:Int) (e:ByteArray):runF TT G14 an14 Try.f14 c14 ps14 rs14 n (a,b,c,d,e,())=p14 n a b c d e:=by
 rw [e14_top]
 skip
 try rfl
noncomputable def q14 (n:Nat) (x:argsD ps14):Option R14:=p14 n x.1 x.2.1 x.2.2.1 x.2.2.2.1 x.2.2.2.2.1
noncomputable def Sm14:Sm:=⟨ps14,rs14,false,q14⟩
theorem holds14 (hg:GamOK Try.prog G14):Holds Try.prog 14 Sm14:=by
 have:=h0_14 hg
 have e:(runF TT G14 an14 Try.f14 c14 ps14 rs14)=q14:=by
  funext n x
  exact F14_eq n x.1 x.2.1 x.2.2.1 x.2.2.2.1 x.2.2.2.2.1
 rw [e] at this
 exact this
theorem gam14:GamOK Try.prog G14:=by
 intro f s h
 unfold G14 at h
 split at h
 ·injection h with h; subst h; exact ⟨⟨Try.f31,c31,Try.func31,by kernel_rfl,by decide +kernel⟩,hh31⟩
 ·injection h with h; subst h; exact ⟨⟨Try.f33,c33,Try.func33,by kernel_rfl,by decide +kernel⟩,hh33⟩
 ·injection h with h; subst h; exact ⟨⟨Try.f35,c35,Try.func35,by kernel_rfl,by decide +kernel⟩,hh35⟩
 ·injection h with h; subst h; exact ⟨⟨Try.f37,c37,Try.func37,by kernel_rfl,by decide +kernel⟩,hh37⟩
 ·injection h with h; subst h; exact ⟨⟨Try.f39,c39,Try.func39,by kernel_rfl,by decide +kernel⟩,hh39⟩
 ·injection h with h; subst h; exact ⟨⟨Try.f40,c40,Try.func40,by kernel_rfl,by decide +kernel⟩,hh40⟩
 ·injection h with h; subst h; exact ⟨⟨Try.f41,c41,Try.func41,by kernel_rfl,by decide +kernel⟩,hh41⟩
 ·injection h with h; subst h; exact ⟨⟨Try.f42,c42,Try.func42,by kernel_rfl,by decide +kernel⟩,hh42⟩
 ·injection h with h; subst h; exact ⟨⟨Try.f43,c43,Try.func43,by kernel_rfl,by decide +kernel⟩,hh43⟩
 ·injection h with h; subst h; exact ⟨⟨Try.f53,c53,Try.func53,by kernel_rfl,by decide +kernel⟩,hh53⟩
 ·injection h with h; subst h; exact ⟨⟨Try.f54,c54,Try.func54,by kernel_rfl,by decide +kernel⟩,hh54⟩
 ·cases h
theorem hh14:Holds Try.prog 14 Sm14:=holds14 gam14
end Go.Proofs.Ytbjgiioppmkpiaa.Rx.S

