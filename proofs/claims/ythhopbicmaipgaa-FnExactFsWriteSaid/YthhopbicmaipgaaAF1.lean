/- What the functions of this seat compute, each as a plain function on lists and numbers, with the proof that a call answers so. No condition. -/
import Derived.Test.YthhopbicmaipgaaAF0
namespace Go.Proofs.Ythhopbicmaipgaa.Rx.S
open Go Go.RowKit Go.Proofs
set_option maxRecDepth 100000
noncomputable def c62 : Code := (Try.f62.body.getD .skip)
def an62 : An := ⟨fun r => match r with | 5 => ⟨[1, 3, 4], []⟩ | 10 => ⟨[1, 3, 4, 5], []⟩ | 17 => ⟨[1, 3, 6, 7, 8], []⟩ | _ => ⟨[], []⟩, fun _ _ => none⟩
abbrev ps62 : List PK := [.val tFs true]
abbrev rs62 : List RK := [.val .bool false]
abbrev R62 := retsD rs62 × outsD ps62
noncomputable def G62 : Gam := fun f => match f with | 100 => some Sm100 | 101 => some Sm101 | _ => none
theorem h0_62 (hg : GamOK Try.prog G62) : Holds Try.prog 62 ⟨ps62, rs62, false, runF TT G62 an62 Try.f62 c62 ps62 rs62⟩ := holds_of tt_ok hg mixed Try.func62 (by kernel_rfl) (by rfl) (by decide +kernel)
noncomputable def at62 : Nat → Pt → List Nat → St → Option R62 := atF TT G62 an62 Try.f62 c62 _ _
def sh62_L10 (x0 : Int) (x1 : Int) (x2 : List (Int × Int × Int × Int × Int × Int × Bool × ByteArray × List (ByteArray × Int))) (x3 : List Int) : St := (Go.Proofs.Ythhopbicmaipgaa.Rx.St.mk (Go.Proofs.Ythhopbicmaipgaa.Rx.AV.undef :: ((Go.Proofs.Ythhopbicmaipgaa.Rx.AV.one (Go.Proofs.Ythhopbicmaipgaa.Rx.SV.bptr 1000000 0)) :: (Go.Proofs.Ythhopbicmaipgaa.Rx.AV.undef :: ((Go.Proofs.Ythhopbicmaipgaa.Rx.AV.one (Go.Proofs.Ythhopbicmaipgaa.Rx.SV.ref 1000001 0 [] Option.none)) :: ((Go.Proofs.Ythhopbicmaipgaa.Rx.AV.one (Go.Proofs.Ythhopbicmaipgaa.Rx.SV.int (Go.IntKind.i64) x0)) :: ((Go.Proofs.Ythhopbicmaipgaa.Rx.AV.one (Go.Proofs.Ythhopbicmaipgaa.Rx.SV.int (Go.IntKind.i64) x1)) :: (Go.Proofs.Ythhopbicmaipgaa.Rx.AV.undef :: (Go.Proofs.Ythhopbicmaipgaa.Rx.AV.undef :: (Go.Proofs.Ythhopbicmaipgaa.Rx.AV.undef :: (Go.Proofs.Ythhopbicmaipgaa.Rx.AV.undef :: (Go.Proofs.Ythhopbicmaipgaa.Rx.AV.undef :: (Go.Proofs.Ythhopbicmaipgaa.Rx.AV.undef :: (Go.Proofs.Ythhopbicmaipgaa.Rx.AV.undef :: (Go.Proofs.Ythhopbicmaipgaa.Rx.AV.undef :: (Go.Proofs.Ythhopbicmaipgaa.Rx.AV.undef :: (Go.Proofs.Ythhopbicmaipgaa.Rx.AV.undef :: (Go.Proofs.Ythhopbicmaipgaa.Rx.AV.undef :: (Go.Proofs.Ythhopbicmaipgaa.Rx.AV.undef :: (Go.Proofs.Ythhopbicmaipgaa.Rx.AV.undef :: (Go.Proofs.Ythhopbicmaipgaa.Rx.AV.undef :: (Go.Proofs.Ythhopbicmaipgaa.Rx.AV.undef :: (Go.Proofs.Ythhopbicmaipgaa.Rx.AV.undef :: (Go.Proofs.Ythhopbicmaipgaa.Rx.AV.undef :: (Go.Proofs.Ythhopbicmaipgaa.Rx.AV.undef :: (Go.Proofs.Ythhopbicmaipgaa.Rx.AV.undef :: (Go.Proofs.Ythhopbicmaipgaa.Rx.AV.undef :: (Go.Proofs.Ythhopbicmaipgaa.Rx.AV.undef :: (Go.Proofs.Ythhopbicmaipgaa.Rx.AV.undef :: (Go.Proofs.Ythhopbicmaipgaa.Rx.AV.undef :: (Go.Proofs.Ythhopbicmaipgaa.Rx.AV.undef :: (Go.Proofs.Ythhopbicmaipgaa.Rx.AV.undef :: (Go.Proofs.Ythhopbicmaipgaa.Rx.AV.undef :: (Go.Proofs.Ythhopbicmaipgaa.Rx.AV.undef :: (Go.Proofs.Ythhopbicmaipgaa.Rx.AV.undef :: (Go.Proofs.Ythhopbicmaipgaa.Rx.AV.undef :: (Go.Proofs.Ythhopbicmaipgaa.Rx.AV.undef :: (Go.Proofs.Ythhopbicmaipgaa.Rx.AV.undef :: (Go.Proofs.Ythhopbicmaipgaa.Rx.AV.undef :: (Go.Proofs.Ythhopbicmaipgaa.Rx.AV.undef :: (Go.Proofs.Ythhopbicmaipgaa.Rx.AV.undef :: (Go.Proofs.Ythhopbicmaipgaa.Rx.AV.undef :: (Go.Proofs.Ythhopbicmaipgaa.Rx.AV.undef :: (Go.Proofs.Ythhopbicmaipgaa.Rx.AV.undef :: (Go.Proofs.Ythhopbicmaipgaa.Rx.AV.undef :: (Go.Proofs.Ythhopbicmaipgaa.Rx.AV.undef :: (Go.Proofs.Ythhopbicmaipgaa.Rx.AV.undef :: (Go.Proofs.Ythhopbicmaipgaa.Rx.AV.undef :: (Go.Proofs.Ythhopbicmaipgaa.Rx.AV.undef :: (Go.Proofs.Ythhopbicmaipgaa.Rx.AV.undef :: (Go.Proofs.Ythhopbicmaipgaa.Rx.AV.undef :: (Go.Proofs.Ythhopbicmaipgaa.Rx.AV.undef :: (Go.Proofs.Ythhopbicmaipgaa.Rx.AV.undef :: (Go.Proofs.Ythhopbicmaipgaa.Rx.AV.undef :: (Go.Proofs.Ythhopbicmaipgaa.Rx.AV.undef :: (Go.Proofs.Ythhopbicmaipgaa.Rx.AV.undef :: (Go.Proofs.Ythhopbicmaipgaa.Rx.AV.undef :: (Go.Proofs.Ythhopbicmaipgaa.Rx.AV.undef :: (Go.Proofs.Ythhopbicmaipgaa.Rx.AV.undef :: (Go.Proofs.Ythhopbicmaipgaa.Rx.AV.undef :: (Go.Proofs.Ythhopbicmaipgaa.Rx.AV.undef :: (Go.Proofs.Ythhopbicmaipgaa.Rx.AV.undef :: (Go.Proofs.Ythhopbicmaipgaa.Rx.AV.undef :: (Go.Proofs.Ythhopbicmaipgaa.Rx.AV.undef :: (Go.Proofs.Ythhopbicmaipgaa.Rx.AV.undef :: (Go.Proofs.Ythhopbicmaipgaa.Rx.AV.undef :: (Go.Proofs.Ythhopbicmaipgaa.Rx.AV.undef :: (Go.Proofs.Ythhopbicmaipgaa.Rx.AV.undef :: (Go.Proofs.Ythhopbicmaipgaa.Rx.AV.undef :: (Go.Proofs.Ythhopbicmaipgaa.Rx.AV.undef :: (Go.Proofs.Ythhopbicmaipgaa.Rx.AV.undef :: (Go.Proofs.Ythhopbicmaipgaa.Rx.AV.undef :: (Go.Proofs.Ythhopbicmaipgaa.Rx.AV.undef :: (Go.Proofs.Ythhopbicmaipgaa.Rx.AV.undef :: (Go.Proofs.Ythhopbicmaipgaa.Rx.AV.undef :: (Go.Proofs.Ythhopbicmaipgaa.Rx.AV.undef :: (Go.Proofs.Ythhopbicmaipgaa.Rx.AV.undef :: (Go.Proofs.Ythhopbicmaipgaa.Rx.AV.undef :: (Go.Proofs.Ythhopbicmaipgaa.Rx.AV.undef :: (Go.Proofs.Ythhopbicmaipgaa.Rx.AV.undef :: (Go.Proofs.Ythhopbicmaipgaa.Rx.AV.undef :: (Go.Proofs.Ythhopbicmaipgaa.Rx.AV.undef :: (Go.Proofs.Ythhopbicmaipgaa.Rx.AV.undef :: (Go.Proofs.Ythhopbicmaipgaa.Rx.AV.undef :: (Go.Proofs.Ythhopbicmaipgaa.Rx.AV.undef :: (Go.Proofs.Ythhopbicmaipgaa.Rx.AV.undef :: (Go.Proofs.Ythhopbicmaipgaa.Rx.AV.undef :: (Go.Proofs.Ythhopbicmaipgaa.Rx.AV.undef :: (Go.Proofs.Ythhopbicmaipgaa.Rx.AV.undef :: (Go.Proofs.Ythhopbicmaipgaa.Rx.AV.undef :: (Go.Proofs.Ythhopbicmaipgaa.Rx.AV.undef :: (Go.Proofs.Ythhopbicmaipgaa.Rx.AV.undef :: (Go.Proofs.Ythhopbicmaipgaa.Rx.AV.undef :: (Go.Proofs.Ythhopbicmaipgaa.Rx.AV.undef :: (Go.Proofs.Ythhopbicmaipgaa.Rx.AV.undef :: (Go.Proofs.Ythhopbicmaipgaa.Rx.AV.undef :: (Go.Proofs.Ythhopbicmaipgaa.Rx.AV.undef :: (Go.Proofs.Ythhopbicmaipgaa.Rx.AV.undef :: (Go.Proofs.Ythhopbicmaipgaa.Rx.AV.undef :: (Go.Proofs.Ythhopbicmaipgaa.Rx.AV.undef :: (Go.Proofs.Ythhopbicmaipgaa.Rx.AV.undef :: (Go.Proofs.Ythhopbicmaipgaa.Rx.AV.undef :: (Go.Proofs.Ythhopbicmaipgaa.Rx.AV.undef :: (Go.Proofs.Ythhopbicmaipgaa.Rx.AV.undef :: (Go.Proofs.Ythhopbicmaipgaa.Rx.AV.undef :: (Go.Proofs.Ythhopbicmaipgaa.Rx.AV.undef :: (Go.Proofs.Ythhopbicmaipgaa.Rx.AV.undef :: (Go.Proofs.Ythhopbicmaipgaa.Rx.AV.undef :: (Go.Proofs.Ythhopbicmaipgaa.Rx.AV.undef :: (Go.Proofs.Ythhopbicmaipgaa.Rx.AV.undef :: (Go.Proofs.Ythhopbicmaipgaa.Rx.AV.undef :: (Go.Proofs.Ythhopbicmaipgaa.Rx.AV.undef :: (Go.Proofs.Ythhopbicmaipgaa.Rx.AV.undef :: (Go.Proofs.Ythhopbicmaipgaa.Rx.AV.undef :: (Go.Proofs.Ythhopbicmaipgaa.Rx.AV.undef :: (Go.Proofs.Ythhopbicmaipgaa.Rx.AV.undef :: (Go.Proofs.Ythhopbicmaipgaa.Rx.AV.undef :: (Go.Proofs.Ythhopbicmaipgaa.Rx.AV.undef :: (Go.Proofs.Ythhopbicmaipgaa.Rx.AV.undef :: (Go.Proofs.Ythhopbicmaipgaa.Rx.AV.undef :: (Go.Proofs.Ythhopbicmaipgaa.Rx.AV.undef :: (Go.Proofs.Ythhopbicmaipgaa.Rx.AV.undef :: (Go.Proofs.Ythhopbicmaipgaa.Rx.AV.undef :: (Go.Proofs.Ythhopbicmaipgaa.Rx.AV.undef :: (Go.Proofs.Ythhopbicmaipgaa.Rx.AV.undef :: (Go.Proofs.Ythhopbicmaipgaa.Rx.AV.undef :: (Go.Proofs.Ythhopbicmaipgaa.Rx.AV.undef :: (Go.Proofs.Ythhopbicmaipgaa.Rx.AV.undef :: (Go.Proofs.Ythhopbicmaipgaa.Rx.AV.undef :: (Go.Proofs.Ythhopbicmaipgaa.Rx.AV.undef :: (Go.Proofs.Ythhopbicmaipgaa.Rx.AV.undef :: (Go.Proofs.Ythhopbicmaipgaa.Rx.AV.undef :: (Go.Proofs.Ythhopbicmaipgaa.Rx.AV.undef :: (Go.Proofs.Ythhopbicmaipgaa.Rx.AV.undef :: (Go.Proofs.Ythhopbicmaipgaa.Rx.AV.undef :: (Go.Proofs.Ythhopbicmaipgaa.Rx.AV.undef :: (Go.Proofs.Ythhopbicmaipgaa.Rx.AV.undef :: (Go.Proofs.Ythhopbicmaipgaa.Rx.AV.undef :: (Go.Proofs.Ythhopbicmaipgaa.Rx.AV.undef :: [])))))))))))))))))))))))))))))))))))))))))))))))))))))))))))))))))))))))))))))))))))))))))))))))))))))))))))))))))))))))))))))))))))))))))) ((1000000, (Go.Proofs.Ythhopbicmaipgaa.Rx.Ent.box ((Go.Proofs.Ythhopbicmaipgaa.Rx.SV.con (⟨39, (Go.Proofs.Ythhopbicmaipgaa.Rx.Ty.int Go.IntKind.i64).pair   ((Go.Proofs.Ythhopbicmaipgaa.Rx.Ty.int Go.IntKind.i64).pair     ((Go.Proofs.Ythhopbicmaipgaa.Rx.Ty.int Go.IntKind.i64).pair       ((Go.Proofs.Ythhopbicmaipgaa.Rx.Ty.int Go.IntKind.i64).pair         ((Go.Proofs.Ythhopbicmaipgaa.Rx.Ty.int Go.IntKind.i64).pair           ((Go.Proofs.Ythhopbicmaipgaa.Rx.Ty.int Go.IntKind.i64).pair             (Go.Proofs.Ythhopbicmaipgaa.Rx.Ty.bool.pair               (Go.Proofs.Ythhopbicmaipgaa.Rx.Ty.str.pair (Go.Proofs.Ythhopbicmaipgaa.Rx.Ty.row (nat_lit 95) (Go.Proofs.Ythhopbicmaipgaa.Rx.Ty.str.pair (Go.Proofs.Ythhopbicmaipgaa.Rx.Ty.int Go.IntKind.i64)))))))))), x2⟩ : Rw)) :: []))) :: ((1000001, (Go.Proofs.Ythhopbicmaipgaa.Rx.Ent.row (⟨3, Go.Proofs.Ythhopbicmaipgaa.Rx.Ty.int Go.IntKind.i64, x3⟩ : Rw) 0 Option.none)) :: [])))
def sh62_L17 (x0 : Bool) (x1 : Int) (x2 : List (Int × Int × Int × Int × Int × Int × Bool × ByteArray × List (ByteArray × Int))) (x3 : List Int) (x4 : List Bool) : St := (Go.Proofs.Ythhopbicmaipgaa.Rx.St.mk (Go.Proofs.Ythhopbicmaipgaa.Rx.AV.undef :: ((Go.Proofs.Ythhopbicmaipgaa.Rx.AV.one (Go.Proofs.Ythhopbicmaipgaa.Rx.SV.bptr 1000000 0)) :: (Go.Proofs.Ythhopbicmaipgaa.Rx.AV.undef :: ((Go.Proofs.Ythhopbicmaipgaa.Rx.AV.one (Go.Proofs.Ythhopbicmaipgaa.Rx.SV.ref 1000001 0 [] Option.none)) :: (Go.Proofs.Ythhopbicmaipgaa.Rx.AV.undef :: (Go.Proofs.Ythhopbicmaipgaa.Rx.AV.undef :: ((Go.Proofs.Ythhopbicmaipgaa.Rx.AV.one (Go.Proofs.Ythhopbicmaipgaa.Rx.SV.ref 1000002 0 [] Option.none)) :: ((Go.Proofs.Ythhopbicmaipgaa.Rx.AV.one (Go.Proofs.Ythhopbicmaipgaa.Rx.SV.bool x0)) :: ((Go.Proofs.Ythhopbicmaipgaa.Rx.AV.one (Go.Proofs.Ythhopbicmaipgaa.Rx.SV.int (Go.IntKind.i64) x1)) :: (Go.Proofs.Ythhopbicmaipgaa.Rx.AV.undef :: (Go.Proofs.Ythhopbicmaipgaa.Rx.AV.undef :: (Go.Proofs.Ythhopbicmaipgaa.Rx.AV.undef :: (Go.Proofs.Ythhopbicmaipgaa.Rx.AV.undef :: (Go.Proofs.Ythhopbicmaipgaa.Rx.AV.undef :: (Go.Proofs.Ythhopbicmaipgaa.Rx.AV.undef :: (Go.Proofs.Ythhopbicmaipgaa.Rx.AV.undef :: (Go.Proofs.Ythhopbicmaipgaa.Rx.AV.undef :: (Go.Proofs.Ythhopbicmaipgaa.Rx.AV.undef :: (Go.Proofs.Ythhopbicmaipgaa.Rx.AV.undef :: (Go.Proofs.Ythhopbicmaipgaa.Rx.AV.undef :: (Go.Proofs.Ythhopbicmaipgaa.Rx.AV.undef :: (Go.Proofs.Ythhopbicmaipgaa.Rx.AV.undef :: (Go.Proofs.Ythhopbicmaipgaa.Rx.AV.undef :: (Go.Proofs.Ythhopbicmaipgaa.Rx.AV.undef :: (Go.Proofs.Ythhopbicmaipgaa.Rx.AV.undef :: (Go.Proofs.Ythhopbicmaipgaa.Rx.AV.undef :: (Go.Proofs.Ythhopbicmaipgaa.Rx.AV.undef :: (Go.Proofs.Ythhopbicmaipgaa.Rx.AV.undef :: (Go.Proofs.Ythhopbicmaipgaa.Rx.AV.undef :: (Go.Proofs.Ythhopbicmaipgaa.Rx.AV.undef :: (Go.Proofs.Ythhopbicmaipgaa.Rx.AV.undef :: (Go.Proofs.Ythhopbicmaipgaa.Rx.AV.undef :: (Go.Proofs.Ythhopbicmaipgaa.Rx.AV.undef :: (Go.Proofs.Ythhopbicmaipgaa.Rx.AV.undef :: (Go.Proofs.Ythhopbicmaipgaa.Rx.AV.undef :: (Go.Proofs.Ythhopbicmaipgaa.Rx.AV.undef :: (Go.Proofs.Ythhopbicmaipgaa.Rx.AV.undef :: (Go.Proofs.Ythhopbicmaipgaa.Rx.AV.undef :: (Go.Proofs.Ythhopbicmaipgaa.Rx.AV.undef :: (Go.Proofs.Ythhopbicmaipgaa.Rx.AV.undef :: (Go.Proofs.Ythhopbicmaipgaa.Rx.AV.undef :: (Go.Proofs.Ythhopbicmaipgaa.Rx.AV.undef :: (Go.Proofs.Ythhopbicmaipgaa.Rx.AV.undef :: (Go.Proofs.Ythhopbicmaipgaa.Rx.AV.undef :: (Go.Proofs.Ythhopbicmaipgaa.Rx.AV.undef :: (Go.Proofs.Ythhopbicmaipgaa.Rx.AV.undef :: (Go.Proofs.Ythhopbicmaipgaa.Rx.AV.undef :: (Go.Proofs.Ythhopbicmaipgaa.Rx.AV.undef :: (Go.Proofs.Ythhopbicmaipgaa.Rx.AV.undef :: (Go.Proofs.Ythhopbicmaipgaa.Rx.AV.undef :: (Go.Proofs.Ythhopbicmaipgaa.Rx.AV.undef :: (Go.Proofs.Ythhopbicmaipgaa.Rx.AV.undef :: (Go.Proofs.Ythhopbicmaipgaa.Rx.AV.undef :: (Go.Proofs.Ythhopbicmaipgaa.Rx.AV.undef :: (Go.Proofs.Ythhopbicmaipgaa.Rx.AV.undef :: (Go.Proofs.Ythhopbicmaipgaa.Rx.AV.undef :: (Go.Proofs.Ythhopbicmaipgaa.Rx.AV.undef :: (Go.Proofs.Ythhopbicmaipgaa.Rx.AV.undef :: (Go.Proofs.Ythhopbicmaipgaa.Rx.AV.undef :: (Go.Proofs.Ythhopbicmaipgaa.Rx.AV.undef :: (Go.Proofs.Ythhopbicmaipgaa.Rx.AV.undef :: (Go.Proofs.Ythhopbicmaipgaa.Rx.AV.undef :: (Go.Proofs.Ythhopbicmaipgaa.Rx.AV.undef :: (Go.Proofs.Ythhopbicmaipgaa.Rx.AV.undef :: (Go.Proofs.Ythhopbicmaipgaa.Rx.AV.undef :: (Go.Proofs.Ythhopbicmaipgaa.Rx.AV.undef :: (Go.Proofs.Ythhopbicmaipgaa.Rx.AV.undef :: (Go.Proofs.Ythhopbicmaipgaa.Rx.AV.undef :: (Go.Proofs.Ythhopbicmaipgaa.Rx.AV.undef :: (Go.Proofs.Ythhopbicmaipgaa.Rx.AV.undef :: (Go.Proofs.Ythhopbicmaipgaa.Rx.AV.undef :: (Go.Proofs.Ythhopbicmaipgaa.Rx.AV.undef :: (Go.Proofs.Ythhopbicmaipgaa.Rx.AV.undef :: (Go.Proofs.Ythhopbicmaipgaa.Rx.AV.undef :: (Go.Proofs.Ythhopbicmaipgaa.Rx.AV.undef :: (Go.Proofs.Ythhopbicmaipgaa.Rx.AV.undef :: (Go.Proofs.Ythhopbicmaipgaa.Rx.AV.undef :: (Go.Proofs.Ythhopbicmaipgaa.Rx.AV.undef :: (Go.Proofs.Ythhopbicmaipgaa.Rx.AV.undef :: (Go.Proofs.Ythhopbicmaipgaa.Rx.AV.undef :: (Go.Proofs.Ythhopbicmaipgaa.Rx.AV.undef :: (Go.Proofs.Ythhopbicmaipgaa.Rx.AV.undef :: (Go.Proofs.Ythhopbicmaipgaa.Rx.AV.undef :: (Go.Proofs.Ythhopbicmaipgaa.Rx.AV.undef :: (Go.Proofs.Ythhopbicmaipgaa.Rx.AV.undef :: (Go.Proofs.Ythhopbicmaipgaa.Rx.AV.undef :: (Go.Proofs.Ythhopbicmaipgaa.Rx.AV.undef :: (Go.Proofs.Ythhopbicmaipgaa.Rx.AV.undef :: (Go.Proofs.Ythhopbicmaipgaa.Rx.AV.undef :: (Go.Proofs.Ythhopbicmaipgaa.Rx.AV.undef :: (Go.Proofs.Ythhopbicmaipgaa.Rx.AV.undef :: (Go.Proofs.Ythhopbicmaipgaa.Rx.AV.undef :: (Go.Proofs.Ythhopbicmaipgaa.Rx.AV.undef :: (Go.Proofs.Ythhopbicmaipgaa.Rx.AV.undef :: (Go.Proofs.Ythhopbicmaipgaa.Rx.AV.undef :: (Go.Proofs.Ythhopbicmaipgaa.Rx.AV.undef :: (Go.Proofs.Ythhopbicmaipgaa.Rx.AV.undef :: (Go.Proofs.Ythhopbicmaipgaa.Rx.AV.undef :: (Go.Proofs.Ythhopbicmaipgaa.Rx.AV.undef :: (Go.Proofs.Ythhopbicmaipgaa.Rx.AV.undef :: (Go.Proofs.Ythhopbicmaipgaa.Rx.AV.undef :: (Go.Proofs.Ythhopbicmaipgaa.Rx.AV.undef :: (Go.Proofs.Ythhopbicmaipgaa.Rx.AV.undef :: (Go.Proofs.Ythhopbicmaipgaa.Rx.AV.undef :: (Go.Proofs.Ythhopbicmaipgaa.Rx.AV.undef :: (Go.Proofs.Ythhopbicmaipgaa.Rx.AV.undef :: (Go.Proofs.Ythhopbicmaipgaa.Rx.AV.undef :: (Go.Proofs.Ythhopbicmaipgaa.Rx.AV.undef :: (Go.Proofs.Ythhopbicmaipgaa.Rx.AV.undef :: (Go.Proofs.Ythhopbicmaipgaa.Rx.AV.undef :: (Go.Proofs.Ythhopbicmaipgaa.Rx.AV.undef :: (Go.Proofs.Ythhopbicmaipgaa.Rx.AV.undef :: (Go.Proofs.Ythhopbicmaipgaa.Rx.AV.undef :: (Go.Proofs.Ythhopbicmaipgaa.Rx.AV.undef :: (Go.Proofs.Ythhopbicmaipgaa.Rx.AV.undef :: (Go.Proofs.Ythhopbicmaipgaa.Rx.AV.undef :: (Go.Proofs.Ythhopbicmaipgaa.Rx.AV.undef :: (Go.Proofs.Ythhopbicmaipgaa.Rx.AV.undef :: (Go.Proofs.Ythhopbicmaipgaa.Rx.AV.undef :: (Go.Proofs.Ythhopbicmaipgaa.Rx.AV.undef :: (Go.Proofs.Ythhopbicmaipgaa.Rx.AV.undef :: (Go.Proofs.Ythhopbicmaipgaa.Rx.AV.undef :: (Go.Proofs.Ythhopbicmaipgaa.Rx.AV.undef :: (Go.Proofs.Ythhopbicmaipgaa.Rx.AV.undef :: (Go.Proofs.Ythhopbicmaipgaa.Rx.AV.undef :: (Go.Proofs.Ythhopbicmaipgaa.Rx.AV.undef :: (Go.Proofs.Ythhopbicmaipgaa.Rx.AV.undef :: (Go.Proofs.Ythhopbicmaipgaa.Rx.AV.undef :: (Go.Proofs.Ythhopbicmaipgaa.Rx.AV.undef :: (Go.Proofs.Ythhopbicmaipgaa.Rx.AV.undef :: (Go.Proofs.Ythhopbicmaipgaa.Rx.AV.undef :: (Go.Proofs.Ythhopbicmaipgaa.Rx.AV.undef :: (Go.Proofs.Ythhopbicmaipgaa.Rx.AV.undef :: (Go.Proofs.Ythhopbicmaipgaa.Rx.AV.undef :: (Go.Proofs.Ythhopbicmaipgaa.Rx.AV.undef :: (Go.Proofs.Ythhopbicmaipgaa.Rx.AV.undef :: (Go.Proofs.Ythhopbicmaipgaa.Rx.AV.undef :: (Go.Proofs.Ythhopbicmaipgaa.Rx.AV.undef :: [])))))))))))))))))))))))))))))))))))))))))))))))))))))))))))))))))))))))))))))))))))))))))))))))))))))))))))))))))))))))))))))))))))))))))) ((1000000, (Go.Proofs.Ythhopbicmaipgaa.Rx.Ent.box ((Go.Proofs.Ythhopbicmaipgaa.Rx.SV.con (⟨39, (Go.Proofs.Ythhopbicmaipgaa.Rx.Ty.int Go.IntKind.i64).pair   ((Go.Proofs.Ythhopbicmaipgaa.Rx.Ty.int Go.IntKind.i64).pair     ((Go.Proofs.Ythhopbicmaipgaa.Rx.Ty.int Go.IntKind.i64).pair       ((Go.Proofs.Ythhopbicmaipgaa.Rx.Ty.int Go.IntKind.i64).pair         ((Go.Proofs.Ythhopbicmaipgaa.Rx.Ty.int Go.IntKind.i64).pair           ((Go.Proofs.Ythhopbicmaipgaa.Rx.Ty.int Go.IntKind.i64).pair             (Go.Proofs.Ythhopbicmaipgaa.Rx.Ty.bool.pair               (Go.Proofs.Ythhopbicmaipgaa.Rx.Ty.str.pair (Go.Proofs.Ythhopbicmaipgaa.Rx.Ty.row (nat_lit 95) (Go.Proofs.Ythhopbicmaipgaa.Rx.Ty.str.pair (Go.Proofs.Ythhopbicmaipgaa.Rx.Ty.int Go.IntKind.i64)))))))))), x2⟩ : Rw)) :: []))) :: ((1000001, (Go.Proofs.Ythhopbicmaipgaa.Rx.Ent.row (⟨3, Go.Proofs.Ythhopbicmaipgaa.Rx.Ty.int Go.IntKind.i64, x3⟩ : Rw) 0 Option.none)) :: ((1000002, (Go.Proofs.Ythhopbicmaipgaa.Rx.Ent.row (⟨4, Go.Proofs.Ythhopbicmaipgaa.Rx.Ty.bool, x4⟩ : Rw) 0 Option.none)) :: []))))
def sh62_L5 (x0 : Int) (x1 : List (Int × Int × Int × Int × Int × Int × Bool × ByteArray × List (ByteArray × Int))) (x2 : List Int) : St := (Go.Proofs.Ythhopbicmaipgaa.Rx.St.mk (Go.Proofs.Ythhopbicmaipgaa.Rx.AV.undef :: ((Go.Proofs.Ythhopbicmaipgaa.Rx.AV.one (Go.Proofs.Ythhopbicmaipgaa.Rx.SV.bptr 1000000 0)) :: (Go.Proofs.Ythhopbicmaipgaa.Rx.AV.undef :: ((Go.Proofs.Ythhopbicmaipgaa.Rx.AV.one (Go.Proofs.Ythhopbicmaipgaa.Rx.SV.ref 1000001 0 [] Option.none)) :: ((Go.Proofs.Ythhopbicmaipgaa.Rx.AV.one (Go.Proofs.Ythhopbicmaipgaa.Rx.SV.int (Go.IntKind.i64) x0)) :: (Go.Proofs.Ythhopbicmaipgaa.Rx.AV.undef :: (Go.Proofs.Ythhopbicmaipgaa.Rx.AV.undef :: (Go.Proofs.Ythhopbicmaipgaa.Rx.AV.undef :: (Go.Proofs.Ythhopbicmaipgaa.Rx.AV.undef :: (Go.Proofs.Ythhopbicmaipgaa.Rx.AV.undef :: (Go.Proofs.Ythhopbicmaipgaa.Rx.AV.undef :: (Go.Proofs.Ythhopbicmaipgaa.Rx.AV.undef :: (Go.Proofs.Ythhopbicmaipgaa.Rx.AV.undef :: (Go.Proofs.Ythhopbicmaipgaa.Rx.AV.undef :: (Go.Proofs.Ythhopbicmaipgaa.Rx.AV.undef :: (Go.Proofs.Ythhopbicmaipgaa.Rx.AV.undef :: (Go.Proofs.Ythhopbicmaipgaa.Rx.AV.undef :: (Go.Proofs.Ythhopbicmaipgaa.Rx.AV.undef :: (Go.Proofs.Ythhopbicmaipgaa.Rx.AV.undef :: (Go.Proofs.Ythhopbicmaipgaa.Rx.AV.undef :: (Go.Proofs.Ythhopbicmaipgaa.Rx.AV.undef :: (Go.Proofs.Ythhopbicmaipgaa.Rx.AV.undef :: (Go.Proofs.Ythhopbicmaipgaa.Rx.AV.undef :: (Go.Proofs.Ythhopbicmaipgaa.Rx.AV.undef :: (Go.Proofs.Ythhopbicmaipgaa.Rx.AV.undef :: (Go.Proofs.Ythhopbicmaipgaa.Rx.AV.undef :: (Go.Proofs.Ythhopbicmaipgaa.Rx.AV.undef :: (Go.Proofs.Ythhopbicmaipgaa.Rx.AV.undef :: (Go.Proofs.Ythhopbicmaipgaa.Rx.AV.undef :: (Go.Proofs.Ythhopbicmaipgaa.Rx.AV.undef :: (Go.Proofs.Ythhopbicmaipgaa.Rx.AV.undef :: (Go.Proofs.Ythhopbicmaipgaa.Rx.AV.undef :: (Go.Proofs.Ythhopbicmaipgaa.Rx.AV.undef :: (Go.Proofs.Ythhopbicmaipgaa.Rx.AV.undef :: (Go.Proofs.Ythhopbicmaipgaa.Rx.AV.undef :: (Go.Proofs.Ythhopbicmaipgaa.Rx.AV.undef :: (Go.Proofs.Ythhopbicmaipgaa.Rx.AV.undef :: (Go.Proofs.Ythhopbicmaipgaa.Rx.AV.undef :: (Go.Proofs.Ythhopbicmaipgaa.Rx.AV.undef :: (Go.Proofs.Ythhopbicmaipgaa.Rx.AV.undef :: (Go.Proofs.Ythhopbicmaipgaa.Rx.AV.undef :: (Go.Proofs.Ythhopbicmaipgaa.Rx.AV.undef :: (Go.Proofs.Ythhopbicmaipgaa.Rx.AV.undef :: (Go.Proofs.Ythhopbicmaipgaa.Rx.AV.undef :: (Go.Proofs.Ythhopbicmaipgaa.Rx.AV.undef :: (Go.Proofs.Ythhopbicmaipgaa.Rx.AV.undef :: (Go.Proofs.Ythhopbicmaipgaa.Rx.AV.undef :: (Go.Proofs.Ythhopbicmaipgaa.Rx.AV.undef :: (Go.Proofs.Ythhopbicmaipgaa.Rx.AV.undef :: (Go.Proofs.Ythhopbicmaipgaa.Rx.AV.undef :: (Go.Proofs.Ythhopbicmaipgaa.Rx.AV.undef :: (Go.Proofs.Ythhopbicmaipgaa.Rx.AV.undef :: (Go.Proofs.Ythhopbicmaipgaa.Rx.AV.undef :: (Go.Proofs.Ythhopbicmaipgaa.Rx.AV.undef :: (Go.Proofs.Ythhopbicmaipgaa.Rx.AV.undef :: (Go.Proofs.Ythhopbicmaipgaa.Rx.AV.undef :: (Go.Proofs.Ythhopbicmaipgaa.Rx.AV.undef :: (Go.Proofs.Ythhopbicmaipgaa.Rx.AV.undef :: (Go.Proofs.Ythhopbicmaipgaa.Rx.AV.undef :: (Go.Proofs.Ythhopbicmaipgaa.Rx.AV.undef :: (Go.Proofs.Ythhopbicmaipgaa.Rx.AV.undef :: (Go.Proofs.Ythhopbicmaipgaa.Rx.AV.undef :: (Go.Proofs.Ythhopbicmaipgaa.Rx.AV.undef :: (Go.Proofs.Ythhopbicmaipgaa.Rx.AV.undef :: (Go.Proofs.Ythhopbicmaipgaa.Rx.AV.undef :: (Go.Proofs.Ythhopbicmaipgaa.Rx.AV.undef :: (Go.Proofs.Ythhopbicmaipgaa.Rx.AV.undef :: (Go.Proofs.Ythhopbicmaipgaa.Rx.AV.undef :: (Go.Proofs.Ythhopbicmaipgaa.Rx.AV.undef :: (Go.Proofs.Ythhopbicmaipgaa.Rx.AV.undef :: (Go.Proofs.Ythhopbicmaipgaa.Rx.AV.undef :: (Go.Proofs.Ythhopbicmaipgaa.Rx.AV.undef :: (Go.Proofs.Ythhopbicmaipgaa.Rx.AV.undef :: (Go.Proofs.Ythhopbicmaipgaa.Rx.AV.undef :: (Go.Proofs.Ythhopbicmaipgaa.Rx.AV.undef :: (Go.Proofs.Ythhopbicmaipgaa.Rx.AV.undef :: (Go.Proofs.Ythhopbicmaipgaa.Rx.AV.undef :: (Go.Proofs.Ythhopbicmaipgaa.Rx.AV.undef :: (Go.Proofs.Ythhopbicmaipgaa.Rx.AV.undef :: (Go.Proofs.Ythhopbicmaipgaa.Rx.AV.undef :: (Go.Proofs.Ythhopbicmaipgaa.Rx.AV.undef :: (Go.Proofs.Ythhopbicmaipgaa.Rx.AV.undef :: (Go.Proofs.Ythhopbicmaipgaa.Rx.AV.undef :: (Go.Proofs.Ythhopbicmaipgaa.Rx.AV.undef :: (Go.Proofs.Ythhopbicmaipgaa.Rx.AV.undef :: (Go.Proofs.Ythhopbicmaipgaa.Rx.AV.undef :: (Go.Proofs.Ythhopbicmaipgaa.Rx.AV.undef :: (Go.Proofs.Ythhopbicmaipgaa.Rx.AV.undef :: (Go.Proofs.Ythhopbicmaipgaa.Rx.AV.undef :: (Go.Proofs.Ythhopbicmaipgaa.Rx.AV.undef :: (Go.Proofs.Ythhopbicmaipgaa.Rx.AV.undef :: (Go.Proofs.Ythhopbicmaipgaa.Rx.AV.undef :: (Go.Proofs.Ythhopbicmaipgaa.Rx.AV.undef :: (Go.Proofs.Ythhopbicmaipgaa.Rx.AV.undef :: (Go.Proofs.Ythhopbicmaipgaa.Rx.AV.undef :: (Go.Proofs.Ythhopbicmaipgaa.Rx.AV.undef :: (Go.Proofs.Ythhopbicmaipgaa.Rx.AV.undef :: (Go.Proofs.Ythhopbicmaipgaa.Rx.AV.undef :: (Go.Proofs.Ythhopbicmaipgaa.Rx.AV.undef :: (Go.Proofs.Ythhopbicmaipgaa.Rx.AV.undef :: (Go.Proofs.Ythhopbicmaipgaa.Rx.AV.undef :: (Go.Proofs.Ythhopbicmaipgaa.Rx.AV.undef :: (Go.Proofs.Ythhopbicmaipgaa.Rx.AV.undef :: (Go.Proofs.Ythhopbicmaipgaa.Rx.AV.undef :: (Go.Proofs.Ythhopbicmaipgaa.Rx.AV.undef :: (Go.Proofs.Ythhopbicmaipgaa.Rx.AV.undef :: (Go.Proofs.Ythhopbicmaipgaa.Rx.AV.undef :: (Go.Proofs.Ythhopbicmaipgaa.Rx.AV.undef :: (Go.Proofs.Ythhopbicmaipgaa.Rx.AV.undef :: (Go.Proofs.Ythhopbicmaipgaa.Rx.AV.undef :: (Go.Proofs.Ythhopbicmaipgaa.Rx.AV.undef :: (Go.Proofs.Ythhopbicmaipgaa.Rx.AV.undef :: (Go.Proofs.Ythhopbicmaipgaa.Rx.AV.undef :: (Go.Proofs.Ythhopbicmaipgaa.Rx.AV.undef :: (Go.Proofs.Ythhopbicmaipgaa.Rx.AV.undef :: (Go.Proofs.Ythhopbicmaipgaa.Rx.AV.undef :: (Go.Proofs.Ythhopbicmaipgaa.Rx.AV.undef :: (Go.Proofs.Ythhopbicmaipgaa.Rx.AV.undef :: (Go.Proofs.Ythhopbicmaipgaa.Rx.AV.undef :: (Go.Proofs.Ythhopbicmaipgaa.Rx.AV.undef :: (Go.Proofs.Ythhopbicmaipgaa.Rx.AV.undef :: (Go.Proofs.Ythhopbicmaipgaa.Rx.AV.undef :: (Go.Proofs.Ythhopbicmaipgaa.Rx.AV.undef :: (Go.Proofs.Ythhopbicmaipgaa.Rx.AV.undef :: (Go.Proofs.Ythhopbicmaipgaa.Rx.AV.undef :: (Go.Proofs.Ythhopbicmaipgaa.Rx.AV.undef :: (Go.Proofs.Ythhopbicmaipgaa.Rx.AV.undef :: (Go.Proofs.Ythhopbicmaipgaa.Rx.AV.undef :: (Go.Proofs.Ythhopbicmaipgaa.Rx.AV.undef :: (Go.Proofs.Ythhopbicmaipgaa.Rx.AV.undef :: (Go.Proofs.Ythhopbicmaipgaa.Rx.AV.undef :: (Go.Proofs.Ythhopbicmaipgaa.Rx.AV.undef :: (Go.Proofs.Ythhopbicmaipgaa.Rx.AV.undef :: (Go.Proofs.Ythhopbicmaipgaa.Rx.AV.undef :: (Go.Proofs.Ythhopbicmaipgaa.Rx.AV.undef :: (Go.Proofs.Ythhopbicmaipgaa.Rx.AV.undef :: (Go.Proofs.Ythhopbicmaipgaa.Rx.AV.undef :: (Go.Proofs.Ythhopbicmaipgaa.Rx.AV.undef :: [])))))))))))))))))))))))))))))))))))))))))))))))))))))))))))))))))))))))))))))))))))))))))))))))))))))))))))))))))))))))))))))))))))))))))) ((1000000, (Go.Proofs.Ythhopbicmaipgaa.Rx.Ent.box ((Go.Proofs.Ythhopbicmaipgaa.Rx.SV.con (⟨39, (Go.Proofs.Ythhopbicmaipgaa.Rx.Ty.int Go.IntKind.i64).pair   ((Go.Proofs.Ythhopbicmaipgaa.Rx.Ty.int Go.IntKind.i64).pair     ((Go.Proofs.Ythhopbicmaipgaa.Rx.Ty.int Go.IntKind.i64).pair       ((Go.Proofs.Ythhopbicmaipgaa.Rx.Ty.int Go.IntKind.i64).pair         ((Go.Proofs.Ythhopbicmaipgaa.Rx.Ty.int Go.IntKind.i64).pair           ((Go.Proofs.Ythhopbicmaipgaa.Rx.Ty.int Go.IntKind.i64).pair             (Go.Proofs.Ythhopbicmaipgaa.Rx.Ty.bool.pair               (Go.Proofs.Ythhopbicmaipgaa.Rx.Ty.str.pair (Go.Proofs.Ythhopbicmaipgaa.Rx.Ty.row (nat_lit 95) (Go.Proofs.Ythhopbicmaipgaa.Rx.Ty.str.pair (Go.Proofs.Ythhopbicmaipgaa.Rx.Ty.int Go.IntKind.i64)))))))))), x1⟩ : Rw)) :: []))) :: ((1000001, (Go.Proofs.Ythhopbicmaipgaa.Rx.Ent.row (⟨3, Go.Proofs.Ythhopbicmaipgaa.Rx.Ty.int Go.IntKind.i64, x2⟩ : Rw) 0 Option.none)) :: [])))
noncomputable def st62_top (n : Nat) (lL5 : Int → (List (Int × Int × Int × Int × Int × Int × Bool × ByteArray × List (ByteArray × Int))) → (List Int) → Option R62) (a : List (Int × Int × Int × Int × Int × Int × Bool × ByteArray × List (ByteArray × Int))) : Option R62 :=
  cond (!decide ((↑a.length : Int) = (10 : Int))) (some ((false, ()), ())) (lL5 ((0 : Int)) (a) (List.replicate (Int.toNat (10 : Int)) (0 : Int)))
noncomputable def st62_L10 (n : Nat) (lL10 : Int → Int → (List (Int × Int × Int × Int × Int × Int × Bool × ByteArray × List (ByteArray × Int))) → (List Int) → Option R62) (lL5 : Int → (List (Int × Int × Int × Int × Int × Int × Bool × ByteArray × List (ByteArray × Int))) → (List Int) → Option R62) (x0 : Int) (x1 : Int) (x2 : List (Int × Int × Int × Int × Int × Int × Bool × ByteArray × List (ByteArray × Int))) (x3 : List Int) : Option R62 :=
  cond (decide ((0 : Int) ≤ x0)) (cond (decide (x0 < (↑x2.length : Int))) (cond (decide   (x1 <     (↑(List.length           (x2.getD x0.toNat                             ((0 : Int), (0 : Int), (0 : Int), (0 : Int), (0 : Int), (0 : Int), false, ByteArray.empty,                               [])).snd.snd.snd.snd.snd.snd.snd.snd) :       Int))) (cond (decide ((0 : Int) ≤ x0)) (cond (decide (x0 < (↑x2.length : Int))) (cond (decide ((0 : Int) ≤ x1)) (cond (decide   (x1 <     (↑(List.length           (x2.getD x0.toNat                             ((0 : Int), (0 : Int), (0 : Int), (0 : Int), (0 : Int), (0 : Int), false, ByteArray.empty,                               [])).snd.snd.snd.snd.snd.snd.snd.snd) :       Int))) (cond (decide ((0 : Int) ≤ x0)) (cond (decide (x0 < (↑x2.length : Int))) (cond (decide ((0 : Int) ≤ x1)) (cond (decide   (x1 <     (↑(List.length           (x2.getD x0.toNat                             ((0 : Int), (0 : Int), (0 : Int), (0 : Int), (0 : Int), (0 : Int), false, ByteArray.empty,                               [])).snd.snd.snd.snd.snd.snd.snd.snd) :       Int))) (cond (decide   ((0 : Int) ≤     (List.getD         (x2.getD x0.toNat                           ((0 : Int), (0 : Int), (0 : Int), (0 : Int), (0 : Int), (0 : Int), false, ByteArray.empty,                             [])).snd.snd.snd.snd.snd.snd.snd.snd         x1.toNat (ByteArray.empty, (0 : Int))).snd)) (cond (decide   ((List.getD         (x2.getD x0.toNat                           ((0 : Int), (0 : Int), (0 : Int), (0 : Int), (0 : Int), (0 : Int), false, ByteArray.empty,                             [])).snd.snd.snd.snd.snd.snd.snd.snd         x1.toNat (ByteArray.empty, (0 : Int))).snd <     (↑x3.length : Int))) (cond (decide   ((0 : Int) ≤     (List.getD         (x2.getD x0.toNat                           ((0 : Int), (0 : Int), (0 : Int), (0 : Int), (0 : Int), (0 : Int), false, ByteArray.empty,                             [])).snd.snd.snd.snd.snd.snd.snd.snd         x1.toNat (ByteArray.empty, (0 : Int))).snd)) (cond (decide   ((List.getD         (x2.getD x0.toNat                           ((0 : Int), (0 : Int), (0 : Int), (0 : Int), (0 : Int), (0 : Int), false, ByteArray.empty,                             [])).snd.snd.snd.snd.snd.snd.snd.snd         x1.toNat (ByteArray.empty, (0 : Int))).snd <     (↑x3.length : Int))) (lL10 (x0) (Go.IntKind.i64.wrap (x1 + (1 : Int))) (x2) (x3.set   (Int.toNat     (List.getD         (x2.getD x0.toNat                           ((0 : Int), (0 : Int), (0 : Int), (0 : Int), (0 : Int), (0 : Int), false, ByteArray.empty,                             [])).snd.snd.snd.snd.snd.snd.snd.snd         x1.toNat (ByteArray.empty, (0 : Int))).snd)   (Go.IntKind.i64.wrap     (x3.getD         (Int.toNat           (List.getD               (x2.getD x0.toNat                                 ((0 : Int), (0 : Int), (0 : Int), (0 : Int), (0 : Int), (0 : Int), false,                                   ByteArray.empty, [])).snd.snd.snd.snd.snd.snd.snd.snd               x1.toNat (ByteArray.empty, (0 : Int))).snd)         (0 : Int) +       (1 : Int))))) (none)) (none)) (none)) (none)) (none)) (none)) (none)) (none)) (none)) (none)) (none)) (none)) (lL5 (Go.IntKind.i64.wrap (x0 + (1 : Int))) (x2) (x3))) (none)) (none)
noncomputable def st62_L17 (n : Nat) (lL17 : Bool → Int → (List (Int × Int × Int × Int × Int × Int × Bool × ByteArray × List (ByteArray × Int))) → (List Int) → (List Bool) → Option R62) (x0 : Bool) (x1 : Int) (x2 : List (Int × Int × Int × Int × Int × Int × Bool × ByteArray × List (ByteArray × Int))) (x3 : List Int) (x4 : List Bool) : Option R62 :=
  cond (decide (x1 < (10 : Int))) (cond (x0) (cond (decide ((0 : Int) ≤ x1)) (cond (decide (x1 < (↑x2.length : Int))) (cond (decide ((0 : Int) ≤ x1)) (cond (decide (x1 < (↑x3.length : Int))) (cond (decide ((0 : Int) < x3.getD x1.toNat (0 : Int))) (cond (decide   ((x2.getD x1.toNat         ((0 : Int), (0 : Int), (0 : Int), (0 : Int), (0 : Int), (0 : Int), false, ByteArray.empty, [])).fst =     (0 : Int))) (some ((false, ()), ())) (cond (!decide     ((x2.getD x1.toNat           ((0 : Int), (0 : Int), (0 : Int), (0 : Int), (0 : Int), (0 : Int), false, ByteArray.empty, [])).fst =       (0 : Int))) (cond (decide ((0 : Int) ≤ x1)) (cond (decide (x1 < (↑x3.length : Int))) (cond (!decide     ((x2.getD x1.toNat                   ((0 : Int), (0 : Int), (0 : Int), (0 : Int), (0 : Int), (0 : Int), false, ByteArray.empty,                     [])).snd.snd.snd.snd.fst =       x3.getD x1.toNat (0 : Int))) (some ((false, ()), ())) (cond (decide   ((x2.getD x1.toNat         ((0 : Int), (0 : Int), (0 : Int), (0 : Int), (0 : Int), (0 : Int), false, ByteArray.empty, [])).fst =     (2 : Int))) (cond (decide ((0 : Int) ≤ x1)) (cond (decide (x1 < (↑x4.length : Int))) (cond (!x4.getD x1.toNat false) (some ((false, ()), ())) (cond (decide   ((x2.getD x1.toNat         ((0 : Int), (0 : Int), (0 : Int), (0 : Int), (0 : Int), (0 : Int), false, ByteArray.empty, [])).fst =     (1 : Int))) (cond (decide   ((x2.getD x1.toNat                 ((0 : Int), (0 : Int), (0 : Int), (0 : Int), (0 : Int), (0 : Int), false, ByteArray.empty,                   [])).snd.snd.snd.snd.fst =     (0 : Int))) (cond (decide   ((x2.getD x1.toNat                   ((0 : Int), (0 : Int), (0 : Int), (0 : Int), (0 : Int), (0 : Int), false, ByteArray.empty,                     [])).snd.snd.snd.snd.snd.fst =     (0 : Int))) (some ((false, ()), ())) (lL17 (x0) (Go.IntKind.i64.wrap (x1 + (1 : Int))) (x2) (x3) (x4))) (lL17 (x0) (Go.IntKind.i64.wrap (x1 + (1 : Int))) (x2) (x3) (x4))) (lL17 (x0) (Go.IntKind.i64.wrap (x1 + (1 : Int))) (x2) (x3) (x4)))) (none)) (none)) (cond (decide   ((x2.getD x1.toNat         ((0 : Int), (0 : Int), (0 : Int), (0 : Int), (0 : Int), (0 : Int), false, ByteArray.empty, [])).fst =     (1 : Int))) (cond (decide   ((x2.getD x1.toNat                 ((0 : Int), (0 : Int), (0 : Int), (0 : Int), (0 : Int), (0 : Int), false, ByteArray.empty,                   [])).snd.snd.snd.snd.fst =     (0 : Int))) (cond (decide   ((x2.getD x1.toNat                   ((0 : Int), (0 : Int), (0 : Int), (0 : Int), (0 : Int), (0 : Int), false, ByteArray.empty,                     [])).snd.snd.snd.snd.snd.fst =     (0 : Int))) (some ((false, ()), ())) (lL17 (x0) (Go.IntKind.i64.wrap (x1 + (1 : Int))) (x2) (x3) (x4))) (lL17 (x0) (Go.IntKind.i64.wrap (x1 + (1 : Int))) (x2) (x3) (x4))) (lL17 (x0) (Go.IntKind.i64.wrap (x1 + (1 : Int))) (x2) (x3) (x4))))) (none)) (none)) (cond (decide   ((x2.getD x1.toNat         ((0 : Int), (0 : Int), (0 : Int), (0 : Int), (0 : Int), (0 : Int), false, ByteArray.empty, [])).fst =     (2 : Int))) (cond (decide ((0 : Int) ≤ x1)) (cond (decide (x1 < (↑x4.length : Int))) (cond (!x4.getD x1.toNat false) (some ((false, ()), ())) (cond (decide   ((x2.getD x1.toNat         ((0 : Int), (0 : Int), (0 : Int), (0 : Int), (0 : Int), (0 : Int), false, ByteArray.empty, [])).fst =     (1 : Int))) (cond (decide   ((x2.getD x1.toNat                 ((0 : Int), (0 : Int), (0 : Int), (0 : Int), (0 : Int), (0 : Int), false, ByteArray.empty,                   [])).snd.snd.snd.snd.fst =     (0 : Int))) (cond (decide   ((x2.getD x1.toNat                   ((0 : Int), (0 : Int), (0 : Int), (0 : Int), (0 : Int), (0 : Int), false, ByteArray.empty,                     [])).snd.snd.snd.snd.snd.fst =     (0 : Int))) (some ((false, ()), ())) (lL17 (x0) (Go.IntKind.i64.wrap (x1 + (1 : Int))) (x2) (x3) (x4))) (lL17 (x0) (Go.IntKind.i64.wrap (x1 + (1 : Int))) (x2) (x3) (x4))) (lL17 (x0) (Go.IntKind.i64.wrap (x1 + (1 : Int))) (x2) (x3) (x4)))) (none)) (none)) (cond (decide   ((x2.getD x1.toNat         ((0 : Int), (0 : Int), (0 : Int), (0 : Int), (0 : Int), (0 : Int), false, ByteArray.empty, [])).fst =     (1 : Int))) (cond (decide   ((x2.getD x1.toNat                 ((0 : Int), (0 : Int), (0 : Int), (0 : Int), (0 : Int), (0 : Int), false, ByteArray.empty,                   [])).snd.snd.snd.snd.fst =     (0 : Int))) (cond (decide   ((x2.getD x1.toNat                   ((0 : Int), (0 : Int), (0 : Int), (0 : Int), (0 : Int), (0 : Int), false, ByteArray.empty,                     [])).snd.snd.snd.snd.snd.fst =     (0 : Int))) (some ((false, ()), ())) (lL17 (x0) (Go.IntKind.i64.wrap (x1 + (1 : Int))) (x2) (x3) (x4))) (lL17 (x0) (Go.IntKind.i64.wrap (x1 + (1 : Int))) (x2) (x3) (x4))) (lL17 (x0) (Go.IntKind.i64.wrap (x1 + (1 : Int))) (x2) (x3) (x4)))))) (cond (!decide     ((x2.getD x1.toNat           ((0 : Int), (0 : Int), (0 : Int), (0 : Int), (0 : Int), (0 : Int), false, ByteArray.empty, [])).fst =       (0 : Int))) (cond (decide ((0 : Int) ≤ x1)) (cond (decide (x1 < (↑x3.length : Int))) (cond (!decide     ((x2.getD x1.toNat                   ((0 : Int), (0 : Int), (0 : Int), (0 : Int), (0 : Int), (0 : Int), false, ByteArray.empty,                     [])).snd.snd.snd.snd.fst =       x3.getD x1.toNat (0 : Int))) (some ((false, ()), ())) (cond (decide   ((x2.getD x1.toNat         ((0 : Int), (0 : Int), (0 : Int), (0 : Int), (0 : Int), (0 : Int), false, ByteArray.empty, [])).fst =     (2 : Int))) (cond (decide ((0 : Int) ≤ x1)) (cond (decide (x1 < (↑x4.length : Int))) (cond (!x4.getD x1.toNat false) (some ((false, ()), ())) (cond (decide   ((x2.getD x1.toNat         ((0 : Int), (0 : Int), (0 : Int), (0 : Int), (0 : Int), (0 : Int), false, ByteArray.empty, [])).fst =     (1 : Int))) (cond (decide   ((x2.getD x1.toNat                 ((0 : Int), (0 : Int), (0 : Int), (0 : Int), (0 : Int), (0 : Int), false, ByteArray.empty,                   [])).snd.snd.snd.snd.fst =     (0 : Int))) (cond (decide   ((x2.getD x1.toNat                   ((0 : Int), (0 : Int), (0 : Int), (0 : Int), (0 : Int), (0 : Int), false, ByteArray.empty,                     [])).snd.snd.snd.snd.snd.fst =     (0 : Int))) (some ((false, ()), ())) (lL17 (x0) (Go.IntKind.i64.wrap (x1 + (1 : Int))) (x2) (x3) (x4))) (lL17 (x0) (Go.IntKind.i64.wrap (x1 + (1 : Int))) (x2) (x3) (x4))) (lL17 (x0) (Go.IntKind.i64.wrap (x1 + (1 : Int))) (x2) (x3) (x4)))) (none)) (none)) (cond (decide   ((x2.getD x1.toNat         ((0 : Int), (0 : Int), (0 : Int), (0 : Int), (0 : Int), (0 : Int), false, ByteArray.empty, [])).fst =     (1 : Int))) (cond (decide   ((x2.getD x1.toNat                 ((0 : Int), (0 : Int), (0 : Int), (0 : Int), (0 : Int), (0 : Int), false, ByteArray.empty,                   [])).snd.snd.snd.snd.fst =     (0 : Int))) (cond (decide   ((x2.getD x1.toNat                   ((0 : Int), (0 : Int), (0 : Int), (0 : Int), (0 : Int), (0 : Int), false, ByteArray.empty,                     [])).snd.snd.snd.snd.snd.fst =     (0 : Int))) (some ((false, ()), ())) (lL17 (x0) (Go.IntKind.i64.wrap (x1 + (1 : Int))) (x2) (x3) (x4))) (lL17 (x0) (Go.IntKind.i64.wrap (x1 + (1 : Int))) (x2) (x3) (x4))) (lL17 (x0) (Go.IntKind.i64.wrap (x1 + (1 : Int))) (x2) (x3) (x4))))) (none)) (none)) (cond (decide   ((x2.getD x1.toNat         ((0 : Int), (0 : Int), (0 : Int), (0 : Int), (0 : Int), (0 : Int), false, ByteArray.empty, [])).fst =     (2 : Int))) (cond (decide ((0 : Int) ≤ x1)) (cond (decide (x1 < (↑x4.length : Int))) (cond (!x4.getD x1.toNat false) (some ((false, ()), ())) (cond (decide   ((x2.getD x1.toNat         ((0 : Int), (0 : Int), (0 : Int), (0 : Int), (0 : Int), (0 : Int), false, ByteArray.empty, [])).fst =     (1 : Int))) (cond (decide   ((x2.getD x1.toNat                 ((0 : Int), (0 : Int), (0 : Int), (0 : Int), (0 : Int), (0 : Int), false, ByteArray.empty,                   [])).snd.snd.snd.snd.fst =     (0 : Int))) (cond (decide   ((x2.getD x1.toNat                   ((0 : Int), (0 : Int), (0 : Int), (0 : Int), (0 : Int), (0 : Int), false, ByteArray.empty,                     [])).snd.snd.snd.snd.snd.fst =     (0 : Int))) (some ((false, ()), ())) (lL17 (x0) (Go.IntKind.i64.wrap (x1 + (1 : Int))) (x2) (x3) (x4))) (lL17 (x0) (Go.IntKind.i64.wrap (x1 + (1 : Int))) (x2) (x3) (x4))) (lL17 (x0) (Go.IntKind.i64.wrap (x1 + (1 : Int))) (x2) (x3) (x4)))) (none)) (none)) (cond (decide   ((x2.getD x1.toNat         ((0 : Int), (0 : Int), (0 : Int), (0 : Int), (0 : Int), (0 : Int), false, ByteArray.empty, [])).fst =     (1 : Int))) (cond (decide   ((x2.getD x1.toNat                 ((0 : Int), (0 : Int), (0 : Int), (0 : Int), (0 : Int), (0 : Int), false, ByteArray.empty,                   [])).snd.snd.snd.snd.fst =     (0 : Int))) (cond (decide   ((x2.getD x1.toNat                   ((0 : Int), (0 : Int), (0 : Int), (0 : Int), (0 : Int), (0 : Int), false, ByteArray.empty,                     [])).snd.snd.snd.snd.snd.fst =     (0 : Int))) (some ((false, ()), ())) (lL17 (x0) (Go.IntKind.i64.wrap (x1 + (1 : Int))) (x2) (x3) (x4))) (lL17 (x0) (Go.IntKind.i64.wrap (x1 + (1 : Int))) (x2) (x3) (x4))) (lL17 (x0) (Go.IntKind.i64.wrap (x1 + (1 : Int))) (x2) (x3) (x4)))))) (none)) (none)) (none)) (none)) (some ((x0, ()), ()))) (some ((x0, ()), ()))
noncomputable def st62_L5 (n : Nat) (lL10 : Int → Int → (List (Int × Int × Int × Int × Int × Int × Bool × ByteArray × List (ByteArray × Int))) → (List Int) → Option R62) (lL17 : Bool → Int → (List (Int × Int × Int × Int × Int × Int × Bool × ByteArray × List (ByteArray × Int))) → (List Int) → (List Bool) → Option R62) (x0 : Int) (x1 : List (Int × Int × Int × Int × Int × Int × Bool × ByteArray × List (ByteArray × Int))) (x2 : List Int) : Option R62 :=
  cond (decide (x0 < (10 : Int))) (cond (decide ((0 : Int) ≤ x0)) (cond (decide (x0 < (↑x1.length : Int))) ((Go.Proofs.Ythhopbicmaipgaa.Rx.S.q100 n   (((x1.getD x0.toNat           ((0 : Int), (0 : Int), (0 : Int), (0 : Int), (0 : Int), (0 : Int), false, ByteArray.empty, [])).fst,       (x1.getD x0.toNat             ((0 : Int), (0 : Int), (0 : Int), (0 : Int), (0 : Int), (0 : Int), false, ByteArray.empty, [])).snd.fst,       (x1.getD x0.toNat               ((0 : Int), (0 : Int), (0 : Int), (0 : Int), (0 : Int), (0 : Int), false, ByteArray.empty,                 [])).snd.snd.fst,       (x1.getD x0.toNat                 ((0 : Int), (0 : Int), (0 : Int), (0 : Int), (0 : Int), (0 : Int), false, ByteArray.empty,                   [])).snd.snd.snd.fst,       (x1.getD x0.toNat                   ((0 : Int), (0 : Int), (0 : Int), (0 : Int), (0 : Int), (0 : Int), false, ByteArray.empty,                     [])).snd.snd.snd.snd.fst,       (x1.getD x0.toNat                     ((0 : Int), (0 : Int), (0 : Int), (0 : Int), (0 : Int), (0 : Int), false, ByteArray.empty,                       [])).snd.snd.snd.snd.snd.fst,       (x1.getD x0.toNat                       ((0 : Int), (0 : Int), (0 : Int), (0 : Int), (0 : Int), (0 : Int), false, ByteArray.empty,                         [])).snd.snd.snd.snd.snd.snd.fst,       (x1.getD x0.toNat                         ((0 : Int), (0 : Int), (0 : Int), (0 : Int), (0 : Int), (0 : Int), false, ByteArray.empty,                           [])).snd.snd.snd.snd.snd.snd.snd.fst,       (x1.getD x0.toNat                         ((0 : Int), (0 : Int), (0 : Int), (0 : Int), (0 : Int), (0 : Int), false, ByteArray.empty,                           [])).snd.snd.snd.snd.snd.snd.snd.snd),     ())).bind fun r1 => cond (!r1.fst.fst) (some ((false, ()), ())) (lL10 (x0) ((0 : Int)) (x1) (x2))) (none)) (none)) (cond (decide ((0 : Int) < (↑x1.length : Int))) (cond (!decide     ((x1.getD (Int.toNat (0 : Int))           ((0 : Int), (0 : Int), (0 : Int), (0 : Int), (0 : Int), (0 : Int), false, ByteArray.empty, [])).fst =       (2 : Int))) (some ((false, ()), ())) ((Go.Proofs.Ythhopbicmaipgaa.Rx.S.q101 n (x1, ())).bind fun r3 => lL17 (r3.fst.snd.fst) ((0 : Int)) (x1) (x2) (r3.fst.fst))) (none))
theorem e62_top (n : Nat) (a : List (Int × Int × Int × Int × Int × Int × Bool × ByteArray × List (ByteArray × Int))) : runF TT G62 an62 Try.f62 c62 ps62 rs62 n (a, ()) = st62_top n (fun x0 x1 x2 => at62 n (.head 5) [n] (sh62_L5 x0 x1 x2)) a := by kernel_rfl
theorem e62_L10_0 (n : Nat) (m5 : Nat) (x0 : Int) (x1 : Int) (x2 : List (Int × Int × Int × Int × Int × Int × Bool × ByteArray × List (ByteArray × Int))) (x3 : List Int) : at62 n (.head 10) [m5, 0] (sh62_L10 x0 x1 x2 x3) = none := by kernel_rfl
theorem e62_L10 (n : Nat) (m5 : Nat) (m10 : Nat) (x0 : Int) (x1 : Int) (x2 : List (Int × Int × Int × Int × Int × Int × Bool × ByteArray × List (ByteArray × Int))) (x3 : List Int) : at62 n (.head 10) [m5, m10 + 1] (sh62_L10 x0 x1 x2 x3) = st62_L10 n (fun x0 x1 x2 x3 => at62 n (.head 10) [m5, m10] (sh62_L10 x0 x1 x2 x3)) (fun x0 x1 x2 => at62 n (.head 5) [m5] (sh62_L5 x0 x1 x2)) x0 x1 x2 x3 := by kernel_rfl
theorem e62_L17_0 (n : Nat) (x0 : Bool) (x1 : Int) (x2 : List (Int × Int × Int × Int × Int × Int × Bool × ByteArray × List (ByteArray × Int))) (x3 : List Int) (x4 : List Bool) : at62 n (.head 17) [0] (sh62_L17 x0 x1 x2 x3 x4) = none := by kernel_rfl
theorem e62_L17 (n : Nat) (m17 : Nat) (x0 : Bool) (x1 : Int) (x2 : List (Int × Int × Int × Int × Int × Int × Bool × ByteArray × List (ByteArray × Int))) (x3 : List Int) (x4 : List Bool) : at62 n (.head 17) [m17 + 1] (sh62_L17 x0 x1 x2 x3 x4) = st62_L17 n (fun x0 x1 x2 x3 x4 => at62 n (.head 17) [m17] (sh62_L17 x0 x1 x2 x3 x4)) x0 x1 x2 x3 x4 := by kernel_rfl
theorem e62_L5_0 (n : Nat) (x0 : Int) (x1 : List (Int × Int × Int × Int × Int × Int × Bool × ByteArray × List (ByteArray × Int))) (x2 : List Int) : at62 n (.head 5) [0] (sh62_L5 x0 x1 x2) = none := by kernel_rfl
theorem e62_L5 (n : Nat) (m5 : Nat) (x0 : Int) (x1 : List (Int × Int × Int × Int × Int × Int × Bool × ByteArray × List (ByteArray × Int))) (x2 : List Int) : at62 n (.head 5) [m5 + 1] (sh62_L5 x0 x1 x2) = st62_L5 n (fun x0 x1 x2 x3 => at62 n (.head 10) [m5, n] (sh62_L10 x0 x1 x2 x3)) (fun x0 x1 x2 x3 x4 => at62 n (.head 17) [n] (sh62_L17 x0 x1 x2 x3 x4)) x0 x1 x2 := by kernel_rfl
noncomputable def p62_L10 (g5 : Int → (List (Int × Int × Int × Int × Int × Int × Bool × ByteArray × List (ByteArray × Int))) → (List Int) → Option R62) (n : Nat) : Nat → Int → Int → (List (Int × Int × Int × Int × Int × Int × Bool × ByteArray × List (ByteArray × Int))) → (List Int) → Option R62
  | 0, _, _, _, _ => none
  | m + 1, x0, x1, x2, x3 => st62_L10 n (p62_L10 g5 n m) g5 x0 x1 x2 x3
noncomputable def p62_L17 (n : Nat) : Nat → Bool → Int → (List (Int × Int × Int × Int × Int × Int × Bool × ByteArray × List (ByteArray × Int))) → (List Int) → (List Bool) → Option R62
  | 0, _, _, _, _, _ => none
  | m + 1, x0, x1, x2, x3, x4 => st62_L17 n (p62_L17 n m) x0 x1 x2 x3 x4
noncomputable def p62_L5 (n : Nat) : Nat → Int → (List (Int × Int × Int × Int × Int × Int × Bool × ByteArray × List (ByteArray × Int))) → (List Int) → Option R62
  | 0, _, _, _ => none
  | m + 1, x0, x1, x2 => st62_L5 n (p62_L10 (p62_L5 n m) n n) (p62_L17 n n) x0 x1 x2
noncomputable def p62 (n : Nat) (a : List (Int × Int × Int × Int × Int × Int × Bool × ByteArray × List (ByteArray × Int))) : Option R62 := st62_top n (p62_L5 n n) a
theorem t62_L10 (n : Nat) (m5 : Nat) : ∀ (m10 : Nat) (x0 : Int) (x1 : Int) (x2 : List (Int × Int × Int × Int × Int × Int × Bool × ByteArray × List (ByteArray × Int))) (x3 : List Int), at62 n (.head 10) [m5, m10] (sh62_L10 x0 x1 x2 x3) = p62_L10 (fun x0 x1 x2 => at62 n (.head 5) [m5] (sh62_L5 x0 x1 x2)) n m10 x0 x1 x2 x3 := by
  intro m
  induction m with
  | zero => intros; rw [e62_L10_0]; rfl
  | succ m ih =>
    intros
    rw [e62_L10]
    try simp only [ih]
    rfl
theorem t62_L17 (n : Nat) : ∀ (m17 : Nat) (x0 : Bool) (x1 : Int) (x2 : List (Int × Int × Int × Int × Int × Int × Bool × ByteArray × List (ByteArray × Int))) (x3 : List Int) (x4 : List Bool), at62 n (.head 17) [m17] (sh62_L17 x0 x1 x2 x3 x4) = p62_L17  n m17 x0 x1 x2 x3 x4 := by
  intro m
  induction m with
  | zero => intros; rw [e62_L17_0]; rfl
  | succ m ih =>
    intros
    rw [e62_L17]
    try simp only [ih]
    rfl
theorem t62_L5 (n : Nat) : ∀ (m5 : Nat) (x0 : Int) (x1 : List (Int × Int × Int × Int × Int × Int × Bool × ByteArray × List (ByteArray × Int))) (x2 : List Int), at62 n (.head 5) [m5] (sh62_L5 x0 x1 x2) = p62_L5  n m5 x0 x1 x2 := by
  intro m
  induction m with
  | zero => intros; rw [e62_L5_0]; rfl
  | succ m ih =>
    intros
    rw [e62_L5]
    try simp only [t62_L10, t62_L17, ih]
    rfl
theorem F62_eq (n : Nat) (a : List (Int × Int × Int × Int × Int × Int × Bool × ByteArray × List (ByteArray × Int))) : runF TT G62 an62 Try.f62 c62 ps62 rs62 n (a, ()) = p62 n a := by
  rw [e62_top]
  simp only [t62_L5]
  try rfl
noncomputable def q62 (n : Nat) (x : argsD ps62) : Option R62 := p62 n x.1
noncomputable def Sm62 : Sm := ⟨ps62, rs62, false, q62⟩
theorem holds62 (hg : GamOK Try.prog G62) : Holds Try.prog 62 Sm62 := by
  have := h0_62 hg
  have e : (runF TT G62 an62 Try.f62 c62 ps62 rs62) = q62 := by
    funext n x
    exact F62_eq n x.1
  rw [e] at this
  exact this
theorem gam62 : GamOK Try.prog G62 := by
  intro f s h
  unfold G62 at h
  split at h
  · injection h with h; subst h; exact ⟨⟨Try.f100, c100, Try.func100, by kernel_rfl, by decide +kernel⟩, hh100⟩
  · injection h with h; subst h; exact ⟨⟨Try.f101, c101, Try.func101, by kernel_rfl, by decide +kernel⟩, hh101⟩
  · cases h
theorem hh62 : Holds Try.prog 62 Sm62 := holds62 gam62
end Go.Proofs.Ythhopbicmaipgaa.Rx.S
namespace Go.Proofs.Ythhopbicmaipgaa.Rx.S
open Go Go.RowKit Go.Proofs
set_option maxRecDepth 100000
noncomputable def c133 : Code := (Try.f133.body.getD .skip)
def an133 : An := ⟨fun _ => ⟨[], []⟩, fun _ _ => none⟩
abbrev ps133 : List PK := [.val tEn true, .val i64 false]
abbrev rs133 : List RK := [.val i64 false]
abbrev R133 := retsD rs133 × outsD ps133
noncomputable def G133 : Gam := fun _ => none
theorem h0_133 (hg : GamOK Try.prog G133) : Holds Try.prog 133 ⟨ps133, rs133, false, runF TT G133 an133 Try.f133 c133 ps133 rs133⟩ := holds_of tt_ok hg mixed Try.func133 (by kernel_rfl) (by rfl) (by decide +kernel)
noncomputable def at133 : Nat → Pt → List Nat → St → Option R133 := atF TT G133 an133 Try.f133 c133 _ _
noncomputable def st133_top (n : Nat)  (a : ByteArray × Int) (b : Int) : Option R133 :=
  cond (decide (Go.IntKind.i64.wrap (b - (↑(ByteArray.size a.fst) : Int)) < (0 : Int))) (some (((-1 : Int), ()), ())) (some ((Go.IntKind.i64.wrap (b - (↑(ByteArray.size a.fst) : Int)), ()), ()))
theorem e133_top (n : Nat) (a : ByteArray × Int) (b : Int) : runF TT G133 an133 Try.f133 c133 ps133 rs133 n (a, b, ()) = st133_top n  a b := by kernel_rfl
noncomputable def p133 (n : Nat) (a : ByteArray × Int) (b : Int) : Option R133 := st133_top n  a b
theorem F133_eq (n : Nat) (a : ByteArray × Int) (b : Int) : runF TT G133 an133 Try.f133 c133 ps133 rs133 n (a, b, ()) = p133 n a b := by
  rw [e133_top]
  skip
  try rfl
noncomputable def q133 (n : Nat) (x : argsD ps133) : Option R133 := p133 n x.1 x.2.1
noncomputable def Sm133 : Sm := ⟨ps133, rs133, false, q133⟩
theorem holds133 (hg : GamOK Try.prog G133) : Holds Try.prog 133 Sm133 := by
  have := h0_133 hg
  have e : (runF TT G133 an133 Try.f133 c133 ps133 rs133) = q133 := by
    funext n x
    exact F133_eq n x.1 x.2.1
  rw [e] at this
  exact this
theorem gam133 : GamOK Try.prog G133 := fun _ _ h => by cases h
theorem hh133 : Holds Try.prog 133 Sm133 := holds133 gam133
end Go.Proofs.Ythhopbicmaipgaa.Rx.S
namespace Go.Proofs.Ythhopbicmaipgaa.Rx.S
open Go Go.RowKit Go.Proofs
set_option maxRecDepth 100000
noncomputable def c124 : Code := (Try.f124.body.getD .skip)
def an124 : An := ⟨fun r => match r with | 5 => ⟨[0, 1, 5], []⟩ | _ => ⟨[], []⟩, fun _ _ => none⟩
abbrev ps124 : List PK := [.val (.row 154 tEn) false, .val i64 false]
abbrev rs124 : List RK := [.val i64 false]
abbrev R124 := retsD rs124 × outsD ps124
noncomputable def G124 : Gam := fun f => match f with | 133 => some Sm133 | _ => none
theorem h0_124 (hg : GamOK Try.prog G124) : Holds Try.prog 124 ⟨ps124, rs124, false, runF TT G124 an124 Try.f124 c124 ps124 rs124⟩ := holds_of tt_ok hg mixed Try.func124 (by kernel_rfl) (by rfl) (by decide +kernel)
noncomputable def at124 : Nat → Pt → List Nat → St → Option R124 := atF TT G124 an124 Try.f124 c124 _ _
def sh124_L5 (x0 : List (ByteArray × Int)) (x1 : Int) (x2 : Int) : St := (Go.Proofs.Ythhopbicmaipgaa.Rx.St.mk ((Go.Proofs.Ythhopbicmaipgaa.Rx.AV.one (Go.Proofs.Ythhopbicmaipgaa.Rx.SV.con (⟨154, Go.Proofs.Ythhopbicmaipgaa.Rx.Ty.str.pair (Go.Proofs.Ythhopbicmaipgaa.Rx.Ty.int Go.IntKind.i64), x0⟩ : Rw))) :: ((Go.Proofs.Ythhopbicmaipgaa.Rx.AV.one (Go.Proofs.Ythhopbicmaipgaa.Rx.SV.int (Go.IntKind.i64) x1)) :: (Go.Proofs.Ythhopbicmaipgaa.Rx.AV.undef :: (Go.Proofs.Ythhopbicmaipgaa.Rx.AV.undef :: (Go.Proofs.Ythhopbicmaipgaa.Rx.AV.undef :: ((Go.Proofs.Ythhopbicmaipgaa.Rx.AV.one (Go.Proofs.Ythhopbicmaipgaa.Rx.SV.int (Go.IntKind.i64) x2)) :: (Go.Proofs.Ythhopbicmaipgaa.Rx.AV.undef :: (Go.Proofs.Ythhopbicmaipgaa.Rx.AV.undef :: (Go.Proofs.Ythhopbicmaipgaa.Rx.AV.undef :: (Go.Proofs.Ythhopbicmaipgaa.Rx.AV.undef :: (Go.Proofs.Ythhopbicmaipgaa.Rx.AV.undef :: (Go.Proofs.Ythhopbicmaipgaa.Rx.AV.undef :: (Go.Proofs.Ythhopbicmaipgaa.Rx.AV.undef :: (Go.Proofs.Ythhopbicmaipgaa.Rx.AV.undef :: (Go.Proofs.Ythhopbicmaipgaa.Rx.AV.undef :: (Go.Proofs.Ythhopbicmaipgaa.Rx.AV.undef :: (Go.Proofs.Ythhopbicmaipgaa.Rx.AV.undef :: (Go.Proofs.Ythhopbicmaipgaa.Rx.AV.undef :: (Go.Proofs.Ythhopbicmaipgaa.Rx.AV.undef :: (Go.Proofs.Ythhopbicmaipgaa.Rx.AV.undef :: (Go.Proofs.Ythhopbicmaipgaa.Rx.AV.undef :: (Go.Proofs.Ythhopbicmaipgaa.Rx.AV.undef :: (Go.Proofs.Ythhopbicmaipgaa.Rx.AV.undef :: (Go.Proofs.Ythhopbicmaipgaa.Rx.AV.undef :: (Go.Proofs.Ythhopbicmaipgaa.Rx.AV.undef :: (Go.Proofs.Ythhopbicmaipgaa.Rx.AV.undef :: (Go.Proofs.Ythhopbicmaipgaa.Rx.AV.undef :: []))))))))))))))))))))))))))) [])
noncomputable def st124_top (n : Nat) (lL5 : (List (ByteArray × Int)) → Int → Int → Option R124) (a : List (ByteArray × Int)) (b : Int) : Option R124 :=
  cond (decide (Go.IntKind.i64.wrap (b - (↑a.length : Int)) < (0 : Int))) (some (((-1 : Int), ()), ())) (lL5 (a) (Go.IntKind.i64.wrap (b - (↑a.length : Int))) ((0 : Int)))
noncomputable def st124_L5 (n : Nat) (lL5 : (List (ByteArray × Int)) → Int → Int → Option R124) (x0 : List (ByteArray × Int)) (x1 : Int) (x2 : Int) : Option R124 :=
  cond (decide (x2 < (↑x0.length : Int))) (cond (decide ((0 : Int) ≤ x2)) (cond (decide (x2 < (↑x0.length : Int))) ((Go.Proofs.Ythhopbicmaipgaa.Rx.S.q133 n   (((x0.getD x2.toNat (ByteArray.empty, (0 : Int))).fst, (x0.getD x2.toNat (ByteArray.empty, (0 : Int))).snd), x1, ())).bind fun r1 => cond (decide (r1.fst.fst < (0 : Int))) (some (((-1 : Int), ()), ())) (lL5 (x0) (r1.fst.fst) (Go.IntKind.i64.wrap (x2 + (1 : Int))))) (none)) (none)) (some ((x1, ()), ()))
theorem e124_top (n : Nat) (a : List (ByteArray × Int)) (b : Int) : runF TT G124 an124 Try.f124 c124 ps124 rs124 n (a, b, ()) = st124_top n (fun x0 x1 x2 => at124 n (.head 5) [n] (sh124_L5 x0 x1 x2)) a b := by kernel_rfl
theorem e124_L5_0 (n : Nat) (x0 : List (ByteArray × Int)) (x1 : Int) (x2 : Int) : at124 n (.head 5) [0] (sh124_L5 x0 x1 x2) = none := by kernel_rfl
theorem e124_L5 (n : Nat) (m5 : Nat) (x0 : List (ByteArray × Int)) (x1 : Int) (x2 : Int) : at124 n (.head 5) [m5 + 1] (sh124_L5 x0 x1 x2) = st124_L5 n (fun x0 x1 x2 => at124 n (.head 5) [m5] (sh124_L5 x0 x1 x2)) x0 x1 x2 := by kernel_rfl
noncomputable def p124_L5 (n : Nat) : Nat → (List (ByteArray × Int)) → Int → Int → Option R124
  | 0, _, _, _ => none
  | m + 1, x0, x1, x2 => st124_L5 n (p124_L5 n m) x0 x1 x2
noncomputable def p124 (n : Nat) (a : List (ByteArray × Int)) (b : Int) : Option R124 := st124_top n (p124_L5 n n) a b
theorem t124_L5 (n : Nat) : ∀ (m5 : Nat) (x0 : List (ByteArray × Int)) (x1 : Int) (x2 : Int), at124 n (.head 5) [m5] (sh124_L5 x0 x1 x2) = p124_L5  n m5 x0 x1 x2 := by
  intro m
  induction m with
  | zero => intros; rw [e124_L5_0]; rfl
  | succ m ih =>
    intros
    rw [e124_L5]
    try simp only [ih]
    rfl
theorem F124_eq (n : Nat) (a : List (ByteArray × Int)) (b : Int) : runF TT G124 an124 Try.f124 c124 ps124 rs124 n (a, b, ()) = p124 n a b := by
  rw [e124_top]
  simp only [t124_L5]
  try rfl
noncomputable def q124 (n : Nat) (x : argsD ps124) : Option R124 := p124 n x.1 x.2.1
noncomputable def Sm124 : Sm := ⟨ps124, rs124, false, q124⟩
theorem holds124 (hg : GamOK Try.prog G124) : Holds Try.prog 124 Sm124 := by
  have := h0_124 hg
  have e : (runF TT G124 an124 Try.f124 c124 ps124 rs124) = q124 := by
    funext n x
    exact F124_eq n x.1 x.2.1
  rw [e] at this
  exact this
theorem gam124 : GamOK Try.prog G124 := by
  intro f s h
  unfold G124 at h
  split at h
  · injection h with h; subst h; exact ⟨⟨Try.f133, c133, Try.func133, by kernel_rfl, by decide +kernel⟩, hh133⟩
  · cases h
theorem hh124 : Holds Try.prog 124 Sm124 := holds124 gam124
end Go.Proofs.Ythhopbicmaipgaa.Rx.S
namespace Go.Proofs.Ythhopbicmaipgaa.Rx.S
open Go Go.RowKit Go.Proofs
set_option maxRecDepth 100000
noncomputable def c106 : Code := (Try.f106.body.getD .skip)
def an106 : An := ⟨fun _ => ⟨[], []⟩, fun _ _ => none⟩
abbrev ps106 : List PK := [.val (tIn 154) true, .val i64 false]
abbrev rs106 : List RK := [.val i64 false]
abbrev R106 := retsD rs106 × outsD ps106
noncomputable def G106 : Gam := fun f => match f with | 124 => some Sm124 | _ => none
theorem h0_106 (hg : GamOK Try.prog G106) : Holds Try.prog 106 ⟨ps106, rs106, false, runF TT G106 an106 Try.f106 c106 ps106 rs106⟩ := holds_of tt_ok hg mixed Try.func106 (by kernel_rfl) (by rfl) (by decide +kernel)
noncomputable def at106 : Nat → Pt → List Nat → St → Option R106 := atF TT G106 an106 Try.f106 c106 _ _
noncomputable def st106_top (n : Nat)  (a : Int × Int × Int × Int × Int × Int × Bool × ByteArray × List (ByteArray × Int)) (b : Int) : Option R106 :=
  cond (decide (Go.IntKind.i64.wrap (b - (↑(ByteArray.size a.snd.snd.snd.snd.snd.snd.snd.fst) : Int)) < (0 : Int))) (some (((-1 : Int), ()), ())) ((Go.Proofs.Ythhopbicmaipgaa.Rx.S.q124 n   (a.snd.snd.snd.snd.snd.snd.snd.snd,     Go.IntKind.i64.wrap (b - (↑(ByteArray.size a.snd.snd.snd.snd.snd.snd.snd.fst) : Int)), ())).bind fun r0 => cond (decide (r0.fst.fst < (0 : Int))) (some (((-1 : Int), ()), ())) (some ((r0.fst.fst, ()), ())))
theorem e106_top (n : Nat) (a : Int × Int × Int × Int × Int × Int × Bool × ByteArray × List (ByteArray × Int)) (b : Int) : runF TT G106 an106 Try.f106 c106 ps106 rs106 n (a, b, ()) = st106_top n  a b := by kernel_rfl
noncomputable def p106 (n : Nat) (a : Int × Int × Int × Int × Int × Int × Bool × ByteArray × List (ByteArray × Int)) (b : Int) : Option R106 := st106_top n  a b
theorem F106_eq (n : Nat) (a : Int × Int × Int × Int × Int × Int × Bool × ByteArray × List (ByteArray × Int)) (b : Int) : runF TT G106 an106 Try.f106 c106 ps106 rs106 n (a, b, ()) = p106 n a b := by
  rw [e106_top]
  skip
  try rfl
noncomputable def q106 (n : Nat) (x : argsD ps106) : Option R106 := p106 n x.1 x.2.1
noncomputable def Sm106 : Sm := ⟨ps106, rs106, false, q106⟩
theorem holds106 (hg : GamOK Try.prog G106) : Holds Try.prog 106 Sm106 := by
  have := h0_106 hg
  have e : (runF TT G106 an106 Try.f106 c106 ps106 rs106) = q106 := by
    funext n x
    exact F106_eq n x.1 x.2.1
  rw [e] at this
  exact this
theorem gam106 : GamOK Try.prog G106 := by
  intro f s h
  unfold G106 at h
  split at h
  · injection h with h; subst h; exact ⟨⟨Try.f124, c124, Try.func124, by kernel_rfl, by decide +kernel⟩, hh124⟩
  · cases h
theorem hh106 : Holds Try.prog 106 Sm106 := holds106 gam106
end Go.Proofs.Ythhopbicmaipgaa.Rx.S
namespace Go.Proofs.Ythhopbicmaipgaa.Rx.S
open Go Go.RowKit Go.Proofs
set_option maxRecDepth 100000
noncomputable def c72 : Code := (Try.f72.body.getD .skip)
def an72 : An := ⟨fun r => match r with | 5 => ⟨[0, 1, 5], []⟩ | _ => ⟨[], []⟩, fun _ _ => none⟩
abbrev ps72 : List PK := [.val tLf false, .val i64 false]
abbrev rs72 : List RK := [.val i64 false]
abbrev R72 := retsD rs72 × outsD ps72
noncomputable def G72 : Gam := fun f => match f with | 106 => some Sm106 | _ => none
theorem h0_72 (hg : GamOK Try.prog G72) : Holds Try.prog 72 ⟨ps72, rs72, false, runF TT G72 an72 Try.f72 c72 ps72 rs72⟩ := holds_of tt_ok hg mixed Try.func72 (by kernel_rfl) (by rfl) (by decide +kernel)
noncomputable def at72 : Nat → Pt → List Nat → St → Option R72 := atF TT G72 an72 Try.f72 c72 _ _
def sh72_L5 (x0 : List (Int × Int × Int × Int × Int × Int × Bool × ByteArray × List (ByteArray × Int))) (x1 : Int) (x2 : Int) : St := (Go.Proofs.Ythhopbicmaipgaa.Rx.St.mk ((Go.Proofs.Ythhopbicmaipgaa.Rx.AV.one (Go.Proofs.Ythhopbicmaipgaa.Rx.SV.con (⟨136, (Go.Proofs.Ythhopbicmaipgaa.Rx.Ty.int Go.IntKind.i64).pair   ((Go.Proofs.Ythhopbicmaipgaa.Rx.Ty.int Go.IntKind.i64).pair     ((Go.Proofs.Ythhopbicmaipgaa.Rx.Ty.int Go.IntKind.i64).pair       ((Go.Proofs.Ythhopbicmaipgaa.Rx.Ty.int Go.IntKind.i64).pair         ((Go.Proofs.Ythhopbicmaipgaa.Rx.Ty.int Go.IntKind.i64).pair           ((Go.Proofs.Ythhopbicmaipgaa.Rx.Ty.int Go.IntKind.i64).pair             (Go.Proofs.Ythhopbicmaipgaa.Rx.Ty.bool.pair               (Go.Proofs.Ythhopbicmaipgaa.Rx.Ty.str.pair (Go.Proofs.Ythhopbicmaipgaa.Rx.Ty.row (nat_lit 154) (Go.Proofs.Ythhopbicmaipgaa.Rx.Ty.str.pair (Go.Proofs.Ythhopbicmaipgaa.Rx.Ty.int Go.IntKind.i64)))))))))), x0⟩ : Rw))) :: ((Go.Proofs.Ythhopbicmaipgaa.Rx.AV.one (Go.Proofs.Ythhopbicmaipgaa.Rx.SV.int (Go.IntKind.i64) x1)) :: (Go.Proofs.Ythhopbicmaipgaa.Rx.AV.undef :: (Go.Proofs.Ythhopbicmaipgaa.Rx.AV.undef :: (Go.Proofs.Ythhopbicmaipgaa.Rx.AV.undef :: ((Go.Proofs.Ythhopbicmaipgaa.Rx.AV.one (Go.Proofs.Ythhopbicmaipgaa.Rx.SV.int (Go.IntKind.i64) x2)) :: (Go.Proofs.Ythhopbicmaipgaa.Rx.AV.undef :: (Go.Proofs.Ythhopbicmaipgaa.Rx.AV.undef :: (Go.Proofs.Ythhopbicmaipgaa.Rx.AV.undef :: (Go.Proofs.Ythhopbicmaipgaa.Rx.AV.undef :: (Go.Proofs.Ythhopbicmaipgaa.Rx.AV.undef :: (Go.Proofs.Ythhopbicmaipgaa.Rx.AV.undef :: (Go.Proofs.Ythhopbicmaipgaa.Rx.AV.undef :: (Go.Proofs.Ythhopbicmaipgaa.Rx.AV.undef :: (Go.Proofs.Ythhopbicmaipgaa.Rx.AV.undef :: (Go.Proofs.Ythhopbicmaipgaa.Rx.AV.undef :: (Go.Proofs.Ythhopbicmaipgaa.Rx.AV.undef :: (Go.Proofs.Ythhopbicmaipgaa.Rx.AV.undef :: (Go.Proofs.Ythhopbicmaipgaa.Rx.AV.undef :: (Go.Proofs.Ythhopbicmaipgaa.Rx.AV.undef :: (Go.Proofs.Ythhopbicmaipgaa.Rx.AV.undef :: (Go.Proofs.Ythhopbicmaipgaa.Rx.AV.undef :: (Go.Proofs.Ythhopbicmaipgaa.Rx.AV.undef :: (Go.Proofs.Ythhopbicmaipgaa.Rx.AV.undef :: (Go.Proofs.Ythhopbicmaipgaa.Rx.AV.undef :: (Go.Proofs.Ythhopbicmaipgaa.Rx.AV.undef :: (Go.Proofs.Ythhopbicmaipgaa.Rx.AV.undef :: []))))))))))))))))))))))))))) [])
noncomputable def st72_top (n : Nat) (lL5 : (List (Int × Int × Int × Int × Int × Int × Bool × ByteArray × List (ByteArray × Int))) → Int → Int → Option R72) (a : List (Int × Int × Int × Int × Int × Int × Bool × ByteArray × List (ByteArray × Int))) (b : Int) : Option R72 :=
  cond (decide (Go.IntKind.i64.wrap (b - (↑a.length : Int)) < (0 : Int))) (some (((-1 : Int), ()), ())) (lL5 (a) (Go.IntKind.i64.wrap (b - (↑a.length : Int))) ((0 : Int)))
noncomputable def st72_L5 (n : Nat) (lL5 : (List (Int × Int × Int × Int × Int × Int × Bool × ByteArray × List (ByteArray × Int))) → Int → Int → Option R72) (x0 : List (Int × Int × Int × Int × Int × Int × Bool × ByteArray × List (ByteArray × Int))) (x1 : Int) (x2 : Int) : Option R72 :=
  cond (decide (x2 < (↑x0.length : Int))) (cond (decide ((0 : Int) ≤ x2)) (cond (decide (x2 < (↑x0.length : Int))) ((Go.Proofs.Ythhopbicmaipgaa.Rx.S.q106 n   (((x0.getD x2.toNat           ((0 : Int), (0 : Int), (0 : Int), (0 : Int), (0 : Int), (0 : Int), false, ByteArray.empty, [])).fst,       (x0.getD x2.toNat             ((0 : Int), (0 : Int), (0 : Int), (0 : Int), (0 : Int), (0 : Int), false, ByteArray.empty, [])).snd.fst,       (x0.getD x2.toNat               ((0 : Int), (0 : Int), (0 : Int), (0 : Int), (0 : Int), (0 : Int), false, ByteArray.empty,                 [])).snd.snd.fst,       (x0.getD x2.toNat                 ((0 : Int), (0 : Int), (0 : Int), (0 : Int), (0 : Int), (0 : Int), false, ByteArray.empty,                   [])).snd.snd.snd.fst,       (x0.getD x2.toNat                   ((0 : Int), (0 : Int), (0 : Int), (0 : Int), (0 : Int), (0 : Int), false, ByteArray.empty,                     [])).snd.snd.snd.snd.fst,       (x0.getD x2.toNat                     ((0 : Int), (0 : Int), (0 : Int), (0 : Int), (0 : Int), (0 : Int), false, ByteArray.empty,                       [])).snd.snd.snd.snd.snd.fst,       (x0.getD x2.toNat                       ((0 : Int), (0 : Int), (0 : Int), (0 : Int), (0 : Int), (0 : Int), false, ByteArray.empty,                         [])).snd.snd.snd.snd.snd.snd.fst,       (x0.getD x2.toNat                         ((0 : Int), (0 : Int), (0 : Int), (0 : Int), (0 : Int), (0 : Int), false, ByteArray.empty,                           [])).snd.snd.snd.snd.snd.snd.snd.fst,       (x0.getD x2.toNat                         ((0 : Int), (0 : Int), (0 : Int), (0 : Int), (0 : Int), (0 : Int), false, ByteArray.empty,                           [])).snd.snd.snd.snd.snd.snd.snd.snd),     x1, ())).bind fun r1 => cond (decide (r1.fst.fst < (0 : Int))) (some (((-1 : Int), ()), ())) (lL5 (x0) (r1.fst.fst) (Go.IntKind.i64.wrap (x2 + (1 : Int))))) (none)) (none)) (some ((x1, ()), ()))
theorem e72_top (n : Nat) (a : List (Int × Int × Int × Int × Int × Int × Bool × ByteArray × List (ByteArray × Int))) (b : Int) : runF TT G72 an72 Try.f72 c72 ps72 rs72 n (a, b, ()) = st72_top n (fun x0 x1 x2 => at72 n (.head 5) [n] (sh72_L5 x0 x1 x2)) a b := by kernel_rfl
theorem e72_L5_0 (n : Nat) (x0 : List (Int × Int × Int × Int × Int × Int × Bool × ByteArray × List (ByteArray × Int))) (x1 : Int) (x2 : Int) : at72 n (.head 5) [0] (sh72_L5 x0 x1 x2) = none := by kernel_rfl
theorem e72_L5 (n : Nat) (m5 : Nat) (x0 : List (Int × Int × Int × Int × Int × Int × Bool × ByteArray × List (ByteArray × Int))) (x1 : Int) (x2 : Int) : at72 n (.head 5) [m5 + 1] (sh72_L5 x0 x1 x2) = st72_L5 n (fun x0 x1 x2 => at72 n (.head 5) [m5] (sh72_L5 x0 x1 x2)) x0 x1 x2 := by kernel_rfl
noncomputable def p72_L5 (n : Nat) : Nat → (List (Int × Int × Int × Int × Int × Int × Bool × ByteArray × List (ByteArray × Int))) → Int → Int → Option R72
  | 0, _, _, _ => none
  | m + 1, x0, x1, x2 => st72_L5 n (p72_L5 n m) x0 x1 x2
noncomputable def p72 (n : Nat) (a : List (Int × Int × Int × Int × Int × Int × Bool × ByteArray × List (ByteArray × Int))) (b : Int) : Option R72 := st72_top n (p72_L5 n n) a b
theorem t72_L5 (n : Nat) : ∀ (m5 : Nat) (x0 : List (Int × Int × Int × Int × Int × Int × Bool × ByteArray × List (ByteArray × Int))) (x1 : Int) (x2 : Int), at72 n (.head 5) [m5] (sh72_L5 x0 x1 x2) = p72_L5  n m5 x0 x1 x2 := by
  intro m
  induction m with
  | zero => intros; rw [e72_L5_0]; rfl
  | succ m ih =>
    intros
    rw [e72_L5]
    try simp only [ih]
    rfl
theorem F72_eq (n : Nat) (a : List (Int × Int × Int × Int × Int × Int × Bool × ByteArray × List (ByteArray × Int))) (b : Int) : runF TT G72 an72 Try.f72 c72 ps72 rs72 n (a, b, ()) = p72 n a b := by
  rw [e72_top]
  simp only [t72_L5]
  try rfl
noncomputable def q72 (n : Nat) (x : argsD ps72) : Option R72 := p72 n x.1 x.2.1
noncomputable def Sm72 : Sm := ⟨ps72, rs72, false, q72⟩
theorem holds72 (hg : GamOK Try.prog G72) : Holds Try.prog 72 Sm72 := by
  have := h0_72 hg
  have e : (runF TT G72 an72 Try.f72 c72 ps72 rs72) = q72 := by
    funext n x
    exact F72_eq n x.1 x.2.1
  rw [e] at this
  exact this
theorem gam72 : GamOK Try.prog G72 := by
  intro f s h
  unfold G72 at h
  split at h
  · injection h with h; subst h; exact ⟨⟨Try.f106, c106, Try.func106, by kernel_rfl, by decide +kernel⟩, hh106⟩
  · cases h
theorem hh72 : Holds Try.prog 72 Sm72 := holds72 gam72
end Go.Proofs.Ythhopbicmaipgaa.Rx.S
namespace Go.Proofs.Ythhopbicmaipgaa.Rx.S
open Go Go.RowKit Go.Proofs
set_option maxRecDepth 100000
noncomputable def c21 : Code := (Try.f21.body.getD .skip)
def an21 : An := ⟨fun _ => ⟨[], []⟩, fun _ _ => none⟩
abbrev ps21 : List PK := [.val tLf true, .val i64 false]
abbrev rs21 : List RK := [.val i64 false]
abbrev R21 := retsD rs21 × outsD ps21
noncomputable def G21 : Gam := fun f => match f with | 72 => some Sm72 | _ => none
theorem h0_21 (hg : GamOK Try.prog G21) : Holds Try.prog 21 ⟨ps21, rs21, false, runF TT G21 an21 Try.f21 c21 ps21 rs21⟩ := holds_of tt_ok hg mixed Try.func21 (by kernel_rfl) (by rfl) (by decide +kernel)
noncomputable def at21 : Nat → Pt → List Nat → St → Option R21 := atF TT G21 an21 Try.f21 c21 _ _
noncomputable def st21_top (n : Nat)  (a : List (Int × Int × Int × Int × Int × Int × Bool × ByteArray × List (ByteArray × Int))) (b : Int) : Option R21 :=
  (Go.Proofs.Ythhopbicmaipgaa.Rx.S.q72 n (a, b, ())).bind fun r0 => cond (decide (r0.fst.fst < (0 : Int))) (some (((-1 : Int), ()), ())) (some ((r0.fst.fst, ()), ()))
theorem e21_top (n : Nat) (a : List (Int × Int × Int × Int × Int × Int × Bool × ByteArray × List (ByteArray × Int))) (b : Int) : runF TT G21 an21 Try.f21 c21 ps21 rs21 n (a, b, ()) = st21_top n  a b := by kernel_rfl
noncomputable def p21 (n : Nat) (a : List (Int × Int × Int × Int × Int × Int × Bool × ByteArray × List (ByteArray × Int))) (b : Int) : Option R21 := st21_top n  a b
theorem F21_eq (n : Nat) (a : List (Int × Int × Int × Int × Int × Int × Bool × ByteArray × List (ByteArray × Int))) (b : Int) : runF TT G21 an21 Try.f21 c21 ps21 rs21 n (a, b, ()) = p21 n a b := by
  rw [e21_top]
  skip
  try rfl
noncomputable def q21 (n : Nat) (x : argsD ps21) : Option R21 := p21 n x.1 x.2.1
noncomputable def Sm21 : Sm := ⟨ps21, rs21, false, q21⟩
theorem holds21 (hg : GamOK Try.prog G21) : Holds Try.prog 21 Sm21 := by
  have := h0_21 hg
  have e : (runF TT G21 an21 Try.f21 c21 ps21 rs21) = q21 := by
    funext n x
    exact F21_eq n x.1 x.2.1
  rw [e] at this
  exact this
theorem gam21 : GamOK Try.prog G21 := by
  intro f s h
  unfold G21 at h
  split at h
  · injection h with h; subst h; exact ⟨⟨Try.f72, c72, Try.func72, by kernel_rfl, by decide +kernel⟩, hh72⟩
  · cases h
theorem hh21 : Holds Try.prog 21 Sm21 := holds21 gam21
end Go.Proofs.Ythhopbicmaipgaa.Rx.S
namespace Go.Proofs.Ythhopbicmaipgaa.Rx.S
open Go Go.RowKit Go.Proofs
set_option maxRecDepth 100000
noncomputable def c134 : Code := (Try.f134.body.getD .skip)
def an134 : An := ⟨fun _ => ⟨[], []⟩, fun _ _ => none⟩
abbrev ps134 : List PK := [.val tEn true]
abbrev rs134 : List RK := [.val tEn true]
abbrev R134 := retsD rs134 × outsD ps134
noncomputable def G134 : Gam := fun _ => none
theorem h0_134 (hg : GamOK Try.prog G134) : Holds Try.prog 134 ⟨ps134, rs134, false, runF TT G134 an134 Try.f134 c134 ps134 rs134⟩ := holds_of tt_ok hg mixed Try.func134 (by kernel_rfl) (by rfl) (by decide +kernel)
noncomputable def at134 : Nat → Pt → List Nat → St → Option R134 := atF TT G134 an134 Try.f134 c134 _ _
noncomputable def st134_top (n : Nat)  (a : ByteArray × Int) : Option R134 :=
  some (((a.fst, a.snd), ()), ())
theorem e134_top (n : Nat) (a : ByteArray × Int) : runF TT G134 an134 Try.f134 c134 ps134 rs134 n (a, ()) = st134_top n  a := by kernel_rfl
noncomputable def p134 (n : Nat) (a : ByteArray × Int) : Option R134 := st134_top n  a
theorem F134_eq (n : Nat) (a : ByteArray × Int) : runF TT G134 an134 Try.f134 c134 ps134 rs134 n (a, ()) = p134 n a := by
  rw [e134_top]
  skip
  try rfl
noncomputable def q134 (n : Nat) (x : argsD ps134) : Option R134 := p134 n x.1
noncomputable def Sm134 : Sm := ⟨ps134, rs134, false, q134⟩
theorem holds134 (hg : GamOK Try.prog G134) : Holds Try.prog 134 Sm134 := by
  have := h0_134 hg
  have e : (runF TT G134 an134 Try.f134 c134 ps134 rs134) = q134 := by
    funext n x
    exact F134_eq n x.1
  rw [e] at this
  exact this
theorem gam134 : GamOK Try.prog G134 := fun _ _ h => by cases h
theorem hh134 : Holds Try.prog 134 Sm134 := holds134 gam134
end Go.Proofs.Ythhopbicmaipgaa.Rx.S
namespace Go.Proofs.Ythhopbicmaipgaa.Rx.S
open Go Go.RowKit Go.Proofs
set_option maxRecDepth 100000
noncomputable def c125 : Code := (Try.f125.body.getD .skip)
def an125 : An := ⟨fun r => match r with | 3 => ⟨[0, 3, 4], []⟩ | _ => ⟨[], []⟩, fun _ _ => none⟩
abbrev ps125 : List PK := [.val (.row 154 tEn) false]
abbrev rs125 : List RK := [.own (.row 95 tEn) false]
abbrev R125 := retsD rs125 × outsD ps125
noncomputable def G125 : Gam := fun f => match f with | 134 => some Sm134 | _ => none
theorem h0_125 (hg : GamOK Try.prog G125) : Holds Try.prog 125 ⟨ps125, rs125, false, runF TT G125 an125 Try.f125 c125 ps125 rs125⟩ := holds_of tt_ok hg mixed Try.func125 (by kernel_rfl) (by rfl) (by decide +kernel)
noncomputable def at125 : Nat → Pt → List Nat → St → Option R125 := atF TT G125 an125 Try.f125 c125 _ _
def sh125_L3 (x0 : List (ByteArray × Int)) (x1 : Int) (x2 : List (ByteArray × Int)) : St := (Go.Proofs.Ythhopbicmaipgaa.Rx.St.mk ((Go.Proofs.Ythhopbicmaipgaa.Rx.AV.one (Go.Proofs.Ythhopbicmaipgaa.Rx.SV.con (⟨154, Go.Proofs.Ythhopbicmaipgaa.Rx.Ty.str.pair (Go.Proofs.Ythhopbicmaipgaa.Rx.Ty.int Go.IntKind.i64), x0⟩ : Rw))) :: (Go.Proofs.Ythhopbicmaipgaa.Rx.AV.undef :: (Go.Proofs.Ythhopbicmaipgaa.Rx.AV.undef :: ((Go.Proofs.Ythhopbicmaipgaa.Rx.AV.one (Go.Proofs.Ythhopbicmaipgaa.Rx.SV.ref 1000000 0 [] Option.none)) :: ((Go.Proofs.Ythhopbicmaipgaa.Rx.AV.one (Go.Proofs.Ythhopbicmaipgaa.Rx.SV.int (Go.IntKind.i64) x1)) :: (Go.Proofs.Ythhopbicmaipgaa.Rx.AV.undef :: (Go.Proofs.Ythhopbicmaipgaa.Rx.AV.undef :: (Go.Proofs.Ythhopbicmaipgaa.Rx.AV.undef :: (Go.Proofs.Ythhopbicmaipgaa.Rx.AV.undef :: (Go.Proofs.Ythhopbicmaipgaa.Rx.AV.undef :: (Go.Proofs.Ythhopbicmaipgaa.Rx.AV.undef :: (Go.Proofs.Ythhopbicmaipgaa.Rx.AV.undef :: (Go.Proofs.Ythhopbicmaipgaa.Rx.AV.undef :: (Go.Proofs.Ythhopbicmaipgaa.Rx.AV.undef :: (Go.Proofs.Ythhopbicmaipgaa.Rx.AV.undef :: (Go.Proofs.Ythhopbicmaipgaa.Rx.AV.undef :: (Go.Proofs.Ythhopbicmaipgaa.Rx.AV.undef :: (Go.Proofs.Ythhopbicmaipgaa.Rx.AV.undef :: (Go.Proofs.Ythhopbicmaipgaa.Rx.AV.undef :: (Go.Proofs.Ythhopbicmaipgaa.Rx.AV.undef :: (Go.Proofs.Ythhopbicmaipgaa.Rx.AV.undef :: (Go.Proofs.Ythhopbicmaipgaa.Rx.AV.undef :: (Go.Proofs.Ythhopbicmaipgaa.Rx.AV.undef :: []))))))))))))))))))))))) ((1000000, (Go.Proofs.Ythhopbicmaipgaa.Rx.Ent.row (⟨95, Go.Proofs.Ythhopbicmaipgaa.Rx.Ty.str.pair (Go.Proofs.Ythhopbicmaipgaa.Rx.Ty.int Go.IntKind.i64), x2⟩ : Rw) 0 Option.none)) :: []))
noncomputable def st125_top (n : Nat) (lL3 : (List (ByteArray × Int)) → Int → (List (ByteArray × Int)) → Option R125) (a : List (ByteArray × Int)) : Option R125 :=
  cond (decide ((↑a.length : Int) * (↑(24 : Nat) : Int) ≤ (140737488355328 : Int))) (lL3 (a) ((0 : Int)) (List.replicate (↑a.length : Int).toNat (ByteArray.empty, (0 : Int)))) (none)
noncomputable def st125_L3 (n : Nat) (lL3 : (List (ByteArray × Int)) → Int → (List (ByteArray × Int)) → Option R125) (x0 : List (ByteArray × Int)) (x1 : Int) (x2 : List (ByteArray × Int)) : Option R125 :=
  cond (decide (x1 < (↑x0.length : Int))) (cond (decide ((0 : Int) ≤ x1)) (cond (decide (x1 < (↑x0.length : Int))) ((Go.Proofs.Ythhopbicmaipgaa.Rx.S.q134 n   (((x0.getD x1.toNat (ByteArray.empty, (0 : Int))).fst, (x0.getD x1.toNat (ByteArray.empty, (0 : Int))).snd), ())).bind fun r1 => cond (decide ((0 : Int) ≤ x1)) (cond (decide (x1 < (↑x2.length : Int))) (lL3 (x0) (Go.IntKind.i64.wrap (x1 + (1 : Int))) (x2.set x1.toNat (r1.fst.fst.fst, r1.fst.fst.snd))) (none)) (none)) (none)) (none)) (some ((x2, ()), ()))
theorem e125_top (n : Nat) (a : List (ByteArray × Int)) : runF TT G125 an125 Try.f125 c125 ps125 rs125 n (a, ()) = st125_top n (fun x0 x1 x2 => at125 n (.head 3) [n] (sh125_L3 x0 x1 x2)) a := by kernel_rfl
theorem e125_L3_0 (n : Nat) (x0 : List (ByteArray × Int)) (x1 : Int) (x2 : List (ByteArray × Int)) : at125 n (.head 3) [0] (sh125_L3 x0 x1 x2) = none := by kernel_rfl
theorem e125_L3 (n : Nat) (m3 : Nat) (x0 : List (ByteArray × Int)) (x1 : Int) (x2 : List (ByteArray × Int)) : at125 n (.head 3) [m3 + 1] (sh125_L3 x0 x1 x2) = st125_L3 n (fun x0 x1 x2 => at125 n (.head 3) [m3] (sh125_L3 x0 x1 x2)) x0 x1 x2 := by kernel_rfl
noncomputable def p125_L3 (n : Nat) : Nat → (List (ByteArray × Int)) → Int → (List (ByteArray × Int)) → Option R125
  | 0, _, _, _ => none
  | m + 1, x0, x1, x2 => st125_L3 n (p125_L3 n m) x0 x1 x2
noncomputable def p125 (n : Nat) (a : List (ByteArray × Int)) : Option R125 := st125_top n (p125_L3 n n) a
theorem t125_L3 (n : Nat) : ∀ (m3 : Nat) (x0 : List (ByteArray × Int)) (x1 : Int) (x2 : List (ByteArray × Int)), at125 n (.head 3) [m3] (sh125_L3 x0 x1 x2) = p125_L3  n m3 x0 x1 x2 := by
  intro m
  induction m with
  | zero => intros; rw [e125_L3_0]; rfl
  | succ m ih =>
    intros
    rw [e125_L3]
    try simp only [ih]
    rfl
theorem F125_eq (n : Nat) (a : List (ByteArray × Int)) : runF TT G125 an125 Try.f125 c125 ps125 rs125 n (a, ()) = p125 n a := by
  rw [e125_top]
  simp only [t125_L3]
  try rfl
noncomputable def q125 (n : Nat) (x : argsD ps125) : Option R125 := p125 n x.1
noncomputable def Sm125 : Sm := ⟨ps125, rs125, false, q125⟩
theorem holds125 (hg : GamOK Try.prog G125) : Holds Try.prog 125 Sm125 := by
  have := h0_125 hg
  have e : (runF TT G125 an125 Try.f125 c125 ps125 rs125) = q125 := by
    funext n x
    exact F125_eq n x.1
  rw [e] at this
  exact this
theorem gam125 : GamOK Try.prog G125 := by
  intro f s h
  unfold G125 at h
  split at h
  · injection h with h; subst h; exact ⟨⟨Try.f134, c134, Try.func134, by kernel_rfl, by decide +kernel⟩, hh134⟩
  · cases h
theorem hh125 : Holds Try.prog 125 Sm125 := holds125 gam125
end Go.Proofs.Ythhopbicmaipgaa.Rx.S
namespace Go.Proofs.Ythhopbicmaipgaa.Rx.S
open Go Go.RowKit Go.Proofs
set_option maxRecDepth 100000
noncomputable def c107 : Code := (Try.f107.body.getD .skip)
def an107 : An := ⟨fun _ => ⟨[], []⟩, fun _ _ => none⟩
abbrev ps107 : List PK := [.val (tIn 154) true]
abbrev rs107 : List RK := [.own (tIn 95) true]
abbrev R107 := retsD rs107 × outsD ps107
noncomputable def G107 : Gam := fun f => match f with | 125 => some Sm125 | _ => none
theorem h0_107 (hg : GamOK Try.prog G107) : Holds Try.prog 107 ⟨ps107, rs107, false, runF TT G107 an107 Try.f107 c107 ps107 rs107⟩ := holds_of tt_ok hg mixed Try.func107 (by kernel_rfl) (by rfl) (by decide +kernel)
noncomputable def at107 : Nat → Pt → List Nat → St → Option R107 := atF TT G107 an107 Try.f107 c107 _ _
noncomputable def st107_top (n : Nat)  (a : Int × Int × Int × Int × Int × Int × Bool × ByteArray × List (ByteArray × Int)) : Option R107 :=
  (Go.Proofs.Ythhopbicmaipgaa.Rx.S.q125 n (a.snd.snd.snd.snd.snd.snd.snd.snd, ())).bind fun r0 => some (((a.fst, (a.snd.fst, (a.snd.snd.fst, (a.snd.snd.snd.fst, (a.snd.snd.snd.snd.fst, (a.snd.snd.snd.snd.snd.fst, (a.snd.snd.snd.snd.snd.snd.fst, (a.snd.snd.snd.snd.snd.snd.snd.fst, r0.fst.fst)))))))), ()), ())
theorem e107_top (n : Nat) (a : Int × Int × Int × Int × Int × Int × Bool × ByteArray × List (ByteArray × Int)) : runF TT G107 an107 Try.f107 c107 ps107 rs107 n (a, ()) = st107_top n  a := by kernel_rfl
noncomputable def p107 (n : Nat) (a : Int × Int × Int × Int × Int × Int × Bool × ByteArray × List (ByteArray × Int)) : Option R107 := st107_top n  a
theorem F107_eq (n : Nat) (a : Int × Int × Int × Int × Int × Int × Bool × ByteArray × List (ByteArray × Int)) : runF TT G107 an107 Try.f107 c107 ps107 rs107 n (a, ()) = p107 n a := by
  rw [e107_top]
  skip
  try rfl
noncomputable def q107 (n : Nat) (x : argsD ps107) : Option R107 := p107 n x.1
noncomputable def Sm107 : Sm := ⟨ps107, rs107, false, q107⟩
theorem holds107 (hg : GamOK Try.prog G107) : Holds Try.prog 107 Sm107 := by
  have := h0_107 hg
  have e : (runF TT G107 an107 Try.f107 c107 ps107 rs107) = q107 := by
    funext n x
    exact F107_eq n x.1
  rw [e] at this
  exact this
theorem gam107 : GamOK Try.prog G107 := by
  intro f s h
  unfold G107 at h
  split at h
  · injection h with h; subst h; exact ⟨⟨Try.f125, c125, Try.func125, by kernel_rfl, by decide +kernel⟩, hh125⟩
  · cases h
theorem hh107 : Holds Try.prog 107 Sm107 := holds107 gam107
end Go.Proofs.Ythhopbicmaipgaa.Rx.S
namespace Go.Proofs.Ythhopbicmaipgaa.Rx.S
open Go Go.RowKit Go.Proofs
set_option maxRecDepth 100000
noncomputable def c74 : Code := (Try.f74.body.getD .skip)
def an74 : An := ⟨fun r => match r with | 3 => ⟨[0, 3, 4], []⟩ | _ => ⟨[], []⟩, fun _ _ => none⟩
abbrev ps74 : List PK := [.val tLf false]
abbrev rs74 : List RK := [.own tFs false]
abbrev R74 := retsD rs74 × outsD ps74
noncomputable def G74 : Gam := fun f => match f with | 107 => some Sm107 | _ => none
theorem h0_74 (hg : GamOK Try.prog G74) : Holds Try.prog 74 ⟨ps74, rs74, false, runF TT G74 an74 Try.f74 c74 ps74 rs74⟩ := holds_of tt_ok hg mixed Try.func74 (by kernel_rfl) (by rfl) (by decide +kernel)
noncomputable def at74 : Nat → Pt → List Nat → St → Option R74 := atF TT G74 an74 Try.f74 c74 _ _
def sh74_L3 (x0 : List (Int × Int × Int × Int × Int × Int × Bool × ByteArray × List (ByteArray × Int))) (x1 : Int) (x2 : List (Int × Int × Int × Int × Int × Int × Bool × ByteArray × List (ByteArray × Int))) : St := (Go.Proofs.Ythhopbicmaipgaa.Rx.St.mk ((Go.Proofs.Ythhopbicmaipgaa.Rx.AV.one (Go.Proofs.Ythhopbicmaipgaa.Rx.SV.con (⟨136, (Go.Proofs.Ythhopbicmaipgaa.Rx.Ty.int Go.IntKind.i64).pair   ((Go.Proofs.Ythhopbicmaipgaa.Rx.Ty.int Go.IntKind.i64).pair     ((Go.Proofs.Ythhopbicmaipgaa.Rx.Ty.int Go.IntKind.i64).pair       ((Go.Proofs.Ythhopbicmaipgaa.Rx.Ty.int Go.IntKind.i64).pair         ((Go.Proofs.Ythhopbicmaipgaa.Rx.Ty.int Go.IntKind.i64).pair           ((Go.Proofs.Ythhopbicmaipgaa.Rx.Ty.int Go.IntKind.i64).pair             (Go.Proofs.Ythhopbicmaipgaa.Rx.Ty.bool.pair               (Go.Proofs.Ythhopbicmaipgaa.Rx.Ty.str.pair (Go.Proofs.Ythhopbicmaipgaa.Rx.Ty.row (nat_lit 154) (Go.Proofs.Ythhopbicmaipgaa.Rx.Ty.str.pair (Go.Proofs.Ythhopbicmaipgaa.Rx.Ty.int Go.IntKind.i64)))))))))), x0⟩ : Rw))) :: (Go.Proofs.Ythhopbicmaipgaa.Rx.AV.undef :: (Go.Proofs.Ythhopbicmaipgaa.Rx.AV.undef :: ((Go.Proofs.Ythhopbicmaipgaa.Rx.AV.one (Go.Proofs.Ythhopbicmaipgaa.Rx.SV.ref 1000000 0 [] Option.none)) :: ((Go.Proofs.Ythhopbicmaipgaa.Rx.AV.one (Go.Proofs.Ythhopbicmaipgaa.Rx.SV.int (Go.IntKind.i64) x1)) :: (Go.Proofs.Ythhopbicmaipgaa.Rx.AV.undef :: (Go.Proofs.Ythhopbicmaipgaa.Rx.AV.undef :: (Go.Proofs.Ythhopbicmaipgaa.Rx.AV.undef :: (Go.Proofs.Ythhopbicmaipgaa.Rx.AV.undef :: (Go.Proofs.Ythhopbicmaipgaa.Rx.AV.undef :: (Go.Proofs.Ythhopbicmaipgaa.Rx.AV.undef :: (Go.Proofs.Ythhopbicmaipgaa.Rx.AV.undef :: (Go.Proofs.Ythhopbicmaipgaa.Rx.AV.undef :: (Go.Proofs.Ythhopbicmaipgaa.Rx.AV.undef :: (Go.Proofs.Ythhopbicmaipgaa.Rx.AV.undef :: (Go.Proofs.Ythhopbicmaipgaa.Rx.AV.undef :: (Go.Proofs.Ythhopbicmaipgaa.Rx.AV.undef :: (Go.Proofs.Ythhopbicmaipgaa.Rx.AV.undef :: (Go.Proofs.Ythhopbicmaipgaa.Rx.AV.undef :: (Go.Proofs.Ythhopbicmaipgaa.Rx.AV.undef :: (Go.Proofs.Ythhopbicmaipgaa.Rx.AV.undef :: (Go.Proofs.Ythhopbicmaipgaa.Rx.AV.undef :: (Go.Proofs.Ythhopbicmaipgaa.Rx.AV.undef :: []))))))))))))))))))))))) ((1000000, (Go.Proofs.Ythhopbicmaipgaa.Rx.Ent.row (⟨39, (Go.Proofs.Ythhopbicmaipgaa.Rx.Ty.int Go.IntKind.i64).pair   ((Go.Proofs.Ythhopbicmaipgaa.Rx.Ty.int Go.IntKind.i64).pair     ((Go.Proofs.Ythhopbicmaipgaa.Rx.Ty.int Go.IntKind.i64).pair       ((Go.Proofs.Ythhopbicmaipgaa.Rx.Ty.int Go.IntKind.i64).pair         ((Go.Proofs.Ythhopbicmaipgaa.Rx.Ty.int Go.IntKind.i64).pair           ((Go.Proofs.Ythhopbicmaipgaa.Rx.Ty.int Go.IntKind.i64).pair             (Go.Proofs.Ythhopbicmaipgaa.Rx.Ty.bool.pair               (Go.Proofs.Ythhopbicmaipgaa.Rx.Ty.str.pair (Go.Proofs.Ythhopbicmaipgaa.Rx.Ty.row (nat_lit 95) (Go.Proofs.Ythhopbicmaipgaa.Rx.Ty.str.pair (Go.Proofs.Ythhopbicmaipgaa.Rx.Ty.int Go.IntKind.i64)))))))))), x2⟩ : Rw) 0 Option.none)) :: []))
noncomputable def st74_top (n : Nat) (lL3 : (List (Int × Int × Int × Int × Int × Int × Bool × ByteArray × List (ByteArray × Int))) → Int → (List (Int × Int × Int × Int × Int × Int × Bool × ByteArray × List (ByteArray × Int))) → Option R74) (a : List (Int × Int × Int × Int × Int × Int × Bool × ByteArray × List (ByteArray × Int))) : Option R74 :=
  cond (decide ((↑a.length : Int) * (↑(96 : Nat) : Int) ≤ (140737488355328 : Int))) (lL3 (a) ((0 : Int)) (List.replicate (↑a.length : Int).toNat   ((0 : Int), (0 : Int), (0 : Int), (0 : Int), (0 : Int), (0 : Int), false, ByteArray.empty, []))) (none)
noncomputable def st74_L3 (n : Nat) (lL3 : (List (Int × Int × Int × Int × Int × Int × Bool × ByteArray × List (ByteArray × Int))) → Int → (List (Int × Int × Int × Int × Int × Int × Bool × ByteArray × List (ByteArray × Int))) → Option R74) (x0 : List (Int × Int × Int × Int × Int × Int × Bool × ByteArray × List (ByteArray × Int))) (x1 : Int) (x2 : List (Int × Int × Int × Int × Int × Int × Bool × ByteArray × List (ByteArray × Int))) : Option R74 :=
  cond (decide (x1 < (↑x0.length : Int))) (cond (decide ((0 : Int) ≤ x1)) (cond (decide (x1 < (↑x0.length : Int))) ((Go.Proofs.Ythhopbicmaipgaa.Rx.S.q107 n   (((x0.getD x1.toNat           ((0 : Int), (0 : Int), (0 : Int), (0 : Int), (0 : Int), (0 : Int), false, ByteArray.empty, [])).fst,       (x0.getD x1.toNat             ((0 : Int), (0 : Int), (0 : Int), (0 : Int), (0 : Int), (0 : Int), false, ByteArray.empty, [])).snd.fst,       (x0.getD x1.toNat               ((0 : Int), (0 : Int), (0 : Int), (0 : Int), (0 : Int), (0 : Int), false, ByteArray.empty,                 [])).snd.snd.fst,       (x0.getD x1.toNat                 ((0 : Int), (0 : Int), (0 : Int), (0 : Int), (0 : Int), (0 : Int), false, ByteArray.empty,                   [])).snd.snd.snd.fst,       (x0.getD x1.toNat                   ((0 : Int), (0 : Int), (0 : Int), (0 : Int), (0 : Int), (0 : Int), false, ByteArray.empty,                     [])).snd.snd.snd.snd.fst,       (x0.getD x1.toNat                     ((0 : Int), (0 : Int), (0 : Int), (0 : Int), (0 : Int), (0 : Int), false, ByteArray.empty,                       [])).snd.snd.snd.snd.snd.fst,       (x0.getD x1.toNat                       ((0 : Int), (0 : Int), (0 : Int), (0 : Int), (0 : Int), (0 : Int), false, ByteArray.empty,                         [])).snd.snd.snd.snd.snd.snd.fst,       (x0.getD x1.toNat                         ((0 : Int), (0 : Int), (0 : Int), (0 : Int), (0 : Int), (0 : Int), false, ByteArray.empty,                           [])).snd.snd.snd.snd.snd.snd.snd.fst,       (x0.getD x1.toNat                         ((0 : Int), (0 : Int), (0 : Int), (0 : Int), (0 : Int), (0 : Int), false, ByteArray.empty,                           [])).snd.snd.snd.snd.snd.snd.snd.snd),     ())).bind fun r1 => cond (decide ((0 : Int) ≤ x1)) (cond (decide (x1 < (↑x2.length : Int))) (lL3 (x0) (Go.IntKind.i64.wrap (x1 + (1 : Int))) (x2.set x1.toNat   (r1.fst.fst.fst, r1.fst.fst.snd.fst, r1.fst.fst.snd.snd.fst, r1.fst.fst.snd.snd.snd.fst,     r1.fst.fst.snd.snd.snd.snd.fst, r1.fst.fst.snd.snd.snd.snd.snd.fst, r1.fst.fst.snd.snd.snd.snd.snd.snd.fst,     r1.fst.fst.snd.snd.snd.snd.snd.snd.snd.fst, r1.fst.fst.snd.snd.snd.snd.snd.snd.snd.snd))) (none)) (none)) (none)) (none)) (some ((x2, ()), ()))
theorem e74_top (n : Nat) (a : List (Int × Int × Int × Int × Int × Int × Bool × ByteArray × List (ByteArray × Int))) : runF TT G74 an74 Try.f74 c74 ps74 rs74 n (a, ()) = st74_top n (fun x0 x1 x2 => at74 n (.head 3) [n] (sh74_L3 x0 x1 x2)) a := by kernel_rfl
theorem e74_L3_0 (n : Nat) (x0 : List (Int × Int × Int × Int × Int × Int × Bool × ByteArray × List (ByteArray × Int))) (x1 : Int) (x2 : List (Int × Int × Int × Int × Int × Int × Bool × ByteArray × List (ByteArray × Int))) : at74 n (.head 3) [0] (sh74_L3 x0 x1 x2) = none := by kernel_rfl
theorem e74_L3 (n : Nat) (m3 : Nat) (x0 : List (Int × Int × Int × Int × Int × Int × Bool × ByteArray × List (ByteArray × Int))) (x1 : Int) (x2 : List (Int × Int × Int × Int × Int × Int × Bool × ByteArray × List (ByteArray × Int))) : at74 n (.head 3) [m3 + 1] (sh74_L3 x0 x1 x2) = st74_L3 n (fun x0 x1 x2 => at74 n (.head 3) [m3] (sh74_L3 x0 x1 x2)) x0 x1 x2 := by kernel_rfl
noncomputable def p74_L3 (n : Nat) : Nat → (List (Int × Int × Int × Int × Int × Int × Bool × ByteArray × List (ByteArray × Int))) → Int → (List (Int × Int × Int × Int × Int × Int × Bool × ByteArray × List (ByteArray × Int))) → Option R74
  | 0, _, _, _ => none
  | m + 1, x0, x1, x2 => st74_L3 n (p74_L3 n m) x0 x1 x2
noncomputable def p74 (n : Nat) (a : List (Int × Int × Int × Int × Int × Int × Bool × ByteArray × List (ByteArray × Int))) : Option R74 := st74_top n (p74_L3 n n) a
theorem t74_L3 (n : Nat) : ∀ (m3 : Nat) (x0 : List (Int × Int × Int × Int × Int × Int × Bool × ByteArray × List (ByteArray × Int))) (x1 : Int) (x2 : List (Int × Int × Int × Int × Int × Int × Bool × ByteArray × List (ByteArray × Int))), at74 n (.head 3) [m3] (sh74_L3 x0 x1 x2) = p74_L3  n m3 x0 x1 x2 := by
  intro m
  induction m with
  | zero => intros; rw [e74_L3_0]; rfl
  | succ m ih =>
    intros
    rw [e74_L3]
    try simp only [ih]
    rfl
theorem F74_eq (n : Nat) (a : List (Int × Int × Int × Int × Int × Int × Bool × ByteArray × List (ByteArray × Int))) : runF TT G74 an74 Try.f74 c74 ps74 rs74 n (a, ()) = p74 n a := by
  rw [e74_top]
  simp only [t74_L3]
  try rfl
noncomputable def q74 (n : Nat) (x : argsD ps74) : Option R74 := p74 n x.1
noncomputable def Sm74 : Sm := ⟨ps74, rs74, false, q74⟩
theorem holds74 (hg : GamOK Try.prog G74) : Holds Try.prog 74 Sm74 := by
  have := h0_74 hg
  have e : (runF TT G74 an74 Try.f74 c74 ps74 rs74) = q74 := by
    funext n x
    exact F74_eq n x.1
  rw [e] at this
  exact this
theorem gam74 : GamOK Try.prog G74 := by
  intro f s h
  unfold G74 at h
  split at h
  · injection h with h; subst h; exact ⟨⟨Try.f107, c107, Try.func107, by kernel_rfl, by decide +kernel⟩, hh107⟩
  · cases h
theorem hh74 : Holds Try.prog 74 Sm74 := holds74 gam74
end Go.Proofs.Ythhopbicmaipgaa.Rx.S
namespace Go.Proofs.Ythhopbicmaipgaa.Rx.S
open Go Go.RowKit Go.Proofs
set_option maxRecDepth 100000
noncomputable def c23 : Code := (Try.f23.body.getD .skip)
def an23 : An := ⟨fun _ => ⟨[], []⟩, fun _ _ => none⟩
abbrev ps23 : List PK := [.val tLf true]
abbrev rs23 : List RK := [.own tFs true]
abbrev R23 := retsD rs23 × outsD ps23
noncomputable def G23 : Gam := fun f => match f with | 74 => some Sm74 | _ => none
theorem h0_23 (hg : GamOK Try.prog G23) : Holds Try.prog 23 ⟨ps23, rs23, false, runF TT G23 an23 Try.f23 c23 ps23 rs23⟩ := holds_of tt_ok hg mixed Try.func23 (by kernel_rfl) (by rfl) (by decide +kernel)
noncomputable def at23 : Nat → Pt → List Nat → St → Option R23 := atF TT G23 an23 Try.f23 c23 _ _
noncomputable def st23_top (n : Nat)  (a : List (Int × Int × Int × Int × Int × Int × Bool × ByteArray × List (ByteArray × Int))) : Option R23 :=
  (Go.Proofs.Ythhopbicmaipgaa.Rx.S.q74 n (a, ())).bind fun r0 => some ((r0.fst.fst, ()), ())
theorem e23_top (n : Nat) (a : List (Int × Int × Int × Int × Int × Int × Bool × ByteArray × List (ByteArray × Int))) : runF TT G23 an23 Try.f23 c23 ps23 rs23 n (a, ()) = st23_top n  a := by kernel_rfl
noncomputable def p23 (n : Nat) (a : List (Int × Int × Int × Int × Int × Int × Bool × ByteArray × List (ByteArray × Int))) : Option R23 := st23_top n  a
theorem F23_eq (n : Nat) (a : List (Int × Int × Int × Int × Int × Int × Bool × ByteArray × List (ByteArray × Int))) : runF TT G23 an23 Try.f23 c23 ps23 rs23 n (a, ()) = p23 n a := by
  rw [e23_top]
  skip
  try rfl
noncomputable def q23 (n : Nat) (x : argsD ps23) : Option R23 := p23 n x.1
noncomputable def Sm23 : Sm := ⟨ps23, rs23, false, q23⟩
theorem holds23 (hg : GamOK Try.prog G23) : Holds Try.prog 23 Sm23 := by
  have := h0_23 hg
  have e : (runF TT G23 an23 Try.f23 c23 ps23 rs23) = q23 := by
    funext n x
    exact F23_eq n x.1
  rw [e] at this
  exact this
theorem gam23 : GamOK Try.prog G23 := by
  intro f s h
  unfold G23 at h
  split at h
  · injection h with h; subst h; exact ⟨⟨Try.f74, c74, Try.func74, by kernel_rfl, by decide +kernel⟩, hh74⟩
  · cases h
theorem hh23 : Holds Try.prog 23 Sm23 := holds23 gam23
end Go.Proofs.Ythhopbicmaipgaa.Rx.S
namespace Go.Proofs.Ythhopbicmaipgaa.Rx.S
open Go Go.RowKit Go.Proofs
set_option maxRecDepth 100000
noncomputable def c135 : Code := (Try.f135.body.getD .skip)
def an135 : An := ⟨fun _ => ⟨[], []⟩, fun _ _ => none⟩
abbrev ps135 : List PK := [.val tEn true, .val tEn true]
abbrev rs135 : List RK := [.val .bool false]
abbrev R135 := retsD rs135 × outsD ps135
noncomputable def G135 : Gam := fun _ => none
theorem h0_135 (hg : GamOK Try.prog G135) : Holds Try.prog 135 ⟨ps135, rs135, false, runF TT G135 an135 Try.f135 c135 ps135 rs135⟩ := holds_of tt_ok hg mixed Try.func135 (by kernel_rfl) (by rfl) (by decide +kernel)
noncomputable def at135 : Nat → Pt → List Nat → St → Option R135 := atF TT G135 an135 Try.f135 c135 _ _
noncomputable def st135_top (n : Nat)  (a : ByteArray × Int) (b : ByteArray × Int) : Option R135 :=
  cond (!ByteArray.toList a.fst == ByteArray.toList b.fst) (some ((false, ()), ())) (cond (!decide (a.snd = b.snd)) (some ((false, ()), ())) (some ((true, ()), ())))
theorem e135_top (n : Nat) (a : ByteArray × Int) (b : ByteArray × Int) : runF TT G135 an135 Try.f135 c135 ps135 rs135 n (a, b, ()) = st135_top n  a b := by kernel_rfl
noncomputable def p135 (n : Nat) (a : ByteArray × Int) (b : ByteArray × Int) : Option R135 := st135_top n  a b
theorem F135_eq (n : Nat) (a : ByteArray × Int) (b : ByteArray × Int) : runF TT G135 an135 Try.f135 c135 ps135 rs135 n (a, b, ()) = p135 n a b := by
  rw [e135_top]
  skip
  try rfl
noncomputable def q135 (n : Nat) (x : argsD ps135) : Option R135 := p135 n x.1 x.2.1
noncomputable def Sm135 : Sm := ⟨ps135, rs135, false, q135⟩
theorem holds135 (hg : GamOK Try.prog G135) : Holds Try.prog 135 Sm135 := by
  have := h0_135 hg
  have e : (runF TT G135 an135 Try.f135 c135 ps135 rs135) = q135 := by
    funext n x
    exact F135_eq n x.1 x.2.1
  rw [e] at this
  exact this
theorem gam135 : GamOK Try.prog G135 := fun _ _ h => by cases h
theorem hh135 : Holds Try.prog 135 Sm135 := holds135 gam135
end Go.Proofs.Ythhopbicmaipgaa.Rx.S
namespace Go.Proofs.Ythhopbicmaipgaa.Rx.S
open Go Go.RowKit Go.Proofs
set_option maxRecDepth 100000
noncomputable def c126 : Code := (Try.f126.body.getD .skip)
def an126 : An := ⟨fun r => match r with | 4 => ⟨[0, 1, 5], []⟩ | _ => ⟨[], []⟩, fun _ _ => none⟩
abbrev ps126 : List PK := [.val (.row 95 tEn) false, .val (.row 95 tEn) false]
abbrev rs126 : List RK := [.val .bool false]
abbrev R126 := retsD rs126 × outsD ps126
noncomputable def G126 : Gam := fun f => match f with | 135 => some Sm135 | _ => none
theorem h0_126 (hg : GamOK Try.prog G126) : Holds Try.prog 126 ⟨ps126, rs126, false, runF TT G126 an126 Try.f126 c126 ps126 rs126⟩ := holds_of tt_ok hg mixed Try.func126 (by kernel_rfl) (by rfl) (by decide +kernel)
noncomputable def at126 : Nat → Pt → List Nat → St → Option R126 := atF TT G126 an126 Try.f126 c126 _ _
def sh126_L4 (x0 : List (ByteArray × Int)) (x1 : List (ByteArray × Int)) (x2 : Int) : St := (Go.Proofs.Ythhopbicmaipgaa.Rx.St.mk ((Go.Proofs.Ythhopbicmaipgaa.Rx.AV.one (Go.Proofs.Ythhopbicmaipgaa.Rx.SV.con (⟨95, Go.Proofs.Ythhopbicmaipgaa.Rx.Ty.str.pair (Go.Proofs.Ythhopbicmaipgaa.Rx.Ty.int Go.IntKind.i64), x0⟩ : Rw))) :: ((Go.Proofs.Ythhopbicmaipgaa.Rx.AV.one (Go.Proofs.Ythhopbicmaipgaa.Rx.SV.con (⟨95, Go.Proofs.Ythhopbicmaipgaa.Rx.Ty.str.pair (Go.Proofs.Ythhopbicmaipgaa.Rx.Ty.int Go.IntKind.i64), x1⟩ : Rw))) :: (Go.Proofs.Ythhopbicmaipgaa.Rx.AV.undef :: (Go.Proofs.Ythhopbicmaipgaa.Rx.AV.undef :: (Go.Proofs.Ythhopbicmaipgaa.Rx.AV.undef :: ((Go.Proofs.Ythhopbicmaipgaa.Rx.AV.one (Go.Proofs.Ythhopbicmaipgaa.Rx.SV.int (Go.IntKind.i64) x2)) :: (Go.Proofs.Ythhopbicmaipgaa.Rx.AV.undef :: (Go.Proofs.Ythhopbicmaipgaa.Rx.AV.undef :: (Go.Proofs.Ythhopbicmaipgaa.Rx.AV.undef :: (Go.Proofs.Ythhopbicmaipgaa.Rx.AV.undef :: (Go.Proofs.Ythhopbicmaipgaa.Rx.AV.undef :: (Go.Proofs.Ythhopbicmaipgaa.Rx.AV.undef :: (Go.Proofs.Ythhopbicmaipgaa.Rx.AV.undef :: (Go.Proofs.Ythhopbicmaipgaa.Rx.AV.undef :: (Go.Proofs.Ythhopbicmaipgaa.Rx.AV.undef :: (Go.Proofs.Ythhopbicmaipgaa.Rx.AV.undef :: (Go.Proofs.Ythhopbicmaipgaa.Rx.AV.undef :: (Go.Proofs.Ythhopbicmaipgaa.Rx.AV.undef :: (Go.Proofs.Ythhopbicmaipgaa.Rx.AV.undef :: (Go.Proofs.Ythhopbicmaipgaa.Rx.AV.undef :: (Go.Proofs.Ythhopbicmaipgaa.Rx.AV.undef :: (Go.Proofs.Ythhopbicmaipgaa.Rx.AV.undef :: (Go.Proofs.Ythhopbicmaipgaa.Rx.AV.undef :: (Go.Proofs.Ythhopbicmaipgaa.Rx.AV.undef :: (Go.Proofs.Ythhopbicmaipgaa.Rx.AV.undef :: (Go.Proofs.Ythhopbicmaipgaa.Rx.AV.undef :: (Go.Proofs.Ythhopbicmaipgaa.Rx.AV.undef :: []))))))))))))))))))))))))))) [])
noncomputable def st126_top (n : Nat) (lL4 : (List (ByteArray × Int)) → (List (ByteArray × Int)) → Int → Option R126) (a : List (ByteArray × Int)) (b : List (ByteArray × Int)) : Option R126 :=
  cond (!decide ((↑a.length : Int) = (↑b.length : Int))) (some ((false, ()), ())) (lL4 (a) (b) ((0 : Int)))
noncomputable def st126_L4 (n : Nat) (lL4 : (List (ByteArray × Int)) → (List (ByteArray × Int)) → Int → Option R126) (x0 : List (ByteArray × Int)) (x1 : List (ByteArray × Int)) (x2 : Int) : Option R126 :=
  cond (decide (x2 < (↑x0.length : Int))) (cond (decide ((0 : Int) ≤ x2)) (cond (decide (x2 < (↑x0.length : Int))) (cond (decide ((0 : Int) ≤ x2)) (cond (decide (x2 < (↑x1.length : Int))) ((Go.Proofs.Ythhopbicmaipgaa.Rx.S.q135 n   (((x0.getD x2.toNat (ByteArray.empty, (0 : Int))).fst, (x0.getD x2.toNat (ByteArray.empty, (0 : Int))).snd),     ((x1.getD x2.toNat (ByteArray.empty, (0 : Int))).fst, (x1.getD x2.toNat (ByteArray.empty, (0 : Int))).snd), ())).bind fun r1 => cond (!r1.fst.fst) (some ((false, ()), ())) (lL4 (x0) (x1) (Go.IntKind.i64.wrap (x2 + (1 : Int))))) (none)) (none)) (none)) (none)) (some ((true, ()), ()))
theorem e126_top (n : Nat) (a : List (ByteArray × Int)) (b : List (ByteArray × Int)) : runF TT G126 an126 Try.f126 c126 ps126 rs126 n (a, b, ()) = st126_top n (fun x0 x1 x2 => at126 n (.head 4) [n] (sh126_L4 x0 x1 x2)) a b := by kernel_rfl
theorem e126_L4_0 (n : Nat) (x0 : List (ByteArray × Int)) (x1 : List (ByteArray × Int)) (x2 : Int) : at126 n (.head 4) [0] (sh126_L4 x0 x1 x2) = none := by kernel_rfl
theorem e126_L4 (n : Nat) (m4 : Nat) (x0 : List (ByteArray × Int)) (x1 : List (ByteArray × Int)) (x2 : Int) : at126 n (.head 4) [m4 + 1] (sh126_L4 x0 x1 x2) = st126_L4 n (fun x0 x1 x2 => at126 n (.head 4) [m4] (sh126_L4 x0 x1 x2)) x0 x1 x2 := by kernel_rfl
noncomputable def p126_L4 (n : Nat) : Nat → (List (ByteArray × Int)) → (List (ByteArray × Int)) → Int → Option R126
  | 0, _, _, _ => none
  | m + 1, x0, x1, x2 => st126_L4 n (p126_L4 n m) x0 x1 x2
noncomputable def p126 (n : Nat) (a : List (ByteArray × Int)) (b : List (ByteArray × Int)) : Option R126 := st126_top n (p126_L4 n n) a b
theorem t126_L4 (n : Nat) : ∀ (m4 : Nat) (x0 : List (ByteArray × Int)) (x1 : List (ByteArray × Int)) (x2 : Int), at126 n (.head 4) [m4] (sh126_L4 x0 x1 x2) = p126_L4  n m4 x0 x1 x2 := by
  intro m
  induction m with
  | zero => intros; rw [e126_L4_0]; rfl
  | succ m ih =>
    intros
    rw [e126_L4]
    try simp only [ih]
    rfl
theorem F126_eq (n : Nat) (a : List (ByteArray × Int)) (b : List (ByteArray × Int)) : runF TT G126 an126 Try.f126 c126 ps126 rs126 n (a, b, ()) = p126 n a b := by
  rw [e126_top]
  simp only [t126_L4]
  try rfl
noncomputable def q126 (n : Nat) (x : argsD ps126) : Option R126 := p126 n x.1 x.2.1
noncomputable def Sm126 : Sm := ⟨ps126, rs126, false, q126⟩
theorem holds126 (hg : GamOK Try.prog G126) : Holds Try.prog 126 Sm126 := by
  have := h0_126 hg
  have e : (runF TT G126 an126 Try.f126 c126 ps126 rs126) = q126 := by
    funext n x
    exact F126_eq n x.1 x.2.1
  rw [e] at this
  exact this
theorem gam126 : GamOK Try.prog G126 := by
  intro f s h
  unfold G126 at h
  split at h
  · injection h with h; subst h; exact ⟨⟨Try.f135, c135, Try.func135, by kernel_rfl, by decide +kernel⟩, hh135⟩
  · cases h
theorem hh126 : Holds Try.prog 126 Sm126 := holds126 gam126
end Go.Proofs.Ythhopbicmaipgaa.Rx.S
namespace Go.Proofs.Ythhopbicmaipgaa.Rx.S
open Go Go.RowKit Go.Proofs
set_option maxRecDepth 100000
noncomputable def c108 : Code := (Try.f108.body.getD .skip)
def an108 : An := ⟨fun _ => ⟨[], []⟩, fun _ _ => none⟩
abbrev ps108 : List PK := [.val (tIn 95) true, .val (tIn 95) true]
abbrev rs108 : List RK := [.val .bool false]
abbrev R108 := retsD rs108 × outsD ps108
noncomputable def G108 : Gam := fun f => match f with | 126 => some Sm126 | _ => none
theorem h0_108 (hg : GamOK Try.prog G108) : Holds Try.prog 108 ⟨ps108, rs108, false, runF TT G108 an108 Try.f108 c108 ps108 rs108⟩ := holds_of tt_ok hg mixed Try.func108 (by kernel_rfl) (by rfl) (by decide +kernel)
noncomputable def at108 : Nat → Pt → List Nat → St → Option R108 := atF TT G108 an108 Try.f108 c108 _ _
noncomputable def st108_top (n : Nat)  (a : Int × Int × Int × Int × Int × Int × Bool × ByteArray × List (ByteArray × Int)) (b : Int × Int × Int × Int × Int × Int × Bool × ByteArray × List (ByteArray × Int)) : Option R108 :=
  cond (!decide (a.fst = b.fst)) (some ((false, ()), ())) (cond (!decide (a.snd.fst = b.snd.fst)) (some ((false, ()), ())) (cond (!decide (a.snd.snd.fst = b.snd.snd.fst)) (some ((false, ()), ())) (cond (!decide (a.snd.snd.snd.fst = b.snd.snd.snd.fst)) (some ((false, ()), ())) (cond (!decide (a.snd.snd.snd.snd.fst = b.snd.snd.snd.snd.fst)) (some ((false, ()), ())) (cond (!decide (a.snd.snd.snd.snd.snd.fst = b.snd.snd.snd.snd.snd.fst)) (some ((false, ()), ())) (cond (!a.snd.snd.snd.snd.snd.snd.fst == b.snd.snd.snd.snd.snd.snd.fst) (some ((false, ()), ())) (cond (!ByteArray.toList a.snd.snd.snd.snd.snd.snd.snd.fst == ByteArray.toList b.snd.snd.snd.snd.snd.snd.snd.fst) (some ((false, ()), ())) ((Go.Proofs.Ythhopbicmaipgaa.Rx.S.q126 n (a.snd.snd.snd.snd.snd.snd.snd.snd, b.snd.snd.snd.snd.snd.snd.snd.snd, ())).bind fun r0 => cond (!r0.fst.fst) (some ((false, ()), ())) (some ((true, ()), ()))))))))))
theorem e108_top (n : Nat) (a : Int × Int × Int × Int × Int × Int × Bool × ByteArray × List (ByteArray × Int)) (b : Int × Int × Int × Int × Int × Int × Bool × ByteArray × List (ByteArray × Int)) : runF TT G108 an108 Try.f108 c108 ps108 rs108 n (a, b, ()) = st108_top n  a b := by kernel_rfl
noncomputable def p108 (n : Nat) (a : Int × Int × Int × Int × Int × Int × Bool × ByteArray × List (ByteArray × Int)) (b : Int × Int × Int × Int × Int × Int × Bool × ByteArray × List (ByteArray × Int)) : Option R108 := st108_top n  a b
theorem F108_eq (n : Nat) (a : Int × Int × Int × Int × Int × Int × Bool × ByteArray × List (ByteArray × Int)) (b : Int × Int × Int × Int × Int × Int × Bool × ByteArray × List (ByteArray × Int)) : runF TT G108 an108 Try.f108 c108 ps108 rs108 n (a, b, ()) = p108 n a b := by
  rw [e108_top]
  skip
  try rfl
noncomputable def q108 (n : Nat) (x : argsD ps108) : Option R108 := p108 n x.1 x.2.1
noncomputable def Sm108 : Sm := ⟨ps108, rs108, false, q108⟩
theorem holds108 (hg : GamOK Try.prog G108) : Holds Try.prog 108 Sm108 := by
  have := h0_108 hg
  have e : (runF TT G108 an108 Try.f108 c108 ps108 rs108) = q108 := by
    funext n x
    exact F108_eq n x.1 x.2.1
  rw [e] at this
  exact this
theorem gam108 : GamOK Try.prog G108 := by
  intro f s h
  unfold G108 at h
  split at h
  · injection h with h; subst h; exact ⟨⟨Try.f126, c126, Try.func126, by kernel_rfl, by decide +kernel⟩, hh126⟩
  · cases h
theorem hh108 : Holds Try.prog 108 Sm108 := holds108 gam108
end Go.Proofs.Ythhopbicmaipgaa.Rx.S
namespace Go.Proofs.Ythhopbicmaipgaa.Rx.S
open Go Go.RowKit Go.Proofs
set_option maxRecDepth 100000
noncomputable def c76 : Code := (Try.f76.body.getD .skip)
def an76 : An := ⟨fun r => match r with | 4 => ⟨[0, 1, 5], []⟩ | _ => ⟨[], []⟩, fun _ _ => none⟩
abbrev ps76 : List PK := [.val tFs false, .val tFs false]
abbrev rs76 : List RK := [.val .bool false]
abbrev R76 := retsD rs76 × outsD ps76
noncomputable def G76 : Gam := fun f => match f with | 108 => some Sm108 | _ => none
theorem h0_76 (hg : GamOK Try.prog G76) : Holds Try.prog 76 ⟨ps76, rs76, false, runF TT G76 an76 Try.f76 c76 ps76 rs76⟩ := holds_of tt_ok hg mixed Try.func76 (by kernel_rfl) (by rfl) (by decide +kernel)
noncomputable def at76 : Nat → Pt → List Nat → St → Option R76 := atF TT G76 an76 Try.f76 c76 _ _
def sh76_L4 (x0 : List (Int × Int × Int × Int × Int × Int × Bool × ByteArray × List (ByteArray × Int))) (x1 : List (Int × Int × Int × Int × Int × Int × Bool × ByteArray × List (ByteArray × Int))) (x2 : Int) : St := (Go.Proofs.Ythhopbicmaipgaa.Rx.St.mk ((Go.Proofs.Ythhopbicmaipgaa.Rx.AV.one (Go.Proofs.Ythhopbicmaipgaa.Rx.SV.con (⟨39, (Go.Proofs.Ythhopbicmaipgaa.Rx.Ty.int Go.IntKind.i64).pair   ((Go.Proofs.Ythhopbicmaipgaa.Rx.Ty.int Go.IntKind.i64).pair     ((Go.Proofs.Ythhopbicmaipgaa.Rx.Ty.int Go.IntKind.i64).pair       ((Go.Proofs.Ythhopbicmaipgaa.Rx.Ty.int Go.IntKind.i64).pair         ((Go.Proofs.Ythhopbicmaipgaa.Rx.Ty.int Go.IntKind.i64).pair           ((Go.Proofs.Ythhopbicmaipgaa.Rx.Ty.int Go.IntKind.i64).pair             (Go.Proofs.Ythhopbicmaipgaa.Rx.Ty.bool.pair               (Go.Proofs.Ythhopbicmaipgaa.Rx.Ty.str.pair (Go.Proofs.Ythhopbicmaipgaa.Rx.Ty.row (nat_lit 95) (Go.Proofs.Ythhopbicmaipgaa.Rx.Ty.str.pair (Go.Proofs.Ythhopbicmaipgaa.Rx.Ty.int Go.IntKind.i64)))))))))), x0⟩ : Rw))) :: ((Go.Proofs.Ythhopbicmaipgaa.Rx.AV.one (Go.Proofs.Ythhopbicmaipgaa.Rx.SV.con (⟨39, (Go.Proofs.Ythhopbicmaipgaa.Rx.Ty.int Go.IntKind.i64).pair   ((Go.Proofs.Ythhopbicmaipgaa.Rx.Ty.int Go.IntKind.i64).pair     ((Go.Proofs.Ythhopbicmaipgaa.Rx.Ty.int Go.IntKind.i64).pair       ((Go.Proofs.Ythhopbicmaipgaa.Rx.Ty.int Go.IntKind.i64).pair         ((Go.Proofs.Ythhopbicmaipgaa.Rx.Ty.int Go.IntKind.i64).pair           ((Go.Proofs.Ythhopbicmaipgaa.Rx.Ty.int Go.IntKind.i64).pair             (Go.Proofs.Ythhopbicmaipgaa.Rx.Ty.bool.pair               (Go.Proofs.Ythhopbicmaipgaa.Rx.Ty.str.pair (Go.Proofs.Ythhopbicmaipgaa.Rx.Ty.row (nat_lit 95) (Go.Proofs.Ythhopbicmaipgaa.Rx.Ty.str.pair (Go.Proofs.Ythhopbicmaipgaa.Rx.Ty.int Go.IntKind.i64)))))))))), x1⟩ : Rw))) :: (Go.Proofs.Ythhopbicmaipgaa.Rx.AV.undef :: (Go.Proofs.Ythhopbicmaipgaa.Rx.AV.undef :: (Go.Proofs.Ythhopbicmaipgaa.Rx.AV.undef :: ((Go.Proofs.Ythhopbicmaipgaa.Rx.AV.one (Go.Proofs.Ythhopbicmaipgaa.Rx.SV.int (Go.IntKind.i64) x2)) :: (Go.Proofs.Ythhopbicmaipgaa.Rx.AV.undef :: (Go.Proofs.Ythhopbicmaipgaa.Rx.AV.undef :: (Go.Proofs.Ythhopbicmaipgaa.Rx.AV.undef :: (Go.Proofs.Ythhopbicmaipgaa.Rx.AV.undef :: (Go.Proofs.Ythhopbicmaipgaa.Rx.AV.undef :: (Go.Proofs.Ythhopbicmaipgaa.Rx.AV.undef :: (Go.Proofs.Ythhopbicmaipgaa.Rx.AV.undef :: (Go.Proofs.Ythhopbicmaipgaa.Rx.AV.undef :: (Go.Proofs.Ythhopbicmaipgaa.Rx.AV.undef :: (Go.Proofs.Ythhopbicmaipgaa.Rx.AV.undef :: (Go.Proofs.Ythhopbicmaipgaa.Rx.AV.undef :: (Go.Proofs.Ythhopbicmaipgaa.Rx.AV.undef :: (Go.Proofs.Ythhopbicmaipgaa.Rx.AV.undef :: (Go.Proofs.Ythhopbicmaipgaa.Rx.AV.undef :: (Go.Proofs.Ythhopbicmaipgaa.Rx.AV.undef :: (Go.Proofs.Ythhopbicmaipgaa.Rx.AV.undef :: (Go.Proofs.Ythhopbicmaipgaa.Rx.AV.undef :: (Go.Proofs.Ythhopbicmaipgaa.Rx.AV.undef :: (Go.Proofs.Ythhopbicmaipgaa.Rx.AV.undef :: (Go.Proofs.Ythhopbicmaipgaa.Rx.AV.undef :: (Go.Proofs.Ythhopbicmaipgaa.Rx.AV.undef :: []))))))))))))))))))))))))))) [])
noncomputable def st76_top (n : Nat) (lL4 : (List (Int × Int × Int × Int × Int × Int × Bool × ByteArray × List (ByteArray × Int))) → (List (Int × Int × Int × Int × Int × Int × Bool × ByteArray × List (ByteArray × Int))) → Int → Option R76) (a : List (Int × Int × Int × Int × Int × Int × Bool × ByteArray × List (ByteArray × Int))) (b : List (Int × Int × Int × Int × Int × Int × Bool × ByteArray × List (ByteArray × Int))) : Option R76 :=
  cond (!decide ((↑a.length : Int) = (↑b.length : Int))) (some ((false, ()), ())) (lL4 (a) (b) ((0 : Int)))
noncomputable def st76_L4 (n : Nat) (lL4 : (List (Int × Int × Int × Int × Int × Int × Bool × ByteArray × List (ByteArray × Int))) → (List (Int × Int × Int × Int × Int × Int × Bool × ByteArray × List (ByteArray × Int))) → Int → Option R76) (x0 : List (Int × Int × Int × Int × Int × Int × Bool × ByteArray × List (ByteArray × Int))) (x1 : List (Int × Int × Int × Int × Int × Int × Bool × ByteArray × List (ByteArray × Int))) (x2 : Int) : Option R76 :=
  cond (decide (x2 < (↑x0.length : Int))) (cond (decide ((0 : Int) ≤ x2)) (cond (decide (x2 < (↑x0.length : Int))) (cond (decide ((0 : Int) ≤ x2)) (cond (decide (x2 < (↑x1.length : Int))) ((Go.Proofs.Ythhopbicmaipgaa.Rx.S.q108 n   (((x0.getD x2.toNat           ((0 : Int), (0 : Int), (0 : Int), (0 : Int), (0 : Int), (0 : Int), false, ByteArray.empty, [])).fst,       (x0.getD x2.toNat             ((0 : Int), (0 : Int), (0 : Int), (0 : Int), (0 : Int), (0 : Int), false, ByteArray.empty, [])).snd.fst,       (x0.getD x2.toNat               ((0 : Int), (0 : Int), (0 : Int), (0 : Int), (0 : Int), (0 : Int), false, ByteArray.empty,                 [])).snd.snd.fst,       (x0.getD x2.toNat                 ((0 : Int), (0 : Int), (0 : Int), (0 : Int), (0 : Int), (0 : Int), false, ByteArray.empty,                   [])).snd.snd.snd.fst,       (x0.getD x2.toNat                   ((0 : Int), (0 : Int), (0 : Int), (0 : Int), (0 : Int), (0 : Int), false, ByteArray.empty,                     [])).snd.snd.snd.snd.fst,       (x0.getD x2.toNat                     ((0 : Int), (0 : Int), (0 : Int), (0 : Int), (0 : Int), (0 : Int), false, ByteArray.empty,                       [])).snd.snd.snd.snd.snd.fst,       (x0.getD x2.toNat                       ((0 : Int), (0 : Int), (0 : Int), (0 : Int), (0 : Int), (0 : Int), false, ByteArray.empty,                         [])).snd.snd.snd.snd.snd.snd.fst,       (x0.getD x2.toNat                         ((0 : Int), (0 : Int), (0 : Int), (0 : Int), (0 : Int), (0 : Int), false, ByteArray.empty,                           [])).snd.snd.snd.snd.snd.snd.snd.fst,       (x0.getD x2.toNat                         ((0 : Int), (0 : Int), (0 : Int), (0 : Int), (0 : Int), (0 : Int), false, ByteArray.empty,                           [])).snd.snd.snd.snd.snd.snd.snd.snd),     ((x1.getD x2.toNat           ((0 : Int), (0 : Int), (0 : Int), (0 : Int), (0 : Int), (0 : Int), false, ByteArray.empty, [])).fst,       (x1.getD x2.toNat             ((0 : Int), (0 : Int), (0 : Int), (0 : Int), (0 : Int), (0 : Int), false, ByteArray.empty, [])).snd.fst,       (x1.getD x2.toNat               ((0 : Int), (0 : Int), (0 : Int), (0 : Int), (0 : Int), (0 : Int), false, ByteArray.empty,                 [])).snd.snd.fst,       (x1.getD x2.toNat                 ((0 : Int), (0 : Int), (0 : Int), (0 : Int), (0 : Int), (0 : Int), false, ByteArray.empty,                   [])).snd.snd.snd.fst,       (x1.getD x2.toNat                   ((0 : Int), (0 : Int), (0 : Int), (0 : Int), (0 : Int), (0 : Int), false, ByteArray.empty,                     [])).snd.snd.snd.snd.fst,       (x1.getD x2.toNat                     ((0 : Int), (0 : Int), (0 : Int), (0 : Int), (0 : Int), (0 : Int), false, ByteArray.empty,                       [])).snd.snd.snd.snd.snd.fst,       (x1.getD x2.toNat                       ((0 : Int), (0 : Int), (0 : Int), (0 : Int), (0 : Int), (0 : Int), false, ByteArray.empty,                         [])).snd.snd.snd.snd.snd.snd.fst,       (x1.getD x2.toNat                         ((0 : Int), (0 : Int), (0 : Int), (0 : Int), (0 : Int), (0 : Int), false, ByteArray.empty,                           [])).snd.snd.snd.snd.snd.snd.snd.fst,       (x1.getD x2.toNat                         ((0 : Int), (0 : Int), (0 : Int), (0 : Int), (0 : Int), (0 : Int), false, ByteArray.empty,                           [])).snd.snd.snd.snd.snd.snd.snd.snd),     ())).bind fun r1 => cond (!r1.fst.fst) (some ((false, ()), ())) (lL4 (x0) (x1) (Go.IntKind.i64.wrap (x2 + (1 : Int))))) (none)) (none)) (none)) (none)) (some ((true, ()), ()))
theorem e76_top (n : Nat) (a : List (Int × Int × Int × Int × Int × Int × Bool × ByteArray × List (ByteArray × Int))) (b : List (Int × Int × Int × Int × Int × Int × Bool × ByteArray × List (ByteArray × Int))) : runF TT G76 an76 Try.f76 c76 ps76 rs76 n (a, b, ()) = st76_top n (fun x0 x1 x2 => at76 n (.head 4) [n] (sh76_L4 x0 x1 x2)) a b := by kernel_rfl
theorem e76_L4_0 (n : Nat) (x0 : List (Int × Int × Int × Int × Int × Int × Bool × ByteArray × List (ByteArray × Int))) (x1 : List (Int × Int × Int × Int × Int × Int × Bool × ByteArray × List (ByteArray × Int))) (x2 : Int) : at76 n (.head 4) [0] (sh76_L4 x0 x1 x2) = none := by kernel_rfl
theorem e76_L4 (n : Nat) (m4 : Nat) (x0 : List (Int × Int × Int × Int × Int × Int × Bool × ByteArray × List (ByteArray × Int))) (x1 : List (Int × Int × Int × Int × Int × Int × Bool × ByteArray × List (ByteArray × Int))) (x2 : Int) : at76 n (.head 4) [m4 + 1] (sh76_L4 x0 x1 x2) = st76_L4 n (fun x0 x1 x2 => at76 n (.head 4) [m4] (sh76_L4 x0 x1 x2)) x0 x1 x2 := by kernel_rfl
noncomputable def p76_L4 (n : Nat) : Nat → (List (Int × Int × Int × Int × Int × Int × Bool × ByteArray × List (ByteArray × Int))) → (List (Int × Int × Int × Int × Int × Int × Bool × ByteArray × List (ByteArray × Int))) → Int → Option R76
  | 0, _, _, _ => none
  | m + 1, x0, x1, x2 => st76_L4 n (p76_L4 n m) x0 x1 x2
noncomputable def p76 (n : Nat) (a : List (Int × Int × Int × Int × Int × Int × Bool × ByteArray × List (ByteArray × Int))) (b : List (Int × Int × Int × Int × Int × Int × Bool × ByteArray × List (ByteArray × Int))) : Option R76 := st76_top n (p76_L4 n n) a b
theorem t76_L4 (n : Nat) : ∀ (m4 : Nat) (x0 : List (Int × Int × Int × Int × Int × Int × Bool × ByteArray × List (ByteArray × Int))) (x1 : List (Int × Int × Int × Int × Int × Int × Bool × ByteArray × List (ByteArray × Int))) (x2 : Int), at76 n (.head 4) [m4] (sh76_L4 x0 x1 x2) = p76_L4  n m4 x0 x1 x2 := by
  intro m
  induction m with
  | zero => intros; rw [e76_L4_0]; rfl
  | succ m ih =>
    intros
    rw [e76_L4]
    try simp only [ih]
    rfl
theorem F76_eq (n : Nat) (a : List (Int × Int × Int × Int × Int × Int × Bool × ByteArray × List (ByteArray × Int))) (b : List (Int × Int × Int × Int × Int × Int × Bool × ByteArray × List (ByteArray × Int))) : runF TT G76 an76 Try.f76 c76 ps76 rs76 n (a, b, ()) = p76 n a b := by
  rw [e76_top]
  simp only [t76_L4]
  try rfl
noncomputable def q76 (n : Nat) (x : argsD ps76) : Option R76 := p76 n x.1 x.2.1
noncomputable def Sm76 : Sm := ⟨ps76, rs76, false, q76⟩
theorem holds76 (hg : GamOK Try.prog G76) : Holds Try.prog 76 Sm76 := by
  have := h0_76 hg
  have e : (runF TT G76 an76 Try.f76 c76 ps76 rs76) = q76 := by
    funext n x
    exact F76_eq n x.1 x.2.1
  rw [e] at this
  exact this
theorem gam76 : GamOK Try.prog G76 := by
  intro f s h
  unfold G76 at h
  split at h
  · injection h with h; subst h; exact ⟨⟨Try.f108, c108, Try.func108, by kernel_rfl, by decide +kernel⟩, hh108⟩
  · cases h
theorem hh76 : Holds Try.prog 76 Sm76 := holds76 gam76
end Go.Proofs.Ythhopbicmaipgaa.Rx.S
namespace Go.Proofs.Ythhopbicmaipgaa.Rx.S
open Go Go.RowKit Go.Proofs
set_option maxRecDepth 100000
noncomputable def c25 : Code := (Try.f25.body.getD .skip)
def an25 : An := ⟨fun _ => ⟨[], []⟩, fun _ _ => none⟩
abbrev ps25 : List PK := [.val tFs true, .val tFs true]
abbrev rs25 : List RK := [.val .bool false]
abbrev R25 := retsD rs25 × outsD ps25
noncomputable def G25 : Gam := fun f => match f with | 76 => some Sm76 | _ => none
theorem h0_25 (hg : GamOK Try.prog G25) : Holds Try.prog 25 ⟨ps25, rs25, false, runF TT G25 an25 Try.f25 c25 ps25 rs25⟩ := holds_of tt_ok hg mixed Try.func25 (by kernel_rfl) (by rfl) (by decide +kernel)
noncomputable def at25 : Nat → Pt → List Nat → St → Option R25 := atF TT G25 an25 Try.f25 c25 _ _
noncomputable def st25_top (n : Nat)  (a : List (Int × Int × Int × Int × Int × Int × Bool × ByteArray × List (ByteArray × Int))) (b : List (Int × Int × Int × Int × Int × Int × Bool × ByteArray × List (ByteArray × Int))) : Option R25 :=
  (Go.Proofs.Ythhopbicmaipgaa.Rx.S.q76 n (a, b, ())).bind fun r0 => cond (!r0.fst.fst) (some ((false, ()), ())) (some ((true, ()), ()))
theorem e25_top (n : Nat) (a : List (Int × Int × Int × Int × Int × Int × Bool × ByteArray × List (ByteArray × Int))) (b : List (Int × Int × Int × Int × Int × Int × Bool × ByteArray × List (ByteArray × Int))) : runF TT G25 an25 Try.f25 c25 ps25 rs25 n (a, b, ()) = st25_top n  a b := by kernel_rfl
noncomputable def p25 (n : Nat) (a : List (Int × Int × Int × Int × Int × Int × Bool × ByteArray × List (ByteArray × Int))) (b : List (Int × Int × Int × Int × Int × Int × Bool × ByteArray × List (ByteArray × Int))) : Option R25 := st25_top n  a b
theorem F25_eq (n : Nat) (a : List (Int × Int × Int × Int × Int × Int × Bool × ByteArray × List (ByteArray × Int))) (b : List (Int × Int × Int × Int × Int × Int × Bool × ByteArray × List (ByteArray × Int))) : runF TT G25 an25 Try.f25 c25 ps25 rs25 n (a, b, ()) = p25 n a b := by
  rw [e25_top]
  skip
  try rfl
noncomputable def q25 (n : Nat) (x : argsD ps25) : Option R25 := p25 n x.1 x.2.1
noncomputable def Sm25 : Sm := ⟨ps25, rs25, false, q25⟩
theorem holds25 (hg : GamOK Try.prog G25) : Holds Try.prog 25 Sm25 := by
  have := h0_25 hg
  have e : (runF TT G25 an25 Try.f25 c25 ps25 rs25) = q25 := by
    funext n x
    exact F25_eq n x.1 x.2.1
  rw [e] at this
  exact this
theorem gam25 : GamOK Try.prog G25 := by
  intro f s h
  unfold G25 at h
  split at h
  · injection h with h; subst h; exact ⟨⟨Try.f76, c76, Try.func76, by kernel_rfl, by decide +kernel⟩, hh76⟩
  · cases h
theorem hh25 : Holds Try.prog 25 Sm25 := holds25 gam25
end Go.Proofs.Ythhopbicmaipgaa.Rx.S
namespace Go.Proofs.Ythhopbicmaipgaa.Rx.S
open Go Go.RowKit Go.Proofs
set_option maxRecDepth 100000
noncomputable def c109 : Code := (Try.f109.body.getD .skip)
def an109 : An := ⟨fun r => match r with | 4 => ⟨[0, 3], []⟩ | _ => ⟨[], []⟩, fun _ _ => none⟩
abbrev ps109 : List PK := [.val i64 false]
abbrev rs109 : List RK := [.val .str false]
abbrev R109 := retsD rs109 × outsD ps109
noncomputable def G109 : Gam := fun _ => none
theorem h0_109 (hg : GamOK Try.prog G109) : Holds Try.prog 109 ⟨ps109, rs109, false, runF TT G109 an109 Try.f109 c109 ps109 rs109⟩ := holds_of tt_ok hg mixed Try.func109 (by kernel_rfl) (by rfl) (by decide +kernel)
noncomputable def at109 : Nat → Pt → List Nat → St → Option R109 := atF TT G109 an109 Try.f109 c109 _ _
def sh109_L4 (x0 : Int) (x1 : ByteArray) : St := (Go.Proofs.Ythhopbicmaipgaa.Rx.St.mk ((Go.Proofs.Ythhopbicmaipgaa.Rx.AV.one (Go.Proofs.Ythhopbicmaipgaa.Rx.SV.int (Go.IntKind.i64) x0)) :: (Go.Proofs.Ythhopbicmaipgaa.Rx.AV.undef :: (Go.Proofs.Ythhopbicmaipgaa.Rx.AV.undef :: ((Go.Proofs.Ythhopbicmaipgaa.Rx.AV.one (Go.Proofs.Ythhopbicmaipgaa.Rx.SV.str x1)) :: (Go.Proofs.Ythhopbicmaipgaa.Rx.AV.undef :: (Go.Proofs.Ythhopbicmaipgaa.Rx.AV.undef :: (Go.Proofs.Ythhopbicmaipgaa.Rx.AV.undef :: (Go.Proofs.Ythhopbicmaipgaa.Rx.AV.undef :: (Go.Proofs.Ythhopbicmaipgaa.Rx.AV.undef :: (Go.Proofs.Ythhopbicmaipgaa.Rx.AV.undef :: (Go.Proofs.Ythhopbicmaipgaa.Rx.AV.undef :: (Go.Proofs.Ythhopbicmaipgaa.Rx.AV.undef :: (Go.Proofs.Ythhopbicmaipgaa.Rx.AV.undef :: (Go.Proofs.Ythhopbicmaipgaa.Rx.AV.undef :: (Go.Proofs.Ythhopbicmaipgaa.Rx.AV.undef :: (Go.Proofs.Ythhopbicmaipgaa.Rx.AV.undef :: (Go.Proofs.Ythhopbicmaipgaa.Rx.AV.undef :: (Go.Proofs.Ythhopbicmaipgaa.Rx.AV.undef :: (Go.Proofs.Ythhopbicmaipgaa.Rx.AV.undef :: (Go.Proofs.Ythhopbicmaipgaa.Rx.AV.undef :: [])))))))))))))))))))) [])
noncomputable def st109_top (n : Nat) (lL4 : Int → ByteArray → Option R109) (a : Int) : Option R109 :=
  cond (decide (a ≤ (0 : Int))) (some ((ByteArray.mk #[(109 : UInt8), (48 : UInt8)], ()), ())) (lL4 (a) (ByteArray.mk #[]))
noncomputable def st109_L4 (n : Nat) (lL4 : Int → ByteArray → Option R109) (x0 : Int) (x1 : ByteArray) : Option R109 :=
  cond (decide ((0 : Int) < x0)) (cond (decide   ((List.foldl (fun r n => r.push (UInt8.ofNat n.toNat)) ByteArray.empty           [Go.IntKind.u8.wrap (Go.IntKind.i64.wrap ((48 : Int) + x0.tmod (10 : Int)))]).size +       x1.size ≤     (9223372036854775807 : Nat))) (lL4 (Go.IntKind.i64.wrap (x0.tdiv (10 : Int))) (List.foldl (fun r n => r.push (UInt8.ofNat n.toNat)) ByteArray.empty     [Go.IntKind.u8.wrap (Go.IntKind.i64.wrap ((48 : Int) + x0.tmod (10 : Int)))] ++   x1)) (none)) (cond (decide ((ByteArray.mk #[(109 : UInt8)]).size + x1.size ≤ (9223372036854775807 : Nat))) (some ((ByteArray.mk #[(109 : UInt8)] ++ x1, ()), ())) (none))
theorem e109_top (n : Nat) (a : Int) : runF TT G109 an109 Try.f109 c109 ps109 rs109 n (a, ()) = st109_top n (fun x0 x1 => at109 n (.head 4) [n] (sh109_L4 x0 x1)) a := by kernel_rfl
theorem e109_L4_0 (n : Nat) (x0 : Int) (x1 : ByteArray) : at109 n (.head 4) [0] (sh109_L4 x0 x1) = none := by kernel_rfl
theorem e109_L4 (n : Nat) (m4 : Nat) (x0 : Int) (x1 : ByteArray) : at109 n (.head 4) [m4 + 1] (sh109_L4 x0 x1) = st109_L4 n (fun x0 x1 => at109 n (.head 4) [m4] (sh109_L4 x0 x1)) x0 x1 := by kernel_rfl
noncomputable def p109_L4 (n : Nat) : Nat → Int → ByteArray → Option R109
  | 0, _, _ => none
  | m + 1, x0, x1 => st109_L4 n (p109_L4 n m) x0 x1
noncomputable def p109 (n : Nat) (a : Int) : Option R109 := st109_top n (p109_L4 n n) a
theorem t109_L4 (n : Nat) : ∀ (m4 : Nat) (x0 : Int) (x1 : ByteArray), at109 n (.head 4) [m4] (sh109_L4 x0 x1) = p109_L4  n m4 x0 x1 := by
  intro m
  induction m with
  | zero => intros; rw [e109_L4_0]; rfl
  | succ m ih =>
    intros
    rw [e109_L4]
    try simp only [ih]
    rfl
theorem F109_eq (n : Nat) (a : Int) : runF TT G109 an109 Try.f109 c109 ps109 rs109 n (a, ()) = p109 n a := by
  rw [e109_top]
  simp only [t109_L4]
  try rfl
noncomputable def q109 (n : Nat) (x : argsD ps109) : Option R109 := p109 n x.1
noncomputable def Sm109 : Sm := ⟨ps109, rs109, false, q109⟩
theorem holds109 (hg : GamOK Try.prog G109) : Holds Try.prog 109 Sm109 := by
  have := h0_109 hg
  have e : (runF TT G109 an109 Try.f109 c109 ps109 rs109) = q109 := by
    funext n x
    exact F109_eq n x.1
  rw [e] at this
  exact this
theorem gam109 : GamOK Try.prog G109 := fun _ _ h => by cases h
theorem hh109 : Holds Try.prog 109 Sm109 := holds109 gam109
end Go.Proofs.Ythhopbicmaipgaa.Rx.S
namespace Go.Proofs.Ythhopbicmaipgaa.Rx.S
open Go Go.RowKit Go.Proofs
set_option maxRecDepth 100000
noncomputable def c110 : Code := (Try.f110.body.getD .skip)
def an110 : An := ⟨fun r => match r with | 2 => ⟨[0, 1, 5], []⟩ | _ => ⟨[], []⟩, fun _ _ => none⟩
abbrev ps110 : List PK := [.io (.row 95 tEn) false, .val i64 false]
abbrev rs110 : List RK := [.val i64 false]
abbrev R110 := retsD rs110 × outsD ps110
noncomputable def G110 : Gam := fun f => match f with | 109 => some Sm109 | _ => none
theorem h0_110 (hg : GamOK Try.prog G110) : Holds Try.prog 110 ⟨ps110, rs110, false, runF TT G110 an110 Try.f110 c110 ps110 rs110⟩ := holds_of tt_ok hg mixed Try.func110 (by kernel_rfl) (by rfl) (by decide +kernel)
noncomputable def at110 : Nat → Pt → List Nat → St → Option R110 := atF TT G110 an110 Try.f110 c110 _ _
def sh110_L2 (x0 : Int) (x1 : Int) (x2 : List (ByteArray × Int)) : St := (Go.Proofs.Ythhopbicmaipgaa.Rx.St.mk ((Go.Proofs.Ythhopbicmaipgaa.Rx.AV.par 0 false ((Go.Proofs.Ythhopbicmaipgaa.Rx.SV.ref 1000000 0 [] Option.none) :: [])) :: ((Go.Proofs.Ythhopbicmaipgaa.Rx.AV.one (Go.Proofs.Ythhopbicmaipgaa.Rx.SV.int (Go.IntKind.i64) x0)) :: (Go.Proofs.Ythhopbicmaipgaa.Rx.AV.undef :: (Go.Proofs.Ythhopbicmaipgaa.Rx.AV.undef :: (Go.Proofs.Ythhopbicmaipgaa.Rx.AV.undef :: ((Go.Proofs.Ythhopbicmaipgaa.Rx.AV.one (Go.Proofs.Ythhopbicmaipgaa.Rx.SV.int (Go.IntKind.i64) x1)) :: (Go.Proofs.Ythhopbicmaipgaa.Rx.AV.undef :: (Go.Proofs.Ythhopbicmaipgaa.Rx.AV.undef :: (Go.Proofs.Ythhopbicmaipgaa.Rx.AV.undef :: (Go.Proofs.Ythhopbicmaipgaa.Rx.AV.undef :: (Go.Proofs.Ythhopbicmaipgaa.Rx.AV.undef :: (Go.Proofs.Ythhopbicmaipgaa.Rx.AV.undef :: (Go.Proofs.Ythhopbicmaipgaa.Rx.AV.undef :: (Go.Proofs.Ythhopbicmaipgaa.Rx.AV.undef :: (Go.Proofs.Ythhopbicmaipgaa.Rx.AV.undef :: (Go.Proofs.Ythhopbicmaipgaa.Rx.AV.undef :: (Go.Proofs.Ythhopbicmaipgaa.Rx.AV.undef :: (Go.Proofs.Ythhopbicmaipgaa.Rx.AV.undef :: (Go.Proofs.Ythhopbicmaipgaa.Rx.AV.undef :: (Go.Proofs.Ythhopbicmaipgaa.Rx.AV.undef :: (Go.Proofs.Ythhopbicmaipgaa.Rx.AV.undef :: (Go.Proofs.Ythhopbicmaipgaa.Rx.AV.undef :: (Go.Proofs.Ythhopbicmaipgaa.Rx.AV.undef :: (Go.Proofs.Ythhopbicmaipgaa.Rx.AV.undef :: (Go.Proofs.Ythhopbicmaipgaa.Rx.AV.undef :: (Go.Proofs.Ythhopbicmaipgaa.Rx.AV.undef :: (Go.Proofs.Ythhopbicmaipgaa.Rx.AV.undef :: (Go.Proofs.Ythhopbicmaipgaa.Rx.AV.undef :: [])))))))))))))))))))))))))))) ((1000000, (Go.Proofs.Ythhopbicmaipgaa.Rx.Ent.row (⟨95, Go.Proofs.Ythhopbicmaipgaa.Rx.Ty.str.pair (Go.Proofs.Ythhopbicmaipgaa.Rx.Ty.int Go.IntKind.i64), x2⟩ : Rw) 0 Option.none)) :: []))
noncomputable def st110_top (n : Nat) (lL2 : Int → Int → (List (ByteArray × Int)) → Option R110) (a : List (ByteArray × Int)) (b : Int) : Option R110 :=
  lL2 (b) ((0 : Int)) (a)
noncomputable def st110_L2 (n : Nat) (lL2 : Int → Int → (List (ByteArray × Int)) → Option R110) (x0 : Int) (x1 : Int) (x2 : List (ByteArray × Int)) : Option R110 :=
  cond (decide (x1 < (↑x2.length : Int))) ((Go.Proofs.Ythhopbicmaipgaa.Rx.S.q109 n (x0, ())).bind fun r1 => cond (decide ((0 : Int) ≤ x1)) (cond (decide (x1 < (↑x2.length : Int))) (cond (decide ((0 : Int) ≤ x1)) (cond (decide (x1 < (↑(x2.set x1.toNat (r1.fst.fst, (x2.getD x1.toNat (ByteArray.empty, (0 : Int))).snd)).length : Int))) (lL2 (Go.IntKind.i64.wrap (Go.IntKind.i64.wrap (x0 + (1 : Int)) + (1 : Int))) (Go.IntKind.i64.wrap (x1 + (1 : Int))) ((x2.set x1.toNat (r1.fst.fst, (x2.getD x1.toNat (ByteArray.empty, (0 : Int))).snd)).set x1.toNat   (((x2.set x1.toNat (r1.fst.fst, (x2.getD x1.toNat (ByteArray.empty, (0 : Int))).snd)).getD x1.toNat         (ByteArray.empty, (0 : Int))).fst,     Go.IntKind.i64.wrap (x0 + (1 : Int))))) (none)) (none)) (none)) (none)) (some ((x0, ()), (x2, ())))
theorem e110_top (n : Nat) (a : List (ByteArray × Int)) (b : Int) : runF TT G110 an110 Try.f110 c110 ps110 rs110 n (a, b, ()) = st110_top n (fun x0 x1 x2 => at110 n (.head 2) [n] (sh110_L2 x0 x1 x2)) a b := by kernel_rfl
theorem e110_L2_0 (n : Nat) (x0 : Int) (x1 : Int) (x2 : List (ByteArray × Int)) : at110 n (.head 2) [0] (sh110_L2 x0 x1 x2) = none := by kernel_rfl
theorem e110_L2 (n : Nat) (m2 : Nat) (x0 : Int) (x1 : Int) (x2 : List (ByteArray × Int)) : at110 n (.head 2) [m2 + 1] (sh110_L2 x0 x1 x2) = st110_L2 n (fun x0 x1 x2 => at110 n (.head 2) [m2] (sh110_L2 x0 x1 x2)) x0 x1 x2 := by kernel_rfl
noncomputable def p110_L2 (n : Nat) : Nat → Int → Int → (List (ByteArray × Int)) → Option R110
  | 0, _, _, _ => none
  | m + 1, x0, x1, x2 => st110_L2 n (p110_L2 n m) x0 x1 x2
noncomputable def p110 (n : Nat) (a : List (ByteArray × Int)) (b : Int) : Option R110 := st110_top n (p110_L2 n n) a b
theorem t110_L2 (n : Nat) : ∀ (m2 : Nat) (x0 : Int) (x1 : Int) (x2 : List (ByteArray × Int)), at110 n (.head 2) [m2] (sh110_L2 x0 x1 x2) = p110_L2  n m2 x0 x1 x2 := by
  intro m
  induction m with
  | zero => intros; rw [e110_L2_0]; rfl
  | succ m ih =>
    intros
    rw [e110_L2]
    try simp only [ih]
    rfl
theorem F110_eq (n : Nat) (a : List (ByteArray × Int)) (b : Int) : runF TT G110 an110 Try.f110 c110 ps110 rs110 n (a, b, ()) = p110 n a b := by
  rw [e110_top]
  simp only [t110_L2]
  try rfl
noncomputable def q110 (n : Nat) (x : argsD ps110) : Option R110 := p110 n x.1 x.2.1
noncomputable def Sm110 : Sm := ⟨ps110, rs110, false, q110⟩
theorem holds110 (hg : GamOK Try.prog G110) : Holds Try.prog 110 Sm110 := by
  have := h0_110 hg
  have e : (runF TT G110 an110 Try.f110 c110 ps110 rs110) = q110 := by
    funext n x
    exact F110_eq n x.1 x.2.1
  rw [e] at this
  exact this
theorem gam110 : GamOK Try.prog G110 := by
  intro f s h
  unfold G110 at h
  split at h
  · injection h with h; subst h; exact ⟨⟨Try.f109, c109, Try.func109, by kernel_rfl, by decide +kernel⟩, hh109⟩
  · cases h
theorem hh110 : Holds Try.prog 110 Sm110 := holds110 gam110
end Go.Proofs.Ythhopbicmaipgaa.Rx.S
namespace Go.Proofs.Ythhopbicmaipgaa.Rx.S
open Go Go.RowKit Go.Proofs
set_option maxRecDepth 100000
noncomputable def c78 : Code := (Try.f78.body.getD .skip)
def an78 : An := ⟨fun r => match r with | 2 => ⟨[0, 1, 5], []⟩ | _ => ⟨[], []⟩, fun r i => match r, i with | 6, 0 => some ⟨[0, 1, 5], []⟩ | 8, 0 => some ⟨[0, 1, 5], []⟩ | 10, 0 => some ⟨[0, 1, 5], []⟩ | 12, 0 => some ⟨[0, 1, 5], []⟩ | 14, 0 => some ⟨[0, 1, 5], []⟩ | 16, 0 => some ⟨[0, 1, 5], []⟩ | 18, 0 => some ⟨[0, 1, 5], []⟩ | 20, 0 => some ⟨[0, 1, 5], []⟩ | _, _ => none⟩
abbrev ps78 : List PK := [.io tFs false, .val i64 false]
abbrev rs78 : List RK := [.val i64 false]
abbrev R78 := retsD rs78 × outsD ps78
noncomputable def G78 : Gam := fun f => match f with | 109 => some Sm109 | 110 => some Sm110 | _ => none
theorem ateq78 {β : Type} (t : Nat) (f : St → Option β) (S : St) : at_ t f S = f S := rfl
theorem h0_78 (hg : GamOK Try.prog G78) : Holds Try.prog 78 ⟨ps78, rs78, false, runF TT G78 an78 Try.f78 c78 ps78 rs78⟩ := holds_of tt_ok hg mixed Try.func78 (by kernel_rfl) (by rfl) (by decide +kernel)
noncomputable def at78 : Nat → Pt → List Nat → St → Option R78 := atF TT G78 an78 Try.f78 c78 _ _
def sh78_C20_0 (x0 : Int) (x1 : Int) (x2 : List (Int × Int × Int × Int × Int × Int × Bool × ByteArray × List (ByteArray × Int))) : St := (Go.Proofs.Ythhopbicmaipgaa.Rx.St.mk ((Go.Proofs.Ythhopbicmaipgaa.Rx.AV.par 0 false ((Go.Proofs.Ythhopbicmaipgaa.Rx.SV.ref 1000000 0 [] Option.none) :: [])) :: ((Go.Proofs.Ythhopbicmaipgaa.Rx.AV.one (Go.Proofs.Ythhopbicmaipgaa.Rx.SV.int (Go.IntKind.i64) x0)) :: (Go.Proofs.Ythhopbicmaipgaa.Rx.AV.undef :: (Go.Proofs.Ythhopbicmaipgaa.Rx.AV.undef :: (Go.Proofs.Ythhopbicmaipgaa.Rx.AV.undef :: ((Go.Proofs.Ythhopbicmaipgaa.Rx.AV.one (Go.Proofs.Ythhopbicmaipgaa.Rx.SV.int (Go.IntKind.i64) x1)) :: (Go.Proofs.Ythhopbicmaipgaa.Rx.AV.undef :: (Go.Proofs.Ythhopbicmaipgaa.Rx.AV.undef :: (Go.Proofs.Ythhopbicmaipgaa.Rx.AV.undef :: (Go.Proofs.Ythhopbicmaipgaa.Rx.AV.undef :: (Go.Proofs.Ythhopbicmaipgaa.Rx.AV.undef :: (Go.Proofs.Ythhopbicmaipgaa.Rx.AV.undef :: (Go.Proofs.Ythhopbicmaipgaa.Rx.AV.undef :: (Go.Proofs.Ythhopbicmaipgaa.Rx.AV.undef :: (Go.Proofs.Ythhopbicmaipgaa.Rx.AV.undef :: (Go.Proofs.Ythhopbicmaipgaa.Rx.AV.undef :: (Go.Proofs.Ythhopbicmaipgaa.Rx.AV.undef :: (Go.Proofs.Ythhopbicmaipgaa.Rx.AV.undef :: (Go.Proofs.Ythhopbicmaipgaa.Rx.AV.undef :: (Go.Proofs.Ythhopbicmaipgaa.Rx.AV.undef :: (Go.Proofs.Ythhopbicmaipgaa.Rx.AV.undef :: (Go.Proofs.Ythhopbicmaipgaa.Rx.AV.undef :: (Go.Proofs.Ythhopbicmaipgaa.Rx.AV.undef :: (Go.Proofs.Ythhopbicmaipgaa.Rx.AV.undef :: (Go.Proofs.Ythhopbicmaipgaa.Rx.AV.undef :: (Go.Proofs.Ythhopbicmaipgaa.Rx.AV.undef :: (Go.Proofs.Ythhopbicmaipgaa.Rx.AV.undef :: (Go.Proofs.Ythhopbicmaipgaa.Rx.AV.undef :: (Go.Proofs.Ythhopbicmaipgaa.Rx.AV.undef :: (Go.Proofs.Ythhopbicmaipgaa.Rx.AV.undef :: (Go.Proofs.Ythhopbicmaipgaa.Rx.AV.undef :: (Go.Proofs.Ythhopbicmaipgaa.Rx.AV.undef :: (Go.Proofs.Ythhopbicmaipgaa.Rx.AV.undef :: (Go.Proofs.Ythhopbicmaipgaa.Rx.AV.undef :: (Go.Proofs.Ythhopbicmaipgaa.Rx.AV.undef :: (Go.Proofs.Ythhopbicmaipgaa.Rx.AV.undef :: (Go.Proofs.Ythhopbicmaipgaa.Rx.AV.undef :: (Go.Proofs.Ythhopbicmaipgaa.Rx.AV.undef :: (Go.Proofs.Ythhopbicmaipgaa.Rx.AV.undef :: (Go.Proofs.Ythhopbicmaipgaa.Rx.AV.undef :: (Go.Proofs.Ythhopbicmaipgaa.Rx.AV.undef :: (Go.Proofs.Ythhopbicmaipgaa.Rx.AV.undef :: (Go.Proofs.Ythhopbicmaipgaa.Rx.AV.undef :: (Go.Proofs.Ythhopbicmaipgaa.Rx.AV.undef :: (Go.Proofs.Ythhopbicmaipgaa.Rx.AV.undef :: (Go.Proofs.Ythhopbicmaipgaa.Rx.AV.undef :: (Go.Proofs.Ythhopbicmaipgaa.Rx.AV.undef :: (Go.Proofs.Ythhopbicmaipgaa.Rx.AV.undef :: (Go.Proofs.Ythhopbicmaipgaa.Rx.AV.undef :: (Go.Proofs.Ythhopbicmaipgaa.Rx.AV.undef :: (Go.Proofs.Ythhopbicmaipgaa.Rx.AV.undef :: (Go.Proofs.Ythhopbicmaipgaa.Rx.AV.undef :: (Go.Proofs.Ythhopbicmaipgaa.Rx.AV.undef :: (Go.Proofs.Ythhopbicmaipgaa.Rx.AV.undef :: (Go.Proofs.Ythhopbicmaipgaa.Rx.AV.undef :: (Go.Proofs.Ythhopbicmaipgaa.Rx.AV.undef :: (Go.Proofs.Ythhopbicmaipgaa.Rx.AV.undef :: (Go.Proofs.Ythhopbicmaipgaa.Rx.AV.undef :: (Go.Proofs.Ythhopbicmaipgaa.Rx.AV.undef :: (Go.Proofs.Ythhopbicmaipgaa.Rx.AV.undef :: (Go.Proofs.Ythhopbicmaipgaa.Rx.AV.undef :: (Go.Proofs.Ythhopbicmaipgaa.Rx.AV.undef :: (Go.Proofs.Ythhopbicmaipgaa.Rx.AV.undef :: (Go.Proofs.Ythhopbicmaipgaa.Rx.AV.undef :: (Go.Proofs.Ythhopbicmaipgaa.Rx.AV.undef :: (Go.Proofs.Ythhopbicmaipgaa.Rx.AV.undef :: (Go.Proofs.Ythhopbicmaipgaa.Rx.AV.undef :: (Go.Proofs.Ythhopbicmaipgaa.Rx.AV.undef :: (Go.Proofs.Ythhopbicmaipgaa.Rx.AV.undef :: (Go.Proofs.Ythhopbicmaipgaa.Rx.AV.undef :: (Go.Proofs.Ythhopbicmaipgaa.Rx.AV.undef :: (Go.Proofs.Ythhopbicmaipgaa.Rx.AV.undef :: (Go.Proofs.Ythhopbicmaipgaa.Rx.AV.undef :: (Go.Proofs.Ythhopbicmaipgaa.Rx.AV.undef :: (Go.Proofs.Ythhopbicmaipgaa.Rx.AV.undef :: (Go.Proofs.Ythhopbicmaipgaa.Rx.AV.undef :: (Go.Proofs.Ythhopbicmaipgaa.Rx.AV.undef :: (Go.Proofs.Ythhopbicmaipgaa.Rx.AV.undef :: (Go.Proofs.Ythhopbicmaipgaa.Rx.AV.undef :: []))))))))))))))))))))))))))))))))))))))))))))))))))))))))))))))))))))))))))))))) ((1000000, (Go.Proofs.Ythhopbicmaipgaa.Rx.Ent.row (⟨39, (Go.Proofs.Ythhopbicmaipgaa.Rx.Ty.int Go.IntKind.i64).pair   ((Go.Proofs.Ythhopbicmaipgaa.Rx.Ty.int Go.IntKind.i64).pair     ((Go.Proofs.Ythhopbicmaipgaa.Rx.Ty.int Go.IntKind.i64).pair       ((Go.Proofs.Ythhopbicmaipgaa.Rx.Ty.int Go.IntKind.i64).pair         ((Go.Proofs.Ythhopbicmaipgaa.Rx.Ty.int Go.IntKind.i64).pair           ((Go.Proofs.Ythhopbicmaipgaa.Rx.Ty.int Go.IntKind.i64).pair             (Go.Proofs.Ythhopbicmaipgaa.Rx.Ty.bool.pair               (Go.Proofs.Ythhopbicmaipgaa.Rx.Ty.str.pair (Go.Proofs.Ythhopbicmaipgaa.Rx.Ty.row (nat_lit 95) (Go.Proofs.Ythhopbicmaipgaa.Rx.Ty.str.pair (Go.Proofs.Ythhopbicmaipgaa.Rx.Ty.int Go.IntKind.i64)))))))))), x2⟩ : Rw) 0 Option.none)) :: []))
def sh78_C18_0 (x0 : Int) (x1 : Int) (x2 : List (Int × Int × Int × Int × Int × Int × Bool × ByteArray × List (ByteArray × Int))) : St := (Go.Proofs.Ythhopbicmaipgaa.Rx.St.mk ((Go.Proofs.Ythhopbicmaipgaa.Rx.AV.par 0 false ((Go.Proofs.Ythhopbicmaipgaa.Rx.SV.ref 1000000 0 [] Option.none) :: [])) :: ((Go.Proofs.Ythhopbicmaipgaa.Rx.AV.one (Go.Proofs.Ythhopbicmaipgaa.Rx.SV.int (Go.IntKind.i64) x0)) :: (Go.Proofs.Ythhopbicmaipgaa.Rx.AV.undef :: (Go.Proofs.Ythhopbicmaipgaa.Rx.AV.undef :: (Go.Proofs.Ythhopbicmaipgaa.Rx.AV.undef :: ((Go.Proofs.Ythhopbicmaipgaa.Rx.AV.one (Go.Proofs.Ythhopbicmaipgaa.Rx.SV.int (Go.IntKind.i64) x1)) :: (Go.Proofs.Ythhopbicmaipgaa.Rx.AV.undef :: (Go.Proofs.Ythhopbicmaipgaa.Rx.AV.undef :: (Go.Proofs.Ythhopbicmaipgaa.Rx.AV.undef :: (Go.Proofs.Ythhopbicmaipgaa.Rx.AV.undef :: (Go.Proofs.Ythhopbicmaipgaa.Rx.AV.undef :: (Go.Proofs.Ythhopbicmaipgaa.Rx.AV.undef :: (Go.Proofs.Ythhopbicmaipgaa.Rx.AV.undef :: (Go.Proofs.Ythhopbicmaipgaa.Rx.AV.undef :: (Go.Proofs.Ythhopbicmaipgaa.Rx.AV.undef :: (Go.Proofs.Ythhopbicmaipgaa.Rx.AV.undef :: (Go.Proofs.Ythhopbicmaipgaa.Rx.AV.undef :: (Go.Proofs.Ythhopbicmaipgaa.Rx.AV.undef :: (Go.Proofs.Ythhopbicmaipgaa.Rx.AV.undef :: (Go.Proofs.Ythhopbicmaipgaa.Rx.AV.undef :: (Go.Proofs.Ythhopbicmaipgaa.Rx.AV.undef :: (Go.Proofs.Ythhopbicmaipgaa.Rx.AV.undef :: (Go.Proofs.Ythhopbicmaipgaa.Rx.AV.undef :: (Go.Proofs.Ythhopbicmaipgaa.Rx.AV.undef :: (Go.Proofs.Ythhopbicmaipgaa.Rx.AV.undef :: (Go.Proofs.Ythhopbicmaipgaa.Rx.AV.undef :: (Go.Proofs.Ythhopbicmaipgaa.Rx.AV.undef :: (Go.Proofs.Ythhopbicmaipgaa.Rx.AV.undef :: (Go.Proofs.Ythhopbicmaipgaa.Rx.AV.undef :: (Go.Proofs.Ythhopbicmaipgaa.Rx.AV.undef :: (Go.Proofs.Ythhopbicmaipgaa.Rx.AV.undef :: (Go.Proofs.Ythhopbicmaipgaa.Rx.AV.undef :: (Go.Proofs.Ythhopbicmaipgaa.Rx.AV.undef :: (Go.Proofs.Ythhopbicmaipgaa.Rx.AV.undef :: (Go.Proofs.Ythhopbicmaipgaa.Rx.AV.undef :: (Go.Proofs.Ythhopbicmaipgaa.Rx.AV.undef :: (Go.Proofs.Ythhopbicmaipgaa.Rx.AV.undef :: (Go.Proofs.Ythhopbicmaipgaa.Rx.AV.undef :: (Go.Proofs.Ythhopbicmaipgaa.Rx.AV.undef :: (Go.Proofs.Ythhopbicmaipgaa.Rx.AV.undef :: (Go.Proofs.Ythhopbicmaipgaa.Rx.AV.undef :: (Go.Proofs.Ythhopbicmaipgaa.Rx.AV.undef :: (Go.Proofs.Ythhopbicmaipgaa.Rx.AV.undef :: (Go.Proofs.Ythhopbicmaipgaa.Rx.AV.undef :: (Go.Proofs.Ythhopbicmaipgaa.Rx.AV.undef :: (Go.Proofs.Ythhopbicmaipgaa.Rx.AV.undef :: (Go.Proofs.Ythhopbicmaipgaa.Rx.AV.undef :: (Go.Proofs.Ythhopbicmaipgaa.Rx.AV.undef :: (Go.Proofs.Ythhopbicmaipgaa.Rx.AV.undef :: (Go.Proofs.Ythhopbicmaipgaa.Rx.AV.undef :: (Go.Proofs.Ythhopbicmaipgaa.Rx.AV.undef :: (Go.Proofs.Ythhopbicmaipgaa.Rx.AV.undef :: (Go.Proofs.Ythhopbicmaipgaa.Rx.AV.undef :: (Go.Proofs.Ythhopbicmaipgaa.Rx.AV.undef :: (Go.Proofs.Ythhopbicmaipgaa.Rx.AV.undef :: (Go.Proofs.Ythhopbicmaipgaa.Rx.AV.undef :: (Go.Proofs.Ythhopbicmaipgaa.Rx.AV.undef :: (Go.Proofs.Ythhopbicmaipgaa.Rx.AV.undef :: (Go.Proofs.Ythhopbicmaipgaa.Rx.AV.undef :: (Go.Proofs.Ythhopbicmaipgaa.Rx.AV.undef :: (Go.Proofs.Ythhopbicmaipgaa.Rx.AV.undef :: (Go.Proofs.Ythhopbicmaipgaa.Rx.AV.undef :: (Go.Proofs.Ythhopbicmaipgaa.Rx.AV.undef :: (Go.Proofs.Ythhopbicmaipgaa.Rx.AV.undef :: (Go.Proofs.Ythhopbicmaipgaa.Rx.AV.undef :: (Go.Proofs.Ythhopbicmaipgaa.Rx.AV.undef :: (Go.Proofs.Ythhopbicmaipgaa.Rx.AV.undef :: (Go.Proofs.Ythhopbicmaipgaa.Rx.AV.undef :: (Go.Proofs.Ythhopbicmaipgaa.Rx.AV.undef :: (Go.Proofs.Ythhopbicmaipgaa.Rx.AV.undef :: (Go.Proofs.Ythhopbicmaipgaa.Rx.AV.undef :: (Go.Proofs.Ythhopbicmaipgaa.Rx.AV.undef :: (Go.Proofs.Ythhopbicmaipgaa.Rx.AV.undef :: (Go.Proofs.Ythhopbicmaipgaa.Rx.AV.undef :: (Go.Proofs.Ythhopbicmaipgaa.Rx.AV.undef :: (Go.Proofs.Ythhopbicmaipgaa.Rx.AV.undef :: (Go.Proofs.Ythhopbicmaipgaa.Rx.AV.undef :: (Go.Proofs.Ythhopbicmaipgaa.Rx.AV.undef :: (Go.Proofs.Ythhopbicmaipgaa.Rx.AV.undef :: []))))))))))))))))))))))))))))))))))))))))))))))))))))))))))))))))))))))))))))))) ((1000000, (Go.Proofs.Ythhopbicmaipgaa.Rx.Ent.row (⟨39, (Go.Proofs.Ythhopbicmaipgaa.Rx.Ty.int Go.IntKind.i64).pair   ((Go.Proofs.Ythhopbicmaipgaa.Rx.Ty.int Go.IntKind.i64).pair     ((Go.Proofs.Ythhopbicmaipgaa.Rx.Ty.int Go.IntKind.i64).pair       ((Go.Proofs.Ythhopbicmaipgaa.Rx.Ty.int Go.IntKind.i64).pair         ((Go.Proofs.Ythhopbicmaipgaa.Rx.Ty.int Go.IntKind.i64).pair           ((Go.Proofs.Ythhopbicmaipgaa.Rx.Ty.int Go.IntKind.i64).pair             (Go.Proofs.Ythhopbicmaipgaa.Rx.Ty.bool.pair               (Go.Proofs.Ythhopbicmaipgaa.Rx.Ty.str.pair (Go.Proofs.Ythhopbicmaipgaa.Rx.Ty.row (nat_lit 95) (Go.Proofs.Ythhopbicmaipgaa.Rx.Ty.str.pair (Go.Proofs.Ythhopbicmaipgaa.Rx.Ty.int Go.IntKind.i64)))))))))), x2⟩ : Rw) 0 Option.none)) :: []))
def sh78_C16_0 (x0 : Int) (x1 : Int) (x2 : List (Int × Int × Int × Int × Int × Int × Bool × ByteArray × List (ByteArray × Int))) : St := (Go.Proofs.Ythhopbicmaipgaa.Rx.St.mk ((Go.Proofs.Ythhopbicmaipgaa.Rx.AV.par 0 false ((Go.Proofs.Ythhopbicmaipgaa.Rx.SV.ref 1000000 0 [] Option.none) :: [])) :: ((Go.Proofs.Ythhopbicmaipgaa.Rx.AV.one (Go.Proofs.Ythhopbicmaipgaa.Rx.SV.int (Go.IntKind.i64) x0)) :: (Go.Proofs.Ythhopbicmaipgaa.Rx.AV.undef :: (Go.Proofs.Ythhopbicmaipgaa.Rx.AV.undef :: (Go.Proofs.Ythhopbicmaipgaa.Rx.AV.undef :: ((Go.Proofs.Ythhopbicmaipgaa.Rx.AV.one (Go.Proofs.Ythhopbicmaipgaa.Rx.SV.int (Go.IntKind.i64) x1)) :: (Go.Proofs.Ythhopbicmaipgaa.Rx.AV.undef :: (Go.Proofs.Ythhopbicmaipgaa.Rx.AV.undef :: (Go.Proofs.Ythhopbicmaipgaa.Rx.AV.undef :: (Go.Proofs.Ythhopbicmaipgaa.Rx.AV.undef :: (Go.Proofs.Ythhopbicmaipgaa.Rx.AV.undef :: (Go.Proofs.Ythhopbicmaipgaa.Rx.AV.undef :: (Go.Proofs.Ythhopbicmaipgaa.Rx.AV.undef :: (Go.Proofs.Ythhopbicmaipgaa.Rx.AV.undef :: (Go.Proofs.Ythhopbicmaipgaa.Rx.AV.undef :: (Go.Proofs.Ythhopbicmaipgaa.Rx.AV.undef :: (Go.Proofs.Ythhopbicmaipgaa.Rx.AV.undef :: (Go.Proofs.Ythhopbicmaipgaa.Rx.AV.undef :: (Go.Proofs.Ythhopbicmaipgaa.Rx.AV.undef :: (Go.Proofs.Ythhopbicmaipgaa.Rx.AV.undef :: (Go.Proofs.Ythhopbicmaipgaa.Rx.AV.undef :: (Go.Proofs.Ythhopbicmaipgaa.Rx.AV.undef :: (Go.Proofs.Ythhopbicmaipgaa.Rx.AV.undef :: (Go.Proofs.Ythhopbicmaipgaa.Rx.AV.undef :: (Go.Proofs.Ythhopbicmaipgaa.Rx.AV.undef :: (Go.Proofs.Ythhopbicmaipgaa.Rx.AV.undef :: (Go.Proofs.Ythhopbicmaipgaa.Rx.AV.undef :: (Go.Proofs.Ythhopbicmaipgaa.Rx.AV.undef :: (Go.Proofs.Ythhopbicmaipgaa.Rx.AV.undef :: (Go.Proofs.Ythhopbicmaipgaa.Rx.AV.undef :: (Go.Proofs.Ythhopbicmaipgaa.Rx.AV.undef :: (Go.Proofs.Ythhopbicmaipgaa.Rx.AV.undef :: (Go.Proofs.Ythhopbicmaipgaa.Rx.AV.undef :: (Go.Proofs.Ythhopbicmaipgaa.Rx.AV.undef :: (Go.Proofs.Ythhopbicmaipgaa.Rx.AV.undef :: (Go.Proofs.Ythhopbicmaipgaa.Rx.AV.undef :: (Go.Proofs.Ythhopbicmaipgaa.Rx.AV.undef :: (Go.Proofs.Ythhopbicmaipgaa.Rx.AV.undef :: (Go.Proofs.Ythhopbicmaipgaa.Rx.AV.undef :: (Go.Proofs.Ythhopbicmaipgaa.Rx.AV.undef :: (Go.Proofs.Ythhopbicmaipgaa.Rx.AV.undef :: (Go.Proofs.Ythhopbicmaipgaa.Rx.AV.undef :: (Go.Proofs.Ythhopbicmaipgaa.Rx.AV.undef :: (Go.Proofs.Ythhopbicmaipgaa.Rx.AV.undef :: (Go.Proofs.Ythhopbicmaipgaa.Rx.AV.undef :: (Go.Proofs.Ythhopbicmaipgaa.Rx.AV.undef :: (Go.Proofs.Ythhopbicmaipgaa.Rx.AV.undef :: (Go.Proofs.Ythhopbicmaipgaa.Rx.AV.undef :: (Go.Proofs.Ythhopbicmaipgaa.Rx.AV.undef :: (Go.Proofs.Ythhopbicmaipgaa.Rx.AV.undef :: (Go.Proofs.Ythhopbicmaipgaa.Rx.AV.undef :: (Go.Proofs.Ythhopbicmaipgaa.Rx.AV.undef :: (Go.Proofs.Ythhopbicmaipgaa.Rx.AV.undef :: (Go.Proofs.Ythhopbicmaipgaa.Rx.AV.undef :: (Go.Proofs.Ythhopbicmaipgaa.Rx.AV.undef :: (Go.Proofs.Ythhopbicmaipgaa.Rx.AV.undef :: (Go.Proofs.Ythhopbicmaipgaa.Rx.AV.undef :: (Go.Proofs.Ythhopbicmaipgaa.Rx.AV.undef :: (Go.Proofs.Ythhopbicmaipgaa.Rx.AV.undef :: (Go.Proofs.Ythhopbicmaipgaa.Rx.AV.undef :: (Go.Proofs.Ythhopbicmaipgaa.Rx.AV.undef :: (Go.Proofs.Ythhopbicmaipgaa.Rx.AV.undef :: (Go.Proofs.Ythhopbicmaipgaa.Rx.AV.undef :: (Go.Proofs.Ythhopbicmaipgaa.Rx.AV.undef :: (Go.Proofs.Ythhopbicmaipgaa.Rx.AV.undef :: (Go.Proofs.Ythhopbicmaipgaa.Rx.AV.undef :: (Go.Proofs.Ythhopbicmaipgaa.Rx.AV.undef :: (Go.Proofs.Ythhopbicmaipgaa.Rx.AV.undef :: (Go.Proofs.Ythhopbicmaipgaa.Rx.AV.undef :: (Go.Proofs.Ythhopbicmaipgaa.Rx.AV.undef :: (Go.Proofs.Ythhopbicmaipgaa.Rx.AV.undef :: (Go.Proofs.Ythhopbicmaipgaa.Rx.AV.undef :: (Go.Proofs.Ythhopbicmaipgaa.Rx.AV.undef :: (Go.Proofs.Ythhopbicmaipgaa.Rx.AV.undef :: (Go.Proofs.Ythhopbicmaipgaa.Rx.AV.undef :: (Go.Proofs.Ythhopbicmaipgaa.Rx.AV.undef :: (Go.Proofs.Ythhopbicmaipgaa.Rx.AV.undef :: (Go.Proofs.Ythhopbicmaipgaa.Rx.AV.undef :: (Go.Proofs.Ythhopbicmaipgaa.Rx.AV.undef :: []))))))))))))))))))))))))))))))))))))))))))))))))))))))))))))))))))))))))))))))) ((1000000, (Go.Proofs.Ythhopbicmaipgaa.Rx.Ent.row (⟨39, (Go.Proofs.Ythhopbicmaipgaa.Rx.Ty.int Go.IntKind.i64).pair   ((Go.Proofs.Ythhopbicmaipgaa.Rx.Ty.int Go.IntKind.i64).pair     ((Go.Proofs.Ythhopbicmaipgaa.Rx.Ty.int Go.IntKind.i64).pair       ((Go.Proofs.Ythhopbicmaipgaa.Rx.Ty.int Go.IntKind.i64).pair         ((Go.Proofs.Ythhopbicmaipgaa.Rx.Ty.int Go.IntKind.i64).pair           ((Go.Proofs.Ythhopbicmaipgaa.Rx.Ty.int Go.IntKind.i64).pair             (Go.Proofs.Ythhopbicmaipgaa.Rx.Ty.bool.pair               (Go.Proofs.Ythhopbicmaipgaa.Rx.Ty.str.pair (Go.Proofs.Ythhopbicmaipgaa.Rx.Ty.row (nat_lit 95) (Go.Proofs.Ythhopbicmaipgaa.Rx.Ty.str.pair (Go.Proofs.Ythhopbicmaipgaa.Rx.Ty.int Go.IntKind.i64)))))))))), x2⟩ : Rw) 0 Option.none)) :: []))
def sh78_C14_0 (x0 : Int) (x1 : Int) (x2 : List (Int × Int × Int × Int × Int × Int × Bool × ByteArray × List (ByteArray × Int))) : St := (Go.Proofs.Ythhopbicmaipgaa.Rx.St.mk ((Go.Proofs.Ythhopbicmaipgaa.Rx.AV.par 0 false ((Go.Proofs.Ythhopbicmaipgaa.Rx.SV.ref 1000000 0 [] Option.none) :: [])) :: ((Go.Proofs.Ythhopbicmaipgaa.Rx.AV.one (Go.Proofs.Ythhopbicmaipgaa.Rx.SV.int (Go.IntKind.i64) x0)) :: (Go.Proofs.Ythhopbicmaipgaa.Rx.AV.undef :: (Go.Proofs.Ythhopbicmaipgaa.Rx.AV.undef :: (Go.Proofs.Ythhopbicmaipgaa.Rx.AV.undef :: ((Go.Proofs.Ythhopbicmaipgaa.Rx.AV.one (Go.Proofs.Ythhopbicmaipgaa.Rx.SV.int (Go.IntKind.i64) x1)) :: (Go.Proofs.Ythhopbicmaipgaa.Rx.AV.undef :: (Go.Proofs.Ythhopbicmaipgaa.Rx.AV.undef :: (Go.Proofs.Ythhopbicmaipgaa.Rx.AV.undef :: (Go.Proofs.Ythhopbicmaipgaa.Rx.AV.undef :: (Go.Proofs.Ythhopbicmaipgaa.Rx.AV.undef :: (Go.Proofs.Ythhopbicmaipgaa.Rx.AV.undef :: (Go.Proofs.Ythhopbicmaipgaa.Rx.AV.undef :: (Go.Proofs.Ythhopbicmaipgaa.Rx.AV.undef :: (Go.Proofs.Ythhopbicmaipgaa.Rx.AV.undef :: (Go.Proofs.Ythhopbicmaipgaa.Rx.AV.undef :: (Go.Proofs.Ythhopbicmaipgaa.Rx.AV.undef :: (Go.Proofs.Ythhopbicmaipgaa.Rx.AV.undef :: (Go.Proofs.Ythhopbicmaipgaa.Rx.AV.undef :: (Go.Proofs.Ythhopbicmaipgaa.Rx.AV.undef :: (Go.Proofs.Ythhopbicmaipgaa.Rx.AV.undef :: (Go.Proofs.Ythhopbicmaipgaa.Rx.AV.undef :: (Go.Proofs.Ythhopbicmaipgaa.Rx.AV.undef :: (Go.Proofs.Ythhopbicmaipgaa.Rx.AV.undef :: (Go.Proofs.Ythhopbicmaipgaa.Rx.AV.undef :: (Go.Proofs.Ythhopbicmaipgaa.Rx.AV.undef :: (Go.Proofs.Ythhopbicmaipgaa.Rx.AV.undef :: (Go.Proofs.Ythhopbicmaipgaa.Rx.AV.undef :: (Go.Proofs.Ythhopbicmaipgaa.Rx.AV.undef :: (Go.Proofs.Ythhopbicmaipgaa.Rx.AV.undef :: (Go.Proofs.Ythhopbicmaipgaa.Rx.AV.undef :: (Go.Proofs.Ythhopbicmaipgaa.Rx.AV.undef :: (Go.Proofs.Ythhopbicmaipgaa.Rx.AV.undef :: (Go.Proofs.Ythhopbicmaipgaa.Rx.AV.undef :: (Go.Proofs.Ythhopbicmaipgaa.Rx.AV.undef :: (Go.Proofs.Ythhopbicmaipgaa.Rx.AV.undef :: (Go.Proofs.Ythhopbicmaipgaa.Rx.AV.undef :: (Go.Proofs.Ythhopbicmaipgaa.Rx.AV.undef :: (Go.Proofs.Ythhopbicmaipgaa.Rx.AV.undef :: (Go.Proofs.Ythhopbicmaipgaa.Rx.AV.undef :: (Go.Proofs.Ythhopbicmaipgaa.Rx.AV.undef :: (Go.Proofs.Ythhopbicmaipgaa.Rx.AV.undef :: (Go.Proofs.Ythhopbicmaipgaa.Rx.AV.undef :: (Go.Proofs.Ythhopbicmaipgaa.Rx.AV.undef :: (Go.Proofs.Ythhopbicmaipgaa.Rx.AV.undef :: (Go.Proofs.Ythhopbicmaipgaa.Rx.AV.undef :: (Go.Proofs.Ythhopbicmaipgaa.Rx.AV.undef :: (Go.Proofs.Ythhopbicmaipgaa.Rx.AV.undef :: (Go.Proofs.Ythhopbicmaipgaa.Rx.AV.undef :: (Go.Proofs.Ythhopbicmaipgaa.Rx.AV.undef :: (Go.Proofs.Ythhopbicmaipgaa.Rx.AV.undef :: (Go.Proofs.Ythhopbicmaipgaa.Rx.AV.undef :: (Go.Proofs.Ythhopbicmaipgaa.Rx.AV.undef :: (Go.Proofs.Ythhopbicmaipgaa.Rx.AV.undef :: (Go.Proofs.Ythhopbicmaipgaa.Rx.AV.undef :: (Go.Proofs.Ythhopbicmaipgaa.Rx.AV.undef :: (Go.Proofs.Ythhopbicmaipgaa.Rx.AV.undef :: (Go.Proofs.Ythhopbicmaipgaa.Rx.AV.undef :: (Go.Proofs.Ythhopbicmaipgaa.Rx.AV.undef :: (Go.Proofs.Ythhopbicmaipgaa.Rx.AV.undef :: (Go.Proofs.Ythhopbicmaipgaa.Rx.AV.undef :: (Go.Proofs.Ythhopbicmaipgaa.Rx.AV.undef :: (Go.Proofs.Ythhopbicmaipgaa.Rx.AV.undef :: (Go.Proofs.Ythhopbicmaipgaa.Rx.AV.undef :: (Go.Proofs.Ythhopbicmaipgaa.Rx.AV.undef :: (Go.Proofs.Ythhopbicmaipgaa.Rx.AV.undef :: (Go.Proofs.Ythhopbicmaipgaa.Rx.AV.undef :: (Go.Proofs.Ythhopbicmaipgaa.Rx.AV.undef :: (Go.Proofs.Ythhopbicmaipgaa.Rx.AV.undef :: (Go.Proofs.Ythhopbicmaipgaa.Rx.AV.undef :: (Go.Proofs.Ythhopbicmaipgaa.Rx.AV.undef :: (Go.Proofs.Ythhopbicmaipgaa.Rx.AV.undef :: (Go.Proofs.Ythhopbicmaipgaa.Rx.AV.undef :: (Go.Proofs.Ythhopbicmaipgaa.Rx.AV.undef :: (Go.Proofs.Ythhopbicmaipgaa.Rx.AV.undef :: (Go.Proofs.Ythhopbicmaipgaa.Rx.AV.undef :: (Go.Proofs.Ythhopbicmaipgaa.Rx.AV.undef :: (Go.Proofs.Ythhopbicmaipgaa.Rx.AV.undef :: (Go.Proofs.Ythhopbicmaipgaa.Rx.AV.undef :: []))))))))))))))))))))))))))))))))))))))))))))))))))))))))))))))))))))))))))))))) ((1000000, (Go.Proofs.Ythhopbicmaipgaa.Rx.Ent.row (⟨39, (Go.Proofs.Ythhopbicmaipgaa.Rx.Ty.int Go.IntKind.i64).pair   ((Go.Proofs.Ythhopbicmaipgaa.Rx.Ty.int Go.IntKind.i64).pair     ((Go.Proofs.Ythhopbicmaipgaa.Rx.Ty.int Go.IntKind.i64).pair       ((Go.Proofs.Ythhopbicmaipgaa.Rx.Ty.int Go.IntKind.i64).pair         ((Go.Proofs.Ythhopbicmaipgaa.Rx.Ty.int Go.IntKind.i64).pair           ((Go.Proofs.Ythhopbicmaipgaa.Rx.Ty.int Go.IntKind.i64).pair             (Go.Proofs.Ythhopbicmaipgaa.Rx.Ty.bool.pair               (Go.Proofs.Ythhopbicmaipgaa.Rx.Ty.str.pair (Go.Proofs.Ythhopbicmaipgaa.Rx.Ty.row (nat_lit 95) (Go.Proofs.Ythhopbicmaipgaa.Rx.Ty.str.pair (Go.Proofs.Ythhopbicmaipgaa.Rx.Ty.int Go.IntKind.i64)))))))))), x2⟩ : Rw) 0 Option.none)) :: []))
def sh78_C12_0 (x0 : Int) (x1 : Int) (x2 : List (Int × Int × Int × Int × Int × Int × Bool × ByteArray × List (ByteArray × Int))) : St := (Go.Proofs.Ythhopbicmaipgaa.Rx.St.mk ((Go.Proofs.Ythhopbicmaipgaa.Rx.AV.par 0 false ((Go.Proofs.Ythhopbicmaipgaa.Rx.SV.ref 1000000 0 [] Option.none) :: [])) :: ((Go.Proofs.Ythhopbicmaipgaa.Rx.AV.one (Go.Proofs.Ythhopbicmaipgaa.Rx.SV.int (Go.IntKind.i64) x0)) :: (Go.Proofs.Ythhopbicmaipgaa.Rx.AV.undef :: (Go.Proofs.Ythhopbicmaipgaa.Rx.AV.undef :: (Go.Proofs.Ythhopbicmaipgaa.Rx.AV.undef :: ((Go.Proofs.Ythhopbicmaipgaa.Rx.AV.one (Go.Proofs.Ythhopbicmaipgaa.Rx.SV.int (Go.IntKind.i64) x1)) :: (Go.Proofs.Ythhopbicmaipgaa.Rx.AV.undef :: (Go.Proofs.Ythhopbicmaipgaa.Rx.AV.undef :: (Go.Proofs.Ythhopbicmaipgaa.Rx.AV.undef :: (Go.Proofs.Ythhopbicmaipgaa.Rx.AV.undef :: (Go.Proofs.Ythhopbicmaipgaa.Rx.AV.undef :: (Go.Proofs.Ythhopbicmaipgaa.Rx.AV.undef :: (Go.Proofs.Ythhopbicmaipgaa.Rx.AV.undef :: (Go.Proofs.Ythhopbicmaipgaa.Rx.AV.undef :: (Go.Proofs.Ythhopbicmaipgaa.Rx.AV.undef :: (Go.Proofs.Ythhopbicmaipgaa.Rx.AV.undef :: (Go.Proofs.Ythhopbicmaipgaa.Rx.AV.undef :: (Go.Proofs.Ythhopbicmaipgaa.Rx.AV.undef :: (Go.Proofs.Ythhopbicmaipgaa.Rx.AV.undef :: (Go.Proofs.Ythhopbicmaipgaa.Rx.AV.undef :: (Go.Proofs.Ythhopbicmaipgaa.Rx.AV.undef :: (Go.Proofs.Ythhopbicmaipgaa.Rx.AV.undef :: (Go.Proofs.Ythhopbicmaipgaa.Rx.AV.undef :: (Go.Proofs.Ythhopbicmaipgaa.Rx.AV.undef :: (Go.Proofs.Ythhopbicmaipgaa.Rx.AV.undef :: (Go.Proofs.Ythhopbicmaipgaa.Rx.AV.undef :: (Go.Proofs.Ythhopbicmaipgaa.Rx.AV.undef :: (Go.Proofs.Ythhopbicmaipgaa.Rx.AV.undef :: (Go.Proofs.Ythhopbicmaipgaa.Rx.AV.undef :: (Go.Proofs.Ythhopbicmaipgaa.Rx.AV.undef :: (Go.Proofs.Ythhopbicmaipgaa.Rx.AV.undef :: (Go.Proofs.Ythhopbicmaipgaa.Rx.AV.undef :: (Go.Proofs.Ythhopbicmaipgaa.Rx.AV.undef :: (Go.Proofs.Ythhopbicmaipgaa.Rx.AV.undef :: (Go.Proofs.Ythhopbicmaipgaa.Rx.AV.undef :: (Go.Proofs.Ythhopbicmaipgaa.Rx.AV.undef :: (Go.Proofs.Ythhopbicmaipgaa.Rx.AV.undef :: (Go.Proofs.Ythhopbicmaipgaa.Rx.AV.undef :: (Go.Proofs.Ythhopbicmaipgaa.Rx.AV.undef :: (Go.Proofs.Ythhopbicmaipgaa.Rx.AV.undef :: (Go.Proofs.Ythhopbicmaipgaa.Rx.AV.undef :: (Go.Proofs.Ythhopbicmaipgaa.Rx.AV.undef :: (Go.Proofs.Ythhopbicmaipgaa.Rx.AV.undef :: (Go.Proofs.Ythhopbicmaipgaa.Rx.AV.undef :: (Go.Proofs.Ythhopbicmaipgaa.Rx.AV.undef :: (Go.Proofs.Ythhopbicmaipgaa.Rx.AV.undef :: (Go.Proofs.Ythhopbicmaipgaa.Rx.AV.undef :: (Go.Proofs.Ythhopbicmaipgaa.Rx.AV.undef :: (Go.Proofs.Ythhopbicmaipgaa.Rx.AV.undef :: (Go.Proofs.Ythhopbicmaipgaa.Rx.AV.undef :: (Go.Proofs.Ythhopbicmaipgaa.Rx.AV.undef :: (Go.Proofs.Ythhopbicmaipgaa.Rx.AV.undef :: (Go.Proofs.Ythhopbicmaipgaa.Rx.AV.undef :: (Go.Proofs.Ythhopbicmaipgaa.Rx.AV.undef :: (Go.Proofs.Ythhopbicmaipgaa.Rx.AV.undef :: (Go.Proofs.Ythhopbicmaipgaa.Rx.AV.undef :: (Go.Proofs.Ythhopbicmaipgaa.Rx.AV.undef :: (Go.Proofs.Ythhopbicmaipgaa.Rx.AV.undef :: (Go.Proofs.Ythhopbicmaipgaa.Rx.AV.undef :: (Go.Proofs.Ythhopbicmaipgaa.Rx.AV.undef :: (Go.Proofs.Ythhopbicmaipgaa.Rx.AV.undef :: (Go.Proofs.Ythhopbicmaipgaa.Rx.AV.undef :: (Go.Proofs.Ythhopbicmaipgaa.Rx.AV.undef :: (Go.Proofs.Ythhopbicmaipgaa.Rx.AV.undef :: (Go.Proofs.Ythhopbicmaipgaa.Rx.AV.undef :: (Go.Proofs.Ythhopbicmaipgaa.Rx.AV.undef :: (Go.Proofs.Ythhopbicmaipgaa.Rx.AV.undef :: (Go.Proofs.Ythhopbicmaipgaa.Rx.AV.undef :: (Go.Proofs.Ythhopbicmaipgaa.Rx.AV.undef :: (Go.Proofs.Ythhopbicmaipgaa.Rx.AV.undef :: (Go.Proofs.Ythhopbicmaipgaa.Rx.AV.undef :: (Go.Proofs.Ythhopbicmaipgaa.Rx.AV.undef :: (Go.Proofs.Ythhopbicmaipgaa.Rx.AV.undef :: (Go.Proofs.Ythhopbicmaipgaa.Rx.AV.undef :: (Go.Proofs.Ythhopbicmaipgaa.Rx.AV.undef :: (Go.Proofs.Ythhopbicmaipgaa.Rx.AV.undef :: (Go.Proofs.Ythhopbicmaipgaa.Rx.AV.undef :: (Go.Proofs.Ythhopbicmaipgaa.Rx.AV.undef :: (Go.Proofs.Ythhopbicmaipgaa.Rx.AV.undef :: []))))))))))))))))))))))))))))))))))))))))))))))))))))))))))))))))))))))))))))))) ((1000000, (Go.Proofs.Ythhopbicmaipgaa.Rx.Ent.row (⟨39, (Go.Proofs.Ythhopbicmaipgaa.Rx.Ty.int Go.IntKind.i64).pair   ((Go.Proofs.Ythhopbicmaipgaa.Rx.Ty.int Go.IntKind.i64).pair     ((Go.Proofs.Ythhopbicmaipgaa.Rx.Ty.int Go.IntKind.i64).pair       ((Go.Proofs.Ythhopbicmaipgaa.Rx.Ty.int Go.IntKind.i64).pair         ((Go.Proofs.Ythhopbicmaipgaa.Rx.Ty.int Go.IntKind.i64).pair           ((Go.Proofs.Ythhopbicmaipgaa.Rx.Ty.int Go.IntKind.i64).pair             (Go.Proofs.Ythhopbicmaipgaa.Rx.Ty.bool.pair               (Go.Proofs.Ythhopbicmaipgaa.Rx.Ty.str.pair (Go.Proofs.Ythhopbicmaipgaa.Rx.Ty.row (nat_lit 95) (Go.Proofs.Ythhopbicmaipgaa.Rx.Ty.str.pair (Go.Proofs.Ythhopbicmaipgaa.Rx.Ty.int Go.IntKind.i64)))))))))), x2⟩ : Rw) 0 Option.none)) :: []))
def sh78_C10_0 (x0 : Int) (x1 : Int) (x2 : List (Int × Int × Int × Int × Int × Int × Bool × ByteArray × List (ByteArray × Int))) : St := (Go.Proofs.Ythhopbicmaipgaa.Rx.St.mk ((Go.Proofs.Ythhopbicmaipgaa.Rx.AV.par 0 false ((Go.Proofs.Ythhopbicmaipgaa.Rx.SV.ref 1000000 0 [] Option.none) :: [])) :: ((Go.Proofs.Ythhopbicmaipgaa.Rx.AV.one (Go.Proofs.Ythhopbicmaipgaa.Rx.SV.int (Go.IntKind.i64) x0)) :: (Go.Proofs.Ythhopbicmaipgaa.Rx.AV.undef :: (Go.Proofs.Ythhopbicmaipgaa.Rx.AV.undef :: (Go.Proofs.Ythhopbicmaipgaa.Rx.AV.undef :: ((Go.Proofs.Ythhopbicmaipgaa.Rx.AV.one (Go.Proofs.Ythhopbicmaipgaa.Rx.SV.int (Go.IntKind.i64) x1)) :: (Go.Proofs.Ythhopbicmaipgaa.Rx.AV.undef :: (Go.Proofs.Ythhopbicmaipgaa.Rx.AV.undef :: (Go.Proofs.Ythhopbicmaipgaa.Rx.AV.undef :: (Go.Proofs.Ythhopbicmaipgaa.Rx.AV.undef :: (Go.Proofs.Ythhopbicmaipgaa.Rx.AV.undef :: (Go.Proofs.Ythhopbicmaipgaa.Rx.AV.undef :: (Go.Proofs.Ythhopbicmaipgaa.Rx.AV.undef :: (Go.Proofs.Ythhopbicmaipgaa.Rx.AV.undef :: (Go.Proofs.Ythhopbicmaipgaa.Rx.AV.undef :: (Go.Proofs.Ythhopbicmaipgaa.Rx.AV.undef :: (Go.Proofs.Ythhopbicmaipgaa.Rx.AV.undef :: (Go.Proofs.Ythhopbicmaipgaa.Rx.AV.undef :: (Go.Proofs.Ythhopbicmaipgaa.Rx.AV.undef :: (Go.Proofs.Ythhopbicmaipgaa.Rx.AV.undef :: (Go.Proofs.Ythhopbicmaipgaa.Rx.AV.undef :: (Go.Proofs.Ythhopbicmaipgaa.Rx.AV.undef :: (Go.Proofs.Ythhopbicmaipgaa.Rx.AV.undef :: (Go.Proofs.Ythhopbicmaipgaa.Rx.AV.undef :: (Go.Proofs.Ythhopbicmaipgaa.Rx.AV.undef :: (Go.Proofs.Ythhopbicmaipgaa.Rx.AV.undef :: (Go.Proofs.Ythhopbicmaipgaa.Rx.AV.undef :: (Go.Proofs.Ythhopbicmaipgaa.Rx.AV.undef :: (Go.Proofs.Ythhopbicmaipgaa.Rx.AV.undef :: (Go.Proofs.Ythhopbicmaipgaa.Rx.AV.undef :: (Go.Proofs.Ythhopbicmaipgaa.Rx.AV.undef :: (Go.Proofs.Ythhopbicmaipgaa.Rx.AV.undef :: (Go.Proofs.Ythhopbicmaipgaa.Rx.AV.undef :: (Go.Proofs.Ythhopbicmaipgaa.Rx.AV.undef :: (Go.Proofs.Ythhopbicmaipgaa.Rx.AV.undef :: (Go.Proofs.Ythhopbicmaipgaa.Rx.AV.undef :: (Go.Proofs.Ythhopbicmaipgaa.Rx.AV.undef :: (Go.Proofs.Ythhopbicmaipgaa.Rx.AV.undef :: (Go.Proofs.Ythhopbicmaipgaa.Rx.AV.undef :: (Go.Proofs.Ythhopbicmaipgaa.Rx.AV.undef :: (Go.Proofs.Ythhopbicmaipgaa.Rx.AV.undef :: (Go.Proofs.Ythhopbicmaipgaa.Rx.AV.undef :: (Go.Proofs.Ythhopbicmaipgaa.Rx.AV.undef :: (Go.Proofs.Ythhopbicmaipgaa.Rx.AV.undef :: (Go.Proofs.Ythhopbicmaipgaa.Rx.AV.undef :: (Go.Proofs.Ythhopbicmaipgaa.Rx.AV.undef :: (Go.Proofs.Ythhopbicmaipgaa.Rx.AV.undef :: (Go.Proofs.Ythhopbicmaipgaa.Rx.AV.undef :: (Go.Proofs.Ythhopbicmaipgaa.Rx.AV.undef :: (Go.Proofs.Ythhopbicmaipgaa.Rx.AV.undef :: (Go.Proofs.Ythhopbicmaipgaa.Rx.AV.undef :: (Go.Proofs.Ythhopbicmaipgaa.Rx.AV.undef :: (Go.Proofs.Ythhopbicmaipgaa.Rx.AV.undef :: (Go.Proofs.Ythhopbicmaipgaa.Rx.AV.undef :: (Go.Proofs.Ythhopbicmaipgaa.Rx.AV.undef :: (Go.Proofs.Ythhopbicmaipgaa.Rx.AV.undef :: (Go.Proofs.Ythhopbicmaipgaa.Rx.AV.undef :: (Go.Proofs.Ythhopbicmaipgaa.Rx.AV.undef :: (Go.Proofs.Ythhopbicmaipgaa.Rx.AV.undef :: (Go.Proofs.Ythhopbicmaipgaa.Rx.AV.undef :: (Go.Proofs.Ythhopbicmaipgaa.Rx.AV.undef :: (Go.Proofs.Ythhopbicmaipgaa.Rx.AV.undef :: (Go.Proofs.Ythhopbicmaipgaa.Rx.AV.undef :: (Go.Proofs.Ythhopbicmaipgaa.Rx.AV.undef :: (Go.Proofs.Ythhopbicmaipgaa.Rx.AV.undef :: (Go.Proofs.Ythhopbicmaipgaa.Rx.AV.undef :: (Go.Proofs.Ythhopbicmaipgaa.Rx.AV.undef :: (Go.Proofs.Ythhopbicmaipgaa.Rx.AV.undef :: (Go.Proofs.Ythhopbicmaipgaa.Rx.AV.undef :: (Go.Proofs.Ythhopbicmaipgaa.Rx.AV.undef :: (Go.Proofs.Ythhopbicmaipgaa.Rx.AV.undef :: (Go.Proofs.Ythhopbicmaipgaa.Rx.AV.undef :: (Go.Proofs.Ythhopbicmaipgaa.Rx.AV.undef :: (Go.Proofs.Ythhopbicmaipgaa.Rx.AV.undef :: (Go.Proofs.Ythhopbicmaipgaa.Rx.AV.undef :: (Go.Proofs.Ythhopbicmaipgaa.Rx.AV.undef :: (Go.Proofs.Ythhopbicmaipgaa.Rx.AV.undef :: (Go.Proofs.Ythhopbicmaipgaa.Rx.AV.undef :: (Go.Proofs.Ythhopbicmaipgaa.Rx.AV.undef :: []))))))))))))))))))))))))))))))))))))))))))))))))))))))))))))))))))))))))))))))) ((1000000, (Go.Proofs.Ythhopbicmaipgaa.Rx.Ent.row (⟨39, (Go.Proofs.Ythhopbicmaipgaa.Rx.Ty.int Go.IntKind.i64).pair   ((Go.Proofs.Ythhopbicmaipgaa.Rx.Ty.int Go.IntKind.i64).pair     ((Go.Proofs.Ythhopbicmaipgaa.Rx.Ty.int Go.IntKind.i64).pair       ((Go.Proofs.Ythhopbicmaipgaa.Rx.Ty.int Go.IntKind.i64).pair         ((Go.Proofs.Ythhopbicmaipgaa.Rx.Ty.int Go.IntKind.i64).pair           ((Go.Proofs.Ythhopbicmaipgaa.Rx.Ty.int Go.IntKind.i64).pair             (Go.Proofs.Ythhopbicmaipgaa.Rx.Ty.bool.pair               (Go.Proofs.Ythhopbicmaipgaa.Rx.Ty.str.pair (Go.Proofs.Ythhopbicmaipgaa.Rx.Ty.row (nat_lit 95) (Go.Proofs.Ythhopbicmaipgaa.Rx.Ty.str.pair (Go.Proofs.Ythhopbicmaipgaa.Rx.Ty.int Go.IntKind.i64)))))))))), x2⟩ : Rw) 0 Option.none)) :: []))
def sh78_C8_0 (x0 : Int) (x1 : Int) (x2 : List (Int × Int × Int × Int × Int × Int × Bool × ByteArray × List (ByteArray × Int))) : St := (Go.Proofs.Ythhopbicmaipgaa.Rx.St.mk ((Go.Proofs.Ythhopbicmaipgaa.Rx.AV.par 0 false ((Go.Proofs.Ythhopbicmaipgaa.Rx.SV.ref 1000000 0 [] Option.none) :: [])) :: ((Go.Proofs.Ythhopbicmaipgaa.Rx.AV.one (Go.Proofs.Ythhopbicmaipgaa.Rx.SV.int (Go.IntKind.i64) x0)) :: (Go.Proofs.Ythhopbicmaipgaa.Rx.AV.undef :: (Go.Proofs.Ythhopbicmaipgaa.Rx.AV.undef :: (Go.Proofs.Ythhopbicmaipgaa.Rx.AV.undef :: ((Go.Proofs.Ythhopbicmaipgaa.Rx.AV.one (Go.Proofs.Ythhopbicmaipgaa.Rx.SV.int (Go.IntKind.i64) x1)) :: (Go.Proofs.Ythhopbicmaipgaa.Rx.AV.undef :: (Go.Proofs.Ythhopbicmaipgaa.Rx.AV.undef :: (Go.Proofs.Ythhopbicmaipgaa.Rx.AV.undef :: (Go.Proofs.Ythhopbicmaipgaa.Rx.AV.undef :: (Go.Proofs.Ythhopbicmaipgaa.Rx.AV.undef :: (Go.Proofs.Ythhopbicmaipgaa.Rx.AV.undef :: (Go.Proofs.Ythhopbicmaipgaa.Rx.AV.undef :: (Go.Proofs.Ythhopbicmaipgaa.Rx.AV.undef :: (Go.Proofs.Ythhopbicmaipgaa.Rx.AV.undef :: (Go.Proofs.Ythhopbicmaipgaa.Rx.AV.undef :: (Go.Proofs.Ythhopbicmaipgaa.Rx.AV.undef :: (Go.Proofs.Ythhopbicmaipgaa.Rx.AV.undef :: (Go.Proofs.Ythhopbicmaipgaa.Rx.AV.undef :: (Go.Proofs.Ythhopbicmaipgaa.Rx.AV.undef :: (Go.Proofs.Ythhopbicmaipgaa.Rx.AV.undef :: (Go.Proofs.Ythhopbicmaipgaa.Rx.AV.undef :: (Go.Proofs.Ythhopbicmaipgaa.Rx.AV.undef :: (Go.Proofs.Ythhopbicmaipgaa.Rx.AV.undef :: (Go.Proofs.Ythhopbicmaipgaa.Rx.AV.undef :: (Go.Proofs.Ythhopbicmaipgaa.Rx.AV.undef :: (Go.Proofs.Ythhopbicmaipgaa.Rx.AV.undef :: (Go.Proofs.Ythhopbicmaipgaa.Rx.AV.undef :: (Go.Proofs.Ythhopbicmaipgaa.Rx.AV.undef :: (Go.Proofs.Ythhopbicmaipgaa.Rx.AV.undef :: (Go.Proofs.Ythhopbicmaipgaa.Rx.AV.undef :: (Go.Proofs.Ythhopbicmaipgaa.Rx.AV.undef :: (Go.Proofs.Ythhopbicmaipgaa.Rx.AV.undef :: (Go.Proofs.Ythhopbicmaipgaa.Rx.AV.undef :: (Go.Proofs.Ythhopbicmaipgaa.Rx.AV.undef :: (Go.Proofs.Ythhopbicmaipgaa.Rx.AV.undef :: (Go.Proofs.Ythhopbicmaipgaa.Rx.AV.undef :: (Go.Proofs.Ythhopbicmaipgaa.Rx.AV.undef :: (Go.Proofs.Ythhopbicmaipgaa.Rx.AV.undef :: (Go.Proofs.Ythhopbicmaipgaa.Rx.AV.undef :: (Go.Proofs.Ythhopbicmaipgaa.Rx.AV.undef :: (Go.Proofs.Ythhopbicmaipgaa.Rx.AV.undef :: (Go.Proofs.Ythhopbicmaipgaa.Rx.AV.undef :: (Go.Proofs.Ythhopbicmaipgaa.Rx.AV.undef :: (Go.Proofs.Ythhopbicmaipgaa.Rx.AV.undef :: (Go.Proofs.Ythhopbicmaipgaa.Rx.AV.undef :: (Go.Proofs.Ythhopbicmaipgaa.Rx.AV.undef :: (Go.Proofs.Ythhopbicmaipgaa.Rx.AV.undef :: (Go.Proofs.Ythhopbicmaipgaa.Rx.AV.undef :: (Go.Proofs.Ythhopbicmaipgaa.Rx.AV.undef :: (Go.Proofs.Ythhopbicmaipgaa.Rx.AV.undef :: (Go.Proofs.Ythhopbicmaipgaa.Rx.AV.undef :: (Go.Proofs.Ythhopbicmaipgaa.Rx.AV.undef :: (Go.Proofs.Ythhopbicmaipgaa.Rx.AV.undef :: (Go.Proofs.Ythhopbicmaipgaa.Rx.AV.undef :: (Go.Proofs.Ythhopbicmaipgaa.Rx.AV.undef :: (Go.Proofs.Ythhopbicmaipgaa.Rx.AV.undef :: (Go.Proofs.Ythhopbicmaipgaa.Rx.AV.undef :: (Go.Proofs.Ythhopbicmaipgaa.Rx.AV.undef :: (Go.Proofs.Ythhopbicmaipgaa.Rx.AV.undef :: (Go.Proofs.Ythhopbicmaipgaa.Rx.AV.undef :: (Go.Proofs.Ythhopbicmaipgaa.Rx.AV.undef :: (Go.Proofs.Ythhopbicmaipgaa.Rx.AV.undef :: (Go.Proofs.Ythhopbicmaipgaa.Rx.AV.undef :: (Go.Proofs.Ythhopbicmaipgaa.Rx.AV.undef :: (Go.Proofs.Ythhopbicmaipgaa.Rx.AV.undef :: (Go.Proofs.Ythhopbicmaipgaa.Rx.AV.undef :: (Go.Proofs.Ythhopbicmaipgaa.Rx.AV.undef :: (Go.Proofs.Ythhopbicmaipgaa.Rx.AV.undef :: (Go.Proofs.Ythhopbicmaipgaa.Rx.AV.undef :: (Go.Proofs.Ythhopbicmaipgaa.Rx.AV.undef :: (Go.Proofs.Ythhopbicmaipgaa.Rx.AV.undef :: (Go.Proofs.Ythhopbicmaipgaa.Rx.AV.undef :: (Go.Proofs.Ythhopbicmaipgaa.Rx.AV.undef :: (Go.Proofs.Ythhopbicmaipgaa.Rx.AV.undef :: (Go.Proofs.Ythhopbicmaipgaa.Rx.AV.undef :: (Go.Proofs.Ythhopbicmaipgaa.Rx.AV.undef :: (Go.Proofs.Ythhopbicmaipgaa.Rx.AV.undef :: (Go.Proofs.Ythhopbicmaipgaa.Rx.AV.undef :: []))))))))))))))))))))))))))))))))))))))))))))))))))))))))))))))))))))))))))))))) ((1000000, (Go.Proofs.Ythhopbicmaipgaa.Rx.Ent.row (⟨39, (Go.Proofs.Ythhopbicmaipgaa.Rx.Ty.int Go.IntKind.i64).pair   ((Go.Proofs.Ythhopbicmaipgaa.Rx.Ty.int Go.IntKind.i64).pair     ((Go.Proofs.Ythhopbicmaipgaa.Rx.Ty.int Go.IntKind.i64).pair       ((Go.Proofs.Ythhopbicmaipgaa.Rx.Ty.int Go.IntKind.i64).pair         ((Go.Proofs.Ythhopbicmaipgaa.Rx.Ty.int Go.IntKind.i64).pair           ((Go.Proofs.Ythhopbicmaipgaa.Rx.Ty.int Go.IntKind.i64).pair             (Go.Proofs.Ythhopbicmaipgaa.Rx.Ty.bool.pair               (Go.Proofs.Ythhopbicmaipgaa.Rx.Ty.str.pair (Go.Proofs.Ythhopbicmaipgaa.Rx.Ty.row (nat_lit 95) (Go.Proofs.Ythhopbicmaipgaa.Rx.Ty.str.pair (Go.Proofs.Ythhopbicmaipgaa.Rx.Ty.int Go.IntKind.i64)))))))))), x2⟩ : Rw) 0 Option.none)) :: []))
def sh78_C6_0 (x0 : Int) (x1 : Int) (x2 : List (Int × Int × Int × Int × Int × Int × Bool × ByteArray × List (ByteArray × Int))) : St := (Go.Proofs.Ythhopbicmaipgaa.Rx.St.mk ((Go.Proofs.Ythhopbicmaipgaa.Rx.AV.par 0 false ((Go.Proofs.Ythhopbicmaipgaa.Rx.SV.ref 1000000 0 [] Option.none) :: [])) :: ((Go.Proofs.Ythhopbicmaipgaa.Rx.AV.one (Go.Proofs.Ythhopbicmaipgaa.Rx.SV.int (Go.IntKind.i64) x0)) :: (Go.Proofs.Ythhopbicmaipgaa.Rx.AV.undef :: (Go.Proofs.Ythhopbicmaipgaa.Rx.AV.undef :: (Go.Proofs.Ythhopbicmaipgaa.Rx.AV.undef :: ((Go.Proofs.Ythhopbicmaipgaa.Rx.AV.one (Go.Proofs.Ythhopbicmaipgaa.Rx.SV.int (Go.IntKind.i64) x1)) :: (Go.Proofs.Ythhopbicmaipgaa.Rx.AV.undef :: (Go.Proofs.Ythhopbicmaipgaa.Rx.AV.undef :: (Go.Proofs.Ythhopbicmaipgaa.Rx.AV.undef :: (Go.Proofs.Ythhopbicmaipgaa.Rx.AV.undef :: (Go.Proofs.Ythhopbicmaipgaa.Rx.AV.undef :: (Go.Proofs.Ythhopbicmaipgaa.Rx.AV.undef :: (Go.Proofs.Ythhopbicmaipgaa.Rx.AV.undef :: (Go.Proofs.Ythhopbicmaipgaa.Rx.AV.undef :: (Go.Proofs.Ythhopbicmaipgaa.Rx.AV.undef :: (Go.Proofs.Ythhopbicmaipgaa.Rx.AV.undef :: (Go.Proofs.Ythhopbicmaipgaa.Rx.AV.undef :: (Go.Proofs.Ythhopbicmaipgaa.Rx.AV.undef :: (Go.Proofs.Ythhopbicmaipgaa.Rx.AV.undef :: (Go.Proofs.Ythhopbicmaipgaa.Rx.AV.undef :: (Go.Proofs.Ythhopbicmaipgaa.Rx.AV.undef :: (Go.Proofs.Ythhopbicmaipgaa.Rx.AV.undef :: (Go.Proofs.Ythhopbicmaipgaa.Rx.AV.undef :: (Go.Proofs.Ythhopbicmaipgaa.Rx.AV.undef :: (Go.Proofs.Ythhopbicmaipgaa.Rx.AV.undef :: (Go.Proofs.Ythhopbicmaipgaa.Rx.AV.undef :: (Go.Proofs.Ythhopbicmaipgaa.Rx.AV.undef :: (Go.Proofs.Ythhopbicmaipgaa.Rx.AV.undef :: (Go.Proofs.Ythhopbicmaipgaa.Rx.AV.undef :: (Go.Proofs.Ythhopbicmaipgaa.Rx.AV.undef :: (Go.Proofs.Ythhopbicmaipgaa.Rx.AV.undef :: (Go.Proofs.Ythhopbicmaipgaa.Rx.AV.undef :: (Go.Proofs.Ythhopbicmaipgaa.Rx.AV.undef :: (Go.Proofs.Ythhopbicmaipgaa.Rx.AV.undef :: (Go.Proofs.Ythhopbicmaipgaa.Rx.AV.undef :: (Go.Proofs.Ythhopbicmaipgaa.Rx.AV.undef :: (Go.Proofs.Ythhopbicmaipgaa.Rx.AV.undef :: (Go.Proofs.Ythhopbicmaipgaa.Rx.AV.undef :: (Go.Proofs.Ythhopbicmaipgaa.Rx.AV.undef :: (Go.Proofs.Ythhopbicmaipgaa.Rx.AV.undef :: (Go.Proofs.Ythhopbicmaipgaa.Rx.AV.undef :: (Go.Proofs.Ythhopbicmaipgaa.Rx.AV.undef :: (Go.Proofs.Ythhopbicmaipgaa.Rx.AV.undef :: (Go.Proofs.Ythhopbicmaipgaa.Rx.AV.undef :: (Go.Proofs.Ythhopbicmaipgaa.Rx.AV.undef :: (Go.Proofs.Ythhopbicmaipgaa.Rx.AV.undef :: (Go.Proofs.Ythhopbicmaipgaa.Rx.AV.undef :: (Go.Proofs.Ythhopbicmaipgaa.Rx.AV.undef :: (Go.Proofs.Ythhopbicmaipgaa.Rx.AV.undef :: (Go.Proofs.Ythhopbicmaipgaa.Rx.AV.undef :: (Go.Proofs.Ythhopbicmaipgaa.Rx.AV.undef :: (Go.Proofs.Ythhopbicmaipgaa.Rx.AV.undef :: (Go.Proofs.Ythhopbicmaipgaa.Rx.AV.undef :: (Go.Proofs.Ythhopbicmaipgaa.Rx.AV.undef :: (Go.Proofs.Ythhopbicmaipgaa.Rx.AV.undef :: (Go.Proofs.Ythhopbicmaipgaa.Rx.AV.undef :: (Go.Proofs.Ythhopbicmaipgaa.Rx.AV.undef :: (Go.Proofs.Ythhopbicmaipgaa.Rx.AV.undef :: (Go.Proofs.Ythhopbicmaipgaa.Rx.AV.undef :: (Go.Proofs.Ythhopbicmaipgaa.Rx.AV.undef :: (Go.Proofs.Ythhopbicmaipgaa.Rx.AV.undef :: (Go.Proofs.Ythhopbicmaipgaa.Rx.AV.undef :: (Go.Proofs.Ythhopbicmaipgaa.Rx.AV.undef :: (Go.Proofs.Ythhopbicmaipgaa.Rx.AV.undef :: (Go.Proofs.Ythhopbicmaipgaa.Rx.AV.undef :: (Go.Proofs.Ythhopbicmaipgaa.Rx.AV.undef :: (Go.Proofs.Ythhopbicmaipgaa.Rx.AV.undef :: (Go.Proofs.Ythhopbicmaipgaa.Rx.AV.undef :: (Go.Proofs.Ythhopbicmaipgaa.Rx.AV.undef :: (Go.Proofs.Ythhopbicmaipgaa.Rx.AV.undef :: (Go.Proofs.Ythhopbicmaipgaa.Rx.AV.undef :: (Go.Proofs.Ythhopbicmaipgaa.Rx.AV.undef :: (Go.Proofs.Ythhopbicmaipgaa.Rx.AV.undef :: (Go.Proofs.Ythhopbicmaipgaa.Rx.AV.undef :: (Go.Proofs.Ythhopbicmaipgaa.Rx.AV.undef :: (Go.Proofs.Ythhopbicmaipgaa.Rx.AV.undef :: (Go.Proofs.Ythhopbicmaipgaa.Rx.AV.undef :: (Go.Proofs.Ythhopbicmaipgaa.Rx.AV.undef :: (Go.Proofs.Ythhopbicmaipgaa.Rx.AV.undef :: []))))))))))))))))))))))))))))))))))))))))))))))))))))))))))))))))))))))))))))))) ((1000000, (Go.Proofs.Ythhopbicmaipgaa.Rx.Ent.row (⟨39, (Go.Proofs.Ythhopbicmaipgaa.Rx.Ty.int Go.IntKind.i64).pair   ((Go.Proofs.Ythhopbicmaipgaa.Rx.Ty.int Go.IntKind.i64).pair     ((Go.Proofs.Ythhopbicmaipgaa.Rx.Ty.int Go.IntKind.i64).pair       ((Go.Proofs.Ythhopbicmaipgaa.Rx.Ty.int Go.IntKind.i64).pair         ((Go.Proofs.Ythhopbicmaipgaa.Rx.Ty.int Go.IntKind.i64).pair           ((Go.Proofs.Ythhopbicmaipgaa.Rx.Ty.int Go.IntKind.i64).pair             (Go.Proofs.Ythhopbicmaipgaa.Rx.Ty.bool.pair               (Go.Proofs.Ythhopbicmaipgaa.Rx.Ty.str.pair (Go.Proofs.Ythhopbicmaipgaa.Rx.Ty.row (nat_lit 95) (Go.Proofs.Ythhopbicmaipgaa.Rx.Ty.str.pair (Go.Proofs.Ythhopbicmaipgaa.Rx.Ty.int Go.IntKind.i64)))))))))), x2⟩ : Rw) 0 Option.none)) :: []))
def sh78_L2 (x0 : Int) (x1 : Int) (x2 : List (Int × Int × Int × Int × Int × Int × Bool × ByteArray × List (ByteArray × Int))) : St := (Go.Proofs.Ythhopbicmaipgaa.Rx.St.mk ((Go.Proofs.Ythhopbicmaipgaa.Rx.AV.par 0 false ((Go.Proofs.Ythhopbicmaipgaa.Rx.SV.ref 1000000 0 [] Option.none) :: [])) :: ((Go.Proofs.Ythhopbicmaipgaa.Rx.AV.one (Go.Proofs.Ythhopbicmaipgaa.Rx.SV.int (Go.IntKind.i64) x0)) :: (Go.Proofs.Ythhopbicmaipgaa.Rx.AV.undef :: (Go.Proofs.Ythhopbicmaipgaa.Rx.AV.undef :: (Go.Proofs.Ythhopbicmaipgaa.Rx.AV.undef :: ((Go.Proofs.Ythhopbicmaipgaa.Rx.AV.one (Go.Proofs.Ythhopbicmaipgaa.Rx.SV.int (Go.IntKind.i64) x1)) :: (Go.Proofs.Ythhopbicmaipgaa.Rx.AV.undef :: (Go.Proofs.Ythhopbicmaipgaa.Rx.AV.undef :: (Go.Proofs.Ythhopbicmaipgaa.Rx.AV.undef :: (Go.Proofs.Ythhopbicmaipgaa.Rx.AV.undef :: (Go.Proofs.Ythhopbicmaipgaa.Rx.AV.undef :: (Go.Proofs.Ythhopbicmaipgaa.Rx.AV.undef :: (Go.Proofs.Ythhopbicmaipgaa.Rx.AV.undef :: (Go.Proofs.Ythhopbicmaipgaa.Rx.AV.undef :: (Go.Proofs.Ythhopbicmaipgaa.Rx.AV.undef :: (Go.Proofs.Ythhopbicmaipgaa.Rx.AV.undef :: (Go.Proofs.Ythhopbicmaipgaa.Rx.AV.undef :: (Go.Proofs.Ythhopbicmaipgaa.Rx.AV.undef :: (Go.Proofs.Ythhopbicmaipgaa.Rx.AV.undef :: (Go.Proofs.Ythhopbicmaipgaa.Rx.AV.undef :: (Go.Proofs.Ythhopbicmaipgaa.Rx.AV.undef :: (Go.Proofs.Ythhopbicmaipgaa.Rx.AV.undef :: (Go.Proofs.Ythhopbicmaipgaa.Rx.AV.undef :: (Go.Proofs.Ythhopbicmaipgaa.Rx.AV.undef :: (Go.Proofs.Ythhopbicmaipgaa.Rx.AV.undef :: (Go.Proofs.Ythhopbicmaipgaa.Rx.AV.undef :: (Go.Proofs.Ythhopbicmaipgaa.Rx.AV.undef :: (Go.Proofs.Ythhopbicmaipgaa.Rx.AV.undef :: (Go.Proofs.Ythhopbicmaipgaa.Rx.AV.undef :: (Go.Proofs.Ythhopbicmaipgaa.Rx.AV.undef :: (Go.Proofs.Ythhopbicmaipgaa.Rx.AV.undef :: (Go.Proofs.Ythhopbicmaipgaa.Rx.AV.undef :: (Go.Proofs.Ythhopbicmaipgaa.Rx.AV.undef :: (Go.Proofs.Ythhopbicmaipgaa.Rx.AV.undef :: (Go.Proofs.Ythhopbicmaipgaa.Rx.AV.undef :: (Go.Proofs.Ythhopbicmaipgaa.Rx.AV.undef :: (Go.Proofs.Ythhopbicmaipgaa.Rx.AV.undef :: (Go.Proofs.Ythhopbicmaipgaa.Rx.AV.undef :: (Go.Proofs.Ythhopbicmaipgaa.Rx.AV.undef :: (Go.Proofs.Ythhopbicmaipgaa.Rx.AV.undef :: (Go.Proofs.Ythhopbicmaipgaa.Rx.AV.undef :: (Go.Proofs.Ythhopbicmaipgaa.Rx.AV.undef :: (Go.Proofs.Ythhopbicmaipgaa.Rx.AV.undef :: (Go.Proofs.Ythhopbicmaipgaa.Rx.AV.undef :: (Go.Proofs.Ythhopbicmaipgaa.Rx.AV.undef :: (Go.Proofs.Ythhopbicmaipgaa.Rx.AV.undef :: (Go.Proofs.Ythhopbicmaipgaa.Rx.AV.undef :: (Go.Proofs.Ythhopbicmaipgaa.Rx.AV.undef :: (Go.Proofs.Ythhopbicmaipgaa.Rx.AV.undef :: (Go.Proofs.Ythhopbicmaipgaa.Rx.AV.undef :: (Go.Proofs.Ythhopbicmaipgaa.Rx.AV.undef :: (Go.Proofs.Ythhopbicmaipgaa.Rx.AV.undef :: (Go.Proofs.Ythhopbicmaipgaa.Rx.AV.undef :: (Go.Proofs.Ythhopbicmaipgaa.Rx.AV.undef :: (Go.Proofs.Ythhopbicmaipgaa.Rx.AV.undef :: (Go.Proofs.Ythhopbicmaipgaa.Rx.AV.undef :: (Go.Proofs.Ythhopbicmaipgaa.Rx.AV.undef :: (Go.Proofs.Ythhopbicmaipgaa.Rx.AV.undef :: (Go.Proofs.Ythhopbicmaipgaa.Rx.AV.undef :: (Go.Proofs.Ythhopbicmaipgaa.Rx.AV.undef :: (Go.Proofs.Ythhopbicmaipgaa.Rx.AV.undef :: (Go.Proofs.Ythhopbicmaipgaa.Rx.AV.undef :: (Go.Proofs.Ythhopbicmaipgaa.Rx.AV.undef :: (Go.Proofs.Ythhopbicmaipgaa.Rx.AV.undef :: (Go.Proofs.Ythhopbicmaipgaa.Rx.AV.undef :: (Go.Proofs.Ythhopbicmaipgaa.Rx.AV.undef :: (Go.Proofs.Ythhopbicmaipgaa.Rx.AV.undef :: (Go.Proofs.Ythhopbicmaipgaa.Rx.AV.undef :: (Go.Proofs.Ythhopbicmaipgaa.Rx.AV.undef :: (Go.Proofs.Ythhopbicmaipgaa.Rx.AV.undef :: (Go.Proofs.Ythhopbicmaipgaa.Rx.AV.undef :: (Go.Proofs.Ythhopbicmaipgaa.Rx.AV.undef :: (Go.Proofs.Ythhopbicmaipgaa.Rx.AV.undef :: (Go.Proofs.Ythhopbicmaipgaa.Rx.AV.undef :: (Go.Proofs.Ythhopbicmaipgaa.Rx.AV.undef :: (Go.Proofs.Ythhopbicmaipgaa.Rx.AV.undef :: (Go.Proofs.Ythhopbicmaipgaa.Rx.AV.undef :: (Go.Proofs.Ythhopbicmaipgaa.Rx.AV.undef :: (Go.Proofs.Ythhopbicmaipgaa.Rx.AV.undef :: []))))))))))))))))))))))))))))))))))))))))))))))))))))))))))))))))))))))))))))))) ((1000000, (Go.Proofs.Ythhopbicmaipgaa.Rx.Ent.row (⟨39, (Go.Proofs.Ythhopbicmaipgaa.Rx.Ty.int Go.IntKind.i64).pair   ((Go.Proofs.Ythhopbicmaipgaa.Rx.Ty.int Go.IntKind.i64).pair     ((Go.Proofs.Ythhopbicmaipgaa.Rx.Ty.int Go.IntKind.i64).pair       ((Go.Proofs.Ythhopbicmaipgaa.Rx.Ty.int Go.IntKind.i64).pair         ((Go.Proofs.Ythhopbicmaipgaa.Rx.Ty.int Go.IntKind.i64).pair           ((Go.Proofs.Ythhopbicmaipgaa.Rx.Ty.int Go.IntKind.i64).pair             (Go.Proofs.Ythhopbicmaipgaa.Rx.Ty.bool.pair               (Go.Proofs.Ythhopbicmaipgaa.Rx.Ty.str.pair (Go.Proofs.Ythhopbicmaipgaa.Rx.Ty.row (nat_lit 95) (Go.Proofs.Ythhopbicmaipgaa.Rx.Ty.str.pair (Go.Proofs.Ythhopbicmaipgaa.Rx.Ty.int Go.IntKind.i64)))))))))), x2⟩ : Rw) 0 Option.none)) :: []))
noncomputable def st78_top (n : Nat) (lL2 : Int → Int → (List (Int × Int × Int × Int × Int × Int × Bool × ByteArray × List (ByteArray × Int))) → Option R78) (a : List (Int × Int × Int × Int × Int × Int × Bool × ByteArray × List (ByteArray × Int))) (b : Int) : Option R78 :=
  lL2 (b) ((0 : Int)) (a)
noncomputable def st78_C20_0 (n : Nat) (lL2 : Int → Int → (List (Int × Int × Int × Int × Int × Int × Bool × ByteArray × List (ByteArray × Int))) → Option R78) (x0 : Int) (x1 : Int) (x2 : List (Int × Int × Int × Int × Int × Int × Bool × ByteArray × List (ByteArray × Int))) : Option R78 :=
  cond (decide ((0 : Int) ≤ x1)) (cond (decide (x1 < (↑x2.length : Int))) ((Go.Proofs.Ythhopbicmaipgaa.Rx.S.q110 n   ((x2.getD x1.toNat                       ((0 : Int), (0 : Int), (0 : Int), (0 : Int), (0 : Int), (0 : Int), false, ByteArray.empty,                         [])).snd.snd.snd.snd.snd.snd.snd.snd,     x0, ())).bind fun r10 => lL2 (r10.fst.fst) (Go.IntKind.i64.wrap (x1 + (1 : Int))) (x2.set x1.toNat   ((x2.getD x1.toNat         ((0 : Int), (0 : Int), (0 : Int), (0 : Int), (0 : Int), (0 : Int), false, ByteArray.empty, [])).fst,     (x2.getD x1.toNat           ((0 : Int), (0 : Int), (0 : Int), (0 : Int), (0 : Int), (0 : Int), false, ByteArray.empty, [])).snd.fst,     (x2.getD x1.toNat             ((0 : Int), (0 : Int), (0 : Int), (0 : Int), (0 : Int), (0 : Int), false, ByteArray.empty, [])).snd.snd.fst,     (x2.getD x1.toNat               ((0 : Int), (0 : Int), (0 : Int), (0 : Int), (0 : Int), (0 : Int), false, ByteArray.empty,                 [])).snd.snd.snd.fst,     (x2.getD x1.toNat                 ((0 : Int), (0 : Int), (0 : Int), (0 : Int), (0 : Int), (0 : Int), false, ByteArray.empty,                   [])).snd.snd.snd.snd.fst,     (x2.getD x1.toNat                   ((0 : Int), (0 : Int), (0 : Int), (0 : Int), (0 : Int), (0 : Int), false, ByteArray.empty,                     [])).snd.snd.snd.snd.snd.fst,     (x2.getD x1.toNat                     ((0 : Int), (0 : Int), (0 : Int), (0 : Int), (0 : Int), (0 : Int), false, ByteArray.empty,                       [])).snd.snd.snd.snd.snd.snd.fst,     (x2.getD x1.toNat                       ((0 : Int), (0 : Int), (0 : Int), (0 : Int), (0 : Int), (0 : Int), false, ByteArray.empty,                         [])).snd.snd.snd.snd.snd.snd.snd.fst,     r10.snd.fst))) (none)) (none)
noncomputable def st78_C18_0 (n : Nat) (lC20_0 : Int → Int → (List (Int × Int × Int × Int × Int × Int × Bool × ByteArray × List (ByteArray × Int))) → Option R78) (x0 : Int) (x1 : Int) (x2 : List (Int × Int × Int × Int × Int × Int × Bool × ByteArray × List (ByteArray × Int))) : Option R78 :=
  (Go.Proofs.Ythhopbicmaipgaa.Rx.S.q109 n (x0, ())).bind fun r8 => cond (decide ((0 : Int) ≤ x1)) (cond (decide (x1 < (↑x2.length : Int))) (lC20_0 (Go.IntKind.i64.wrap (x0 + (1 : Int))) (x1) (x2.set x1.toNat   ((x2.getD x1.toNat         ((0 : Int), (0 : Int), (0 : Int), (0 : Int), (0 : Int), (0 : Int), false, ByteArray.empty, [])).fst,     (x2.getD x1.toNat           ((0 : Int), (0 : Int), (0 : Int), (0 : Int), (0 : Int), (0 : Int), false, ByteArray.empty, [])).snd.fst,     (x2.getD x1.toNat             ((0 : Int), (0 : Int), (0 : Int), (0 : Int), (0 : Int), (0 : Int), false, ByteArray.empty, [])).snd.snd.fst,     (x2.getD x1.toNat               ((0 : Int), (0 : Int), (0 : Int), (0 : Int), (0 : Int), (0 : Int), false, ByteArray.empty,                 [])).snd.snd.snd.fst,     (x2.getD x1.toNat                 ((0 : Int), (0 : Int), (0 : Int), (0 : Int), (0 : Int), (0 : Int), false, ByteArray.empty,                   [])).snd.snd.snd.snd.fst,     (x2.getD x1.toNat                   ((0 : Int), (0 : Int), (0 : Int), (0 : Int), (0 : Int), (0 : Int), false, ByteArray.empty,                     [])).snd.snd.snd.snd.snd.fst,     (x2.getD x1.toNat                     ((0 : Int), (0 : Int), (0 : Int), (0 : Int), (0 : Int), (0 : Int), false, ByteArray.empty,                       [])).snd.snd.snd.snd.snd.snd.fst,     r8.fst.fst,     (x2.getD x1.toNat                       ((0 : Int), (0 : Int), (0 : Int), (0 : Int), (0 : Int), (0 : Int), false, ByteArray.empty,                         [])).snd.snd.snd.snd.snd.snd.snd.snd))) (none)) (none)
noncomputable def st78_C16_0 (n : Nat) (lC18_0 : Int → Int → (List (Int × Int × Int × Int × Int × Int × Bool × ByteArray × List (ByteArray × Int))) → Option R78) (x0 : Int) (x1 : Int) (x2 : List (Int × Int × Int × Int × Int × Int × Bool × ByteArray × List (ByteArray × Int))) : Option R78 :=
  cond (decide ((0 : Int) ≤ x1)) (cond (decide (x1 < (↑x2.length : Int))) (lC18_0 (Go.IntKind.i64.wrap (x0 + (1 : Int))) (x1) (x2.set x1.toNat   ((x2.getD x1.toNat         ((0 : Int), (0 : Int), (0 : Int), (0 : Int), (0 : Int), (0 : Int), false, ByteArray.empty, [])).fst,     (x2.getD x1.toNat           ((0 : Int), (0 : Int), (0 : Int), (0 : Int), (0 : Int), (0 : Int), false, ByteArray.empty, [])).snd.fst,     (x2.getD x1.toNat             ((0 : Int), (0 : Int), (0 : Int), (0 : Int), (0 : Int), (0 : Int), false, ByteArray.empty, [])).snd.snd.fst,     (x2.getD x1.toNat               ((0 : Int), (0 : Int), (0 : Int), (0 : Int), (0 : Int), (0 : Int), false, ByteArray.empty,                 [])).snd.snd.snd.fst,     (x2.getD x1.toNat                 ((0 : Int), (0 : Int), (0 : Int), (0 : Int), (0 : Int), (0 : Int), false, ByteArray.empty,                   [])).snd.snd.snd.snd.fst,     (x2.getD x1.toNat                   ((0 : Int), (0 : Int), (0 : Int), (0 : Int), (0 : Int), (0 : Int), false, ByteArray.empty,                     [])).snd.snd.snd.snd.snd.fst,     decide (x0.tmod (3 : Int) = (0 : Int)),     (x2.getD x1.toNat                     ((0 : Int), (0 : Int), (0 : Int), (0 : Int), (0 : Int), (0 : Int), false, ByteArray.empty,                       [])).snd.snd.snd.snd.snd.snd.snd))) (none)) (none)
noncomputable def st78_C14_0 (n : Nat) (lC16_0 : Int → Int → (List (Int × Int × Int × Int × Int × Int × Bool × ByteArray × List (ByteArray × Int))) → Option R78) (x0 : Int) (x1 : Int) (x2 : List (Int × Int × Int × Int × Int × Int × Bool × ByteArray × List (ByteArray × Int))) : Option R78 :=
  cond (decide ((0 : Int) ≤ x1)) (cond (decide (x1 < (↑x2.length : Int))) (lC16_0 (Go.IntKind.i64.wrap (x0 + (1 : Int))) (x1) (x2.set x1.toNat   ((x2.getD x1.toNat         ((0 : Int), (0 : Int), (0 : Int), (0 : Int), (0 : Int), (0 : Int), false, ByteArray.empty, [])).fst,     (x2.getD x1.toNat           ((0 : Int), (0 : Int), (0 : Int), (0 : Int), (0 : Int), (0 : Int), false, ByteArray.empty, [])).snd.fst,     (x2.getD x1.toNat             ((0 : Int), (0 : Int), (0 : Int), (0 : Int), (0 : Int), (0 : Int), false, ByteArray.empty, [])).snd.snd.fst,     (x2.getD x1.toNat               ((0 : Int), (0 : Int), (0 : Int), (0 : Int), (0 : Int), (0 : Int), false, ByteArray.empty,                 [])).snd.snd.snd.fst,     (x2.getD x1.toNat                 ((0 : Int), (0 : Int), (0 : Int), (0 : Int), (0 : Int), (0 : Int), false, ByteArray.empty,                   [])).snd.snd.snd.snd.fst,     x0,     (x2.getD x1.toNat                   ((0 : Int), (0 : Int), (0 : Int), (0 : Int), (0 : Int), (0 : Int), false, ByteArray.empty,                     [])).snd.snd.snd.snd.snd.snd))) (none)) (none)
noncomputable def st78_C12_0 (n : Nat) (lC14_0 : Int → Int → (List (Int × Int × Int × Int × Int × Int × Bool × ByteArray × List (ByteArray × Int))) → Option R78) (x0 : Int) (x1 : Int) (x2 : List (Int × Int × Int × Int × Int × Int × Bool × ByteArray × List (ByteArray × Int))) : Option R78 :=
  cond (decide ((0 : Int) ≤ x1)) (cond (decide (x1 < (↑x2.length : Int))) (lC14_0 (Go.IntKind.i64.wrap (x0 + (1 : Int))) (x1) (x2.set x1.toNat   ((x2.getD x1.toNat         ((0 : Int), (0 : Int), (0 : Int), (0 : Int), (0 : Int), (0 : Int), false, ByteArray.empty, [])).fst,     (x2.getD x1.toNat           ((0 : Int), (0 : Int), (0 : Int), (0 : Int), (0 : Int), (0 : Int), false, ByteArray.empty, [])).snd.fst,     (x2.getD x1.toNat             ((0 : Int), (0 : Int), (0 : Int), (0 : Int), (0 : Int), (0 : Int), false, ByteArray.empty, [])).snd.snd.fst,     (x2.getD x1.toNat               ((0 : Int), (0 : Int), (0 : Int), (0 : Int), (0 : Int), (0 : Int), false, ByteArray.empty,                 [])).snd.snd.snd.fst,     x0,     (x2.getD x1.toNat                 ((0 : Int), (0 : Int), (0 : Int), (0 : Int), (0 : Int), (0 : Int), false, ByteArray.empty,                   [])).snd.snd.snd.snd.snd))) (none)) (none)
noncomputable def st78_C10_0 (n : Nat) (lC12_0 : Int → Int → (List (Int × Int × Int × Int × Int × Int × Bool × ByteArray × List (ByteArray × Int))) → Option R78) (x0 : Int) (x1 : Int) (x2 : List (Int × Int × Int × Int × Int × Int × Bool × ByteArray × List (ByteArray × Int))) : Option R78 :=
  cond (decide ((0 : Int) ≤ x1)) (cond (decide (x1 < (↑x2.length : Int))) (lC12_0 (Go.IntKind.i64.wrap (x0 + (1 : Int))) (x1) (x2.set x1.toNat   ((x2.getD x1.toNat         ((0 : Int), (0 : Int), (0 : Int), (0 : Int), (0 : Int), (0 : Int), false, ByteArray.empty, [])).fst,     (x2.getD x1.toNat           ((0 : Int), (0 : Int), (0 : Int), (0 : Int), (0 : Int), (0 : Int), false, ByteArray.empty, [])).snd.fst,     (x2.getD x1.toNat             ((0 : Int), (0 : Int), (0 : Int), (0 : Int), (0 : Int), (0 : Int), false, ByteArray.empty, [])).snd.snd.fst,     x0,     (x2.getD x1.toNat               ((0 : Int), (0 : Int), (0 : Int), (0 : Int), (0 : Int), (0 : Int), false, ByteArray.empty,                 [])).snd.snd.snd.snd))) (none)) (none)
noncomputable def st78_C8_0 (n : Nat) (lC10_0 : Int → Int → (List (Int × Int × Int × Int × Int × Int × Bool × ByteArray × List (ByteArray × Int))) → Option R78) (x0 : Int) (x1 : Int) (x2 : List (Int × Int × Int × Int × Int × Int × Bool × ByteArray × List (ByteArray × Int))) : Option R78 :=
  cond (decide ((0 : Int) ≤ x1)) (cond (decide (x1 < (↑x2.length : Int))) (lC10_0 (Go.IntKind.i64.wrap (x0 + (1 : Int))) (x1) (x2.set x1.toNat   ((x2.getD x1.toNat         ((0 : Int), (0 : Int), (0 : Int), (0 : Int), (0 : Int), (0 : Int), false, ByteArray.empty, [])).fst,     (x2.getD x1.toNat           ((0 : Int), (0 : Int), (0 : Int), (0 : Int), (0 : Int), (0 : Int), false, ByteArray.empty, [])).snd.fst,     x0,     (x2.getD x1.toNat             ((0 : Int), (0 : Int), (0 : Int), (0 : Int), (0 : Int), (0 : Int), false, ByteArray.empty, [])).snd.snd.snd))) (none)) (none)
noncomputable def st78_C6_0 (n : Nat) (lC8_0 : Int → Int → (List (Int × Int × Int × Int × Int × Int × Bool × ByteArray × List (ByteArray × Int))) → Option R78) (x0 : Int) (x1 : Int) (x2 : List (Int × Int × Int × Int × Int × Int × Bool × ByteArray × List (ByteArray × Int))) : Option R78 :=
  cond (decide ((0 : Int) ≤ x1)) (cond (decide (x1 < (↑x2.length : Int))) (lC8_0 (Go.IntKind.i64.wrap (x0 + (1 : Int))) (x1) (x2.set x1.toNat   ((x2.getD x1.toNat         ((0 : Int), (0 : Int), (0 : Int), (0 : Int), (0 : Int), (0 : Int), false, ByteArray.empty, [])).fst,     x0,     (x2.getD x1.toNat           ((0 : Int), (0 : Int), (0 : Int), (0 : Int), (0 : Int), (0 : Int), false, ByteArray.empty, [])).snd.snd))) (none)) (none)
noncomputable def st78_L2 (n : Nat) (lC6_0 : Int → Int → (List (Int × Int × Int × Int × Int × Int × Bool × ByteArray × List (ByteArray × Int))) → Option R78) (x0 : Int) (x1 : Int) (x2 : List (Int × Int × Int × Int × Int × Int × Bool × ByteArray × List (ByteArray × Int))) : Option R78 :=
  cond (decide (x1 < (↑x2.length : Int))) (cond (decide ((0 : Int) ≤ x1)) (cond (decide (x1 < (↑x2.length : Int))) (lC6_0 (Go.IntKind.i64.wrap (x0 + (1 : Int))) (x1) (x2.set x1.toNat   (x0,     (x2.getD x1.toNat         ((0 : Int), (0 : Int), (0 : Int), (0 : Int), (0 : Int), (0 : Int), false, ByteArray.empty, [])).snd))) (none)) (none)) (some ((x0, ()), (x2, ())))
theorem e78_top (n : Nat) (a : List (Int × Int × Int × Int × Int × Int × Bool × ByteArray × List (ByteArray × Int))) (b : Int) : runF TT G78 an78 Try.f78 c78 ps78 rs78 n (a, b, ()) = st78_top n (fun x0 x1 x2 => at78 n (.head 2) [n] (sh78_L2 x0 x1 x2)) a b := by kernel_rfl
theorem e78_C20_0 (n : Nat) (m2 : Nat) (x0 : Int) (x1 : Int) (x2 : List (Int × Int × Int × Int × Int × Int × Bool × ByteArray × List (ByteArray × Int))) : at78 n (.op 20 0) [m2] (sh78_C20_0 x0 x1 x2) = st78_C20_0 n (fun x0 x1 x2 => at78 n (.head 2) [m2] (sh78_L2 x0 x1 x2)) x0 x1 x2 := by kernel_rfl
theorem e78_C18_0 (n : Nat) (m2 : Nat) (x0 : Int) (x1 : Int) (x2 : List (Int × Int × Int × Int × Int × Int × Bool × ByteArray × List (ByteArray × Int))) : at78 n (.op 18 0) [m2] (sh78_C18_0 x0 x1 x2) = st78_C18_0 n (fun x0 x1 x2 => at_ 20000 (at78 n (.op 20 0) [m2]) (sh78_C20_0 x0 x1 x2)) x0 x1 x2 := by kernel_rfl
theorem e78_C16_0 (n : Nat) (m2 : Nat) (x0 : Int) (x1 : Int) (x2 : List (Int × Int × Int × Int × Int × Int × Bool × ByteArray × List (ByteArray × Int))) : at78 n (.op 16 0) [m2] (sh78_C16_0 x0 x1 x2) = st78_C16_0 n (fun x0 x1 x2 => at_ 18000 (at78 n (.op 18 0) [m2]) (sh78_C18_0 x0 x1 x2)) x0 x1 x2 := by kernel_rfl
theorem e78_C14_0 (n : Nat) (m2 : Nat) (x0 : Int) (x1 : Int) (x2 : List (Int × Int × Int × Int × Int × Int × Bool × ByteArray × List (ByteArray × Int))) : at78 n (.op 14 0) [m2] (sh78_C14_0 x0 x1 x2) = st78_C14_0 n (fun x0 x1 x2 => at_ 16000 (at78 n (.op 16 0) [m2]) (sh78_C16_0 x0 x1 x2)) x0 x1 x2 := by kernel_rfl
theorem e78_C12_0 (n : Nat) (m2 : Nat) (x0 : Int) (x1 : Int) (x2 : List (Int × Int × Int × Int × Int × Int × Bool × ByteArray × List (ByteArray × Int))) : at78 n (.op 12 0) [m2] (sh78_C12_0 x0 x1 x2) = st78_C12_0 n (fun x0 x1 x2 => at_ 14000 (at78 n (.op 14 0) [m2]) (sh78_C14_0 x0 x1 x2)) x0 x1 x2 := by kernel_rfl
theorem e78_C10_0 (n : Nat) (m2 : Nat) (x0 : Int) (x1 : Int) (x2 : List (Int × Int × Int × Int × Int × Int × Bool × ByteArray × List (ByteArray × Int))) : at78 n (.op 10 0) [m2] (sh78_C10_0 x0 x1 x2) = st78_C10_0 n (fun x0 x1 x2 => at_ 12000 (at78 n (.op 12 0) [m2]) (sh78_C12_0 x0 x1 x2)) x0 x1 x2 := by kernel_rfl
theorem e78_C8_0 (n : Nat) (m2 : Nat) (x0 : Int) (x1 : Int) (x2 : List (Int × Int × Int × Int × Int × Int × Bool × ByteArray × List (ByteArray × Int))) : at78 n (.op 8 0) [m2] (sh78_C8_0 x0 x1 x2) = st78_C8_0 n (fun x0 x1 x2 => at_ 10000 (at78 n (.op 10 0) [m2]) (sh78_C10_0 x0 x1 x2)) x0 x1 x2 := by kernel_rfl
theorem e78_C6_0 (n : Nat) (m2 : Nat) (x0 : Int) (x1 : Int) (x2 : List (Int × Int × Int × Int × Int × Int × Bool × ByteArray × List (ByteArray × Int))) : at78 n (.op 6 0) [m2] (sh78_C6_0 x0 x1 x2) = st78_C6_0 n (fun x0 x1 x2 => at_ 8000 (at78 n (.op 8 0) [m2]) (sh78_C8_0 x0 x1 x2)) x0 x1 x2 := by kernel_rfl
theorem e78_L2_0 (n : Nat) (x0 : Int) (x1 : Int) (x2 : List (Int × Int × Int × Int × Int × Int × Bool × ByteArray × List (ByteArray × Int))) : at78 n (.head 2) [0] (sh78_L2 x0 x1 x2) = none := by kernel_rfl
theorem e78_L2 (n : Nat) (m2 : Nat) (x0 : Int) (x1 : Int) (x2 : List (Int × Int × Int × Int × Int × Int × Bool × ByteArray × List (ByteArray × Int))) : at78 n (.head 2) [m2 + 1] (sh78_L2 x0 x1 x2) = st78_L2 n (fun x0 x1 x2 => at_ 6000 (at78 n (.op 6 0) [m2]) (sh78_C6_0 x0 x1 x2)) x0 x1 x2 := by kernel_rfl
noncomputable def p78_C20_0 (g2 : Int → Int → (List (Int × Int × Int × Int × Int × Int × Bool × ByteArray × List (ByteArray × Int))) → Option R78) (n : Nat) (x0 : Int) (x1 : Int) (x2 : List (Int × Int × Int × Int × Int × Int × Bool × ByteArray × List (ByteArray × Int))) : Option R78 := st78_C20_0 n g2 x0 x1 x2
noncomputable def p78_C18_0 (g2 : Int → Int → (List (Int × Int × Int × Int × Int × Int × Bool × ByteArray × List (ByteArray × Int))) → Option R78) (n : Nat) (x0 : Int) (x1 : Int) (x2 : List (Int × Int × Int × Int × Int × Int × Bool × ByteArray × List (ByteArray × Int))) : Option R78 := st78_C18_0 n (p78_C20_0 g2 n) x0 x1 x2
noncomputable def p78_C16_0 (g2 : Int → Int → (List (Int × Int × Int × Int × Int × Int × Bool × ByteArray × List (ByteArray × Int))) → Option R78) (n : Nat) (x0 : Int) (x1 : Int) (x2 : List (Int × Int × Int × Int × Int × Int × Bool × ByteArray × List (ByteArray × Int))) : Option R78 := st78_C16_0 n (p78_C18_0 g2 n) x0 x1 x2
noncomputable def p78_C14_0 (g2 : Int → Int → (List (Int × Int × Int × Int × Int × Int × Bool × ByteArray × List (ByteArray × Int))) → Option R78) (n : Nat) (x0 : Int) (x1 : Int) (x2 : List (Int × Int × Int × Int × Int × Int × Bool × ByteArray × List (ByteArray × Int))) : Option R78 := st78_C14_0 n (p78_C16_0 g2 n) x0 x1 x2
noncomputable def p78_C12_0 (g2 : Int → Int → (List (Int × Int × Int × Int × Int × Int × Bool × ByteArray × List (ByteArray × Int))) → Option R78) (n : Nat) (x0 : Int) (x1 : Int) (x2 : List (Int × Int × Int × Int × Int × Int × Bool × ByteArray × List (ByteArray × Int))) : Option R78 := st78_C12_0 n (p78_C14_0 g2 n) x0 x1 x2
noncomputable def p78_C10_0 (g2 : Int → Int → (List (Int × Int × Int × Int × Int × Int × Bool × ByteArray × List (ByteArray × Int))) → Option R78) (n : Nat) (x0 : Int) (x1 : Int) (x2 : List (Int × Int × Int × Int × Int × Int × Bool × ByteArray × List (ByteArray × Int))) : Option R78 := st78_C10_0 n (p78_C12_0 g2 n) x0 x1 x2
noncomputable def p78_C8_0 (g2 : Int → Int → (List (Int × Int × Int × Int × Int × Int × Bool × ByteArray × List (ByteArray × Int))) → Option R78) (n : Nat) (x0 : Int) (x1 : Int) (x2 : List (Int × Int × Int × Int × Int × Int × Bool × ByteArray × List (ByteArray × Int))) : Option R78 := st78_C8_0 n (p78_C10_0 g2 n) x0 x1 x2
noncomputable def p78_C6_0 (g2 : Int → Int → (List (Int × Int × Int × Int × Int × Int × Bool × ByteArray × List (ByteArray × Int))) → Option R78) (n : Nat) (x0 : Int) (x1 : Int) (x2 : List (Int × Int × Int × Int × Int × Int × Bool × ByteArray × List (ByteArray × Int))) : Option R78 := st78_C6_0 n (p78_C8_0 g2 n) x0 x1 x2
noncomputable def p78_L2 (n : Nat) : Nat → Int → Int → (List (Int × Int × Int × Int × Int × Int × Bool × ByteArray × List (ByteArray × Int))) → Option R78
  | 0, _, _, _ => none
  | m + 1, x0, x1, x2 => st78_L2 n (p78_C6_0 (p78_L2 n m) n) x0 x1 x2
noncomputable def p78 (n : Nat) (a : List (Int × Int × Int × Int × Int × Int × Bool × ByteArray × List (ByteArray × Int))) (b : Int) : Option R78 := st78_top n (p78_L2 n n) a b
theorem t78_C20_0 (n : Nat) (m2 : Nat) (x0 : Int) (x1 : Int) (x2 : List (Int × Int × Int × Int × Int × Int × Bool × ByteArray × List (ByteArray × Int))) : at78 n (.op 20 0) [m2] (sh78_C20_0 x0 x1 x2) = p78_C20_0 (fun x0 x1 x2 => at78 n (.head 2) [m2] (sh78_L2 x0 x1 x2)) n x0 x1 x2 := by
  rw [e78_C20_0]
  skip
  try rfl
theorem t78_C18_0 (n : Nat) (m2 : Nat) (x0 : Int) (x1 : Int) (x2 : List (Int × Int × Int × Int × Int × Int × Bool × ByteArray × List (ByteArray × Int))) : at78 n (.op 18 0) [m2] (sh78_C18_0 x0 x1 x2) = p78_C18_0 (fun x0 x1 x2 => at78 n (.head 2) [m2] (sh78_L2 x0 x1 x2)) n x0 x1 x2 := by
  rw [e78_C18_0]
  simp only [ateq78, t78_C20_0]
  try rfl
theorem t78_C16_0 (n : Nat) (m2 : Nat) (x0 : Int) (x1 : Int) (x2 : List (Int × Int × Int × Int × Int × Int × Bool × ByteArray × List (ByteArray × Int))) : at78 n (.op 16 0) [m2] (sh78_C16_0 x0 x1 x2) = p78_C16_0 (fun x0 x1 x2 => at78 n (.head 2) [m2] (sh78_L2 x0 x1 x2)) n x0 x1 x2 := by
  rw [e78_C16_0]
  simp only [ateq78, t78_C18_0]
  try rfl
theorem t78_C14_0 (n : Nat) (m2 : Nat) (x0 : Int) (x1 : Int) (x2 : List (Int × Int × Int × Int × Int × Int × Bool × ByteArray × List (ByteArray × Int))) : at78 n (.op 14 0) [m2] (sh78_C14_0 x0 x1 x2) = p78_C14_0 (fun x0 x1 x2 => at78 n (.head 2) [m2] (sh78_L2 x0 x1 x2)) n x0 x1 x2 := by
  rw [e78_C14_0]
  simp only [ateq78, t78_C16_0]
  try rfl
theorem t78_C12_0 (n : Nat) (m2 : Nat) (x0 : Int) (x1 : Int) (x2 : List (Int × Int × Int × Int × Int × Int × Bool × ByteArray × List (ByteArray × Int))) : at78 n (.op 12 0) [m2] (sh78_C12_0 x0 x1 x2) = p78_C12_0 (fun x0 x1 x2 => at78 n (.head 2) [m2] (sh78_L2 x0 x1 x2)) n x0 x1 x2 := by
  rw [e78_C12_0]
  simp only [ateq78, t78_C14_0]
  try rfl
theorem t78_C10_0 (n : Nat) (m2 : Nat) (x0 : Int) (x1 : Int) (x2 : List (Int × Int × Int × Int × Int × Int × Bool × ByteArray × List (ByteArray × Int))) : at78 n (.op 10 0) [m2] (sh78_C10_0 x0 x1 x2) = p78_C10_0 (fun x0 x1 x2 => at78 n (.head 2) [m2] (sh78_L2 x0 x1 x2)) n x0 x1 x2 := by
  rw [e78_C10_0]
  simp only [ateq78, t78_C12_0]
  try rfl
theorem t78_C8_0 (n : Nat) (m2 : Nat) (x0 : Int) (x1 : Int) (x2 : List (Int × Int × Int × Int × Int × Int × Bool × ByteArray × List (ByteArray × Int))) : at78 n (.op 8 0) [m2] (sh78_C8_0 x0 x1 x2) = p78_C8_0 (fun x0 x1 x2 => at78 n (.head 2) [m2] (sh78_L2 x0 x1 x2)) n x0 x1 x2 := by
  rw [e78_C8_0]
  simp only [ateq78, t78_C10_0]
  try rfl
theorem t78_C6_0 (n : Nat) (m2 : Nat) (x0 : Int) (x1 : Int) (x2 : List (Int × Int × Int × Int × Int × Int × Bool × ByteArray × List (ByteArray × Int))) : at78 n (.op 6 0) [m2] (sh78_C6_0 x0 x1 x2) = p78_C6_0 (fun x0 x1 x2 => at78 n (.head 2) [m2] (sh78_L2 x0 x1 x2)) n x0 x1 x2 := by
  rw [e78_C6_0]
  simp only [ateq78, t78_C8_0]
  try rfl
theorem t78_L2 (n : Nat) : ∀ (m2 : Nat) (x0 : Int) (x1 : Int) (x2 : List (Int × Int × Int × Int × Int × Int × Bool × ByteArray × List (ByteArray × Int))), at78 n (.head 2) [m2] (sh78_L2 x0 x1 x2) = p78_L2  n m2 x0 x1 x2 := by
  intro m
  induction m with
  | zero => intros; rw [e78_L2_0]; rfl
  | succ m ih =>
    intros
    rw [e78_L2]
    try simp only [ateq78, t78_C6_0, ih]
    rfl
theorem F78_eq (n : Nat) (a : List (Int × Int × Int × Int × Int × Int × Bool × ByteArray × List (ByteArray × Int))) (b : Int) : runF TT G78 an78 Try.f78 c78 ps78 rs78 n (a, b, ()) = p78 n a b := by
  rw [e78_top]
  simp only [t78_L2]
  try rfl
noncomputable def q78 (n : Nat) (x : argsD ps78) : Option R78 := p78 n x.1 x.2.1
noncomputable def Sm78 : Sm := ⟨ps78, rs78, false, q78⟩
theorem holds78 (hg : GamOK Try.prog G78) : Holds Try.prog 78 Sm78 := by
  have := h0_78 hg
  have e : (runF TT G78 an78 Try.f78 c78 ps78 rs78) = q78 := by
    funext n x
    exact F78_eq n x.1 x.2.1
  rw [e] at this
  exact this
theorem gam78 : GamOK Try.prog G78 := by
  intro f s h
  unfold G78 at h
  split at h
  · injection h with h; subst h; exact ⟨⟨Try.f109, c109, Try.func109, by kernel_rfl, by decide +kernel⟩, hh109⟩
  · injection h with h; subst h; exact ⟨⟨Try.f110, c110, Try.func110, by kernel_rfl, by decide +kernel⟩, hh110⟩
  · cases h
theorem hh78 : Holds Try.prog 78 Sm78 := holds78 gam78
end Go.Proofs.Ythhopbicmaipgaa.Rx.S
namespace Go.Proofs.Ythhopbicmaipgaa.Rx.S
open Go Go.RowKit Go.Proofs
set_option maxRecDepth 100000
noncomputable def c27 : Code := (Try.f27.body.getD .skip)
def an27 : An := ⟨fun _ => ⟨[], []⟩, fun _ _ => none⟩
abbrev ps27 : List PK := [.io tFs true, .val i64 false]
abbrev rs27 : List RK := [.val i64 false]
abbrev R27 := retsD rs27 × outsD ps27
noncomputable def G27 : Gam := fun f => match f with | 78 => some Sm78 | _ => none
theorem h0_27 (hg : GamOK Try.prog G27) : Holds Try.prog 27 ⟨ps27, rs27, false, runF TT G27 an27 Try.f27 c27 ps27 rs27⟩ := holds_of tt_ok hg mixed Try.func27 (by kernel_rfl) (by rfl) (by decide +kernel)
noncomputable def at27 : Nat → Pt → List Nat → St → Option R27 := atF TT G27 an27 Try.f27 c27 _ _
noncomputable def st27_top (n : Nat)  (a : List (Int × Int × Int × Int × Int × Int × Bool × ByteArray × List (ByteArray × Int))) (b : Int) : Option R27 :=
  (Go.Proofs.Ythhopbicmaipgaa.Rx.S.q78 n (a, b, ())).bind fun r0 => some ((r0.fst.fst, ()), (r0.snd.fst, ()))
theorem e27_top (n : Nat) (a : List (Int × Int × Int × Int × Int × Int × Bool × ByteArray × List (ByteArray × Int))) (b : Int) : runF TT G27 an27 Try.f27 c27 ps27 rs27 n (a, b, ()) = st27_top n  a b := by kernel_rfl
noncomputable def p27 (n : Nat) (a : List (Int × Int × Int × Int × Int × Int × Bool × ByteArray × List (ByteArray × Int))) (b : Int) : Option R27 := st27_top n  a b
theorem F27_eq (n : Nat) (a : List (Int × Int × Int × Int × Int × Int × Bool × ByteArray × List (ByteArray × Int))) (b : Int) : runF TT G27 an27 Try.f27 c27 ps27 rs27 n (a, b, ()) = p27 n a b := by
  rw [e27_top]
  skip
  try rfl
noncomputable def q27 (n : Nat) (x : argsD ps27) : Option R27 := p27 n x.1 x.2.1
noncomputable def Sm27 : Sm := ⟨ps27, rs27, false, q27⟩
theorem holds27 (hg : GamOK Try.prog G27) : Holds Try.prog 27 Sm27 := by
  have := h0_27 hg
  have e : (runF TT G27 an27 Try.f27 c27 ps27 rs27) = q27 := by
    funext n x
    exact F27_eq n x.1 x.2.1
  rw [e] at this
  exact this
theorem gam27 : GamOK Try.prog G27 := by
  intro f s h
  unfold G27 at h
  split at h
  · injection h with h; subst h; exact ⟨⟨Try.f78, c78, Try.func78, by kernel_rfl, by decide +kernel⟩, hh78⟩
  · cases h
theorem hh27 : Holds Try.prog 27 Sm27 := holds27 gam27
end Go.Proofs.Ythhopbicmaipgaa.Rx.S
namespace Go.Proofs.Ythhopbicmaipgaa.Rx.S
open Go Go.RowKit Go.Proofs
set_option maxRecDepth 100000
noncomputable def c111 : Code := (Try.f111.body.getD .skip)
def an111 : An := ⟨fun r => match r with | 2 => ⟨[0, 1, 5], []⟩ | _ => ⟨[], []⟩, fun _ _ => none⟩
abbrev ps111 : List PK := [.val (.row 95 tEn) false, .val i64 false]
abbrev rs111 : List RK := [.val i64 false]
abbrev R111 := retsD rs111 × outsD ps111
noncomputable def G111 : Gam := fun f => match f with | 109 => some Sm109 | _ => none
theorem h0_111 (hg : GamOK Try.prog G111) : Holds Try.prog 111 ⟨ps111, rs111, false, runF TT G111 an111 Try.f111 c111 ps111 rs111⟩ := holds_of tt_ok hg mixed Try.func111 (by kernel_rfl) (by rfl) (by decide +kernel)
noncomputable def at111 : Nat → Pt → List Nat → St → Option R111 := atF TT G111 an111 Try.f111 c111 _ _
def sh111_L2 (x0 : List (ByteArray × Int)) (x1 : Int) (x2 : Int) : St := (Go.Proofs.Ythhopbicmaipgaa.Rx.St.mk ((Go.Proofs.Ythhopbicmaipgaa.Rx.AV.one (Go.Proofs.Ythhopbicmaipgaa.Rx.SV.con (⟨95, Go.Proofs.Ythhopbicmaipgaa.Rx.Ty.str.pair (Go.Proofs.Ythhopbicmaipgaa.Rx.Ty.int Go.IntKind.i64), x0⟩ : Rw))) :: ((Go.Proofs.Ythhopbicmaipgaa.Rx.AV.one (Go.Proofs.Ythhopbicmaipgaa.Rx.SV.int (Go.IntKind.i64) x1)) :: (Go.Proofs.Ythhopbicmaipgaa.Rx.AV.undef :: (Go.Proofs.Ythhopbicmaipgaa.Rx.AV.undef :: (Go.Proofs.Ythhopbicmaipgaa.Rx.AV.undef :: ((Go.Proofs.Ythhopbicmaipgaa.Rx.AV.one (Go.Proofs.Ythhopbicmaipgaa.Rx.SV.int (Go.IntKind.i64) x2)) :: (Go.Proofs.Ythhopbicmaipgaa.Rx.AV.undef :: (Go.Proofs.Ythhopbicmaipgaa.Rx.AV.undef :: (Go.Proofs.Ythhopbicmaipgaa.Rx.AV.undef :: (Go.Proofs.Ythhopbicmaipgaa.Rx.AV.undef :: (Go.Proofs.Ythhopbicmaipgaa.Rx.AV.undef :: (Go.Proofs.Ythhopbicmaipgaa.Rx.AV.undef :: (Go.Proofs.Ythhopbicmaipgaa.Rx.AV.undef :: (Go.Proofs.Ythhopbicmaipgaa.Rx.AV.undef :: (Go.Proofs.Ythhopbicmaipgaa.Rx.AV.undef :: (Go.Proofs.Ythhopbicmaipgaa.Rx.AV.undef :: (Go.Proofs.Ythhopbicmaipgaa.Rx.AV.undef :: (Go.Proofs.Ythhopbicmaipgaa.Rx.AV.undef :: (Go.Proofs.Ythhopbicmaipgaa.Rx.AV.undef :: (Go.Proofs.Ythhopbicmaipgaa.Rx.AV.undef :: (Go.Proofs.Ythhopbicmaipgaa.Rx.AV.undef :: (Go.Proofs.Ythhopbicmaipgaa.Rx.AV.undef :: (Go.Proofs.Ythhopbicmaipgaa.Rx.AV.undef :: (Go.Proofs.Ythhopbicmaipgaa.Rx.AV.undef :: (Go.Proofs.Ythhopbicmaipgaa.Rx.AV.undef :: (Go.Proofs.Ythhopbicmaipgaa.Rx.AV.undef :: (Go.Proofs.Ythhopbicmaipgaa.Rx.AV.undef :: (Go.Proofs.Ythhopbicmaipgaa.Rx.AV.undef :: (Go.Proofs.Ythhopbicmaipgaa.Rx.AV.undef :: (Go.Proofs.Ythhopbicmaipgaa.Rx.AV.undef :: (Go.Proofs.Ythhopbicmaipgaa.Rx.AV.undef :: (Go.Proofs.Ythhopbicmaipgaa.Rx.AV.undef :: [])))))))))))))))))))))))))))))))) [])
noncomputable def st111_top (n : Nat) (lL2 : (List (ByteArray × Int)) → Int → Int → Option R111) (a : List (ByteArray × Int)) (b : Int) : Option R111 :=
  lL2 (a) (b) ((0 : Int))
noncomputable def st111_L2 (n : Nat) (lL2 : (List (ByteArray × Int)) → Int → Int → Option R111) (x0 : List (ByteArray × Int)) (x1 : Int) (x2 : Int) : Option R111 :=
  cond (decide (x2 < (↑x0.length : Int))) (cond (decide ((0 : Int) ≤ x2)) (cond (decide (x2 < (↑x0.length : Int))) ((Go.Proofs.Ythhopbicmaipgaa.Rx.S.q109 n (x1, ())).bind fun r1 => cond (!ByteArray.toList (x0.getD x2.toNat (ByteArray.empty, (0 : Int))).fst == ByteArray.toList r1.fst.fst) (some (((-1 : Int), ()), ())) (cond (decide ((0 : Int) ≤ x2)) (cond (decide (x2 < (↑x0.length : Int))) (cond (!decide ((x0.getD x2.toNat (ByteArray.empty, (0 : Int))).snd = Go.IntKind.i64.wrap (x1 + (1 : Int)))) (some (((-1 : Int), ()), ())) (lL2 (x0) (Go.IntKind.i64.wrap (Go.IntKind.i64.wrap (x1 + (1 : Int)) + (1 : Int))) (Go.IntKind.i64.wrap (x2 + (1 : Int))))) (none)) (none))) (none)) (none)) (some ((x1, ()), ()))
theorem e111_top (n : Nat) (a : List (ByteArray × Int)) (b : Int) : runF TT G111 an111 Try.f111 c111 ps111 rs111 n (a, b, ()) = st111_top n (fun x0 x1 x2 => at111 n (.head 2) [n] (sh111_L2 x0 x1 x2)) a b := by kernel_rfl
theorem e111_L2_0 (n : Nat) (x0 : List (ByteArray × Int)) (x1 : Int) (x2 : Int) : at111 n (.head 2) [0] (sh111_L2 x0 x1 x2) = none := by kernel_rfl
theorem e111_L2 (n : Nat) (m2 : Nat) (x0 : List (ByteArray × Int)) (x1 : Int) (x2 : Int) : at111 n (.head 2) [m2 + 1] (sh111_L2 x0 x1 x2) = st111_L2 n (fun x0 x1 x2 => at111 n (.head 2) [m2] (sh111_L2 x0 x1 x2)) x0 x1 x2 := by kernel_rfl
noncomputable def p111_L2 (n : Nat) : Nat → (List (ByteArray × Int)) → Int → Int → Option R111
  | 0, _, _, _ => none
  | m + 1, x0, x1, x2 => st111_L2 n (p111_L2 n m) x0 x1 x2
noncomputable def p111 (n : Nat) (a : List (ByteArray × Int)) (b : Int) : Option R111 := st111_top n (p111_L2 n n) a b
theorem t111_L2 (n : Nat) : ∀ (m2 : Nat) (x0 : List (ByteArray × Int)) (x1 : Int) (x2 : Int), at111 n (.head 2) [m2] (sh111_L2 x0 x1 x2) = p111_L2  n m2 x0 x1 x2 := by
  intro m
  induction m with
  | zero => intros; rw [e111_L2_0]; rfl
  | succ m ih =>
    intros
    rw [e111_L2]
    try simp only [ih]
    rfl
theorem F111_eq (n : Nat) (a : List (ByteArray × Int)) (b : Int) : runF TT G111 an111 Try.f111 c111 ps111 rs111 n (a, b, ()) = p111 n a b := by
  rw [e111_top]
  simp only [t111_L2]
  try rfl
noncomputable def q111 (n : Nat) (x : argsD ps111) : Option R111 := p111 n x.1 x.2.1
noncomputable def Sm111 : Sm := ⟨ps111, rs111, false, q111⟩
theorem holds111 (hg : GamOK Try.prog G111) : Holds Try.prog 111 Sm111 := by
  have := h0_111 hg
  have e : (runF TT G111 an111 Try.f111 c111 ps111 rs111) = q111 := by
    funext n x
    exact F111_eq n x.1 x.2.1
  rw [e] at this
  exact this
theorem gam111 : GamOK Try.prog G111 := by
  intro f s h
  unfold G111 at h
  split at h
  · injection h with h; subst h; exact ⟨⟨Try.f109, c109, Try.func109, by kernel_rfl, by decide +kernel⟩, hh109⟩
  · cases h
theorem hh111 : Holds Try.prog 111 Sm111 := holds111 gam111
end Go.Proofs.Ythhopbicmaipgaa.Rx.S
