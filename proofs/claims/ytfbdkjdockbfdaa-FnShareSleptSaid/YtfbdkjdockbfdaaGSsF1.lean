/- What the functions of this seat compute, each as a plain function on lists and numbers, with the proof that a call answers so. No condition. -/
import Derived.Test.YtfbdkjdockbfdaaGSsF0
namespace Go.Proofs.Ytfbdkjdockbfdaa.Rx.S
open Go Go.RowKit Go.Proofs
set_option maxRecDepth 100000
noncomputable def c32 : Code := (Try.f32.body.getD .skip)
def an32 : An := ⟨fun r => match r with | 2 => ⟨[1, 6, 7, 8], []⟩ | _ => ⟨[], []⟩, fun _ _ => none⟩
abbrev ps32 : List PK := [.val tQu true]
abbrev rs32 : List RK := [.val .bool false]
abbrev R32 := retsD rs32 × outsD ps32
noncomputable def G32 : Gam := fun f => match f with | 42 => some Sm42 | _ => none
theorem h0_32 (hg : GamOK Try.prog G32) : Holds Try.prog 32 ⟨ps32, rs32, false, runF TT G32 an32 Try.f32 c32 ps32 rs32⟩ := holds_of tt_ok hg mixed Try.func32 (by kernel_rfl) (by rfl) (by decide +kernel)
noncomputable def at32 : Nat → Pt → List Nat → St → Option R32 := atF TT G32 an32 Try.f32 c32 _ _
def sh32_L2 (x0 : List (Int × Int × Int × Bool)) (x1 : Int) (x2 : Int) (x3 : List (Int × Int × Int × Bool)) (x4 : Int) : St := (Go.Proofs.Ytfbdkjdockbfdaa.Rx.St.mk (Go.Proofs.Ytfbdkjdockbfdaa.Rx.AV.undef :: ((Go.Proofs.Ytfbdkjdockbfdaa.Rx.AV.one (Go.Proofs.Ytfbdkjdockbfdaa.Rx.SV.bptr 1000000 0)) :: (Go.Proofs.Ytfbdkjdockbfdaa.Rx.AV.undef :: (Go.Proofs.Ytfbdkjdockbfdaa.Rx.AV.undef :: (Go.Proofs.Ytfbdkjdockbfdaa.Rx.AV.undef :: (Go.Proofs.Ytfbdkjdockbfdaa.Rx.AV.undef :: ((Go.Proofs.Ytfbdkjdockbfdaa.Rx.AV.one (Go.Proofs.Ytfbdkjdockbfdaa.Rx.SV.con (⟨63, (Go.Proofs.Ytfbdkjdockbfdaa.Rx.Ty.int Go.IntKind.i64).pair   ((Go.Proofs.Ytfbdkjdockbfdaa.Rx.Ty.int Go.IntKind.i64).pair ((Go.Proofs.Ytfbdkjdockbfdaa.Rx.Ty.int Go.IntKind.i64).pair Go.Proofs.Ytfbdkjdockbfdaa.Rx.Ty.bool)), x0⟩ : Rw))) :: ((Go.Proofs.Ytfbdkjdockbfdaa.Rx.AV.one (Go.Proofs.Ytfbdkjdockbfdaa.Rx.SV.int (Go.IntKind.i64) x1)) :: ((Go.Proofs.Ytfbdkjdockbfdaa.Rx.AV.one (Go.Proofs.Ytfbdkjdockbfdaa.Rx.SV.int (Go.IntKind.i64) x2)) :: (Go.Proofs.Ytfbdkjdockbfdaa.Rx.AV.undef :: (Go.Proofs.Ytfbdkjdockbfdaa.Rx.AV.undef :: (Go.Proofs.Ytfbdkjdockbfdaa.Rx.AV.undef :: (Go.Proofs.Ytfbdkjdockbfdaa.Rx.AV.undef :: (Go.Proofs.Ytfbdkjdockbfdaa.Rx.AV.undef :: (Go.Proofs.Ytfbdkjdockbfdaa.Rx.AV.undef :: (Go.Proofs.Ytfbdkjdockbfdaa.Rx.AV.undef :: (Go.Proofs.Ytfbdkjdockbfdaa.Rx.AV.undef :: (Go.Proofs.Ytfbdkjdockbfdaa.Rx.AV.undef :: (Go.Proofs.Ytfbdkjdockbfdaa.Rx.AV.undef :: (Go.Proofs.Ytfbdkjdockbfdaa.Rx.AV.undef :: (Go.Proofs.Ytfbdkjdockbfdaa.Rx.AV.undef :: (Go.Proofs.Ytfbdkjdockbfdaa.Rx.AV.undef :: (Go.Proofs.Ytfbdkjdockbfdaa.Rx.AV.undef :: (Go.Proofs.Ytfbdkjdockbfdaa.Rx.AV.undef :: (Go.Proofs.Ytfbdkjdockbfdaa.Rx.AV.undef :: (Go.Proofs.Ytfbdkjdockbfdaa.Rx.AV.undef :: (Go.Proofs.Ytfbdkjdockbfdaa.Rx.AV.undef :: (Go.Proofs.Ytfbdkjdockbfdaa.Rx.AV.undef :: (Go.Proofs.Ytfbdkjdockbfdaa.Rx.AV.undef :: (Go.Proofs.Ytfbdkjdockbfdaa.Rx.AV.undef :: (Go.Proofs.Ytfbdkjdockbfdaa.Rx.AV.undef :: (Go.Proofs.Ytfbdkjdockbfdaa.Rx.AV.undef :: (Go.Proofs.Ytfbdkjdockbfdaa.Rx.AV.undef :: (Go.Proofs.Ytfbdkjdockbfdaa.Rx.AV.undef :: (Go.Proofs.Ytfbdkjdockbfdaa.Rx.AV.undef :: (Go.Proofs.Ytfbdkjdockbfdaa.Rx.AV.undef :: (Go.Proofs.Ytfbdkjdockbfdaa.Rx.AV.undef :: (Go.Proofs.Ytfbdkjdockbfdaa.Rx.AV.undef :: (Go.Proofs.Ytfbdkjdockbfdaa.Rx.AV.undef :: (Go.Proofs.Ytfbdkjdockbfdaa.Rx.AV.undef :: (Go.Proofs.Ytfbdkjdockbfdaa.Rx.AV.undef :: (Go.Proofs.Ytfbdkjdockbfdaa.Rx.AV.undef :: (Go.Proofs.Ytfbdkjdockbfdaa.Rx.AV.undef :: (Go.Proofs.Ytfbdkjdockbfdaa.Rx.AV.undef :: (Go.Proofs.Ytfbdkjdockbfdaa.Rx.AV.undef :: (Go.Proofs.Ytfbdkjdockbfdaa.Rx.AV.undef :: (Go.Proofs.Ytfbdkjdockbfdaa.Rx.AV.undef :: (Go.Proofs.Ytfbdkjdockbfdaa.Rx.AV.undef :: (Go.Proofs.Ytfbdkjdockbfdaa.Rx.AV.undef :: (Go.Proofs.Ytfbdkjdockbfdaa.Rx.AV.undef :: (Go.Proofs.Ytfbdkjdockbfdaa.Rx.AV.undef :: (Go.Proofs.Ytfbdkjdockbfdaa.Rx.AV.undef :: (Go.Proofs.Ytfbdkjdockbfdaa.Rx.AV.undef :: (Go.Proofs.Ytfbdkjdockbfdaa.Rx.AV.undef :: (Go.Proofs.Ytfbdkjdockbfdaa.Rx.AV.undef :: (Go.Proofs.Ytfbdkjdockbfdaa.Rx.AV.undef :: (Go.Proofs.Ytfbdkjdockbfdaa.Rx.AV.undef :: (Go.Proofs.Ytfbdkjdockbfdaa.Rx.AV.undef :: (Go.Proofs.Ytfbdkjdockbfdaa.Rx.AV.undef :: (Go.Proofs.Ytfbdkjdockbfdaa.Rx.AV.undef :: (Go.Proofs.Ytfbdkjdockbfdaa.Rx.AV.undef :: (Go.Proofs.Ytfbdkjdockbfdaa.Rx.AV.undef :: (Go.Proofs.Ytfbdkjdockbfdaa.Rx.AV.undef :: (Go.Proofs.Ytfbdkjdockbfdaa.Rx.AV.undef :: (Go.Proofs.Ytfbdkjdockbfdaa.Rx.AV.undef :: (Go.Proofs.Ytfbdkjdockbfdaa.Rx.AV.undef :: [])))))))))))))))))))))))))))))))))))))))))))))))))))))))))))))))))) ((1000000, (Go.Proofs.Ytfbdkjdockbfdaa.Rx.Ent.box ((Go.Proofs.Ytfbdkjdockbfdaa.Rx.SV.con (⟨63, (Go.Proofs.Ytfbdkjdockbfdaa.Rx.Ty.int Go.IntKind.i64).pair   ((Go.Proofs.Ytfbdkjdockbfdaa.Rx.Ty.int Go.IntKind.i64).pair ((Go.Proofs.Ytfbdkjdockbfdaa.Rx.Ty.int Go.IntKind.i64).pair Go.Proofs.Ytfbdkjdockbfdaa.Rx.Ty.bool)), x3⟩ : Rw)) :: ((Go.Proofs.Ytfbdkjdockbfdaa.Rx.SV.int (Go.IntKind.i64) x4) :: [])))) :: []))
noncomputable def st32_top (n : Nat) (lL2 : (List (Int × Int × Int × Bool)) → Int → Int → (List (Int × Int × Int × Bool)) → Int → Option R32) (a : List (Int × Int × Int × Bool) × Int) : Option R32 :=
  lL2 (a.fst) ((↑(List.length a.fst) : Int)) ((0 : Int)) (a.fst) (a.snd)
noncomputable def st32_L2 (n : Nat) (lL2 : (List (Int × Int × Int × Bool)) → Int → Int → (List (Int × Int × Int × Bool)) → Int → Option R32) (x0 : List (Int × Int × Int × Bool)) (x1 : Int) (x2 : Int) (x3 : List (Int × Int × Int × Bool)) (x4 : Int) : Option R32 :=
  cond (decide (x2 < x1)) (cond (decide ((0 : Int) ≤ x2)) (cond (decide (x2 < (↑x0.length : Int))) ((Go.Proofs.Ytfbdkjdockbfdaa.Rx.S.q42 n ((x0.getD x2.toNat ((0 : Int), (0 : Int), (0 : Int), false)).fst, (0 : Int), (99 : Int), ())).bind fun r1 => cond (!r1.fst.fst) (some ((false, ()), ())) ((Go.Proofs.Ytfbdkjdockbfdaa.Rx.S.q42 n ((x0.getD x2.toNat ((0 : Int), (0 : Int), (0 : Int), false)).snd.fst, (1 : Int), (6 : Int), ())).bind fun r2 => cond (!r2.fst.fst) (some ((false, ()), ())) ((Go.Proofs.Ytfbdkjdockbfdaa.Rx.S.q42 n ((x0.getD x2.toNat ((0 : Int), (0 : Int), (0 : Int), false)).snd.snd.fst, (0 : Int), (1000000 : Int), ())).bind fun r3 => cond (!r3.fst.fst) (some ((false, ()), ())) (cond ((x0.getD x2.toNat ((0 : Int), (0 : Int), (0 : Int), false)).snd.snd.snd) (cond (decide ((x0.getD x2.toNat ((0 : Int), (0 : Int), (0 : Int), false)).snd.snd.fst < x4)) (some ((false, ()), ())) (cond (decide ((0 : Int) < x2)) (cond (decide ((0 : Int) ≤ Go.IntKind.i64.wrap (x2 - (1 : Int)))) (cond (decide (Go.IntKind.i64.wrap (x2 - (1 : Int)) < (↑x3.length : Int))) (cond (decide   ((x0.getD x2.toNat ((0 : Int), (0 : Int), (0 : Int), false)).fst ≤     (x3.getD (Go.IntKind.i64.wrap (x2 - (1 : Int))).toNat ((0 : Int), (0 : Int), (0 : Int), false)).fst)) (some ((false, ()), ())) (lL2 (x0) (x1) (Go.IntKind.i64.wrap (x2 + (1 : Int))) (x3) (x4))) (none)) (none)) (lL2 (x0) (x1) (Go.IntKind.i64.wrap (x2 + (1 : Int))) (x3) (x4)))) (cond (decide ((0 : Int) < x2)) (cond (decide ((0 : Int) ≤ Go.IntKind.i64.wrap (x2 - (1 : Int)))) (cond (decide (Go.IntKind.i64.wrap (x2 - (1 : Int)) < (↑x3.length : Int))) (cond (decide   ((x0.getD x2.toNat ((0 : Int), (0 : Int), (0 : Int), false)).fst ≤     (x3.getD (Go.IntKind.i64.wrap (x2 - (1 : Int))).toNat ((0 : Int), (0 : Int), (0 : Int), false)).fst)) (some ((false, ()), ())) (lL2 (x0) (x1) (Go.IntKind.i64.wrap (x2 + (1 : Int))) (x3) (x4))) (none)) (none)) (lL2 (x0) (x1) (Go.IntKind.i64.wrap (x2 + (1 : Int))) (x3) (x4))))))) (none)) (none)) (cond (decide ((↑x3.length : Int) ≤ (6 : Int))) ((Go.Proofs.Ytfbdkjdockbfdaa.Rx.S.q42 n (x4, (0 : Int), (1000000 : Int), ())).bind fun r4 => some ((r4.fst.fst, ()), ())) (some ((false, ()), ())))
theorem e32_top (n : Nat) (a : List (Int × Int × Int × Bool) × Int) : runF TT G32 an32 Try.f32 c32 ps32 rs32 n (a, ()) = st32_top n (fun x0 x1 x2 x3 x4 => at32 n (.head 2) [n] (sh32_L2 x0 x1 x2 x3 x4)) a := by kernel_rfl
theorem e32_L2_0 (n : Nat) (x0 : List (Int × Int × Int × Bool)) (x1 : Int) (x2 : Int) (x3 : List (Int × Int × Int × Bool)) (x4 : Int) : at32 n (.head 2) [0] (sh32_L2 x0 x1 x2 x3 x4) = none := by kernel_rfl
theorem e32_L2 (n : Nat) (m2 : Nat) (x0 : List (Int × Int × Int × Bool)) (x1 : Int) (x2 : Int) (x3 : List (Int × Int × Int × Bool)) (x4 : Int) : at32 n (.head 2) [m2 + 1] (sh32_L2 x0 x1 x2 x3 x4) = st32_L2 n (fun x0 x1 x2 x3 x4 => at32 n (.head 2) [m2] (sh32_L2 x0 x1 x2 x3 x4)) x0 x1 x2 x3 x4 := by kernel_rfl
noncomputable def p32_L2 (n : Nat) : Nat → (List (Int × Int × Int × Bool)) → Int → Int → (List (Int × Int × Int × Bool)) → Int → Option R32
  | 0, _, _, _, _, _ => none
  | m + 1, x0, x1, x2, x3, x4 => st32_L2 n (p32_L2 n m) x0 x1 x2 x3 x4
noncomputable def p32 (n : Nat) (a : List (Int × Int × Int × Bool) × Int) : Option R32 := st32_top n (p32_L2 n n) a
theorem t32_L2 (n : Nat) : ∀ (m2 : Nat) (x0 : List (Int × Int × Int × Bool)) (x1 : Int) (x2 : Int) (x3 : List (Int × Int × Int × Bool)) (x4 : Int), at32 n (.head 2) [m2] (sh32_L2 x0 x1 x2 x3 x4) = p32_L2  n m2 x0 x1 x2 x3 x4 := by
  intro m
  induction m with
  | zero => intros; rw [e32_L2_0]; rfl
  | succ m ih =>
    intros
    rw [e32_L2]
    try simp only [ih]
    rfl
theorem F32_eq (n : Nat) (a : List (Int × Int × Int × Bool) × Int) : runF TT G32 an32 Try.f32 c32 ps32 rs32 n (a, ()) = p32 n a := by
  rw [e32_top]
  simp only [t32_L2]
  try rfl
noncomputable def q32 (n : Nat) (x : argsD ps32) : Option R32 := p32 n x.1
noncomputable def Sm32 : Sm := ⟨ps32, rs32, false, q32⟩
theorem holds32 (hg : GamOK Try.prog G32) : Holds Try.prog 32 Sm32 := by
  have := h0_32 hg
  have e : (runF TT G32 an32 Try.f32 c32 ps32 rs32) = q32 := by
    funext n x
    exact F32_eq n x.1
  rw [e] at this
  exact this
theorem gam32 : GamOK Try.prog G32 := by
  intro f s h
  unfold G32 at h
  split at h
  · injection h with h; subst h; exact ⟨⟨Try.f42, c42, Try.func42, by kernel_rfl, by decide +kernel⟩, hh42⟩
  · cases h
theorem hh32 : Holds Try.prog 32 Sm32 := holds32 gam32
end Go.Proofs.Ytfbdkjdockbfdaa.Rx.S
namespace Go.Proofs.Ytfbdkjdockbfdaa.Rx.S
open Go Go.RowKit Go.Proofs
set_option maxRecDepth 100000
noncomputable def c99 : Code := (Try.f99.body.getD .skip)
def an99 : An := ⟨fun _ => ⟨[], []⟩, fun _ _ => none⟩
abbrev ps99 : List PK := [.val tTh true, .cp i64]
abbrev rs99 : List RK := [.val .bool false]
abbrev R99 := retsD rs99 × outsD ps99
noncomputable def G99 : Gam := fun _ => none
theorem h0_99 (hg : GamOK Try.prog G99) : Holds Try.prog 99 ⟨ps99, rs99, false, runF TT G99 an99 Try.f99 c99 ps99 rs99⟩ := holds_of tt_ok hg mixed Try.func99 (by kernel_rfl) (by rfl) (by decide +kernel)
noncomputable def at99 : Nat → Pt → List Nat → St → Option R99 := atF TT G99 an99 Try.f99 c99 _ _
noncomputable def st99_top (n : Nat)  (a : Int × Int × Int × Bool) (b : Int) : Option R99 :=
  some ((decide (a.fst = [b].getD (0 : Nat) (0 : Int)), ()), ())
theorem e99_top (n : Nat) (a : Int × Int × Int × Bool) (b : Int) : runF TT G99 an99 Try.f99 c99 ps99 rs99 n (a, b, ()) = st99_top n  a b := by kernel_rfl
noncomputable def p99 (n : Nat) (a : Int × Int × Int × Bool) (b : Int) : Option R99 := st99_top n  a b
theorem F99_eq (n : Nat) (a : Int × Int × Int × Bool) (b : Int) : runF TT G99 an99 Try.f99 c99 ps99 rs99 n (a, b, ()) = p99 n a b := by
  rw [e99_top]
  skip
  try rfl
noncomputable def q99 (n : Nat) (x : argsD ps99) : Option R99 := p99 n x.1 x.2.1
noncomputable def Sm99 : Sm := ⟨ps99, rs99, false, q99⟩
theorem holds99 (hg : GamOK Try.prog G99) : Holds Try.prog 99 Sm99 := by
  have := h0_99 hg
  have e : (runF TT G99 an99 Try.f99 c99 ps99 rs99) = q99 := by
    funext n x
    exact F99_eq n x.1 x.2.1
  rw [e] at this
  exact this
theorem gam99 : GamOK Try.prog G99 := fun _ _ h => by cases h
theorem hh99 : Holds Try.prog 99 Sm99 := holds99 gam99
end Go.Proofs.Ytfbdkjdockbfdaa.Rx.S
namespace Go.Proofs.Ytfbdkjdockbfdaa.Rx.S
open Go Go.RowKit Go.Proofs
set_option maxRecDepth 100000
noncomputable def c98 : Code := (Try.f98.body.getD .skip)
def an98 : An := ⟨fun r => match r with | 2 => ⟨[0, 1, 7, 8], []⟩ | _ => ⟨[], []⟩, fun _ _ => none⟩
abbrev ps98 : List PK := [.val (.row 63 tTh) false, .fn 99 [i64]]
abbrev rs98 : List RK := [.val i64 false]
abbrev R98 := retsD rs98 × outsD ps98
noncomputable def G98 : Gam := fun f => match f with | 99 => some Sm99 | _ => none
theorem h0_98 (hg : GamOK Try.prog G98) : Holds Try.prog 98 ⟨ps98, rs98, false, runF TT G98 an98 Try.f98 c98 ps98 rs98⟩ := holds_of tt_ok hg mixed Try.func98 (by kernel_rfl) (by rfl) (by decide +kernel)
noncomputable def at98 : Nat → Pt → List Nat → St → Option R98 := atF TT G98 an98 Try.f98 c98 _ _
def sh98_L2 (x0 : List (Int × Int × Int × Bool)) (x1 : Int) (x2 : Int) (x3 : Int) : St := (Go.Proofs.Ytfbdkjdockbfdaa.Rx.St.mk ((Go.Proofs.Ytfbdkjdockbfdaa.Rx.AV.one (Go.Proofs.Ytfbdkjdockbfdaa.Rx.SV.con (⟨63, (Go.Proofs.Ytfbdkjdockbfdaa.Rx.Ty.int Go.IntKind.i64).pair   ((Go.Proofs.Ytfbdkjdockbfdaa.Rx.Ty.int Go.IntKind.i64).pair ((Go.Proofs.Ytfbdkjdockbfdaa.Rx.Ty.int Go.IntKind.i64).pair Go.Proofs.Ytfbdkjdockbfdaa.Rx.Ty.bool)), x0⟩ : Rw))) :: ((Go.Proofs.Ytfbdkjdockbfdaa.Rx.AV.fn 99 ((Go.Proofs.Ytfbdkjdockbfdaa.Rx.SV.cptr (⟨0, Go.Proofs.Ytfbdkjdockbfdaa.Rx.Ty.int Go.IntKind.i64, [x1]⟩ : Rw) 0 0) :: [])) :: (Go.Proofs.Ytfbdkjdockbfdaa.Rx.AV.undef :: (Go.Proofs.Ytfbdkjdockbfdaa.Rx.AV.undef :: (Go.Proofs.Ytfbdkjdockbfdaa.Rx.AV.undef :: (Go.Proofs.Ytfbdkjdockbfdaa.Rx.AV.undef :: (Go.Proofs.Ytfbdkjdockbfdaa.Rx.AV.undef :: ((Go.Proofs.Ytfbdkjdockbfdaa.Rx.AV.one (Go.Proofs.Ytfbdkjdockbfdaa.Rx.SV.int (Go.IntKind.i64) x2)) :: ((Go.Proofs.Ytfbdkjdockbfdaa.Rx.AV.one (Go.Proofs.Ytfbdkjdockbfdaa.Rx.SV.int (Go.IntKind.i64) x3)) :: (Go.Proofs.Ytfbdkjdockbfdaa.Rx.AV.undef :: (Go.Proofs.Ytfbdkjdockbfdaa.Rx.AV.undef :: (Go.Proofs.Ytfbdkjdockbfdaa.Rx.AV.undef :: (Go.Proofs.Ytfbdkjdockbfdaa.Rx.AV.undef :: (Go.Proofs.Ytfbdkjdockbfdaa.Rx.AV.undef :: (Go.Proofs.Ytfbdkjdockbfdaa.Rx.AV.undef :: (Go.Proofs.Ytfbdkjdockbfdaa.Rx.AV.undef :: (Go.Proofs.Ytfbdkjdockbfdaa.Rx.AV.undef :: (Go.Proofs.Ytfbdkjdockbfdaa.Rx.AV.undef :: (Go.Proofs.Ytfbdkjdockbfdaa.Rx.AV.undef :: []))))))))))))))))))) [])
noncomputable def st98_top (n : Nat) (lL2 : (List (Int × Int × Int × Bool)) → Int → Int → Int → Option R98) (a : List (Int × Int × Int × Bool)) (b : Int × Unit) : Option R98 :=
  lL2 (a) (b.fst) ((↑a.length : Int)) ((0 : Int))
noncomputable def st98_L2 (n : Nat) (lL2 : (List (Int × Int × Int × Bool)) → Int → Int → Int → Option R98) (x0 : List (Int × Int × Int × Bool)) (x1 : Int) (x2 : Int) (x3 : Int) : Option R98 :=
  cond (decide (x3 < x2)) (cond (decide ((0 : Int) ≤ x3)) (cond (decide (x3 < (↑x0.length : Int))) ((Go.Proofs.Ytfbdkjdockbfdaa.Rx.S.q99 n   (((x0.getD x3.toNat ((0 : Int), (0 : Int), (0 : Int), false)).fst,       (x0.getD x3.toNat ((0 : Int), (0 : Int), (0 : Int), false)).snd.fst,       (x0.getD x3.toNat ((0 : Int), (0 : Int), (0 : Int), false)).snd.snd.fst,       (x0.getD x3.toNat ((0 : Int), (0 : Int), (0 : Int), false)).snd.snd.snd),     x1, ())).bind fun r1 => cond (r1.fst.fst) (some ((x3, ()), ())) (lL2 (x0) (x1) (x2) (Go.IntKind.i64.wrap (x3 + (1 : Int))))) (none)) (none)) (some (((-1 : Int), ()), ()))
theorem e98_top (n : Nat) (a : List (Int × Int × Int × Bool)) (b : Int × Unit) : runF TT G98 an98 Try.f98 c98 ps98 rs98 n (a, b, ()) = st98_top n (fun x0 x1 x2 x3 => at98 n (.head 2) [n] (sh98_L2 x0 x1 x2 x3)) a b := by kernel_rfl
theorem e98_L2_0 (n : Nat) (x0 : List (Int × Int × Int × Bool)) (x1 : Int) (x2 : Int) (x3 : Int) : at98 n (.head 2) [0] (sh98_L2 x0 x1 x2 x3) = none := by kernel_rfl
theorem e98_L2 (n : Nat) (m2 : Nat) (x0 : List (Int × Int × Int × Bool)) (x1 : Int) (x2 : Int) (x3 : Int) : at98 n (.head 2) [m2 + 1] (sh98_L2 x0 x1 x2 x3) = st98_L2 n (fun x0 x1 x2 x3 => at98 n (.head 2) [m2] (sh98_L2 x0 x1 x2 x3)) x0 x1 x2 x3 := by kernel_rfl
noncomputable def p98_L2 (n : Nat) : Nat → (List (Int × Int × Int × Bool)) → Int → Int → Int → Option R98
  | 0, _, _, _, _ => none
  | m + 1, x0, x1, x2, x3 => st98_L2 n (p98_L2 n m) x0 x1 x2 x3
noncomputable def p98 (n : Nat) (a : List (Int × Int × Int × Bool)) (b : Int × Unit) : Option R98 := st98_top n (p98_L2 n n) a b
theorem t98_L2 (n : Nat) : ∀ (m2 : Nat) (x0 : List (Int × Int × Int × Bool)) (x1 : Int) (x2 : Int) (x3 : Int), at98 n (.head 2) [m2] (sh98_L2 x0 x1 x2 x3) = p98_L2  n m2 x0 x1 x2 x3 := by
  intro m
  induction m with
  | zero => intros; rw [e98_L2_0]; rfl
  | succ m ih =>
    intros
    rw [e98_L2]
    try simp only [ih]
    rfl
theorem F98_eq (n : Nat) (a : List (Int × Int × Int × Bool)) (b : Int × Unit) : runF TT G98 an98 Try.f98 c98 ps98 rs98 n (a, b, ()) = p98 n a b := by
  rw [e98_top]
  simp only [t98_L2]
  try rfl
noncomputable def q98 (n : Nat) (x : argsD ps98) : Option R98 := p98 n x.1 x.2.1
noncomputable def Sm98 : Sm := ⟨ps98, rs98, false, q98⟩
theorem holds98 (hg : GamOK Try.prog G98) : Holds Try.prog 98 Sm98 := by
  have := h0_98 hg
  have e : (runF TT G98 an98 Try.f98 c98 ps98 rs98) = q98 := by
    funext n x
    exact F98_eq n x.1 x.2.1
  rw [e] at this
  exact this
theorem gam98 : GamOK Try.prog G98 := by
  intro f s h
  unfold G98 at h
  split at h
  · injection h with h; subst h; exact ⟨⟨Try.f99, c99, Try.func99, by kernel_rfl, by decide +kernel⟩, hh99⟩
  · cases h
theorem hh98 : Holds Try.prog 98 Sm98 := holds98 gam98
end Go.Proofs.Ytfbdkjdockbfdaa.Rx.S
namespace Go.Proofs.Ytfbdkjdockbfdaa.Rx.S
open Go Go.RowKit Go.Proofs
set_option maxRecDepth 100000
noncomputable def c77 : Code := (Try.f77.body.getD .skip)
def an77 : An := ⟨fun _ => ⟨[], []⟩, fun _ _ => none⟩
abbrev ps77 : List PK := [.val tQu true, .val i64 false]
abbrev rs77 : List RK := [.val i64 false]
abbrev R77 := retsD rs77 × outsD ps77
noncomputable def G77 : Gam := fun f => match f with | 98 => some Sm98 | _ => none
theorem h0_77 (hg : GamOK Try.prog G77) : Holds Try.prog 77 ⟨ps77, rs77, false, runF TT G77 an77 Try.f77 c77 ps77 rs77⟩ := holds_of tt_ok hg mixed Try.func77 (by kernel_rfl) (by rfl) (by decide +kernel)
noncomputable def at77 : Nat → Pt → List Nat → St → Option R77 := atF TT G77 an77 Try.f77 c77 _ _
noncomputable def st77_top (n : Nat)  (a : List (Int × Int × Int × Bool) × Int) (b : Int) : Option R77 :=
  (Go.Proofs.Ytfbdkjdockbfdaa.Rx.S.q98 n (a.fst, (b, ()), ())).bind fun r0 => some ((r0.fst.fst, ()), ())
theorem e77_top (n : Nat) (a : List (Int × Int × Int × Bool) × Int) (b : Int) : runF TT G77 an77 Try.f77 c77 ps77 rs77 n (a, b, ()) = st77_top n  a b := by kernel_rfl
noncomputable def p77 (n : Nat) (a : List (Int × Int × Int × Bool) × Int) (b : Int) : Option R77 := st77_top n  a b
theorem F77_eq (n : Nat) (a : List (Int × Int × Int × Bool) × Int) (b : Int) : runF TT G77 an77 Try.f77 c77 ps77 rs77 n (a, b, ()) = p77 n a b := by
  rw [e77_top]
  skip
  try rfl
noncomputable def q77 (n : Nat) (x : argsD ps77) : Option R77 := p77 n x.1 x.2.1
noncomputable def Sm77 : Sm := ⟨ps77, rs77, false, q77⟩
theorem holds77 (hg : GamOK Try.prog G77) : Holds Try.prog 77 Sm77 := by
  have := h0_77 hg
  have e : (runF TT G77 an77 Try.f77 c77 ps77 rs77) = q77 := by
    funext n x
    exact F77_eq n x.1 x.2.1
  rw [e] at this
  exact this
theorem gam77 : GamOK Try.prog G77 := by
  intro f s h
  unfold G77 at h
  split at h
  · injection h with h; subst h; exact ⟨⟨Try.f98, c98, Try.func98, by kernel_rfl, by decide +kernel⟩, hh98⟩
  · cases h
theorem hh77 : Holds Try.prog 77 Sm77 := holds77 gam77
end Go.Proofs.Ytfbdkjdockbfdaa.Rx.S
namespace Go.Proofs.Ytfbdkjdockbfdaa.Rx.S
open Go Go.RowKit Go.Proofs
set_option maxRecDepth 100000
noncomputable def c100 : Code := (Try.f100.body.getD .skip)
abbrev ps100 : List PK := [.val (.row 63 tTh) false]
abbrev rs100 : List RK := [.own (.row 63 tTh) false]
abbrev R100 := retsD rs100 × outsD ps100
noncomputable def p100 (n : Nat) (a : List (Int × Int × Int × Bool)) : Option R100 := cond (decide ((0 + a.length) * (32 : Nat) ≤ (140737488355328 : Nat))) (some ((a, ()), ())) none
noncomputable def q100 (n : Nat) (x : argsD ps100) : Option R100 := p100 n x.1
noncomputable def Sm100 : Sm := ⟨ps100, rs100, false, q100⟩
noncomputable def S0_100 (n : Nat) (xs : List (Int × Int × Int × Bool)) : St := (initS Try.f100.ntmps ps100 (xs, ())).put (some 2) (.one .nil)
noncomputable def S1_100 (n : Nat) (xs : List (Int × Int × Int × Bool)) : St := (S0_100 n xs).put (some 3) (.one (.con ⟨63, tTh, xs⟩))
theorem gam0_100 : GamOK Try.prog (fun _ => none) := fun f s h => by cases h
theorem hh100 : Holds Try.prog 100 Sm100 := by
  refine holds_nilq tt_ok gam0_100 mixed (an := ⟨fun _ => ⟨[], []⟩, fun _ _ => none⟩) Try.func100 (by rfl) rfl (by first | exact Try.underlying52 | kernel_rfl) (by decide +kernel) S0_100 (fun n xs => by kernel_rfl) S1_100 (fun n xs => by kernel_rfl) (fun n xs => rfl) (fun n xs b => by kernel_rfl) (fun n y h => ?_) (fun n xs y h => ?_)
  · have h' : some (([], ()), ()) = some y := h
    refine Eq.trans ?_ h'
    kernel_rfl
  · have h' : cond (decide ((0 + xs.length) * (32 : Nat) ≤ (140737488355328 : Nat))) (some ((xs, ()), ())) none = some y := h
    refine Eq.trans ?_ h'
    kernel_rfl
end Go.Proofs.Ytfbdkjdockbfdaa.Rx.S
namespace Go.Proofs.Ytfbdkjdockbfdaa.Rx.S
open Go Go.RowKit Go.Proofs
set_option maxRecDepth 100000
noncomputable def c78 : Code := (Try.f78.body.getD .skip)
def an78 : An := ⟨fun _ => ⟨[], []⟩, fun _ _ => none⟩
abbrev ps78 : List PK := [.val tQu true]
abbrev rs78 : List RK := [.own tQu true]
abbrev R78 := retsD rs78 × outsD ps78
noncomputable def G78 : Gam := fun f => match f with | 100 => some Sm100 | _ => none
theorem h0_78 (hg : GamOK Try.prog G78) : Holds Try.prog 78 ⟨ps78, rs78, false, runF TT G78 an78 Try.f78 c78 ps78 rs78⟩ := holds_of tt_ok hg mixed Try.func78 (by kernel_rfl) (by rfl) (by decide +kernel)
noncomputable def at78 : Nat → Pt → List Nat → St → Option R78 := atF TT G78 an78 Try.f78 c78 _ _
noncomputable def st78_top (n : Nat)  (a : List (Int × Int × Int × Bool) × Int) : Option R78 :=
  (Go.Proofs.Ytfbdkjdockbfdaa.Rx.S.q100 n (a.fst, ())).bind fun r0 => some (((r0.fst.fst, a.snd), ()), ())
theorem e78_top (n : Nat) (a : List (Int × Int × Int × Bool) × Int) : runF TT G78 an78 Try.f78 c78 ps78 rs78 n (a, ()) = st78_top n  a := by kernel_rfl
noncomputable def p78 (n : Nat) (a : List (Int × Int × Int × Bool) × Int) : Option R78 := st78_top n  a
theorem F78_eq (n : Nat) (a : List (Int × Int × Int × Bool) × Int) : runF TT G78 an78 Try.f78 c78 ps78 rs78 n (a, ()) = p78 n a := by
  rw [e78_top]
  skip
  try rfl
noncomputable def q78 (n : Nat) (x : argsD ps78) : Option R78 := p78 n x.1
noncomputable def Sm78 : Sm := ⟨ps78, rs78, false, q78⟩
theorem holds78 (hg : GamOK Try.prog G78) : Holds Try.prog 78 Sm78 := by
  have := h0_78 hg
  have e : (runF TT G78 an78 Try.f78 c78 ps78 rs78) = q78 := by
    funext n x
    exact F78_eq n x.1
  rw [e] at this
  exact this
theorem gam78 : GamOK Try.prog G78 := by
  intro f s h
  unfold G78 at h
  split at h
  · injection h with h; subst h; exact ⟨⟨Try.f100, c100, Try.func100, by kernel_rfl, by decide +kernel⟩, hh100⟩
  · cases h
theorem hh78 : Holds Try.prog 78 Sm78 := holds78 gam78
end Go.Proofs.Ytfbdkjdockbfdaa.Rx.S
namespace Go.Proofs.Ytfbdkjdockbfdaa.Rx.S
open Go Go.RowKit Go.Proofs
set_option maxRecDepth 100000
noncomputable def c27 : Code := (Try.f27.body.getD .skip)
def an27 : An := ⟨fun _ => ⟨[], []⟩, fun _ _ => none⟩
abbrev ps27 : List PK := [.val tQu true, .val i64 false]
abbrev rs27 : List RK := [.own tQu true, .val .bool false]
abbrev R27 := retsD rs27 × outsD ps27
noncomputable def G27 : Gam := fun f => match f with | 32 => some Sm32 | 77 => some Sm77 | 78 => some Sm78 | _ => none
theorem h0_27 (hg : GamOK Try.prog G27) : Holds Try.prog 27 ⟨ps27, rs27, false, runF TT G27 an27 Try.f27 c27 ps27 rs27⟩ := holds_of tt_ok hg mixed Try.func27 (by kernel_rfl) (by rfl) (by decide +kernel)
noncomputable def at27 : Nat → Pt → List Nat → St → Option R27 := atF TT G27 an27 Try.f27 c27 _ _
noncomputable def st27_top (n : Nat)  (a : List (Int × Int × Int × Bool) × Int) (b : Int) : Option R27 :=
  (Go.Proofs.Ytfbdkjdockbfdaa.Rx.S.q77 n ((a.fst, a.snd), b, ())).bind fun r0 => (Go.Proofs.Ytfbdkjdockbfdaa.Rx.S.q32 n ((a.fst, a.snd), ())).bind fun r1 => cond (!r1.fst.fst) (some ((([], (0 : Int)), (false, ())), ())) (cond (decide (r0.fst.fst < (0 : Int))) (some ((([], (0 : Int)), (false, ())), ())) ((Go.Proofs.Ytfbdkjdockbfdaa.Rx.S.q78 n ((a.fst, a.snd), ())).bind fun r2 => cond (decide ((0 : Int) ≤ r0.fst.fst)) (cond (decide (r0.fst.fst < (↑(List.length r2.fst.fst.fst) : Int))) (some (((List.set r2.fst.fst.fst (Int.toNat r0.fst.fst)   ((List.getD r2.fst.fst.fst (Int.toNat r0.fst.fst) ((0 : Int), (0 : Int), (0 : Int), false)).fst,     (List.getD r2.fst.fst.fst (Int.toNat r0.fst.fst) ((0 : Int), (0 : Int), (0 : Int), false)).snd.fst,     (List.getD r2.fst.fst.fst (Int.toNat r0.fst.fst) ((0 : Int), (0 : Int), (0 : Int), false)).snd.snd.fst, false), r2.fst.fst.snd), (true, ())), ())) (none)) (none)))
theorem e27_top (n : Nat) (a : List (Int × Int × Int × Bool) × Int) (b : Int) : runF TT G27 an27 Try.f27 c27 ps27 rs27 n (a, b, ()) = st27_top n  a b := by kernel_rfl
noncomputable def p27 (n : Nat) (a : List (Int × Int × Int × Bool) × Int) (b : Int) : Option R27 := st27_top n  a b
theorem F27_eq (n : Nat) (a : List (Int × Int × Int × Bool) × Int) (b : Int) : runF TT G27 an27 Try.f27 c27 ps27 rs27 n (a, b, ()) = p27 n a b := by
  rw [e27_top]
  skip
  try rfl
noncomputable def q27 (n : Nat) (x : argsD ps27) : Option R27 := p27 n x.1 x.2.1
noncomputable def Sm27 : Sm := ⟨ps27, rs27, false, q27⟩
theorem holds27 (hg : GamOK Try.prog G27) : Holds Try.prog 27 Sm27 := by
  have := h0_27 hg
  have e : (runF TT G27 an27 Try.f27 c27 ps27 rs27) = q27 := by
    funext n x
    exact F27_eq n x.1 x.2.1
  rw [e] at this
  exact this
theorem gam27 : GamOK Try.prog G27 := by
  intro f s h
  unfold G27 at h
  split at h
  · injection h with h; subst h; exact ⟨⟨Try.f32, c32, Try.func32, by kernel_rfl, by decide +kernel⟩, hh32⟩
  · injection h with h; subst h; exact ⟨⟨Try.f77, c77, Try.func77, by kernel_rfl, by decide +kernel⟩, hh77⟩
  · injection h with h; subst h; exact ⟨⟨Try.f78, c78, Try.func78, by kernel_rfl, by decide +kernel⟩, hh78⟩
  · cases h
theorem hh27 : Holds Try.prog 27 Sm27 := holds27 gam27
end Go.Proofs.Ytfbdkjdockbfdaa.Rx.S
namespace Go.Proofs.Ytfbdkjdockbfdaa.Rx.S
open Go Go.RowKit Go.Proofs
set_option maxRecDepth 100000
noncomputable def c80 : Code := (Try.f80.body.getD .skip)
def an80 : An := ⟨fun r => match r with | 2 => ⟨[1, 3], []⟩ | _ => ⟨[], []⟩, fun _ _ => none⟩
abbrev ps80 : List PK := [.val tQu true]
abbrev rs80 : List RK := [.val .bool false]
abbrev R80 := retsD rs80 × outsD ps80
noncomputable def G80 : Gam := fun f => match f with | 46 => some Sm46 | _ => none
theorem h0_80 (hg : GamOK Try.prog G80) : Holds Try.prog 80 ⟨ps80, rs80, false, runF TT G80 an80 Try.f80 c80 ps80 rs80⟩ := holds_of tt_ok hg mixed Try.func80 (by kernel_rfl) (by rfl) (by decide +kernel)
noncomputable def at80 : Nat → Pt → List Nat → St → Option R80 := atF TT G80 an80 Try.f80 c80 _ _
def sh80_L2 (x0 : Int) (x1 : List (Int × Int × Int × Bool)) (x2 : Int) : St := (Go.Proofs.Ytfbdkjdockbfdaa.Rx.St.mk (Go.Proofs.Ytfbdkjdockbfdaa.Rx.AV.undef :: ((Go.Proofs.Ytfbdkjdockbfdaa.Rx.AV.one (Go.Proofs.Ytfbdkjdockbfdaa.Rx.SV.bptr 1000000 0)) :: (Go.Proofs.Ytfbdkjdockbfdaa.Rx.AV.undef :: ((Go.Proofs.Ytfbdkjdockbfdaa.Rx.AV.one (Go.Proofs.Ytfbdkjdockbfdaa.Rx.SV.int (Go.IntKind.i64) x0)) :: (Go.Proofs.Ytfbdkjdockbfdaa.Rx.AV.undef :: (Go.Proofs.Ytfbdkjdockbfdaa.Rx.AV.undef :: (Go.Proofs.Ytfbdkjdockbfdaa.Rx.AV.undef :: (Go.Proofs.Ytfbdkjdockbfdaa.Rx.AV.undef :: (Go.Proofs.Ytfbdkjdockbfdaa.Rx.AV.undef :: (Go.Proofs.Ytfbdkjdockbfdaa.Rx.AV.undef :: (Go.Proofs.Ytfbdkjdockbfdaa.Rx.AV.undef :: (Go.Proofs.Ytfbdkjdockbfdaa.Rx.AV.undef :: (Go.Proofs.Ytfbdkjdockbfdaa.Rx.AV.undef :: (Go.Proofs.Ytfbdkjdockbfdaa.Rx.AV.undef :: (Go.Proofs.Ytfbdkjdockbfdaa.Rx.AV.undef :: (Go.Proofs.Ytfbdkjdockbfdaa.Rx.AV.undef :: (Go.Proofs.Ytfbdkjdockbfdaa.Rx.AV.undef :: (Go.Proofs.Ytfbdkjdockbfdaa.Rx.AV.undef :: (Go.Proofs.Ytfbdkjdockbfdaa.Rx.AV.undef :: (Go.Proofs.Ytfbdkjdockbfdaa.Rx.AV.undef :: (Go.Proofs.Ytfbdkjdockbfdaa.Rx.AV.undef :: (Go.Proofs.Ytfbdkjdockbfdaa.Rx.AV.undef :: (Go.Proofs.Ytfbdkjdockbfdaa.Rx.AV.undef :: (Go.Proofs.Ytfbdkjdockbfdaa.Rx.AV.undef :: (Go.Proofs.Ytfbdkjdockbfdaa.Rx.AV.undef :: (Go.Proofs.Ytfbdkjdockbfdaa.Rx.AV.undef :: (Go.Proofs.Ytfbdkjdockbfdaa.Rx.AV.undef :: (Go.Proofs.Ytfbdkjdockbfdaa.Rx.AV.undef :: (Go.Proofs.Ytfbdkjdockbfdaa.Rx.AV.undef :: (Go.Proofs.Ytfbdkjdockbfdaa.Rx.AV.undef :: (Go.Proofs.Ytfbdkjdockbfdaa.Rx.AV.undef :: (Go.Proofs.Ytfbdkjdockbfdaa.Rx.AV.undef :: (Go.Proofs.Ytfbdkjdockbfdaa.Rx.AV.undef :: (Go.Proofs.Ytfbdkjdockbfdaa.Rx.AV.undef :: (Go.Proofs.Ytfbdkjdockbfdaa.Rx.AV.undef :: (Go.Proofs.Ytfbdkjdockbfdaa.Rx.AV.undef :: (Go.Proofs.Ytfbdkjdockbfdaa.Rx.AV.undef :: (Go.Proofs.Ytfbdkjdockbfdaa.Rx.AV.undef :: (Go.Proofs.Ytfbdkjdockbfdaa.Rx.AV.undef :: (Go.Proofs.Ytfbdkjdockbfdaa.Rx.AV.undef :: (Go.Proofs.Ytfbdkjdockbfdaa.Rx.AV.undef :: (Go.Proofs.Ytfbdkjdockbfdaa.Rx.AV.undef :: (Go.Proofs.Ytfbdkjdockbfdaa.Rx.AV.undef :: (Go.Proofs.Ytfbdkjdockbfdaa.Rx.AV.undef :: (Go.Proofs.Ytfbdkjdockbfdaa.Rx.AV.undef :: (Go.Proofs.Ytfbdkjdockbfdaa.Rx.AV.undef :: (Go.Proofs.Ytfbdkjdockbfdaa.Rx.AV.undef :: (Go.Proofs.Ytfbdkjdockbfdaa.Rx.AV.undef :: (Go.Proofs.Ytfbdkjdockbfdaa.Rx.AV.undef :: (Go.Proofs.Ytfbdkjdockbfdaa.Rx.AV.undef :: (Go.Proofs.Ytfbdkjdockbfdaa.Rx.AV.undef :: (Go.Proofs.Ytfbdkjdockbfdaa.Rx.AV.undef :: (Go.Proofs.Ytfbdkjdockbfdaa.Rx.AV.undef :: (Go.Proofs.Ytfbdkjdockbfdaa.Rx.AV.undef :: (Go.Proofs.Ytfbdkjdockbfdaa.Rx.AV.undef :: (Go.Proofs.Ytfbdkjdockbfdaa.Rx.AV.undef :: (Go.Proofs.Ytfbdkjdockbfdaa.Rx.AV.undef :: (Go.Proofs.Ytfbdkjdockbfdaa.Rx.AV.undef :: (Go.Proofs.Ytfbdkjdockbfdaa.Rx.AV.undef :: (Go.Proofs.Ytfbdkjdockbfdaa.Rx.AV.undef :: (Go.Proofs.Ytfbdkjdockbfdaa.Rx.AV.undef :: (Go.Proofs.Ytfbdkjdockbfdaa.Rx.AV.undef :: (Go.Proofs.Ytfbdkjdockbfdaa.Rx.AV.undef :: (Go.Proofs.Ytfbdkjdockbfdaa.Rx.AV.undef :: (Go.Proofs.Ytfbdkjdockbfdaa.Rx.AV.undef :: (Go.Proofs.Ytfbdkjdockbfdaa.Rx.AV.undef :: (Go.Proofs.Ytfbdkjdockbfdaa.Rx.AV.undef :: (Go.Proofs.Ytfbdkjdockbfdaa.Rx.AV.undef :: (Go.Proofs.Ytfbdkjdockbfdaa.Rx.AV.undef :: []))))))))))))))))))))))))))))))))))))))))))))))))))))))))))))))))))))) ((1000000, (Go.Proofs.Ytfbdkjdockbfdaa.Rx.Ent.box ((Go.Proofs.Ytfbdkjdockbfdaa.Rx.SV.con (⟨63, (Go.Proofs.Ytfbdkjdockbfdaa.Rx.Ty.int Go.IntKind.i64).pair   ((Go.Proofs.Ytfbdkjdockbfdaa.Rx.Ty.int Go.IntKind.i64).pair ((Go.Proofs.Ytfbdkjdockbfdaa.Rx.Ty.int Go.IntKind.i64).pair Go.Proofs.Ytfbdkjdockbfdaa.Rx.Ty.bool)), x1⟩ : Rw)) :: ((Go.Proofs.Ytfbdkjdockbfdaa.Rx.SV.int (Go.IntKind.i64) x2) :: [])))) :: []))
noncomputable def st80_top (n : Nat) (lL2 : Int → (List (Int × Int × Int × Bool)) → Int → Option R80) (a : List (Int × Int × Int × Bool) × Int) : Option R80 :=
  lL2 ((0 : Int)) (a.fst) (a.snd)
noncomputable def st80_L2 (n : Nat) (lL2 : Int → (List (Int × Int × Int × Bool)) → Int → Option R80) (x0 : Int) (x1 : List (Int × Int × Int × Bool)) (x2 : Int) : Option R80 :=
  cond (decide (x0 < (↑x1.length : Int))) (cond (decide ((0 : Int) ≤ x0)) (cond (decide (x0 < (↑x1.length : Int))) ((Go.Proofs.Ytfbdkjdockbfdaa.Rx.S.q46 n ((x1.getD x0.toNat ((0 : Int), (0 : Int), (0 : Int), false)).fst, (0 : Int), (99 : Int), ())).bind fun r1 => cond (!r1.fst.fst) (some ((false, ()), ())) ((Go.Proofs.Ytfbdkjdockbfdaa.Rx.S.q46 n ((x1.getD x0.toNat ((0 : Int), (0 : Int), (0 : Int), false)).snd.fst, (1 : Int), (6 : Int), ())).bind fun r2 => cond (!r2.fst.fst) (some ((false, ()), ())) ((Go.Proofs.Ytfbdkjdockbfdaa.Rx.S.q46 n ((x1.getD x0.toNat ((0 : Int), (0 : Int), (0 : Int), false)).snd.snd.fst, (0 : Int), (1000000 : Int), ())).bind fun r3 => cond (!r3.fst.fst) (some ((false, ()), ())) (cond (decide ((0 : Int) < x0)) (cond (decide ((0 : Int) ≤ Go.IntKind.i64.wrap (x0 - (1 : Int)))) (cond (decide (Go.IntKind.i64.wrap (x0 - (1 : Int)) < (↑x1.length : Int))) (cond (decide   ((x1.getD x0.toNat ((0 : Int), (0 : Int), (0 : Int), false)).fst ≤     (x1.getD (Go.IntKind.i64.wrap (x0 - (1 : Int))).toNat ((0 : Int), (0 : Int), (0 : Int), false)).fst)) (some ((false, ()), ())) (cond ((x1.getD x0.toNat ((0 : Int), (0 : Int), (0 : Int), false)).snd.snd.snd) (cond (decide ((x1.getD x0.toNat ((0 : Int), (0 : Int), (0 : Int), false)).snd.snd.fst < x2)) (some ((false, ()), ())) (lL2 (Go.IntKind.i64.wrap (x0 + (1 : Int))) (x1) (x2))) (lL2 (Go.IntKind.i64.wrap (x0 + (1 : Int))) (x1) (x2)))) (none)) (none)) (cond ((x1.getD x0.toNat ((0 : Int), (0 : Int), (0 : Int), false)).snd.snd.snd) (cond (decide ((x1.getD x0.toNat ((0 : Int), (0 : Int), (0 : Int), false)).snd.snd.fst < x2)) (some ((false, ()), ())) (lL2 (Go.IntKind.i64.wrap (x0 + (1 : Int))) (x1) (x2))) (lL2 (Go.IntKind.i64.wrap (x0 + (1 : Int))) (x1) (x2))))))) (none)) (none)) (cond (decide ((↑x1.length : Int) ≤ (6 : Int))) ((Go.Proofs.Ytfbdkjdockbfdaa.Rx.S.q46 n (x2, (0 : Int), (1000000 : Int), ())).bind fun r4 => some ((r4.fst.fst, ()), ())) (some ((false, ()), ())))
theorem e80_top (n : Nat) (a : List (Int × Int × Int × Bool) × Int) : runF TT G80 an80 Try.f80 c80 ps80 rs80 n (a, ()) = st80_top n (fun x0 x1 x2 => at80 n (.head 2) [n] (sh80_L2 x0 x1 x2)) a := by kernel_rfl
theorem e80_L2_0 (n : Nat) (x0 : Int) (x1 : List (Int × Int × Int × Bool)) (x2 : Int) : at80 n (.head 2) [0] (sh80_L2 x0 x1 x2) = none := by kernel_rfl
theorem e80_L2 (n : Nat) (m2 : Nat) (x0 : Int) (x1 : List (Int × Int × Int × Bool)) (x2 : Int) : at80 n (.head 2) [m2 + 1] (sh80_L2 x0 x1 x2) = st80_L2 n (fun x0 x1 x2 => at80 n (.head 2) [m2] (sh80_L2 x0 x1 x2)) x0 x1 x2 := by kernel_rfl
noncomputable def p80_L2 (n : Nat) : Nat → Int → (List (Int × Int × Int × Bool)) → Int → Option R80
  | 0, _, _, _ => none
  | m + 1, x0, x1, x2 => st80_L2 n (p80_L2 n m) x0 x1 x2
noncomputable def p80 (n : Nat) (a : List (Int × Int × Int × Bool) × Int) : Option R80 := st80_top n (p80_L2 n n) a
theorem t80_L2 (n : Nat) : ∀ (m2 : Nat) (x0 : Int) (x1 : List (Int × Int × Int × Bool)) (x2 : Int), at80 n (.head 2) [m2] (sh80_L2 x0 x1 x2) = p80_L2  n m2 x0 x1 x2 := by
  intro m
  induction m with
  | zero => intros; rw [e80_L2_0]; rfl
  | succ m ih =>
    intros
    rw [e80_L2]
    try simp only [ih]
    rfl
theorem F80_eq (n : Nat) (a : List (Int × Int × Int × Bool) × Int) : runF TT G80 an80 Try.f80 c80 ps80 rs80 n (a, ()) = p80 n a := by
  rw [e80_top]
  simp only [t80_L2]
  try rfl
noncomputable def q80 (n : Nat) (x : argsD ps80) : Option R80 := p80 n x.1
noncomputable def Sm80 : Sm := ⟨ps80, rs80, false, q80⟩
theorem holds80 (hg : GamOK Try.prog G80) : Holds Try.prog 80 Sm80 := by
  have := h0_80 hg
  have e : (runF TT G80 an80 Try.f80 c80 ps80 rs80) = q80 := by
    funext n x
    exact F80_eq n x.1
  rw [e] at this
  exact this
theorem gam80 : GamOK Try.prog G80 := by
  intro f s h
  unfold G80 at h
  split at h
  · injection h with h; subst h; exact ⟨⟨Try.f46, c46, Try.func46, by kernel_rfl, by decide +kernel⟩, hh46⟩
  · cases h
theorem hh80 : Holds Try.prog 80 Sm80 := holds80 gam80
end Go.Proofs.Ytfbdkjdockbfdaa.Rx.S
namespace Go.Proofs.Ytfbdkjdockbfdaa.Rx.S
open Go Go.RowKit Go.Proofs
set_option maxRecDepth 100000
noncomputable def c81 : Code := (Try.f81.body.getD .skip)
def an81 : An := ⟨fun _ => ⟨[], []⟩, fun _ _ => none⟩
abbrev ps81 : List PK := [.val tQu true]
abbrev rs81 : List RK := [.own tQu true]
abbrev R81 := retsD rs81 × outsD ps81
noncomputable def G81 : Gam := fun _ => none
theorem h0_81 (hg : GamOK Try.prog G81) : Holds Try.prog 81 ⟨ps81, rs81, false, runF TT G81 an81 Try.f81 c81 ps81 rs81⟩ := holds_of tt_ok hg mixed Try.func81 (by kernel_rfl) (by rfl) (by decide +kernel)
noncomputable def at81 : Nat → Pt → List Nat → St → Option R81 := atF TT G81 an81 Try.f81 c81 _ _
noncomputable def st81_top (n : Nat)  (a : List (Int × Int × Int × Bool) × Int) : Option R81 :=
  cond (decide (((0 : Nat) + List.length a.fst) * (32 : Nat) ≤ (140737488355328 : Nat))) (some (((a.fst, a.snd), ()), ())) (none)
theorem e81_top (n : Nat) (a : List (Int × Int × Int × Bool) × Int) : runF TT G81 an81 Try.f81 c81 ps81 rs81 n (a, ()) = st81_top n  a := by kernel_rfl
noncomputable def p81 (n : Nat) (a : List (Int × Int × Int × Bool) × Int) : Option R81 := st81_top n  a
theorem F81_eq (n : Nat) (a : List (Int × Int × Int × Bool) × Int) : runF TT G81 an81 Try.f81 c81 ps81 rs81 n (a, ()) = p81 n a := by
  rw [e81_top]
  skip
  try rfl
noncomputable def q81 (n : Nat) (x : argsD ps81) : Option R81 := p81 n x.1
noncomputable def Sm81 : Sm := ⟨ps81, rs81, false, q81⟩
theorem holds81 (hg : GamOK Try.prog G81) : Holds Try.prog 81 Sm81 := by
  have := h0_81 hg
  have e : (runF TT G81 an81 Try.f81 c81 ps81 rs81) = q81 := by
    funext n x
    exact F81_eq n x.1
  rw [e] at this
  exact this
theorem gam81 : GamOK Try.prog G81 := fun _ _ h => by cases h
theorem hh81 : Holds Try.prog 81 Sm81 := holds81 gam81
end Go.Proofs.Ytfbdkjdockbfdaa.Rx.S
namespace Go.Proofs.Ytfbdkjdockbfdaa.Rx.S
open Go Go.RowKit Go.Proofs
set_option maxRecDepth 100000
noncomputable def c28 : Code := (Try.f28.body.getD .skip)
def an28 : An := ⟨fun _ => ⟨[], []⟩, fun _ _ => none⟩
abbrev ps28 : List PK := [.val tQu true, .val i64 false]
abbrev rs28 : List RK := [.own tQu true, .val .bool false]
abbrev R28 := retsD rs28 × outsD ps28
noncomputable def G28 : Gam := fun f => match f with | 79 => some Sm79 | 80 => some Sm80 | 81 => some Sm81 | _ => none
theorem h0_28 (hg : GamOK Try.prog G28) : Holds Try.prog 28 ⟨ps28, rs28, false, runF TT G28 an28 Try.f28 c28 ps28 rs28⟩ := holds_of tt_ok hg mixed Try.func28 (by kernel_rfl) (by rfl) (by decide +kernel)
noncomputable def at28 : Nat → Pt → List Nat → St → Option R28 := atF TT G28 an28 Try.f28 c28 _ _
noncomputable def st28_top (n : Nat)  (a : List (Int × Int × Int × Bool) × Int) (b : Int) : Option R28 :=
  (Go.Proofs.Ytfbdkjdockbfdaa.Rx.S.q79 n ((a.fst, a.snd), b, ())).bind fun r0 => (Go.Proofs.Ytfbdkjdockbfdaa.Rx.S.q80 n ((a.fst, a.snd), ())).bind fun r1 => cond (!r1.fst.fst) (some ((([], (0 : Int)), (false, ())), ())) (cond (decide (r0.fst.fst < (0 : Int))) (some ((([], (0 : Int)), (false, ())), ())) ((Go.Proofs.Ytfbdkjdockbfdaa.Rx.S.q81 n ((a.fst, a.snd), ())).bind fun r2 => cond (decide ((0 : Int) ≤ r0.fst.fst)) (cond (decide (r0.fst.fst < (↑(List.length r2.fst.fst.fst) : Int))) (some (((List.set r2.fst.fst.fst (Int.toNat r0.fst.fst)   ((List.getD r2.fst.fst.fst (Int.toNat r0.fst.fst) ((0 : Int), (0 : Int), (0 : Int), false)).fst,     (List.getD r2.fst.fst.fst (Int.toNat r0.fst.fst) ((0 : Int), (0 : Int), (0 : Int), false)).snd.fst,     (List.getD r2.fst.fst.fst (Int.toNat r0.fst.fst) ((0 : Int), (0 : Int), (0 : Int), false)).snd.snd.fst, false), r2.fst.fst.snd), (true, ())), ())) (none)) (none)))
theorem e28_top (n : Nat) (a : List (Int × Int × Int × Bool) × Int) (b : Int) : runF TT G28 an28 Try.f28 c28 ps28 rs28 n (a, b, ()) = st28_top n  a b := by kernel_rfl
noncomputable def p28 (n : Nat) (a : List (Int × Int × Int × Bool) × Int) (b : Int) : Option R28 := st28_top n  a b
theorem F28_eq (n : Nat) (a : List (Int × Int × Int × Bool) × Int) (b : Int) : runF TT G28 an28 Try.f28 c28 ps28 rs28 n (a, b, ()) = p28 n a b := by
  rw [e28_top]
  skip
  try rfl
noncomputable def q28 (n : Nat) (x : argsD ps28) : Option R28 := p28 n x.1 x.2.1
noncomputable def Sm28 : Sm := ⟨ps28, rs28, false, q28⟩
theorem holds28 (hg : GamOK Try.prog G28) : Holds Try.prog 28 Sm28 := by
  have := h0_28 hg
  have e : (runF TT G28 an28 Try.f28 c28 ps28 rs28) = q28 := by
    funext n x
    exact F28_eq n x.1 x.2.1
  rw [e] at this
  exact this
theorem gam28 : GamOK Try.prog G28 := by
  intro f s h
  unfold G28 at h
  split at h
  · injection h with h; subst h; exact ⟨⟨Try.f79, c79, Try.func79, by kernel_rfl, by decide +kernel⟩, hh79⟩
  · injection h with h; subst h; exact ⟨⟨Try.f80, c80, Try.func80, by kernel_rfl, by decide +kernel⟩, hh80⟩
  · injection h with h; subst h; exact ⟨⟨Try.f81, c81, Try.func81, by kernel_rfl, by decide +kernel⟩, hh81⟩
  · cases h
theorem hh28 : Holds Try.prog 28 Sm28 := holds28 gam28
end Go.Proofs.Ytfbdkjdockbfdaa.Rx.S
namespace Go.Proofs.Ytfbdkjdockbfdaa.Rx.S
open Go Go.RowKit Go.Proofs
set_option maxRecDepth 100000
noncomputable def c29 : Code := (Try.f29.body.getD .skip)
def an29 : An := ⟨fun r => match r with | 4 => ⟨[2, 3, 5], []⟩ | _ => ⟨[], []⟩, fun _ _ => none⟩
abbrev ps29 : List PK := [.val tQu true, .val tQu true]
abbrev rs29 : List RK := [.val .bool false]
abbrev R29 := retsD rs29 × outsD ps29
noncomputable def G29 : Gam := fun _ => none
theorem h0_29 (hg : GamOK Try.prog G29) : Holds Try.prog 29 ⟨ps29, rs29, false, runF TT G29 an29 Try.f29 c29 ps29 rs29⟩ := holds_of tt_ok hg mixed Try.func29 (by kernel_rfl) (by rfl) (by decide +kernel)
noncomputable def at29 : Nat → Pt → List Nat → St → Option R29 := atF TT G29 an29 Try.f29 c29 _ _
def sh29_L4 (x0 : Int) (x1 : List (Int × Int × Int × Bool)) (x2 : Int) (x3 : List (Int × Int × Int × Bool)) (x4 : Int) : St := (Go.Proofs.Ytfbdkjdockbfdaa.Rx.St.mk (Go.Proofs.Ytfbdkjdockbfdaa.Rx.AV.undef :: (Go.Proofs.Ytfbdkjdockbfdaa.Rx.AV.undef :: ((Go.Proofs.Ytfbdkjdockbfdaa.Rx.AV.one (Go.Proofs.Ytfbdkjdockbfdaa.Rx.SV.bptr 1000000 0)) :: ((Go.Proofs.Ytfbdkjdockbfdaa.Rx.AV.one (Go.Proofs.Ytfbdkjdockbfdaa.Rx.SV.bptr 1000001 0)) :: (Go.Proofs.Ytfbdkjdockbfdaa.Rx.AV.undef :: ((Go.Proofs.Ytfbdkjdockbfdaa.Rx.AV.one (Go.Proofs.Ytfbdkjdockbfdaa.Rx.SV.int (Go.IntKind.i64) x0)) :: (Go.Proofs.Ytfbdkjdockbfdaa.Rx.AV.undef :: (Go.Proofs.Ytfbdkjdockbfdaa.Rx.AV.undef :: (Go.Proofs.Ytfbdkjdockbfdaa.Rx.AV.undef :: (Go.Proofs.Ytfbdkjdockbfdaa.Rx.AV.undef :: (Go.Proofs.Ytfbdkjdockbfdaa.Rx.AV.undef :: (Go.Proofs.Ytfbdkjdockbfdaa.Rx.AV.undef :: (Go.Proofs.Ytfbdkjdockbfdaa.Rx.AV.undef :: (Go.Proofs.Ytfbdkjdockbfdaa.Rx.AV.undef :: (Go.Proofs.Ytfbdkjdockbfdaa.Rx.AV.undef :: (Go.Proofs.Ytfbdkjdockbfdaa.Rx.AV.undef :: (Go.Proofs.Ytfbdkjdockbfdaa.Rx.AV.undef :: (Go.Proofs.Ytfbdkjdockbfdaa.Rx.AV.undef :: (Go.Proofs.Ytfbdkjdockbfdaa.Rx.AV.undef :: (Go.Proofs.Ytfbdkjdockbfdaa.Rx.AV.undef :: (Go.Proofs.Ytfbdkjdockbfdaa.Rx.AV.undef :: (Go.Proofs.Ytfbdkjdockbfdaa.Rx.AV.undef :: (Go.Proofs.Ytfbdkjdockbfdaa.Rx.AV.undef :: (Go.Proofs.Ytfbdkjdockbfdaa.Rx.AV.undef :: (Go.Proofs.Ytfbdkjdockbfdaa.Rx.AV.undef :: (Go.Proofs.Ytfbdkjdockbfdaa.Rx.AV.undef :: (Go.Proofs.Ytfbdkjdockbfdaa.Rx.AV.undef :: (Go.Proofs.Ytfbdkjdockbfdaa.Rx.AV.undef :: (Go.Proofs.Ytfbdkjdockbfdaa.Rx.AV.undef :: (Go.Proofs.Ytfbdkjdockbfdaa.Rx.AV.undef :: (Go.Proofs.Ytfbdkjdockbfdaa.Rx.AV.undef :: (Go.Proofs.Ytfbdkjdockbfdaa.Rx.AV.undef :: (Go.Proofs.Ytfbdkjdockbfdaa.Rx.AV.undef :: (Go.Proofs.Ytfbdkjdockbfdaa.Rx.AV.undef :: (Go.Proofs.Ytfbdkjdockbfdaa.Rx.AV.undef :: (Go.Proofs.Ytfbdkjdockbfdaa.Rx.AV.undef :: (Go.Proofs.Ytfbdkjdockbfdaa.Rx.AV.undef :: (Go.Proofs.Ytfbdkjdockbfdaa.Rx.AV.undef :: [])))))))))))))))))))))))))))))))))))))) ((1000000, (Go.Proofs.Ytfbdkjdockbfdaa.Rx.Ent.box ((Go.Proofs.Ytfbdkjdockbfdaa.Rx.SV.con (⟨63, (Go.Proofs.Ytfbdkjdockbfdaa.Rx.Ty.int Go.IntKind.i64).pair   ((Go.Proofs.Ytfbdkjdockbfdaa.Rx.Ty.int Go.IntKind.i64).pair ((Go.Proofs.Ytfbdkjdockbfdaa.Rx.Ty.int Go.IntKind.i64).pair Go.Proofs.Ytfbdkjdockbfdaa.Rx.Ty.bool)), x1⟩ : Rw)) :: ((Go.Proofs.Ytfbdkjdockbfdaa.Rx.SV.int (Go.IntKind.i64) x2) :: [])))) :: ((1000001, (Go.Proofs.Ytfbdkjdockbfdaa.Rx.Ent.box ((Go.Proofs.Ytfbdkjdockbfdaa.Rx.SV.con (⟨63, (Go.Proofs.Ytfbdkjdockbfdaa.Rx.Ty.int Go.IntKind.i64).pair   ((Go.Proofs.Ytfbdkjdockbfdaa.Rx.Ty.int Go.IntKind.i64).pair ((Go.Proofs.Ytfbdkjdockbfdaa.Rx.Ty.int Go.IntKind.i64).pair Go.Proofs.Ytfbdkjdockbfdaa.Rx.Ty.bool)), x3⟩ : Rw)) :: ((Go.Proofs.Ytfbdkjdockbfdaa.Rx.SV.int (Go.IntKind.i64) x4) :: [])))) :: [])))
noncomputable def st29_top (n : Nat) (lL4 : Int → (List (Int × Int × Int × Bool)) → Int → (List (Int × Int × Int × Bool)) → Int → Option R29) (a : List (Int × Int × Int × Bool) × Int) (b : List (Int × Int × Int × Bool) × Int) : Option R29 :=
  cond (!decide (a.snd = b.snd)) (some ((false, ()), ())) (cond (!decide ((↑(List.length a.fst) : Int) = (↑(List.length b.fst) : Int))) (some ((false, ()), ())) (lL4 ((0 : Int)) (a.fst) (a.snd) (b.fst) (b.snd)))
noncomputable def st29_L4 (n : Nat) (lL4 : Int → (List (Int × Int × Int × Bool)) → Int → (List (Int × Int × Int × Bool)) → Int → Option R29) (x0 : Int) (x1 : List (Int × Int × Int × Bool)) (x2 : Int) (x3 : List (Int × Int × Int × Bool)) (x4 : Int) : Option R29 :=
  cond (decide (x0 < (↑x1.length : Int))) (cond (decide ((0 : Int) ≤ x0)) (cond (decide (x0 < (↑x1.length : Int))) (cond (decide ((0 : Int) ≤ x0)) (cond (decide (x0 < (↑x3.length : Int))) (cond (!(decide       ((x1.getD x0.toNat ((0 : Int), (0 : Int), (0 : Int), false)).fst =         (x3.getD x0.toNat ((0 : Int), (0 : Int), (0 : Int), false)).fst) &&     (decide         ((x1.getD x0.toNat ((0 : Int), (0 : Int), (0 : Int), false)).snd.fst =           (x3.getD x0.toNat ((0 : Int), (0 : Int), (0 : Int), false)).snd.fst) &&       (decide           ((x1.getD x0.toNat ((0 : Int), (0 : Int), (0 : Int), false)).snd.snd.fst =             (x3.getD x0.toNat ((0 : Int), (0 : Int), (0 : Int), false)).snd.snd.fst) &&         ((x1.getD x0.toNat ((0 : Int), (0 : Int), (0 : Int), false)).snd.snd.snd ==             (x3.getD x0.toNat ((0 : Int), (0 : Int), (0 : Int), false)).snd.snd.snd &&           true))))) (some ((false, ()), ())) (lL4 (Go.IntKind.i64.wrap (x0 + (1 : Int))) (x1) (x2) (x3) (x4))) (none)) (none)) (none)) (none)) (some ((true, ()), ()))
theorem e29_top (n : Nat) (a : List (Int × Int × Int × Bool) × Int) (b : List (Int × Int × Int × Bool) × Int) : runF TT G29 an29 Try.f29 c29 ps29 rs29 n (a, b, ()) = st29_top n (fun x0 x1 x2 x3 x4 => at29 n (.head 4) [n] (sh29_L4 x0 x1 x2 x3 x4)) a b := by kernel_rfl
theorem e29_L4_0 (n : Nat) (x0 : Int) (x1 : List (Int × Int × Int × Bool)) (x2 : Int) (x3 : List (Int × Int × Int × Bool)) (x4 : Int) : at29 n (.head 4) [0] (sh29_L4 x0 x1 x2 x3 x4) = none := by kernel_rfl
theorem e29_L4 (n : Nat) (m4 : Nat) (x0 : Int) (x1 : List (Int × Int × Int × Bool)) (x2 : Int) (x3 : List (Int × Int × Int × Bool)) (x4 : Int) : at29 n (.head 4) [m4 + 1] (sh29_L4 x0 x1 x2 x3 x4) = st29_L4 n (fun x0 x1 x2 x3 x4 => at29 n (.head 4) [m4] (sh29_L4 x0 x1 x2 x3 x4)) x0 x1 x2 x3 x4 := by kernel_rfl
noncomputable def p29_L4 (n : Nat) : Nat → Int → (List (Int × Int × Int × Bool)) → Int → (List (Int × Int × Int × Bool)) → Int → Option R29
  | 0, _, _, _, _, _ => none
  | m + 1, x0, x1, x2, x3, x4 => st29_L4 n (p29_L4 n m) x0 x1 x2 x3 x4
noncomputable def p29 (n : Nat) (a : List (Int × Int × Int × Bool) × Int) (b : List (Int × Int × Int × Bool) × Int) : Option R29 := st29_top n (p29_L4 n n) a b
theorem t29_L4 (n : Nat) : ∀ (m4 : Nat) (x0 : Int) (x1 : List (Int × Int × Int × Bool)) (x2 : Int) (x3 : List (Int × Int × Int × Bool)) (x4 : Int), at29 n (.head 4) [m4] (sh29_L4 x0 x1 x2 x3 x4) = p29_L4  n m4 x0 x1 x2 x3 x4 := by
  intro m
  induction m with
  | zero => intros; rw [e29_L4_0]; rfl
  | succ m ih =>
    intros
    rw [e29_L4]
    try simp only [ih]
    rfl
theorem F29_eq (n : Nat) (a : List (Int × Int × Int × Bool) × Int) (b : List (Int × Int × Int × Bool) × Int) : runF TT G29 an29 Try.f29 c29 ps29 rs29 n (a, b, ()) = p29 n a b := by
  rw [e29_top]
  simp only [t29_L4]
  try rfl
noncomputable def q29 (n : Nat) (x : argsD ps29) : Option R29 := p29 n x.1 x.2.1
noncomputable def Sm29 : Sm := ⟨ps29, rs29, false, q29⟩
theorem holds29 (hg : GamOK Try.prog G29) : Holds Try.prog 29 Sm29 := by
  have := h0_29 hg
  have e : (runF TT G29 an29 Try.f29 c29 ps29 rs29) = q29 := by
    funext n x
    exact F29_eq n x.1 x.2.1
  rw [e] at this
  exact this
theorem gam29 : GamOK Try.prog G29 := fun _ _ h => by cases h
theorem hh29 : Holds Try.prog 29 Sm29 := holds29 gam29
end Go.Proofs.Ytfbdkjdockbfdaa.Rx.S
namespace Go.Proofs.Ytfbdkjdockbfdaa.Rx.S
open Go Go.RowKit Go.Proofs
set_option maxRecDepth 100000
noncomputable def c101 : Code := (Try.f101.body.getD .skip)
def an101 : An := ⟨fun r => match r with | 3 => ⟨[1, 3, 7, 8, 9], []⟩ | _ => ⟨[], []⟩, fun _ _ => none⟩
abbrev ps101 : List PK := [.val tQu true]
abbrev rs101 : List RK := [.val i64 false]
abbrev R101 := retsD rs101 × outsD ps101
noncomputable def G101 : Gam := fun _ => none
theorem h0_101 (hg : GamOK Try.prog G101) : Holds Try.prog 101 ⟨ps101, rs101, false, runF TT G101 an101 Try.f101 c101 ps101 rs101⟩ := holds_of tt_ok hg mixed Try.func101 (by kernel_rfl) (by rfl) (by decide +kernel)
noncomputable def at101 : Nat → Pt → List Nat → St → Option R101 := atF TT G101 an101 Try.f101 c101 _ _
def sh101_L3 (x0 : Int) (x1 : List (Int × Int × Int × Bool)) (x2 : Int) (x3 : Int) (x4 : List (Int × Int × Int × Bool)) (x5 : Int) : St := (Go.Proofs.Ytfbdkjdockbfdaa.Rx.St.mk (Go.Proofs.Ytfbdkjdockbfdaa.Rx.AV.undef :: ((Go.Proofs.Ytfbdkjdockbfdaa.Rx.AV.one (Go.Proofs.Ytfbdkjdockbfdaa.Rx.SV.bptr 1000000 0)) :: (Go.Proofs.Ytfbdkjdockbfdaa.Rx.AV.undef :: ((Go.Proofs.Ytfbdkjdockbfdaa.Rx.AV.one (Go.Proofs.Ytfbdkjdockbfdaa.Rx.SV.int (Go.IntKind.i64) x0)) :: (Go.Proofs.Ytfbdkjdockbfdaa.Rx.AV.undef :: (Go.Proofs.Ytfbdkjdockbfdaa.Rx.AV.undef :: (Go.Proofs.Ytfbdkjdockbfdaa.Rx.AV.undef :: ((Go.Proofs.Ytfbdkjdockbfdaa.Rx.AV.one (Go.Proofs.Ytfbdkjdockbfdaa.Rx.SV.con (⟨63, (Go.Proofs.Ytfbdkjdockbfdaa.Rx.Ty.int Go.IntKind.i64).pair   ((Go.Proofs.Ytfbdkjdockbfdaa.Rx.Ty.int Go.IntKind.i64).pair ((Go.Proofs.Ytfbdkjdockbfdaa.Rx.Ty.int Go.IntKind.i64).pair Go.Proofs.Ytfbdkjdockbfdaa.Rx.Ty.bool)), x1⟩ : Rw))) :: ((Go.Proofs.Ytfbdkjdockbfdaa.Rx.AV.one (Go.Proofs.Ytfbdkjdockbfdaa.Rx.SV.int (Go.IntKind.i64) x2)) :: ((Go.Proofs.Ytfbdkjdockbfdaa.Rx.AV.one (Go.Proofs.Ytfbdkjdockbfdaa.Rx.SV.int (Go.IntKind.i64) x3)) :: (Go.Proofs.Ytfbdkjdockbfdaa.Rx.AV.undef :: (Go.Proofs.Ytfbdkjdockbfdaa.Rx.AV.undef :: (Go.Proofs.Ytfbdkjdockbfdaa.Rx.AV.undef :: (Go.Proofs.Ytfbdkjdockbfdaa.Rx.AV.undef :: (Go.Proofs.Ytfbdkjdockbfdaa.Rx.AV.undef :: (Go.Proofs.Ytfbdkjdockbfdaa.Rx.AV.undef :: (Go.Proofs.Ytfbdkjdockbfdaa.Rx.AV.undef :: (Go.Proofs.Ytfbdkjdockbfdaa.Rx.AV.undef :: (Go.Proofs.Ytfbdkjdockbfdaa.Rx.AV.undef :: (Go.Proofs.Ytfbdkjdockbfdaa.Rx.AV.undef :: (Go.Proofs.Ytfbdkjdockbfdaa.Rx.AV.undef :: (Go.Proofs.Ytfbdkjdockbfdaa.Rx.AV.undef :: (Go.Proofs.Ytfbdkjdockbfdaa.Rx.AV.undef :: (Go.Proofs.Ytfbdkjdockbfdaa.Rx.AV.undef :: (Go.Proofs.Ytfbdkjdockbfdaa.Rx.AV.undef :: (Go.Proofs.Ytfbdkjdockbfdaa.Rx.AV.undef :: (Go.Proofs.Ytfbdkjdockbfdaa.Rx.AV.undef :: (Go.Proofs.Ytfbdkjdockbfdaa.Rx.AV.undef :: (Go.Proofs.Ytfbdkjdockbfdaa.Rx.AV.undef :: (Go.Proofs.Ytfbdkjdockbfdaa.Rx.AV.undef :: (Go.Proofs.Ytfbdkjdockbfdaa.Rx.AV.undef :: (Go.Proofs.Ytfbdkjdockbfdaa.Rx.AV.undef :: (Go.Proofs.Ytfbdkjdockbfdaa.Rx.AV.undef :: (Go.Proofs.Ytfbdkjdockbfdaa.Rx.AV.undef :: [])))))))))))))))))))))))))))))))))) ((1000000, (Go.Proofs.Ytfbdkjdockbfdaa.Rx.Ent.box ((Go.Proofs.Ytfbdkjdockbfdaa.Rx.SV.con (⟨63, (Go.Proofs.Ytfbdkjdockbfdaa.Rx.Ty.int Go.IntKind.i64).pair   ((Go.Proofs.Ytfbdkjdockbfdaa.Rx.Ty.int Go.IntKind.i64).pair ((Go.Proofs.Ytfbdkjdockbfdaa.Rx.Ty.int Go.IntKind.i64).pair Go.Proofs.Ytfbdkjdockbfdaa.Rx.Ty.bool)), x4⟩ : Rw)) :: ((Go.Proofs.Ytfbdkjdockbfdaa.Rx.SV.int (Go.IntKind.i64) x5) :: [])))) :: []))
noncomputable def st101_top (n : Nat) (lL3 : Int → (List (Int × Int × Int × Bool)) → Int → Int → (List (Int × Int × Int × Bool)) → Int → Option R101) (a : List (Int × Int × Int × Bool) × Int) : Option R101 :=
  lL3 ((-1 : Int)) (a.fst) ((↑(List.length a.fst) : Int)) ((0 : Int)) (a.fst) (a.snd)
noncomputable def st101_L3 (n : Nat) (lL3 : Int → (List (Int × Int × Int × Bool)) → Int → Int → (List (Int × Int × Int × Bool)) → Int → Option R101) (x0 : Int) (x1 : List (Int × Int × Int × Bool)) (x2 : Int) (x3 : Int) (x4 : List (Int × Int × Int × Bool)) (x5 : Int) : Option R101 :=
  cond (decide (x3 < x2)) (cond (decide ((0 : Int) ≤ x3)) (cond (decide (x3 < (↑x1.length : Int))) (cond ((x1.getD x3.toNat ((0 : Int), (0 : Int), (0 : Int), false)).snd.snd.snd) (cond (decide (x0 < (0 : Int))) (lL3 (x3) (x1) (x2) (Go.IntKind.i64.wrap (x3 + (1 : Int))) (x4) (x5)) (cond (decide ((0 : Int) ≤ x0)) (cond (decide (x0 < (↑x4.length : Int))) (cond (decide   ((x1.getD x3.toNat ((0 : Int), (0 : Int), (0 : Int), false)).snd.snd.fst <     (x4.getD x0.toNat ((0 : Int), (0 : Int), (0 : Int), false)).snd.snd.fst)) (lL3 (x3) (x1) (x2) (Go.IntKind.i64.wrap (x3 + (1 : Int))) (x4) (x5)) (lL3 (x0) (x1) (x2) (Go.IntKind.i64.wrap (x3 + (1 : Int))) (x4) (x5))) (none)) (none))) (lL3 (x0) (x1) (x2) (Go.IntKind.i64.wrap (x3 + (1 : Int))) (x4) (x5))) (none)) (none)) (some ((x0, ()), ()))
theorem e101_top (n : Nat) (a : List (Int × Int × Int × Bool) × Int) : runF TT G101 an101 Try.f101 c101 ps101 rs101 n (a, ()) = st101_top n (fun x0 x1 x2 x3 x4 x5 => at101 n (.head 3) [n] (sh101_L3 x0 x1 x2 x3 x4 x5)) a := by kernel_rfl
theorem e101_L3_0 (n : Nat) (x0 : Int) (x1 : List (Int × Int × Int × Bool)) (x2 : Int) (x3 : Int) (x4 : List (Int × Int × Int × Bool)) (x5 : Int) : at101 n (.head 3) [0] (sh101_L3 x0 x1 x2 x3 x4 x5) = none := by kernel_rfl
theorem e101_L3 (n : Nat) (m3 : Nat) (x0 : Int) (x1 : List (Int × Int × Int × Bool)) (x2 : Int) (x3 : Int) (x4 : List (Int × Int × Int × Bool)) (x5 : Int) : at101 n (.head 3) [m3 + 1] (sh101_L3 x0 x1 x2 x3 x4 x5) = st101_L3 n (fun x0 x1 x2 x3 x4 x5 => at101 n (.head 3) [m3] (sh101_L3 x0 x1 x2 x3 x4 x5)) x0 x1 x2 x3 x4 x5 := by kernel_rfl
noncomputable def p101_L3 (n : Nat) : Nat → Int → (List (Int × Int × Int × Bool)) → Int → Int → (List (Int × Int × Int × Bool)) → Int → Option R101
  | 0, _, _, _, _, _, _ => none
  | m + 1, x0, x1, x2, x3, x4, x5 => st101_L3 n (p101_L3 n m) x0 x1 x2 x3 x4 x5
noncomputable def p101 (n : Nat) (a : List (Int × Int × Int × Bool) × Int) : Option R101 := st101_top n (p101_L3 n n) a
theorem t101_L3 (n : Nat) : ∀ (m3 : Nat) (x0 : Int) (x1 : List (Int × Int × Int × Bool)) (x2 : Int) (x3 : Int) (x4 : List (Int × Int × Int × Bool)) (x5 : Int), at101 n (.head 3) [m3] (sh101_L3 x0 x1 x2 x3 x4 x5) = p101_L3  n m3 x0 x1 x2 x3 x4 x5 := by
  intro m
  induction m with
  | zero => intros; rw [e101_L3_0]; rfl
  | succ m ih =>
    intros
    rw [e101_L3]
    try simp only [ih]
    rfl
theorem F101_eq (n : Nat) (a : List (Int × Int × Int × Bool) × Int) : runF TT G101 an101 Try.f101 c101 ps101 rs101 n (a, ()) = p101 n a := by
  rw [e101_top]
  simp only [t101_L3]
  try rfl
noncomputable def q101 (n : Nat) (x : argsD ps101) : Option R101 := p101 n x.1
noncomputable def Sm101 : Sm := ⟨ps101, rs101, false, q101⟩
theorem holds101 (hg : GamOK Try.prog G101) : Holds Try.prog 101 Sm101 := by
  have := h0_101 hg
  have e : (runF TT G101 an101 Try.f101 c101 ps101 rs101) = q101 := by
    funext n x
    exact F101_eq n x.1
  rw [e] at this
  exact this
theorem gam101 : GamOK Try.prog G101 := fun _ _ h => by cases h
theorem hh101 : Holds Try.prog 101 Sm101 := holds101 gam101
end Go.Proofs.Ytfbdkjdockbfdaa.Rx.S
namespace Go.Proofs.Ytfbdkjdockbfdaa.Rx.S
open Go Go.RowKit Go.Proofs
set_option maxRecDepth 100000
noncomputable def c82 : Code := (Try.f82.body.getD .skip)
def an82 : An := ⟨fun _ => ⟨[], []⟩, fun _ _ => none⟩
abbrev ps82 : List PK := [.val tQu true]
abbrev rs82 : List RK := [.own tQu true, .val i64 false, .val .bool false]
abbrev R82 := retsD rs82 × outsD ps82
noncomputable def G82 : Gam := fun f => match f with | 32 => some Sm32 | 78 => some Sm78 | 101 => some Sm101 | _ => none
theorem h0_82 (hg : GamOK Try.prog G82) : Holds Try.prog 82 ⟨ps82, rs82, false, runF TT G82 an82 Try.f82 c82 ps82 rs82⟩ := holds_of tt_ok hg mixed Try.func82 (by kernel_rfl) (by rfl) (by decide +kernel)
noncomputable def at82 : Nat → Pt → List Nat → St → Option R82 := atF TT G82 an82 Try.f82 c82 _ _
noncomputable def st82_top (n : Nat)  (a : List (Int × Int × Int × Bool) × Int) : Option R82 :=
  (Go.Proofs.Ytfbdkjdockbfdaa.Rx.S.q101 n ((a.fst, a.snd), ())).bind fun r0 => (Go.Proofs.Ytfbdkjdockbfdaa.Rx.S.q32 n ((a.fst, a.snd), ())).bind fun r1 => cond (!r1.fst.fst) (some ((([], (0 : Int)), ((-1 : Int), (false, ()))), ())) (cond (decide (r0.fst.fst < (0 : Int))) (some ((([], (0 : Int)), ((-1 : Int), (false, ()))), ())) (cond (decide ((0 : Int) ≤ r0.fst.fst)) (cond (decide (r0.fst.fst < (↑(List.length a.fst) : Int))) (cond (decide ((0 : Int) ≤ r0.fst.fst)) (cond (decide (r0.fst.fst < (↑(List.length a.fst) : Int))) (cond (!decide ((List.getD a.fst (Int.toNat r0.fst.fst) ((0 : Int), (0 : Int), (0 : Int), false)).snd.fst = (0 : Int))) (cond (decide   ((1000000 : Int) <     Go.IntKind.i64.wrap       ((List.getD a.fst (Int.toNat r0.fst.fst) ((0 : Int), (0 : Int), (0 : Int), false)).snd.snd.fst +         Go.IntKind.i64.wrap           (Int.tdiv (60 : Int)             (List.getD a.fst (Int.toNat r0.fst.fst) ((0 : Int), (0 : Int), (0 : Int), false)).snd.fst)))) (some ((([], (0 : Int)), ((-1 : Int), (false, ()))), ())) ((Go.Proofs.Ytfbdkjdockbfdaa.Rx.S.q78 n ((a.fst, a.snd), ())).bind fun r2 => cond (decide ((0 : Int) ≤ r0.fst.fst)) (cond (decide (r0.fst.fst < (↑(List.length r2.fst.fst.fst) : Int))) (cond (decide ((0 : Int) ≤ r0.fst.fst)) (cond (decide (r0.fst.fst < (↑(List.length r2.fst.fst.fst) : Int))) (cond (!decide ((List.getD r2.fst.fst.fst (Int.toNat r0.fst.fst) ((0 : Int), (0 : Int), (0 : Int), false)).snd.fst = (0 : Int))) (cond (decide ((0 : Int) ≤ r0.fst.fst)) (cond (decide (r0.fst.fst < (↑(List.length r2.fst.fst.fst) : Int))) ((Go.Proofs.Ytfbdkjdockbfdaa.Rx.S.q101 n   ((List.set r2.fst.fst.fst (Int.toNat r0.fst.fst)         ((List.getD r2.fst.fst.fst (Int.toNat r0.fst.fst) ((0 : Int), (0 : Int), (0 : Int), false)).fst,           (List.getD r2.fst.fst.fst (Int.toNat r0.fst.fst) ((0 : Int), (0 : Int), (0 : Int), false)).snd.fst,           Go.IntKind.i64.wrap             ((List.getD r2.fst.fst.fst (Int.toNat r0.fst.fst) ((0 : Int), (0 : Int), (0 : Int), false)).snd.snd.fst +               Go.IntKind.i64.wrap                 (Int.tdiv (60 : Int)                   (List.getD r2.fst.fst.fst (Int.toNat r0.fst.fst) ((0 : Int), (0 : Int), (0 : Int), false)).snd.fst)),           (List.getD r2.fst.fst.fst (Int.toNat r0.fst.fst) ((0 : Int), (0 : Int), (0 : Int), false)).snd.snd.snd),       r2.fst.fst.snd),     ())).bind fun r3 => cond (decide ((0 : Int) ≤ r3.fst.fst)) (cond (decide   (r3.fst.fst <     (↑(List.set r2.fst.fst.fst (Int.toNat r0.fst.fst)             ((List.getD r2.fst.fst.fst (Int.toNat r0.fst.fst) ((0 : Int), (0 : Int), (0 : Int), false)).fst,               (List.getD r2.fst.fst.fst (Int.toNat r0.fst.fst) ((0 : Int), (0 : Int), (0 : Int), false)).snd.fst,               Go.IntKind.i64.wrap                 ((List.getD r2.fst.fst.fst (Int.toNat r0.fst.fst)                           ((0 : Int), (0 : Int), (0 : Int), false)).snd.snd.fst +                   Go.IntKind.i64.wrap                     (Int.tdiv (60 : Int)                       (List.getD r2.fst.fst.fst (Int.toNat r0.fst.fst)                             ((0 : Int), (0 : Int), (0 : Int), false)).snd.fst)),               (List.getD r2.fst.fst.fst (Int.toNat r0.fst.fst)                       ((0 : Int), (0 : Int), (0 : Int), false)).snd.snd.snd)).length :       Int))) (cond (decide ((0 : Int) ≤ r0.fst.fst)) (cond (decide   (r0.fst.fst <     (↑(List.set r2.fst.fst.fst (Int.toNat r0.fst.fst)             ((List.getD r2.fst.fst.fst (Int.toNat r0.fst.fst) ((0 : Int), (0 : Int), (0 : Int), false)).fst,               (List.getD r2.fst.fst.fst (Int.toNat r0.fst.fst) ((0 : Int), (0 : Int), (0 : Int), false)).snd.fst,               Go.IntKind.i64.wrap                 ((List.getD r2.fst.fst.fst (Int.toNat r0.fst.fst)                           ((0 : Int), (0 : Int), (0 : Int), false)).snd.snd.fst +                   Go.IntKind.i64.wrap                     (Int.tdiv (60 : Int)                       (List.getD r2.fst.fst.fst (Int.toNat r0.fst.fst)                             ((0 : Int), (0 : Int), (0 : Int), false)).snd.fst)),               (List.getD r2.fst.fst.fst (Int.toNat r0.fst.fst)                       ((0 : Int), (0 : Int), (0 : Int), false)).snd.snd.snd)).length :       Int))) (some (((List.set r2.fst.fst.fst (Int.toNat r0.fst.fst)   ((List.getD r2.fst.fst.fst (Int.toNat r0.fst.fst) ((0 : Int), (0 : Int), (0 : Int), false)).fst,     (List.getD r2.fst.fst.fst (Int.toNat r0.fst.fst) ((0 : Int), (0 : Int), (0 : Int), false)).snd.fst,     Go.IntKind.i64.wrap       ((List.getD r2.fst.fst.fst (Int.toNat r0.fst.fst) ((0 : Int), (0 : Int), (0 : Int), false)).snd.snd.fst +         Go.IntKind.i64.wrap           (Int.tdiv (60 : Int)             (List.getD r2.fst.fst.fst (Int.toNat r0.fst.fst) ((0 : Int), (0 : Int), (0 : Int), false)).snd.fst)),     (List.getD r2.fst.fst.fst (Int.toNat r0.fst.fst) ((0 : Int), (0 : Int), (0 : Int), false)).snd.snd.snd), if     ((List.set r2.fst.fst.fst (Int.toNat r0.fst.fst)                   ((List.getD r2.fst.fst.fst (Int.toNat r0.fst.fst) ((0 : Int), (0 : Int), (0 : Int), false)).fst,                     (List.getD r2.fst.fst.fst (Int.toNat r0.fst.fst) ((0 : Int), (0 : Int), (0 : Int), false)).snd.fst,                     Go.IntKind.i64.wrap                       ((List.getD r2.fst.fst.fst (Int.toNat r0.fst.fst)                                 ((0 : Int), (0 : Int), (0 : Int), false)).snd.snd.fst +                         Go.IntKind.i64.wrap                           (Int.tdiv (60 : Int)                             (List.getD r2.fst.fst.fst (Int.toNat r0.fst.fst)                                   ((0 : Int), (0 : Int), (0 : Int), false)).snd.fst)),                     (List.getD r2.fst.fst.fst (Int.toNat r0.fst.fst)                             ((0 : Int), (0 : Int), (0 : Int), false)).snd.snd.snd)).getD               (Int.toNat r3.fst.fst) ((0 : Int), (0 : Int), (0 : Int), false)).snd.snd.fst >       r2.fst.fst.snd then   ((List.set r2.fst.fst.fst (Int.toNat r0.fst.fst)               ((List.getD r2.fst.fst.fst (Int.toNat r0.fst.fst) ((0 : Int), (0 : Int), (0 : Int), false)).fst,                 (List.getD r2.fst.fst.fst (Int.toNat r0.fst.fst) ((0 : Int), (0 : Int), (0 : Int), false)).snd.fst,                 Go.IntKind.i64.wrap                   ((List.getD r2.fst.fst.fst (Int.toNat r0.fst.fst)                             ((0 : Int), (0 : Int), (0 : Int), false)).snd.snd.fst +                     Go.IntKind.i64.wrap                       (Int.tdiv (60 : Int)                         (List.getD r2.fst.fst.fst (Int.toNat r0.fst.fst)                               ((0 : Int), (0 : Int), (0 : Int), false)).snd.fst)),                 (List.getD r2.fst.fst.fst (Int.toNat r0.fst.fst)                         ((0 : Int), (0 : Int), (0 : Int), false)).snd.snd.snd)).getD           (Int.toNat r3.fst.fst) ((0 : Int), (0 : Int), (0 : Int), false)).snd.snd.fst else r2.fst.fst.snd), (((List.set r2.fst.fst.fst (Int.toNat r0.fst.fst)         ((List.getD r2.fst.fst.fst (Int.toNat r0.fst.fst) ((0 : Int), (0 : Int), (0 : Int), false)).fst,           (List.getD r2.fst.fst.fst (Int.toNat r0.fst.fst) ((0 : Int), (0 : Int), (0 : Int), false)).snd.fst,           Go.IntKind.i64.wrap             ((List.getD r2.fst.fst.fst (Int.toNat r0.fst.fst) ((0 : Int), (0 : Int), (0 : Int), false)).snd.snd.fst +               Go.IntKind.i64.wrap                 (Int.tdiv (60 : Int)                   (List.getD r2.fst.fst.fst (Int.toNat r0.fst.fst) ((0 : Int), (0 : Int), (0 : Int), false)).snd.fst)),           (List.getD r2.fst.fst.fst (Int.toNat r0.fst.fst) ((0 : Int), (0 : Int), (0 : Int), false)).snd.snd.snd)).getD     (Int.toNat r0.fst.fst) ((0 : Int), (0 : Int), (0 : Int), false)).fst, (true, ()))), ())) (none)) (none)) (none)) (none)) (none)) (none)) (none)) (none)) (none)) (none)) (none))) (none)) (none)) (none)) (none)) (none)))
theorem e82_top (n : Nat) (a : List (Int × Int × Int × Bool) × Int) : runF TT G82 an82 Try.f82 c82 ps82 rs82 n (a, ()) = st82_top n  a := by kernel_rfl
noncomputable def p82 (n : Nat) (a : List (Int × Int × Int × Bool) × Int) : Option R82 := st82_top n  a
theorem F82_eq (n : Nat) (a : List (Int × Int × Int × Bool) × Int) : runF TT G82 an82 Try.f82 c82 ps82 rs82 n (a, ()) = p82 n a := by
  rw [e82_top]
  skip
  try rfl
noncomputable def q82 (n : Nat) (x : argsD ps82) : Option R82 := p82 n x.1
noncomputable def Sm82 : Sm := ⟨ps82, rs82, false, q82⟩
theorem holds82 (hg : GamOK Try.prog G82) : Holds Try.prog 82 Sm82 := by
  have := h0_82 hg
  have e : (runF TT G82 an82 Try.f82 c82 ps82 rs82) = q82 := by
    funext n x
    exact F82_eq n x.1
  rw [e] at this
  exact this
theorem gam82 : GamOK Try.prog G82 := by
  intro f s h
  unfold G82 at h
  split at h
  · injection h with h; subst h; exact ⟨⟨Try.f32, c32, Try.func32, by kernel_rfl, by decide +kernel⟩, hh32⟩
  · injection h with h; subst h; exact ⟨⟨Try.f78, c78, Try.func78, by kernel_rfl, by decide +kernel⟩, hh78⟩
  · injection h with h; subst h; exact ⟨⟨Try.f101, c101, Try.func101, by kernel_rfl, by decide +kernel⟩, hh101⟩
  · cases h
theorem hh82 : Holds Try.prog 82 Sm82 := holds82 gam82
end Go.Proofs.Ytfbdkjdockbfdaa.Rx.S
namespace Go.Proofs.Ytfbdkjdockbfdaa.Rx.S
open Go Go.RowKit Go.Proofs
set_option maxRecDepth 100000
noncomputable def c30 : Code := (Try.f30.body.getD .skip)
def an30 : An := ⟨fun r => match r with | 6 => ⟨[4, 7, 8, 24, 25], []⟩ | _ => ⟨[], []⟩, fun _ _ => none⟩
abbrev ps30 : List PK := [.val tQu true, .val i64 false]
abbrev rs30 : List RK := [.own tQu true, .own (.row 3 i64) false, .val .bool false]
abbrev R30 := retsD rs30 × outsD ps30
noncomputable def G30 : Gam := fun f => match f with | 32 => some Sm32 | 42 => some Sm42 | 78 => some Sm78 | 82 => some Sm82 | _ => none
theorem h0_30 (hg : GamOK Try.prog G30) : Holds Try.prog 30 ⟨ps30, rs30, false, runF TT G30 an30 Try.f30 c30 ps30 rs30⟩ := holds_of tt_ok hg mixed Try.func30 (by kernel_rfl) (by rfl) (by decide +kernel)
noncomputable def at30 : Nat → Pt → List Nat → St → Option R30 := atF TT G30 an30 Try.f30 c30 _ _
def sh30_L6 (x0 : Int) (x1 : Int) (x2 : Int) (x3 : Int) (x4 : List Int) (x5 : List (Int × Int × Int × Bool)) : St := (Go.Proofs.Ytfbdkjdockbfdaa.Rx.St.mk (Go.Proofs.Ytfbdkjdockbfdaa.Rx.AV.undef :: (Go.Proofs.Ytfbdkjdockbfdaa.Rx.AV.undef :: (Go.Proofs.Ytfbdkjdockbfdaa.Rx.AV.undef :: (Go.Proofs.Ytfbdkjdockbfdaa.Rx.AV.undef :: ((Go.Proofs.Ytfbdkjdockbfdaa.Rx.AV.one (Go.Proofs.Ytfbdkjdockbfdaa.Rx.SV.bptr 1000000 0)) :: (Go.Proofs.Ytfbdkjdockbfdaa.Rx.AV.undef :: (Go.Proofs.Ytfbdkjdockbfdaa.Rx.AV.undef :: ((Go.Proofs.Ytfbdkjdockbfdaa.Rx.AV.one (Go.Proofs.Ytfbdkjdockbfdaa.Rx.SV.bptr 1000001 0)) :: ((Go.Proofs.Ytfbdkjdockbfdaa.Rx.AV.one (Go.Proofs.Ytfbdkjdockbfdaa.Rx.SV.ref 1000002 0 [] Option.none)) :: (Go.Proofs.Ytfbdkjdockbfdaa.Rx.AV.undef :: (Go.Proofs.Ytfbdkjdockbfdaa.Rx.AV.undef :: (Go.Proofs.Ytfbdkjdockbfdaa.Rx.AV.undef :: (Go.Proofs.Ytfbdkjdockbfdaa.Rx.AV.undef :: (Go.Proofs.Ytfbdkjdockbfdaa.Rx.AV.undef :: (Go.Proofs.Ytfbdkjdockbfdaa.Rx.AV.undef :: (Go.Proofs.Ytfbdkjdockbfdaa.Rx.AV.undef :: (Go.Proofs.Ytfbdkjdockbfdaa.Rx.AV.undef :: (Go.Proofs.Ytfbdkjdockbfdaa.Rx.AV.undef :: (Go.Proofs.Ytfbdkjdockbfdaa.Rx.AV.undef :: (Go.Proofs.Ytfbdkjdockbfdaa.Rx.AV.undef :: (Go.Proofs.Ytfbdkjdockbfdaa.Rx.AV.undef :: (Go.Proofs.Ytfbdkjdockbfdaa.Rx.AV.undef :: (Go.Proofs.Ytfbdkjdockbfdaa.Rx.AV.undef :: (Go.Proofs.Ytfbdkjdockbfdaa.Rx.AV.undef :: ((Go.Proofs.Ytfbdkjdockbfdaa.Rx.AV.one (Go.Proofs.Ytfbdkjdockbfdaa.Rx.SV.int (Go.IntKind.i64) x0)) :: ((Go.Proofs.Ytfbdkjdockbfdaa.Rx.AV.one (Go.Proofs.Ytfbdkjdockbfdaa.Rx.SV.int (Go.IntKind.i64) x1)) :: (Go.Proofs.Ytfbdkjdockbfdaa.Rx.AV.undef :: (Go.Proofs.Ytfbdkjdockbfdaa.Rx.AV.undef :: (Go.Proofs.Ytfbdkjdockbfdaa.Rx.AV.undef :: (Go.Proofs.Ytfbdkjdockbfdaa.Rx.AV.undef :: (Go.Proofs.Ytfbdkjdockbfdaa.Rx.AV.undef :: (Go.Proofs.Ytfbdkjdockbfdaa.Rx.AV.undef :: (Go.Proofs.Ytfbdkjdockbfdaa.Rx.AV.undef :: (Go.Proofs.Ytfbdkjdockbfdaa.Rx.AV.undef :: (Go.Proofs.Ytfbdkjdockbfdaa.Rx.AV.undef :: (Go.Proofs.Ytfbdkjdockbfdaa.Rx.AV.undef :: (Go.Proofs.Ytfbdkjdockbfdaa.Rx.AV.undef :: (Go.Proofs.Ytfbdkjdockbfdaa.Rx.AV.undef :: (Go.Proofs.Ytfbdkjdockbfdaa.Rx.AV.undef :: (Go.Proofs.Ytfbdkjdockbfdaa.Rx.AV.undef :: (Go.Proofs.Ytfbdkjdockbfdaa.Rx.AV.undef :: (Go.Proofs.Ytfbdkjdockbfdaa.Rx.AV.undef :: (Go.Proofs.Ytfbdkjdockbfdaa.Rx.AV.undef :: (Go.Proofs.Ytfbdkjdockbfdaa.Rx.AV.undef :: [])))))))))))))))))))))))))))))))))))))))))))) ((1000000, (Go.Proofs.Ytfbdkjdockbfdaa.Rx.Ent.box (Go.Proofs.Ytfbdkjdockbfdaa.Rx.SV.nil :: ((Go.Proofs.Ytfbdkjdockbfdaa.Rx.SV.int (Go.IntKind.i64) x2) :: [])))) :: ((1000001, (Go.Proofs.Ytfbdkjdockbfdaa.Rx.Ent.box ((Go.Proofs.Ytfbdkjdockbfdaa.Rx.SV.ref 1000003 0 [] Option.none) :: ((Go.Proofs.Ytfbdkjdockbfdaa.Rx.SV.int (Go.IntKind.i64) x3) :: [])))) :: ((1000002, (Go.Proofs.Ytfbdkjdockbfdaa.Rx.Ent.row (⟨3, Go.Proofs.Ytfbdkjdockbfdaa.Rx.Ty.int Go.IntKind.i64, x4⟩ : Rw) 0 Option.none)) :: ((1000003, (Go.Proofs.Ytfbdkjdockbfdaa.Rx.Ent.row (⟨63, (Go.Proofs.Ytfbdkjdockbfdaa.Rx.Ty.int Go.IntKind.i64).pair   ((Go.Proofs.Ytfbdkjdockbfdaa.Rx.Ty.int Go.IntKind.i64).pair ((Go.Proofs.Ytfbdkjdockbfdaa.Rx.Ty.int Go.IntKind.i64).pair Go.Proofs.Ytfbdkjdockbfdaa.Rx.Ty.bool)), x5⟩ : Rw) 0 Option.none)) :: [])))))
noncomputable def st30_top (n : Nat) (lL6 : Int → Int → Int → Int → (List Int) → (List (Int × Int × Int × Bool)) → Option R30) (a : List (Int × Int × Int × Bool) × Int) (b : Int) : Option R30 :=
  (Go.Proofs.Ytfbdkjdockbfdaa.Rx.S.q32 n ((a.fst, a.snd), ())).bind fun r0 => cond (!r0.fst.fst) (some ((([], (0 : Int)), ([], (false, ()))), ())) ((Go.Proofs.Ytfbdkjdockbfdaa.Rx.S.q42 n (b, (0 : Int), (1000 : Int), ())).bind fun r1 => cond (!r1.fst.fst) (some ((([], (0 : Int)), ([], (false, ()))), ())) ((Go.Proofs.Ytfbdkjdockbfdaa.Rx.S.q78 n ((a.fst, a.snd), ())).bind fun r2 => lL6 (b) ((0 : Int)) ((0 : Int)) (r2.fst.fst.snd) ([]) (r2.fst.fst.fst)))
noncomputable def st30_L6 (n : Nat) (lL6 : Int → Int → Int → Int → (List Int) → (List (Int × Int × Int × Bool)) → Option R30) (x0 : Int) (x1 : Int) (x2 : Int) (x3 : Int) (x4 : List Int) (x5 : List (Int × Int × Int × Bool)) : Option R30 :=
  cond (decide (x1 < x0)) ((Go.Proofs.Ytfbdkjdockbfdaa.Rx.S.q82 n ((x5, x3), ())).bind fun r4 => cond (!r4.fst.snd.snd.fst) (some ((([], (0 : Int)), ([], (false, ()))), ())) (cond (decide ((x4.length + [r4.fst.snd.fst].length) * (8 : Nat) ≤ (140737488355328 : Nat))) (lL6 (x0) (Go.IntKind.i64.wrap (x1 + (1 : Int))) (x2) (r4.fst.fst.snd) (x4 ++ [r4.fst.snd.fst]) (r4.fst.fst.fst)) (none))) (some (((x5, x3), (x4, (true, ()))), ()))
theorem e30_top (n : Nat) (a : List (Int × Int × Int × Bool) × Int) (b : Int) : runF TT G30 an30 Try.f30 c30 ps30 rs30 n (a, b, ()) = st30_top n (fun x0 x1 x2 x3 x4 x5 => at30 n (.head 6) [n] (sh30_L6 x0 x1 x2 x3 x4 x5)) a b := by kernel_rfl
theorem e30_L6_0 (n : Nat) (x0 : Int) (x1 : Int) (x2 : Int) (x3 : Int) (x4 : List Int) (x5 : List (Int × Int × Int × Bool)) : at30 n (.head 6) [0] (sh30_L6 x0 x1 x2 x3 x4 x5) = none := by kernel_rfl
theorem e30_L6 (n : Nat) (m6 : Nat) (x0 : Int) (x1 : Int) (x2 : Int) (x3 : Int) (x4 : List Int) (x5 : List (Int × Int × Int × Bool)) : at30 n (.head 6) [m6 + 1] (sh30_L6 x0 x1 x2 x3 x4 x5) = st30_L6 n (fun x0 x1 x2 x3 x4 x5 => at30 n (.head 6) [m6] (sh30_L6 x0 x1 x2 x3 x4 x5)) x0 x1 x2 x3 x4 x5 := by kernel_rfl
noncomputable def p30_L6 (n : Nat) : Nat → Int → Int → Int → Int → (List Int) → (List (Int × Int × Int × Bool)) → Option R30
  | 0, _, _, _, _, _, _ => none
  | m + 1, x0, x1, x2, x3, x4, x5 => st30_L6 n (p30_L6 n m) x0 x1 x2 x3 x4 x5
noncomputable def p30 (n : Nat) (a : List (Int × Int × Int × Bool) × Int) (b : Int) : Option R30 := st30_top n (p30_L6 n n) a b
theorem t30_L6 (n : Nat) : ∀ (m6 : Nat) (x0 : Int) (x1 : Int) (x2 : Int) (x3 : Int) (x4 : List Int) (x5 : List (Int × Int × Int × Bool)), at30 n (.head 6) [m6] (sh30_L6 x0 x1 x2 x3 x4 x5) = p30_L6  n m6 x0 x1 x2 x3 x4 x5 := by
  intro m
  induction m with
  | zero => intros; rw [e30_L6_0]; rfl
  | succ m ih =>
    intros
    rw [e30_L6]
    try simp only [ih]
    rfl
theorem F30_eq (n : Nat) (a : List (Int × Int × Int × Bool) × Int) (b : Int) : runF TT G30 an30 Try.f30 c30 ps30 rs30 n (a, b, ()) = p30 n a b := by
  rw [e30_top]
  simp only [t30_L6]
  try rfl
noncomputable def q30 (n : Nat) (x : argsD ps30) : Option R30 := p30 n x.1 x.2.1
noncomputable def Sm30 : Sm := ⟨ps30, rs30, false, q30⟩
theorem holds30 (hg : GamOK Try.prog G30) : Holds Try.prog 30 Sm30 := by
  have := h0_30 hg
  have e : (runF TT G30 an30 Try.f30 c30 ps30 rs30) = q30 := by
    funext n x
    exact F30_eq n x.1 x.2.1
  rw [e] at this
  exact this
theorem gam30 : GamOK Try.prog G30 := by
  intro f s h
  unfold G30 at h
  split at h
  · injection h with h; subst h; exact ⟨⟨Try.f32, c32, Try.func32, by kernel_rfl, by decide +kernel⟩, hh32⟩
  · injection h with h; subst h; exact ⟨⟨Try.f42, c42, Try.func42, by kernel_rfl, by decide +kernel⟩, hh42⟩
  · injection h with h; subst h; exact ⟨⟨Try.f78, c78, Try.func78, by kernel_rfl, by decide +kernel⟩, hh78⟩
  · injection h with h; subst h; exact ⟨⟨Try.f82, c82, Try.func82, by kernel_rfl, by decide +kernel⟩, hh82⟩
  · cases h
theorem hh30 : Holds Try.prog 30 Sm30 := holds30 gam30
end Go.Proofs.Ytfbdkjdockbfdaa.Rx.S
namespace Go.Proofs.Ytfbdkjdockbfdaa.Rx.S
open Go Go.RowKit Go.Proofs
set_option maxRecDepth 100000
noncomputable def c31 : Code := (Try.f31.body.getD .skip)
def an31 : An := ⟨fun _ => ⟨[], []⟩, fun _ _ => none⟩
abbrev ps31 : List PK := [.val tQu true, .val i64 false]
abbrev rs31 : List RK := [.own tQu true, .val .bool false]
abbrev R31 := retsD rs31 × outsD ps31
noncomputable def G31 : Gam := fun f => match f with | 32 => some Sm32 | 77 => some Sm77 | 78 => some Sm78 | _ => none
theorem h0_31 (hg : GamOK Try.prog G31) : Holds Try.prog 31 ⟨ps31, rs31, false, runF TT G31 an31 Try.f31 c31 ps31 rs31⟩ := holds_of tt_ok hg mixed Try.func31 (by kernel_rfl) (by rfl) (by decide +kernel)
noncomputable def at31 : Nat → Pt → List Nat → St → Option R31 := atF TT G31 an31 Try.f31 c31 _ _
noncomputable def st31_top (n : Nat)  (a : List (Int × Int × Int × Bool) × Int) (b : Int) : Option R31 :=
  (Go.Proofs.Ytfbdkjdockbfdaa.Rx.S.q77 n ((a.fst, a.snd), b, ())).bind fun r0 => (Go.Proofs.Ytfbdkjdockbfdaa.Rx.S.q32 n ((a.fst, a.snd), ())).bind fun r1 => cond (!r1.fst.fst) (some ((([], (0 : Int)), (false, ())), ())) (cond (decide (r0.fst.fst < (0 : Int))) (some ((([], (0 : Int)), (false, ())), ())) ((Go.Proofs.Ytfbdkjdockbfdaa.Rx.S.q78 n ((a.fst, a.snd), ())).bind fun r2 => cond (decide ((0 : Int) ≤ r0.fst.fst)) (cond (decide (r0.fst.fst < (↑(List.length r2.fst.fst.fst) : Int))) (cond (!(List.getD r2.fst.fst.fst (Int.toNat r0.fst.fst) ((0 : Int), (0 : Int), (0 : Int), false)).snd.snd.snd) (some ((((List.set r2.fst.fst.fst (Int.toNat r0.fst.fst)       ((List.getD r2.fst.fst.fst (Int.toNat r0.fst.fst) ((0 : Int), (0 : Int), (0 : Int), false)).fst,         (List.getD r2.fst.fst.fst (Int.toNat r0.fst.fst) ((0 : Int), (0 : Int), (0 : Int), false)).snd.fst,         (List.getD r2.fst.fst.fst (Int.toNat r0.fst.fst) ((0 : Int), (0 : Int), (0 : Int), false)).snd.snd.fst,         true)).set   (Int.toNat r0.fst.fst)   (((List.set r2.fst.fst.fst (Int.toNat r0.fst.fst)             ((List.getD r2.fst.fst.fst (Int.toNat r0.fst.fst) ((0 : Int), (0 : Int), (0 : Int), false)).fst,               (List.getD r2.fst.fst.fst (Int.toNat r0.fst.fst) ((0 : Int), (0 : Int), (0 : Int), false)).snd.fst,               (List.getD r2.fst.fst.fst (Int.toNat r0.fst.fst) ((0 : Int), (0 : Int), (0 : Int), false)).snd.snd.fst,               true)).getD         (Int.toNat r0.fst.fst) ((0 : Int), (0 : Int), (0 : Int), false)).fst,     ((List.set r2.fst.fst.fst (Int.toNat r0.fst.fst)               ((List.getD r2.fst.fst.fst (Int.toNat r0.fst.fst) ((0 : Int), (0 : Int), (0 : Int), false)).fst,                 (List.getD r2.fst.fst.fst (Int.toNat r0.fst.fst) ((0 : Int), (0 : Int), (0 : Int), false)).snd.fst,                 (List.getD r2.fst.fst.fst (Int.toNat r0.fst.fst) ((0 : Int), (0 : Int), (0 : Int), false)).snd.snd.fst,                 true)).getD           (Int.toNat r0.fst.fst) ((0 : Int), (0 : Int), (0 : Int), false)).snd.fst,     if         r2.fst.fst.snd >           (List.getD r2.fst.fst.fst (Int.toNat r0.fst.fst) ((0 : Int), (0 : Int), (0 : Int), false)).snd.snd.fst then       r2.fst.fst.snd     else (List.getD r2.fst.fst.fst (Int.toNat r0.fst.fst) ((0 : Int), (0 : Int), (0 : Int), false)).snd.snd.fst,     ((List.set r2.fst.fst.fst (Int.toNat r0.fst.fst)                 ((List.getD r2.fst.fst.fst (Int.toNat r0.fst.fst) ((0 : Int), (0 : Int), (0 : Int), false)).fst,                   (List.getD r2.fst.fst.fst (Int.toNat r0.fst.fst) ((0 : Int), (0 : Int), (0 : Int), false)).snd.fst,                   (List.getD r2.fst.fst.fst (Int.toNat r0.fst.fst)                           ((0 : Int), (0 : Int), (0 : Int), false)).snd.snd.fst,                   true)).getD             (Int.toNat r0.fst.fst) ((0 : Int), (0 : Int), (0 : Int), false)).snd.snd.snd), r2.fst.fst.snd), (true, ())), ())) (some (((r2.fst.fst.fst, r2.fst.fst.snd), (true, ())), ()))) (none)) (none)))
theorem e31_top (n : Nat) (a : List (Int × Int × Int × Bool) × Int) (b : Int) : runF TT G31 an31 Try.f31 c31 ps31 rs31 n (a, b, ()) = st31_top n  a b := by kernel_rfl
noncomputable def p31 (n : Nat) (a : List (Int × Int × Int × Bool) × Int) (b : Int) : Option R31 := st31_top n  a b
theorem F31_eq (n : Nat) (a : List (Int × Int × Int × Bool) × Int) (b : Int) : runF TT G31 an31 Try.f31 c31 ps31 rs31 n (a, b, ()) = p31 n a b := by
  rw [e31_top]
  skip
  try rfl
noncomputable def q31 (n : Nat) (x : argsD ps31) : Option R31 := p31 n x.1 x.2.1
noncomputable def Sm31 : Sm := ⟨ps31, rs31, false, q31⟩
theorem holds31 (hg : GamOK Try.prog G31) : Holds Try.prog 31 Sm31 := by
  have := h0_31 hg
  have e : (runF TT G31 an31 Try.f31 c31 ps31 rs31) = q31 := by
    funext n x
    exact F31_eq n x.1 x.2.1
  rw [e] at this
  exact this
theorem gam31 : GamOK Try.prog G31 := by
  intro f s h
  unfold G31 at h
  split at h
  · injection h with h; subst h; exact ⟨⟨Try.f32, c32, Try.func32, by kernel_rfl, by decide +kernel⟩, hh32⟩
  · injection h with h; subst h; exact ⟨⟨Try.f77, c77, Try.func77, by kernel_rfl, by decide +kernel⟩, hh77⟩
  · injection h with h; subst h; exact ⟨⟨Try.f78, c78, Try.func78, by kernel_rfl, by decide +kernel⟩, hh78⟩
  · cases h
theorem hh31 : Holds Try.prog 31 Sm31 := holds31 gam31
end Go.Proofs.Ytfbdkjdockbfdaa.Rx.S
namespace Go.Proofs.Ytfbdkjdockbfdaa.Rx.S
open Go Go.RowKit Go.Proofs
set_option maxRecDepth 100000
noncomputable def c7 : Code := (Try.f7.body.getD .skip)
def an7 : An := ⟨fun r => match r with | 13 => ⟨[6, 11, 14, 15, 16], []⟩ | _ => ⟨[], []⟩, fun _ _ => none⟩
abbrev ps7 : List PK := [.val (.row 5 (.int .u8)) false, .val (.row 5 (.int .u8)) false]
abbrev rs7 : List RK := [.val .bool false]
abbrev R7 := retsD rs7 × outsD ps7
noncomputable def G7 : Gam := fun f => match f with | 26 => some Sm26 | 27 => some Sm27 | 28 => some Sm28 | 29 => some Sm29 | 30 => some Sm30 | 31 => some Sm31 | 32 => some Sm32 | _ => none
theorem h0_7 (hg : GamOK Try.prog G7) : Holds Try.prog 7 ⟨ps7, rs7, false, runF TT G7 an7 Try.f7 c7 ps7 rs7⟩ := holds_of tt_ok hg mixed Try.func7 (by kernel_rfl) (by rfl) (by decide +kernel)
noncomputable def at7 : Nat → Pt → List Nat → St → Option R7 := atF TT G7 an7 Try.f7 c7 _ _
def sh7_L13 (x0 : Int) (x1 : Bool) (x2 : Int) (x3 : Int) (x4 : Int) (x5 : List (Int × Int × Int × Bool)) (x6 : List (Int × Int × Int × Bool)) : St := (Go.Proofs.Ytfbdkjdockbfdaa.Rx.St.mk (Go.Proofs.Ytfbdkjdockbfdaa.Rx.AV.undef :: (Go.Proofs.Ytfbdkjdockbfdaa.Rx.AV.undef :: (Go.Proofs.Ytfbdkjdockbfdaa.Rx.AV.undef :: (Go.Proofs.Ytfbdkjdockbfdaa.Rx.AV.undef :: (Go.Proofs.Ytfbdkjdockbfdaa.Rx.AV.undef :: (Go.Proofs.Ytfbdkjdockbfdaa.Rx.AV.undef :: ((Go.Proofs.Ytfbdkjdockbfdaa.Rx.AV.one (Go.Proofs.Ytfbdkjdockbfdaa.Rx.SV.int (Go.IntKind.i64) x0)) :: (Go.Proofs.Ytfbdkjdockbfdaa.Rx.AV.undef :: (Go.Proofs.Ytfbdkjdockbfdaa.Rx.AV.undef :: (Go.Proofs.Ytfbdkjdockbfdaa.Rx.AV.undef :: (Go.Proofs.Ytfbdkjdockbfdaa.Rx.AV.undef :: ((Go.Proofs.Ytfbdkjdockbfdaa.Rx.AV.one (Go.Proofs.Ytfbdkjdockbfdaa.Rx.SV.bptr 1000000 0)) :: (Go.Proofs.Ytfbdkjdockbfdaa.Rx.AV.undef :: (Go.Proofs.Ytfbdkjdockbfdaa.Rx.AV.undef :: ((Go.Proofs.Ytfbdkjdockbfdaa.Rx.AV.one (Go.Proofs.Ytfbdkjdockbfdaa.Rx.SV.bptr 1000001 0)) :: ((Go.Proofs.Ytfbdkjdockbfdaa.Rx.AV.one (Go.Proofs.Ytfbdkjdockbfdaa.Rx.SV.bool x1)) :: ((Go.Proofs.Ytfbdkjdockbfdaa.Rx.AV.one (Go.Proofs.Ytfbdkjdockbfdaa.Rx.SV.int (Go.IntKind.i64) x2)) :: (Go.Proofs.Ytfbdkjdockbfdaa.Rx.AV.undef :: (Go.Proofs.Ytfbdkjdockbfdaa.Rx.AV.undef :: (Go.Proofs.Ytfbdkjdockbfdaa.Rx.AV.undef :: (Go.Proofs.Ytfbdkjdockbfdaa.Rx.AV.undef :: (Go.Proofs.Ytfbdkjdockbfdaa.Rx.AV.undef :: (Go.Proofs.Ytfbdkjdockbfdaa.Rx.AV.undef :: (Go.Proofs.Ytfbdkjdockbfdaa.Rx.AV.undef :: (Go.Proofs.Ytfbdkjdockbfdaa.Rx.AV.undef :: (Go.Proofs.Ytfbdkjdockbfdaa.Rx.AV.undef :: (Go.Proofs.Ytfbdkjdockbfdaa.Rx.AV.undef :: (Go.Proofs.Ytfbdkjdockbfdaa.Rx.AV.undef :: (Go.Proofs.Ytfbdkjdockbfdaa.Rx.AV.undef :: (Go.Proofs.Ytfbdkjdockbfdaa.Rx.AV.undef :: (Go.Proofs.Ytfbdkjdockbfdaa.Rx.AV.undef :: (Go.Proofs.Ytfbdkjdockbfdaa.Rx.AV.undef :: (Go.Proofs.Ytfbdkjdockbfdaa.Rx.AV.undef :: (Go.Proofs.Ytfbdkjdockbfdaa.Rx.AV.undef :: (Go.Proofs.Ytfbdkjdockbfdaa.Rx.AV.undef :: (Go.Proofs.Ytfbdkjdockbfdaa.Rx.AV.undef :: (Go.Proofs.Ytfbdkjdockbfdaa.Rx.AV.undef :: (Go.Proofs.Ytfbdkjdockbfdaa.Rx.AV.undef :: (Go.Proofs.Ytfbdkjdockbfdaa.Rx.AV.undef :: (Go.Proofs.Ytfbdkjdockbfdaa.Rx.AV.undef :: (Go.Proofs.Ytfbdkjdockbfdaa.Rx.AV.undef :: (Go.Proofs.Ytfbdkjdockbfdaa.Rx.AV.undef :: (Go.Proofs.Ytfbdkjdockbfdaa.Rx.AV.undef :: (Go.Proofs.Ytfbdkjdockbfdaa.Rx.AV.undef :: (Go.Proofs.Ytfbdkjdockbfdaa.Rx.AV.undef :: (Go.Proofs.Ytfbdkjdockbfdaa.Rx.AV.undef :: (Go.Proofs.Ytfbdkjdockbfdaa.Rx.AV.undef :: (Go.Proofs.Ytfbdkjdockbfdaa.Rx.AV.undef :: (Go.Proofs.Ytfbdkjdockbfdaa.Rx.AV.undef :: (Go.Proofs.Ytfbdkjdockbfdaa.Rx.AV.undef :: (Go.Proofs.Ytfbdkjdockbfdaa.Rx.AV.undef :: (Go.Proofs.Ytfbdkjdockbfdaa.Rx.AV.undef :: (Go.Proofs.Ytfbdkjdockbfdaa.Rx.AV.undef :: (Go.Proofs.Ytfbdkjdockbfdaa.Rx.AV.undef :: (Go.Proofs.Ytfbdkjdockbfdaa.Rx.AV.undef :: (Go.Proofs.Ytfbdkjdockbfdaa.Rx.AV.undef :: (Go.Proofs.Ytfbdkjdockbfdaa.Rx.AV.undef :: (Go.Proofs.Ytfbdkjdockbfdaa.Rx.AV.undef :: (Go.Proofs.Ytfbdkjdockbfdaa.Rx.AV.undef :: (Go.Proofs.Ytfbdkjdockbfdaa.Rx.AV.undef :: (Go.Proofs.Ytfbdkjdockbfdaa.Rx.AV.undef :: (Go.Proofs.Ytfbdkjdockbfdaa.Rx.AV.undef :: (Go.Proofs.Ytfbdkjdockbfdaa.Rx.AV.undef :: (Go.Proofs.Ytfbdkjdockbfdaa.Rx.AV.undef :: (Go.Proofs.Ytfbdkjdockbfdaa.Rx.AV.undef :: (Go.Proofs.Ytfbdkjdockbfdaa.Rx.AV.undef :: (Go.Proofs.Ytfbdkjdockbfdaa.Rx.AV.undef :: (Go.Proofs.Ytfbdkjdockbfdaa.Rx.AV.undef :: (Go.Proofs.Ytfbdkjdockbfdaa.Rx.AV.undef :: (Go.Proofs.Ytfbdkjdockbfdaa.Rx.AV.undef :: (Go.Proofs.Ytfbdkjdockbfdaa.Rx.AV.undef :: (Go.Proofs.Ytfbdkjdockbfdaa.Rx.AV.undef :: (Go.Proofs.Ytfbdkjdockbfdaa.Rx.AV.undef :: (Go.Proofs.Ytfbdkjdockbfdaa.Rx.AV.undef :: (Go.Proofs.Ytfbdkjdockbfdaa.Rx.AV.undef :: (Go.Proofs.Ytfbdkjdockbfdaa.Rx.AV.undef :: (Go.Proofs.Ytfbdkjdockbfdaa.Rx.AV.undef :: (Go.Proofs.Ytfbdkjdockbfdaa.Rx.AV.undef :: (Go.Proofs.Ytfbdkjdockbfdaa.Rx.AV.undef :: (Go.Proofs.Ytfbdkjdockbfdaa.Rx.AV.undef :: (Go.Proofs.Ytfbdkjdockbfdaa.Rx.AV.undef :: (Go.Proofs.Ytfbdkjdockbfdaa.Rx.AV.undef :: (Go.Proofs.Ytfbdkjdockbfdaa.Rx.AV.undef :: (Go.Proofs.Ytfbdkjdockbfdaa.Rx.AV.undef :: (Go.Proofs.Ytfbdkjdockbfdaa.Rx.AV.undef :: (Go.Proofs.Ytfbdkjdockbfdaa.Rx.AV.undef :: (Go.Proofs.Ytfbdkjdockbfdaa.Rx.AV.undef :: (Go.Proofs.Ytfbdkjdockbfdaa.Rx.AV.undef :: (Go.Proofs.Ytfbdkjdockbfdaa.Rx.AV.undef :: (Go.Proofs.Ytfbdkjdockbfdaa.Rx.AV.undef :: (Go.Proofs.Ytfbdkjdockbfdaa.Rx.AV.undef :: (Go.Proofs.Ytfbdkjdockbfdaa.Rx.AV.undef :: (Go.Proofs.Ytfbdkjdockbfdaa.Rx.AV.undef :: (Go.Proofs.Ytfbdkjdockbfdaa.Rx.AV.undef :: (Go.Proofs.Ytfbdkjdockbfdaa.Rx.AV.undef :: (Go.Proofs.Ytfbdkjdockbfdaa.Rx.AV.undef :: (Go.Proofs.Ytfbdkjdockbfdaa.Rx.AV.undef :: (Go.Proofs.Ytfbdkjdockbfdaa.Rx.AV.undef :: (Go.Proofs.Ytfbdkjdockbfdaa.Rx.AV.undef :: (Go.Proofs.Ytfbdkjdockbfdaa.Rx.AV.undef :: (Go.Proofs.Ytfbdkjdockbfdaa.Rx.AV.undef :: (Go.Proofs.Ytfbdkjdockbfdaa.Rx.AV.undef :: (Go.Proofs.Ytfbdkjdockbfdaa.Rx.AV.undef :: (Go.Proofs.Ytfbdkjdockbfdaa.Rx.AV.undef :: (Go.Proofs.Ytfbdkjdockbfdaa.Rx.AV.undef :: (Go.Proofs.Ytfbdkjdockbfdaa.Rx.AV.undef :: (Go.Proofs.Ytfbdkjdockbfdaa.Rx.AV.undef :: (Go.Proofs.Ytfbdkjdockbfdaa.Rx.AV.undef :: (Go.Proofs.Ytfbdkjdockbfdaa.Rx.AV.undef :: (Go.Proofs.Ytfbdkjdockbfdaa.Rx.AV.undef :: (Go.Proofs.Ytfbdkjdockbfdaa.Rx.AV.undef :: []))))))))))))))))))))))))))))))))))))))))))))))))))))))))))))))))))))))))))))))))))))))))))))))))))))))))))))))) ((1000000, (Go.Proofs.Ytfbdkjdockbfdaa.Rx.Ent.box ((Go.Proofs.Ytfbdkjdockbfdaa.Rx.SV.ref 1000002 0 [] Option.none) :: ((Go.Proofs.Ytfbdkjdockbfdaa.Rx.SV.int (Go.IntKind.i64) x3) :: [])))) :: ((1000001, (Go.Proofs.Ytfbdkjdockbfdaa.Rx.Ent.box ((Go.Proofs.Ytfbdkjdockbfdaa.Rx.SV.ref 1000003 0 [] Option.none) :: ((Go.Proofs.Ytfbdkjdockbfdaa.Rx.SV.int (Go.IntKind.i64) x4) :: [])))) :: ((1000002, (Go.Proofs.Ytfbdkjdockbfdaa.Rx.Ent.row (⟨63, (Go.Proofs.Ytfbdkjdockbfdaa.Rx.Ty.int Go.IntKind.i64).pair   ((Go.Proofs.Ytfbdkjdockbfdaa.Rx.Ty.int Go.IntKind.i64).pair ((Go.Proofs.Ytfbdkjdockbfdaa.Rx.Ty.int Go.IntKind.i64).pair Go.Proofs.Ytfbdkjdockbfdaa.Rx.Ty.bool)), x5⟩ : Rw) 0 Option.none)) :: ((1000003, (Go.Proofs.Ytfbdkjdockbfdaa.Rx.Ent.row (⟨63, (Go.Proofs.Ytfbdkjdockbfdaa.Rx.Ty.int Go.IntKind.i64).pair   ((Go.Proofs.Ytfbdkjdockbfdaa.Rx.Ty.int Go.IntKind.i64).pair ((Go.Proofs.Ytfbdkjdockbfdaa.Rx.Ty.int Go.IntKind.i64).pair Go.Proofs.Ytfbdkjdockbfdaa.Rx.Ty.bool)), x6⟩ : Rw) 0 Option.none)) :: [])))))
noncomputable def st7_top (n : Nat) (lL13 : Int → Bool → Int → Int → Int → (List (Int × Int × Int × Bool)) → (List (Int × Int × Int × Bool)) → Option R7) (a : List Int) (b : List Int) : Option R7 :=
  cond (decide ((1048576 : Int) < (↑a.length : Int))) (some ((true, ()), ())) (cond (decide ((1048576 : Int) < (↑b.length : Int))) (some ((true, ()), ())) ((Go.Proofs.Ytfbdkjdockbfdaa.Rx.S.q26 n (a, ())).bind fun r0 => (Go.Proofs.Ytfbdkjdockbfdaa.Rx.S.q27 n ((r0.fst.fst.fst, r0.fst.fst.snd), r0.fst.snd.fst, ())).bind fun r1 => (Go.Proofs.Ytfbdkjdockbfdaa.Rx.S.q28 n ((r0.fst.fst.fst, r0.fst.fst.snd), r0.fst.snd.fst, ())).bind fun r2 => cond (!r1.fst.snd.fst == r2.fst.snd.fst) (cond (r1.fst.snd.fst == r2.fst.snd.fst) ((Go.Proofs.Ytfbdkjdockbfdaa.Rx.S.q29 n ((r1.fst.fst.fst, r1.fst.fst.snd), (r2.fst.fst.fst, r2.fst.fst.snd), ())).bind fun r3 => some ((r3.fst.fst, ()), ())) (some ((false, ()), ()))) ((Go.Proofs.Ytfbdkjdockbfdaa.Rx.S.q29 n ((r1.fst.fst.fst, r1.fst.fst.snd), (r2.fst.fst.fst, r2.fst.fst.snd), ())).bind fun r4 => cond (!r4.fst.fst) (cond (r1.fst.snd.fst == r2.fst.snd.fst) ((Go.Proofs.Ytfbdkjdockbfdaa.Rx.S.q29 n ((r1.fst.fst.fst, r1.fst.fst.snd), (r2.fst.fst.fst, r2.fst.fst.snd), ())).bind fun r5 => some ((r5.fst.fst, ()), ())) (some ((false, ()), ()))) (cond (!r1.fst.snd.fst) (cond (r1.fst.snd.fst == r2.fst.snd.fst) ((Go.Proofs.Ytfbdkjdockbfdaa.Rx.S.q29 n ((r1.fst.fst.fst, r1.fst.fst.snd), (r2.fst.fst.fst, r2.fst.fst.snd), ())).bind fun r6 => some ((r6.fst.fst, ()), ())) (some ((false, ()), ()))) ((Go.Proofs.Ytfbdkjdockbfdaa.Rx.S.q30 n ((r1.fst.fst.fst, r1.fst.fst.snd), (↑b.length : Int).tmod (50 : Int), ())).bind fun r7 => cond (!r7.fst.snd.snd.fst) (some ((true, ()), ())) ((Go.Proofs.Ytfbdkjdockbfdaa.Rx.S.q31 n ((r7.fst.fst.fst, r7.fst.fst.snd), r0.fst.snd.fst, ())).bind fun r8 => lL13 (r0.fst.snd.fst) (r8.fst.snd.fst) ((0 : Int)) (r7.fst.fst.snd) (r8.fst.fst.snd) (r7.fst.fst.fst) (r8.fst.fst.fst)))))))
noncomputable def st7_L13 (n : Nat) (lL13 : Int → Bool → Int → Int → Int → (List (Int × Int × Int × Bool)) → (List (Int × Int × Int × Bool)) → Option R7) (x0 : Int) (x1 : Bool) (x2 : Int) (x3 : Int) (x4 : Int) (x5 : List (Int × Int × Int × Bool)) (x6 : List (Int × Int × Int × Bool)) : Option R7 :=
  cond (decide (x2 < (↑x6.length : Int))) (cond (decide ((0 : Int) ≤ x2)) (cond (decide (x2 < (↑x6.length : Int))) (cond (decide ((x6.getD x2.toNat ((0 : Int), (0 : Int), (0 : Int), false)).fst = x0)) (cond (decide ((0 : Int) ≤ x2)) (cond (decide (x2 < (↑x6.length : Int))) (cond (decide ((x6.getD x2.toNat ((0 : Int), (0 : Int), (0 : Int), false)).snd.snd.fst < x3)) (some ((false, ()), ())) (lL13 (x0) (x1) (Go.IntKind.i64.wrap (x2 + (1 : Int))) (x3) (x4) (x5) (x6))) (none)) (none)) (lL13 (x0) (x1) (Go.IntKind.i64.wrap (x2 + (1 : Int))) (x3) (x4) (x5) (x6))) (none)) (none)) (cond (x1) ((Go.Proofs.Ytfbdkjdockbfdaa.Rx.S.q32 n ((x6, x4), ())).bind fun r10 => some ((r10.fst.fst, ()), ())) (some ((false, ()), ())))
theorem e7_top (n : Nat) (a : List Int) (b : List Int) : runF TT G7 an7 Try.f7 c7 ps7 rs7 n (a, b, ()) = st7_top n (fun x0 x1 x2 x3 x4 x5 x6 => at7 n (.head 13) [n] (sh7_L13 x0 x1 x2 x3 x4 x5 x6)) a b := by kernel_rfl
theorem e7_L13_0 (n : Nat) (x0 : Int) (x1 : Bool) (x2 : Int) (x3 : Int) (x4 : Int) (x5 : List (Int × Int × Int × Bool)) (x6 : List (Int × Int × Int × Bool)) : at7 n (.head 13) [0] (sh7_L13 x0 x1 x2 x3 x4 x5 x6) = none := by kernel_rfl
theorem e7_L13 (n : Nat) (m13 : Nat) (x0 : Int) (x1 : Bool) (x2 : Int) (x3 : Int) (x4 : Int) (x5 : List (Int × Int × Int × Bool)) (x6 : List (Int × Int × Int × Bool)) : at7 n (.head 13) [m13 + 1] (sh7_L13 x0 x1 x2 x3 x4 x5 x6) = st7_L13 n (fun x0 x1 x2 x3 x4 x5 x6 => at7 n (.head 13) [m13] (sh7_L13 x0 x1 x2 x3 x4 x5 x6)) x0 x1 x2 x3 x4 x5 x6 := by kernel_rfl
noncomputable def p7_L13 (n : Nat) : Nat → Int → Bool → Int → Int → Int → (List (Int × Int × Int × Bool)) → (List (Int × Int × Int × Bool)) → Option R7
  | 0, _, _, _, _, _, _, _ => none
  | m + 1, x0, x1, x2, x3, x4, x5, x6 => st7_L13 n (p7_L13 n m) x0 x1 x2 x3 x4 x5 x6
noncomputable def p7 (n : Nat) (a : List Int) (b : List Int) : Option R7 := st7_top n (p7_L13 n n) a b
theorem t7_L13 (n : Nat) : ∀ (m13 : Nat) (x0 : Int) (x1 : Bool) (x2 : Int) (x3 : Int) (x4 : Int) (x5 : List (Int × Int × Int × Bool)) (x6 : List (Int × Int × Int × Bool)), at7 n (.head 13) [m13] (sh7_L13 x0 x1 x2 x3 x4 x5 x6) = p7_L13  n m13 x0 x1 x2 x3 x4 x5 x6 := by
  intro m
  induction m with
  | zero => intros; rw [e7_L13_0]; rfl
  | succ m ih =>
    intros
    rw [e7_L13]
    try simp only [ih]
    rfl
theorem F7_eq (n : Nat) (a : List Int) (b : List Int) : runF TT G7 an7 Try.f7 c7 ps7 rs7 n (a, b, ()) = p7 n a b := by
  rw [e7_top]
  simp only [t7_L13]
  try rfl
noncomputable def q7 (n : Nat) (x : argsD ps7) : Option R7 := p7 n x.1 x.2.1
noncomputable def Sm7 : Sm := ⟨ps7, rs7, false, q7⟩
theorem holds7 (hg : GamOK Try.prog G7) : Holds Try.prog 7 Sm7 := by
  have := h0_7 hg
  have e : (runF TT G7 an7 Try.f7 c7 ps7 rs7) = q7 := by
    funext n x
    exact F7_eq n x.1 x.2.1
  rw [e] at this
  exact this
theorem gam7 : GamOK Try.prog G7 := by
  intro f s h
  unfold G7 at h
  split at h
  · injection h with h; subst h; exact ⟨⟨Try.f26, c26, Try.func26, by kernel_rfl, by decide +kernel⟩, hh26⟩
  · injection h with h; subst h; exact ⟨⟨Try.f27, c27, Try.func27, by kernel_rfl, by decide +kernel⟩, hh27⟩
  · injection h with h; subst h; exact ⟨⟨Try.f28, c28, Try.func28, by kernel_rfl, by decide +kernel⟩, hh28⟩
  · injection h with h; subst h; exact ⟨⟨Try.f29, c29, Try.func29, by kernel_rfl, by decide +kernel⟩, hh29⟩
  · injection h with h; subst h; exact ⟨⟨Try.f30, c30, Try.func30, by kernel_rfl, by decide +kernel⟩, hh30⟩
  · injection h with h; subst h; exact ⟨⟨Try.f31, c31, Try.func31, by kernel_rfl, by decide +kernel⟩, hh31⟩
  · injection h with h; subst h; exact ⟨⟨Try.f32, c32, Try.func32, by kernel_rfl, by decide +kernel⟩, hh32⟩
  · cases h
theorem hh7 : Holds Try.prog 7 Sm7 := holds7 gam7
end Go.Proofs.Ytfbdkjdockbfdaa.Rx.S
