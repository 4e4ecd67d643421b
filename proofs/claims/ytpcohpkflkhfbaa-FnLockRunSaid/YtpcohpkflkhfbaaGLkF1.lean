/- What the functions of this seat compute, each as a plain function on lists and numbers, with the proof that a call answers so. No condition. -/
import Derived.Test.YtpcohpkflkhfbaaGLkF0
namespace Go.Proofs.Ytpcohpkflkhfbaa.Rx.S
open Go Go.RowKit Go.Proofs
set_option maxRecDepth 100000
noncomputable def c31 : Code := (Try.f31.body.getD .skip)
def an31 : An := ⟨fun r => match r with | 4 => ⟨[1, 15, 16], []⟩ | _ => ⟨[], []⟩, fun _ _ => none⟩
abbrev ps31 : List PK := [.val tLock true]
abbrev rs31 : List RK := [.val .bool false]
abbrev R31 := retsD rs31 × outsD ps31
noncomputable def G31 : Gam := fun f => match f with | 23 => some Sm23 | 78 => some Sm78 | _ => none
theorem h0_31 (hg : GamOK Try.prog G31) : Holds Try.prog 31 ⟨ps31, rs31, false, runF TT G31 an31 Try.f31 c31 ps31 rs31⟩ := holds_of tt_ok hg mixed Try.func31 (by kernel_rfl) (by rfl) (by decide +kernel)
noncomputable def at31 : Nat → Pt → List Nat → St → Option R31 := atF TT G31 an31 Try.f31 c31 _ _
def sh31_L4 (x0 : Int) (x1 : Int) (x2 : Int) (x3 : List (Int × Int × Int × Bool)) (x4 : List Int) : St := (Go.Proofs.Ytpcohpkflkhfbaa.Rx.St.mk (Go.Proofs.Ytpcohpkflkhfbaa.Rx.AV.undef :: ((Go.Proofs.Ytpcohpkflkhfbaa.Rx.AV.one (Go.Proofs.Ytpcohpkflkhfbaa.Rx.SV.bptr 1000000 0)) :: (Go.Proofs.Ytpcohpkflkhfbaa.Rx.AV.undef :: (Go.Proofs.Ytpcohpkflkhfbaa.Rx.AV.undef :: (Go.Proofs.Ytpcohpkflkhfbaa.Rx.AV.undef :: (Go.Proofs.Ytpcohpkflkhfbaa.Rx.AV.undef :: (Go.Proofs.Ytpcohpkflkhfbaa.Rx.AV.undef :: (Go.Proofs.Ytpcohpkflkhfbaa.Rx.AV.undef :: (Go.Proofs.Ytpcohpkflkhfbaa.Rx.AV.undef :: (Go.Proofs.Ytpcohpkflkhfbaa.Rx.AV.undef :: (Go.Proofs.Ytpcohpkflkhfbaa.Rx.AV.undef :: (Go.Proofs.Ytpcohpkflkhfbaa.Rx.AV.undef :: (Go.Proofs.Ytpcohpkflkhfbaa.Rx.AV.undef :: (Go.Proofs.Ytpcohpkflkhfbaa.Rx.AV.undef :: (Go.Proofs.Ytpcohpkflkhfbaa.Rx.AV.undef :: ((Go.Proofs.Ytpcohpkflkhfbaa.Rx.AV.one (Go.Proofs.Ytpcohpkflkhfbaa.Rx.SV.int (Go.IntKind.i64) x0)) :: ((Go.Proofs.Ytpcohpkflkhfbaa.Rx.AV.one (Go.Proofs.Ytpcohpkflkhfbaa.Rx.SV.int (Go.IntKind.i64) x1)) :: (Go.Proofs.Ytpcohpkflkhfbaa.Rx.AV.undef :: (Go.Proofs.Ytpcohpkflkhfbaa.Rx.AV.undef :: (Go.Proofs.Ytpcohpkflkhfbaa.Rx.AV.undef :: (Go.Proofs.Ytpcohpkflkhfbaa.Rx.AV.undef :: (Go.Proofs.Ytpcohpkflkhfbaa.Rx.AV.undef :: (Go.Proofs.Ytpcohpkflkhfbaa.Rx.AV.undef :: []))))))))))))))))))))))) ((1000000, (Go.Proofs.Ytpcohpkflkhfbaa.Rx.Ent.box ((Go.Proofs.Ytpcohpkflkhfbaa.Rx.SV.int (Go.IntKind.i64) x2) :: ((Go.Proofs.Ytpcohpkflkhfbaa.Rx.SV.con (⟨51, (Go.Proofs.Ytpcohpkflkhfbaa.Rx.Ty.int Go.IntKind.i64).pair   ((Go.Proofs.Ytpcohpkflkhfbaa.Rx.Ty.int Go.IntKind.i64).pair ((Go.Proofs.Ytpcohpkflkhfbaa.Rx.Ty.int Go.IntKind.i64).pair Go.Proofs.Ytpcohpkflkhfbaa.Rx.Ty.bool)), x3⟩ : Rw)) :: ((Go.Proofs.Ytpcohpkflkhfbaa.Rx.SV.con (⟨3, Go.Proofs.Ytpcohpkflkhfbaa.Rx.Ty.int Go.IntKind.i64, x4⟩ : Rw)) :: []))))) :: []))
noncomputable def st31_top (n : Nat) (lL4 : Int → Int → Int → (List (Int × Int × Int × Bool)) → (List Int) → Option R31) (a : Int × List (Int × Int × Int × Bool) × List Int) : Option R31 :=
  (Go.Proofs.Ytpcohpkflkhfbaa.Rx.S.q23 n ((a.fst, a.snd.fst, a.snd.snd), ())).bind fun r0 => cond (!r0.fst.fst) (some ((false, ()), ())) (cond (decide ((↑(List.length a.snd.snd) : Int) = (0 : Int))) (some ((false, ()), ())) (lL4 ((↑(List.length a.snd.fst) : Int)) ((0 : Int)) (a.fst) (a.snd.fst) (a.snd.snd)))
noncomputable def st31_L4 (n : Nat) (lL4 : Int → Int → Int → (List (Int × Int × Int × Bool)) → (List Int) → Option R31) (x0 : Int) (x1 : Int) (x2 : Int) (x3 : List (Int × Int × Int × Bool)) (x4 : List Int) : Option R31 :=
  cond (decide (x1 < x0)) ((Go.Proofs.Ytpcohpkflkhfbaa.Rx.S.q78 n ((x2, x3, x4), x1, ())).bind fun r2 => cond (r2.fst.fst) (some ((false, ()), ())) (lL4 (x0) (Go.IntKind.i64.wrap (x1 + (1 : Int))) (x2) (x3) (x4))) (some ((true, ()), ()))
theorem e31_top (n : Nat) (a : Int × List (Int × Int × Int × Bool) × List Int) : runF TT G31 an31 Try.f31 c31 ps31 rs31 n (a, ()) = st31_top n (fun x0 x1 x2 x3 x4 => at31 n (.head 4) [n] (sh31_L4 x0 x1 x2 x3 x4)) a := by kernel_rfl
theorem e31_L4_0 (n : Nat) (x0 : Int) (x1 : Int) (x2 : Int) (x3 : List (Int × Int × Int × Bool)) (x4 : List Int) : at31 n (.head 4) [0] (sh31_L4 x0 x1 x2 x3 x4) = none := by kernel_rfl
theorem e31_L4 (n : Nat) (m4 : Nat) (x0 : Int) (x1 : Int) (x2 : Int) (x3 : List (Int × Int × Int × Bool)) (x4 : List Int) : at31 n (.head 4) [m4 + 1] (sh31_L4 x0 x1 x2 x3 x4) = st31_L4 n (fun x0 x1 x2 x3 x4 => at31 n (.head 4) [m4] (sh31_L4 x0 x1 x2 x3 x4)) x0 x1 x2 x3 x4 := by kernel_rfl
noncomputable def p31_L4 (n : Nat) : Nat → Int → Int → Int → (List (Int × Int × Int × Bool)) → (List Int) → Option R31
  | 0, _, _, _, _, _ => none
  | m + 1, x0, x1, x2, x3, x4 => st31_L4 n (p31_L4 n m) x0 x1 x2 x3 x4
noncomputable def p31 (n : Nat) (a : Int × List (Int × Int × Int × Bool) × List Int) : Option R31 := st31_top n (p31_L4 n n) a
theorem t31_L4 (n : Nat) : ∀ (m4 : Nat) (x0 : Int) (x1 : Int) (x2 : Int) (x3 : List (Int × Int × Int × Bool)) (x4 : List Int), at31 n (.head 4) [m4] (sh31_L4 x0 x1 x2 x3 x4) = p31_L4  n m4 x0 x1 x2 x3 x4 := by
  intro m
  induction m with
  | zero => intros; rw [e31_L4_0]; rfl
  | succ m ih =>
    intros
    rw [e31_L4]
    simp only [ih]
    rfl
theorem F31_eq (n : Nat) (a : Int × List (Int × Int × Int × Bool) × List Int) : runF TT G31 an31 Try.f31 c31 ps31 rs31 n (a, ()) = p31 n a := by
  rw [e31_top]
  simp only [t31_L4]
  try rfl
noncomputable def q31 (n : Nat) (x : argsD ps31) : Option R31 := p31 n x.1
noncomputable def Sm31 : Sm := ⟨ps31, rs31, false, q31⟩
theorem holds31 (hg : GamOK Try.prog G31) : Holds Try.prog 31 Sm31 := by
  have := h0_31 hg
  have e : (runF TT G31 an31 Try.f31 c31 ps31 rs31) = q31 := by
    funext n x
    exact F31_eq n x.1
  rw [e] at this
  exact this
theorem gam31 : GamOK Try.prog G31 := by
  intro f s h
  unfold G31 at h
  split at h
  · injection h with h; subst h; exact ⟨⟨Try.f23, c23, Try.func23, by kernel_rfl, by decide +kernel⟩, hh23⟩
  · injection h with h; subst h; exact ⟨⟨Try.f78, c78, Try.func78, by kernel_rfl, by decide +kernel⟩, hh78⟩
  · cases h
theorem hh31 : Holds Try.prog 31 Sm31 := holds31 gam31
end Go.Proofs.Ytpcohpkflkhfbaa.Rx.S
namespace Go.Proofs.Ytpcohpkflkhfbaa.Rx.S
open Go Go.RowKit Go.Proofs
set_option maxRecDepth 100000
noncomputable def c85 : Code := (Try.f85.body.getD .skip)
def an85 : An := ⟨fun r => match r with | 2 => ⟨[1, 3], []⟩ | _ => ⟨[], []⟩, fun _ _ => none⟩
abbrev ps85 : List PK := [.val tLock true]
abbrev rs85 : List RK := [.val .bool false]
abbrev R85 := retsD rs85 × outsD ps85
noncomputable def G85 : Gam := fun f => match f with | 82 => some Sm82 | _ => none
theorem h0_85 (hg : GamOK Try.prog G85) : Holds Try.prog 85 ⟨ps85, rs85, false, runF TT G85 an85 Try.f85 c85 ps85 rs85⟩ := holds_of tt_ok hg mixed Try.func85 (by kernel_rfl) (by rfl) (by decide +kernel)
noncomputable def at85 : Nat → Pt → List Nat → St → Option R85 := atF TT G85 an85 Try.f85 c85 _ _
def sh85_L2 (x0 : Int) (x1 : Int) (x2 : List (Int × Int × Int × Bool)) (x3 : List Int) : St := (Go.Proofs.Ytpcohpkflkhfbaa.Rx.St.mk (Go.Proofs.Ytpcohpkflkhfbaa.Rx.AV.undef :: ((Go.Proofs.Ytpcohpkflkhfbaa.Rx.AV.one (Go.Proofs.Ytpcohpkflkhfbaa.Rx.SV.bptr 1000000 0)) :: (Go.Proofs.Ytpcohpkflkhfbaa.Rx.AV.undef :: ((Go.Proofs.Ytpcohpkflkhfbaa.Rx.AV.one (Go.Proofs.Ytpcohpkflkhfbaa.Rx.SV.int (Go.IntKind.i64) x0)) :: (Go.Proofs.Ytpcohpkflkhfbaa.Rx.AV.undef :: (Go.Proofs.Ytpcohpkflkhfbaa.Rx.AV.undef :: (Go.Proofs.Ytpcohpkflkhfbaa.Rx.AV.undef :: (Go.Proofs.Ytpcohpkflkhfbaa.Rx.AV.undef :: (Go.Proofs.Ytpcohpkflkhfbaa.Rx.AV.undef :: (Go.Proofs.Ytpcohpkflkhfbaa.Rx.AV.undef :: (Go.Proofs.Ytpcohpkflkhfbaa.Rx.AV.undef :: (Go.Proofs.Ytpcohpkflkhfbaa.Rx.AV.undef :: (Go.Proofs.Ytpcohpkflkhfbaa.Rx.AV.undef :: (Go.Proofs.Ytpcohpkflkhfbaa.Rx.AV.undef :: (Go.Proofs.Ytpcohpkflkhfbaa.Rx.AV.undef :: (Go.Proofs.Ytpcohpkflkhfbaa.Rx.AV.undef :: (Go.Proofs.Ytpcohpkflkhfbaa.Rx.AV.undef :: (Go.Proofs.Ytpcohpkflkhfbaa.Rx.AV.undef :: [])))))))))))))))))) ((1000000, (Go.Proofs.Ytpcohpkflkhfbaa.Rx.Ent.box ((Go.Proofs.Ytpcohpkflkhfbaa.Rx.SV.int (Go.IntKind.i64) x1) :: ((Go.Proofs.Ytpcohpkflkhfbaa.Rx.SV.con (⟨51, (Go.Proofs.Ytpcohpkflkhfbaa.Rx.Ty.int Go.IntKind.i64).pair   ((Go.Proofs.Ytpcohpkflkhfbaa.Rx.Ty.int Go.IntKind.i64).pair ((Go.Proofs.Ytpcohpkflkhfbaa.Rx.Ty.int Go.IntKind.i64).pair Go.Proofs.Ytpcohpkflkhfbaa.Rx.Ty.bool)), x2⟩ : Rw)) :: ((Go.Proofs.Ytpcohpkflkhfbaa.Rx.SV.con (⟨3, Go.Proofs.Ytpcohpkflkhfbaa.Rx.Ty.int Go.IntKind.i64, x3⟩ : Rw)) :: []))))) :: []))
noncomputable def st85_top (n : Nat) (lL2 : Int → Int → (List (Int × Int × Int × Bool)) → (List Int) → Option R85) (a : Int × List (Int × Int × Int × Bool) × List Int) : Option R85 :=
  lL2 ((0 : Int)) (a.fst) (a.snd.fst) (a.snd.snd)
noncomputable def st85_L2 (n : Nat) (lL2 : Int → Int → (List (Int × Int × Int × Bool)) → (List Int) → Option R85) (x0 : Int) (x1 : Int) (x2 : List (Int × Int × Int × Bool)) (x3 : List Int) : Option R85 :=
  cond (decide (x0 < (↑x2.length : Int))) ((Go.Proofs.Ytpcohpkflkhfbaa.Rx.S.q82 n ((x1, x2, x3), x0, ())).bind fun r1 => cond (r1.fst.fst) (some ((false, ()), ())) (lL2 (Go.IntKind.i64.wrap (x0 + (1 : Int))) (x1) (x2) (x3))) (some ((decide ((0 : Int) < (↑x3.length : Int)), ()), ()))
theorem e85_top (n : Nat) (a : Int × List (Int × Int × Int × Bool) × List Int) : runF TT G85 an85 Try.f85 c85 ps85 rs85 n (a, ()) = st85_top n (fun x0 x1 x2 x3 => at85 n (.head 2) [n] (sh85_L2 x0 x1 x2 x3)) a := by kernel_rfl
theorem e85_L2_0 (n : Nat) (x0 : Int) (x1 : Int) (x2 : List (Int × Int × Int × Bool)) (x3 : List Int) : at85 n (.head 2) [0] (sh85_L2 x0 x1 x2 x3) = none := by kernel_rfl
theorem e85_L2 (n : Nat) (m2 : Nat) (x0 : Int) (x1 : Int) (x2 : List (Int × Int × Int × Bool)) (x3 : List Int) : at85 n (.head 2) [m2 + 1] (sh85_L2 x0 x1 x2 x3) = st85_L2 n (fun x0 x1 x2 x3 => at85 n (.head 2) [m2] (sh85_L2 x0 x1 x2 x3)) x0 x1 x2 x3 := by kernel_rfl
noncomputable def p85_L2 (n : Nat) : Nat → Int → Int → (List (Int × Int × Int × Bool)) → (List Int) → Option R85
  | 0, _, _, _, _ => none
  | m + 1, x0, x1, x2, x3 => st85_L2 n (p85_L2 n m) x0 x1 x2 x3
noncomputable def p85 (n : Nat) (a : Int × List (Int × Int × Int × Bool) × List Int) : Option R85 := st85_top n (p85_L2 n n) a
theorem t85_L2 (n : Nat) : ∀ (m2 : Nat) (x0 : Int) (x1 : Int) (x2 : List (Int × Int × Int × Bool)) (x3 : List Int), at85 n (.head 2) [m2] (sh85_L2 x0 x1 x2 x3) = p85_L2  n m2 x0 x1 x2 x3 := by
  intro m
  induction m with
  | zero => intros; rw [e85_L2_0]; rfl
  | succ m ih =>
    intros
    rw [e85_L2]
    simp only [ih]
    rfl
theorem F85_eq (n : Nat) (a : Int × List (Int × Int × Int × Bool) × List Int) : runF TT G85 an85 Try.f85 c85 ps85 rs85 n (a, ()) = p85 n a := by
  rw [e85_top]
  simp only [t85_L2]
  try rfl
noncomputable def q85 (n : Nat) (x : argsD ps85) : Option R85 := p85 n x.1
noncomputable def Sm85 : Sm := ⟨ps85, rs85, false, q85⟩
theorem holds85 (hg : GamOK Try.prog G85) : Holds Try.prog 85 Sm85 := by
  have := h0_85 hg
  have e : (runF TT G85 an85 Try.f85 c85 ps85 rs85) = q85 := by
    funext n x
    exact F85_eq n x.1
  rw [e] at this
  exact this
theorem gam85 : GamOK Try.prog G85 := by
  intro f s h
  unfold G85 at h
  split at h
  · injection h with h; subst h; exact ⟨⟨Try.f82, c82, Try.func82, by kernel_rfl, by decide +kernel⟩, hh82⟩
  · cases h
theorem hh85 : Holds Try.prog 85 Sm85 := holds85 gam85
end Go.Proofs.Ytpcohpkflkhfbaa.Rx.S
namespace Go.Proofs.Ytpcohpkflkhfbaa.Rx.S
open Go Go.RowKit Go.Proofs
set_option maxRecDepth 100000
noncomputable def c32 : Code := (Try.f32.body.getD .skip)
def an32 : An := ⟨fun _ => ⟨[], []⟩, fun _ _ => none⟩
abbrev ps32 : List PK := [.val tLock true]
abbrev rs32 : List RK := [.val .bool false]
abbrev R32 := retsD rs32 × outsD ps32
noncomputable def G32 : Gam := fun f => match f with | 24 => some Sm24 | 85 => some Sm85 | _ => none
theorem h0_32 (hg : GamOK Try.prog G32) : Holds Try.prog 32 ⟨ps32, rs32, false, runF TT G32 an32 Try.f32 c32 ps32 rs32⟩ := holds_of tt_ok hg mixed Try.func32 (by kernel_rfl) (by rfl) (by decide +kernel)
noncomputable def at32 : Nat → Pt → List Nat → St → Option R32 := atF TT G32 an32 Try.f32 c32 _ _
noncomputable def st32_top (n : Nat)  (a : Int × List (Int × Int × Int × Bool) × List Int) : Option R32 :=
  (Go.Proofs.Ytpcohpkflkhfbaa.Rx.S.q24 n ((a.fst, a.snd.fst, a.snd.snd), ())).bind fun r0 => cond (r0.fst.fst) ((Go.Proofs.Ytpcohpkflkhfbaa.Rx.S.q85 n ((a.fst, a.snd.fst, a.snd.snd), ())).bind fun r1 => some ((r1.fst.fst, ()), ())) (some ((false, ()), ()))
theorem e32_top (n : Nat) (a : Int × List (Int × Int × Int × Bool) × List Int) : runF TT G32 an32 Try.f32 c32 ps32 rs32 n (a, ()) = st32_top n  a := by kernel_rfl
noncomputable def p32 (n : Nat) (a : Int × List (Int × Int × Int × Bool) × List Int) : Option R32 := st32_top n  a
theorem F32_eq (n : Nat) (a : Int × List (Int × Int × Int × Bool) × List Int) : runF TT G32 an32 Try.f32 c32 ps32 rs32 n (a, ()) = p32 n a := by
  rw [e32_top]
  skip
  try rfl
noncomputable def q32 (n : Nat) (x : argsD ps32) : Option R32 := p32 n x.1
noncomputable def Sm32 : Sm := ⟨ps32, rs32, false, q32⟩
theorem holds32 (hg : GamOK Try.prog G32) : Holds Try.prog 32 Sm32 := by
  have := h0_32 hg
  have e : (runF TT G32 an32 Try.f32 c32 ps32 rs32) = q32 := by
    funext n x
    exact F32_eq n x.1
  rw [e] at this
  exact this
theorem gam32 : GamOK Try.prog G32 := by
  intro f s h
  unfold G32 at h
  split at h
  · injection h with h; subst h; exact ⟨⟨Try.f24, c24, Try.func24, by kernel_rfl, by decide +kernel⟩, hh24⟩
  · injection h with h; subst h; exact ⟨⟨Try.f85, c85, Try.func85, by kernel_rfl, by decide +kernel⟩, hh85⟩
  · cases h
theorem hh32 : Holds Try.prog 32 Sm32 := holds32 gam32
end Go.Proofs.Ytpcohpkflkhfbaa.Rx.S
namespace Go.Proofs.Ytpcohpkflkhfbaa.Rx.S
open Go Go.RowKit Go.Proofs
set_option maxRecDepth 100000
noncomputable def c7 : Code := (Try.f7.body.getD .skip)
def an7 : An := ⟨fun r => match r with | 10 => ⟨[3, 7], []⟩ | _ => ⟨[], []⟩, fun _ _ => none⟩
abbrev ps7 : List PK := [.val (.row 5 (.int .u8)) false]
abbrev rs7 : List RK := [.val .bool false]
abbrev R7 := retsD rs7 × outsD ps7
noncomputable def G7 : Gam := fun f => match f with | 30 => some Sm30 | 31 => some Sm31 | 32 => some Sm32 | 28 => some Sm28 | _ => none
theorem h0_7 (hg : GamOK Try.prog G7) : Holds Try.prog 7 ⟨ps7, rs7, false, runF TT G7 an7 Try.f7 c7 ps7 rs7⟩ := holds_of tt_ok hg mixed Try.func7 (by kernel_rfl) (by rfl) (by decide +kernel)
noncomputable def at7 : Nat → Pt → List Nat → St → Option R7 := atF TT G7 an7 Try.f7 c7 _ _
def sh7_L10 (x0 : Int) (x1 : Int) (x2 : List (Int × Int × Int × Bool)) (x3 : List Int) : St := (Go.Proofs.Ytpcohpkflkhfbaa.Rx.St.mk (Go.Proofs.Ytpcohpkflkhfbaa.Rx.AV.undef :: (Go.Proofs.Ytpcohpkflkhfbaa.Rx.AV.undef :: (Go.Proofs.Ytpcohpkflkhfbaa.Rx.AV.undef :: ((Go.Proofs.Ytpcohpkflkhfbaa.Rx.AV.one (Go.Proofs.Ytpcohpkflkhfbaa.Rx.SV.bptr 1000000 0)) :: (Go.Proofs.Ytpcohpkflkhfbaa.Rx.AV.undef :: (Go.Proofs.Ytpcohpkflkhfbaa.Rx.AV.undef :: (Go.Proofs.Ytpcohpkflkhfbaa.Rx.AV.undef :: ((Go.Proofs.Ytpcohpkflkhfbaa.Rx.AV.one (Go.Proofs.Ytpcohpkflkhfbaa.Rx.SV.int (Go.IntKind.i64) x0)) :: (Go.Proofs.Ytpcohpkflkhfbaa.Rx.AV.undef :: (Go.Proofs.Ytpcohpkflkhfbaa.Rx.AV.undef :: (Go.Proofs.Ytpcohpkflkhfbaa.Rx.AV.undef :: (Go.Proofs.Ytpcohpkflkhfbaa.Rx.AV.undef :: (Go.Proofs.Ytpcohpkflkhfbaa.Rx.AV.undef :: (Go.Proofs.Ytpcohpkflkhfbaa.Rx.AV.undef :: (Go.Proofs.Ytpcohpkflkhfbaa.Rx.AV.undef :: (Go.Proofs.Ytpcohpkflkhfbaa.Rx.AV.undef :: (Go.Proofs.Ytpcohpkflkhfbaa.Rx.AV.undef :: (Go.Proofs.Ytpcohpkflkhfbaa.Rx.AV.undef :: (Go.Proofs.Ytpcohpkflkhfbaa.Rx.AV.undef :: (Go.Proofs.Ytpcohpkflkhfbaa.Rx.AV.undef :: (Go.Proofs.Ytpcohpkflkhfbaa.Rx.AV.undef :: (Go.Proofs.Ytpcohpkflkhfbaa.Rx.AV.undef :: (Go.Proofs.Ytpcohpkflkhfbaa.Rx.AV.undef :: (Go.Proofs.Ytpcohpkflkhfbaa.Rx.AV.undef :: (Go.Proofs.Ytpcohpkflkhfbaa.Rx.AV.undef :: (Go.Proofs.Ytpcohpkflkhfbaa.Rx.AV.undef :: (Go.Proofs.Ytpcohpkflkhfbaa.Rx.AV.undef :: (Go.Proofs.Ytpcohpkflkhfbaa.Rx.AV.undef :: (Go.Proofs.Ytpcohpkflkhfbaa.Rx.AV.undef :: (Go.Proofs.Ytpcohpkflkhfbaa.Rx.AV.undef :: (Go.Proofs.Ytpcohpkflkhfbaa.Rx.AV.undef :: (Go.Proofs.Ytpcohpkflkhfbaa.Rx.AV.undef :: (Go.Proofs.Ytpcohpkflkhfbaa.Rx.AV.undef :: (Go.Proofs.Ytpcohpkflkhfbaa.Rx.AV.undef :: (Go.Proofs.Ytpcohpkflkhfbaa.Rx.AV.undef :: (Go.Proofs.Ytpcohpkflkhfbaa.Rx.AV.undef :: (Go.Proofs.Ytpcohpkflkhfbaa.Rx.AV.undef :: (Go.Proofs.Ytpcohpkflkhfbaa.Rx.AV.undef :: (Go.Proofs.Ytpcohpkflkhfbaa.Rx.AV.undef :: (Go.Proofs.Ytpcohpkflkhfbaa.Rx.AV.undef :: (Go.Proofs.Ytpcohpkflkhfbaa.Rx.AV.undef :: (Go.Proofs.Ytpcohpkflkhfbaa.Rx.AV.undef :: (Go.Proofs.Ytpcohpkflkhfbaa.Rx.AV.undef :: (Go.Proofs.Ytpcohpkflkhfbaa.Rx.AV.undef :: (Go.Proofs.Ytpcohpkflkhfbaa.Rx.AV.undef :: (Go.Proofs.Ytpcohpkflkhfbaa.Rx.AV.undef :: (Go.Proofs.Ytpcohpkflkhfbaa.Rx.AV.undef :: []))))))))))))))))))))))))))))))))))))))))))))))) ((1000000, (Go.Proofs.Ytpcohpkflkhfbaa.Rx.Ent.box ((Go.Proofs.Ytpcohpkflkhfbaa.Rx.SV.int (Go.IntKind.i64) x1) :: ((Go.Proofs.Ytpcohpkflkhfbaa.Rx.SV.ref 1000001 0 [] Option.none) :: ((Go.Proofs.Ytpcohpkflkhfbaa.Rx.SV.ref 1000002 0 [] Option.none) :: []))))) :: ((1000001, (Go.Proofs.Ytpcohpkflkhfbaa.Rx.Ent.row (⟨51, (Go.Proofs.Ytpcohpkflkhfbaa.Rx.Ty.int Go.IntKind.i64).pair   ((Go.Proofs.Ytpcohpkflkhfbaa.Rx.Ty.int Go.IntKind.i64).pair ((Go.Proofs.Ytpcohpkflkhfbaa.Rx.Ty.int Go.IntKind.i64).pair Go.Proofs.Ytpcohpkflkhfbaa.Rx.Ty.bool)), x2⟩ : Rw) 0 Option.none)) :: ((1000002, (Go.Proofs.Ytpcohpkflkhfbaa.Rx.Ent.row (⟨3, Go.Proofs.Ytpcohpkflkhfbaa.Rx.Ty.int Go.IntKind.i64, x3⟩ : Rw) 0 Option.none)) :: []))))
noncomputable def st7_top (n : Nat) (lL10 : Int → Int → (List (Int × Int × Int × Bool)) → (List Int) → Option R7) (a : List Int) : Option R7 :=
  cond (decide ((1048576 : Int) < (↑a.length : Int))) (some ((true, ()), ())) ((Go.Proofs.Ytpcohpkflkhfbaa.Rx.S.q30 n (a, ())).bind fun r0 => (Go.Proofs.Ytpcohpkflkhfbaa.Rx.S.q31 n ((r0.fst.fst.fst, r0.fst.fst.snd.fst, r0.fst.fst.snd.snd), ())).bind fun r1 => (Go.Proofs.Ytpcohpkflkhfbaa.Rx.S.q32 n ((r0.fst.fst.fst, r0.fst.fst.snd.fst, r0.fst.fst.snd.snd), ())).bind fun r2 => cond (!r1.fst.fst == r2.fst.fst) (some ((r1.fst.fst == r2.fst.fst, ()), ())) (cond (!r1.fst.fst) (some ((r1.fst.fst == r2.fst.fst, ()), ())) (lL10 ((0 : Int)) (r0.fst.fst.fst) (r0.fst.fst.snd.fst) (r0.fst.fst.snd.snd))))
noncomputable def st7_L10 (n : Nat) (lL10 : Int → Int → (List (Int × Int × Int × Bool)) → (List Int) → Option R7) (x0 : Int) (x1 : Int) (x2 : List (Int × Int × Int × Bool)) (x3 : List Int) : Option R7 :=
  cond (decide (x0 < (↑x2.length : Int))) ((Go.Proofs.Ytpcohpkflkhfbaa.Rx.S.q28 n ((x1, x2, x3), x0, ())).bind fun r4 => cond (r4.fst.snd.fst) (some ((false, ()), ())) (lL10 (Go.IntKind.i64.wrap (x0 + (1 : Int))) (x1) (x2) (x3))) (some ((decide ((0 : Int) < (↑x3.length : Int)), ()), ()))
theorem e7_top (n : Nat) (a : List Int) : runF TT G7 an7 Try.f7 c7 ps7 rs7 n (a, ()) = st7_top n (fun x0 x1 x2 x3 => at7 n (.head 10) [n] (sh7_L10 x0 x1 x2 x3)) a := by kernel_rfl
theorem e7_L10_0 (n : Nat) (x0 : Int) (x1 : Int) (x2 : List (Int × Int × Int × Bool)) (x3 : List Int) : at7 n (.head 10) [0] (sh7_L10 x0 x1 x2 x3) = none := by kernel_rfl
theorem e7_L10 (n : Nat) (m10 : Nat) (x0 : Int) (x1 : Int) (x2 : List (Int × Int × Int × Bool)) (x3 : List Int) : at7 n (.head 10) [m10 + 1] (sh7_L10 x0 x1 x2 x3) = st7_L10 n (fun x0 x1 x2 x3 => at7 n (.head 10) [m10] (sh7_L10 x0 x1 x2 x3)) x0 x1 x2 x3 := by kernel_rfl
noncomputable def p7_L10 (n : Nat) : Nat → Int → Int → (List (Int × Int × Int × Bool)) → (List Int) → Option R7
  | 0, _, _, _, _ => none
  | m + 1, x0, x1, x2, x3 => st7_L10 n (p7_L10 n m) x0 x1 x2 x3
noncomputable def p7 (n : Nat) (a : List Int) : Option R7 := st7_top n (p7_L10 n n) a
theorem t7_L10 (n : Nat) : ∀ (m10 : Nat) (x0 : Int) (x1 : Int) (x2 : List (Int × Int × Int × Bool)) (x3 : List Int), at7 n (.head 10) [m10] (sh7_L10 x0 x1 x2 x3) = p7_L10  n m10 x0 x1 x2 x3 := by
  intro m
  induction m with
  | zero => intros; rw [e7_L10_0]; rfl
  | succ m ih =>
    intros
    rw [e7_L10]
    simp only [ih]
    rfl
theorem F7_eq (n : Nat) (a : List Int) : runF TT G7 an7 Try.f7 c7 ps7 rs7 n (a, ()) = p7 n a := by
  rw [e7_top]
  simp only [t7_L10]
  try rfl
noncomputable def q7 (n : Nat) (x : argsD ps7) : Option R7 := p7 n x.1
noncomputable def Sm7 : Sm := ⟨ps7, rs7, false, q7⟩
theorem holds7 (hg : GamOK Try.prog G7) : Holds Try.prog 7 Sm7 := by
  have := h0_7 hg
  have e : (runF TT G7 an7 Try.f7 c7 ps7 rs7) = q7 := by
    funext n x
    exact F7_eq n x.1
  rw [e] at this
  exact this
theorem gam7 : GamOK Try.prog G7 := by
  intro f s h
  unfold G7 at h
  split at h
  · injection h with h; subst h; exact ⟨⟨Try.f30, c30, Try.func30, by kernel_rfl, by decide +kernel⟩, hh30⟩
  · injection h with h; subst h; exact ⟨⟨Try.f31, c31, Try.func31, by kernel_rfl, by decide +kernel⟩, hh31⟩
  · injection h with h; subst h; exact ⟨⟨Try.f32, c32, Try.func32, by kernel_rfl, by decide +kernel⟩, hh32⟩
  · injection h with h; subst h; exact ⟨⟨Try.f28, c28, Try.func28, by kernel_rfl, by decide +kernel⟩, hh28⟩
  · cases h
theorem hh7 : Holds Try.prog 7 Sm7 := holds7 gam7
end Go.Proofs.Ytpcohpkflkhfbaa.Rx.S
namespace Go.Proofs.Ytpcohpkflkhfbaa.Rx.S
open Go Go.RowKit Go.Proofs
set_option maxRecDepth 100000
noncomputable def c34 : Code := (Try.f34.body.getD .skip)
def an34 : An := ⟨fun r => match r with | 6 => ⟨[1, 4, 6, 7, 8], []⟩ | _ => ⟨[], []⟩, fun _ _ => none⟩
abbrev ps34 : List PK := [.val tLock true, .val (.row 3 i64) false]
abbrev rs34 : List RK := [.own tLock true, .val i64 false]
abbrev R34 := retsD rs34 × outsD ps34
noncomputable def G34 : Gam := fun f => match f with | 24 => some Sm24 | 57 => some Sm57 | 82 => some Sm82 | 83 => some Sm83 | 84 => some Sm84 | _ => none
theorem h0_34 (hg : GamOK Try.prog G34) : Holds Try.prog 34 ⟨ps34, rs34, false, runF TT G34 an34 Try.f34 c34 ps34 rs34⟩ := holds_of tt_ok hg mixed Try.func34 (by kernel_rfl) (by rfl) (by decide +kernel)
noncomputable def at34 : Nat → Pt → List Nat → St → Option R34 := atF TT G34 an34 Try.f34 c34 _ _
def sh34_L6 (x0 : List Int) (x1 : Int) (x2 : Int) (x3 : Int) (x4 : Int) (x5 : List (Int × Int × Int × Bool)) (x6 : List Int) : St := (Go.Proofs.Ytpcohpkflkhfbaa.Rx.St.mk (Go.Proofs.Ytpcohpkflkhfbaa.Rx.AV.undef :: ((Go.Proofs.Ytpcohpkflkhfbaa.Rx.AV.one (Go.Proofs.Ytpcohpkflkhfbaa.Rx.SV.con (⟨3, Go.Proofs.Ytpcohpkflkhfbaa.Rx.Ty.int Go.IntKind.i64, x0⟩ : Rw))) :: (Go.Proofs.Ytpcohpkflkhfbaa.Rx.AV.undef :: (Go.Proofs.Ytpcohpkflkhfbaa.Rx.AV.undef :: ((Go.Proofs.Ytpcohpkflkhfbaa.Rx.AV.one (Go.Proofs.Ytpcohpkflkhfbaa.Rx.SV.bptr 1000000 0)) :: (Go.Proofs.Ytpcohpkflkhfbaa.Rx.AV.undef :: ((Go.Proofs.Ytpcohpkflkhfbaa.Rx.AV.one (Go.Proofs.Ytpcohpkflkhfbaa.Rx.SV.bptr 1000001 0)) :: ((Go.Proofs.Ytpcohpkflkhfbaa.Rx.AV.one (Go.Proofs.Ytpcohpkflkhfbaa.Rx.SV.int (Go.IntKind.i64) x1)) :: ((Go.Proofs.Ytpcohpkflkhfbaa.Rx.AV.one (Go.Proofs.Ytpcohpkflkhfbaa.Rx.SV.int (Go.IntKind.i64) x2)) :: (Go.Proofs.Ytpcohpkflkhfbaa.Rx.AV.undef :: (Go.Proofs.Ytpcohpkflkhfbaa.Rx.AV.undef :: (Go.Proofs.Ytpcohpkflkhfbaa.Rx.AV.undef :: (Go.Proofs.Ytpcohpkflkhfbaa.Rx.AV.undef :: (Go.Proofs.Ytpcohpkflkhfbaa.Rx.AV.undef :: (Go.Proofs.Ytpcohpkflkhfbaa.Rx.AV.undef :: (Go.Proofs.Ytpcohpkflkhfbaa.Rx.AV.undef :: (Go.Proofs.Ytpcohpkflkhfbaa.Rx.AV.undef :: (Go.Proofs.Ytpcohpkflkhfbaa.Rx.AV.undef :: (Go.Proofs.Ytpcohpkflkhfbaa.Rx.AV.undef :: (Go.Proofs.Ytpcohpkflkhfbaa.Rx.AV.undef :: (Go.Proofs.Ytpcohpkflkhfbaa.Rx.AV.undef :: (Go.Proofs.Ytpcohpkflkhfbaa.Rx.AV.undef :: (Go.Proofs.Ytpcohpkflkhfbaa.Rx.AV.undef :: (Go.Proofs.Ytpcohpkflkhfbaa.Rx.AV.undef :: (Go.Proofs.Ytpcohpkflkhfbaa.Rx.AV.undef :: (Go.Proofs.Ytpcohpkflkhfbaa.Rx.AV.undef :: (Go.Proofs.Ytpcohpkflkhfbaa.Rx.AV.undef :: (Go.Proofs.Ytpcohpkflkhfbaa.Rx.AV.undef :: (Go.Proofs.Ytpcohpkflkhfbaa.Rx.AV.undef :: (Go.Proofs.Ytpcohpkflkhfbaa.Rx.AV.undef :: (Go.Proofs.Ytpcohpkflkhfbaa.Rx.AV.undef :: (Go.Proofs.Ytpcohpkflkhfbaa.Rx.AV.undef :: (Go.Proofs.Ytpcohpkflkhfbaa.Rx.AV.undef :: (Go.Proofs.Ytpcohpkflkhfbaa.Rx.AV.undef :: (Go.Proofs.Ytpcohpkflkhfbaa.Rx.AV.undef :: (Go.Proofs.Ytpcohpkflkhfbaa.Rx.AV.undef :: (Go.Proofs.Ytpcohpkflkhfbaa.Rx.AV.undef :: (Go.Proofs.Ytpcohpkflkhfbaa.Rx.AV.undef :: (Go.Proofs.Ytpcohpkflkhfbaa.Rx.AV.undef :: (Go.Proofs.Ytpcohpkflkhfbaa.Rx.AV.undef :: (Go.Proofs.Ytpcohpkflkhfbaa.Rx.AV.undef :: (Go.Proofs.Ytpcohpkflkhfbaa.Rx.AV.undef :: (Go.Proofs.Ytpcohpkflkhfbaa.Rx.AV.undef :: (Go.Proofs.Ytpcohpkflkhfbaa.Rx.AV.undef :: (Go.Proofs.Ytpcohpkflkhfbaa.Rx.AV.undef :: (Go.Proofs.Ytpcohpkflkhfbaa.Rx.AV.undef :: (Go.Proofs.Ytpcohpkflkhfbaa.Rx.AV.undef :: (Go.Proofs.Ytpcohpkflkhfbaa.Rx.AV.undef :: [])))))))))))))))))))))))))))))))))))))))))))))))) ((1000000, (Go.Proofs.Ytpcohpkflkhfbaa.Rx.Ent.box ((Go.Proofs.Ytpcohpkflkhfbaa.Rx.SV.int (Go.IntKind.i64) x3) :: (Go.Proofs.Ytpcohpkflkhfbaa.Rx.SV.nil :: (Go.Proofs.Ytpcohpkflkhfbaa.Rx.SV.nil :: []))))) :: ((1000001, (Go.Proofs.Ytpcohpkflkhfbaa.Rx.Ent.box ((Go.Proofs.Ytpcohpkflkhfbaa.Rx.SV.int (Go.IntKind.i64) x4) :: ((Go.Proofs.Ytpcohpkflkhfbaa.Rx.SV.ref 1000002 0 [] Option.none) :: ((Go.Proofs.Ytpcohpkflkhfbaa.Rx.SV.ref 1000003 0 [] Option.none) :: []))))) :: ((1000002, (Go.Proofs.Ytpcohpkflkhfbaa.Rx.Ent.row (⟨51, (Go.Proofs.Ytpcohpkflkhfbaa.Rx.Ty.int Go.IntKind.i64).pair   ((Go.Proofs.Ytpcohpkflkhfbaa.Rx.Ty.int Go.IntKind.i64).pair ((Go.Proofs.Ytpcohpkflkhfbaa.Rx.Ty.int Go.IntKind.i64).pair Go.Proofs.Ytpcohpkflkhfbaa.Rx.Ty.bool)), x5⟩ : Rw) 0 Option.none)) :: ((1000003, (Go.Proofs.Ytpcohpkflkhfbaa.Rx.Ent.row (⟨3, Go.Proofs.Ytpcohpkflkhfbaa.Rx.Ty.int Go.IntKind.i64, x6⟩ : Rw) 0 Option.none)) :: [])))))
noncomputable def st34_top (n : Nat) (lL6 : (List Int) → Int → Int → Int → Int → (List (Int × Int × Int × Bool)) → (List Int) → Option R34) (a : Int × List (Int × Int × Int × Bool) × List Int) (b : List Int) : Option R34 :=
  (Go.Proofs.Ytpcohpkflkhfbaa.Rx.S.q24 n ((a.fst, a.snd.fst, a.snd.snd), ())).bind fun r0 => cond (!r0.fst.fst) (some ((((0 : Int), ([], [])), ((-1 : Int), ())), ())) ((Go.Proofs.Ytpcohpkflkhfbaa.Rx.S.q83 n ((a.fst, a.snd.fst, a.snd.snd), ())).bind fun r1 => lL6 (b) ((0 : Int)) ((0 : Int)) ((0 : Int)) (r1.fst.fst.fst) (r1.fst.fst.snd.fst) (r1.fst.fst.snd.snd))
noncomputable def st34_L6 (n : Nat) (lL6 : (List Int) → Int → Int → Int → Int → (List (Int × Int × Int × Bool)) → (List Int) → Option R34) (x0 : List Int) (x1 : Int) (x2 : Int) (x3 : Int) (x4 : Int) (x5 : List (Int × Int × Int × Bool)) (x6 : List Int) : Option R34 :=
  cond (decide (x2 < (↑x0.length : Int))) (cond (decide ((0 : Int) ≤ x2)) (cond (decide (x2 < (↑x0.length : Int))) ((Go.Proofs.Ytpcohpkflkhfbaa.Rx.S.q57 n (x0.getD x2.toNat (0 : Int), (0 : Int), Go.IntKind.i64.wrap ((↑x5.length : Int) - (1 : Int)), ())).bind fun r3 => cond (r3.fst.fst) (cond (decide ((0 : Int) ≤ x2)) (cond (decide (x2 < (↑x0.length : Int))) ((Go.Proofs.Ytpcohpkflkhfbaa.Rx.S.q82 n ((x4, x5, x6), x0.getD x2.toNat (0 : Int), ())).bind fun r4 => cond (r4.fst.fst) (cond (decide ((0 : Int) ≤ x2)) (cond (decide (x2 < (↑x0.length : Int))) ((Go.Proofs.Ytpcohpkflkhfbaa.Rx.S.q84 n ((x4, x5, x6), x0.getD x2.toNat (0 : Int), ())).bind fun r5 => lL6 (x0) (Go.IntKind.i64.wrap (x1 + (1 : Int))) (Go.IntKind.i64.wrap (x2 + (1 : Int))) (x3) (r5.fst.fst.fst) (r5.fst.fst.snd.fst) (r5.fst.fst.snd.snd)) (none)) (none)) (lL6 (x0) (x1) (Go.IntKind.i64.wrap (x2 + (1 : Int))) (x3) (x4) (x5) (x6))) (none)) (none)) (lL6 (x0) (x1) (Go.IntKind.i64.wrap (x2 + (1 : Int))) (x3) (x4) (x5) (x6))) (none)) (none)) (some (((x4, (x5, x6)), (x1, ())), ()))
theorem e34_top (n : Nat) (a : Int × List (Int × Int × Int × Bool) × List Int) (b : List Int) : runF TT G34 an34 Try.f34 c34 ps34 rs34 n (a, b, ()) = st34_top n (fun x0 x1 x2 x3 x4 x5 x6 => at34 n (.head 6) [n] (sh34_L6 x0 x1 x2 x3 x4 x5 x6)) a b := by kernel_rfl
theorem e34_L6_0 (n : Nat) (x0 : List Int) (x1 : Int) (x2 : Int) (x3 : Int) (x4 : Int) (x5 : List (Int × Int × Int × Bool)) (x6 : List Int) : at34 n (.head 6) [0] (sh34_L6 x0 x1 x2 x3 x4 x5 x6) = none := by kernel_rfl
theorem e34_L6 (n : Nat) (m6 : Nat) (x0 : List Int) (x1 : Int) (x2 : Int) (x3 : Int) (x4 : Int) (x5 : List (Int × Int × Int × Bool)) (x6 : List Int) : at34 n (.head 6) [m6 + 1] (sh34_L6 x0 x1 x2 x3 x4 x5 x6) = st34_L6 n (fun x0 x1 x2 x3 x4 x5 x6 => at34 n (.head 6) [m6] (sh34_L6 x0 x1 x2 x3 x4 x5 x6)) x0 x1 x2 x3 x4 x5 x6 := by kernel_rfl
noncomputable def p34_L6 (n : Nat) : Nat → (List Int) → Int → Int → Int → Int → (List (Int × Int × Int × Bool)) → (List Int) → Option R34
  | 0, _, _, _, _, _, _, _ => none
  | m + 1, x0, x1, x2, x3, x4, x5, x6 => st34_L6 n (p34_L6 n m) x0 x1 x2 x3 x4 x5 x6
noncomputable def p34 (n : Nat) (a : Int × List (Int × Int × Int × Bool) × List Int) (b : List Int) : Option R34 := st34_top n (p34_L6 n n) a b
theorem t34_L6 (n : Nat) : ∀ (m6 : Nat) (x0 : List Int) (x1 : Int) (x2 : Int) (x3 : Int) (x4 : Int) (x5 : List (Int × Int × Int × Bool)) (x6 : List Int), at34 n (.head 6) [m6] (sh34_L6 x0 x1 x2 x3 x4 x5 x6) = p34_L6  n m6 x0 x1 x2 x3 x4 x5 x6 := by
  intro m
  induction m with
  | zero => intros; rw [e34_L6_0]; rfl
  | succ m ih =>
    intros
    rw [e34_L6]
    simp only [ih]
    rfl
theorem F34_eq (n : Nat) (a : Int × List (Int × Int × Int × Bool) × List Int) (b : List Int) : runF TT G34 an34 Try.f34 c34 ps34 rs34 n (a, b, ()) = p34 n a b := by
  rw [e34_top]
  simp only [t34_L6]
  try rfl
noncomputable def q34 (n : Nat) (x : argsD ps34) : Option R34 := p34 n x.1 x.2.1
noncomputable def Sm34 : Sm := ⟨ps34, rs34, false, q34⟩
theorem holds34 (hg : GamOK Try.prog G34) : Holds Try.prog 34 Sm34 := by
  have := h0_34 hg
  have e : (runF TT G34 an34 Try.f34 c34 ps34 rs34) = q34 := by
    funext n x
    exact F34_eq n x.1 x.2.1
  rw [e] at this
  exact this
theorem gam34 : GamOK Try.prog G34 := by
  intro f s h
  unfold G34 at h
  split at h
  · injection h with h; subst h; exact ⟨⟨Try.f24, c24, Try.func24, by kernel_rfl, by decide +kernel⟩, hh24⟩
  · injection h with h; subst h; exact ⟨⟨Try.f57, c57, Try.func57, by kernel_rfl, by decide +kernel⟩, hh57⟩
  · injection h with h; subst h; exact ⟨⟨Try.f82, c82, Try.func82, by kernel_rfl, by decide +kernel⟩, hh82⟩
  · injection h with h; subst h; exact ⟨⟨Try.f83, c83, Try.func83, by kernel_rfl, by decide +kernel⟩, hh83⟩
  · injection h with h; subst h; exact ⟨⟨Try.f84, c84, Try.func84, by kernel_rfl, by decide +kernel⟩, hh84⟩
  · cases h
theorem hh34 : Holds Try.prog 34 Sm34 := holds34 gam34
end Go.Proofs.Ytpcohpkflkhfbaa.Rx.S
namespace Go.Proofs.Ytpcohpkflkhfbaa.Rx.S
open Go Go.RowKit Go.Proofs
set_option maxRecDepth 100000
noncomputable def c8 : Code := (Try.f8.body.getD .skip)
def an8 : An := ⟨fun _ => ⟨[], []⟩, fun _ _ => none⟩
abbrev ps8 : List PK := [.val (.row 5 (.int .u8)) false, .val (.row 5 (.int .u8)) false]
abbrev rs8 : List RK := [.val .bool false]
abbrev R8 := retsD rs8 × outsD ps8
noncomputable def G8 : Gam := fun f => match f with | 33 => some Sm33 | 25 => some Sm25 | 34 => some Sm34 | 26 => some Sm26 | 23 => some Sm23 | _ => none
theorem h0_8 (hg : GamOK Try.prog G8) : Holds Try.prog 8 ⟨ps8, rs8, false, runF TT G8 an8 Try.f8 c8 ps8 rs8⟩ := holds_of tt_ok hg mixed Try.func8 (by kernel_rfl) (by rfl) (by decide +kernel)
noncomputable def at8 : Nat → Pt → List Nat → St → Option R8 := atF TT G8 an8 Try.f8 c8 _ _
noncomputable def st8_top (n : Nat)  (a : List Int) (b : List Int) : Option R8 :=
  cond (decide ((1048576 : Int) < (↑a.length : Int))) (some ((true, ()), ())) (cond (decide ((1048576 : Int) < (↑b.length : Int))) (some ((true, ()), ())) ((Go.Proofs.Ytpcohpkflkhfbaa.Rx.S.q33 n (a, ())).bind fun r0 => (Go.Proofs.Ytpcohpkflkhfbaa.Rx.S.q25 n ((r0.fst.fst.fst, r0.fst.fst.snd.fst, r0.fst.fst.snd.snd), r0.fst.snd.fst, ())).bind fun r1 => (Go.Proofs.Ytpcohpkflkhfbaa.Rx.S.q34 n ((r0.fst.fst.fst, r0.fst.fst.snd.fst, r0.fst.fst.snd.snd), r0.fst.snd.fst, ())).bind fun r2 => (Go.Proofs.Ytpcohpkflkhfbaa.Rx.S.q26 n   ((r1.fst.fst.fst, r1.fst.fst.snd.fst, r1.fst.fst.snd.snd), (r2.fst.fst.fst, r2.fst.fst.snd.fst, r2.fst.fst.snd.snd),     ())).bind fun r3 => cond (r3.fst.fst) (cond (!decide (r1.fst.snd.fst = r2.fst.snd.fst)) (some ((decide (r1.fst.snd.fst = r2.fst.snd.fst), ()), ())) (cond (!decide ((0 : Int) ≤ r1.fst.snd.fst)) (some ((decide (r1.fst.snd.fst = r2.fst.snd.fst), ()), ())) (cond (!decide (Go.IntKind.i64.wrap ((↑(List.length r0.fst.snd.fst) : Int) + (1 : Int)) = (0 : Int))) (cond (decide ((0 : Int) ≤ (↑b.length : Int).tmod (Go.IntKind.i64.wrap ((↑(List.length r0.fst.snd.fst) : Int) + (1 : Int))))) (cond (decide   ((↑b.length : Int).tmod (Go.IntKind.i64.wrap ((↑(List.length r0.fst.snd.fst) : Int) + (1 : Int))) ≤     (↑(List.length r0.fst.snd.fst) : Int))) ((Go.Proofs.Ytpcohpkflkhfbaa.Rx.S.q25 n   ((r0.fst.fst.fst, r0.fst.fst.snd.fst, r0.fst.fst.snd.snd),     List.take       ((↑b.length : Int).tmod (Go.IntKind.i64.wrap ((↑(List.length r0.fst.snd.fst) : Int) + (1 : Int))) -           (0 : Int)).toNat       (List.drop ((0 : Nat) + Int.toNat (0 : Int)) r0.fst.snd.fst),     ())).bind fun r4 => cond (decide ((0 : Int) ≤ (↑b.length : Int).tmod (Go.IntKind.i64.wrap ((↑(List.length r0.fst.snd.fst) : Int) + (1 : Int))))) (cond (decide   ((↑b.length : Int).tmod (Go.IntKind.i64.wrap ((↑(List.length r0.fst.snd.fst) : Int) + (1 : Int))) ≤     (↑(List.length r0.fst.snd.fst) : Int))) ((Go.Proofs.Ytpcohpkflkhfbaa.Rx.S.q25 n   ((r4.fst.fst.fst, r4.fst.fst.snd.fst, r4.fst.fst.snd.snd),     List.take       ((↑(List.length r0.fst.snd.fst) : Int) -           (↑b.length : Int).tmod (Go.IntKind.i64.wrap ((↑(List.length r0.fst.snd.fst) : Int) + (1 : Int)))).toNat       (List.drop         ((0 : Nat) +           ((↑b.length : Int).tmod (Go.IntKind.i64.wrap ((↑(List.length r0.fst.snd.fst) : Int) + (1 : Int)))).toNat)         r0.fst.snd.fst),     ())).bind fun r5 => (Go.Proofs.Ytpcohpkflkhfbaa.Rx.S.q26 n   ((r5.fst.fst.fst, r5.fst.fst.snd.fst, r5.fst.fst.snd.snd), (r1.fst.fst.fst, r1.fst.fst.snd.fst, r1.fst.fst.snd.snd),     ())).bind fun r6 => cond (r6.fst.fst) (cond (decide (Go.IntKind.i64.wrap (r4.fst.snd.fst + r5.fst.snd.fst) = r1.fst.snd.fst)) ((Go.Proofs.Ytpcohpkflkhfbaa.Rx.S.q23 n ((r1.fst.fst.fst, r1.fst.fst.snd.fst, r1.fst.fst.snd.snd), ())).bind fun r7 => some ((r7.fst.fst, ()), ())) (some ((false, ()), ()))) (some ((false, ()), ()))) (none)) (none)) (none)) (none)) (none)))) (some ((false, ()), ()))))
theorem e8_top (n : Nat) (a : List Int) (b : List Int) : runF TT G8 an8 Try.f8 c8 ps8 rs8 n (a, b, ()) = st8_top n  a b := by kernel_rfl
noncomputable def p8 (n : Nat) (a : List Int) (b : List Int) : Option R8 := st8_top n  a b
theorem F8_eq (n : Nat) (a : List Int) (b : List Int) : runF TT G8 an8 Try.f8 c8 ps8 rs8 n (a, b, ()) = p8 n a b := by
  rw [e8_top]
  skip
  try rfl
noncomputable def q8 (n : Nat) (x : argsD ps8) : Option R8 := p8 n x.1 x.2.1
noncomputable def Sm8 : Sm := ⟨ps8, rs8, false, q8⟩
theorem holds8 (hg : GamOK Try.prog G8) : Holds Try.prog 8 Sm8 := by
  have := h0_8 hg
  have e : (runF TT G8 an8 Try.f8 c8 ps8 rs8) = q8 := by
    funext n x
    exact F8_eq n x.1 x.2.1
  rw [e] at this
  exact this
theorem gam8 : GamOK Try.prog G8 := by
  intro f s h
  unfold G8 at h
  split at h
  · injection h with h; subst h; exact ⟨⟨Try.f33, c33, Try.func33, by kernel_rfl, by decide +kernel⟩, hh33⟩
  · injection h with h; subst h; exact ⟨⟨Try.f25, c25, Try.func25, by kernel_rfl, by decide +kernel⟩, hh25⟩
  · injection h with h; subst h; exact ⟨⟨Try.f34, c34, Try.func34, by kernel_rfl, by decide +kernel⟩, hh34⟩
  · injection h with h; subst h; exact ⟨⟨Try.f26, c26, Try.func26, by kernel_rfl, by decide +kernel⟩, hh26⟩
  · injection h with h; subst h; exact ⟨⟨Try.f23, c23, Try.func23, by kernel_rfl, by decide +kernel⟩, hh23⟩
  · cases h
theorem hh8 : Holds Try.prog 8 Sm8 := holds8 gam8
end Go.Proofs.Ytpcohpkflkhfbaa.Rx.S
