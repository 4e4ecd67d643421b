/- What the functions of this seat compute, each as a plain function on lists and numbers, with the proof that a call answers so. No condition. -/
import Derived.Test.YtpcohpkflkhfbaaGLxF0
namespace Go.Proofs.Ytpcohpkflkhfbaa.Rx.S
open Go Go.RowKit Go.Proofs
set_option maxRecDepth 100000
noncomputable def c31 : Code := (Try.f31.body.getD .skip)
def an31 : An := ⟨fun r => match r with | 4 => ⟨[1, 15, 16], []⟩ | _ => ⟨[], []⟩, fun _ _ => none⟩
abbrev ps31 : List PK := [.val tLock true]
abbrev rs31 : List RK := [.val .bool false]
abbrev R31 := retsD rs31 × outsD ps31
noncomputable def G31 : Gam := fun f => match f with | 23 => some Sm23 | 78 => some Sm78 | _ => none
theorem h0_31 (hg : GamOK Try.prog G31) : Holds Try.prog 31 ⟨ps31, rs31, false, runF TT G31 an31 Try.f31 c31 ps31 rs31⟩ := holds_of tt_ok hg mixed Try.func31 (by kernel_rfl) (by rfl) (by decide +kernel)
noncomputable def at31 : Nat → Pt → List Nat → St → Option R31 := atF TT G31 an31 Try.f31 c31 _ _
def sh31_L4 (x0 : Int) (x1 : Int) (x2 : Int) (x3 : List (Int × Int × Int × Bool)) (x4 : List Int) : St := (Go.Proofs.Ytpcohpkflkhfbaa.Rx.St.mk (Go.Proofs.Ytpcohpkflkhfbaa.Rx.AV.undef :: ((Go.Proofs.Ytpcohpkflkhfbaa.Rx.AV.one (Go.Proofs.Ytpcohpkflkhfbaa.Rx.SV.bptr 1000000 0)) :: (Go.Proofs.Ytpcohpkflkhfbaa.Rx.AV.undef :: (Go.Proofs.Ytpcohpkflkhfbaa.Rx.AV.undef :: (Go.Proofs.Ytpcohpkflkhfbaa.Rx.AV.undef :: (Go.Proofs.Ytpcohpkflkhfbaa.Rx.AV.undef :: (Go.Proofs.Ytpcohpkflkhfbaa.Rx.AV.undef :: (Go.Proofs.Ytpcohpkflkhfbaa.Rx.AV.undef :: (Go.Proofs.Ytpcohpkflkhfbaa.Rx.AV.undef :: (Go.Proofs.Ytpcohpkflkhfbaa.Rx.AV.undef :: (Go.Proofs.Ytpcohpkflkhfbaa.Rx.AV.undef :: (Go.Proofs.Ytpcohpkflkhfbaa.Rx.AV.undef :: (Go.Proofs.Ytpcohpkflkhfbaa.Rx.AV.undef :: (Go.Proofs.Ytpcohpkflkhfbaa.Rx.AV.undef :: (Go.Proofs.Ytpcohpkflkhfbaa.Rx.AV.undef :: ((Go.Proofs.Ytpcohpkflkhfbaa.Rx.AV.one (Go.Proofs.Ytpcohpkflkhfbaa.Rx.SV.int (Go.IntKind.i64) x0)) :: ((Go.Proofs.Ytpcohpkflkhfbaa.Rx.AV.one (Go.Proofs.Ytpcohpkflkhfbaa.Rx.SV.int (Go.IntKind.i64) x1)) :: (Go.Proofs.Ytpcohpkflkhfbaa.Rx.AV.undef :: (Go.Proofs.Ytpcohpkflkhfbaa.Rx.AV.undef :: (Go.Proofs.Ytpcohpkflkhfbaa.Rx.AV.undef :: (Go.Proofs.Ytpcohpkflkhfbaa.Rx.AV.undef :: (Go.Proofs.Ytpcohpkflkhfbaa.Rx.AV.undef :: (Go.Proofs.Ytpcohpkflkhfbaa.Rx.AV.undef :: []))))))))))))))))))))))) ((1000000, (Go.Proofs.Ytpcohpkflkhfbaa.Rx.Ent.box ((Go.Proofs.Ytpcohpkflkhfbaa.Rx.SV.int (Go.IntKind.i64) x2) :: ((Go.Proofs.Ytpcohpkflkhfbaa.Rx.SV.con (⟨51, (Go.Proofs.Ytpcohpkflkhfbaa.Rx.Ty.int Go.IntKind.i64).pair   ((Go.Proofs.Ytpcohpkflkhfbaa.Rx.Ty.int Go.IntKind.i64).pair ((Go.Proofs.Ytpcohpkflkhfbaa.Rx.Ty.int Go.IntKind.i64).pair Go.Proofs.Ytpcohpkflkhfbaa.Rx.Ty.bool)), x3⟩ : Rw)) :: ((Go.Proofs.Ytpcohpkflkhfbaa.Rx.SV.con (⟨3, Go.Proofs.Ytpcohpkflkhfbaa.Rx.Ty.int Go.IntKind.i64, x4⟩ : Rw)) :: []))))) :: []))
noncomputable def st31_top (n : Nat) (lL4 : Int → Int → Int → (List (Int × Int × Int × Bool)) → (List Int) → Option R31) (a : Int × List (Int × Int × Int × Bool) × List Int) : Option R31 :=
  (Go.Proofs.Ytpcohpkflkhfbaa.Rx.S.q23 n ((a.fst, a.snd.fst, a.snd.snd), ())).bind fun r0 => cond (!r0.fst.fst) (some ((false, ()), ())) (cond (decide ((↑(List.length a.snd.snd) : Int) = (0 : Int))) (some ((false, ()), ())) (lL4 ((↑(List.length a.snd.fst) : Int)) ((0 : Int)) (a.fst) (a.snd.fst) (a.snd.snd)))
noncomputable def st31_L4 (n : Nat) (lL4 : Int → Int → Int → (List (Int × Int × Int × Bool)) → (List Int) → Option R31) (x0 : Int) (x1 : Int) (x2 : Int) (x3 : List (Int × Int × Int × Bool)) (x4 : List Int) : Option R31 :=
  cond (decide (x1 < x0)) ((Go.Proofs.Ytpcohpkflkhfbaa.Rx.S.q78 n ((x2, x3, x4), x1, ())).bind fun r2 => cond (r2.fst.fst) (some ((false, ()), ())) (lL4 (x0) (Go.IntKind.i64.wrap (x1 + (1 : Int))) (x2) (x3) (x4))) (some ((true, ()), ()))
theorem e31_top (n : Nat) (a : Int × List (Int × Int × Int × Bool) × List Int) : runF TT G31 an31 Try.f31 c31 ps31 rs31 n (a, ()) = st31_top n (fun x0 x1 x2 x3 x4 => at31 n (.head 4) [n] (sh31_L4 x0 x1 x2 x3 x4)) a := by kernel_rfl
theorem e31_L4_0 (n : Nat) (x0 : Int) (x1 : Int) (x2 : Int) (x3 : List (Int × Int × Int × Bool)) (x4 : List Int) : at31 n (.head 4) [0] (sh31_L4 x0 x1 x2 x3 x4) = none := by kernel_rfl
theorem e31_L4 (n : Nat) (m4 : Nat) (x0 : Int) (x1 : Int) (x2 : Int) (x3 : List (Int × Int × Int × Bool)) (x4 : List Int) : at31 n (.head 4) [m4 + 1] (sh31_L4 x0 x1 x2 x3 x4) = st31_L4 n (fun x0 x1 x2 x3 x4 => at31 n (.head 4) [m4] (sh31_L4 x0 x1 x2 x3 x4)) x0 x1 x2 x3 x4 := by kernel_rfl
noncomputable def p31_L4 (n : Nat) : Nat → Int → Int → Int → (List (Int × Int × Int × Bool)) → (List Int) → Option R31
  | 0, _, _, _, _, _ => none
  | m + 1, x0, x1, x2, x3, x4 => st31_L4 n (p31_L4 n m) x0 x1 x2 x3 x4
noncomputable def p31 (n : Nat) (a : Int × List (Int × Int × Int × Bool) × List Int) : Option R31 := st31_top n (p31_L4 n n) a
theorem t31_L4 (n : Nat) : ∀ (m4 : Nat) (x0 : Int) (x1 : Int) (x2 : Int) (x3 : List (Int × Int × Int × Bool)) (x4 : List Int), at31 n (.head 4) [m4] (sh31_L4 x0 x1 x2 x3 x4) = p31_L4  n m4 x0 x1 x2 x3 x4 := by
  intro m
  induction m with
  | zero => intros; rw [e31_L4_0]; rfl
  | succ m ih =>
    intros
    rw [e31_L4]
    simp only [ih]
    rfl
theorem F31_eq (n : Nat) (a : Int × List (Int × Int × Int × Bool) × List Int) : runF TT G31 an31 Try.f31 c31 ps31 rs31 n (a, ()) = p31 n a := by
  rw [e31_top]
  simp only [t31_L4]
  try rfl
noncomputable def q31 (n : Nat) (x : argsD ps31) : Option R31 := p31 n x.1
noncomputable def Sm31 : Sm := ⟨ps31, rs31, false, q31⟩
theorem holds31 (hg : GamOK Try.prog G31) : Holds Try.prog 31 Sm31 := by
  have := h0_31 hg
  have e : (runF TT G31 an31 Try.f31 c31 ps31 rs31) = q31 := by
    funext n x
    exact F31_eq n x.1
  rw [e] at this
  exact this
theorem gam31 : GamOK Try.prog G31 := by
  intro f s h
  unfold G31 at h
  split at h
  · injection h with h; subst h; exact ⟨⟨Try.f23, c23, Try.func23, by kernel_rfl, by decide +kernel⟩, hh23⟩
  · injection h with h; subst h; exact ⟨⟨Try.f78, c78, Try.func78, by kernel_rfl, by decide +kernel⟩, hh78⟩
  · cases h
theorem hh31 : Holds Try.prog 31 Sm31 := holds31 gam31
end Go.Proofs.Ytpcohpkflkhfbaa.Rx.S
namespace Go.Proofs.Ytpcohpkflkhfbaa.Rx.S
open Go Go.RowKit Go.Proofs
set_option maxRecDepth 100000
noncomputable def c85 : Code := (Try.f85.body.getD .skip)
def an85 : An := ⟨fun r => match r with | 2 => ⟨[1, 3], []⟩ | _ => ⟨[], []⟩, fun _ _ => none⟩
abbrev ps85 : List PK := [.val tLock true]
abbrev rs85 : List RK := [.val .bool false]
abbrev R85 := retsD rs85 × outsD ps85
noncomputable def G85 : Gam := fun f => match f with | 82 => some Sm82 | _ => none
theorem h0_85 (hg : GamOK Try.prog G85) : Holds Try.prog 85 ⟨ps85, rs85, false, runF TT G85 an85 Try.f85 c85 ps85 rs85⟩ := holds_of tt_ok hg mixed Try.func85 (by kernel_rfl) (by rfl) (by decide +kernel)
noncomputable def at85 : Nat → Pt → List Nat → St → Option R85 := atF TT G85 an85 Try.f85 c85 _ _
def sh85_L2 (x0 : Int) (x1 : Int) (x2 : List (Int × Int × Int × Bool)) (x3 : List Int) : St := (Go.Proofs.Ytpcohpkflkhfbaa.Rx.St.mk (Go.Proofs.Ytpcohpkflkhfbaa.Rx.AV.undef :: ((Go.Proofs.Ytpcohpkflkhfbaa.Rx.AV.one (Go.Proofs.Ytpcohpkflkhfbaa.Rx.SV.bptr 1000000 0)) :: (Go.Proofs.Ytpcohpkflkhfbaa.Rx.AV.undef :: ((Go.Proofs.Ytpcohpkflkhfbaa.Rx.AV.one (Go.Proofs.Ytpcohpkflkhfbaa.Rx.SV.int (Go.IntKind.i64) x0)) :: (Go.Proofs.Ytpcohpkflkhfbaa.Rx.AV.undef :: (Go.Proofs.Ytpcohpkflkhfbaa.Rx.AV.undef :: (Go.Proofs.Ytpcohpkflkhfbaa.Rx.AV.undef :: (Go.Proofs.Ytpcohpkflkhfbaa.Rx.AV.undef :: (Go.Proofs.Ytpcohpkflkhfbaa.Rx.AV.undef :: (Go.Proofs.Ytpcohpkflkhfbaa.Rx.AV.undef :: (Go.Proofs.Ytpcohpkflkhfbaa.Rx.AV.undef :: (Go.Proofs.Ytpcohpkflkhfbaa.Rx.AV.undef :: (Go.Proofs.Ytpcohpkflkhfbaa.Rx.AV.undef :: (Go.Proofs.Ytpcohpkflkhfbaa.Rx.AV.undef :: (Go.Proofs.Ytpcohpkflkhfbaa.Rx.AV.undef :: (Go.Proofs.Ytpcohpkflkhfbaa.Rx.AV.undef :: (Go.Proofs.Ytpcohpkflkhfbaa.Rx.AV.undef :: (Go.Proofs.Ytpcohpkflkhfbaa.Rx.AV.undef :: [])))))))))))))))))) ((1000000, (Go.Proofs.Ytpcohpkflkhfbaa.Rx.Ent.box ((Go.Proofs.Ytpcohpkflkhfbaa.Rx.SV.int (Go.IntKind.i64) x1) :: ((Go.Proofs.Ytpcohpkflkhfbaa.Rx.SV.con (⟨51, (Go.Proofs.Ytpcohpkflkhfbaa.Rx.Ty.int Go.IntKind.i64).pair   ((Go.Proofs.Ytpcohpkflkhfbaa.Rx.Ty.int Go.IntKind.i64).pair ((Go.Proofs.Ytpcohpkflkhfbaa.Rx.Ty.int Go.IntKind.i64).pair Go.Proofs.Ytpcohpkflkhfbaa.Rx.Ty.bool)), x2⟩ : Rw)) :: ((Go.Proofs.Ytpcohpkflkhfbaa.Rx.SV.con (⟨3, Go.Proofs.Ytpcohpkflkhfbaa.Rx.Ty.int Go.IntKind.i64, x3⟩ : Rw)) :: []))))) :: []))
noncomputable def st85_top (n : Nat) (lL2 : Int → Int → (List (Int × Int × Int × Bool)) → (List Int) → Option R85) (a : Int × List (Int × Int × Int × Bool) × List Int) : Option R85 :=
  lL2 ((0 : Int)) (a.fst) (a.snd.fst) (a.snd.snd)
noncomputable def st85_L2 (n : Nat) (lL2 : Int → Int → (List (Int × Int × Int × Bool)) → (List Int) → Option R85) (x0 : Int) (x1 : Int) (x2 : List (Int × Int × Int × Bool)) (x3 : List Int) : Option R85 :=
  cond (decide (x0 < (↑x2.length : Int))) ((Go.Proofs.Ytpcohpkflkhfbaa.Rx.S.q82 n ((x1, x2, x3), x0, ())).bind fun r1 => cond (r1.fst.fst) (some ((false, ()), ())) (lL2 (Go.IntKind.i64.wrap (x0 + (1 : Int))) (x1) (x2) (x3))) (some ((decide ((0 : Int) < (↑x3.length : Int)), ()), ()))
theorem e85_top (n : Nat) (a : Int × List (Int × Int × Int × Bool) × List Int) : runF TT G85 an85 Try.f85 c85 ps85 rs85 n (a, ()) = st85_top n (fun x0 x1 x2 x3 => at85 n (.head 2) [n] (sh85_L2 x0 x1 x2 x3)) a := by kernel_rfl
theorem e85_L2_0 (n : Nat) (x0 : Int) (x1 : Int) (x2 : List (Int × Int × Int × Bool)) (x3 : List Int) : at85 n (.head 2) [0] (sh85_L2 x0 x1 x2 x3) = none := by kernel_rfl
theorem e85_L2 (n : Nat) (m2 : Nat) (x0 : Int) (x1 : Int) (x2 : List (Int × Int × Int × Bool)) (x3 : List Int) : at85 n (.head 2) [m2 + 1] (sh85_L2 x0 x1 x2 x3) = st85_L2 n (fun x0 x1 x2 x3 => at85 n (.head 2) [m2] (sh85_L2 x0 x1 x2 x3)) x0 x1 x2 x3 := by kernel_rfl
noncomputable def p85_L2 (n : Nat) : Nat → Int → Int → (List (Int × Int × Int × Bool)) → (List Int) → Option R85
  | 0, _, _, _, _ => none
  | m + 1, x0, x1, x2, x3 => st85_L2 n (p85_L2 n m) x0 x1 x2 x3
noncomputable def p85 (n : Nat) (a : Int × List (Int × Int × Int × Bool) × List Int) : Option R85 := st85_top n (p85_L2 n n) a
theorem t85_L2 (n : Nat) : ∀ (m2 : Nat) (x0 : Int) (x1 : Int) (x2 : List (Int × Int × Int × Bool)) (x3 : List Int), at85 n (.head 2) [m2] (sh85_L2 x0 x1 x2 x3) = p85_L2  n m2 x0 x1 x2 x3 := by
  intro m
  induction m with
  | zero => intros; rw [e85_L2_0]; rfl
  | succ m ih =>
    intros
    rw [e85_L2]
    simp only [ih]
    rfl
theorem F85_eq (n : Nat) (a : Int × List (Int × Int × Int × Bool) × List Int) : runF TT G85 an85 Try.f85 c85 ps85 rs85 n (a, ()) = p85 n a := by
  rw [e85_top]
  simp only [t85_L2]
  try rfl
noncomputable def q85 (n : Nat) (x : argsD ps85) : Option R85 := p85 n x.1
noncomputable def Sm85 : Sm := ⟨ps85, rs85, false, q85⟩
theorem holds85 (hg : GamOK Try.prog G85) : Holds Try.prog 85 Sm85 := by
  have := h0_85 hg
  have e : (runF TT G85 an85 Try.f85 c85 ps85 rs85) = q85 := by
    funext n x
    exact F85_eq n x.1
  rw [e] at this
  exact this
theorem gam85 : GamOK Try.prog G85 := by
  intro f s h
  unfold G85 at h
  split at h
  · injection h with h; subst h; exact ⟨⟨Try.f82, c82, Try.func82, by kernel_rfl, by decide +kernel⟩, hh82⟩
  · cases h
theorem hh85 : Holds Try.prog 85 Sm85 := holds85 gam85
end Go.Proofs.Ytpcohpkflkhfbaa.Rx.S
namespace Go.Proofs.Ytpcohpkflkhfbaa.Rx.S
open Go Go.RowKit Go.Proofs
set_option maxRecDepth 100000
noncomputable def c32 : Code := (Try.f32.body.getD .skip)
def an32 : An := ⟨fun _ => ⟨[], []⟩, fun _ _ => none⟩
abbrev ps32 : List PK := [.val tLock true]
abbrev rs32 : List RK := [.val .bool false]
abbrev R32 := retsD rs32 × outsD ps32
noncomputable def G32 : Gam := fun f => match f with | 24 => some Sm24 | 85 => some Sm85 | _ => none
theorem h0_32 (hg : GamOK Try.prog G32) : Holds Try.prog 32 ⟨ps32, rs32, false, runF TT G32 an32 Try.f32 c32 ps32 rs32⟩ := holds_of tt_ok hg mixed Try.func32 (by kernel_rfl) (by rfl) (by decide +kernel)
noncomputable def at32 : Nat → Pt → List Nat → St → Option R32 := atF TT G32 an32 Try.f32 c32 _ _
noncomputable def st32_top (n : Nat)  (a : Int × List (Int × Int × Int × Bool) × List Int) : Option R32 :=
  (Go.Proofs.Ytpcohpkflkhfbaa.Rx.S.q24 n ((a.fst, a.snd.fst, a.snd.snd), ())).bind fun r0 => cond (r0.fst.fst) ((Go.Proofs.Ytpcohpkflkhfbaa.Rx.S.q85 n ((a.fst, a.snd.fst, a.snd.snd), ())).bind fun r1 => some ((r1.fst.fst, ()), ())) (some ((false, ()), ()))
theorem e32_top (n : Nat) (a : Int × List (Int × Int × Int × Bool) × List Int) : runF TT G32 an32 Try.f32 c32 ps32 rs32 n (a, ()) = st32_top n  a := by kernel_rfl
noncomputable def p32 (n : Nat) (a : Int × List (Int × Int × Int × Bool) × List Int) : Option R32 := st32_top n  a
theorem F32_eq (n : Nat) (a : Int × List (Int × Int × Int × Bool) × List Int) : runF TT G32 an32 Try.f32 c32 ps32 rs32 n (a, ()) = p32 n a := by
  rw [e32_top]
  skip
  try rfl
noncomputable def q32 (n : Nat) (x : argsD ps32) : Option R32 := p32 n x.1
noncomputable def Sm32 : Sm := ⟨ps32, rs32, false, q32⟩
theorem holds32 (hg : GamOK Try.prog G32) : Holds Try.prog 32 Sm32 := by
  have := h0_32 hg
  have e : (runF TT G32 an32 Try.f32 c32 ps32 rs32) = q32 := by
    funext n x
    exact F32_eq n x.1
  rw [e] at this
  exact this
theorem gam32 : GamOK Try.prog G32 := by
  intro f s h
  unfold G32 at h
  split at h
  · injection h with h; subst h; exact ⟨⟨Try.f24, c24, Try.func24, by kernel_rfl, by decide +kernel⟩, hh24⟩
  · injection h with h; subst h; exact ⟨⟨Try.f85, c85, Try.func85, by kernel_rfl, by decide +kernel⟩, hh85⟩
  · cases h
theorem hh32 : Holds Try.prog 32 Sm32 := holds32 gam32
end Go.Proofs.Ytpcohpkflkhfbaa.Rx.S
namespace Go.Proofs.Ytpcohpkflkhfbaa.Rx.S
open Go Go.RowKit Go.Proofs
set_option maxRecDepth 100000
noncomputable def c7 : Code := (Try.f7.body.getD .skip)
def an7 : An := ⟨fun r => match r with | 10 => ⟨[3, 7], []⟩ | _ => ⟨[], []⟩, fun _ _ => none⟩
abbrev ps7 : List PK := [.val (.row 5 (.int .u8)) false]
abbrev rs7 : List RK := [.val .bool false]
abbrev R7 := retsD rs7 × outsD ps7
noncomputable def G7 : Gam := fun f => match f with | 30 => some Sm30 | 31 => some Sm31 | 32 => some Sm32 | 28 => some Sm28 | _ => none
theorem h0_7 (hg : GamOK Try.prog G7) : Holds Try.prog 7 ⟨ps7, rs7, false, runF TT G7 an7 Try.f7 c7 ps7 rs7⟩ := holds_of tt_ok hg mixed Try.func7 (by kernel_rfl) (by rfl) (by decide +kernel)
noncomputable def at7 : Nat → Pt → List Nat → St → Option R7 := atF TT G7 an7 Try.f7 c7 _ _
def sh7_L10 (x0 : Int) (x1 : Int) (x2 : List (Int × Int × Int × Bool)) (x3 : List Int) : St := (Go.Proofs.Ytpcohpkflkhfbaa.Rx.St.mk (Go.Proofs.Ytpcohpkflkhfbaa.Rx.AV.undef :: (Go.Proofs.Ytpcohpkflkhfbaa.Rx.AV.undef :: (Go.Proofs.Ytpcohpkflkhfbaa.Rx.AV.undef :: ((Go.Proofs.Ytpcohpkflkhfbaa.Rx.AV.one (Go.Proofs.Ytpcohpkflkhfbaa.Rx.SV.bptr 1000000 0)) :: (Go.Proofs.Ytpcohpkflkhfbaa.Rx.AV.undef :: (Go.Proofs.Ytpcohpkflkhfbaa.Rx.AV.undef :: (Go.Proofs.Ytpcohpkflkhfbaa.Rx.AV.undef :: ((Go.Proofs.Ytpcohpkflkhfbaa.Rx.AV.one (Go.Proofs.Ytpcohpkflkhfbaa.Rx.SV.int (Go.IntKind.i64) x0)) :: (Go.Proofs.Ytpcohpkflkhfbaa.Rx.AV.undef :: (Go.Proofs.Ytpcohpkflkhfbaa.Rx.AV.undef :: (Go.Proofs.Ytpcohpkflkhfbaa.Rx.AV.undef :: (Go.Proofs.Ytpcohpkflkhfbaa.Rx.AV.undef :: (Go.Proofs.Ytpcohpkflkhfbaa.Rx.AV.undef :: (Go.Proofs.Ytpcohpkflkhfbaa.Rx.AV.undef :: (Go.Proofs.Ytpcohpkflkhfbaa.Rx.AV.undef :: (Go.Proofs.Ytpcohpkflkhfbaa.Rx.AV.undef :: (Go.Proofs.Ytpcohpkflkhfbaa.Rx.AV.undef :: (Go.Proofs.Ytpcohpkflkhfbaa.Rx.AV.undef :: (Go.Proofs.Ytpcohpkflkhfbaa.Rx.AV.undef :: (Go.Proofs.Ytpcohpkflkhfbaa.Rx.AV.undef :: (Go.Proofs.Ytpcohpkflkhfbaa.Rx.AV.undef :: (Go.Proofs.Ytpcohpkflkhfbaa.Rx.AV.undef :: (Go.Proofs.Ytpcohpkflkhfbaa.Rx.AV.undef :: (Go.Proofs.Ytpcohpkflkhfbaa.Rx.AV.undef :: (Go.Proofs.Ytpcohpkflkhfbaa.Rx.AV.undef :: (Go.Proofs.Ytpcohpkflkhfbaa.Rx.AV.undef :: (Go.Proofs.Ytpcohpkflkhfbaa.Rx.AV.undef :: (Go.Proofs.Ytpcohpkflkhfbaa.Rx.AV.undef :: (Go.Proofs.Ytpcohpkflkhfbaa.Rx.AV.undef :: (Go.Proofs.Ytpcohpkflkhfbaa.Rx.AV.undef :: (Go.Proofs.Ytpcohpkflkhfbaa.Rx.AV.undef :: (Go.Proofs.Ytpcohpkflkhfbaa.Rx.AV.undef :: (Go.Proofs.Ytpcohpkflkhfbaa.Rx.AV.undef :: (Go.Proofs.Ytpcohpkflkhfbaa.Rx.AV.undef :: (Go.Proofs.Ytpcohpkflkhfbaa.Rx.AV.undef :: (Go.Proofs.Ytpcohpkflkhfbaa.Rx.AV.undef :: (Go.Proofs.Ytpcohpkflkhfbaa.Rx.AV.undef :: (Go.Proofs.Ytpcohpkflkhfbaa.Rx.AV.undef :: (Go.Proofs.Ytpcohpkflkhfbaa.Rx.AV.undef :: (Go.Proofs.Ytpcohpkflkhfbaa.Rx.AV.undef :: (Go.Proofs.Ytpcohpkflkhfbaa.Rx.AV.undef :: (Go.Proofs.Ytpcohpkflkhfbaa.Rx.AV.undef :: (Go.Proofs.Ytpcohpkflkhfbaa.Rx.AV.undef :: (Go.Proofs.Ytpcohpkflkhfbaa.Rx.AV.undef :: (Go.Proofs.Ytpcohpkflkhfbaa.Rx.AV.undef :: (Go.Proofs.Ytpcohpkflkhfbaa.Rx.AV.undef :: (Go.Proofs.Ytpcohpkflkhfbaa.Rx.AV.undef :: []))))))))))))))))))))))))))))))))))))))))))))))) ((1000000, (Go.Proofs.Ytpcohpkflkhfbaa.Rx.Ent.box ((Go.Proofs.Ytpcohpkflkhfbaa.Rx.SV.int (Go.IntKind.i64) x1) :: ((Go.Proofs.Ytpcohpkflkhfbaa.Rx.SV.ref 1000001 0 [] Option.none) :: ((Go.Proofs.Ytpcohpkflkhfbaa.Rx.SV.ref 1000002 0 [] Option.none) :: []))))) :: ((1000001, (Go.Proofs.Ytpcohpkflkhfbaa.Rx.Ent.row (⟨51, (Go.Proofs.Ytpcohpkflkhfbaa.Rx.Ty.int Go.IntKind.i64).pair   ((Go.Proofs.Ytpcohpkflkhfbaa.Rx.Ty.int Go.IntKind.i64).pair ((Go.Proofs.Ytpcohpkflkhfbaa.Rx.Ty.int Go.IntKind.i64).pair Go.Proofs.Ytpcohpkflkhfbaa.Rx.Ty.bool)), x2⟩ : Rw) 0 Option.none)) :: ((1000002, (Go.Proofs.Ytpcohpkflkhfbaa.Rx.Ent.row (⟨3, Go.Proofs.Ytpcohpkflkhfbaa.Rx.Ty.int Go.IntKind.i64, x3⟩ : Rw) 0 Option.none)) :: []))))
noncomputable def st7_top (n : Nat) (lL10 : Int → Int → (List (Int × Int × Int × Bool)) → (List Int) → Option R7) (a : List Int) : Option R7 :=
  cond (decide ((1048576 : Int) < (↑a.length : Int))) (some ((true, ()), ())) ((Go.Proofs.Ytpcohpkflkhfbaa.Rx.S.q30 n (a, ())).bind fun r0 => (Go.Proofs.Ytpcohpkflkhfbaa.Rx.S.q31 n ((r0.fst.fst.fst, r0.fst.fst.snd.fst, r0.fst.fst.snd.snd), ())).bind fun r1 => (Go.Proofs.Ytpcohpkflkhfbaa.Rx.S.q32 n ((r0.fst.fst.fst, r0.fst.fst.snd.fst, r0.fst.fst.snd.snd), ())).bind fun r2 => cond (!r1.fst.fst == r2.fst.fst) (some ((r1.fst.fst == r2.fst.fst, ()), ())) (cond (!r1.fst.fst) (some ((r1.fst.fst == r2.fst.fst, ()), ())) (lL10 ((0 : Int)) (r0.fst.fst.fst) (r0.fst.fst.snd.fst) (r0.fst.fst.snd.snd))))
noncomputable def st7_L10 (n : Nat) (lL10 : Int → Int → (List (Int × Int × Int × Bool)) → (List Int) → Option R7) (x0 : Int) (x1 : Int) (x2 : List (Int × Int × Int × Bool)) (x3 : List Int) : Option R7 :=
  cond (decide (x0 < (↑x2.length : Int))) ((Go.Proofs.Ytpcohpkflkhfbaa.Rx.S.q28 n ((x1, x2, x3), x0, ())).bind fun r4 => cond (r4.fst.snd.fst) (some ((false, ()), ())) (lL10 (Go.IntKind.i64.wrap (x0 + (1 : Int))) (x1) (x2) (x3))) (some ((decide ((0 : Int) < (↑x3.length : Int)), ()), ()))
theorem e7_top (n : Nat) (a : List Int) : runF TT G7 an7 Try.f7 c7 ps7 rs7 n (a, ()) = st7_top n (fun x0 x1 x2 x3 => at7 n (.head 10) [n] (sh7_L10 x0 x1 x2 x3)) a := by kernel_rfl
theorem e7_L10_0 (n : Nat) (x0 : Int) (x1 : Int) (x2 : List (Int × Int × Int × Bool)) (x3 : List Int) : at7 n (.head 10) [0] (sh7_L10 x0 x1 x2 x3) = none := by kernel_rfl
theorem e7_L10 (n : Nat) (m10 : Nat) (x0 : Int) (x1 : Int) (x2 : List (Int × Int × Int × Bool)) (x3 : List Int) : at7 n (.head 10) [m10 + 1] (sh7_L10 x0 x1 x2 x3) = st7_L10 n (fun x0 x1 x2 x3 => at7 n (.head 10) [m10] (sh7_L10 x0 x1 x2 x3)) x0 x1 x2 x3 := by kernel_rfl
noncomputable def p7_L10 (n : Nat) : Nat → Int → Int → (List (Int × Int × Int × Bool)) → (List Int) → Option R7
  | 0, _, _, _, _ => none
  | m + 1, x0, x1, x2, x3 => st7_L10 n (p7_L10 n m) x0 x1 x2 x3
noncomputable def p7 (n : Nat) (a : List Int) : Option R7 := st7_top n (p7_L10 n n) a
theorem t7_L10 (n : Nat) : ∀ (m10 : Nat) (x0 : Int) (x1 : Int) (x2 : List (Int × Int × Int × Bool)) (x3 : List Int), at7 n (.head 10) [m10] (sh7_L10 x0 x1 x2 x3) = p7_L10  n m10 x0 x1 x2 x3 := by
  intro m
  induction m with
  | zero => intros; rw [e7_L10_0]; rfl
  | succ m ih =>
    intros
    rw [e7_L10]
    simp only [ih]
    rfl
theorem F7_eq (n : Nat) (a : List Int) : runF TT G7 an7 Try.f7 c7 ps7 rs7 n (a, ()) = p7 n a := by
  rw [e7_top]
  simp only [t7_L10]
  try rfl
noncomputable def q7 (n : Nat) (x : argsD ps7) : Option R7 := p7 n x.1
noncomputable def Sm7 : Sm := ⟨ps7, rs7, false, q7⟩
theorem holds7 (hg : GamOK Try.prog G7) : Holds Try.prog 7 Sm7 := by
  have := h0_7 hg
  have e : (runF TT G7 an7 Try.f7 c7 ps7 rs7) = q7 := by
    funext n x
    exact F7_eq n x.1
  rw [e] at this
  exact this
theorem gam7 : GamOK Try.prog G7 := by
  intro f s h
  unfold G7 at h
  split at h
  · injection h with h; subst h; exact ⟨⟨Try.f30, c30, Try.func30, by kernel_rfl, by decide +kernel⟩, hh30⟩
  · injection h with h; subst h; exact ⟨⟨Try.f31, c31, Try.func31, by kernel_rfl, by decide +kernel⟩, hh31⟩
  · injection h with h; subst h; exact ⟨⟨Try.f32, c32, Try.func32, by kernel_rfl, by decide +kernel⟩, hh32⟩
  · injection h with h; subst h; exact ⟨⟨Try.f28, c28, Try.func28, by kernel_rfl, by decide +kernel⟩, hh28⟩
  · cases h
theorem hh7 : Holds Try.prog 7 Sm7 := holds7 gam7
end Go.Proofs.Ytpcohpkflkhfbaa.Rx.S
namespace Go.Proofs.Ytpcohpkflkhfbaa.Rx.S
open Go Go.RowKit Go.Proofs
set_option maxRecDepth 100000
noncomputable def c34 : Code := (Try.f34.body.getD .skip)
def an34 : An := ⟨fun r => match r with | 6 => ⟨[1, 4, 6, 7, 8], []⟩ | _ => ⟨[], []⟩, fun _ _ => none⟩
abbrev ps34 : List PK := [.val tLock true, .val (.row 3 i64) false]
abbrev rs34 : List RK := [.own tLock true, .val i64 false]
abbrev R34 := retsD rs34 × outsD ps34
noncomputable def G34 : Gam := fun f => match f with | 24 => some Sm24 | 57 => some Sm57 | 82 => some Sm82 | 83 => some Sm83 | 84 => some Sm84 | _ => none
theorem h0_34 (hg : GamOK Try.prog G34) : Holds Try.prog 34 ⟨ps34, rs34, false, runF TT G34 an34 Try.f34 c34 ps34 rs34⟩ := holds_of tt_ok hg mixed Try.func34 (by kernel_rfl) (by rfl) (by decide +kernel)
noncomputable def at34 : Nat → Pt → List Nat → St → Option R34 := atF TT G34 an34 Try.f34 c34 _ _
def sh34_L6 (x0 : List Int) (x1 : Int) (x2 : Int) (x3 : Int) (x4 : Int) (x5 : List (Int × Int × Int × Bool)) (x6 : List Int) : St := (Go.Proofs.Ytpcohpkflkhfbaa.Rx.St.mk (Go.Proofs.Ytpcohpkflkhfbaa.Rx.AV.undef :: ((Go.Proofs.Ytpcohpkflkhfbaa.Rx.AV.one (Go.Proofs.Ytpcohpkflkhfbaa.Rx.SV.con (⟨3, Go.Proofs.Ytpcohpkflkhfbaa.Rx.Ty.int Go.IntKind.i64, x0⟩ : Rw))) :: (Go.Proofs.Ytpcohpkflkhfbaa.Rx.AV.undef :: (Go.Proofs.Ytpcohpkflkhfbaa.Rx.AV.undef :: ((Go.Proofs.Ytpcohpkflkhfbaa.Rx.AV.one (Go.Proofs.Ytpcohpkflkhfbaa.Rx.SV.bptr 1000000 0)) :: (Go.Proofs.Ytpcohpkflkhfbaa.Rx.AV.undef :: ((Go.Proofs.Ytpcohpkflkhfbaa.Rx.AV.one (Go.Proofs.Ytpcohpkflkhfbaa.Rx.SV.bptr 1000001 0)) :: ((Go.Proofs.Ytpcohpkflkhfbaa.Rx.AV.one (Go.Proofs.Ytpcohpkflkhfbaa.Rx.SV.int (Go.IntKind.i64) x1)) :: ((Go.Proofs.Ytpcohpkflkhfbaa.Rx.AV.one (Go.Proofs.Ytpcohpkflkhfbaa.Rx.SV.int (Go.IntKind.i64) x2)) :: (Go.Proofs.Ytpcohpkflkhfbaa.Rx.AV.undef :: (Go.Proofs.Ytpcohpkflkhfbaa.Rx.AV.undef :: (Go.Proofs.Ytpcohpkflkhfbaa.Rx.AV.undef :: (Go.Proofs.Ytpcohpkflkhfbaa.Rx.AV.undef :: (Go.Proofs.Ytpcohpkflkhfbaa.Rx.AV.undef :: (Go.Proofs.Ytpcohpkflkhfbaa.Rx.AV.undef :: (Go.Proofs.Ytpcohpkflkhfbaa.Rx.AV.undef :: (Go.Proofs.Ytpcohpkflkhfbaa.Rx.AV.undef :: (Go.Proofs.Ytpcohpkflkhfbaa.Rx.AV.undef :: (Go.Proofs.Ytpcohpkflkhfbaa.Rx.AV.undef :: (Go.Proofs.Ytpcohpkflkhfbaa.Rx.AV.undef :: (Go.Proofs.Ytpcohpkflkhfbaa.Rx.AV.undef :: (Go.Proofs.Ytpcohpkflkhfbaa.Rx.AV.undef :: (Go.Proofs.Ytpcohpkflkhfbaa.Rx.AV.undef :: (Go.Proofs.Ytpcohpkflkhfbaa.Rx.AV.undef :: (Go.Proofs.Ytpcohpkflkhfbaa.Rx.AV.undef :: (Go.Proofs.Ytpcohpkflkhfbaa.Rx.AV.undef :: (Go.Proofs.Ytpcohpkflkhfbaa.Rx.AV.undef :: (Go.Proofs.Ytpcohpkflkhfbaa.Rx.AV.undef :: (Go.Proofs.Ytpcohpkflkhfbaa.Rx.AV.undef :: (Go.Proofs.Ytpcohpkflkhfbaa.Rx.AV.undef :: (Go.Proofs.Ytpcohpkflkhfbaa.Rx.AV.undef :: (Go.Proofs.Ytpcohpkflkhfbaa.Rx.AV.undef :: (Go.Proofs.Ytpcohpkflkhfbaa.Rx.AV.undef :: (Go.Proofs.Ytpcohpkflkhfbaa.Rx.AV.undef :: (Go.Proofs.Ytpcohpkflkhfbaa.Rx.AV.undef :: (Go.Proofs.Ytpcohpkflkhfbaa.Rx.AV.undef :: (Go.Proofs.Ytpcohpkflkhfbaa.Rx.AV.undef :: (Go.Proofs.Ytpcohpkflkhfbaa.Rx.AV.undef :: (Go.Proofs.Ytpcohpkflkhfbaa.Rx.AV.undef :: (Go.Proofs.Ytpcohpkflkhfbaa.Rx.AV.undef :: (Go.Proofs.Ytpcohpkflkhfbaa.Rx.AV.undef :: (Go.Proofs.Ytpcohpkflkhfbaa.Rx.AV.undef :: (Go.Proofs.Ytpcohpkflkhfbaa.Rx.AV.undef :: (Go.Proofs.Ytpcohpkflkhfbaa.Rx.AV.undef :: (Go.Proofs.Ytpcohpkflkhfbaa.Rx.AV.undef :: (Go.Proofs.Ytpcohpkflkhfbaa.Rx.AV.undef :: (Go.Proofs.Ytpcohpkflkhfbaa.Rx.AV.undef :: (Go.Proofs.Ytpcohpkflkhfbaa.Rx.AV.undef :: [])))))))))))))))))))))))))))))))))))))))))))))))) ((1000000, (Go.Proofs.Ytpcohpkflkhfbaa.Rx.Ent.box ((Go.Proofs.Ytpcohpkflkhfbaa.Rx.SV.int (Go.IntKind.i64) x3) :: (Go.Proofs.Ytpcohpkflkhfbaa.Rx.SV.nil :: (Go.Proofs.Ytpcohpkflkhfbaa.Rx.SV.nil :: []))))) :: ((1000001, (Go.Proofs.Ytpcohpkflkhfbaa.Rx.Ent.box ((Go.Proofs.Ytpcohpkflkhfbaa.Rx.SV.int (Go.IntKind.i64) x4) :: ((Go.Proofs.Ytpcohpkflkhfbaa.Rx.SV.ref 1000002 0 [] Option.none) :: ((Go.Proofs.Ytpcohpkflkhfbaa.Rx.SV.ref 1000003 0 [] Option.none) :: []))))) :: ((1000002, (Go.Proofs.Ytpcohpkflkhfbaa.Rx.Ent.row (⟨51, (Go.Proofs.Ytpcohpkflkhfbaa.Rx.Ty.int Go.IntKind.i64).pair   ((Go.Proofs.Ytpcohpkflkhfbaa.Rx.Ty.int Go.IntKind.i64).pair ((Go.Proofs.Ytpcohpkflkhfbaa.Rx.Ty.int Go.IntKind.i64).pair Go.Proofs.Ytpcohpkflkhfbaa.Rx.Ty.bool)), x5⟩ : Rw) 0 Option.none)) :: ((1000003, (Go.Proofs.Ytpcohpkflkhfbaa.Rx.Ent.row (⟨3, Go.Proofs.Ytpcohpkflkhfbaa.Rx.Ty.int Go.IntKind.i64, x6⟩ : Rw) 0 Option.none)) :: [])))))
noncomputable def st34_top (n : Nat) (lL6 : (List Int) → Int → Int → Int → Int → (List (Int × Int × Int × Bool)) → (List Int) → Option R34) (a : Int × List (Int × Int × Int × Bool) × List Int) (b : List Int) : Option R34 :=
  (Go.Proofs.Ytpcohpkflkhfbaa.Rx.S.q24 n ((a.fst, a.snd.fst, a.snd.snd), ())).bind fun r0 => cond (!r0.fst.fst) (some ((((0 : Int), ([], [])), ((-1 : Int), ())), ())) ((Go.Proofs.Ytpcohpkflkhfbaa.Rx.S.q83 n ((a.fst, a.snd.fst, a.snd.snd), ())).bind fun r1 => lL6 (b) ((0 : Int)) ((0 : Int)) ((0 : Int)) (r1.fst.fst.fst) (r1.fst.fst.snd.fst) (r1.fst.fst.snd.snd))
noncomputable def st34_L6 (n : Nat) (lL6 : (List Int) → Int → Int → Int → Int → (List (Int × Int × Int × Bool)) → (List Int) → Option R34) (x0 : List Int) (x1 : Int) (x2 : Int) (x3 : Int) (x4 : Int) (x5 : List (Int × Int × Int × Bool)) (x6 : List Int) : Option R34 :=
  cond (decide (x2 < (↑x0.length : Int))) (cond (decide ((0 : Int) ≤ x2)) (cond (decide (x2 < (↑x0.length : Int))) ((Go.Proofs.Ytpcohpkflkhfbaa.Rx.S.q57 n (x0.getD x2.toNat (0 : Int), (0 : Int), Go.IntKind.i64.wrap ((↑x5.length : Int) - (1 : Int)), ())).bind fun r3 => cond (r3.fst.fst) (cond (decide ((0 : Int) ≤ x2)) (cond (decide (x2 < (↑x0.length : Int))) ((Go.Proofs.Ytpcohpkflkhfbaa.Rx.S.q82 n ((x4, x5, x6), x0.getD x2.toNat (0 : Int), ())).bind fun r4 => cond (r4.fst.fst) (cond (decide ((0 : Int) ≤ x2)) (cond (decide (x2 < (↑x0.length : Int))) ((Go.Proofs.Ytpcohpkflkhfbaa.Rx.S.q84 n ((x4, x5, x6), x0.getD x2.toNat (0 : Int), ())).bind fun r5 => lL6 (x0) (Go.IntKind.i64.wrap (x1 + (1 : Int))) (Go.IntKind.i64.wrap (x2 + (1 : Int))) (x3) (r5.fst.fst.fst) (r5.fst.fst.snd.fst) (r5.fst.fst.snd.snd)) (none)) (none)) (lL6 (x0) (x1) (Go.IntKind.i64.wrap (x2 + (1 : Int))) (x3) (x4) (x5) (x6))) (none)) (none)) (lL6 (x0) (x1) (Go.IntKind.i64.wrap (x2 + (1 : Int))) (x3) (x4) (x5) (x6))) (none)) (none)) (some (((x4, (x5, x6)), (x1, ())), ()))
theorem e34_top (n : Nat) (a : Int × List (Int × Int × Int × Bool) × List Int) (b : List Int) : runF TT G34 an34 Try.f34 c34 ps34 rs34 n (a, b, ()) = st34_top n (fun x0 x1 x2 x3 x4 x5 x6 => at34 n (.head 6) [n] (sh34_L6 x0 x1 x2 x3 x4 x5 x6)) a b := by kernel_rfl
theorem e34_L6_0 (n : Nat) (x0 : List Int) (x1 : Int) (x2 : Int) (x3 : Int) (x4 : Int) (x5 : List (Int × Int × Int × Bool)) (x6 : List Int) : at34 n (.head 6) [0] (sh34_L6 x0 x1 x2 x3 x4 x5 x6) = none := by kernel_rfl
theorem e34_L6 (n : Nat) (m6 : Nat) (x0 : List Int) (x1 : Int) (x2 : Int) (x3 : Int) (x4 : Int) (x5 : List (Int × Int × Int × Bool)) (x6 : List Int) : at34 n (.head 6) [m6 + 1] (sh34_L6 x0 x1 x2 x3 x4 x5 x6) = st34_L6 n (fun x0 x1 x2 x3 x4 x5 x6 => at34 n (.head 6) [m6] (sh34_L6 x0 x1 x2 x3 x4 x5 x6)) x0 x1 x2 x3 x4 x5 x6 := by kernel_rfl
noncomputable def p34_L6 (n : Nat) : Nat → (List Int) → Int → Int → Int → Int → (List (Int × Int × Int × Bool)) → (List Int) → Option R34
  | 0, _, _, _, _, _, _, _ => none
  | m + 1, x0, x1, x2, x3, x4, x5, x6 => st34_L6 n (p34_L6 n m) x0 x1 x2 x3 x4 x5 x6
noncomputable def p34 (n : Nat) (a : Int × List (Int × Int × Int × Bool) × List Int) (b : List Int) : Option R34 := st34_top n (p34_L6 n n) a b
theorem t34_L6 (n : Nat) : ∀ (m6 : Nat) (x0 : List Int) (x1 : Int) (x2 : Int) (x3 : Int) (x4 : Int) (x5 : List (Int × Int × Int × Bool)) (x6 : List Int), at34 n (.head 6) [m6] (sh34_L6 x0 x1 x2 x3 x4 x5 x6) = p34_L6  n m6 x0 x1 x2 x3 x4 x5 x6 := by
  intro m
  induction m with
  | zero => intros; rw [e34_L6_0]; rfl
  | succ m ih =>
    intros
    rw [e34_L6]
    simp only [ih]
    rfl
theorem F34_eq (n : Nat) (a : Int × List (Int × Int × Int × Bool) × List Int) (b : List Int) : runF TT G34 an34 Try.f34 c34 ps34 rs34 n (a, b, ()) = p34 n a b := by
  rw [e34_top]
  simp only [t34_L6]
  try rfl
noncomputable def q34 (n : Nat) (x : argsD ps34) : Option R34 := p34 n x.1 x.2.1
noncomputable def Sm34 : Sm := ⟨ps34, rs34, false, q34⟩
theorem holds34 (hg : GamOK Try.prog G34) : Holds Try.prog 34 Sm34 := by
  have := h0_34 hg
  have e : (runF TT G34 an34 Try.f34 c34 ps34 rs34) = q34 := by
    funext n x
    exact F34_eq n x.1 x.2.1
  rw [e] at this
  exact this
theorem gam34 : GamOK Try.prog G34 := by
  intro f s h
  unfold G34 at h
  split at h
  · injection h with h; subst h; exact ⟨⟨Try.f24, c24, Try.func24, by kernel_rfl, by decide +kernel⟩, hh24⟩
  · injection h with h; subst h; exact ⟨⟨Try.f57, c57, Try.func57, by kernel_rfl, by decide +kernel⟩, hh57⟩
  · injection h with h; subst h; exact ⟨⟨Try.f82, c82, Try.func82, by kernel_rfl, by decide +kernel⟩, hh82⟩
  · injection h with h; subst h; exact ⟨⟨Try.f83, c83, Try.func83, by kernel_rfl, by decide +kernel⟩, hh83⟩
  · injection h with h; subst h; exact ⟨⟨Try.f84, c84, Try.func84, by kernel_rfl, by decide +kernel⟩, hh84⟩
  · cases h
theorem hh34 : Holds Try.prog 34 Sm34 := holds34 gam34
end Go.Proofs.Ytpcohpkflkhfbaa.Rx.S
namespace Go.Proofs.Ytpcohpkflkhfbaa.Rx.S
open Go Go.RowKit Go.Proofs
set_option maxRecDepth 100000
noncomputable def c8 : Code := (Try.f8.body.getD .skip)
def an8 : An := ⟨fun _ => ⟨[], []⟩, fun _ _ => none⟩
abbrev ps8 : List PK := [.val (.row 5 (.int .u8)) false, .val (.row 5 (.int .u8)) false]
abbrev rs8 : List RK := [.val .bool false]
abbrev R8 := retsD rs8 × outsD ps8
noncomputable def G8 : Gam := fun f => match f with | 33 => some Sm33 | 25 => some Sm25 | 34 => some Sm34 | 26 => some Sm26 | 23 => some Sm23 | _ => none
theorem h0_8 (hg : GamOK Try.prog G8) : Holds Try.prog 8 ⟨ps8, rs8, false, runF TT G8 an8 Try.f8 c8 ps8 rs8⟩ := holds_of tt_ok hg mixed Try.func8 (by kernel_rfl) (by rfl) (by decide +kernel)
noncomputable def at8 : Nat → Pt → List Nat → St → Option R8 := atF TT G8 an8 Try.f8 c8 _ _
noncomputable def st8_top (n : Nat)  (a : List Int) (b : List Int) : Option R8 :=
  cond (decide ((1048576 : Int) < (↑a.length : Int))) (some ((true, ()), ())) (cond (decide ((1048576 : Int) < (↑b.length : Int))) (some ((true, ()), ())) ((Go.Proofs.Ytpcohpkflkhfbaa.Rx.S.q33 n (a, ())).bind fun r0 => (Go.Proofs.Ytpcohpkflkhfbaa.Rx.S.q25 n ((r0.fst.fst.fst, r0.fst.fst.snd.fst, r0.fst.fst.snd.snd), r0.fst.snd.fst, ())).bind fun r1 => (Go.Proofs.Ytpcohpkflkhfbaa.Rx.S.q34 n ((r0.fst.fst.fst, r0.fst.fst.snd.fst, r0.fst.fst.snd.snd), r0.fst.snd.fst, ())).bind fun r2 => (Go.Proofs.Ytpcohpkflkhfbaa.Rx.S.q26 n   ((r1.fst.fst.fst, r1.fst.fst.snd.fst, r1.fst.fst.snd.snd), (r2.fst.fst.fst, r2.fst.fst.snd.fst, r2.fst.fst.snd.snd),     ())).bind fun r3 => cond (r3.fst.fst) (cond (!decide (r1.fst.snd.fst = r2.fst.snd.fst)) (some ((decide (r1.fst.snd.fst = r2.fst.snd.fst), ()), ())) (cond (!decide ((0 : Int) ≤ r1.fst.snd.fst)) (some ((decide (r1.fst.snd.fst = r2.fst.snd.fst), ()), ())) (cond (!decide (Go.IntKind.i64.wrap ((↑(List.length r0.fst.snd.fst) : Int) + (1 : Int)) = (0 : Int))) (cond (decide ((0 : Int) ≤ (↑b.length : Int).tmod (Go.IntKind.i64.wrap ((↑(List.length r0.fst.snd.fst) : Int) + (1 : Int))))) (cond (decide   ((↑b.length : Int).tmod (Go.IntKind.i64.wrap ((↑(List.length r0.fst.snd.fst) : Int) + (1 : Int))) ≤     (↑(List.length r0.fst.snd.fst) : Int))) ((Go.Proofs.Ytpcohpkflkhfbaa.Rx.S.q25 n   ((r0.fst.fst.fst, r0.fst.fst.snd.fst, r0.fst.fst.snd.snd),     List.take       ((↑b.length : Int).tmod (Go.IntKind.i64.wrap ((↑(List.length r0.fst.snd.fst) : Int) + (1 : Int))) -           (0 : Int)).toNat       (List.drop ((0 : Nat) + Int.toNat (0 : Int)) r0.fst.snd.fst),     ())).bind fun r4 => cond (decide ((0 : Int) ≤ (↑b.length : Int).tmod (Go.IntKind.i64.wrap ((↑(List.length r0.fst.snd.fst) : Int) + (1 : Int))))) (cond (decide   ((↑b.length : Int).tmod (Go.IntKind.i64.wrap ((↑(List.length r0.fst.snd.fst) : Int) + (1 : Int))) ≤     (↑(List.length r0.fst.snd.fst) : Int))) ((Go.Proofs.Ytpcohpkflkhfbaa.Rx.S.q25 n   ((r4.fst.fst.fst, r4.fst.fst.snd.fst, r4.fst.fst.snd.snd),     List.take       ((↑(List.length r0.fst.snd.fst) : Int) -           (↑b.length : Int).tmod (Go.IntKind.i64.wrap ((↑(List.length r0.fst.snd.fst) : Int) + (1 : Int)))).toNat       (List.drop         ((0 : Nat) +           ((↑b.length : Int).tmod (Go.IntKind.i64.wrap ((↑(List.length r0.fst.snd.fst) : Int) + (1 : Int)))).toNat)         r0.fst.snd.fst),     ())).bind fun r5 => (Go.Proofs.Ytpcohpkflkhfbaa.Rx.S.q26 n   ((r5.fst.fst.fst, r5.fst.fst.snd.fst, r5.fst.fst.snd.snd), (r1.fst.fst.fst, r1.fst.fst.snd.fst, r1.fst.fst.snd.snd),     ())).bind fun r6 => cond (r6.fst.fst) (cond (decide (Go.IntKind.i64.wrap (r4.fst.snd.fst + r5.fst.snd.fst) = r1.fst.snd.fst)) ((Go.Proofs.Ytpcohpkflkhfbaa.Rx.S.q23 n ((r1.fst.fst.fst, r1.fst.fst.snd.fst, r1.fst.fst.snd.snd), ())).bind fun r7 => some ((r7.fst.fst, ()), ())) (some ((false, ()), ()))) (some ((false, ()), ()))) (none)) (none)) (none)) (none)) (none)))) (some ((false, ()), ()))))
theorem e8_top (n : Nat) (a : List Int) (b : List Int) : runF TT G8 an8 Try.f8 c8 ps8 rs8 n (a, b, ()) = st8_top n  a b := by kernel_rfl
noncomputable def p8 (n : Nat) (a : List Int) (b : List Int) : Option R8 := st8_top n  a b
theorem F8_eq (n : Nat) (a : List Int) (b : List Int) : runF TT G8 an8 Try.f8 c8 ps8 rs8 n (a, b, ()) = p8 n a b := by
  rw [e8_top]
  skip
  try rfl
noncomputable def q8 (n : Nat) (x : argsD ps8) : Option R8 := p8 n x.1 x.2.1
noncomputable def Sm8 : Sm := ⟨ps8, rs8, false, q8⟩
theorem holds8 (hg : GamOK Try.prog G8) : Holds Try.prog 8 Sm8 := by
  have := h0_8 hg
  have e : (runF TT G8 an8 Try.f8 c8 ps8 rs8) = q8 := by
    funext n x
    exact F8_eq n x.1 x.2.1
  rw [e] at this
  exact this
theorem gam8 : GamOK Try.prog G8 := by
  intro f s h
  unfold G8 at h
  split at h
  · injection h with h; subst h; exact ⟨⟨Try.f33, c33, Try.func33, by kernel_rfl, by decide +kernel⟩, hh33⟩
  · injection h with h; subst h; exact ⟨⟨Try.f25, c25, Try.func25, by kernel_rfl, by decide +kernel⟩, hh25⟩
  · injection h with h; subst h; exact ⟨⟨Try.f34, c34, Try.func34, by kernel_rfl, by decide +kernel⟩, hh34⟩
  · injection h with h; subst h; exact ⟨⟨Try.f26, c26, Try.func26, by kernel_rfl, by decide +kernel⟩, hh26⟩
  · injection h with h; subst h; exact ⟨⟨Try.f23, c23, Try.func23, by kernel_rfl, by decide +kernel⟩, hh23⟩
  · cases h
theorem hh8 : Holds Try.prog 8 Sm8 := holds8 gam8
end Go.Proofs.Ytpcohpkflkhfbaa.Rx.S
namespace Go.Proofs.Ytpcohpkflkhfbaa.Rx.S
open Go Go.RowKit Go.Proofs
set_option maxRecDepth 100000
noncomputable def c55 : Code := (Try.f55.body.getD .skip)
def an55 : An := ⟨fun _ => ⟨[], []⟩, fun _ _ => none⟩
abbrev ps55 : List PK := [.val (.row 3 i64) false, .val i64 false]
abbrev rs55 : List RK := [.val i64 false]
abbrev R55 := retsD rs55 × outsD ps55
noncomputable def G55 : Gam := fun _ => none
theorem h0_55 (hg : GamOK Try.prog G55) : Holds Try.prog 55 ⟨ps55, rs55, false, runF TT G55 an55 Try.f55 c55 ps55 rs55⟩ := holds_of tt_ok hg mixed Try.func55 (by kernel_rfl) (by rfl) (by decide +kernel)
noncomputable def at55 : Nat → Pt → List Nat → St → Option R55 := atF TT G55 an55 Try.f55 c55 _ _
noncomputable def st55_top (n : Nat)  (a : List Int) (b : Int) : Option R55 :=
  cond (decide (Go.IntKind.i64.wrap (b - (↑a.length : Int)) < (0 : Int))) (some (((-1 : Int), ()), ())) (some ((Go.IntKind.i64.wrap (b - (↑a.length : Int)), ()), ()))
theorem e55_top (n : Nat) (a : List Int) (b : Int) : runF TT G55 an55 Try.f55 c55 ps55 rs55 n (a, b, ()) = st55_top n  a b := by kernel_rfl
noncomputable def p55 (n : Nat) (a : List Int) (b : Int) : Option R55 := st55_top n  a b
theorem F55_eq (n : Nat) (a : List Int) (b : Int) : runF TT G55 an55 Try.f55 c55 ps55 rs55 n (a, b, ()) = p55 n a b := by
  rw [e55_top]
  skip
  try rfl
noncomputable def q55 (n : Nat) (x : argsD ps55) : Option R55 := p55 n x.1 x.2.1
noncomputable def Sm55 : Sm := ⟨ps55, rs55, false, q55⟩
theorem holds55 (hg : GamOK Try.prog G55) : Holds Try.prog 55 Sm55 := by
  have := h0_55 hg
  have e : (runF TT G55 an55 Try.f55 c55 ps55 rs55) = q55 := by
    funext n x
    exact F55_eq n x.1 x.2.1
  rw [e] at this
  exact this
theorem gam55 : GamOK Try.prog G55 := fun _ _ h => by cases h
theorem hh55 : Holds Try.prog 55 Sm55 := holds55 gam55
end Go.Proofs.Ytpcohpkflkhfbaa.Rx.S
namespace Go.Proofs.Ytpcohpkflkhfbaa.Rx.S
open Go Go.RowKit Go.Proofs
set_option maxRecDepth 100000
noncomputable def c86 : Code := (Try.f86.body.getD .skip)
def an86 : An := ⟨fun _ => ⟨[], []⟩, fun _ _ => none⟩
abbrev ps86 : List PK := [.val (.row 127 tTh) false, .val i64 false]
abbrev rs86 : List RK := [.val i64 false]
abbrev R86 := retsD rs86 × outsD ps86
noncomputable def G86 : Gam := fun _ => none
theorem h0_86 (hg : GamOK Try.prog G86) : Holds Try.prog 86 ⟨ps86, rs86, false, runF TT G86 an86 Try.f86 c86 ps86 rs86⟩ := holds_of tt_ok hg mixed Try.func86 (by kernel_rfl) (by rfl) (by decide +kernel)
noncomputable def at86 : Nat → Pt → List Nat → St → Option R86 := atF TT G86 an86 Try.f86 c86 _ _
noncomputable def st86_top (n : Nat)  (a : List (Int × Int × Int × Bool)) (b : Int) : Option R86 :=
  cond (decide (Go.IntKind.i64.wrap (b - (↑a.length : Int)) < (0 : Int))) (some (((-1 : Int), ()), ())) (some ((Go.IntKind.i64.wrap (b - (↑a.length : Int)), ()), ()))
theorem e86_top (n : Nat) (a : List (Int × Int × Int × Bool)) (b : Int) : runF TT G86 an86 Try.f86 c86 ps86 rs86 n (a, b, ()) = st86_top n  a b := by kernel_rfl
noncomputable def p86 (n : Nat) (a : List (Int × Int × Int × Bool)) (b : Int) : Option R86 := st86_top n  a b
theorem F86_eq (n : Nat) (a : List (Int × Int × Int × Bool)) (b : Int) : runF TT G86 an86 Try.f86 c86 ps86 rs86 n (a, b, ()) = p86 n a b := by
  rw [e86_top]
  skip
  try rfl
noncomputable def q86 (n : Nat) (x : argsD ps86) : Option R86 := p86 n x.1 x.2.1
noncomputable def Sm86 : Sm := ⟨ps86, rs86, false, q86⟩
theorem holds86 (hg : GamOK Try.prog G86) : Holds Try.prog 86 Sm86 := by
  have := h0_86 hg
  have e : (runF TT G86 an86 Try.f86 c86 ps86 rs86) = q86 := by
    funext n x
    exact F86_eq n x.1 x.2.1
  rw [e] at this
  exact this
theorem gam86 : GamOK Try.prog G86 := fun _ _ h => by cases h
theorem hh86 : Holds Try.prog 86 Sm86 := holds86 gam86
end Go.Proofs.Ytpcohpkflkhfbaa.Rx.S
namespace Go.Proofs.Ytpcohpkflkhfbaa.Rx.S
open Go Go.RowKit Go.Proofs
set_option maxRecDepth 100000
noncomputable def c35 : Code := (Try.f35.body.getD .skip)
def an35 : An := ⟨fun _ => ⟨[], []⟩, fun _ _ => none⟩
abbrev ps35 : List PK := [.val (.pair i64 (.pair (.row 127 tTh) (.row 3 i64))) true, .val i64 false]
abbrev rs35 : List RK := [.val i64 false]
abbrev R35 := retsD rs35 × outsD ps35
noncomputable def G35 : Gam := fun f => match f with | 55 => some Sm55 | 86 => some Sm86 | _ => none
theorem h0_35 (hg : GamOK Try.prog G35) : Holds Try.prog 35 ⟨ps35, rs35, false, runF TT G35 an35 Try.f35 c35 ps35 rs35⟩ := holds_of tt_ok hg mixed Try.func35 (by kernel_rfl) (by rfl) (by decide +kernel)
noncomputable def at35 : Nat → Pt → List Nat → St → Option R35 := atF TT G35 an35 Try.f35 c35 _ _
noncomputable def st35_top (n : Nat)  (a : Int × List (Int × Int × Int × Bool) × List Int) (b : Int) : Option R35 :=
  (Go.Proofs.Ytpcohpkflkhfbaa.Rx.S.q86 n (a.snd.fst, b, ())).bind fun r0 => cond (decide (r0.fst.fst < (0 : Int))) (some (((-1 : Int), ()), ())) ((Go.Proofs.Ytpcohpkflkhfbaa.Rx.S.q55 n (a.snd.snd, r0.fst.fst, ())).bind fun r1 => cond (decide (r1.fst.fst < (0 : Int))) (some (((-1 : Int), ()), ())) (some ((r1.fst.fst, ()), ())))
theorem e35_top (n : Nat) (a : Int × List (Int × Int × Int × Bool) × List Int) (b : Int) : runF TT G35 an35 Try.f35 c35 ps35 rs35 n (a, b, ()) = st35_top n  a b := by kernel_rfl
noncomputable def p35 (n : Nat) (a : Int × List (Int × Int × Int × Bool) × List Int) (b : Int) : Option R35 := st35_top n  a b
theorem F35_eq (n : Nat) (a : Int × List (Int × Int × Int × Bool) × List Int) (b : Int) : runF TT G35 an35 Try.f35 c35 ps35 rs35 n (a, b, ()) = p35 n a b := by
  rw [e35_top]
  skip
  try rfl
noncomputable def q35 (n : Nat) (x : argsD ps35) : Option R35 := p35 n x.1 x.2.1
noncomputable def Sm35 : Sm := ⟨ps35, rs35, false, q35⟩
theorem holds35 (hg : GamOK Try.prog G35) : Holds Try.prog 35 Sm35 := by
  have := h0_35 hg
  have e : (runF TT G35 an35 Try.f35 c35 ps35 rs35) = q35 := by
    funext n x
    exact F35_eq n x.1 x.2.1
  rw [e] at this
  exact this
theorem gam35 : GamOK Try.prog G35 := by
  intro f s h
  unfold G35 at h
  split at h
  · injection h with h; subst h; exact ⟨⟨Try.f55, c55, Try.func55, by kernel_rfl, by decide +kernel⟩, hh55⟩
  · injection h with h; subst h; exact ⟨⟨Try.f86, c86, Try.func86, by kernel_rfl, by decide +kernel⟩, hh86⟩
  · cases h
theorem hh35 : Holds Try.prog 35 Sm35 := holds35 gam35
end Go.Proofs.Ytpcohpkflkhfbaa.Rx.S
namespace Go.Proofs.Ytpcohpkflkhfbaa.Rx.S
open Go Go.RowKit Go.Proofs
set_option maxRecDepth 100000
noncomputable def c40 : Code := (Try.f40.body.getD .skip)
def an40 : An := ⟨fun r => match r with | 3 => ⟨[0, 3, 4], []⟩ | _ => ⟨[], []⟩, fun _ _ => none⟩
abbrev ps40 : List PK := [.val (.row 3 i64) false]
abbrev rs40 : List RK := [.own (.row 3 i64) false]
abbrev R40 := retsD rs40 × outsD ps40
noncomputable def G40 : Gam := fun _ => none
theorem h0_40 (hg : GamOK Try.prog G40) : Holds Try.prog 40 ⟨ps40, rs40, false, runF TT G40 an40 Try.f40 c40 ps40 rs40⟩ := holds_of tt_ok hg mixed Try.func40 (by kernel_rfl) (by rfl) (by decide +kernel)
noncomputable def at40 : Nat → Pt → List Nat → St → Option R40 := atF TT G40 an40 Try.f40 c40 _ _
def sh40_L3 (x0 : List Int) (x1 : Int) (x2 : List Int) : St := (Go.Proofs.Ytpcohpkflkhfbaa.Rx.St.mk ((Go.Proofs.Ytpcohpkflkhfbaa.Rx.AV.one (Go.Proofs.Ytpcohpkflkhfbaa.Rx.SV.con (⟨3, Go.Proofs.Ytpcohpkflkhfbaa.Rx.Ty.int Go.IntKind.i64, x0⟩ : Rw))) :: (Go.Proofs.Ytpcohpkflkhfbaa.Rx.AV.undef :: (Go.Proofs.Ytpcohpkflkhfbaa.Rx.AV.undef :: ((Go.Proofs.Ytpcohpkflkhfbaa.Rx.AV.one (Go.Proofs.Ytpcohpkflkhfbaa.Rx.SV.ref 1000000 0 [] Option.none)) :: ((Go.Proofs.Ytpcohpkflkhfbaa.Rx.AV.one (Go.Proofs.Ytpcohpkflkhfbaa.Rx.SV.int (Go.IntKind.i64) x1)) :: (Go.Proofs.Ytpcohpkflkhfbaa.Rx.AV.undef :: (Go.Proofs.Ytpcohpkflkhfbaa.Rx.AV.undef :: (Go.Proofs.Ytpcohpkflkhfbaa.Rx.AV.undef :: (Go.Proofs.Ytpcohpkflkhfbaa.Rx.AV.undef :: (Go.Proofs.Ytpcohpkflkhfbaa.Rx.AV.undef :: (Go.Proofs.Ytpcohpkflkhfbaa.Rx.AV.undef :: (Go.Proofs.Ytpcohpkflkhfbaa.Rx.AV.undef :: (Go.Proofs.Ytpcohpkflkhfbaa.Rx.AV.undef :: (Go.Proofs.Ytpcohpkflkhfbaa.Rx.AV.undef :: (Go.Proofs.Ytpcohpkflkhfbaa.Rx.AV.undef :: (Go.Proofs.Ytpcohpkflkhfbaa.Rx.AV.undef :: (Go.Proofs.Ytpcohpkflkhfbaa.Rx.AV.undef :: (Go.Proofs.Ytpcohpkflkhfbaa.Rx.AV.undef :: (Go.Proofs.Ytpcohpkflkhfbaa.Rx.AV.undef :: (Go.Proofs.Ytpcohpkflkhfbaa.Rx.AV.undef :: (Go.Proofs.Ytpcohpkflkhfbaa.Rx.AV.undef :: (Go.Proofs.Ytpcohpkflkhfbaa.Rx.AV.undef :: [])))))))))))))))))))))) ((1000000, (Go.Proofs.Ytpcohpkflkhfbaa.Rx.Ent.row (⟨3, Go.Proofs.Ytpcohpkflkhfbaa.Rx.Ty.int Go.IntKind.i64, x2⟩ : Rw) 0 Option.none)) :: []))
noncomputable def st40_top (n : Nat) (lL3 : (List Int) → Int → (List Int) → Option R40) (a : List Int) : Option R40 :=
  cond (decide ((↑a.length : Int) * (↑(8 : Nat) : Int) ≤ (140737488355328 : Int))) (lL3 (a) ((0 : Int)) (List.replicate (↑a.length : Int).toNat (0 : Int))) (none)
noncomputable def st40_L3 (n : Nat) (lL3 : (List Int) → Int → (List Int) → Option R40) (x0 : List Int) (x1 : Int) (x2 : List Int) : Option R40 :=
  cond (decide (x1 < (↑x0.length : Int))) (cond (decide ((0 : Int) ≤ x1)) (cond (decide (x1 < (↑x0.length : Int))) (cond (decide ((0 : Int) ≤ x1)) (cond (decide (x1 < (↑x2.length : Int))) (lL3 (x0) (Go.IntKind.i64.wrap (x1 + (1 : Int))) (x2.set x1.toNat (x0.getD x1.toNat (0 : Int)))) (none)) (none)) (none)) (none)) (some ((x2, ()), ()))
theorem e40_top (n : Nat) (a : List Int) : runF TT G40 an40 Try.f40 c40 ps40 rs40 n (a, ()) = st40_top n (fun x0 x1 x2 => at40 n (.head 3) [n] (sh40_L3 x0 x1 x2)) a := by kernel_rfl
theorem e40_L3_0 (n : Nat) (x0 : List Int) (x1 : Int) (x2 : List Int) : at40 n (.head 3) [0] (sh40_L3 x0 x1 x2) = none := by kernel_rfl
theorem e40_L3 (n : Nat) (m3 : Nat) (x0 : List Int) (x1 : Int) (x2 : List Int) : at40 n (.head 3) [m3 + 1] (sh40_L3 x0 x1 x2) = st40_L3 n (fun x0 x1 x2 => at40 n (.head 3) [m3] (sh40_L3 x0 x1 x2)) x0 x1 x2 := by kernel_rfl
noncomputable def p40_L3 (n : Nat) : Nat → (List Int) → Int → (List Int) → Option R40
  | 0, _, _, _ => none
  | m + 1, x0, x1, x2 => st40_L3 n (p40_L3 n m) x0 x1 x2
noncomputable def p40 (n : Nat) (a : List Int) : Option R40 := st40_top n (p40_L3 n n) a
theorem t40_L3 (n : Nat) : ∀ (m3 : Nat) (x0 : List Int) (x1 : Int) (x2 : List Int), at40 n (.head 3) [m3] (sh40_L3 x0 x1 x2) = p40_L3  n m3 x0 x1 x2 := by
  intro m
  induction m with
  | zero => intros; rw [e40_L3_0]; rfl
  | succ m ih =>
    intros
    rw [e40_L3]
    simp only [ih]
    rfl
theorem F40_eq (n : Nat) (a : List Int) : runF TT G40 an40 Try.f40 c40 ps40 rs40 n (a, ()) = p40 n a := by
  rw [e40_top]
  simp only [t40_L3]
  try rfl
noncomputable def q40 (n : Nat) (x : argsD ps40) : Option R40 := p40 n x.1
noncomputable def Sm40 : Sm := ⟨ps40, rs40, false, q40⟩
theorem holds40 (hg : GamOK Try.prog G40) : Holds Try.prog 40 Sm40 := by
  have := h0_40 hg
  have e : (runF TT G40 an40 Try.f40 c40 ps40 rs40) = q40 := by
    funext n x
    exact F40_eq n x.1
  rw [e] at this
  exact this
theorem gam40 : GamOK Try.prog G40 := fun _ _ h => by cases h
theorem hh40 : Holds Try.prog 40 Sm40 := holds40 gam40
end Go.Proofs.Ytpcohpkflkhfbaa.Rx.S
namespace Go.Proofs.Ytpcohpkflkhfbaa.Rx.S
open Go Go.RowKit Go.Proofs
set_option maxRecDepth 100000
noncomputable def c113 : Code := (Try.f113.body.getD .skip)
def an113 : An := ⟨fun _ => ⟨[], []⟩, fun _ _ => none⟩
abbrev ps113 : List PK := [.val tTh true]
abbrev rs113 : List RK := [.own tTh true]
abbrev R113 := retsD rs113 × outsD ps113
noncomputable def G113 : Gam := fun _ => none
theorem h0_113 (hg : GamOK Try.prog G113) : Holds Try.prog 113 ⟨ps113, rs113, false, runF TT G113 an113 Try.f113 c113 ps113 rs113⟩ := holds_of tt_ok hg mixed Try.func113 (by kernel_rfl) (by rfl) (by decide +kernel)
noncomputable def at113 : Nat → Pt → List Nat → St → Option R113 := atF TT G113 an113 Try.f113 c113 _ _
noncomputable def st113_top (n : Nat)  (a : Int × Int × Int × Bool) : Option R113 :=
  some (((a.fst, (a.snd.fst, (a.snd.snd.fst, a.snd.snd.snd))), ()), ())
theorem e113_top (n : Nat) (a : Int × Int × Int × Bool) : runF TT G113 an113 Try.f113 c113 ps113 rs113 n (a, ()) = st113_top n  a := by kernel_rfl
noncomputable def p113 (n : Nat) (a : Int × Int × Int × Bool) : Option R113 := st113_top n  a
theorem F113_eq (n : Nat) (a : Int × Int × Int × Bool) : runF TT G113 an113 Try.f113 c113 ps113 rs113 n (a, ()) = p113 n a := by
  rw [e113_top]
  skip
  try rfl
noncomputable def q113 (n : Nat) (x : argsD ps113) : Option R113 := p113 n x.1
noncomputable def Sm113 : Sm := ⟨ps113, rs113, false, q113⟩
theorem holds113 (hg : GamOK Try.prog G113) : Holds Try.prog 113 Sm113 := by
  have := h0_113 hg
  have e : (runF TT G113 an113 Try.f113 c113 ps113 rs113) = q113 := by
    funext n x
    exact F113_eq n x.1
  rw [e] at this
  exact this
theorem gam113 : GamOK Try.prog G113 := fun _ _ h => by cases h
theorem hh113 : Holds Try.prog 113 Sm113 := holds113 gam113
end Go.Proofs.Ytpcohpkflkhfbaa.Rx.S
namespace Go.Proofs.Ytpcohpkflkhfbaa.Rx.S
open Go Go.RowKit Go.Proofs
set_option maxRecDepth 100000
noncomputable def c87 : Code := (Try.f87.body.getD .skip)
def an87 : An := ⟨fun r => match r with | 3 => ⟨[0, 3, 4], []⟩ | _ => ⟨[], []⟩, fun _ _ => none⟩
abbrev ps87 : List PK := [.val (.row 127 tTh) false]
abbrev rs87 : List RK := [.own (.row 51 tTh) false]
abbrev R87 := retsD rs87 × outsD ps87
noncomputable def G87 : Gam := fun f => match f with | 113 => some Sm113 | _ => none
theorem h0_87 (hg : GamOK Try.prog G87) : Holds Try.prog 87 ⟨ps87, rs87, false, runF TT G87 an87 Try.f87 c87 ps87 rs87⟩ := holds_of tt_ok hg mixed Try.func87 (by kernel_rfl) (by rfl) (by decide +kernel)
noncomputable def at87 : Nat → Pt → List Nat → St → Option R87 := atF TT G87 an87 Try.f87 c87 _ _
def sh87_L3 (x0 : List (Int × Int × Int × Bool)) (x1 : Int) (x2 : List (Int × Int × Int × Bool)) : St := (Go.Proofs.Ytpcohpkflkhfbaa.Rx.St.mk ((Go.Proofs.Ytpcohpkflkhfbaa.Rx.AV.one (Go.Proofs.Ytpcohpkflkhfbaa.Rx.SV.con (⟨127, (Go.Proofs.Ytpcohpkflkhfbaa.Rx.Ty.int Go.IntKind.i64).pair   ((Go.Proofs.Ytpcohpkflkhfbaa.Rx.Ty.int Go.IntKind.i64).pair ((Go.Proofs.Ytpcohpkflkhfbaa.Rx.Ty.int Go.IntKind.i64).pair Go.Proofs.Ytpcohpkflkhfbaa.Rx.Ty.bool)), x0⟩ : Rw))) :: (Go.Proofs.Ytpcohpkflkhfbaa.Rx.AV.undef :: (Go.Proofs.Ytpcohpkflkhfbaa.Rx.AV.undef :: ((Go.Proofs.Ytpcohpkflkhfbaa.Rx.AV.one (Go.Proofs.Ytpcohpkflkhfbaa.Rx.SV.ref 1000000 0 [] Option.none)) :: ((Go.Proofs.Ytpcohpkflkhfbaa.Rx.AV.one (Go.Proofs.Ytpcohpkflkhfbaa.Rx.SV.int (Go.IntKind.i64) x1)) :: (Go.Proofs.Ytpcohpkflkhfbaa.Rx.AV.undef :: (Go.Proofs.Ytpcohpkflkhfbaa.Rx.AV.undef :: (Go.Proofs.Ytpcohpkflkhfbaa.Rx.AV.undef :: (Go.Proofs.Ytpcohpkflkhfbaa.Rx.AV.undef :: (Go.Proofs.Ytpcohpkflkhfbaa.Rx.AV.undef :: (Go.Proofs.Ytpcohpkflkhfbaa.Rx.AV.undef :: (Go.Proofs.Ytpcohpkflkhfbaa.Rx.AV.undef :: (Go.Proofs.Ytpcohpkflkhfbaa.Rx.AV.undef :: (Go.Proofs.Ytpcohpkflkhfbaa.Rx.AV.undef :: (Go.Proofs.Ytpcohpkflkhfbaa.Rx.AV.undef :: (Go.Proofs.Ytpcohpkflkhfbaa.Rx.AV.undef :: (Go.Proofs.Ytpcohpkflkhfbaa.Rx.AV.undef :: (Go.Proofs.Ytpcohpkflkhfbaa.Rx.AV.undef :: (Go.Proofs.Ytpcohpkflkhfbaa.Rx.AV.undef :: (Go.Proofs.Ytpcohpkflkhfbaa.Rx.AV.undef :: (Go.Proofs.Ytpcohpkflkhfbaa.Rx.AV.undef :: (Go.Proofs.Ytpcohpkflkhfbaa.Rx.AV.undef :: (Go.Proofs.Ytpcohpkflkhfbaa.Rx.AV.undef :: []))))))))))))))))))))))) ((1000000, (Go.Proofs.Ytpcohpkflkhfbaa.Rx.Ent.row (⟨51, (Go.Proofs.Ytpcohpkflkhfbaa.Rx.Ty.int Go.IntKind.i64).pair   ((Go.Proofs.Ytpcohpkflkhfbaa.Rx.Ty.int Go.IntKind.i64).pair ((Go.Proofs.Ytpcohpkflkhfbaa.Rx.Ty.int Go.IntKind.i64).pair Go.Proofs.Ytpcohpkflkhfbaa.Rx.Ty.bool)), x2⟩ : Rw) 0 Option.none)) :: []))
noncomputable def st87_top (n : Nat) (lL3 : (List (Int × Int × Int × Bool)) → Int → (List (Int × Int × Int × Bool)) → Option R87) (a : List (Int × Int × Int × Bool)) : Option R87 :=
  cond (decide ((↑a.length : Int) * (↑(32 : Nat) : Int) ≤ (140737488355328 : Int))) (lL3 (a) ((0 : Int)) (List.replicate (↑a.length : Int).toNat ((0 : Int), (0 : Int), (0 : Int), false))) (none)
noncomputable def st87_L3 (n : Nat) (lL3 : (List (Int × Int × Int × Bool)) → Int → (List (Int × Int × Int × Bool)) → Option R87) (x0 : List (Int × Int × Int × Bool)) (x1 : Int) (x2 : List (Int × Int × Int × Bool)) : Option R87 :=
  cond (decide (x1 < (↑x0.length : Int))) (cond (decide ((0 : Int) ≤ x1)) (cond (decide (x1 < (↑x0.length : Int))) ((Go.Proofs.Ytpcohpkflkhfbaa.Rx.S.q113 n   (((x0.getD x1.toNat ((0 : Int), (0 : Int), (0 : Int), false)).fst,       (x0.getD x1.toNat ((0 : Int), (0 : Int), (0 : Int), false)).snd.fst,       (x0.getD x1.toNat ((0 : Int), (0 : Int), (0 : Int), false)).snd.snd.fst,       (x0.getD x1.toNat ((0 : Int), (0 : Int), (0 : Int), false)).snd.snd.snd),     ())).bind fun r1 => cond (decide ((0 : Int) ≤ x1)) (cond (decide (x1 < (↑x2.length : Int))) (lL3 (x0) (Go.IntKind.i64.wrap (x1 + (1 : Int))) (x2.set x1.toNat (r1.fst.fst.fst, r1.fst.fst.snd.fst, r1.fst.fst.snd.snd.fst, r1.fst.fst.snd.snd.snd))) (none)) (none)) (none)) (none)) (some ((x2, ()), ()))
theorem e87_top (n : Nat) (a : List (Int × Int × Int × Bool)) : runF TT G87 an87 Try.f87 c87 ps87 rs87 n (a, ()) = st87_top n (fun x0 x1 x2 => at87 n (.head 3) [n] (sh87_L3 x0 x1 x2)) a := by kernel_rfl
theorem e87_L3_0 (n : Nat) (x0 : List (Int × Int × Int × Bool)) (x1 : Int) (x2 : List (Int × Int × Int × Bool)) : at87 n (.head 3) [0] (sh87_L3 x0 x1 x2) = none := by kernel_rfl
theorem e87_L3 (n : Nat) (m3 : Nat) (x0 : List (Int × Int × Int × Bool)) (x1 : Int) (x2 : List (Int × Int × Int × Bool)) : at87 n (.head 3) [m3 + 1] (sh87_L3 x0 x1 x2) = st87_L3 n (fun x0 x1 x2 => at87 n (.head 3) [m3] (sh87_L3 x0 x1 x2)) x0 x1 x2 := by kernel_rfl
noncomputable def p87_L3 (n : Nat) : Nat → (List (Int × Int × Int × Bool)) → Int → (List (Int × Int × Int × Bool)) → Option R87
  | 0, _, _, _ => none
  | m + 1, x0, x1, x2 => st87_L3 n (p87_L3 n m) x0 x1 x2
noncomputable def p87 (n : Nat) (a : List (Int × Int × Int × Bool)) : Option R87 := st87_top n (p87_L3 n n) a
theorem t87_L3 (n : Nat) : ∀ (m3 : Nat) (x0 : List (Int × Int × Int × Bool)) (x1 : Int) (x2 : List (Int × Int × Int × Bool)), at87 n (.head 3) [m3] (sh87_L3 x0 x1 x2) = p87_L3  n m3 x0 x1 x2 := by
  intro m
  induction m with
  | zero => intros; rw [e87_L3_0]; rfl
  | succ m ih =>
    intros
    rw [e87_L3]
    simp only [ih]
    rfl
theorem F87_eq (n : Nat) (a : List (Int × Int × Int × Bool)) : runF TT G87 an87 Try.f87 c87 ps87 rs87 n (a, ()) = p87 n a := by
  rw [e87_top]
  simp only [t87_L3]
  try rfl
noncomputable def q87 (n : Nat) (x : argsD ps87) : Option R87 := p87 n x.1
noncomputable def Sm87 : Sm := ⟨ps87, rs87, false, q87⟩
theorem holds87 (hg : GamOK Try.prog G87) : Holds Try.prog 87 Sm87 := by
  have := h0_87 hg
  have e : (runF TT G87 an87 Try.f87 c87 ps87 rs87) = q87 := by
    funext n x
    exact F87_eq n x.1
  rw [e] at this
  exact this
theorem gam87 : GamOK Try.prog G87 := by
  intro f s h
  unfold G87 at h
  split at h
  · injection h with h; subst h; exact ⟨⟨Try.f113, c113, Try.func113, by kernel_rfl, by decide +kernel⟩, hh113⟩
  · cases h
theorem hh87 : Holds Try.prog 87 Sm87 := holds87 gam87
end Go.Proofs.Ytpcohpkflkhfbaa.Rx.S
namespace Go.Proofs.Ytpcohpkflkhfbaa.Rx.S
open Go Go.RowKit Go.Proofs
set_option maxRecDepth 100000
noncomputable def c36 : Code := (Try.f36.body.getD .skip)
def an36 : An := ⟨fun _ => ⟨[], []⟩, fun _ _ => none⟩
abbrev ps36 : List PK := [.val (.pair i64 (.pair (.row 127 tTh) (.row 3 i64))) true]
abbrev rs36 : List RK := [.own tLock true]
abbrev R36 := retsD rs36 × outsD ps36
noncomputable def G36 : Gam := fun f => match f with | 40 => some Sm40 | 87 => some Sm87 | _ => none
theorem h0_36 (hg : GamOK Try.prog G36) : Holds Try.prog 36 ⟨ps36, rs36, false, runF TT G36 an36 Try.f36 c36 ps36 rs36⟩ := holds_of tt_ok hg mixed Try.func36 (by kernel_rfl) (by rfl) (by decide +kernel)
noncomputable def at36 : Nat → Pt → List Nat → St → Option R36 := atF TT G36 an36 Try.f36 c36 _ _
noncomputable def st36_top (n : Nat)  (a : Int × List (Int × Int × Int × Bool) × List Int) : Option R36 :=
  (Go.Proofs.Ytpcohpkflkhfbaa.Rx.S.q87 n (a.snd.fst, ())).bind fun r0 => (Go.Proofs.Ytpcohpkflkhfbaa.Rx.S.q40 n (a.snd.snd, ())).bind fun r1 => some (((a.fst, (r0.fst.fst, r1.fst.fst)), ()), ())
theorem e36_top (n : Nat) (a : Int × List (Int × Int × Int × Bool) × List Int) : runF TT G36 an36 Try.f36 c36 ps36 rs36 n (a, ()) = st36_top n  a := by kernel_rfl
noncomputable def p36 (n : Nat) (a : Int × List (Int × Int × Int × Bool) × List Int) : Option R36 := st36_top n  a
theorem F36_eq (n : Nat) (a : Int × List (Int × Int × Int × Bool) × List Int) : runF TT G36 an36 Try.f36 c36 ps36 rs36 n (a, ()) = p36 n a := by
  rw [e36_top]
  skip
  try rfl
noncomputable def q36 (n : Nat) (x : argsD ps36) : Option R36 := p36 n x.1
noncomputable def Sm36 : Sm := ⟨ps36, rs36, false, q36⟩
theorem holds36 (hg : GamOK Try.prog G36) : Holds Try.prog 36 Sm36 := by
  have := h0_36 hg
  have e : (runF TT G36 an36 Try.f36 c36 ps36 rs36) = q36 := by
    funext n x
    exact F36_eq n x.1
  rw [e] at this
  exact this
theorem gam36 : GamOK Try.prog G36 := by
  intro f s h
  unfold G36 at h
  split at h
  · injection h with h; subst h; exact ⟨⟨Try.f40, c40, Try.func40, by kernel_rfl, by decide +kernel⟩, hh40⟩
  · injection h with h; subst h; exact ⟨⟨Try.f87, c87, Try.func87, by kernel_rfl, by decide +kernel⟩, hh87⟩
  · cases h
theorem hh36 : Holds Try.prog 36 Sm36 := holds36 gam36
end Go.Proofs.Ytpcohpkflkhfbaa.Rx.S
namespace Go.Proofs.Ytpcohpkflkhfbaa.Rx.S
open Go Go.RowKit Go.Proofs
set_option maxRecDepth 100000
noncomputable def c41 : Code := (Try.f41.body.getD .skip)
def an41 : An := ⟨fun r => match r with | 4 => ⟨[0, 1, 5], []⟩ | _ => ⟨[], []⟩, fun _ _ => none⟩
abbrev ps41 : List PK := [.val (.row 3 i64) false, .val (.row 3 i64) false]
abbrev rs41 : List RK := [.val .bool false]
abbrev R41 := retsD rs41 × outsD ps41
noncomputable def G41 : Gam := fun _ => none
theorem h0_41 (hg : GamOK Try.prog G41) : Holds Try.prog 41 ⟨ps41, rs41, false, runF TT G41 an41 Try.f41 c41 ps41 rs41⟩ := holds_of tt_ok hg mixed Try.func41 (by kernel_rfl) (by rfl) (by decide +kernel)
noncomputable def at41 : Nat → Pt → List Nat → St → Option R41 := atF TT G41 an41 Try.f41 c41 _ _
def sh41_L4 (x0 : List Int) (x1 : List Int) (x2 : Int) : St := (Go.Proofs.Ytpcohpkflkhfbaa.Rx.St.mk ((Go.Proofs.Ytpcohpkflkhfbaa.Rx.AV.one (Go.Proofs.Ytpcohpkflkhfbaa.Rx.SV.con (⟨3, Go.Proofs.Ytpcohpkflkhfbaa.Rx.Ty.int Go.IntKind.i64, x0⟩ : Rw))) :: ((Go.Proofs.Ytpcohpkflkhfbaa.Rx.AV.one (Go.Proofs.Ytpcohpkflkhfbaa.Rx.SV.con (⟨3, Go.Proofs.Ytpcohpkflkhfbaa.Rx.Ty.int Go.IntKind.i64, x1⟩ : Rw))) :: (Go.Proofs.Ytpcohpkflkhfbaa.Rx.AV.undef :: (Go.Proofs.Ytpcohpkflkhfbaa.Rx.AV.undef :: (Go.Proofs.Ytpcohpkflkhfbaa.Rx.AV.undef :: ((Go.Proofs.Ytpcohpkflkhfbaa.Rx.AV.one (Go.Proofs.Ytpcohpkflkhfbaa.Rx.SV.int (Go.IntKind.i64) x2)) :: (Go.Proofs.Ytpcohpkflkhfbaa.Rx.AV.undef :: (Go.Proofs.Ytpcohpkflkhfbaa.Rx.AV.undef :: (Go.Proofs.Ytpcohpkflkhfbaa.Rx.AV.undef :: (Go.Proofs.Ytpcohpkflkhfbaa.Rx.AV.undef :: (Go.Proofs.Ytpcohpkflkhfbaa.Rx.AV.undef :: (Go.Proofs.Ytpcohpkflkhfbaa.Rx.AV.undef :: (Go.Proofs.Ytpcohpkflkhfbaa.Rx.AV.undef :: (Go.Proofs.Ytpcohpkflkhfbaa.Rx.AV.undef :: (Go.Proofs.Ytpcohpkflkhfbaa.Rx.AV.undef :: (Go.Proofs.Ytpcohpkflkhfbaa.Rx.AV.undef :: (Go.Proofs.Ytpcohpkflkhfbaa.Rx.AV.undef :: (Go.Proofs.Ytpcohpkflkhfbaa.Rx.AV.undef :: (Go.Proofs.Ytpcohpkflkhfbaa.Rx.AV.undef :: (Go.Proofs.Ytpcohpkflkhfbaa.Rx.AV.undef :: (Go.Proofs.Ytpcohpkflkhfbaa.Rx.AV.undef :: (Go.Proofs.Ytpcohpkflkhfbaa.Rx.AV.undef :: (Go.Proofs.Ytpcohpkflkhfbaa.Rx.AV.undef :: (Go.Proofs.Ytpcohpkflkhfbaa.Rx.AV.undef :: (Go.Proofs.Ytpcohpkflkhfbaa.Rx.AV.undef :: (Go.Proofs.Ytpcohpkflkhfbaa.Rx.AV.undef :: [])))))))))))))))))))))))))) [])
noncomputable def st41_top (n : Nat) (lL4 : (List Int) → (List Int) → Int → Option R41) (a : List Int) (b : List Int) : Option R41 :=
  cond (!decide ((↑a.length : Int) = (↑b.length : Int))) (some ((false, ()), ())) (lL4 (a) (b) ((0 : Int)))
noncomputable def st41_L4 (n : Nat) (lL4 : (List Int) → (List Int) → Int → Option R41) (x0 : List Int) (x1 : List Int) (x2 : Int) : Option R41 :=
  cond (decide (x2 < (↑x0.length : Int))) (cond (decide ((0 : Int) ≤ x2)) (cond (decide (x2 < (↑x0.length : Int))) (cond (decide ((0 : Int) ≤ x2)) (cond (decide (x2 < (↑x1.length : Int))) (cond (!decide (x0.getD x2.toNat (0 : Int) = x1.getD x2.toNat (0 : Int))) (some ((false, ()), ())) (lL4 (x0) (x1) (Go.IntKind.i64.wrap (x2 + (1 : Int))))) (none)) (none)) (none)) (none)) (some ((true, ()), ()))
theorem e41_top (n : Nat) (a : List Int) (b : List Int) : runF TT G41 an41 Try.f41 c41 ps41 rs41 n (a, b, ()) = st41_top n (fun x0 x1 x2 => at41 n (.head 4) [n] (sh41_L4 x0 x1 x2)) a b := by kernel_rfl
theorem e41_L4_0 (n : Nat) (x0 : List Int) (x1 : List Int) (x2 : Int) : at41 n (.head 4) [0] (sh41_L4 x0 x1 x2) = none := by kernel_rfl
theorem e41_L4 (n : Nat) (m4 : Nat) (x0 : List Int) (x1 : List Int) (x2 : Int) : at41 n (.head 4) [m4 + 1] (sh41_L4 x0 x1 x2) = st41_L4 n (fun x0 x1 x2 => at41 n (.head 4) [m4] (sh41_L4 x0 x1 x2)) x0 x1 x2 := by kernel_rfl
noncomputable def p41_L4 (n : Nat) : Nat → (List Int) → (List Int) → Int → Option R41
  | 0, _, _, _ => none
  | m + 1, x0, x1, x2 => st41_L4 n (p41_L4 n m) x0 x1 x2
noncomputable def p41 (n : Nat) (a : List Int) (b : List Int) : Option R41 := st41_top n (p41_L4 n n) a b
theorem t41_L4 (n : Nat) : ∀ (m4 : Nat) (x0 : List Int) (x1 : List Int) (x2 : Int), at41 n (.head 4) [m4] (sh41_L4 x0 x1 x2) = p41_L4  n m4 x0 x1 x2 := by
  intro m
  induction m with
  | zero => intros; rw [e41_L4_0]; rfl
  | succ m ih =>
    intros
    rw [e41_L4]
    simp only [ih]
    rfl
theorem F41_eq (n : Nat) (a : List Int) (b : List Int) : runF TT G41 an41 Try.f41 c41 ps41 rs41 n (a, b, ()) = p41 n a b := by
  rw [e41_top]
  simp only [t41_L4]
  try rfl
noncomputable def q41 (n : Nat) (x : argsD ps41) : Option R41 := p41 n x.1 x.2.1
noncomputable def Sm41 : Sm := ⟨ps41, rs41, false, q41⟩
theorem holds41 (hg : GamOK Try.prog G41) : Holds Try.prog 41 Sm41 := by
  have := h0_41 hg
  have e : (runF TT G41 an41 Try.f41 c41 ps41 rs41) = q41 := by
    funext n x
    exact F41_eq n x.1 x.2.1
  rw [e] at this
  exact this
theorem gam41 : GamOK Try.prog G41 := fun _ _ h => by cases h
theorem hh41 : Holds Try.prog 41 Sm41 := holds41 gam41
end Go.Proofs.Ytpcohpkflkhfbaa.Rx.S
namespace Go.Proofs.Ytpcohpkflkhfbaa.Rx.S
open Go Go.RowKit Go.Proofs
set_option maxRecDepth 100000
noncomputable def c114 : Code := (Try.f114.body.getD .skip)
def an114 : An := ⟨fun _ => ⟨[], []⟩, fun _ _ => none⟩
abbrev ps114 : List PK := [.val tTh true, .val tTh true]
abbrev rs114 : List RK := [.val .bool false]
abbrev R114 := retsD rs114 × outsD ps114
noncomputable def G114 : Gam := fun _ => none
theorem h0_114 (hg : GamOK Try.prog G114) : Holds Try.prog 114 ⟨ps114, rs114, false, runF TT G114 an114 Try.f114 c114 ps114 rs114⟩ := holds_of tt_ok hg mixed Try.func114 (by kernel_rfl) (by rfl) (by decide +kernel)
noncomputable def at114 : Nat → Pt → List Nat → St → Option R114 := atF TT G114 an114 Try.f114 c114 _ _
noncomputable def st114_top (n : Nat)  (a : Int × Int × Int × Bool) (b : Int × Int × Int × Bool) : Option R114 :=
  cond (!decide (a.fst = b.fst)) (some ((false, ()), ())) (cond (!decide (a.snd.fst = b.snd.fst)) (some ((false, ()), ())) (cond (!decide (a.snd.snd.fst = b.snd.snd.fst)) (some ((false, ()), ())) (cond (!a.snd.snd.snd == b.snd.snd.snd) (some ((false, ()), ())) (some ((true, ()), ())))))
theorem e114_top (n : Nat) (a : Int × Int × Int × Bool) (b : Int × Int × Int × Bool) : runF TT G114 an114 Try.f114 c114 ps114 rs114 n (a, b, ()) = st114_top n  a b := by kernel_rfl
noncomputable def p114 (n : Nat) (a : Int × Int × Int × Bool) (b : Int × Int × Int × Bool) : Option R114 := st114_top n  a b
theorem F114_eq (n : Nat) (a : Int × Int × Int × Bool) (b : Int × Int × Int × Bool) : runF TT G114 an114 Try.f114 c114 ps114 rs114 n (a, b, ()) = p114 n a b := by
  rw [e114_top]
  skip
  try rfl
noncomputable def q114 (n : Nat) (x : argsD ps114) : Option R114 := p114 n x.1 x.2.1
noncomputable def Sm114 : Sm := ⟨ps114, rs114, false, q114⟩
theorem holds114 (hg : GamOK Try.prog G114) : Holds Try.prog 114 Sm114 := by
  have := h0_114 hg
  have e : (runF TT G114 an114 Try.f114 c114 ps114 rs114) = q114 := by
    funext n x
    exact F114_eq n x.1 x.2.1
  rw [e] at this
  exact this
theorem gam114 : GamOK Try.prog G114 := fun _ _ h => by cases h
theorem hh114 : Holds Try.prog 114 Sm114 := holds114 gam114
end Go.Proofs.Ytpcohpkflkhfbaa.Rx.S
namespace Go.Proofs.Ytpcohpkflkhfbaa.Rx.S
open Go Go.RowKit Go.Proofs
set_option maxRecDepth 100000
noncomputable def c88 : Code := (Try.f88.body.getD .skip)
def an88 : An := ⟨fun r => match r with | 4 => ⟨[0, 1, 5], []⟩ | _ => ⟨[], []⟩, fun _ _ => none⟩
abbrev ps88 : List PK := [.val (.row 51 tTh) false, .val (.row 51 tTh) false]
abbrev rs88 : List RK := [.val .bool false]
abbrev R88 := retsD rs88 × outsD ps88
noncomputable def G88 : Gam := fun f => match f with | 114 => some Sm114 | _ => none
theorem h0_88 (hg : GamOK Try.prog G88) : Holds Try.prog 88 ⟨ps88, rs88, false, runF TT G88 an88 Try.f88 c88 ps88 rs88⟩ := holds_of tt_ok hg mixed Try.func88 (by kernel_rfl) (by rfl) (by decide +kernel)
noncomputable def at88 : Nat → Pt → List Nat → St → Option R88 := atF TT G88 an88 Try.f88 c88 _ _
def sh88_L4 (x0 : List (Int × Int × Int × Bool)) (x1 : List (Int × Int × Int × Bool)) (x2 : Int) : St := (Go.Proofs.Ytpcohpkflkhfbaa.Rx.St.mk ((Go.Proofs.Ytpcohpkflkhfbaa.Rx.AV.one (Go.Proofs.Ytpcohpkflkhfbaa.Rx.SV.con (⟨51, (Go.Proofs.Ytpcohpkflkhfbaa.Rx.Ty.int Go.IntKind.i64).pair   ((Go.Proofs.Ytpcohpkflkhfbaa.Rx.Ty.int Go.IntKind.i64).pair ((Go.Proofs.Ytpcohpkflkhfbaa.Rx.Ty.int Go.IntKind.i64).pair Go.Proofs.Ytpcohpkflkhfbaa.Rx.Ty.bool)), x0⟩ : Rw))) :: ((Go.Proofs.Ytpcohpkflkhfbaa.Rx.AV.one (Go.Proofs.Ytpcohpkflkhfbaa.Rx.SV.con (⟨51, (Go.Proofs.Ytpcohpkflkhfbaa.Rx.Ty.int Go.IntKind.i64).pair   ((Go.Proofs.Ytpcohpkflkhfbaa.Rx.Ty.int Go.IntKind.i64).pair ((Go.Proofs.Ytpcohpkflkhfbaa.Rx.Ty.int Go.IntKind.i64).pair Go.Proofs.Ytpcohpkflkhfbaa.Rx.Ty.bool)), x1⟩ : Rw))) :: (Go.Proofs.Ytpcohpkflkhfbaa.Rx.AV.undef :: (Go.Proofs.Ytpcohpkflkhfbaa.Rx.AV.undef :: (Go.Proofs.Ytpcohpkflkhfbaa.Rx.AV.undef :: ((Go.Proofs.Ytpcohpkflkhfbaa.Rx.AV.one (Go.Proofs.Ytpcohpkflkhfbaa.Rx.SV.int (Go.IntKind.i64) x2)) :: (Go.Proofs.Ytpcohpkflkhfbaa.Rx.AV.undef :: (Go.Proofs.Ytpcohpkflkhfbaa.Rx.AV.undef :: (Go.Proofs.Ytpcohpkflkhfbaa.Rx.AV.undef :: (Go.Proofs.Ytpcohpkflkhfbaa.Rx.AV.undef :: (Go.Proofs.Ytpcohpkflkhfbaa.Rx.AV.undef :: (Go.Proofs.Ytpcohpkflkhfbaa.Rx.AV.undef :: (Go.Proofs.Ytpcohpkflkhfbaa.Rx.AV.undef :: (Go.Proofs.Ytpcohpkflkhfbaa.Rx.AV.undef :: (Go.Proofs.Ytpcohpkflkhfbaa.Rx.AV.undef :: (Go.Proofs.Ytpcohpkflkhfbaa.Rx.AV.undef :: (Go.Proofs.Ytpcohpkflkhfbaa.Rx.AV.undef :: (Go.Proofs.Ytpcohpkflkhfbaa.Rx.AV.undef :: (Go.Proofs.Ytpcohpkflkhfbaa.Rx.AV.undef :: (Go.Proofs.Ytpcohpkflkhfbaa.Rx.AV.undef :: (Go.Proofs.Ytpcohpkflkhfbaa.Rx.AV.undef :: (Go.Proofs.Ytpcohpkflkhfbaa.Rx.AV.undef :: (Go.Proofs.Ytpcohpkflkhfbaa.Rx.AV.undef :: (Go.Proofs.Ytpcohpkflkhfbaa.Rx.AV.undef :: (Go.Proofs.Ytpcohpkflkhfbaa.Rx.AV.undef :: (Go.Proofs.Ytpcohpkflkhfbaa.Rx.AV.undef :: (Go.Proofs.Ytpcohpkflkhfbaa.Rx.AV.undef :: []))))))))))))))))))))))))))) [])
noncomputable def st88_top (n : Nat) (lL4 : (List (Int × Int × Int × Bool)) → (List (Int × Int × Int × Bool)) → Int → Option R88) (a : List (Int × Int × Int × Bool)) (b : List (Int × Int × Int × Bool)) : Option R88 :=
  cond (!decide ((↑a.length : Int) = (↑b.length : Int))) (some ((false, ()), ())) (lL4 (a) (b) ((0 : Int)))
noncomputable def st88_L4 (n : Nat) (lL4 : (List (Int × Int × Int × Bool)) → (List (Int × Int × Int × Bool)) → Int → Option R88) (x0 : List (Int × Int × Int × Bool)) (x1 : List (Int × Int × Int × Bool)) (x2 : Int) : Option R88 :=
  cond (decide (x2 < (↑x0.length : Int))) (cond (decide ((0 : Int) ≤ x2)) (cond (decide (x2 < (↑x0.length : Int))) (cond (decide ((0 : Int) ≤ x2)) (cond (decide (x2 < (↑x1.length : Int))) ((Go.Proofs.Ytpcohpkflkhfbaa.Rx.S.q114 n   (((x0.getD x2.toNat ((0 : Int), (0 : Int), (0 : Int), false)).fst,       (x0.getD x2.toNat ((0 : Int), (0 : Int), (0 : Int), false)).snd.fst,       (x0.getD x2.toNat ((0 : Int), (0 : Int), (0 : Int), false)).snd.snd.fst,       (x0.getD x2.toNat ((0 : Int), (0 : Int), (0 : Int), false)).snd.snd.snd),     ((x1.getD x2.toNat ((0 : Int), (0 : Int), (0 : Int), false)).fst,       (x1.getD x2.toNat ((0 : Int), (0 : Int), (0 : Int), false)).snd.fst,       (x1.getD x2.toNat ((0 : Int), (0 : Int), (0 : Int), false)).snd.snd.fst,       (x1.getD x2.toNat ((0 : Int), (0 : Int), (0 : Int), false)).snd.snd.snd),     ())).bind fun r1 => cond (!r1.fst.fst) (some ((false, ()), ())) (lL4 (x0) (x1) (Go.IntKind.i64.wrap (x2 + (1 : Int))))) (none)) (none)) (none)) (none)) (some ((true, ()), ()))
theorem e88_top (n : Nat) (a : List (Int × Int × Int × Bool)) (b : List (Int × Int × Int × Bool)) : runF TT G88 an88 Try.f88 c88 ps88 rs88 n (a, b, ()) = st88_top n (fun x0 x1 x2 => at88 n (.head 4) [n] (sh88_L4 x0 x1 x2)) a b := by kernel_rfl
theorem e88_L4_0 (n : Nat) (x0 : List (Int × Int × Int × Bool)) (x1 : List (Int × Int × Int × Bool)) (x2 : Int) : at88 n (.head 4) [0] (sh88_L4 x0 x1 x2) = none := by kernel_rfl
theorem e88_L4 (n : Nat) (m4 : Nat) (x0 : List (Int × Int × Int × Bool)) (x1 : List (Int × Int × Int × Bool)) (x2 : Int) : at88 n (.head 4) [m4 + 1] (sh88_L4 x0 x1 x2) = st88_L4 n (fun x0 x1 x2 => at88 n (.head 4) [m4] (sh88_L4 x0 x1 x2)) x0 x1 x2 := by kernel_rfl
noncomputable def p88_L4 (n : Nat) : Nat → (List (Int × Int × Int × Bool)) → (List (Int × Int × Int × Bool)) → Int → Option R88
  | 0, _, _, _ => none
  | m + 1, x0, x1, x2 => st88_L4 n (p88_L4 n m) x0 x1 x2
noncomputable def p88 (n : Nat) (a : List (Int × Int × Int × Bool)) (b : List (Int × Int × Int × Bool)) : Option R88 := st88_top n (p88_L4 n n) a b
theorem t88_L4 (n : Nat) : ∀ (m4 : Nat) (x0 : List (Int × Int × Int × Bool)) (x1 : List (Int × Int × Int × Bool)) (x2 : Int), at88 n (.head 4) [m4] (sh88_L4 x0 x1 x2) = p88_L4  n m4 x0 x1 x2 := by
  intro m
  induction m with
  | zero => intros; rw [e88_L4_0]; rfl
  | succ m ih =>
    intros
    rw [e88_L4]
    simp only [ih]
    rfl
theorem F88_eq (n : Nat) (a : List (Int × Int × Int × Bool)) (b : List (Int × Int × Int × Bool)) : runF TT G88 an88 Try.f88 c88 ps88 rs88 n (a, b, ()) = p88 n a b := by
  rw [e88_top]
  simp only [t88_L4]
  try rfl
noncomputable def q88 (n : Nat) (x : argsD ps88) : Option R88 := p88 n x.1 x.2.1
noncomputable def Sm88 : Sm := ⟨ps88, rs88, false, q88⟩
theorem holds88 (hg : GamOK Try.prog G88) : Holds Try.prog 88 Sm88 := by
  have := h0_88 hg
  have e : (runF TT G88 an88 Try.f88 c88 ps88 rs88) = q88 := by
    funext n x
    exact F88_eq n x.1 x.2.1
  rw [e] at this
  exact this
theorem gam88 : GamOK Try.prog G88 := by
  intro f s h
  unfold G88 at h
  split at h
  · injection h with h; subst h; exact ⟨⟨Try.f114, c114, Try.func114, by kernel_rfl, by decide +kernel⟩, hh114⟩
  · cases h
theorem hh88 : Holds Try.prog 88 Sm88 := holds88 gam88
end Go.Proofs.Ytpcohpkflkhfbaa.Rx.S
namespace Go.Proofs.Ytpcohpkflkhfbaa.Rx.S
open Go Go.RowKit Go.Proofs
set_option maxRecDepth 100000
noncomputable def c37 : Code := (Try.f37.body.getD .skip)
def an37 : An := ⟨fun _ => ⟨[], []⟩, fun _ _ => none⟩
abbrev ps37 : List PK := [.val tLock true, .val tLock true]
abbrev rs37 : List RK := [.val .bool false]
abbrev R37 := retsD rs37 × outsD ps37
noncomputable def G37 : Gam := fun f => match f with | 41 => some Sm41 | 88 => some Sm88 | _ => none
theorem h0_37 (hg : GamOK Try.prog G37) : Holds Try.prog 37 ⟨ps37, rs37, false, runF TT G37 an37 Try.f37 c37 ps37 rs37⟩ := holds_of tt_ok hg mixed Try.func37 (by kernel_rfl) (by rfl) (by decide +kernel)
noncomputable def at37 : Nat → Pt → List Nat → St → Option R37 := atF TT G37 an37 Try.f37 c37 _ _
noncomputable def st37_top (n : Nat)  (a : Int × List (Int × Int × Int × Bool) × List Int) (b : Int × List (Int × Int × Int × Bool) × List Int) : Option R37 :=
  cond (!decide (a.fst = b.fst)) (some ((false, ()), ())) ((Go.Proofs.Ytpcohpkflkhfbaa.Rx.S.q88 n (a.snd.fst, b.snd.fst, ())).bind fun r0 => cond (!r0.fst.fst) (some ((false, ()), ())) ((Go.Proofs.Ytpcohpkflkhfbaa.Rx.S.q41 n (a.snd.snd, b.snd.snd, ())).bind fun r1 => cond (!r1.fst.fst) (some ((false, ()), ())) (some ((true, ()), ()))))
theorem e37_top (n : Nat) (a : Int × List (Int × Int × Int × Bool) × List Int) (b : Int × List (Int × Int × Int × Bool) × List Int) : runF TT G37 an37 Try.f37 c37 ps37 rs37 n (a, b, ()) = st37_top n  a b := by kernel_rfl
noncomputable def p37 (n : Nat) (a : Int × List (Int × Int × Int × Bool) × List Int) (b : Int × List (Int × Int × Int × Bool) × List Int) : Option R37 := st37_top n  a b
theorem F37_eq (n : Nat) (a : Int × List (Int × Int × Int × Bool) × List Int) (b : Int × List (Int × Int × Int × Bool) × List Int) : runF TT G37 an37 Try.f37 c37 ps37 rs37 n (a, b, ()) = p37 n a b := by
  rw [e37_top]
  skip
  try rfl
noncomputable def q37 (n : Nat) (x : argsD ps37) : Option R37 := p37 n x.1 x.2.1
noncomputable def Sm37 : Sm := ⟨ps37, rs37, false, q37⟩
theorem holds37 (hg : GamOK Try.prog G37) : Holds Try.prog 37 Sm37 := by
  have := h0_37 hg
  have e : (runF TT G37 an37 Try.f37 c37 ps37 rs37) = q37 := by
    funext n x
    exact F37_eq n x.1 x.2.1
  rw [e] at this
  exact this
theorem gam37 : GamOK Try.prog G37 := by
  intro f s h
  unfold G37 at h
  split at h
  · injection h with h; subst h; exact ⟨⟨Try.f41, c41, Try.func41, by kernel_rfl, by decide +kernel⟩, hh41⟩
  · injection h with h; subst h; exact ⟨⟨Try.f88, c88, Try.func88, by kernel_rfl, by decide +kernel⟩, hh88⟩
  · cases h
theorem hh37 : Holds Try.prog 37 Sm37 := holds37 gam37
end Go.Proofs.Ytpcohpkflkhfbaa.Rx.S
namespace Go.Proofs.Ytpcohpkflkhfbaa.Rx.S
open Go Go.RowKit Go.Proofs
set_option maxRecDepth 100000
noncomputable def c42 : Code := (Try.f42.body.getD .skip)
def an42 : An := ⟨fun r => match r with | 2 => ⟨[0, 1, 5], []⟩ | _ => ⟨[], []⟩, fun _ _ => none⟩
abbrev ps42 : List PK := [.io (.row 3 i64) false, .val i64 false]
abbrev rs42 : List RK := [.val i64 false]
abbrev R42 := retsD rs42 × outsD ps42
noncomputable def G42 : Gam := fun _ => none
theorem h0_42 (hg : GamOK Try.prog G42) : Holds Try.prog 42 ⟨ps42, rs42, false, runF TT G42 an42 Try.f42 c42 ps42 rs42⟩ := holds_of tt_ok hg mixed Try.func42 (by kernel_rfl) (by rfl) (by decide +kernel)
noncomputable def at42 : Nat → Pt → List Nat → St → Option R42 := atF TT G42 an42 Try.f42 c42 _ _
def sh42_L2 (x0 : Int) (x1 : Int) (x2 : List Int) : St := (Go.Proofs.Ytpcohpkflkhfbaa.Rx.St.mk ((Go.Proofs.Ytpcohpkflkhfbaa.Rx.AV.par 0 false ((Go.Proofs.Ytpcohpkflkhfbaa.Rx.SV.ref 1000000 0 [] Option.none) :: [])) :: ((Go.Proofs.Ytpcohpkflkhfbaa.Rx.AV.one (Go.Proofs.Ytpcohpkflkhfbaa.Rx.SV.int (Go.IntKind.i64) x0)) :: (Go.Proofs.Ytpcohpkflkhfbaa.Rx.AV.undef :: (Go.Proofs.Ytpcohpkflkhfbaa.Rx.AV.undef :: (Go.Proofs.Ytpcohpkflkhfbaa.Rx.AV.undef :: ((Go.Proofs.Ytpcohpkflkhfbaa.Rx.AV.one (Go.Proofs.Ytpcohpkflkhfbaa.Rx.SV.int (Go.IntKind.i64) x1)) :: (Go.Proofs.Ytpcohpkflkhfbaa.Rx.AV.undef :: (Go.Proofs.Ytpcohpkflkhfbaa.Rx.AV.undef :: (Go.Proofs.Ytpcohpkflkhfbaa.Rx.AV.undef :: (Go.Proofs.Ytpcohpkflkhfbaa.Rx.AV.undef :: (Go.Proofs.Ytpcohpkflkhfbaa.Rx.AV.undef :: (Go.Proofs.Ytpcohpkflkhfbaa.Rx.AV.undef :: (Go.Proofs.Ytpcohpkflkhfbaa.Rx.AV.undef :: (Go.Proofs.Ytpcohpkflkhfbaa.Rx.AV.undef :: (Go.Proofs.Ytpcohpkflkhfbaa.Rx.AV.undef :: (Go.Proofs.Ytpcohpkflkhfbaa.Rx.AV.undef :: (Go.Proofs.Ytpcohpkflkhfbaa.Rx.AV.undef :: (Go.Proofs.Ytpcohpkflkhfbaa.Rx.AV.undef :: (Go.Proofs.Ytpcohpkflkhfbaa.Rx.AV.undef :: []))))))))))))))))))) ((1000000, (Go.Proofs.Ytpcohpkflkhfbaa.Rx.Ent.row (⟨3, Go.Proofs.Ytpcohpkflkhfbaa.Rx.Ty.int Go.IntKind.i64, x2⟩ : Rw) 0 Option.none)) :: []))
noncomputable def st42_top (n : Nat) (lL2 : Int → Int → (List Int) → Option R42) (a : List Int) (b : Int) : Option R42 :=
  lL2 (b) ((0 : Int)) (a)
noncomputable def st42_L2 (n : Nat) (lL2 : Int → Int → (List Int) → Option R42) (x0 : Int) (x1 : Int) (x2 : List Int) : Option R42 :=
  cond (decide (x1 < (↑x2.length : Int))) (cond (decide ((0 : Int) ≤ x1)) (cond (decide (x1 < (↑x2.length : Int))) (lL2 (Go.IntKind.i64.wrap (x0 + (1 : Int))) (Go.IntKind.i64.wrap (x1 + (1 : Int))) (x2.set x1.toNat x0)) (none)) (none)) (some ((x0, ()), (x2, ())))
theorem e42_top (n : Nat) (a : List Int) (b : Int) : runF TT G42 an42 Try.f42 c42 ps42 rs42 n (a, b, ()) = st42_top n (fun x0 x1 x2 => at42 n (.head 2) [n] (sh42_L2 x0 x1 x2)) a b := by kernel_rfl
theorem e42_L2_0 (n : Nat) (x0 : Int) (x1 : Int) (x2 : List Int) : at42 n (.head 2) [0] (sh42_L2 x0 x1 x2) = none := by kernel_rfl
theorem e42_L2 (n : Nat) (m2 : Nat) (x0 : Int) (x1 : Int) (x2 : List Int) : at42 n (.head 2) [m2 + 1] (sh42_L2 x0 x1 x2) = st42_L2 n (fun x0 x1 x2 => at42 n (.head 2) [m2] (sh42_L2 x0 x1 x2)) x0 x1 x2 := by kernel_rfl
noncomputable def p42_L2 (n : Nat) : Nat → Int → Int → (List Int) → Option R42
  | 0, _, _, _ => none
  | m + 1, x0, x1, x2 => st42_L2 n (p42_L2 n m) x0 x1 x2
noncomputable def p42 (n : Nat) (a : List Int) (b : Int) : Option R42 := st42_top n (p42_L2 n n) a b
theorem t42_L2 (n : Nat) : ∀ (m2 : Nat) (x0 : Int) (x1 : Int) (x2 : List Int), at42 n (.head 2) [m2] (sh42_L2 x0 x1 x2) = p42_L2  n m2 x0 x1 x2 := by
  intro m
  induction m with
  | zero => intros; rw [e42_L2_0]; rfl
  | succ m ih =>
    intros
    rw [e42_L2]
    simp only [ih]
    rfl
theorem F42_eq (n : Nat) (a : List Int) (b : Int) : runF TT G42 an42 Try.f42 c42 ps42 rs42 n (a, b, ()) = p42 n a b := by
  rw [e42_top]
  simp only [t42_L2]
  try rfl
noncomputable def q42 (n : Nat) (x : argsD ps42) : Option R42 := p42 n x.1 x.2.1
noncomputable def Sm42 : Sm := ⟨ps42, rs42, false, q42⟩
theorem holds42 (hg : GamOK Try.prog G42) : Holds Try.prog 42 Sm42 := by
  have := h0_42 hg
  have e : (runF TT G42 an42 Try.f42 c42 ps42 rs42) = q42 := by
    funext n x
    exact F42_eq n x.1 x.2.1
  rw [e] at this
  exact this
theorem gam42 : GamOK Try.prog G42 := fun _ _ h => by cases h
theorem hh42 : Holds Try.prog 42 Sm42 := holds42 gam42
end Go.Proofs.Ytpcohpkflkhfbaa.Rx.S
namespace Go.Proofs.Ytpcohpkflkhfbaa.Rx.S
open Go Go.RowKit Go.Proofs
set_option maxRecDepth 100000
noncomputable def c89 : Code := (Try.f89.body.getD .skip)
def an89 : An := ⟨fun r => match r with | 2 => ⟨[0, 1, 5], []⟩ | _ => ⟨[], []⟩, fun _ _ => none⟩
abbrev ps89 : List PK := [.io (.row 51 tTh) false, .val i64 false]
abbrev rs89 : List RK := [.val i64 false]
abbrev R89 := retsD rs89 × outsD ps89
noncomputable def G89 : Gam := fun _ => none
theorem h0_89 (hg : GamOK Try.prog G89) : Holds Try.prog 89 ⟨ps89, rs89, false, runF TT G89 an89 Try.f89 c89 ps89 rs89⟩ := holds_of tt_ok hg mixed Try.func89 (by kernel_rfl) (by rfl) (by decide +kernel)
noncomputable def at89 : Nat → Pt → List Nat → St → Option R89 := atF TT G89 an89 Try.f89 c89 _ _
def sh89_L2 (x0 : Int) (x1 : Int) (x2 : List (Int × Int × Int × Bool)) : St := (Go.Proofs.Ytpcohpkflkhfbaa.Rx.St.mk ((Go.Proofs.Ytpcohpkflkhfbaa.Rx.AV.par 0 false ((Go.Proofs.Ytpcohpkflkhfbaa.Rx.SV.ref 1000000 0 [] Option.none) :: [])) :: ((Go.Proofs.Ytpcohpkflkhfbaa.Rx.AV.one (Go.Proofs.Ytpcohpkflkhfbaa.Rx.SV.int (Go.IntKind.i64) x0)) :: (Go.Proofs.Ytpcohpkflkhfbaa.Rx.AV.undef :: (Go.Proofs.Ytpcohpkflkhfbaa.Rx.AV.undef :: (Go.Proofs.Ytpcohpkflkhfbaa.Rx.AV.undef :: ((Go.Proofs.Ytpcohpkflkhfbaa.Rx.AV.one (Go.Proofs.Ytpcohpkflkhfbaa.Rx.SV.int (Go.IntKind.i64) x1)) :: (Go.Proofs.Ytpcohpkflkhfbaa.Rx.AV.undef :: (Go.Proofs.Ytpcohpkflkhfbaa.Rx.AV.undef :: (Go.Proofs.Ytpcohpkflkhfbaa.Rx.AV.undef :: (Go.Proofs.Ytpcohpkflkhfbaa.Rx.AV.undef :: (Go.Proofs.Ytpcohpkflkhfbaa.Rx.AV.undef :: (Go.Proofs.Ytpcohpkflkhfbaa.Rx.AV.undef :: (Go.Proofs.Ytpcohpkflkhfbaa.Rx.AV.undef :: (Go.Proofs.Ytpcohpkflkhfbaa.Rx.AV.undef :: (Go.Proofs.Ytpcohpkflkhfbaa.Rx.AV.undef :: (Go.Proofs.Ytpcohpkflkhfbaa.Rx.AV.undef :: (Go.Proofs.Ytpcohpkflkhfbaa.Rx.AV.undef :: (Go.Proofs.Ytpcohpkflkhfbaa.Rx.AV.undef :: (Go.Proofs.Ytpcohpkflkhfbaa.Rx.AV.undef :: (Go.Proofs.Ytpcohpkflkhfbaa.Rx.AV.undef :: (Go.Proofs.Ytpcohpkflkhfbaa.Rx.AV.undef :: (Go.Proofs.Ytpcohpkflkhfbaa.Rx.AV.undef :: (Go.Proofs.Ytpcohpkflkhfbaa.Rx.AV.undef :: (Go.Proofs.Ytpcohpkflkhfbaa.Rx.AV.undef :: (Go.Proofs.Ytpcohpkflkhfbaa.Rx.AV.undef :: (Go.Proofs.Ytpcohpkflkhfbaa.Rx.AV.undef :: (Go.Proofs.Ytpcohpkflkhfbaa.Rx.AV.undef :: (Go.Proofs.Ytpcohpkflkhfbaa.Rx.AV.undef :: (Go.Proofs.Ytpcohpkflkhfbaa.Rx.AV.undef :: (Go.Proofs.Ytpcohpkflkhfbaa.Rx.AV.undef :: (Go.Proofs.Ytpcohpkflkhfbaa.Rx.AV.undef :: (Go.Proofs.Ytpcohpkflkhfbaa.Rx.AV.undef :: (Go.Proofs.Ytpcohpkflkhfbaa.Rx.AV.undef :: (Go.Proofs.Ytpcohpkflkhfbaa.Rx.AV.undef :: (Go.Proofs.Ytpcohpkflkhfbaa.Rx.AV.undef :: (Go.Proofs.Ytpcohpkflkhfbaa.Rx.AV.undef :: (Go.Proofs.Ytpcohpkflkhfbaa.Rx.AV.undef :: (Go.Proofs.Ytpcohpkflkhfbaa.Rx.AV.undef :: (Go.Proofs.Ytpcohpkflkhfbaa.Rx.AV.undef :: (Go.Proofs.Ytpcohpkflkhfbaa.Rx.AV.undef :: (Go.Proofs.Ytpcohpkflkhfbaa.Rx.AV.undef :: (Go.Proofs.Ytpcohpkflkhfbaa.Rx.AV.undef :: (Go.Proofs.Ytpcohpkflkhfbaa.Rx.AV.undef :: []))))))))))))))))))))))))))))))))))))))))))) ((1000000, (Go.Proofs.Ytpcohpkflkhfbaa.Rx.Ent.row (⟨51, (Go.Proofs.Ytpcohpkflkhfbaa.Rx.Ty.int Go.IntKind.i64).pair   ((Go.Proofs.Ytpcohpkflkhfbaa.Rx.Ty.int Go.IntKind.i64).pair ((Go.Proofs.Ytpcohpkflkhfbaa.Rx.Ty.int Go.IntKind.i64).pair Go.Proofs.Ytpcohpkflkhfbaa.Rx.Ty.bool)), x2⟩ : Rw) 0 Option.none)) :: []))
noncomputable def st89_top (n : Nat) (lL2 : Int → Int → (List (Int × Int × Int × Bool)) → Option R89) (a : List (Int × Int × Int × Bool)) (b : Int) : Option R89 :=
  lL2 (b) ((0 : Int)) (a)
noncomputable def st89_L2 (n : Nat) (lL2 : Int → Int → (List (Int × Int × Int × Bool)) → Option R89) (x0 : Int) (x1 : Int) (x2 : List (Int × Int × Int × Bool)) : Option R89 :=
  cond (decide (x1 < (↑x2.length : Int))) (cond (decide ((0 : Int) ≤ x1)) (cond (decide (x1 < (↑x2.length : Int))) (cond (decide ((0 : Int) ≤ x1)) (cond (decide (x1 < (↑(x2.set x1.toNat (x0, (x2.getD x1.toNat ((0 : Int), (0 : Int), (0 : Int), false)).snd)).length : Int))) (cond (decide ((0 : Int) ≤ x1)) (cond (decide   (x1 <     (↑((x2.set x1.toNat (x0, (x2.getD x1.toNat ((0 : Int), (0 : Int), (0 : Int), false)).snd)).set x1.toNat             (((x2.set x1.toNat (x0, (x2.getD x1.toNat ((0 : Int), (0 : Int), (0 : Int), false)).snd)).getD x1.toNat                   ((0 : Int), (0 : Int), (0 : Int), false)).fst,               Go.IntKind.i64.wrap (x0 + (1 : Int)),               ((x2.set x1.toNat (x0, (x2.getD x1.toNat ((0 : Int), (0 : Int), (0 : Int), false)).snd)).getD x1.toNat                     ((0 : Int), (0 : Int), (0 : Int), false)).snd.snd)).length :       Int))) (cond (decide ((0 : Int) ≤ x1)) (cond (decide   (x1 <     (↑(((x2.set x1.toNat (x0, (x2.getD x1.toNat ((0 : Int), (0 : Int), (0 : Int), false)).snd)).set x1.toNat                 (((x2.set x1.toNat (x0, (x2.getD x1.toNat ((0 : Int), (0 : Int), (0 : Int), false)).snd)).getD x1.toNat                       ((0 : Int), (0 : Int), (0 : Int), false)).fst,                   Go.IntKind.i64.wrap (x0 + (1 : Int)),                   ((x2.set x1.toNat (x0, (x2.getD x1.toNat ((0 : Int), (0 : Int), (0 : Int), false)).snd)).getD x1.toNat                         ((0 : Int), (0 : Int), (0 : Int), false)).snd.snd)).set             x1.toNat             ((((x2.set x1.toNat (x0, (x2.getD x1.toNat ((0 : Int), (0 : Int), (0 : Int), false)).snd)).set x1.toNat                       (((x2.set x1.toNat (x0, (x2.getD x1.toNat ((0 : Int), (0 : Int), (0 : Int), false)).snd)).getD                             x1.toNat ((0 : Int), (0 : Int), (0 : Int), false)).fst,                         Go.IntKind.i64.wrap (x0 + (1 : Int)),                         ((x2.set x1.toNat (x0, (x2.getD x1.toNat ((0 : Int), (0 : Int), (0 : Int), false)).snd)).getD                               x1.toNat ((0 : Int), (0 : Int), (0 : Int), false)).snd.snd)).getD                   x1.toNat ((0 : Int), (0 : Int), (0 : Int), false)).fst,               (((x2.set x1.toNat (x0, (x2.getD x1.toNat ((0 : Int), (0 : Int), (0 : Int), false)).snd)).set x1.toNat                         (((x2.set x1.toNat (x0, (x2.getD x1.toNat ((0 : Int), (0 : Int), (0 : Int), false)).snd)).getD                               x1.toNat ((0 : Int), (0 : Int), (0 : Int), false)).fst,                           Go.IntKind.i64.wrap (x0 + (1 : Int)),                           ((x2.set x1.toNat (x0, (x2.getD x1.toNat ((0 : Int), (0 : Int), (0 : Int), false)).snd)).getD                                 x1.toNat ((0 : Int), (0 : Int), (0 : Int), false)).snd.snd)).getD                     x1.toNat ((0 : Int), (0 : Int), (0 : Int), false)).snd.fst,               Go.IntKind.i64.wrap (Go.IntKind.i64.wrap (x0 + (1 : Int)) + (1 : Int)),               (((x2.set x1.toNat (x0, (x2.getD x1.toNat ((0 : Int), (0 : Int), (0 : Int), false)).snd)).set x1.toNat                           (((x2.set x1.toNat (x0, (x2.getD x1.toNat ((0 : Int), (0 : Int), (0 : Int), false)).snd)).getD                                 x1.toNat ((0 : Int), (0 : Int), (0 : Int), false)).fst,                             Go.IntKind.i64.wrap (x0 + (1 : Int)),                             ((x2.set x1.toNat                                       (x0, (x2.getD x1.toNat ((0 : Int), (0 : Int), (0 : Int), false)).snd)).getD                                   x1.toNat ((0 : Int), (0 : Int), (0 : Int), false)).snd.snd)).getD                       x1.toNat ((0 : Int), (0 : Int), (0 : Int), false)).snd.snd.snd)).length :       Int))) (lL2 (Go.IntKind.i64.wrap   (Go.IntKind.i64.wrap (Go.IntKind.i64.wrap (Go.IntKind.i64.wrap (x0 + (1 : Int)) + (1 : Int)) + (1 : Int)) + (1 : Int))) (Go.IntKind.i64.wrap (x1 + (1 : Int))) ((((x2.set x1.toNat (x0, (x2.getD x1.toNat ((0 : Int), (0 : Int), (0 : Int), false)).snd)).set x1.toNat           (((x2.set x1.toNat (x0, (x2.getD x1.toNat ((0 : Int), (0 : Int), (0 : Int), false)).snd)).getD x1.toNat                 ((0 : Int), (0 : Int), (0 : Int), false)).fst,             Go.IntKind.i64.wrap (x0 + (1 : Int)),             ((x2.set x1.toNat (x0, (x2.getD x1.toNat ((0 : Int), (0 : Int), (0 : Int), false)).snd)).getD x1.toNat                   ((0 : Int), (0 : Int), (0 : Int), false)).snd.snd)).set       x1.toNat       ((((x2.set x1.toNat (x0, (x2.getD x1.toNat ((0 : Int), (0 : Int), (0 : Int), false)).snd)).set x1.toNat                 (((x2.set x1.toNat (x0, (x2.getD x1.toNat ((0 : Int), (0 : Int), (0 : Int), false)).snd)).getD x1.toNat                       ((0 : Int), (0 : Int), (0 : Int), false)).fst,                   Go.IntKind.i64.wrap (x0 + (1 : Int)),                   ((x2.set x1.toNat (x0, (x2.getD x1.toNat ((0 : Int), (0 : Int), (0 : Int), false)).snd)).getD x1.toNat                         ((0 : Int), (0 : Int), (0 : Int), false)).snd.snd)).getD             x1.toNat ((0 : Int), (0 : Int), (0 : Int), false)).fst,         (((x2.set x1.toNat (x0, (x2.getD x1.toNat ((0 : Int), (0 : Int), (0 : Int), false)).snd)).set x1.toNat                   (((x2.set x1.toNat (x0, (x2.getD x1.toNat ((0 : Int), (0 : Int), (0 : Int), false)).snd)).getD                         x1.toNat ((0 : Int), (0 : Int), (0 : Int), false)).fst,                     Go.IntKind.i64.wrap (x0 + (1 : Int)),                     ((x2.set x1.toNat (x0, (x2.getD x1.toNat ((0 : Int), (0 : Int), (0 : Int), false)).snd)).getD                           x1.toNat ((0 : Int), (0 : Int), (0 : Int), false)).snd.snd)).getD               x1.toNat ((0 : Int), (0 : Int), (0 : Int), false)).snd.fst,         Go.IntKind.i64.wrap (Go.IntKind.i64.wrap (x0 + (1 : Int)) + (1 : Int)),         (((x2.set x1.toNat (x0, (x2.getD x1.toNat ((0 : Int), (0 : Int), (0 : Int), false)).snd)).set x1.toNat                     (((x2.set x1.toNat (x0, (x2.getD x1.toNat ((0 : Int), (0 : Int), (0 : Int), false)).snd)).getD                           x1.toNat ((0 : Int), (0 : Int), (0 : Int), false)).fst,                       Go.IntKind.i64.wrap (x0 + (1 : Int)),                       ((x2.set x1.toNat (x0, (x2.getD x1.toNat ((0 : Int), (0 : Int), (0 : Int), false)).snd)).getD                             x1.toNat ((0 : Int), (0 : Int), (0 : Int), false)).snd.snd)).getD                 x1.toNat ((0 : Int), (0 : Int), (0 : Int), false)).snd.snd.snd)).set   x1.toNat   (((((x2.set x1.toNat (x0, (x2.getD x1.toNat ((0 : Int), (0 : Int), (0 : Int), false)).snd)).set x1.toNat                 (((x2.set x1.toNat (x0, (x2.getD x1.toNat ((0 : Int), (0 : Int), (0 : Int), false)).snd)).getD x1.toNat                       ((0 : Int), (0 : Int), (0 : Int), false)).fst,                   Go.IntKind.i64.wrap (x0 + (1 : Int)),                   ((x2.set x1.toNat (x0, (x2.getD x1.toNat ((0 : Int), (0 : Int), (0 : Int), false)).snd)).getD x1.toNat                         ((0 : Int), (0 : Int), (0 : Int), false)).snd.snd)).set             x1.toNat             ((((x2.set x1.toNat (x0, (x2.getD x1.toNat ((0 : Int), (0 : Int), (0 : Int), false)).snd)).set x1.toNat                       (((x2.set x1.toNat (x0, (x2.getD x1.toNat ((0 : Int), (0 : Int), (0 : Int), false)).snd)).getD                             x1.toNat ((0 : Int), (0 : Int), (0 : Int), false)).fst,                         Go.IntKind.i64.wrap (x0 + (1 : Int)),                         ((x2.set x1.toNat (x0, (x2.getD x1.toNat ((0 : Int), (0 : Int), (0 : Int), false)).snd)).getD                               x1.toNat ((0 : Int), (0 : Int), (0 : Int), false)).snd.snd)).getD                   x1.toNat ((0 : Int), (0 : Int), (0 : Int), false)).fst,               (((x2.set x1.toNat (x0, (x2.getD x1.toNat ((0 : Int), (0 : Int), (0 : Int), false)).snd)).set x1.toNat                         (((x2.set x1.toNat (x0, (x2.getD x1.toNat ((0 : Int), (0 : Int), (0 : Int), false)).snd)).getD                               x1.toNat ((0 : Int), (0 : Int), (0 : Int), false)).fst,                           Go.IntKind.i64.wrap (x0 + (1 : Int)),                           ((x2.set x1.toNat (x0, (x2.getD x1.toNat ((0 : Int), (0 : Int), (0 : Int), false)).snd)).getD                                 x1.toNat ((0 : Int), (0 : Int), (0 : Int), false)).snd.snd)).getD                     x1.toNat ((0 : Int), (0 : Int), (0 : Int), false)).snd.fst,               Go.IntKind.i64.wrap (Go.IntKind.i64.wrap (x0 + (1 : Int)) + (1 : Int)),               (((x2.set x1.toNat (x0, (x2.getD x1.toNat ((0 : Int), (0 : Int), (0 : Int), false)).snd)).set x1.toNat                           (((x2.set x1.toNat (x0, (x2.getD x1.toNat ((0 : Int), (0 : Int), (0 : Int), false)).snd)).getD                                 x1.toNat ((0 : Int), (0 : Int), (0 : Int), false)).fst,                             Go.IntKind.i64.wrap (x0 + (1 : Int)),                             ((x2.set x1.toNat                                       (x0, (x2.getD x1.toNat ((0 : Int), (0 : Int), (0 : Int), false)).snd)).getD                                   x1.toNat ((0 : Int), (0 : Int), (0 : Int), false)).snd.snd)).getD                       x1.toNat ((0 : Int), (0 : Int), (0 : Int), false)).snd.snd.snd)).getD         x1.toNat ((0 : Int), (0 : Int), (0 : Int), false)).fst,     ((((x2.set x1.toNat (x0, (x2.getD x1.toNat ((0 : Int), (0 : Int), (0 : Int), false)).snd)).set x1.toNat                   (((x2.set x1.toNat (x0, (x2.getD x1.toNat ((0 : Int), (0 : Int), (0 : Int), false)).snd)).getD                         x1.toNat ((0 : Int), (0 : Int), (0 : Int), false)).fst,                     Go.IntKind.i64.wrap (x0 + (1 : Int)),                     ((x2.set x1.toNat (x0, (x2.getD x1.toNat ((0 : Int), (0 : Int), (0 : Int), false)).snd)).getD                           x1.toNat ((0 : Int), (0 : Int), (0 : Int), false)).snd.snd)).set               x1.toNat               ((((x2.set x1.toNat (x0, (x2.getD x1.toNat ((0 : Int), (0 : Int), (0 : Int), false)).snd)).set x1.toNat                         (((x2.set x1.toNat (x0, (x2.getD x1.toNat ((0 : Int), (0 : Int), (0 : Int), false)).snd)).getD                               x1.toNat ((0 : Int), (0 : Int), (0 : Int), false)).fst,                           Go.IntKind.i64.wrap (x0 + (1 : Int)),                           ((x2.set x1.toNat (x0, (x2.getD x1.toNat ((0 : Int), (0 : Int), (0 : Int), false)).snd)).getD                                 x1.toNat ((0 : Int), (0 : Int), (0 : Int), false)).snd.snd)).getD                     x1.toNat ((0 : Int), (0 : Int), (0 : Int), false)).fst,                 (((x2.set x1.toNat (x0, (x2.getD x1.toNat ((0 : Int), (0 : Int), (0 : Int), false)).snd)).set x1.toNat                           (((x2.set x1.toNat (x0, (x2.getD x1.toNat ((0 : Int), (0 : Int), (0 : Int), false)).snd)).getD                                 x1.toNat ((0 : Int), (0 : Int), (0 : Int), false)).fst,                             Go.IntKind.i64.wrap (x0 + (1 : Int)),                             ((x2.set x1.toNat                                       (x0, (x2.getD x1.toNat ((0 : Int), (0 : Int), (0 : Int), false)).snd)).getD                                   x1.toNat ((0 : Int), (0 : Int), (0 : Int), false)).snd.snd)).getD                       x1.toNat ((0 : Int), (0 : Int), (0 : Int), false)).snd.fst,                 Go.IntKind.i64.wrap (Go.IntKind.i64.wrap (x0 + (1 : Int)) + (1 : Int)),                 (((x2.set x1.toNat (x0, (x2.getD x1.toNat ((0 : Int), (0 : Int), (0 : Int), false)).snd)).set x1.toNat                             (((x2.set x1.toNat                                       (x0, (x2.getD x1.toNat ((0 : Int), (0 : Int), (0 : Int), false)).snd)).getD                                   x1.toNat ((0 : Int), (0 : Int), (0 : Int), false)).fst,                               Go.IntKind.i64.wrap (x0 + (1 : Int)),                               ((x2.set x1.toNat                                         (x0, (x2.getD x1.toNat ((0 : Int), (0 : Int), (0 : Int), false)).snd)).getD                                     x1.toNat ((0 : Int), (0 : Int), (0 : Int), false)).snd.snd)).getD                         x1.toNat ((0 : Int), (0 : Int), (0 : Int), false)).snd.snd.snd)).getD           x1.toNat ((0 : Int), (0 : Int), (0 : Int), false)).snd.fst,     ((((x2.set x1.toNat (x0, (x2.getD x1.toNat ((0 : Int), (0 : Int), (0 : Int), false)).snd)).set x1.toNat                     (((x2.set x1.toNat (x0, (x2.getD x1.toNat ((0 : Int), (0 : Int), (0 : Int), false)).snd)).getD                           x1.toNat ((0 : Int), (0 : Int), (0 : Int), false)).fst,                       Go.IntKind.i64.wrap (x0 + (1 : Int)),                       ((x2.set x1.toNat (x0, (x2.getD x1.toNat ((0 : Int), (0 : Int), (0 : Int), false)).snd)).getD                             x1.toNat ((0 : Int), (0 : Int), (0 : Int), false)).snd.snd)).set                 x1.toNat                 ((((x2.set x1.toNat (x0, (x2.getD x1.toNat ((0 : Int), (0 : Int), (0 : Int), false)).snd)).set x1.toNat                           (((x2.set x1.toNat (x0, (x2.getD x1.toNat ((0 : Int), (0 : Int), (0 : Int), false)).snd)).getD                                 x1.toNat ((0 : Int), (0 : Int), (0 : Int), false)).fst,                             Go.IntKind.i64.wrap (x0 + (1 : Int)),                             ((x2.set x1.toNat                                       (x0, (x2.getD x1.toNat ((0 : Int), (0 : Int), (0 : Int), false)).snd)).getD                                   x1.toNat ((0 : Int), (0 : Int), (0 : Int), false)).snd.snd)).getD                       x1.toNat ((0 : Int), (0 : Int), (0 : Int), false)).fst,                   (((x2.set x1.toNat (x0, (x2.getD x1.toNat ((0 : Int), (0 : Int), (0 : Int), false)).snd)).set x1.toNat                             (((x2.set x1.toNat                                       (x0, (x2.getD x1.toNat ((0 : Int), (0 : Int), (0 : Int), false)).snd)).getD                                   x1.toNat ((0 : Int), (0 : Int), (0 : Int), false)).fst,                               Go.IntKind.i64.wrap (x0 + (1 : Int)),                               ((x2.set x1.toNat                                         (x0, (x2.getD x1.toNat ((0 : Int), (0 : Int), (0 : Int), false)).snd)).getD                                     x1.toNat ((0 : Int), (0 : Int), (0 : Int), false)).snd.snd)).getD                         x1.toNat ((0 : Int), (0 : Int), (0 : Int), false)).snd.fst,                   Go.IntKind.i64.wrap (Go.IntKind.i64.wrap (x0 + (1 : Int)) + (1 : Int)),                   (((x2.set x1.toNat (x0, (x2.getD x1.toNat ((0 : Int), (0 : Int), (0 : Int), false)).snd)).set x1.toNat                               (((x2.set x1.toNat                                         (x0, (x2.getD x1.toNat ((0 : Int), (0 : Int), (0 : Int), false)).snd)).getD                                     x1.toNat ((0 : Int), (0 : Int), (0 : Int), false)).fst,                                 Go.IntKind.i64.wrap (x0 + (1 : Int)),                                 ((x2.set x1.toNat                                           (x0, (x2.getD x1.toNat ((0 : Int), (0 : Int), (0 : Int), false)).snd)).getD                                       x1.toNat ((0 : Int), (0 : Int), (0 : Int), false)).snd.snd)).getD                           x1.toNat ((0 : Int), (0 : Int), (0 : Int), false)).snd.snd.snd)).getD             x1.toNat ((0 : Int), (0 : Int), (0 : Int), false)).snd.snd.fst,     decide       ((Go.IntKind.i64.wrap (Go.IntKind.i64.wrap (Go.IntKind.i64.wrap (x0 + (1 : Int)) + (1 : Int)) + (1 : Int))).tmod           (3 : Int) =         (0 : Int))))) (none)) (none)) (none)) (none)) (none)) (none)) (none)) (none)) (some ((x0, ()), (x2, ())))
theorem e89_top (n : Nat) (a : List (Int × Int × Int × Bool)) (b : Int) : runF TT G89 an89 Try.f89 c89 ps89 rs89 n (a, b, ()) = st89_top n (fun x0 x1 x2 => at89 n (.head 2) [n] (sh89_L2 x0 x1 x2)) a b := by kernel_rfl
theorem e89_L2_0 (n : Nat) (x0 : Int) (x1 : Int) (x2 : List (Int × Int × Int × Bool)) : at89 n (.head 2) [0] (sh89_L2 x0 x1 x2) = none := by kernel_rfl
theorem e89_L2 (n : Nat) (m2 : Nat) (x0 : Int) (x1 : Int) (x2 : List (Int × Int × Int × Bool)) : at89 n (.head 2) [m2 + 1] (sh89_L2 x0 x1 x2) = st89_L2 n (fun x0 x1 x2 => at89 n (.head 2) [m2] (sh89_L2 x0 x1 x2)) x0 x1 x2 := by kernel_rfl
noncomputable def p89_L2 (n : Nat) : Nat → Int → Int → (List (Int × Int × Int × Bool)) → Option R89
  | 0, _, _, _ => none
  | m + 1, x0, x1, x2 => st89_L2 n (p89_L2 n m) x0 x1 x2
noncomputable def p89 (n : Nat) (a : List (Int × Int × Int × Bool)) (b : Int) : Option R89 := st89_top n (p89_L2 n n) a b
theorem t89_L2 (n : Nat) : ∀ (m2 : Nat) (x0 : Int) (x1 : Int) (x2 : List (Int × Int × Int × Bool)), at89 n (.head 2) [m2] (sh89_L2 x0 x1 x2) = p89_L2  n m2 x0 x1 x2 := by
  intro m
  induction m with
  | zero => intros; rw [e89_L2_0]; rfl
  | succ m ih =>
    intros
    rw [e89_L2]
    simp only [ih]
    rfl
theorem F89_eq (n : Nat) (a : List (Int × Int × Int × Bool)) (b : Int) : runF TT G89 an89 Try.f89 c89 ps89 rs89 n (a, b, ()) = p89 n a b := by
  rw [e89_top]
  simp only [t89_L2]
  try rfl
noncomputable def q89 (n : Nat) (x : argsD ps89) : Option R89 := p89 n x.1 x.2.1
noncomputable def Sm89 : Sm := ⟨ps89, rs89, false, q89⟩
theorem holds89 (hg : GamOK Try.prog G89) : Holds Try.prog 89 Sm89 := by
  have := h0_89 hg
  have e : (runF TT G89 an89 Try.f89 c89 ps89 rs89) = q89 := by
    funext n x
    exact F89_eq n x.1 x.2.1
  rw [e] at this
  exact this
theorem gam89 : GamOK Try.prog G89 := fun _ _ h => by cases h
theorem hh89 : Holds Try.prog 89 Sm89 := holds89 gam89
end Go.Proofs.Ytpcohpkflkhfbaa.Rx.S
namespace Go.Proofs.Ytpcohpkflkhfbaa.Rx.S
open Go Go.RowKit Go.Proofs
set_option maxRecDepth 100000
noncomputable def c38 : Code := (Try.f38.body.getD .skip)
def an38 : An := ⟨fun _ => ⟨[], []⟩, fun _ _ => none⟩
abbrev ps38 : List PK := [.io tLock true, .val i64 false]
abbrev rs38 : List RK := [.val i64 false]
abbrev R38 := retsD rs38 × outsD ps38
noncomputable def G38 : Gam := fun f => match f with | 42 => some Sm42 | 89 => some Sm89 | _ => none
theorem h0_38 (hg : GamOK Try.prog G38) : Holds Try.prog 38 ⟨ps38, rs38, false, runF TT G38 an38 Try.f38 c38 ps38 rs38⟩ := holds_of tt_ok hg mixed Try.func38 (by kernel_rfl) (by rfl) (by decide +kernel)
noncomputable def at38 : Nat → Pt → List Nat → St → Option R38 := atF TT G38 an38 Try.f38 c38 _ _
noncomputable def st38_top (n : Nat)  (a : Int × List (Int × Int × Int × Bool) × List Int) (b : Int) : Option R38 :=
  (Go.Proofs.Ytpcohpkflkhfbaa.Rx.S.q89 n (a.snd.fst, b, ())).bind fun r0 => (Go.Proofs.Ytpcohpkflkhfbaa.Rx.S.q42 n (a.snd.snd, r0.fst.fst, ())).bind fun r1 => some ((r1.fst.fst, ()), ((a.fst, (r0.snd.fst, r1.snd.fst)), ()))
theorem e38_top (n : Nat) (a : Int × List (Int × Int × Int × Bool) × List Int) (b : Int) : runF TT G38 an38 Try.f38 c38 ps38 rs38 n (a, b, ()) = st38_top n  a b := by kernel_rfl
noncomputable def p38 (n : Nat) (a : Int × List (Int × Int × Int × Bool) × List Int) (b : Int) : Option R38 := st38_top n  a b
theorem F38_eq (n : Nat) (a : Int × List (Int × Int × Int × Bool) × List Int) (b : Int) : runF TT G38 an38 Try.f38 c38 ps38 rs38 n (a, b, ()) = p38 n a b := by
  rw [e38_top]
  skip
  try rfl
noncomputable def q38 (n : Nat) (x : argsD ps38) : Option R38 := p38 n x.1 x.2.1
noncomputable def Sm38 : Sm := ⟨ps38, rs38, false, q38⟩
theorem holds38 (hg : GamOK Try.prog G38) : Holds Try.prog 38 Sm38 := by
  have := h0_38 hg
  have e : (runF TT G38 an38 Try.f38 c38 ps38 rs38) = q38 := by
    funext n x
    exact F38_eq n x.1 x.2.1
  rw [e] at this
  exact this
theorem gam38 : GamOK Try.prog G38 := by
  intro f s h
  unfold G38 at h
  split at h
  · injection h with h; subst h; exact ⟨⟨Try.f42, c42, Try.func42, by kernel_rfl, by decide +kernel⟩, hh42⟩
  · injection h with h; subst h; exact ⟨⟨Try.f89, c89, Try.func89, by kernel_rfl, by decide +kernel⟩, hh89⟩
  · cases h
theorem hh38 : Holds Try.prog 38 Sm38 := holds38 gam38
end Go.Proofs.Ytpcohpkflkhfbaa.Rx.S
namespace Go.Proofs.Ytpcohpkflkhfbaa.Rx.S
open Go Go.RowKit Go.Proofs
set_option maxRecDepth 100000
noncomputable def c68 : Code := (Try.f68.body.getD .skip)
def an68 : An := ⟨fun r => match r with | 2 => ⟨[0, 1, 5], []⟩ | _ => ⟨[], []⟩, fun _ _ => none⟩
abbrev ps68 : List PK := [.val (.row 3 i64) false, .val i64 false]
abbrev rs68 : List RK := [.val i64 false]
abbrev R68 := retsD rs68 × outsD ps68
noncomputable def G68 : Gam := fun _ => none
theorem h0_68 (hg : GamOK Try.prog G68) : Holds Try.prog 68 ⟨ps68, rs68, false, runF TT G68 an68 Try.f68 c68 ps68 rs68⟩ := holds_of tt_ok hg mixed Try.func68 (by kernel_rfl) (by rfl) (by decide +kernel)
noncomputable def at68 : Nat → Pt → List Nat → St → Option R68 := atF TT G68 an68 Try.f68 c68 _ _
def sh68_L2 (x0 : List Int) (x1 : Int) (x2 : Int) : St := (Go.Proofs.Ytpcohpkflkhfbaa.Rx.St.mk ((Go.Proofs.Ytpcohpkflkhfbaa.Rx.AV.one (Go.Proofs.Ytpcohpkflkhfbaa.Rx.SV.con (⟨3, Go.Proofs.Ytpcohpkflkhfbaa.Rx.Ty.int Go.IntKind.i64, x0⟩ : Rw))) :: ((Go.Proofs.Ytpcohpkflkhfbaa.Rx.AV.one (Go.Proofs.Ytpcohpkflkhfbaa.Rx.SV.int (Go.IntKind.i64) x1)) :: (Go.Proofs.Ytpcohpkflkhfbaa.Rx.AV.undef :: (Go.Proofs.Ytpcohpkflkhfbaa.Rx.AV.undef :: (Go.Proofs.Ytpcohpkflkhfbaa.Rx.AV.undef :: ((Go.Proofs.Ytpcohpkflkhfbaa.Rx.AV.one (Go.Proofs.Ytpcohpkflkhfbaa.Rx.SV.int (Go.IntKind.i64) x2)) :: (Go.Proofs.Ytpcohpkflkhfbaa.Rx.AV.undef :: (Go.Proofs.Ytpcohpkflkhfbaa.Rx.AV.undef :: (Go.Proofs.Ytpcohpkflkhfbaa.Rx.AV.undef :: (Go.Proofs.Ytpcohpkflkhfbaa.Rx.AV.undef :: (Go.Proofs.Ytpcohpkflkhfbaa.Rx.AV.undef :: (Go.Proofs.Ytpcohpkflkhfbaa.Rx.AV.undef :: (Go.Proofs.Ytpcohpkflkhfbaa.Rx.AV.undef :: (Go.Proofs.Ytpcohpkflkhfbaa.Rx.AV.undef :: (Go.Proofs.Ytpcohpkflkhfbaa.Rx.AV.undef :: (Go.Proofs.Ytpcohpkflkhfbaa.Rx.AV.undef :: (Go.Proofs.Ytpcohpkflkhfbaa.Rx.AV.undef :: (Go.Proofs.Ytpcohpkflkhfbaa.Rx.AV.undef :: (Go.Proofs.Ytpcohpkflkhfbaa.Rx.AV.undef :: (Go.Proofs.Ytpcohpkflkhfbaa.Rx.AV.undef :: (Go.Proofs.Ytpcohpkflkhfbaa.Rx.AV.undef :: []))))))))))))))))))))) [])
noncomputable def st68_top (n : Nat) (lL2 : (List Int) → Int → Int → Option R68) (a : List Int) (b : Int) : Option R68 :=
  lL2 (a) (b) ((0 : Int))
noncomputable def st68_L2 (n : Nat) (lL2 : (List Int) → Int → Int → Option R68) (x0 : List Int) (x1 : Int) (x2 : Int) : Option R68 :=
  cond (decide (x2 < (↑x0.length : Int))) (cond (decide ((0 : Int) ≤ x2)) (cond (decide (x2 < (↑x0.length : Int))) (cond (!decide (x0.getD x2.toNat (0 : Int) = x1)) (some (((-1 : Int), ()), ())) (lL2 (x0) (Go.IntKind.i64.wrap (x1 + (1 : Int))) (Go.IntKind.i64.wrap (x2 + (1 : Int))))) (none)) (none)) (some ((x1, ()), ()))
theorem e68_top (n : Nat) (a : List Int) (b : Int) : runF TT G68 an68 Try.f68 c68 ps68 rs68 n (a, b, ()) = st68_top n (fun x0 x1 x2 => at68 n (.head 2) [n] (sh68_L2 x0 x1 x2)) a b := by kernel_rfl
theorem e68_L2_0 (n : Nat) (x0 : List Int) (x1 : Int) (x2 : Int) : at68 n (.head 2) [0] (sh68_L2 x0 x1 x2) = none := by kernel_rfl
theorem e68_L2 (n : Nat) (m2 : Nat) (x0 : List Int) (x1 : Int) (x2 : Int) : at68 n (.head 2) [m2 + 1] (sh68_L2 x0 x1 x2) = st68_L2 n (fun x0 x1 x2 => at68 n (.head 2) [m2] (sh68_L2 x0 x1 x2)) x0 x1 x2 := by kernel_rfl
noncomputable def p68_L2 (n : Nat) : Nat → (List Int) → Int → Int → Option R68
  | 0, _, _, _ => none
  | m + 1, x0, x1, x2 => st68_L2 n (p68_L2 n m) x0 x1 x2
noncomputable def p68 (n : Nat) (a : List Int) (b : Int) : Option R68 := st68_top n (p68_L2 n n) a b
theorem t68_L2 (n : Nat) : ∀ (m2 : Nat) (x0 : List Int) (x1 : Int) (x2 : Int), at68 n (.head 2) [m2] (sh68_L2 x0 x1 x2) = p68_L2  n m2 x0 x1 x2 := by
  intro m
  induction m with
  | zero => intros; rw [e68_L2_0]; rfl
  | succ m ih =>
    intros
    rw [e68_L2]
    simp only [ih]
    rfl
theorem F68_eq (n : Nat) (a : List Int) (b : Int) : runF TT G68 an68 Try.f68 c68 ps68 rs68 n (a, b, ()) = p68 n a b := by
  rw [e68_top]
  simp only [t68_L2]
  try rfl
noncomputable def q68 (n : Nat) (x : argsD ps68) : Option R68 := p68 n x.1 x.2.1
noncomputable def Sm68 : Sm := ⟨ps68, rs68, false, q68⟩
theorem holds68 (hg : GamOK Try.prog G68) : Holds Try.prog 68 Sm68 := by
  have := h0_68 hg
  have e : (runF TT G68 an68 Try.f68 c68 ps68 rs68) = q68 := by
    funext n x
    exact F68_eq n x.1 x.2.1
  rw [e] at this
  exact this
theorem gam68 : GamOK Try.prog G68 := fun _ _ h => by cases h
theorem hh68 : Holds Try.prog 68 Sm68 := holds68 gam68
end Go.Proofs.Ytpcohpkflkhfbaa.Rx.S
namespace Go.Proofs.Ytpcohpkflkhfbaa.Rx.S
open Go Go.RowKit Go.Proofs
set_option maxRecDepth 100000
noncomputable def c90 : Code := (Try.f90.body.getD .skip)
def an90 : An := ⟨fun r => match r with | 2 => ⟨[0, 1, 5], []⟩ | _ => ⟨[], []⟩, fun _ _ => none⟩
abbrev ps90 : List PK := [.val (.row 51 tTh) false, .val i64 false]
abbrev rs90 : List RK := [.val i64 false]
abbrev R90 := retsD rs90 × outsD ps90
noncomputable def G90 : Gam := fun _ => none
theorem h0_90 (hg : GamOK Try.prog G90) : Holds Try.prog 90 ⟨ps90, rs90, false, runF TT G90 an90 Try.f90 c90 ps90 rs90⟩ := holds_of tt_ok hg mixed Try.func90 (by kernel_rfl) (by rfl) (by decide +kernel)
noncomputable def at90 : Nat → Pt → List Nat → St → Option R90 := atF TT G90 an90 Try.f90 c90 _ _
def sh90_L2 (x0 : List (Int × Int × Int × Bool)) (x1 : Int) (x2 : Int) : St := (Go.Proofs.Ytpcohpkflkhfbaa.Rx.St.mk ((Go.Proofs.Ytpcohpkflkhfbaa.Rx.AV.one (Go.Proofs.Ytpcohpkflkhfbaa.Rx.SV.con (⟨51, (Go.Proofs.Ytpcohpkflkhfbaa.Rx.Ty.int Go.IntKind.i64).pair   ((Go.Proofs.Ytpcohpkflkhfbaa.Rx.Ty.int Go.IntKind.i64).pair ((Go.Proofs.Ytpcohpkflkhfbaa.Rx.Ty.int Go.IntKind.i64).pair Go.Proofs.Ytpcohpkflkhfbaa.Rx.Ty.bool)), x0⟩ : Rw))) :: ((Go.Proofs.Ytpcohpkflkhfbaa.Rx.AV.one (Go.Proofs.Ytpcohpkflkhfbaa.Rx.SV.int (Go.IntKind.i64) x1)) :: (Go.Proofs.Ytpcohpkflkhfbaa.Rx.AV.undef :: (Go.Proofs.Ytpcohpkflkhfbaa.Rx.AV.undef :: (Go.Proofs.Ytpcohpkflkhfbaa.Rx.AV.undef :: ((Go.Proofs.Ytpcohpkflkhfbaa.Rx.AV.one (Go.Proofs.Ytpcohpkflkhfbaa.Rx.SV.int (Go.IntKind.i64) x2)) :: (Go.Proofs.Ytpcohpkflkhfbaa.Rx.AV.undef :: (Go.Proofs.Ytpcohpkflkhfbaa.Rx.AV.undef :: (Go.Proofs.Ytpcohpkflkhfbaa.Rx.AV.undef :: (Go.Proofs.Ytpcohpkflkhfbaa.Rx.AV.undef :: (Go.Proofs.Ytpcohpkflkhfbaa.Rx.AV.undef :: (Go.Proofs.Ytpcohpkflkhfbaa.Rx.AV.undef :: (Go.Proofs.Ytpcohpkflkhfbaa.Rx.AV.undef :: (Go.Proofs.Ytpcohpkflkhfbaa.Rx.AV.undef :: (Go.Proofs.Ytpcohpkflkhfbaa.Rx.AV.undef :: (Go.Proofs.Ytpcohpkflkhfbaa.Rx.AV.undef :: (Go.Proofs.Ytpcohpkflkhfbaa.Rx.AV.undef :: (Go.Proofs.Ytpcohpkflkhfbaa.Rx.AV.undef :: (Go.Proofs.Ytpcohpkflkhfbaa.Rx.AV.undef :: (Go.Proofs.Ytpcohpkflkhfbaa.Rx.AV.undef :: (Go.Proofs.Ytpcohpkflkhfbaa.Rx.AV.undef :: (Go.Proofs.Ytpcohpkflkhfbaa.Rx.AV.undef :: (Go.Proofs.Ytpcohpkflkhfbaa.Rx.AV.undef :: (Go.Proofs.Ytpcohpkflkhfbaa.Rx.AV.undef :: (Go.Proofs.Ytpcohpkflkhfbaa.Rx.AV.undef :: (Go.Proofs.Ytpcohpkflkhfbaa.Rx.AV.undef :: (Go.Proofs.Ytpcohpkflkhfbaa.Rx.AV.undef :: (Go.Proofs.Ytpcohpkflkhfbaa.Rx.AV.undef :: (Go.Proofs.Ytpcohpkflkhfbaa.Rx.AV.undef :: (Go.Proofs.Ytpcohpkflkhfbaa.Rx.AV.undef :: (Go.Proofs.Ytpcohpkflkhfbaa.Rx.AV.undef :: (Go.Proofs.Ytpcohpkflkhfbaa.Rx.AV.undef :: (Go.Proofs.Ytpcohpkflkhfbaa.Rx.AV.undef :: (Go.Proofs.Ytpcohpkflkhfbaa.Rx.AV.undef :: (Go.Proofs.Ytpcohpkflkhfbaa.Rx.AV.undef :: (Go.Proofs.Ytpcohpkflkhfbaa.Rx.AV.undef :: (Go.Proofs.Ytpcohpkflkhfbaa.Rx.AV.undef :: (Go.Proofs.Ytpcohpkflkhfbaa.Rx.AV.undef :: (Go.Proofs.Ytpcohpkflkhfbaa.Rx.AV.undef :: (Go.Proofs.Ytpcohpkflkhfbaa.Rx.AV.undef :: (Go.Proofs.Ytpcohpkflkhfbaa.Rx.AV.undef :: (Go.Proofs.Ytpcohpkflkhfbaa.Rx.AV.undef :: (Go.Proofs.Ytpcohpkflkhfbaa.Rx.AV.undef :: (Go.Proofs.Ytpcohpkflkhfbaa.Rx.AV.undef :: (Go.Proofs.Ytpcohpkflkhfbaa.Rx.AV.undef :: (Go.Proofs.Ytpcohpkflkhfbaa.Rx.AV.undef :: (Go.Proofs.Ytpcohpkflkhfbaa.Rx.AV.undef :: (Go.Proofs.Ytpcohpkflkhfbaa.Rx.AV.undef :: (Go.Proofs.Ytpcohpkflkhfbaa.Rx.AV.undef :: (Go.Proofs.Ytpcohpkflkhfbaa.Rx.AV.undef :: (Go.Proofs.Ytpcohpkflkhfbaa.Rx.AV.undef :: []))))))))))))))))))))))))))))))))))))))))))))))))))) [])
noncomputable def st90_top (n : Nat) (lL2 : (List (Int × Int × Int × Bool)) → Int → Int → Option R90) (a : List (Int × Int × Int × Bool)) (b : Int) : Option R90 :=
  lL2 (a) (b) ((0 : Int))
noncomputable def st90_L2 (n : Nat) (lL2 : (List (Int × Int × Int × Bool)) → Int → Int → Option R90) (x0 : List (Int × Int × Int × Bool)) (x1 : Int) (x2 : Int) : Option R90 :=
  cond (decide (x2 < (↑x0.length : Int))) (cond (decide ((0 : Int) ≤ x2)) (cond (decide (x2 < (↑x0.length : Int))) (cond (!decide ((x0.getD x2.toNat ((0 : Int), (0 : Int), (0 : Int), false)).fst = x1)) (some (((-1 : Int), ()), ())) (cond (decide ((0 : Int) ≤ x2)) (cond (decide (x2 < (↑x0.length : Int))) (cond (!decide ((x0.getD x2.toNat ((0 : Int), (0 : Int), (0 : Int), false)).snd.fst = Go.IntKind.i64.wrap (x1 + (1 : Int)))) (some (((-1 : Int), ()), ())) (cond (decide ((0 : Int) ≤ x2)) (cond (decide (x2 < (↑x0.length : Int))) (cond (!decide     ((x0.getD x2.toNat ((0 : Int), (0 : Int), (0 : Int), false)).snd.snd.fst =       Go.IntKind.i64.wrap (Go.IntKind.i64.wrap (x1 + (1 : Int)) + (1 : Int)))) (some (((-1 : Int), ()), ())) (cond (decide ((0 : Int) ≤ x2)) (cond (decide (x2 < (↑x0.length : Int))) (cond (!(x0.getD x2.toNat ((0 : Int), (0 : Int), (0 : Int), false)).snd.snd.snd ==     decide       ((Go.IntKind.i64.wrap (Go.IntKind.i64.wrap (Go.IntKind.i64.wrap (x1 + (1 : Int)) + (1 : Int)) + (1 : Int))).tmod           (3 : Int) =         (0 : Int))) (some (((-1 : Int), ()), ())) (lL2 (x0) (Go.IntKind.i64.wrap   (Go.IntKind.i64.wrap (Go.IntKind.i64.wrap (Go.IntKind.i64.wrap (x1 + (1 : Int)) + (1 : Int)) + (1 : Int)) + (1 : Int))) (Go.IntKind.i64.wrap (x2 + (1 : Int))))) (none)) (none))) (none)) (none))) (none)) (none))) (none)) (none)) (some ((x1, ()), ()))
theorem e90_top (n : Nat) (a : List (Int × Int × Int × Bool)) (b : Int) : runF TT G90 an90 Try.f90 c90 ps90 rs90 n (a, b, ()) = st90_top n (fun x0 x1 x2 => at90 n (.head 2) [n] (sh90_L2 x0 x1 x2)) a b := by kernel_rfl
theorem e90_L2_0 (n : Nat) (x0 : List (Int × Int × Int × Bool)) (x1 : Int) (x2 : Int) : at90 n (.head 2) [0] (sh90_L2 x0 x1 x2) = none := by kernel_rfl
theorem e90_L2 (n : Nat) (m2 : Nat) (x0 : List (Int × Int × Int × Bool)) (x1 : Int) (x2 : Int) : at90 n (.head 2) [m2 + 1] (sh90_L2 x0 x1 x2) = st90_L2 n (fun x0 x1 x2 => at90 n (.head 2) [m2] (sh90_L2 x0 x1 x2)) x0 x1 x2 := by kernel_rfl
noncomputable def p90_L2 (n : Nat) : Nat → (List (Int × Int × Int × Bool)) → Int → Int → Option R90
  | 0, _, _, _ => none
  | m + 1, x0, x1, x2 => st90_L2 n (p90_L2 n m) x0 x1 x2
noncomputable def p90 (n : Nat) (a : List (Int × Int × Int × Bool)) (b : Int) : Option R90 := st90_top n (p90_L2 n n) a b
theorem t90_L2 (n : Nat) : ∀ (m2 : Nat) (x0 : List (Int × Int × Int × Bool)) (x1 : Int) (x2 : Int), at90 n (.head 2) [m2] (sh90_L2 x0 x1 x2) = p90_L2  n m2 x0 x1 x2 := by
  intro m
  induction m with
  | zero => intros; rw [e90_L2_0]; rfl
  | succ m ih =>
    intros
    rw [e90_L2]
    simp only [ih]
    rfl
theorem F90_eq (n : Nat) (a : List (Int × Int × Int × Bool)) (b : Int) : runF TT G90 an90 Try.f90 c90 ps90 rs90 n (a, b, ()) = p90 n a b := by
  rw [e90_top]
  simp only [t90_L2]
  try rfl
noncomputable def q90 (n : Nat) (x : argsD ps90) : Option R90 := p90 n x.1 x.2.1
noncomputable def Sm90 : Sm := ⟨ps90, rs90, false, q90⟩
theorem holds90 (hg : GamOK Try.prog G90) : Holds Try.prog 90 Sm90 := by
  have := h0_90 hg
  have e : (runF TT G90 an90 Try.f90 c90 ps90 rs90) = q90 := by
    funext n x
    exact F90_eq n x.1 x.2.1
  rw [e] at this
  exact this
theorem gam90 : GamOK Try.prog G90 := fun _ _ h => by cases h
theorem hh90 : Holds Try.prog 90 Sm90 := holds90 gam90
end Go.Proofs.Ytpcohpkflkhfbaa.Rx.S
namespace Go.Proofs.Ytpcohpkflkhfbaa.Rx.S
open Go Go.RowKit Go.Proofs
set_option maxRecDepth 100000
noncomputable def c39 : Code := (Try.f39.body.getD .skip)
def an39 : An := ⟨fun _ => ⟨[], []⟩, fun _ _ => none⟩
abbrev ps39 : List PK := [.val tLock true, .val i64 false]
abbrev rs39 : List RK := [.val i64 false]
abbrev R39 := retsD rs39 × outsD ps39
noncomputable def G39 : Gam := fun f => match f with | 68 => some Sm68 | 90 => some Sm90 | _ => none
theorem h0_39 (hg : GamOK Try.prog G39) : Holds Try.prog 39 ⟨ps39, rs39, false, runF TT G39 an39 Try.f39 c39 ps39 rs39⟩ := holds_of tt_ok hg mixed Try.func39 (by kernel_rfl) (by rfl) (by decide +kernel)
noncomputable def at39 : Nat → Pt → List Nat → St → Option R39 := atF TT G39 an39 Try.f39 c39 _ _
noncomputable def st39_top (n : Nat)  (a : Int × List (Int × Int × Int × Bool) × List Int) (b : Int) : Option R39 :=
  (Go.Proofs.Ytpcohpkflkhfbaa.Rx.S.q90 n (a.snd.fst, b, ())).bind fun r0 => cond (decide (r0.fst.fst < (0 : Int))) (some (((-1 : Int), ()), ())) ((Go.Proofs.Ytpcohpkflkhfbaa.Rx.S.q68 n (a.snd.snd, r0.fst.fst, ())).bind fun r1 => cond (decide (r1.fst.fst < (0 : Int))) (some (((-1 : Int), ()), ())) (some ((r1.fst.fst, ()), ())))
theorem e39_top (n : Nat) (a : Int × List (Int × Int × Int × Bool) × List Int) (b : Int) : runF TT G39 an39 Try.f39 c39 ps39 rs39 n (a, b, ()) = st39_top n  a b := by kernel_rfl
noncomputable def p39 (n : Nat) (a : Int × List (Int × Int × Int × Bool) × List Int) (b : Int) : Option R39 := st39_top n  a b
theorem F39_eq (n : Nat) (a : Int × List (Int × Int × Int × Bool) × List Int) (b : Int) : runF TT G39 an39 Try.f39 c39 ps39 rs39 n (a, b, ()) = p39 n a b := by
  rw [e39_top]
  skip
  try rfl
noncomputable def q39 (n : Nat) (x : argsD ps39) : Option R39 := p39 n x.1 x.2.1
noncomputable def Sm39 : Sm := ⟨ps39, rs39, false, q39⟩
theorem holds39 (hg : GamOK Try.prog G39) : Holds Try.prog 39 Sm39 := by
  have := h0_39 hg
  have e : (runF TT G39 an39 Try.f39 c39 ps39 rs39) = q39 := by
    funext n x
    exact F39_eq n x.1 x.2.1
  rw [e] at this
  exact this
theorem gam39 : GamOK Try.prog G39 := by
  intro f s h
  unfold G39 at h
  split at h
  · injection h with h; subst h; exact ⟨⟨Try.f68, c68, Try.func68, by kernel_rfl, by decide +kernel⟩, hh68⟩
  · injection h with h; subst h; exact ⟨⟨Try.f90, c90, Try.func90, by kernel_rfl, by decide +kernel⟩, hh90⟩
  · cases h
theorem hh39 : Holds Try.prog 39 Sm39 := holds39 gam39
end Go.Proofs.Ytpcohpkflkhfbaa.Rx.S
namespace Go.Proofs.Ytpcohpkflkhfbaa.Rx.S
open Go Go.RowKit Go.Proofs
set_option maxRecDepth 100000
noncomputable def c9 : Code := (Try.f9.body.getD .skip)
def an9 : An := ⟨fun _ => ⟨[], []⟩, fun _ _ => none⟩
abbrev ps9 : List PK := [.val (.pair i64 (.pair (.row 127 tTh) (.row 3 i64))) true, .val i64 false]
abbrev rs9 : List RK := [.val .bool false]
abbrev R9 := retsD rs9 × outsD ps9
noncomputable def G9 : Gam := fun f => match f with | 28 => some Sm28 | 29 => some Sm29 | 35 => some Sm35 | 36 => some Sm36 | 37 => some Sm37 | 38 => some Sm38 | 39 => some Sm39 | _ => none
theorem h0_9 (hg : GamOK Try.prog G9) : Holds Try.prog 9 ⟨ps9, rs9, false, runF TT G9 an9 Try.f9 c9 ps9 rs9⟩ := holds_of tt_ok hg mixed Try.func9 (by kernel_rfl) (by rfl) (by decide +kernel)
noncomputable def at9 : Nat → Pt → List Nat → St → Option R9 := atF TT G9 an9 Try.f9 c9 _ _
noncomputable def st9_top (n : Nat)  (a : Int × List (Int × Int × Int × Bool) × List Int) (b : Int) : Option R9 :=
  (Go.Proofs.Ytpcohpkflkhfbaa.Rx.S.q35 n ((a.fst, a.snd.fst, a.snd.snd), (1048576 : Int), ())).bind fun r0 => cond (decide (r0.fst.fst < (0 : Int))) (some ((true, ()), ())) ((Go.Proofs.Ytpcohpkflkhfbaa.Rx.S.q36 n ((a.fst, a.snd.fst, a.snd.snd), ())).bind fun r1 => (Go.Proofs.Ytpcohpkflkhfbaa.Rx.S.q29 n ((r1.fst.fst.fst, r1.fst.fst.snd.fst, r1.fst.fst.snd.snd), b, ())).bind fun r2 => (Go.Proofs.Ytpcohpkflkhfbaa.Rx.S.q36 n ((a.fst, a.snd.fst, a.snd.snd), ())).bind fun r3 => (Go.Proofs.Ytpcohpkflkhfbaa.Rx.S.q28 n ((r3.fst.fst.fst, r3.fst.fst.snd.fst, r3.fst.fst.snd.snd), b, ())).bind fun r4 => (Go.Proofs.Ytpcohpkflkhfbaa.Rx.S.q37 n   ((r4.fst.fst.fst, r4.fst.fst.snd.fst, r4.fst.fst.snd.snd), (r2.fst.fst.fst, r2.fst.fst.snd.fst, r2.fst.fst.snd.snd),     ())).bind fun r5 => cond (!r5.fst.fst) (some ((false, ()), ())) (cond (!r4.fst.snd.fst == r2.fst.snd.fst) (some ((false, ()), ())) ((Go.Proofs.Ytpcohpkflkhfbaa.Rx.S.q36 n ((a.fst, a.snd.fst, a.snd.snd), ())).bind fun r6 => (Go.Proofs.Ytpcohpkflkhfbaa.Rx.S.q37 n   ((r3.fst.fst.fst, r3.fst.fst.snd.fst, r3.fst.fst.snd.snd), (r6.fst.fst.fst, r6.fst.fst.snd.fst, r6.fst.fst.snd.snd),     ())).bind fun r7 => cond (!r7.fst.fst) (some ((false, ()), ())) ((Go.Proofs.Ytpcohpkflkhfbaa.Rx.S.q38 n ((r3.fst.fst.fst, r3.fst.fst.snd.fst, r3.fst.fst.snd.snd), (1 : Int), ())).bind fun r8 => cond (decide (r8.fst.fst < (0 : Int))) (some ((false, ()), ())) ((Go.Proofs.Ytpcohpkflkhfbaa.Rx.S.q37 n   ((r4.fst.fst.fst, r4.fst.fst.snd.fst, r4.fst.fst.snd.snd), (r2.fst.fst.fst, r2.fst.fst.snd.fst, r2.fst.fst.snd.snd),     ())).bind fun r9 => cond (!r9.fst.fst) (some ((false, ()), ())) (cond (!r4.fst.snd.fst == r2.fst.snd.fst) (some ((false, ()), ())) ((Go.Proofs.Ytpcohpkflkhfbaa.Rx.S.q38 n ((r4.fst.fst.fst, r4.fst.fst.snd.fst, r4.fst.fst.snd.snd), (1 : Int), ())).bind fun r10 => (Go.Proofs.Ytpcohpkflkhfbaa.Rx.S.q39 n ((r4.fst.fst.fst, r10.snd.fst.snd.fst, r10.snd.fst.snd.snd), (1 : Int), ())).bind fun r11 => cond (decide (r11.fst.fst < (0 : Int))) (some ((false, ()), ())) (cond (!decide (r11.fst.fst = r10.fst.fst)) (some ((false, ()), ())) ((Go.Proofs.Ytpcohpkflkhfbaa.Rx.S.q36 n ((a.fst, a.snd.fst, a.snd.snd), ())).bind fun r12 => (Go.Proofs.Ytpcohpkflkhfbaa.Rx.S.q28 n ((r12.fst.fst.fst, r12.fst.fst.snd.fst, r12.fst.fst.snd.snd), b, ())).bind fun r13 => (Go.Proofs.Ytpcohpkflkhfbaa.Rx.S.q37 n   ((r13.fst.fst.fst, r13.fst.fst.snd.fst, r13.fst.fst.snd.snd),     (r2.fst.fst.fst, r2.fst.fst.snd.fst, r2.fst.fst.snd.snd), ())).bind fun r14 => cond (!r14.fst.fst) (some ((false, ()), ())) (cond (!r13.fst.snd.fst == r2.fst.snd.fst) (some ((false, ()), ())) ((Go.Proofs.Ytpcohpkflkhfbaa.Rx.S.q39 n ((r4.fst.fst.fst, r10.snd.fst.snd.fst, r10.snd.fst.snd.snd), (1 : Int), ())).bind fun r15 => cond (decide (r15.fst.fst < (0 : Int))) (some ((false, ()), ())) (cond (!decide (r15.fst.fst = r10.fst.fst)) (some ((false, ()), ())) (some ((true, ()), ()))))))))))))))
theorem e9_top (n : Nat) (a : Int × List (Int × Int × Int × Bool) × List Int) (b : Int) : runF TT G9 an9 Try.f9 c9 ps9 rs9 n (a, b, ()) = st9_top n  a b := by kernel_rfl
noncomputable def p9 (n : Nat) (a : Int × List (Int × Int × Int × Bool) × List Int) (b : Int) : Option R9 := st9_top n  a b
theorem F9_eq (n : Nat) (a : Int × List (Int × Int × Int × Bool) × List Int) (b : Int) : runF TT G9 an9 Try.f9 c9 ps9 rs9 n (a, b, ()) = p9 n a b := by
  rw [e9_top]
  skip
  try rfl
noncomputable def q9 (n : Nat) (x : argsD ps9) : Option R9 := p9 n x.1 x.2.1
noncomputable def Sm9 : Sm := ⟨ps9, rs9, false, q9⟩
theorem holds9 (hg : GamOK Try.prog G9) : Holds Try.prog 9 Sm9 := by
  have := h0_9 hg
  have e : (runF TT G9 an9 Try.f9 c9 ps9 rs9) = q9 := by
    funext n x
    exact F9_eq n x.1 x.2.1
  rw [e] at this
  exact this
theorem gam9 : GamOK Try.prog G9 := by
  intro f s h
  unfold G9 at h
  split at h
  · injection h with h; subst h; exact ⟨⟨Try.f28, c28, Try.func28, by kernel_rfl, by decide +kernel⟩, hh28⟩
  · injection h with h; subst h; exact ⟨⟨Try.f29, c29, Try.func29, by kernel_rfl, by decide +kernel⟩, hh29⟩
  · injection h with h; subst h; exact ⟨⟨Try.f35, c35, Try.func35, by kernel_rfl, by decide +kernel⟩, hh35⟩
  · injection h with h; subst h; exact ⟨⟨Try.f36, c36, Try.func36, by kernel_rfl, by decide +kernel⟩, hh36⟩
  · injection h with h; subst h; exact ⟨⟨Try.f37, c37, Try.func37, by kernel_rfl, by decide +kernel⟩, hh37⟩
  · injection h with h; subst h; exact ⟨⟨Try.f38, c38, Try.func38, by kernel_rfl, by decide +kernel⟩, hh38⟩
  · injection h with h; subst h; exact ⟨⟨Try.f39, c39, Try.func39, by kernel_rfl, by decide +kernel⟩, hh39⟩
  · cases h
theorem hh9 : Holds Try.prog 9 Sm9 := holds9 gam9
end Go.Proofs.Ytpcohpkflkhfbaa.Rx.S
namespace Go.Proofs.Ytpcohpkflkhfbaa.Rx.S
open Go Go.RowKit Go.Proofs
set_option maxRecDepth 100000
noncomputable def c10 : Code := (Try.f10.body.getD .skip)
def an10 : An := ⟨fun _ => ⟨[], []⟩, fun _ _ => none⟩
abbrev ps10 : List PK := [.val (.pair i64 (.pair (.row 127 tTh) (.row 3 i64))) true, .val (.row 3 i64) false]
abbrev rs10 : List RK := [.val .bool false]
abbrev R10 := retsD rs10 × outsD ps10
noncomputable def G10 : Gam := fun f => match f with | 25 => some Sm25 | 34 => some Sm34 | 35 => some Sm35 | 36 => some Sm36 | 37 => some Sm37 | 38 => some Sm38 | 39 => some Sm39 | 40 => some Sm40 | 41 => some Sm41 | 42 => some Sm42 | _ => none
theorem h0_10 (hg : GamOK Try.prog G10) : Holds Try.prog 10 ⟨ps10, rs10, false, runF TT G10 an10 Try.f10 c10 ps10 rs10⟩ := holds_of tt_ok hg mixed Try.func10 (by kernel_rfl) (by rfl) (by decide +kernel)
noncomputable def at10 : Nat → Pt → List Nat → St → Option R10 := atF TT G10 an10 Try.f10 c10 _ _
noncomputable def st10_top (n : Nat)  (a : Int × List (Int × Int × Int × Bool) × List Int) (b : List Int) : Option R10 :=
  cond (decide ((1048576 : Int) < (↑b.length : Int))) (some ((true, ()), ())) ((Go.Proofs.Ytpcohpkflkhfbaa.Rx.S.q35 n ((a.fst, a.snd.fst, a.snd.snd), (1048576 : Int), ())).bind fun r0 => cond (decide (r0.fst.fst < (0 : Int))) (some ((true, ()), ())) ((Go.Proofs.Ytpcohpkflkhfbaa.Rx.S.q36 n ((a.fst, a.snd.fst, a.snd.snd), ())).bind fun r1 => (Go.Proofs.Ytpcohpkflkhfbaa.Rx.S.q40 n (b, ())).bind fun r2 => (Go.Proofs.Ytpcohpkflkhfbaa.Rx.S.q34 n ((r1.fst.fst.fst, r1.fst.fst.snd.fst, r1.fst.fst.snd.snd), r2.fst.fst, ())).bind fun r3 => (Go.Proofs.Ytpcohpkflkhfbaa.Rx.S.q36 n ((a.fst, a.snd.fst, a.snd.snd), ())).bind fun r4 => (Go.Proofs.Ytpcohpkflkhfbaa.Rx.S.q40 n (b, ())).bind fun r5 => (Go.Proofs.Ytpcohpkflkhfbaa.Rx.S.q25 n ((r4.fst.fst.fst, r4.fst.fst.snd.fst, r4.fst.fst.snd.snd), r5.fst.fst, ())).bind fun r6 => (Go.Proofs.Ytpcohpkflkhfbaa.Rx.S.q37 n   ((r6.fst.fst.fst, r6.fst.fst.snd.fst, r6.fst.fst.snd.snd), (r3.fst.fst.fst, r3.fst.fst.snd.fst, r3.fst.fst.snd.snd),     ())).bind fun r7 => cond (!r7.fst.fst) (some ((false, ()), ())) (cond (!decide (r6.fst.snd.fst = r3.fst.snd.fst)) (some ((false, ()), ())) ((Go.Proofs.Ytpcohpkflkhfbaa.Rx.S.q36 n ((a.fst, a.snd.fst, a.snd.snd), ())).bind fun r8 => (Go.Proofs.Ytpcohpkflkhfbaa.Rx.S.q37 n   ((r4.fst.fst.fst, r4.fst.fst.snd.fst, r4.fst.fst.snd.snd), (r8.fst.fst.fst, r8.fst.fst.snd.fst, r8.fst.fst.snd.snd),     ())).bind fun r9 => cond (!r9.fst.fst) (some ((false, ()), ())) ((Go.Proofs.Ytpcohpkflkhfbaa.Rx.S.q40 n (b, ())).bind fun r10 => (Go.Proofs.Ytpcohpkflkhfbaa.Rx.S.q41 n (r5.fst.fst, r10.fst.fst, ())).bind fun r11 => cond (!r11.fst.fst) (some ((false, ()), ())) ((Go.Proofs.Ytpcohpkflkhfbaa.Rx.S.q38 n ((r4.fst.fst.fst, r4.fst.fst.snd.fst, r4.fst.fst.snd.snd), (1 : Int), ())).bind fun r12 => (Go.Proofs.Ytpcohpkflkhfbaa.Rx.S.q42 n (r5.fst.fst, r12.fst.fst, ())).bind fun r13 => cond (decide (r13.fst.fst < (0 : Int))) (some ((false, ()), ())) ((Go.Proofs.Ytpcohpkflkhfbaa.Rx.S.q37 n   ((r6.fst.fst.fst, r6.fst.fst.snd.fst, r6.fst.fst.snd.snd), (r3.fst.fst.fst, r3.fst.fst.snd.fst, r3.fst.fst.snd.snd),     ())).bind fun r14 => cond (!r14.fst.fst) (some ((false, ()), ())) (cond (!decide (r6.fst.snd.fst = r3.fst.snd.fst)) (some ((false, ()), ())) ((Go.Proofs.Ytpcohpkflkhfbaa.Rx.S.q38 n ((r6.fst.fst.fst, r6.fst.fst.snd.fst, r6.fst.fst.snd.snd), (1 : Int), ())).bind fun r15 => (Go.Proofs.Ytpcohpkflkhfbaa.Rx.S.q39 n ((r6.fst.fst.fst, r15.snd.fst.snd.fst, r15.snd.fst.snd.snd), (1 : Int), ())).bind fun r16 => cond (decide (r16.fst.fst < (0 : Int))) (some ((false, ()), ())) (cond (!decide (r16.fst.fst = r15.fst.fst)) (some ((false, ()), ())) ((Go.Proofs.Ytpcohpkflkhfbaa.Rx.S.q36 n ((a.fst, a.snd.fst, a.snd.snd), ())).bind fun r17 => (Go.Proofs.Ytpcohpkflkhfbaa.Rx.S.q40 n (b, ())).bind fun r18 => (Go.Proofs.Ytpcohpkflkhfbaa.Rx.S.q25 n ((r17.fst.fst.fst, r17.fst.fst.snd.fst, r17.fst.fst.snd.snd), r18.fst.fst, ())).bind fun r19 => (Go.Proofs.Ytpcohpkflkhfbaa.Rx.S.q37 n   ((r19.fst.fst.fst, r19.fst.fst.snd.fst, r19.fst.fst.snd.snd),     (r3.fst.fst.fst, r3.fst.fst.snd.fst, r3.fst.fst.snd.snd), ())).bind fun r20 => cond (!r20.fst.fst) (some ((false, ()), ())) (cond (!decide (r19.fst.snd.fst = r3.fst.snd.fst)) (some ((false, ()), ())) ((Go.Proofs.Ytpcohpkflkhfbaa.Rx.S.q39 n ((r6.fst.fst.fst, r15.snd.fst.snd.fst, r15.snd.fst.snd.snd), (1 : Int), ())).bind fun r21 => cond (decide (r21.fst.fst < (0 : Int))) (some ((false, ()), ())) (cond (!decide (r21.fst.fst = r15.fst.fst)) (some ((false, ()), ())) (some ((true, ()), ()))))))))))))))))
theorem e10_top (n : Nat) (a : Int × List (Int × Int × Int × Bool) × List Int) (b : List Int) : runF TT G10 an10 Try.f10 c10 ps10 rs10 n (a, b, ()) = st10_top n  a b := by kernel_rfl
noncomputable def p10 (n : Nat) (a : Int × List (Int × Int × Int × Bool) × List Int) (b : List Int) : Option R10 := st10_top n  a b
theorem F10_eq (n : Nat) (a : Int × List (Int × Int × Int × Bool) × List Int) (b : List Int) : runF TT G10 an10 Try.f10 c10 ps10 rs10 n (a, b, ()) = p10 n a b := by
  rw [e10_top]
  skip
  try rfl
noncomputable def q10 (n : Nat) (x : argsD ps10) : Option R10 := p10 n x.1 x.2.1
noncomputable def Sm10 : Sm := ⟨ps10, rs10, false, q10⟩
theorem holds10 (hg : GamOK Try.prog G10) : Holds Try.prog 10 Sm10 := by
  have := h0_10 hg
  have e : (runF TT G10 an10 Try.f10 c10 ps10 rs10) = q10 := by
    funext n x
    exact F10_eq n x.1 x.2.1
  rw [e] at this
  exact this
theorem gam10 : GamOK Try.prog G10 := by
  intro f s h
  unfold G10 at h
  split at h
  · injection h with h; subst h; exact ⟨⟨Try.f25, c25, Try.func25, by kernel_rfl, by decide +kernel⟩, hh25⟩
  · injection h with h; subst h; exact ⟨⟨Try.f34, c34, Try.func34, by kernel_rfl, by decide +kernel⟩, hh34⟩
  · injection h with h; subst h; exact ⟨⟨Try.f35, c35, Try.func35, by kernel_rfl, by decide +kernel⟩, hh35⟩
  · injection h with h; subst h; exact ⟨⟨Try.f36, c36, Try.func36, by kernel_rfl, by decide +kernel⟩, hh36⟩
  · injection h with h; subst h; exact ⟨⟨Try.f37, c37, Try.func37, by kernel_rfl, by decide +kernel⟩, hh37⟩
  · injection h with h; subst h; exact ⟨⟨Try.f38, c38, Try.func38, by kernel_rfl, by decide +kernel⟩, hh38⟩
  · injection h with h; subst h; exact ⟨⟨Try.f39, c39, Try.func39, by kernel_rfl, by decide +kernel⟩, hh39⟩
  · injection h with h; subst h; exact ⟨⟨Try.f40, c40, Try.func40, by kernel_rfl, by decide +kernel⟩, hh40⟩
  · injection h with h; subst h; exact ⟨⟨Try.f41, c41, Try.func41, by kernel_rfl, by decide +kernel⟩, hh41⟩
  · injection h with h; subst h; exact ⟨⟨Try.f42, c42, Try.func42, by kernel_rfl, by decide +kernel⟩, hh42⟩
  · cases h
theorem hh10 : Holds Try.prog 10 Sm10 := holds10 gam10
end Go.Proofs.Ytpcohpkflkhfbaa.Rx.S
