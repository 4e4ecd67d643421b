/- What the functions of this seat compute, each as a plain function on lists and numbers, with the proof that a call answers so. No condition. -/
import Derived.Test.YtpcohpkflkhfbaaGQaF0
namespace Go.Proofs.Ytpcohpkflkhfbaa.Rx.S
open Go Go.RowKit Go.Proofs
set_option maxRecDepth 100000
noncomputable def c31 : Code := (Try.f31.body.getD .skip)
def an31 : An := ⟨fun r => match r with | 4 => ⟨[1, 15, 16], []⟩ | _ => ⟨[], []⟩, fun _ _ => none⟩
abbrev ps31 : List PK := [.val tLock true]
abbrev rs31 : List RK := [.val .bool false]
abbrev R31 := retsD rs31 × outsD ps31
noncomputable def G31 : Gam := fun f => match f with | 23 => some Sm23 | 78 => some Sm78 | _ => none
theorem h0_31 (hg : GamOK Try.prog G31) : Holds Try.prog 31 ⟨ps31, rs31, false, runF TT G31 an31 Try.f31 c31 ps31 rs31⟩ := holds_of tt_ok hg mixed Try.func31 (by kernel_rfl) (by rfl) (by decide +kernel)
noncomputable def at31 : Nat → Pt → List Nat → St → Option R31 := atF TT G31 an31 Try.f31 c31 _ _
def sh31_L4 (x0 : Int) (x1 : Int) (x2 : Int) (x3 : List (Int × Int × Int × Bool)) (x4 : List Int) : St := (Go.Proofs.Ytpcohpkflkhfbaa.Rx.St.mk (Go.Proofs.Ytpcohpkflkhfbaa.Rx.AV.undef :: ((Go.Proofs.Ytpcohpkflkhfbaa.Rx.AV.one (Go.Proofs.Ytpcohpkflkhfbaa.Rx.SV.bptr 1000000 0)) :: (Go.Proofs.Ytpcohpkflkhfbaa.Rx.AV.undef :: (Go.Proofs.Ytpcohpkflkhfbaa.Rx.AV.undef :: (Go.Proofs.Ytpcohpkflkhfbaa.Rx.AV.undef :: (Go.Proofs.Ytpcohpkflkhfbaa.Rx.AV.undef :: (Go.Proofs.Ytpcohpkflkhfbaa.Rx.AV.undef :: (Go.Proofs.Ytpcohpkflkhfbaa.Rx.AV.undef :: (Go.Proofs.Ytpcohpkflkhfbaa.Rx.AV.undef :: (Go.Proofs.Ytpcohpkflkhfbaa.Rx.AV.undef :: (Go.Proofs.Ytpcohpkflkhfbaa.Rx.AV.undef :: (Go.Proofs.Ytpcohpkflkhfbaa.Rx.AV.undef :: (Go.Proofs.Ytpcohpkflkhfbaa.Rx.AV.undef :: (Go.Proofs.Ytpcohpkflkhfbaa.Rx.AV.undef :: (Go.Proofs.Ytpcohpkflkhfbaa.Rx.AV.undef :: ((Go.Proofs.Ytpcohpkflkhfbaa.Rx.AV.one (Go.Proofs.Ytpcohpkflkhfbaa.Rx.SV.int (Go.IntKind.i64) x0)) :: ((Go.Proofs.Ytpcohpkflkhfbaa.Rx.AV.one (Go.Proofs.Ytpcohpkflkhfbaa.Rx.SV.int (Go.IntKind.i64) x1)) :: (Go.Proofs.Ytpcohpkflkhfbaa.Rx.AV.undef :: (Go.Proofs.Ytpcohpkflkhfbaa.Rx.AV.undef :: (Go.Proofs.Ytpcohpkflkhfbaa.Rx.AV.undef :: (Go.Proofs.Ytpcohpkflkhfbaa.Rx.AV.undef :: (Go.Proofs.Ytpcohpkflkhfbaa.Rx.AV.undef :: (Go.Proofs.Ytpcohpkflkhfbaa.Rx.AV.undef :: []))))))))))))))))))))))) ((1000000, (Go.Proofs.Ytpcohpkflkhfbaa.Rx.Ent.box ((Go.Proofs.Ytpcohpkflkhfbaa.Rx.SV.int (Go.IntKind.i64) x2) :: ((Go.Proofs.Ytpcohpkflkhfbaa.Rx.SV.con (⟨51, (Go.Proofs.Ytpcohpkflkhfbaa.Rx.Ty.int Go.IntKind.i64).pair   ((Go.Proofs.Ytpcohpkflkhfbaa.Rx.Ty.int Go.IntKind.i64).pair ((Go.Proofs.Ytpcohpkflkhfbaa.Rx.Ty.int Go.IntKind.i64).pair Go.Proofs.Ytpcohpkflkhfbaa.Rx.Ty.bool)), x3⟩ : Rw)) :: ((Go.Proofs.Ytpcohpkflkhfbaa.Rx.SV.con (⟨3, Go.Proofs.Ytpcohpkflkhfbaa.Rx.Ty.int Go.IntKind.i64, x4⟩ : Rw)) :: []))))) :: []))
noncomputable def st31_top (n : Nat) (lL4 : Int → Int → Int → (List (Int × Int × Int × Bool)) → (List Int) → Option R31) (a : Int × List (Int × Int × Int × Bool) × List Int) : Option R31 :=
  (Go.Proofs.Ytpcohpkflkhfbaa.Rx.S.q23 n ((a.fst, a.snd.fst, a.snd.snd), ())).bind fun r0 => cond (!r0.fst.fst) (some ((false, ()), ())) (cond (decide ((↑(List.length a.snd.snd) : Int) = (0 : Int))) (some ((false, ()), ())) (lL4 ((↑(List.length a.snd.fst) : Int)) ((0 : Int)) (a.fst) (a.snd.fst) (a.snd.snd)))
noncomputable def st31_L4 (n : Nat) (lL4 : Int → Int → Int → (List (Int × Int × Int × Bool)) → (List Int) → Option R31) (x0 : Int) (x1 : Int) (x2 : Int) (x3 : List (Int × Int × Int × Bool)) (x4 : List Int) : Option R31 :=
  cond (decide (x1 < x0)) ((Go.Proofs.Ytpcohpkflkhfbaa.Rx.S.q78 n ((x2, x3, x4), x1, ())).bind fun r2 => cond (r2.fst.fst) (some ((false, ()), ())) (lL4 (x0) (Go.IntKind.i64.wrap (x1 + (1 : Int))) (x2) (x3) (x4))) (some ((true, ()), ()))
theorem e31_top (n : Nat) (a : Int × List (Int × Int × Int × Bool) × List Int) : runF TT G31 an31 Try.f31 c31 ps31 rs31 n (a, ()) = st31_top n (fun x0 x1 x2 x3 x4 => at31 n (.head 4) [n] (sh31_L4 x0 x1 x2 x3 x4)) a := by kernel_rfl
theorem e31_L4_0 (n : Nat) (x0 : Int) (x1 : Int) (x2 : Int) (x3 : List (Int × Int × Int × Bool)) (x4 : List Int) : at31 n (.head 4) [0] (sh31_L4 x0 x1 x2 x3 x4) = none := by kernel_rfl
theorem e31_L4 (n : Nat) (m4 : Nat) (x0 : Int) (x1 : Int) (x2 : Int) (x3 : List (Int × Int × Int × Bool)) (x4 : List Int) : at31 n (.head 4) [m4 + 1] (sh31_L4 x0 x1 x2 x3 x4) = st31_L4 n (fun x0 x1 x2 x3 x4 => at31 n (.head 4) [m4] (sh31_L4 x0 x1 x2 x3 x4)) x0 x1 x2 x3 x4 := by kernel_rfl
noncomputable def p31_L4 (n : Nat) : Nat → Int → Int → Int → (List (Int × Int × Int × Bool)) → (List Int) → Option R31
  | 0, _, _, _, _, _ => none
  | m + 1, x0, x1, x2, x3, x4 => st31_L4 n (p31_L4 n m) x0 x1 x2 x3 x4
noncomputable def p31 (n : Nat) (a : Int × List (Int × Int × Int × Bool) × List Int) : Option R31 := st31_top n (p31_L4 n n) a
theorem t31_L4 (n : Nat) : ∀ (m4 : Nat) (x0 : Int) (x1 : Int) (x2 : Int) (x3 : List (Int × Int × Int × Bool)) (x4 : List Int), at31 n (.head 4) [m4] (sh31_L4 x0 x1 x2 x3 x4) = p31_L4  n m4 x0 x1 x2 x3 x4 := by
  intro m
  induction m with
  | zero => intros; rw [e31_L4_0]; rfl
  | succ m ih =>
    intros
    rw [e31_L4]
    simp only [ih]
    rfl
theorem F31_eq (n : Nat) (a : Int × List (Int × Int × Int × Bool) × List Int) : runF TT G31 an31 Try.f31 c31 ps31 rs31 n (a, ()) = p31 n a := by
  rw [e31_top]
  simp only [t31_L4]
  try rfl
noncomputable def q31 (n : Nat) (x : argsD ps31) : Option R31 := p31 n x.1
noncomputable def Sm31 : Sm := ⟨ps31, rs31, false, q31⟩
theorem holds31 (hg : GamOK Try.prog G31) : Holds Try.prog 31 Sm31 := by
  have := h0_31 hg
  have e : (runF TT G31 an31 Try.f31 c31 ps31 rs31) = q31 := by
    funext n x
    exact F31_eq n x.1
  rw [e] at this
  exact this
theorem gam31 : GamOK Try.prog G31 := by
  intro f s h
  unfold G31 at h
  split at h
  · injection h with h; subst h; exact ⟨⟨Try.f23, c23, Try.func23, by kernel_rfl, by decide +kernel⟩, hh23⟩
  · injection h with h; subst h; exact ⟨⟨Try.f78, c78, Try.func78, by kernel_rfl, by decide +kernel⟩, hh78⟩
  · cases h
theorem hh31 : Holds Try.prog 31 Sm31 := holds31 gam31
end Go.Proofs.Ytpcohpkflkhfbaa.Rx.S
namespace Go.Proofs.Ytpcohpkflkhfbaa.Rx.S
open Go Go.RowKit Go.Proofs
set_option maxRecDepth 100000
noncomputable def c85 : Code := (Try.f85.body.getD .skip)
def an85 : An := ⟨fun r => match r with | 2 => ⟨[1, 3], []⟩ | _ => ⟨[], []⟩, fun _ _ => none⟩
abbrev ps85 : List PK := [.val tLock true]
abbrev rs85 : List RK := [.val .bool false]
abbrev R85 := retsD rs85 × outsD ps85
noncomputable def G85 : Gam := fun f => match f with | 82 => some Sm82 | _ => none
theorem h0_85 (hg : GamOK Try.prog G85) : Holds Try.prog 85 ⟨ps85, rs85, false, runF TT G85 an85 Try.f85 c85 ps85 rs85⟩ := holds_of tt_ok hg mixed Try.func85 (by kernel_rfl) (by rfl) (by decide +kernel)
noncomputable def at85 : Nat → Pt → List Nat → St → Option R85 := atF TT G85 an85 Try.f85 c85 _ _
def sh85_L2 (x0 : Int) (x1 : Int) (x2 : List (Int × Int × Int × Bool)) (x3 : List Int) : St := (Go.Proofs.Ytpcohpkflkhfbaa.Rx.St.mk (Go.Proofs.Ytpcohpkflkhfbaa.Rx.AV.undef :: ((Go.Proofs.Ytpcohpkflkhfbaa.Rx.AV.one (Go.Proofs.Ytpcohpkflkhfbaa.Rx.SV.bptr 1000000 0)) :: (Go.Proofs.Ytpcohpkflkhfbaa.Rx.AV.undef :: ((Go.Proofs.Ytpcohpkflkhfbaa.Rx.AV.one (Go.Proofs.Ytpcohpkflkhfbaa.Rx.SV.int (Go.IntKind.i64) x0)) :: (Go.Proofs.Ytpcohpkflkhfbaa.Rx.AV.undef :: (Go.Proofs.Ytpcohpkflkhfbaa.Rx.AV.undef :: (Go.Proofs.Ytpcohpkflkhfbaa.Rx.AV.undef :: (Go.Proofs.Ytpcohpkflkhfbaa.Rx.AV.undef :: (Go.Proofs.Ytpcohpkflkhfbaa.Rx.AV.undef :: (Go.Proofs.Ytpcohpkflkhfbaa.Rx.AV.undef :: (Go.Proofs.Ytpcohpkflkhfbaa.Rx.AV.undef :: (Go.Proofs.Ytpcohpkflkhfbaa.Rx.AV.undef :: (Go.Proofs.Ytpcohpkflkhfbaa.Rx.AV.undef :: (Go.Proofs.Ytpcohpkflkhfbaa.Rx.AV.undef :: (Go.Proofs.Ytpcohpkflkhfbaa.Rx.AV.undef :: (Go.Proofs.Ytpcohpkflkhfbaa.Rx.AV.undef :: (Go.Proofs.Ytpcohpkflkhfbaa.Rx.AV.undef :: (Go.Proofs.Ytpcohpkflkhfbaa.Rx.AV.undef :: [])))))))))))))))))) ((1000000, (Go.Proofs.Ytpcohpkflkhfbaa.Rx.Ent.box ((Go.Proofs.Ytpcohpkflkhfbaa.Rx.SV.int (Go.IntKind.i64) x1) :: ((Go.Proofs.Ytpcohpkflkhfbaa.Rx.SV.con (⟨51, (Go.Proofs.Ytpcohpkflkhfbaa.Rx.Ty.int Go.IntKind.i64).pair   ((Go.Proofs.Ytpcohpkflkhfbaa.Rx.Ty.int Go.IntKind.i64).pair ((Go.Proofs.Ytpcohpkflkhfbaa.Rx.Ty.int Go.IntKind.i64).pair Go.Proofs.Ytpcohpkflkhfbaa.Rx.Ty.bool)), x2⟩ : Rw)) :: ((Go.Proofs.Ytpcohpkflkhfbaa.Rx.SV.con (⟨3, Go.Proofs.Ytpcohpkflkhfbaa.Rx.Ty.int Go.IntKind.i64, x3⟩ : Rw)) :: []))))) :: []))
noncomputable def st85_top (n : Nat) (lL2 : Int → Int → (List (Int × Int × Int × Bool)) → (List Int) → Option R85) (a : Int × List (Int × Int × Int × Bool) × List Int) : Option R85 :=
  lL2 ((0 : Int)) (a.fst) (a.snd.fst) (a.snd.snd)
noncomputable def st85_L2 (n : Nat) (lL2 : Int → Int → (List (Int × Int × Int × Bool)) → (List Int) → Option R85) (x0 : Int) (x1 : Int) (x2 : List (Int × Int × Int × Bool)) (x3 : List Int) : Option R85 :=
  cond (decide (x0 < (↑x2.length : Int))) ((Go.Proofs.Ytpcohpkflkhfbaa.Rx.S.q82 n ((x1, x2, x3), x0, ())).bind fun r1 => cond (r1.fst.fst) (some ((false, ()), ())) (lL2 (Go.IntKind.i64.wrap (x0 + (1 : Int))) (x1) (x2) (x3))) (some ((decide ((0 : Int) < (↑x3.length : Int)), ()), ()))
theorem e85_top (n : Nat) (a : Int × List (Int × Int × Int × Bool) × List Int) : runF TT G85 an85 Try.f85 c85 ps85 rs85 n (a, ()) = st85_top n (fun x0 x1 x2 x3 => at85 n (.head 2) [n] (sh85_L2 x0 x1 x2 x3)) a := by kernel_rfl
theorem e85_L2_0 (n : Nat) (x0 : Int) (x1 : Int) (x2 : List (Int × Int × Int × Bool)) (x3 : List Int) : at85 n (.head 2) [0] (sh85_L2 x0 x1 x2 x3) = none := by kernel_rfl
theorem e85_L2 (n : Nat) (m2 : Nat) (x0 : Int) (x1 : Int) (x2 : List (Int × Int × Int × Bool)) (x3 : List Int) : at85 n (.head 2) [m2 + 1] (sh85_L2 x0 x1 x2 x3) = st85_L2 n (fun x0 x1 x2 x3 => at85 n (.head 2) [m2] (sh85_L2 x0 x1 x2 x3)) x0 x1 x2 x3 := by kernel_rfl
noncomputable def p85_L2 (n : Nat) : Nat → Int → Int → (List (Int × Int × Int × Bool)) → (List Int) → Option R85
  | 0, _, _, _, _ => none
  | m + 1, x0, x1, x2, x3 => st85_L2 n (p85_L2 n m) x0 x1 x2 x3
noncomputable def p85 (n : Nat) (a : Int × List (Int × Int × Int × Bool) × List Int) : Option R85 := st85_top n (p85_L2 n n) a
theorem t85_L2 (n : Nat) : ∀ (m2 : Nat) (x0 : Int) (x1 : Int) (x2 : List (Int × Int × Int × Bool)) (x3 : List Int), at85 n (.head 2) [m2] (sh85_L2 x0 x1 x2 x3) = p85_L2  n m2 x0 x1 x2 x3 := by
  intro m
  induction m with
  | zero => intros; rw [e85_L2_0]; rfl
  | succ m ih =>
    intros
    rw [e85_L2]
    simp only [ih]
    rfl
theorem F85_eq (n : Nat) (a : Int × List (Int × Int × Int × Bool) × List Int) : runF TT G85 an85 Try.f85 c85 ps85 rs85 n (a, ()) = p85 n a := by
  rw [e85_top]
  simp only [t85_L2]
  try rfl
noncomputable def q85 (n : Nat) (x : argsD ps85) : Option R85 := p85 n x.1
noncomputable def Sm85 : Sm := ⟨ps85, rs85, false, q85⟩
theorem holds85 (hg : GamOK Try.prog G85) : Holds Try.prog 85 Sm85 := by
  have := h0_85 hg
  have e : (runF TT G85 an85 Try.f85 c85 ps85 rs85) = q85 := by
    funext n x
    exact F85_eq n x.1
  rw [e] at this
  exact this
theorem gam85 : GamOK Try.prog G85 := by
  intro f s h
  unfold G85 at h
  split at h
  · injection h with h; subst h; exact ⟨⟨Try.f82, c82, Try.func82, by kernel_rfl, by decide +kernel⟩, hh82⟩
  · cases h
theorem hh85 : Holds Try.prog 85 Sm85 := holds85 gam85
end Go.Proofs.Ytpcohpkflkhfbaa.Rx.S
namespace Go.Proofs.Ytpcohpkflkhfbaa.Rx.S
open Go Go.RowKit Go.Proofs
set_option maxRecDepth 100000
noncomputable def c32 : Code := (Try.f32.body.getD .skip)
def an32 : An := ⟨fun _ => ⟨[], []⟩, fun _ _ => none⟩
abbrev ps32 : List PK := [.val tLock true]
abbrev rs32 : List RK := [.val .bool false]
abbrev R32 := retsD rs32 × outsD ps32
noncomputable def G32 : Gam := fun f => match f with | 24 => some Sm24 | 85 => some Sm85 | _ => none
theorem h0_32 (hg : GamOK Try.prog G32) : Holds Try.prog 32 ⟨ps32, rs32, false, runF TT G32 an32 Try.f32 c32 ps32 rs32⟩ := holds_of tt_ok hg mixed Try.func32 (by kernel_rfl) (by rfl) (by decide +kernel)
noncomputable def at32 : Nat → Pt → List Nat → St → Option R32 := atF TT G32 an32 Try.f32 c32 _ _
noncomputable def st32_top (n : Nat)  (a : Int × List (Int × Int × Int × Bool) × List Int) : Option R32 :=
  (Go.Proofs.Ytpcohpkflkhfbaa.Rx.S.q24 n ((a.fst, a.snd.fst, a.snd.snd), ())).bind fun r0 => cond (r0.fst.fst) ((Go.Proofs.Ytpcohpkflkhfbaa.Rx.S.q85 n ((a.fst, a.snd.fst, a.snd.snd), ())).bind fun r1 => some ((r1.fst.fst, ()), ())) (some ((false, ()), ()))
theorem e32_top (n : Nat) (a : Int × List (Int × Int × Int × Bool) × List Int) : runF TT G32 an32 Try.f32 c32 ps32 rs32 n (a, ()) = st32_top n  a := by kernel_rfl
noncomputable def p32 (n : Nat) (a : Int × List (Int × Int × Int × Bool) × List Int) : Option R32 := st32_top n  a
theorem F32_eq (n : Nat) (a : Int × List (Int × Int × Int × Bool) × List Int) : runF TT G32 an32 Try.f32 c32 ps32 rs32 n (a, ()) = p32 n a := by
  rw [e32_top]
  skip
  try rfl
noncomputable def q32 (n : Nat) (x : argsD ps32) : Option R32 := p32 n x.1
noncomputable def Sm32 : Sm := ⟨ps32, rs32, false, q32⟩
theorem holds32 (hg : GamOK Try.prog G32) : Holds Try.prog 32 Sm32 := by
  have := h0_32 hg
  have e : (runF TT G32 an32 Try.f32 c32 ps32 rs32) = q32 := by
    funext n x
    exact F32_eq n x.1
  rw [e] at this
  exact this
theorem gam32 : GamOK Try.prog G32 := by
  intro f s h
  unfold G32 at h
  split at h
  · injection h with h; subst h; exact ⟨⟨Try.f24, c24, Try.func24, by kernel_rfl, by decide +kernel⟩, hh24⟩
  · injection h with h; subst h; exact ⟨⟨Try.f85, c85, Try.func85, by kernel_rfl, by decide +kernel⟩, hh85⟩
  · cases h
theorem hh32 : Holds Try.prog 32 Sm32 := holds32 gam32
end Go.Proofs.Ytpcohpkflkhfbaa.Rx.S
namespace Go.Proofs.Ytpcohpkflkhfbaa.Rx.S
open Go Go.RowKit Go.Proofs
set_option maxRecDepth 100000
noncomputable def c7 : Code := (Try.f7.body.getD .skip)
def an7 : An := ⟨fun r => match r with | 10 => ⟨[3, 7], []⟩ | _ => ⟨[], []⟩, fun _ _ => none⟩
abbrev ps7 : List PK := [.val (.row 5 (.int .u8)) false]
abbrev rs7 : List RK := [.val .bool false]
abbrev R7 := retsD rs7 × outsD ps7
noncomputable def G7 : Gam := fun f => match f with | 30 => some Sm30 | 31 => some Sm31 | 32 => some Sm32 | 28 => some Sm28 | _ => none
theorem h0_7 (hg : GamOK Try.prog G7) : Holds Try.prog 7 ⟨ps7, rs7, false, runF TT G7 an7 Try.f7 c7 ps7 rs7⟩ := holds_of tt_ok hg mixed Try.func7 (by kernel_rfl) (by rfl) (by decide +kernel)
noncomputable def at7 : Nat → Pt → List Nat → St → Option R7 := atF TT G7 an7 Try.f7 c7 _ _
def sh7_L10 (x0 : Int) (x1 : Int) (x2 : List (Int × Int × Int × Bool)) (x3 : List Int) : St := (Go.Proofs.Ytpcohpkflkhfbaa.Rx.St.mk (Go.Proofs.Ytpcohpkflkhfbaa.Rx.AV.undef :: (Go.Proofs.Ytpcohpkflkhfbaa.Rx.AV.undef :: (Go.Proofs.Ytpcohpkflkhfbaa.Rx.AV.undef :: ((Go.Proofs.Ytpcohpkflkhfbaa.Rx.AV.one (Go.Proofs.Ytpcohpkflkhfbaa.Rx.SV.bptr 1000000 0)) :: (Go.Proofs.Ytpcohpkflkhfbaa.Rx.AV.undef :: (Go.Proofs.Ytpcohpkflkhfbaa.Rx.AV.undef :: (Go.Proofs.Ytpcohpkflkhfbaa.Rx.AV.undef :: ((Go.Proofs.Ytpcohpkflkhfbaa.Rx.AV.one (Go.Proofs.Ytpcohpkflkhfbaa.Rx.SV.int (Go.IntKind.i64) x0)) :: (Go.Proofs.Ytpcohpkflkhfbaa.Rx.AV.undef :: (Go.Proofs.Ytpcohpkflkhfbaa.Rx.AV.undef :: (Go.Proofs.Ytpcohpkflkhfbaa.Rx.AV.undef :: (Go.Proofs.Ytpcohpkflkhfbaa.Rx.AV.undef :: (Go.Proofs.Ytpcohpkflkhfbaa.Rx.AV.undef :: (Go.Proofs.Ytpcohpkflkhfbaa.Rx.AV.undef :: (Go.Proofs.Ytpcohpkflkhfbaa.Rx.AV.undef :: (Go.Proofs.Ytpcohpkflkhfbaa.Rx.AV.undef :: (Go.Proofs.Ytpcohpkflkhfbaa.Rx.AV.undef :: (Go.Proofs.Ytpcohpkflkhfbaa.Rx.AV.undef :: (Go.Proofs.Ytpcohpkflkhfbaa.Rx.AV.undef :: (Go.Proofs.Ytpcohpkflkhfbaa.Rx.AV.undef :: (Go.Proofs.Ytpcohpkflkhfbaa.Rx.AV.undef :: (Go.Proofs.Ytpcohpkflkhfbaa.Rx.AV.undef :: (Go.Proofs.Ytpcohpkflkhfbaa.Rx.AV.undef :: (Go.Proofs.Ytpcohpkflkhfbaa.Rx.AV.undef :: (Go.Proofs.Ytpcohpkflkhfbaa.Rx.AV.undef :: (Go.Proofs.Ytpcohpkflkhfbaa.Rx.AV.undef :: (Go.Proofs.Ytpcohpkflkhfbaa.Rx.AV.undef :: (Go.Proofs.Ytpcohpkflkhfbaa.Rx.AV.undef :: (Go.Proofs.Ytpcohpkflkhfbaa.Rx.AV.undef :: (Go.Proofs.Ytpcohpkflkhfbaa.Rx.AV.undef :: (Go.Proofs.Ytpcohpkflkhfbaa.Rx.AV.undef :: (Go.Proofs.Ytpcohpkflkhfbaa.Rx.AV.undef :: (Go.Proofs.Ytpcohpkflkhfbaa.Rx.AV.undef :: (Go.Proofs.Ytpcohpkflkhfbaa.Rx.AV.undef :: (Go.Proofs.Ytpcohpkflkhfbaa.Rx.AV.undef :: (Go.Proofs.Ytpcohpkflkhfbaa.Rx.AV.undef :: (Go.Proofs.Ytpcohpkflkhfbaa.Rx.AV.undef :: (Go.Proofs.Ytpcohpkflkhfbaa.Rx.AV.undef :: (Go.Proofs.Ytpcohpkflkhfbaa.Rx.AV.undef :: (Go.Proofs.Ytpcohpkflkhfbaa.Rx.AV.undef :: (Go.Proofs.Ytpcohpkflkhfbaa.Rx.AV.undef :: (Go.Proofs.Ytpcohpkflkhfbaa.Rx.AV.undef :: (Go.Proofs.Ytpcohpkflkhfbaa.Rx.AV.undef :: (Go.Proofs.Ytpcohpkflkhfbaa.Rx.AV.undef :: (Go.Proofs.Ytpcohpkflkhfbaa.Rx.AV.undef :: (Go.Proofs.Ytpcohpkflkhfbaa.Rx.AV.undef :: (Go.Proofs.Ytpcohpkflkhfbaa.Rx.AV.undef :: []))))))))))))))))))))))))))))))))))))))))))))))) ((1000000, (Go.Proofs.Ytpcohpkflkhfbaa.Rx.Ent.box ((Go.Proofs.Ytpcohpkflkhfbaa.Rx.SV.int (Go.IntKind.i64) x1) :: ((Go.Proofs.Ytpcohpkflkhfbaa.Rx.SV.ref 1000001 0 [] Option.none) :: ((Go.Proofs.Ytpcohpkflkhfbaa.Rx.SV.ref 1000002 0 [] Option.none) :: []))))) :: ((1000001, (Go.Proofs.Ytpcohpkflkhfbaa.Rx.Ent.row (⟨51, (Go.Proofs.Ytpcohpkflkhfbaa.Rx.Ty.int Go.IntKind.i64).pair   ((Go.Proofs.Ytpcohpkflkhfbaa.Rx.Ty.int Go.IntKind.i64).pair ((Go.Proofs.Ytpcohpkflkhfbaa.Rx.Ty.int Go.IntKind.i64).pair Go.Proofs.Ytpcohpkflkhfbaa.Rx.Ty.bool)), x2⟩ : Rw) 0 Option.none)) :: ((1000002, (Go.Proofs.Ytpcohpkflkhfbaa.Rx.Ent.row (⟨3, Go.Proofs.Ytpcohpkflkhfbaa.Rx.Ty.int Go.IntKind.i64, x3⟩ : Rw) 0 Option.none)) :: []))))
noncomputable def st7_top (n : Nat) (lL10 : Int → Int → (List (Int × Int × Int × Bool)) → (List Int) → Option R7) (a : List Int) : Option R7 :=
  cond (decide ((1048576 : Int) < (↑a.length : Int))) (some ((true, ()), ())) ((Go.Proofs.Ytpcohpkflkhfbaa.Rx.S.q30 n (a, ())).bind fun r0 => (Go.Proofs.Ytpcohpkflkhfbaa.Rx.S.q31 n ((r0.fst.fst.fst, r0.fst.fst.snd.fst, r0.fst.fst.snd.snd), ())).bind fun r1 => (Go.Proofs.Ytpcohpkflkhfbaa.Rx.S.q32 n ((r0.fst.fst.fst, r0.fst.fst.snd.fst, r0.fst.fst.snd.snd), ())).bind fun r2 => cond (!r1.fst.fst == r2.fst.fst) (some ((r1.fst.fst == r2.fst.fst, ()), ())) (cond (!r1.fst.fst) (some ((r1.fst.fst == r2.fst.fst, ()), ())) (lL10 ((0 : Int)) (r0.fst.fst.fst) (r0.fst.fst.snd.fst) (r0.fst.fst.snd.snd))))
noncomputable def st7_L10 (n : Nat) (lL10 : Int → Int → (List (Int × Int × Int × Bool)) → (List Int) → Option R7) (x0 : Int) (x1 : Int) (x2 : List (Int × Int × Int × Bool)) (x3 : List Int) : Option R7 :=
  cond (decide (x0 < (↑x2.length : Int))) ((Go.Proofs.Ytpcohpkflkhfbaa.Rx.S.q28 n ((x1, x2, x3), x0, ())).bind fun r4 => cond (r4.fst.snd.fst) (some ((false, ()), ())) (lL10 (Go.IntKind.i64.wrap (x0 + (1 : Int))) (x1) (x2) (x3))) (some ((decide ((0 : Int) < (↑x3.length : Int)), ()), ()))
theorem e7_top (n : Nat) (a : List Int) : runF TT G7 an7 Try.f7 c7 ps7 rs7 n (a, ()) = st7_top n (fun x0 x1 x2 x3 => at7 n (.head 10) [n] (sh7_L10 x0 x1 x2 x3)) a := by kernel_rfl
theorem e7_L10_0 (n : Nat) (x0 : Int) (x1 : Int) (x2 : List (Int × Int × Int × Bool)) (x3 : List Int) : at7 n (.head 10) [0] (sh7_L10 x0 x1 x2 x3) = none := by kernel_rfl
theorem e7_L10 (n : Nat) (m10 : Nat) (x0 : Int) (x1 : Int) (x2 : List (Int × Int × Int × Bool)) (x3 : List Int) : at7 n (.head 10) [m10 + 1] (sh7_L10 x0 x1 x2 x3) = st7_L10 n (fun x0 x1 x2 x3 => at7 n (.head 10) [m10] (sh7_L10 x0 x1 x2 x3)) x0 x1 x2 x3 := by kernel_rfl
noncomputable def p7_L10 (n : Nat) : Nat → Int → Int → (List (Int × Int × Int × Bool)) → (List Int) → Option R7
  | 0, _, _, _, _ => none
  | m + 1, x0, x1, x2, x3 => st7_L10 n (p7_L10 n m) x0 x1 x2 x3
noncomputable def p7 (n : Nat) (a : List Int) : Option R7 := st7_top n (p7_L10 n n) a
theorem t7_L10 (n : Nat) : ∀ (m10 : Nat) (x0 : Int) (x1 : Int) (x2 : List (Int × Int × Int × Bool)) (x3 : List Int), at7 n (.head 10) [m10] (sh7_L10 x0 x1 x2 x3) = p7_L10  n m10 x0 x1 x2 x3 := by
  intro m
  induction m with
  | zero => intros; rw [e7_L10_0]; rfl
  | succ m ih =>
    intros
    rw [e7_L10]
    simp only [ih]
    rfl
theorem F7_eq (n : Nat) (a : List Int) : runF TT G7 an7 Try.f7 c7 ps7 rs7 n (a, ()) = p7 n a := by
  rw [e7_top]
  simp only [t7_L10]
  try rfl
noncomputable def q7 (n : Nat) (x : argsD ps7) : Option R7 := p7 n x.1
noncomputable def Sm7 : Sm := ⟨ps7, rs7, false, q7⟩
theorem holds7 (hg : GamOK Try.prog G7) : Holds Try.prog 7 Sm7 := by
  have := h0_7 hg
  have e : (runF TT G7 an7 Try.f7 c7 ps7 rs7) = q7 := by
    funext n x
    exact F7_eq n x.1
  rw [e] at this
  exact this
theorem gam7 : GamOK Try.prog G7 := by
  intro f s h
  unfold G7 at h
  split at h
  · injection h with h; subst h; exact ⟨⟨Try.f30, c30, Try.func30, by kernel_rfl, by decide +kernel⟩, hh30⟩
  · injection h with h; subst h; exact ⟨⟨Try.f31, c31, Try.func31, by kernel_rfl, by decide +kernel⟩, hh31⟩
  · injection h with h; subst h; exact ⟨⟨Try.f32, c32, Try.func32, by kernel_rfl, by decide +kernel⟩, hh32⟩
  · injection h with h; subst h; exact ⟨⟨Try.f28, c28, Try.func28, by kernel_rfl, by decide +kernel⟩, hh28⟩
  · cases h
theorem hh7 : Holds Try.prog 7 Sm7 := holds7 gam7
end Go.Proofs.Ytpcohpkflkhfbaa.Rx.S
namespace Go.Proofs.Ytpcohpkflkhfbaa.Rx.S
open Go Go.RowKit Go.Proofs
set_option maxRecDepth 100000
noncomputable def c34 : Code := (Try.f34.body.getD .skip)
def an34 : An := ⟨fun r => match r with | 6 => ⟨[1, 4, 6, 7, 8], []⟩ | _ => ⟨[], []⟩, fun _ _ => none⟩
abbrev ps34 : List PK := [.val tLock true, .val (.row 3 i64) false]
abbrev rs34 : List RK := [.own tLock true, .val i64 false]
abbrev R34 := retsD rs34 × outsD ps34
noncomputable def G34 : Gam := fun f => match f with | 24 => some Sm24 | 57 => some Sm57 | 82 => some Sm82 | 83 => some Sm83 | 84 => some Sm84 | _ => none
theorem h0_34 (hg : GamOK Try.prog G34) : Holds Try.prog 34 ⟨ps34, rs34, false, runF TT G34 an34 Try.f34 c34 ps34 rs34⟩ := holds_of tt_ok hg mixed Try.func34 (by kernel_rfl) (by rfl) (by decide +kernel)
noncomputable def at34 : Nat → Pt → List Nat → St → Option R34 := atF TT G34 an34 Try.f34 c34 _ _
def sh34_L6 (x0 : List Int) (x1 : Int) (x2 : Int) (x3 : Int) (x4 : Int) (x5 : List (Int × Int × Int × Bool)) (x6 : List Int) : St := (Go.Proofs.Ytpcohpkflkhfbaa.Rx.St.mk (Go.Proofs.Ytpcohpkflkhfbaa.Rx.AV.undef :: ((Go.Proofs.Ytpcohpkflkhfbaa.Rx.AV.one (Go.Proofs.Ytpcohpkflkhfbaa.Rx.SV.con (⟨3, Go.Proofs.Ytpcohpkflkhfbaa.Rx.Ty.int Go.IntKind.i64, x0⟩ : Rw))) :: (Go.Proofs.Ytpcohpkflkhfbaa.Rx.AV.undef :: (Go.Proofs.Ytpcohpkflkhfbaa.Rx.AV.undef :: ((Go.Proofs.Ytpcohpkflkhfbaa.Rx.AV.one (Go.Proofs.Ytpcohpkflkhfbaa.Rx.SV.bptr 1000000 0)) :: (Go.Proofs.Ytpcohpkflkhfbaa.Rx.AV.undef :: ((Go.Proofs.Ytpcohpkflkhfbaa.Rx.AV.one (Go.Proofs.Ytpcohpkflkhfbaa.Rx.SV.bptr 1000001 0)) :: ((Go.Proofs.Ytpcohpkflkhfbaa.Rx.AV.one (Go.Proofs.Ytpcohpkflkhfbaa.Rx.SV.int (Go.IntKind.i64) x1)) :: ((Go.Proofs.Ytpcohpkflkhfbaa.Rx.AV.one (Go.Proofs.Ytpcohpkflkhfbaa.Rx.SV.int (Go.IntKind.i64) x2)) :: (Go.Proofs.Ytpcohpkflkhfbaa.Rx.AV.undef :: (Go.Proofs.Ytpcohpkflkhfbaa.Rx.AV.undef :: (Go.Proofs.Ytpcohpkflkhfbaa.Rx.AV.undef :: (Go.Proofs.Ytpcohpkflkhfbaa.Rx.AV.undef :: (Go.Proofs.Ytpcohpkflkhfbaa.Rx.AV.undef :: (Go.Proofs.Ytpcohpkflkhfbaa.Rx.AV.undef :: (Go.Proofs.Ytpcohpkflkhfbaa.Rx.AV.undef :: (Go.Proofs.Ytpcohpkflkhfbaa.Rx.AV.undef :: (Go.Proofs.Ytpcohpkflkhfbaa.Rx.AV.undef :: (Go.Proofs.Ytpcohpkflkhfbaa.Rx.AV.undef :: (Go.Proofs.Ytpcohpkflkhfbaa.Rx.AV.undef :: (Go.Proofs.Ytpcohpkflkhfbaa.Rx.AV.undef :: (Go.Proofs.Ytpcohpkflkhfbaa.Rx.AV.undef :: (Go.Proofs.Ytpcohpkflkhfbaa.Rx.AV.undef :: (Go.Proofs.Ytpcohpkflkhfbaa.Rx.AV.undef :: (Go.Proofs.Ytpcohpkflkhfbaa.Rx.AV.undef :: (Go.Proofs.Ytpcohpkflkhfbaa.Rx.AV.undef :: (Go.Proofs.Ytpcohpkflkhfbaa.Rx.AV.undef :: (Go.Proofs.Ytpcohpkflkhfbaa.Rx.AV.undef :: (Go.Proofs.Ytpcohpkflkhfbaa.Rx.AV.undef :: (Go.Proofs.Ytpcohpkflkhfbaa.Rx.AV.undef :: (Go.Proofs.Ytpcohpkflkhfbaa.Rx.AV.undef :: (Go.Proofs.Ytpcohpkflkhfbaa.Rx.AV.undef :: (Go.Proofs.Ytpcohpkflkhfbaa.Rx.AV.undef :: (Go.Proofs.Ytpcohpkflkhfbaa.Rx.AV.undef :: (Go.Proofs.Ytpcohpkflkhfbaa.Rx.AV.undef :: (Go.Proofs.Ytpcohpkflkhfbaa.Rx.AV.undef :: (Go.Proofs.Ytpcohpkflkhfbaa.Rx.AV.undef :: (Go.Proofs.Ytpcohpkflkhfbaa.Rx.AV.undef :: (Go.Proofs.Ytpcohpkflkhfbaa.Rx.AV.undef :: (Go.Proofs.Ytpcohpkflkhfbaa.Rx.AV.undef :: (Go.Proofs.Ytpcohpkflkhfbaa.Rx.AV.undef :: (Go.Proofs.Ytpcohpkflkhfbaa.Rx.AV.undef :: (Go.Proofs.Ytpcohpkflkhfbaa.Rx.AV.undef :: (Go.Proofs.Ytpcohpkflkhfbaa.Rx.AV.undef :: (Go.Proofs.Ytpcohpkflkhfbaa.Rx.AV.undef :: (Go.Proofs.Ytpcohpkflkhfbaa.Rx.AV.undef :: (Go.Proofs.Ytpcohpkflkhfbaa.Rx.AV.undef :: (Go.Proofs.Ytpcohpkflkhfbaa.Rx.AV.undef :: [])))))))))))))))))))))))))))))))))))))))))))))))) ((1000000, (Go.Proofs.Ytpcohpkflkhfbaa.Rx.Ent.box ((Go.Proofs.Ytpcohpkflkhfbaa.Rx.SV.int (Go.IntKind.i64) x3) :: (Go.Proofs.Ytpcohpkflkhfbaa.Rx.SV.nil :: (Go.Proofs.Ytpcohpkflkhfbaa.Rx.SV.nil :: []))))) :: ((1000001, (Go.Proofs.Ytpcohpkflkhfbaa.Rx.Ent.box ((Go.Proofs.Ytpcohpkflkhfbaa.Rx.SV.int (Go.IntKind.i64) x4) :: ((Go.Proofs.Ytpcohpkflkhfbaa.Rx.SV.ref 1000002 0 [] Option.none) :: ((Go.Proofs.Ytpcohpkflkhfbaa.Rx.SV.ref 1000003 0 [] Option.none) :: []))))) :: ((1000002, (Go.Proofs.Ytpcohpkflkhfbaa.Rx.Ent.row (⟨51, (Go.Proofs.Ytpcohpkflkhfbaa.Rx.Ty.int Go.IntKind.i64).pair   ((Go.Proofs.Ytpcohpkflkhfbaa.Rx.Ty.int Go.IntKind.i64).pair ((Go.Proofs.Ytpcohpkflkhfbaa.Rx.Ty.int Go.IntKind.i64).pair Go.Proofs.Ytpcohpkflkhfbaa.Rx.Ty.bool)), x5⟩ : Rw) 0 Option.none)) :: ((1000003, (Go.Proofs.Ytpcohpkflkhfbaa.Rx.Ent.row (⟨3, Go.Proofs.Ytpcohpkflkhfbaa.Rx.Ty.int Go.IntKind.i64, x6⟩ : Rw) 0 Option.none)) :: [])))))
noncomputable def st34_top (n : Nat) (lL6 : (List Int) → Int → Int → Int → Int → (List (Int × Int × Int × Bool)) → (List Int) → Option R34) (a : Int × List (Int × Int × Int × Bool) × List Int) (b : List Int) : Option R34 :=
  (Go.Proofs.Ytpcohpkflkhfbaa.Rx.S.q24 n ((a.fst, a.snd.fst, a.snd.snd), ())).bind fun r0 => cond (!r0.fst.fst) (some ((((0 : Int), ([], [])), ((-1 : Int), ())), ())) ((Go.Proofs.Ytpcohpkflkhfbaa.Rx.S.q83 n ((a.fst, a.snd.fst, a.snd.snd), ())).bind fun r1 => lL6 (b) ((0 : Int)) ((0 : Int)) ((0 : Int)) (r1.fst.fst.fst) (r1.fst.fst.snd.fst) (r1.fst.fst.snd.snd))
noncomputable def st34_L6 (n : Nat) (lL6 : (List Int) → Int → Int → Int → Int → (List (Int × Int × Int × Bool)) → (List Int) → Option R34) (x0 : List Int) (x1 : Int) (x2 : Int) (x3 : Int) (x4 : Int) (x5 : List (Int × Int × Int × Bool)) (x6 : List Int) : Option R34 :=
  cond (decide (x2 < (↑x0.length : Int))) (cond (decide ((0 : Int) ≤ x2)) (cond (decide (x2 < (↑x0.length : Int))) ((Go.Proofs.Ytpcohpkflkhfbaa.Rx.S.q57 n (x0.getD x2.toNat (0 : Int), (0 : Int), Go.IntKind.i64.wrap ((↑x5.length : Int) - (1 : Int)), ())).bind fun r3 => cond (r3.fst.fst) (cond (decide ((0 : Int) ≤ x2)) (cond (decide (x2 < (↑x0.length : Int))) ((Go.Proofs.Ytpcohpkflkhfbaa.Rx.S.q82 n ((x4, x5, x6), x0.getD x2.toNat (0 : Int), ())).bind fun r4 => cond (r4.fst.fst) (cond (decide ((0 : Int) ≤ x2)) (cond (decide (x2 < (↑x0.length : Int))) ((Go.Proofs.Ytpcohpkflkhfbaa.Rx.S.q84 n ((x4, x5, x6), x0.getD x2.toNat (0 : Int), ())).bind fun r5 => lL6 (x0) (Go.IntKind.i64.wrap (x1 + (1 : Int))) (Go.IntKind.i64.wrap (x2 + (1 : Int))) (x3) (r5.fst.fst.fst) (r5.fst.fst.snd.fst) (r5.fst.fst.snd.snd)) (none)) (none)) (lL6 (x0) (x1) (Go.IntKind.i64.wrap (x2 + (1 : Int))) (x3) (x4) (x5) (x6))) (none)) (none)) (lL6 (x0) (x1) (Go.IntKind.i64.wrap (x2 + (1 : Int))) (x3) (x4) (x5) (x6))) (none)) (none)) (some (((x4, (x5, x6)), (x1, ())), ()))
theorem e34_top (n : Nat) (a : Int × List (Int × Int × Int × Bool) × List Int) (b : List Int) : runF TT G34 an34 Try.f34 c34 ps34 rs34 n (a, b, ()) = st34_top n (fun x0 x1 x2 x3 x4 x5 x6 => at34 n (.head 6) [n] (sh34_L6 x0 x1 x2 x3 x4 x5 x6)) a b := by kernel_rfl
theorem e34_L6_0 (n : Nat) (x0 : List Int) (x1 : Int) (x2 : Int) (x3 : Int) (x4 : Int) (x5 : List (Int × Int × Int × Bool)) (x6 : List Int) : at34 n (.head 6) [0] (sh34_L6 x0 x1 x2 x3 x4 x5 x6) = none := by kernel_rfl
theorem e34_L6 (n : Nat) (m6 : Nat) (x0 : List Int) (x1 : Int) (x2 : Int) (x3 : Int) (x4 : Int) (x5 : List (Int × Int × Int × Bool)) (x6 : List Int) : at34 n (.head 6) [m6 + 1] (sh34_L6 x0 x1 x2 x3 x4 x5 x6) = st34_L6 n (fun x0 x1 x2 x3 x4 x5 x6 => at34 n (.head 6) [m6] (sh34_L6 x0 x1 x2 x3 x4 x5 x6)) x0 x1 x2 x3 x4 x5 x6 := by kernel_rfl
noncomputable def p34_L6 (n : Nat) : Nat → (List Int) → Int → Int → Int → Int → (List (Int × Int × Int × Bool)) → (List Int) → Option R34
  | 0, _, _, _, _, _, _, _ => none
  | m + 1, x0, x1, x2, x3, x4, x5, x6 => st34_L6 n (p34_L6 n m) x0 x1 x2 x3 x4 x5 x6
noncomputable def p34 (n : Nat) (a : Int × List (Int × Int × Int × Bool) × List Int) (b : List Int) : Option R34 := st34_top n (p34_L6 n n) a b
theorem t34_L6 (n : Nat) : ∀ (m6 : Nat) (x0 : List Int) (x1 : Int) (x2 : Int) (x3 : Int) (x4 : Int) (x5 : List (Int × Int × Int × Bool)) (x6 : List Int), at34 n (.head 6) [m6] (sh34_L6 x0 x1 x2 x3 x4 x5 x6) = p34_L6  n m6 x0 x1 x2 x3 x4 x5 x6 := by
  intro m
  induction m with
  | zero => intros; rw [e34_L6_0]; rfl
  | succ m ih =>
    intros
    rw [e34_L6]
    simp only [ih]
    rfl
theorem F34_eq (n : Nat) (a : Int × List (Int × Int × Int × Bool) × List Int) (b : List Int) : runF TT G34 an34 Try.f34 c34 ps34 rs34 n (a, b, ()) = p34 n a b := by
  rw [e34_top]
  simp only [t34_L6]
  try rfl
noncomputable def q34 (n : Nat) (x : argsD ps34) : Option R34 := p34 n x.1 x.2.1
noncomputable def Sm34 : Sm := ⟨ps34, rs34, false, q34⟩
theorem holds34 (hg : GamOK Try.prog G34) : Holds Try.prog 34 Sm34 := by
  have := h0_34 hg
  have e : (runF TT G34 an34 Try.f34 c34 ps34 rs34) = q34 := by
    funext n x
    exact F34_eq n x.1 x.2.1
  rw [e] at this
  exact this
theorem gam34 : GamOK Try.prog G34 := by
  intro f s h
  unfold G34 at h
  split at h
  · injection h with h; subst h; exact ⟨⟨Try.f24, c24, Try.func24, by kernel_rfl, by decide +kernel⟩, hh24⟩
  · injection h with h; subst h; exact ⟨⟨Try.f57, c57, Try.func57, by kernel_rfl, by decide +kernel⟩, hh57⟩
  · injection h with h; subst h; exact ⟨⟨Try.f82, c82, Try.func82, by kernel_rfl, by decide +kernel⟩, hh82⟩
  · injection h with h; subst h; exact ⟨⟨Try.f83, c83, Try.func83, by kernel_rfl, by decide +kernel⟩, hh83⟩
  · injection h with h; subst h; exact ⟨⟨Try.f84, c84, Try.func84, by kernel_rfl, by decide +kernel⟩, hh84⟩
  · cases h
theorem hh34 : Holds Try.prog 34 Sm34 := holds34 gam34
end Go.Proofs.Ytpcohpkflkhfbaa.Rx.S
namespace Go.Proofs.Ytpcohpkflkhfbaa.Rx.S
open Go Go.RowKit Go.Proofs
set_option maxRecDepth 100000
noncomputable def c8 : Code := (Try.f8.body.getD .skip)
def an8 : An := ⟨fun _ => ⟨[], []⟩, fun _ _ => none⟩
abbrev ps8 : List PK := [.val (.row 5 (.int .u8)) false, .val (.row 5 (.int .u8)) false]
abbrev rs8 : List RK := [.val .bool false]
abbrev R8 := retsD rs8 × outsD ps8
noncomputable def G8 : Gam := fun f => match f with | 33 => some Sm33 | 25 => some Sm25 | 34 => some Sm34 | 26 => some Sm26 | 23 => some Sm23 | _ => none
theorem h0_8 (hg : GamOK Try.prog G8) : Holds Try.prog 8 ⟨ps8, rs8, false, runF TT G8 an8 Try.f8 c8 ps8 rs8⟩ := holds_of tt_ok hg mixed Try.func8 (by kernel_rfl) (by rfl) (by decide +kernel)
noncomputable def at8 : Nat → Pt → List Nat → St → Option R8 := atF TT G8 an8 Try.f8 c8 _ _
noncomputable def st8_top (n : Nat)  (a : List Int) (b : List Int) : Option R8 :=
  cond (decide ((1048576 : Int) < (↑a.length : Int))) (some ((true, ()), ())) (cond (decide ((1048576 : Int) < (↑b.length : Int))) (some ((true, ()), ())) ((Go.Proofs.Ytpcohpkflkhfbaa.Rx.S.q33 n (a, ())).bind fun r0 => (Go.Proofs.Ytpcohpkflkhfbaa.Rx.S.q25 n ((r0.fst.fst.fst, r0.fst.fst.snd.fst, r0.fst.fst.snd.snd), r0.fst.snd.fst, ())).bind fun r1 => (Go.Proofs.Ytpcohpkflkhfbaa.Rx.S.q34 n ((r0.fst.fst.fst, r0.fst.fst.snd.fst, r0.fst.fst.snd.snd), r0.fst.snd.fst, ())).bind fun r2 => (Go.Proofs.Ytpcohpkflkhfbaa.Rx.S.q26 n   ((r1.fst.fst.fst, r1.fst.fst.snd.fst, r1.fst.fst.snd.snd), (r2.fst.fst.fst, r2.fst.fst.snd.fst, r2.fst.fst.snd.snd),     ())).bind fun r3 => cond (r3.fst.fst) (cond (!decide (r1.fst.snd.fst = r2.fst.snd.fst)) (some ((decide (r1.fst.snd.fst = r2.fst.snd.fst), ()), ())) (cond (!decide ((0 : Int) ≤ r1.fst.snd.fst)) (some ((decide (r1.fst.snd.fst = r2.fst.snd.fst), ()), ())) (cond (!decide (Go.IntKind.i64.wrap ((↑(List.length r0.fst.snd.fst) : Int) + (1 : Int)) = (0 : Int))) (cond (decide ((0 : Int) ≤ (↑b.length : Int).tmod (Go.IntKind.i64.wrap ((↑(List.length r0.fst.snd.fst) : Int) + (1 : Int))))) (cond (decide   ((↑b.length : Int).tmod (Go.IntKind.i64.wrap ((↑(List.length r0.fst.snd.fst) : Int) + (1 : Int))) ≤     (↑(List.length r0.fst.snd.fst) : Int))) ((Go.Proofs.Ytpcohpkflkhfbaa.Rx.S.q25 n   ((r0.fst.fst.fst, r0.fst.fst.snd.fst, r0.fst.fst.snd.snd),     List.take       ((↑b.length : Int).tmod (Go.IntKind.i64.wrap ((↑(List.length r0.fst.snd.fst) : Int) + (1 : Int))) -           (0 : Int)).toNat       (List.drop ((0 : Nat) + Int.toNat (0 : Int)) r0.fst.snd.fst),     ())).bind fun r4 => cond (decide ((0 : Int) ≤ (↑b.length : Int).tmod (Go.IntKind.i64.wrap ((↑(List.length r0.fst.snd.fst) : Int) + (1 : Int))))) (cond (decide   ((↑b.length : Int).tmod (Go.IntKind.i64.wrap ((↑(List.length r0.fst.snd.fst) : Int) + (1 : Int))) ≤     (↑(List.length r0.fst.snd.fst) : Int))) ((Go.Proofs.Ytpcohpkflkhfbaa.Rx.S.q25 n   ((r4.fst.fst.fst, r4.fst.fst.snd.fst, r4.fst.fst.snd.snd),     List.take       ((↑(List.length r0.fst.snd.fst) : Int) -           (↑b.length : Int).tmod (Go.IntKind.i64.wrap ((↑(List.length r0.fst.snd.fst) : Int) + (1 : Int)))).toNat       (List.drop         ((0 : Nat) +           ((↑b.length : Int).tmod (Go.IntKind.i64.wrap ((↑(List.length r0.fst.snd.fst) : Int) + (1 : Int)))).toNat)         r0.fst.snd.fst),     ())).bind fun r5 => (Go.Proofs.Ytpcohpkflkhfbaa.Rx.S.q26 n   ((r5.fst.fst.fst, r5.fst.fst.snd.fst, r5.fst.fst.snd.snd), (r1.fst.fst.fst, r1.fst.fst.snd.fst, r1.fst.fst.snd.snd),     ())).bind fun r6 => cond (r6.fst.fst) (cond (decide (Go.IntKind.i64.wrap (r4.fst.snd.fst + r5.fst.snd.fst) = r1.fst.snd.fst)) ((Go.Proofs.Ytpcohpkflkhfbaa.Rx.S.q23 n ((r1.fst.fst.fst, r1.fst.fst.snd.fst, r1.fst.fst.snd.snd), ())).bind fun r7 => some ((r7.fst.fst, ()), ())) (some ((false, ()), ()))) (some ((false, ()), ()))) (none)) (none)) (none)) (none)) (none)))) (some ((false, ()), ()))))
theorem e8_top (n : Nat) (a : List Int) (b : List Int) : runF TT G8 an8 Try.f8 c8 ps8 rs8 n (a, b, ()) = st8_top n  a b := by kernel_rfl
noncomputable def p8 (n : Nat) (a : List Int) (b : List Int) : Option R8 := st8_top n  a b
theorem F8_eq (n : Nat) (a : List Int) (b : List Int) : runF TT G8 an8 Try.f8 c8 ps8 rs8 n (a, b, ()) = p8 n a b := by
  rw [e8_top]
  skip
  try rfl
noncomputable def q8 (n : Nat) (x : argsD ps8) : Option R8 := p8 n x.1 x.2.1
noncomputable def Sm8 : Sm := ⟨ps8, rs8, false, q8⟩
theorem holds8 (hg : GamOK Try.prog G8) : Holds Try.prog 8 Sm8 := by
  have := h0_8 hg
  have e : (runF TT G8 an8 Try.f8 c8 ps8 rs8) = q8 := by
    funext n x
    exact F8_eq n x.1 x.2.1
  rw [e] at this
  exact this
theorem gam8 : GamOK Try.prog G8 := by
  intro f s h
  unfold G8 at h
  split at h
  · injection h with h; subst h; exact ⟨⟨Try.f33, c33, Try.func33, by kernel_rfl, by decide +kernel⟩, hh33⟩
  · injection h with h; subst h; exact ⟨⟨Try.f25, c25, Try.func25, by kernel_rfl, by decide +kernel⟩, hh25⟩
  · injection h with h; subst h; exact ⟨⟨Try.f34, c34, Try.func34, by kernel_rfl, by decide +kernel⟩, hh34⟩
  · injection h with h; subst h; exact ⟨⟨Try.f26, c26, Try.func26, by kernel_rfl, by decide +kernel⟩, hh26⟩
  · injection h with h; subst h; exact ⟨⟨Try.f23, c23, Try.func23, by kernel_rfl, by decide +kernel⟩, hh23⟩
  · cases h
theorem hh8 : Holds Try.prog 8 Sm8 := holds8 gam8
end Go.Proofs.Ytpcohpkflkhfbaa.Rx.S
namespace Go.Proofs.Ytpcohpkflkhfbaa.Rx.S
open Go Go.RowKit Go.Proofs
set_option maxRecDepth 100000
noncomputable def c48 : Code := (Try.f48.body.getD .skip)
def an48 : An := ⟨fun r => match r with | 2 => ⟨[1, 6, 7, 8], []⟩ | _ => ⟨[], []⟩, fun _ _ => none⟩
abbrev ps48 : List PK := [.val (.pair (.row 111 tTh) i64) true]
abbrev rs48 : List RK := [.val .bool false]
abbrev R48 := retsD rs48 × outsD ps48
noncomputable def G48 : Gam := fun f => match f with | 62 => some Sm62 | _ => none
theorem h0_48 (hg : GamOK Try.prog G48) : Holds Try.prog 48 ⟨ps48, rs48, false, runF TT G48 an48 Try.f48 c48 ps48 rs48⟩ := holds_of tt_ok hg mixed Try.func48 (by kernel_rfl) (by rfl) (by decide +kernel)
noncomputable def at48 : Nat → Pt → List Nat → St → Option R48 := atF TT G48 an48 Try.f48 c48 _ _
def sh48_L2 (x0 : List (Int × Int × Int × Bool)) (x1 : Int) (x2 : Int) (x3 : List (Int × Int × Int × Bool)) (x4 : Int) : St := (Go.Proofs.Ytpcohpkflkhfbaa.Rx.St.mk (Go.Proofs.Ytpcohpkflkhfbaa.Rx.AV.undef :: ((Go.Proofs.Ytpcohpkflkhfbaa.Rx.AV.one (Go.Proofs.Ytpcohpkflkhfbaa.Rx.SV.bptr 1000000 0)) :: (Go.Proofs.Ytpcohpkflkhfbaa.Rx.AV.undef :: (Go.Proofs.Ytpcohpkflkhfbaa.Rx.AV.undef :: (Go.Proofs.Ytpcohpkflkhfbaa.Rx.AV.undef :: (Go.Proofs.Ytpcohpkflkhfbaa.Rx.AV.undef :: ((Go.Proofs.Ytpcohpkflkhfbaa.Rx.AV.one (Go.Proofs.Ytpcohpkflkhfbaa.Rx.SV.con (⟨111, (Go.Proofs.Ytpcohpkflkhfbaa.Rx.Ty.int Go.IntKind.i64).pair   ((Go.Proofs.Ytpcohpkflkhfbaa.Rx.Ty.int Go.IntKind.i64).pair ((Go.Proofs.Ytpcohpkflkhfbaa.Rx.Ty.int Go.IntKind.i64).pair Go.Proofs.Ytpcohpkflkhfbaa.Rx.Ty.bool)), x0⟩ : Rw))) :: ((Go.Proofs.Ytpcohpkflkhfbaa.Rx.AV.one (Go.Proofs.Ytpcohpkflkhfbaa.Rx.SV.int (Go.IntKind.i64) x1)) :: ((Go.Proofs.Ytpcohpkflkhfbaa.Rx.AV.one (Go.Proofs.Ytpcohpkflkhfbaa.Rx.SV.int (Go.IntKind.i64) x2)) :: (Go.Proofs.Ytpcohpkflkhfbaa.Rx.AV.undef :: (Go.Proofs.Ytpcohpkflkhfbaa.Rx.AV.undef :: (Go.Proofs.Ytpcohpkflkhfbaa.Rx.AV.undef :: (Go.Proofs.Ytpcohpkflkhfbaa.Rx.AV.undef :: (Go.Proofs.Ytpcohpkflkhfbaa.Rx.AV.undef :: (Go.Proofs.Ytpcohpkflkhfbaa.Rx.AV.undef :: (Go.Proofs.Ytpcohpkflkhfbaa.Rx.AV.undef :: (Go.Proofs.Ytpcohpkflkhfbaa.Rx.AV.undef :: (Go.Proofs.Ytpcohpkflkhfbaa.Rx.AV.undef :: (Go.Proofs.Ytpcohpkflkhfbaa.Rx.AV.undef :: (Go.Proofs.Ytpcohpkflkhfbaa.Rx.AV.undef :: (Go.Proofs.Ytpcohpkflkhfbaa.Rx.AV.undef :: (Go.Proofs.Ytpcohpkflkhfbaa.Rx.AV.undef :: (Go.Proofs.Ytpcohpkflkhfbaa.Rx.AV.undef :: (Go.Proofs.Ytpcohpkflkhfbaa.Rx.AV.undef :: (Go.Proofs.Ytpcohpkflkhfbaa.Rx.AV.undef :: (Go.Proofs.Ytpcohpkflkhfbaa.Rx.AV.undef :: (Go.Proofs.Ytpcohpkflkhfbaa.Rx.AV.undef :: (Go.Proofs.Ytpcohpkflkhfbaa.Rx.AV.undef :: (Go.Proofs.Ytpcohpkflkhfbaa.Rx.AV.undef :: (Go.Proofs.Ytpcohpkflkhfbaa.Rx.AV.undef :: (Go.Proofs.Ytpcohpkflkhfbaa.Rx.AV.undef :: (Go.Proofs.Ytpcohpkflkhfbaa.Rx.AV.undef :: (Go.Proofs.Ytpcohpkflkhfbaa.Rx.AV.undef :: (Go.Proofs.Ytpcohpkflkhfbaa.Rx.AV.undef :: (Go.Proofs.Ytpcohpkflkhfbaa.Rx.AV.undef :: (Go.Proofs.Ytpcohpkflkhfbaa.Rx.AV.undef :: (Go.Proofs.Ytpcohpkflkhfbaa.Rx.AV.undef :: (Go.Proofs.Ytpcohpkflkhfbaa.Rx.AV.undef :: (Go.Proofs.Ytpcohpkflkhfbaa.Rx.AV.undef :: (Go.Proofs.Ytpcohpkflkhfbaa.Rx.AV.undef :: (Go.Proofs.Ytpcohpkflkhfbaa.Rx.AV.undef :: (Go.Proofs.Ytpcohpkflkhfbaa.Rx.AV.undef :: (Go.Proofs.Ytpcohpkflkhfbaa.Rx.AV.undef :: (Go.Proofs.Ytpcohpkflkhfbaa.Rx.AV.undef :: (Go.Proofs.Ytpcohpkflkhfbaa.Rx.AV.undef :: (Go.Proofs.Ytpcohpkflkhfbaa.Rx.AV.undef :: (Go.Proofs.Ytpcohpkflkhfbaa.Rx.AV.undef :: (Go.Proofs.Ytpcohpkflkhfbaa.Rx.AV.undef :: (Go.Proofs.Ytpcohpkflkhfbaa.Rx.AV.undef :: (Go.Proofs.Ytpcohpkflkhfbaa.Rx.AV.undef :: (Go.Proofs.Ytpcohpkflkhfbaa.Rx.AV.undef :: (Go.Proofs.Ytpcohpkflkhfbaa.Rx.AV.undef :: (Go.Proofs.Ytpcohpkflkhfbaa.Rx.AV.undef :: (Go.Proofs.Ytpcohpkflkhfbaa.Rx.AV.undef :: (Go.Proofs.Ytpcohpkflkhfbaa.Rx.AV.undef :: (Go.Proofs.Ytpcohpkflkhfbaa.Rx.AV.undef :: (Go.Proofs.Ytpcohpkflkhfbaa.Rx.AV.undef :: (Go.Proofs.Ytpcohpkflkhfbaa.Rx.AV.undef :: (Go.Proofs.Ytpcohpkflkhfbaa.Rx.AV.undef :: (Go.Proofs.Ytpcohpkflkhfbaa.Rx.AV.undef :: (Go.Proofs.Ytpcohpkflkhfbaa.Rx.AV.undef :: (Go.Proofs.Ytpcohpkflkhfbaa.Rx.AV.undef :: (Go.Proofs.Ytpcohpkflkhfbaa.Rx.AV.undef :: (Go.Proofs.Ytpcohpkflkhfbaa.Rx.AV.undef :: (Go.Proofs.Ytpcohpkflkhfbaa.Rx.AV.undef :: (Go.Proofs.Ytpcohpkflkhfbaa.Rx.AV.undef :: [])))))))))))))))))))))))))))))))))))))))))))))))))))))))))))))))))) ((1000000, (Go.Proofs.Ytpcohpkflkhfbaa.Rx.Ent.box ((Go.Proofs.Ytpcohpkflkhfbaa.Rx.SV.con (⟨111, (Go.Proofs.Ytpcohpkflkhfbaa.Rx.Ty.int Go.IntKind.i64).pair   ((Go.Proofs.Ytpcohpkflkhfbaa.Rx.Ty.int Go.IntKind.i64).pair ((Go.Proofs.Ytpcohpkflkhfbaa.Rx.Ty.int Go.IntKind.i64).pair Go.Proofs.Ytpcohpkflkhfbaa.Rx.Ty.bool)), x3⟩ : Rw)) :: ((Go.Proofs.Ytpcohpkflkhfbaa.Rx.SV.int (Go.IntKind.i64) x4) :: [])))) :: []))
noncomputable def st48_top (n : Nat) (lL2 : (List (Int × Int × Int × Bool)) → Int → Int → (List (Int × Int × Int × Bool)) → Int → Option R48) (a : List (Int × Int × Int × Bool) × Int) : Option R48 :=
  lL2 (a.fst) ((↑(List.length a.fst) : Int)) ((0 : Int)) (a.fst) (a.snd)
noncomputable def st48_L2 (n : Nat) (lL2 : (List (Int × Int × Int × Bool)) → Int → Int → (List (Int × Int × Int × Bool)) → Int → Option R48) (x0 : List (Int × Int × Int × Bool)) (x1 : Int) (x2 : Int) (x3 : List (Int × Int × Int × Bool)) (x4 : Int) : Option R48 :=
  cond (decide (x2 < x1)) (cond (decide ((0 : Int) ≤ x2)) (cond (decide (x2 < (↑x0.length : Int))) ((Go.Proofs.Ytpcohpkflkhfbaa.Rx.S.q62 n ((x0.getD x2.toNat ((0 : Int), (0 : Int), (0 : Int), false)).fst, (0 : Int), (99 : Int), ())).bind fun r1 => cond (!r1.fst.fst) (some ((false, ()), ())) ((Go.Proofs.Ytpcohpkflkhfbaa.Rx.S.q62 n ((x0.getD x2.toNat ((0 : Int), (0 : Int), (0 : Int), false)).snd.fst, (1 : Int), (6 : Int), ())).bind fun r2 => cond (!r2.fst.fst) (some ((false, ()), ())) ((Go.Proofs.Ytpcohpkflkhfbaa.Rx.S.q62 n ((x0.getD x2.toNat ((0 : Int), (0 : Int), (0 : Int), false)).snd.snd.fst, (0 : Int), (1000000 : Int), ())).bind fun r3 => cond (!r3.fst.fst) (some ((false, ()), ())) (cond ((x0.getD x2.toNat ((0 : Int), (0 : Int), (0 : Int), false)).snd.snd.snd) (cond (decide ((x0.getD x2.toNat ((0 : Int), (0 : Int), (0 : Int), false)).snd.snd.fst < x4)) (some ((false, ()), ())) (cond (decide ((0 : Int) < x2)) (cond (decide ((0 : Int) ≤ Go.IntKind.i64.wrap (x2 - (1 : Int)))) (cond (decide (Go.IntKind.i64.wrap (x2 - (1 : Int)) < (↑x3.length : Int))) (cond (decide   ((x0.getD x2.toNat ((0 : Int), (0 : Int), (0 : Int), false)).fst ≤     (x3.getD (Go.IntKind.i64.wrap (x2 - (1 : Int))).toNat ((0 : Int), (0 : Int), (0 : Int), false)).fst)) (some ((false, ()), ())) (lL2 (x0) (x1) (Go.IntKind.i64.wrap (x2 + (1 : Int))) (x3) (x4))) (none)) (none)) (lL2 (x0) (x1) (Go.IntKind.i64.wrap (x2 + (1 : Int))) (x3) (x4)))) (cond (decide ((0 : Int) < x2)) (cond (decide ((0 : Int) ≤ Go.IntKind.i64.wrap (x2 - (1 : Int)))) (cond (decide (Go.IntKind.i64.wrap (x2 - (1 : Int)) < (↑x3.length : Int))) (cond (decide   ((x0.getD x2.toNat ((0 : Int), (0 : Int), (0 : Int), false)).fst ≤     (x3.getD (Go.IntKind.i64.wrap (x2 - (1 : Int))).toNat ((0 : Int), (0 : Int), (0 : Int), false)).fst)) (some ((false, ()), ())) (lL2 (x0) (x1) (Go.IntKind.i64.wrap (x2 + (1 : Int))) (x3) (x4))) (none)) (none)) (lL2 (x0) (x1) (Go.IntKind.i64.wrap (x2 + (1 : Int))) (x3) (x4))))))) (none)) (none)) (cond (decide ((↑x3.length : Int) ≤ (6 : Int))) ((Go.Proofs.Ytpcohpkflkhfbaa.Rx.S.q62 n (x4, (0 : Int), (1000000 : Int), ())).bind fun r4 => some ((r4.fst.fst, ()), ())) (some ((false, ()), ())))
theorem e48_top (n : Nat) (a : List (Int × Int × Int × Bool) × Int) : runF TT G48 an48 Try.f48 c48 ps48 rs48 n (a, ()) = st48_top n (fun x0 x1 x2 x3 x4 => at48 n (.head 2) [n] (sh48_L2 x0 x1 x2 x3 x4)) a := by kernel_rfl
theorem e48_L2_0 (n : Nat) (x0 : List (Int × Int × Int × Bool)) (x1 : Int) (x2 : Int) (x3 : List (Int × Int × Int × Bool)) (x4 : Int) : at48 n (.head 2) [0] (sh48_L2 x0 x1 x2 x3 x4) = none := by kernel_rfl
theorem e48_L2 (n : Nat) (m2 : Nat) (x0 : List (Int × Int × Int × Bool)) (x1 : Int) (x2 : Int) (x3 : List (Int × Int × Int × Bool)) (x4 : Int) : at48 n (.head 2) [m2 + 1] (sh48_L2 x0 x1 x2 x3 x4) = st48_L2 n (fun x0 x1 x2 x3 x4 => at48 n (.head 2) [m2] (sh48_L2 x0 x1 x2 x3 x4)) x0 x1 x2 x3 x4 := by kernel_rfl
noncomputable def p48_L2 (n : Nat) : Nat → (List (Int × Int × Int × Bool)) → Int → Int → (List (Int × Int × Int × Bool)) → Int → Option R48
  | 0, _, _, _, _, _ => none
  | m + 1, x0, x1, x2, x3, x4 => st48_L2 n (p48_L2 n m) x0 x1 x2 x3 x4
noncomputable def p48 (n : Nat) (a : List (Int × Int × Int × Bool) × Int) : Option R48 := st48_top n (p48_L2 n n) a
theorem t48_L2 (n : Nat) : ∀ (m2 : Nat) (x0 : List (Int × Int × Int × Bool)) (x1 : Int) (x2 : Int) (x3 : List (Int × Int × Int × Bool)) (x4 : Int), at48 n (.head 2) [m2] (sh48_L2 x0 x1 x2 x3 x4) = p48_L2  n m2 x0 x1 x2 x3 x4 := by
  intro m
  induction m with
  | zero => intros; rw [e48_L2_0]; rfl
  | succ m ih =>
    intros
    rw [e48_L2]
    simp only [ih]
    rfl
theorem F48_eq (n : Nat) (a : List (Int × Int × Int × Bool) × Int) : runF TT G48 an48 Try.f48 c48 ps48 rs48 n (a, ()) = p48 n a := by
  rw [e48_top]
  simp only [t48_L2]
  try rfl
noncomputable def q48 (n : Nat) (x : argsD ps48) : Option R48 := p48 n x.1
noncomputable def Sm48 : Sm := ⟨ps48, rs48, false, q48⟩
theorem holds48 (hg : GamOK Try.prog G48) : Holds Try.prog 48 Sm48 := by
  have := h0_48 hg
  have e : (runF TT G48 an48 Try.f48 c48 ps48 rs48) = q48 := by
    funext n x
    exact F48_eq n x.1
  rw [e] at this
  exact this
theorem gam48 : GamOK Try.prog G48 := by
  intro f s h
  unfold G48 at h
  split at h
  · injection h with h; subst h; exact ⟨⟨Try.f62, c62, Try.func62, by kernel_rfl, by decide +kernel⟩, hh62⟩
  · cases h
theorem hh48 : Holds Try.prog 48 Sm48 := holds48 gam48
end Go.Proofs.Ytpcohpkflkhfbaa.Rx.S
namespace Go.Proofs.Ytpcohpkflkhfbaa.Rx.S
open Go Go.RowKit Go.Proofs
set_option maxRecDepth 100000
noncomputable def c118 : Code := (Try.f118.body.getD .skip)
def an118 : An := ⟨fun _ => ⟨[], []⟩, fun _ _ => none⟩
abbrev ps118 : List PK := [.val tTh true, .cp i64]
abbrev rs118 : List RK := [.val .bool false]
abbrev R118 := retsD rs118 × outsD ps118
noncomputable def G118 : Gam := fun _ => none
theorem h0_118 (hg : GamOK Try.prog G118) : Holds Try.prog 118 ⟨ps118, rs118, false, runF TT G118 an118 Try.f118 c118 ps118 rs118⟩ := holds_of tt_ok hg mixed Try.func118 (by kernel_rfl) (by rfl) (by decide +kernel)
noncomputable def at118 : Nat → Pt → List Nat → St → Option R118 := atF TT G118 an118 Try.f118 c118 _ _
noncomputable def st118_top (n : Nat)  (a : Int × Int × Int × Bool) (b : Int) : Option R118 :=
  some ((decide (a.fst = [b].getD (0 : Nat) (0 : Int)), ()), ())
theorem e118_top (n : Nat) (a : Int × Int × Int × Bool) (b : Int) : runF TT G118 an118 Try.f118 c118 ps118 rs118 n (a, b, ()) = st118_top n  a b := by kernel_rfl
noncomputable def p118 (n : Nat) (a : Int × Int × Int × Bool) (b : Int) : Option R118 := st118_top n  a b
theorem F118_eq (n : Nat) (a : Int × Int × Int × Bool) (b : Int) : runF TT G118 an118 Try.f118 c118 ps118 rs118 n (a, b, ()) = p118 n a b := by
  rw [e118_top]
  skip
  try rfl
noncomputable def q118 (n : Nat) (x : argsD ps118) : Option R118 := p118 n x.1 x.2.1
noncomputable def Sm118 : Sm := ⟨ps118, rs118, false, q118⟩
theorem holds118 (hg : GamOK Try.prog G118) : Holds Try.prog 118 Sm118 := by
  have := h0_118 hg
  have e : (runF TT G118 an118 Try.f118 c118 ps118 rs118) = q118 := by
    funext n x
    exact F118_eq n x.1 x.2.1
  rw [e] at this
  exact this
theorem gam118 : GamOK Try.prog G118 := fun _ _ h => by cases h
theorem hh118 : Holds Try.prog 118 Sm118 := holds118 gam118
end Go.Proofs.Ytpcohpkflkhfbaa.Rx.S
namespace Go.Proofs.Ytpcohpkflkhfbaa.Rx.S
open Go Go.RowKit Go.Proofs
set_option maxRecDepth 100000
noncomputable def c117 : Code := (Try.f117.body.getD .skip)
def an117 : An := ⟨fun r => match r with | 2 => ⟨[0, 1, 7, 8], []⟩ | _ => ⟨[], []⟩, fun _ _ => none⟩
abbrev ps117 : List PK := [.val (.row 111 tTh) false, .fn 118 [i64]]
abbrev rs117 : List RK := [.val i64 false]
abbrev R117 := retsD rs117 × outsD ps117
noncomputable def G117 : Gam := fun f => match f with | 118 => some Sm118 | _ => none
theorem h0_117 (hg : GamOK Try.prog G117) : Holds Try.prog 117 ⟨ps117, rs117, false, runF TT G117 an117 Try.f117 c117 ps117 rs117⟩ := holds_of tt_ok hg mixed Try.func117 (by kernel_rfl) (by rfl) (by decide +kernel)
noncomputable def at117 : Nat → Pt → List Nat → St → Option R117 := atF TT G117 an117 Try.f117 c117 _ _
def sh117_L2 (x0 : List (Int × Int × Int × Bool)) (x1 : Int) (x2 : Int) (x3 : Int) : St := (Go.Proofs.Ytpcohpkflkhfbaa.Rx.St.mk ((Go.Proofs.Ytpcohpkflkhfbaa.Rx.AV.one (Go.Proofs.Ytpcohpkflkhfbaa.Rx.SV.con (⟨111, (Go.Proofs.Ytpcohpkflkhfbaa.Rx.Ty.int Go.IntKind.i64).pair   ((Go.Proofs.Ytpcohpkflkhfbaa.Rx.Ty.int Go.IntKind.i64).pair ((Go.Proofs.Ytpcohpkflkhfbaa.Rx.Ty.int Go.IntKind.i64).pair Go.Proofs.Ytpcohpkflkhfbaa.Rx.Ty.bool)), x0⟩ : Rw))) :: ((Go.Proofs.Ytpcohpkflkhfbaa.Rx.AV.fn 118 ((Go.Proofs.Ytpcohpkflkhfbaa.Rx.SV.cptr (⟨0, Go.Proofs.Ytpcohpkflkhfbaa.Rx.Ty.int Go.IntKind.i64, [x1]⟩ : Rw) 0 0) :: [])) :: (Go.Proofs.Ytpcohpkflkhfbaa.Rx.AV.undef :: (Go.Proofs.Ytpcohpkflkhfbaa.Rx.AV.undef :: (Go.Proofs.Ytpcohpkflkhfbaa.Rx.AV.undef :: (Go.Proofs.Ytpcohpkflkhfbaa.Rx.AV.undef :: (Go.Proofs.Ytpcohpkflkhfbaa.Rx.AV.undef :: ((Go.Proofs.Ytpcohpkflkhfbaa.Rx.AV.one (Go.Proofs.Ytpcohpkflkhfbaa.Rx.SV.int (Go.IntKind.i64) x2)) :: ((Go.Proofs.Ytpcohpkflkhfbaa.Rx.AV.one (Go.Proofs.Ytpcohpkflkhfbaa.Rx.SV.int (Go.IntKind.i64) x3)) :: (Go.Proofs.Ytpcohpkflkhfbaa.Rx.AV.undef :: (Go.Proofs.Ytpcohpkflkhfbaa.Rx.AV.undef :: (Go.Proofs.Ytpcohpkflkhfbaa.Rx.AV.undef :: (Go.Proofs.Ytpcohpkflkhfbaa.Rx.AV.undef :: (Go.Proofs.Ytpcohpkflkhfbaa.Rx.AV.undef :: (Go.Proofs.Ytpcohpkflkhfbaa.Rx.AV.undef :: (Go.Proofs.Ytpcohpkflkhfbaa.Rx.AV.undef :: (Go.Proofs.Ytpcohpkflkhfbaa.Rx.AV.undef :: (Go.Proofs.Ytpcohpkflkhfbaa.Rx.AV.undef :: (Go.Proofs.Ytpcohpkflkhfbaa.Rx.AV.undef :: []))))))))))))))))))) [])
noncomputable def st117_top (n : Nat) (lL2 : (List (Int × Int × Int × Bool)) → Int → Int → Int → Option R117) (a : List (Int × Int × Int × Bool)) (b : Int × Unit) : Option R117 :=
  lL2 (a) (b.fst) ((↑a.length : Int)) ((0 : Int))
noncomputable def st117_L2 (n : Nat) (lL2 : (List (Int × Int × Int × Bool)) → Int → Int → Int → Option R117) (x0 : List (Int × Int × Int × Bool)) (x1 : Int) (x2 : Int) (x3 : Int) : Option R117 :=
  cond (decide (x3 < x2)) (cond (decide ((0 : Int) ≤ x3)) (cond (decide (x3 < (↑x0.length : Int))) ((Go.Proofs.Ytpcohpkflkhfbaa.Rx.S.q118 n   (((x0.getD x3.toNat ((0 : Int), (0 : Int), (0 : Int), false)).fst,       (x0.getD x3.toNat ((0 : Int), (0 : Int), (0 : Int), false)).snd.fst,       (x0.getD x3.toNat ((0 : Int), (0 : Int), (0 : Int), false)).snd.snd.fst,       (x0.getD x3.toNat ((0 : Int), (0 : Int), (0 : Int), false)).snd.snd.snd),     x1, ())).bind fun r1 => cond (r1.fst.fst) (some ((x3, ()), ())) (lL2 (x0) (x1) (x2) (Go.IntKind.i64.wrap (x3 + (1 : Int))))) (none)) (none)) (some (((-1 : Int), ()), ()))
theorem e117_top (n : Nat) (a : List (Int × Int × Int × Bool)) (b : Int × Unit) : runF TT G117 an117 Try.f117 c117 ps117 rs117 n (a, b, ()) = st117_top n (fun x0 x1 x2 x3 => at117 n (.head 2) [n] (sh117_L2 x0 x1 x2 x3)) a b := by kernel_rfl
theorem e117_L2_0 (n : Nat) (x0 : List (Int × Int × Int × Bool)) (x1 : Int) (x2 : Int) (x3 : Int) : at117 n (.head 2) [0] (sh117_L2 x0 x1 x2 x3) = none := by kernel_rfl
theorem e117_L2 (n : Nat) (m2 : Nat) (x0 : List (Int × Int × Int × Bool)) (x1 : Int) (x2 : Int) (x3 : Int) : at117 n (.head 2) [m2 + 1] (sh117_L2 x0 x1 x2 x3) = st117_L2 n (fun x0 x1 x2 x3 => at117 n (.head 2) [m2] (sh117_L2 x0 x1 x2 x3)) x0 x1 x2 x3 := by kernel_rfl
noncomputable def p117_L2 (n : Nat) : Nat → (List (Int × Int × Int × Bool)) → Int → Int → Int → Option R117
  | 0, _, _, _, _ => none
  | m + 1, x0, x1, x2, x3 => st117_L2 n (p117_L2 n m) x0 x1 x2 x3
noncomputable def p117 (n : Nat) (a : List (Int × Int × Int × Bool)) (b : Int × Unit) : Option R117 := st117_top n (p117_L2 n n) a b
theorem t117_L2 (n : Nat) : ∀ (m2 : Nat) (x0 : List (Int × Int × Int × Bool)) (x1 : Int) (x2 : Int) (x3 : Int), at117 n (.head 2) [m2] (sh117_L2 x0 x1 x2 x3) = p117_L2  n m2 x0 x1 x2 x3 := by
  intro m
  induction m with
  | zero => intros; rw [e117_L2_0]; rfl
  | succ m ih =>
    intros
    rw [e117_L2]
    simp only [ih]
    rfl
theorem F117_eq (n : Nat) (a : List (Int × Int × Int × Bool)) (b : Int × Unit) : runF TT G117 an117 Try.f117 c117 ps117 rs117 n (a, b, ()) = p117 n a b := by
  rw [e117_top]
  simp only [t117_L2]
  try rfl
noncomputable def q117 (n : Nat) (x : argsD ps117) : Option R117 := p117 n x.1 x.2.1
noncomputable def Sm117 : Sm := ⟨ps117, rs117, false, q117⟩
theorem holds117 (hg : GamOK Try.prog G117) : Holds Try.prog 117 Sm117 := by
  have := h0_117 hg
  have e : (runF TT G117 an117 Try.f117 c117 ps117 rs117) = q117 := by
    funext n x
    exact F117_eq n x.1 x.2.1
  rw [e] at this
  exact this
theorem gam117 : GamOK Try.prog G117 := by
  intro f s h
  unfold G117 at h
  split at h
  · injection h with h; subst h; exact ⟨⟨Try.f118, c118, Try.func118, by kernel_rfl, by decide +kernel⟩, hh118⟩
  · cases h
theorem hh117 : Holds Try.prog 117 Sm117 := holds117 gam117
end Go.Proofs.Ytpcohpkflkhfbaa.Rx.S
namespace Go.Proofs.Ytpcohpkflkhfbaa.Rx.S
open Go Go.RowKit Go.Proofs
set_option maxRecDepth 100000
noncomputable def c92 : Code := (Try.f92.body.getD .skip)
def an92 : An := ⟨fun _ => ⟨[], []⟩, fun _ _ => none⟩
abbrev ps92 : List PK := [.val (.pair (.row 111 tTh) i64) true, .val i64 false]
abbrev rs92 : List RK := [.val i64 false]
abbrev R92 := retsD rs92 × outsD ps92
noncomputable def G92 : Gam := fun f => match f with | 117 => some Sm117 | _ => none
theorem h0_92 (hg : GamOK Try.prog G92) : Holds Try.prog 92 ⟨ps92, rs92, false, runF TT G92 an92 Try.f92 c92 ps92 rs92⟩ := holds_of tt_ok hg mixed Try.func92 (by kernel_rfl) (by rfl) (by decide +kernel)
noncomputable def at92 : Nat → Pt → List Nat → St → Option R92 := atF TT G92 an92 Try.f92 c92 _ _
noncomputable def st92_top (n : Nat)  (a : List (Int × Int × Int × Bool) × Int) (b : Int) : Option R92 :=
  (Go.Proofs.Ytpcohpkflkhfbaa.Rx.S.q117 n (a.fst, (b, ()), ())).bind fun r0 => some ((r0.fst.fst, ()), ())
theorem e92_top (n : Nat) (a : List (Int × Int × Int × Bool) × Int) (b : Int) : runF TT G92 an92 Try.f92 c92 ps92 rs92 n (a, b, ()) = st92_top n  a b := by kernel_rfl
noncomputable def p92 (n : Nat) (a : List (Int × Int × Int × Bool) × Int) (b : Int) : Option R92 := st92_top n  a b
theorem F92_eq (n : Nat) (a : List (Int × Int × Int × Bool) × Int) (b : Int) : runF TT G92 an92 Try.f92 c92 ps92 rs92 n (a, b, ()) = p92 n a b := by
  rw [e92_top]
  skip
  try rfl
noncomputable def q92 (n : Nat) (x : argsD ps92) : Option R92 := p92 n x.1 x.2.1
noncomputable def Sm92 : Sm := ⟨ps92, rs92, false, q92⟩
theorem holds92 (hg : GamOK Try.prog G92) : Holds Try.prog 92 Sm92 := by
  have := h0_92 hg
  have e : (runF TT G92 an92 Try.f92 c92 ps92 rs92) = q92 := by
    funext n x
    exact F92_eq n x.1 x.2.1
  rw [e] at this
  exact this
theorem gam92 : GamOK Try.prog G92 := by
  intro f s h
  unfold G92 at h
  split at h
  · injection h with h; subst h; exact ⟨⟨Try.f117, c117, Try.func117, by kernel_rfl, by decide +kernel⟩, hh117⟩
  · cases h
theorem hh92 : Holds Try.prog 92 Sm92 := holds92 gam92
end Go.Proofs.Ytpcohpkflkhfbaa.Rx.S
namespace Go.Proofs.Ytpcohpkflkhfbaa.Rx.S
open Go Go.RowKit Go.Proofs
set_option maxRecDepth 100000
noncomputable def c119 : Code := (Try.f119.body.getD .skip)
abbrev ps119 : List PK := [.val (.row 111 tTh) false]
abbrev rs119 : List RK := [.own (.row 111 tTh) false]
abbrev R119 := retsD rs119 × outsD ps119
noncomputable def p119 (n : Nat) (a : List (Int × Int × Int × Bool)) : Option R119 := cond (decide ((0 + a.length) * (32 : Nat) ≤ (140737488355328 : Nat))) (some ((a, ()), ())) none
noncomputable def q119 (n : Nat) (x : argsD ps119) : Option R119 := p119 n x.1
noncomputable def Sm119 : Sm := ⟨ps119, rs119, false, q119⟩
noncomputable def S0_119 (n : Nat) (xs : List (Int × Int × Int × Bool)) : St := (initS Try.f119.ntmps ps119 (xs, ())).put (some 2) (.one .nil)
noncomputable def S1_119 (n : Nat) (xs : List (Int × Int × Int × Bool)) : St := (S0_119 n xs).put (some 3) (.one (.con ⟨111, tTh, xs⟩))
theorem gam0_119 : GamOK Try.prog (fun _ => none) := fun f s h => by cases h
theorem hh119 : Holds Try.prog 119 Sm119 := by
  refine holds_nilq tt_ok gam0_119 mixed (an := ⟨fun _ => ⟨[], []⟩, fun _ _ => none⟩) Try.func119 (by rfl) rfl (by first | exact Try.underlying66 | kernel_rfl) (by decide +kernel) S0_119 (fun n xs => by kernel_rfl) S1_119 (fun n xs => by kernel_rfl) (fun n xs => rfl) (fun n xs b => by kernel_rfl) (fun n y h => ?_) (fun n xs y h => ?_)
  · have h' : some (([], ()), ()) = some y := h
    refine Eq.trans ?_ h'
    kernel_rfl
  · have h' : cond (decide ((0 + xs.length) * (32 : Nat) ≤ (140737488355328 : Nat))) (some ((xs, ()), ())) none = some y := h
    refine Eq.trans ?_ h'
    kernel_rfl
end Go.Proofs.Ytpcohpkflkhfbaa.Rx.S
namespace Go.Proofs.Ytpcohpkflkhfbaa.Rx.S
open Go Go.RowKit Go.Proofs
set_option maxRecDepth 100000
noncomputable def c93 : Code := (Try.f93.body.getD .skip)
def an93 : An := ⟨fun _ => ⟨[], []⟩, fun _ _ => none⟩
abbrev ps93 : List PK := [.val (.pair (.row 111 tTh) i64) true]
abbrev rs93 : List RK := [.own (.pair (.row 111 tTh) i64) true]
abbrev R93 := retsD rs93 × outsD ps93
noncomputable def G93 : Gam := fun f => match f with | 119 => some Sm119 | _ => none
theorem h0_93 (hg : GamOK Try.prog G93) : Holds Try.prog 93 ⟨ps93, rs93, false, runF TT G93 an93 Try.f93 c93 ps93 rs93⟩ := holds_of tt_ok hg mixed Try.func93 (by kernel_rfl) (by rfl) (by decide +kernel)
noncomputable def at93 : Nat → Pt → List Nat → St → Option R93 := atF TT G93 an93 Try.f93 c93 _ _
noncomputable def st93_top (n : Nat)  (a : List (Int × Int × Int × Bool) × Int) : Option R93 :=
  (Go.Proofs.Ytpcohpkflkhfbaa.Rx.S.q119 n (a.fst, ())).bind fun r0 => some (((r0.fst.fst, a.snd), ()), ())
theorem e93_top (n : Nat) (a : List (Int × Int × Int × Bool) × Int) : runF TT G93 an93 Try.f93 c93 ps93 rs93 n (a, ()) = st93_top n  a := by kernel_rfl
noncomputable def p93 (n : Nat) (a : List (Int × Int × Int × Bool) × Int) : Option R93 := st93_top n  a
theorem F93_eq (n : Nat) (a : List (Int × Int × Int × Bool) × Int) : runF TT G93 an93 Try.f93 c93 ps93 rs93 n (a, ()) = p93 n a := by
  rw [e93_top]
  skip
  try rfl
noncomputable def q93 (n : Nat) (x : argsD ps93) : Option R93 := p93 n x.1
noncomputable def Sm93 : Sm := ⟨ps93, rs93, false, q93⟩
theorem holds93 (hg : GamOK Try.prog G93) : Holds Try.prog 93 Sm93 := by
  have := h0_93 hg
  have e : (runF TT G93 an93 Try.f93 c93 ps93 rs93) = q93 := by
    funext n x
    exact F93_eq n x.1
  rw [e] at this
  exact this
theorem gam93 : GamOK Try.prog G93 := by
  intro f s h
  unfold G93 at h
  split at h
  · injection h with h; subst h; exact ⟨⟨Try.f119, c119, Try.func119, by kernel_rfl, by decide +kernel⟩, hh119⟩
  · cases h
theorem hh93 : Holds Try.prog 93 Sm93 := holds93 gam93
end Go.Proofs.Ytpcohpkflkhfbaa.Rx.S
namespace Go.Proofs.Ytpcohpkflkhfbaa.Rx.S
open Go Go.RowKit Go.Proofs
set_option maxRecDepth 100000
noncomputable def c95 : Code := (Try.f95.body.getD .skip)
def an95 : An := ⟨fun _ => ⟨[], []⟩, fun _ _ => none⟩
abbrev ps95 : List PK := [.val tTh true, .val tTh true]
abbrev rs95 : List RK := [.val i64 false]
abbrev R95 := retsD rs95 × outsD ps95
noncomputable def G95 : Gam := fun _ => none
theorem h0_95 (hg : GamOK Try.prog G95) : Holds Try.prog 95 ⟨ps95, rs95, false, runF TT G95 an95 Try.f95 c95 ps95 rs95⟩ := holds_of tt_ok hg mixed Try.func95 (by kernel_rfl) (by rfl) (by decide +kernel)
noncomputable def at95 : Nat → Pt → List Nat → St → Option R95 := atF TT G95 an95 Try.f95 c95 _ _
noncomputable def st95_top (n : Nat)  (a : Int × Int × Int × Bool) (b : Int × Int × Int × Bool) : Option R95 :=
  some ((Go.IntKind.i64.wrap (a.fst - b.fst), ()), ())
theorem e95_top (n : Nat) (a : Int × Int × Int × Bool) (b : Int × Int × Int × Bool) : runF TT G95 an95 Try.f95 c95 ps95 rs95 n (a, b, ()) = st95_top n  a b := by kernel_rfl
noncomputable def p95 (n : Nat) (a : Int × Int × Int × Bool) (b : Int × Int × Int × Bool) : Option R95 := st95_top n  a b
theorem F95_eq (n : Nat) (a : Int × Int × Int × Bool) (b : Int × Int × Int × Bool) : runF TT G95 an95 Try.f95 c95 ps95 rs95 n (a, b, ()) = p95 n a b := by
  rw [e95_top]
  skip
  try rfl
noncomputable def q95 (n : Nat) (x : argsD ps95) : Option R95 := p95 n x.1 x.2.1
noncomputable def Sm95 : Sm := ⟨ps95, rs95, false, q95⟩
theorem holds95 (hg : GamOK Try.prog G95) : Holds Try.prog 95 Sm95 := by
  have := h0_95 hg
  have e : (runF TT G95 an95 Try.f95 c95 ps95 rs95) = q95 := by
    funext n x
    exact F95_eq n x.1 x.2.1
  rw [e] at this
  exact this
theorem gam95 : GamOK Try.prog G95 := fun _ _ h => by cases h
theorem hh95 : Holds Try.prog 95 Sm95 := holds95 gam95
end Go.Proofs.Ytpcohpkflkhfbaa.Rx.S
namespace Go.Proofs.Ytpcohpkflkhfbaa.Rx.S
open Go Go.RowKit Go.Proofs
set_option maxRecDepth 100000
noncomputable def c125 : Code := (Try.f125.body.getD .skip)
def an125 : An := ⟨fun r => match r with | 1 => ⟨[0, 1, 2, 3, 8], []⟩ | 4 => ⟨[0, 1, 2, 3, 8, 9], []⟩ | _ => ⟨[], []⟩, fun _ _ => none⟩
abbrev ps125 : List PK := [.io (.row 111 tTh) false, .val i64 false, .val i64 false, .fn 95 []]
abbrev rs125 : List RK := []
abbrev R125 := retsD rs125 × outsD ps125
noncomputable def G125 : Gam := fun f => match f with | 95 => some Sm95 | _ => none
theorem h0_125 (hg : GamOK Try.prog G125) : Holds Try.prog 125 ⟨ps125, rs125, false, runF TT G125 an125 Try.f125 c125 ps125 rs125⟩ := holds_of tt_ok hg mixed Try.func125 (by kernel_rfl) (by rfl) (by decide +kernel)
noncomputable def at125 : Nat → Pt → List Nat → St → Option R125 := atF TT G125 an125 Try.f125 c125 _ _
def sh125_L4 (x0 : Int) (x1 : Int) (x2 : Int) (x3 : Int) (x4 : List (Int × Int × Int × Bool)) : St := (Go.Proofs.Ytpcohpkflkhfbaa.Rx.St.mk ((Go.Proofs.Ytpcohpkflkhfbaa.Rx.AV.par 0 false ((Go.Proofs.Ytpcohpkflkhfbaa.Rx.SV.ref 1000000 0 [] Option.none) :: [])) :: ((Go.Proofs.Ytpcohpkflkhfbaa.Rx.AV.one (Go.Proofs.Ytpcohpkflkhfbaa.Rx.SV.int (Go.IntKind.i64) x0)) :: ((Go.Proofs.Ytpcohpkflkhfbaa.Rx.AV.one (Go.Proofs.Ytpcohpkflkhfbaa.Rx.SV.int (Go.IntKind.i64) x1)) :: ((Go.Proofs.Ytpcohpkflkhfbaa.Rx.AV.fn 95 []) :: (Go.Proofs.Ytpcohpkflkhfbaa.Rx.AV.undef :: (Go.Proofs.Ytpcohpkflkhfbaa.Rx.AV.undef :: (Go.Proofs.Ytpcohpkflkhfbaa.Rx.AV.undef :: (Go.Proofs.Ytpcohpkflkhfbaa.Rx.AV.undef :: ((Go.Proofs.Ytpcohpkflkhfbaa.Rx.AV.one (Go.Proofs.Ytpcohpkflkhfbaa.Rx.SV.int (Go.IntKind.i64) x2)) :: ((Go.Proofs.Ytpcohpkflkhfbaa.Rx.AV.one (Go.Proofs.Ytpcohpkflkhfbaa.Rx.SV.int (Go.IntKind.i64) x3)) :: (Go.Proofs.Ytpcohpkflkhfbaa.Rx.AV.undef :: (Go.Proofs.Ytpcohpkflkhfbaa.Rx.AV.undef :: (Go.Proofs.Ytpcohpkflkhfbaa.Rx.AV.undef :: (Go.Proofs.Ytpcohpkflkhfbaa.Rx.AV.undef :: (Go.Proofs.Ytpcohpkflkhfbaa.Rx.AV.undef :: (Go.Proofs.Ytpcohpkflkhfbaa.Rx.AV.undef :: (Go.Proofs.Ytpcohpkflkhfbaa.Rx.AV.undef :: (Go.Proofs.Ytpcohpkflkhfbaa.Rx.AV.undef :: (Go.Proofs.Ytpcohpkflkhfbaa.Rx.AV.undef :: (Go.Proofs.Ytpcohpkflkhfbaa.Rx.AV.undef :: (Go.Proofs.Ytpcohpkflkhfbaa.Rx.AV.undef :: (Go.Proofs.Ytpcohpkflkhfbaa.Rx.AV.undef :: (Go.Proofs.Ytpcohpkflkhfbaa.Rx.AV.undef :: (Go.Proofs.Ytpcohpkflkhfbaa.Rx.AV.undef :: (Go.Proofs.Ytpcohpkflkhfbaa.Rx.AV.undef :: (Go.Proofs.Ytpcohpkflkhfbaa.Rx.AV.undef :: (Go.Proofs.Ytpcohpkflkhfbaa.Rx.AV.undef :: (Go.Proofs.Ytpcohpkflkhfbaa.Rx.AV.undef :: (Go.Proofs.Ytpcohpkflkhfbaa.Rx.AV.undef :: (Go.Proofs.Ytpcohpkflkhfbaa.Rx.AV.undef :: (Go.Proofs.Ytpcohpkflkhfbaa.Rx.AV.undef :: (Go.Proofs.Ytpcohpkflkhfbaa.Rx.AV.undef :: (Go.Proofs.Ytpcohpkflkhfbaa.Rx.AV.undef :: (Go.Proofs.Ytpcohpkflkhfbaa.Rx.AV.undef :: (Go.Proofs.Ytpcohpkflkhfbaa.Rx.AV.undef :: (Go.Proofs.Ytpcohpkflkhfbaa.Rx.AV.undef :: (Go.Proofs.Ytpcohpkflkhfbaa.Rx.AV.undef :: (Go.Proofs.Ytpcohpkflkhfbaa.Rx.AV.undef :: (Go.Proofs.Ytpcohpkflkhfbaa.Rx.AV.undef :: (Go.Proofs.Ytpcohpkflkhfbaa.Rx.AV.undef :: (Go.Proofs.Ytpcohpkflkhfbaa.Rx.AV.undef :: (Go.Proofs.Ytpcohpkflkhfbaa.Rx.AV.undef :: (Go.Proofs.Ytpcohpkflkhfbaa.Rx.AV.undef :: (Go.Proofs.Ytpcohpkflkhfbaa.Rx.AV.undef :: (Go.Proofs.Ytpcohpkflkhfbaa.Rx.AV.undef :: (Go.Proofs.Ytpcohpkflkhfbaa.Rx.AV.undef :: (Go.Proofs.Ytpcohpkflkhfbaa.Rx.AV.undef :: (Go.Proofs.Ytpcohpkflkhfbaa.Rx.AV.undef :: (Go.Proofs.Ytpcohpkflkhfbaa.Rx.AV.undef :: (Go.Proofs.Ytpcohpkflkhfbaa.Rx.AV.undef :: (Go.Proofs.Ytpcohpkflkhfbaa.Rx.AV.undef :: (Go.Proofs.Ytpcohpkflkhfbaa.Rx.AV.undef :: (Go.Proofs.Ytpcohpkflkhfbaa.Rx.AV.undef :: []))))))))))))))))))))))))))))))))))))))))))))))))))))) ((1000000, (Go.Proofs.Ytpcohpkflkhfbaa.Rx.Ent.row (⟨111, (Go.Proofs.Ytpcohpkflkhfbaa.Rx.Ty.int Go.IntKind.i64).pair   ((Go.Proofs.Ytpcohpkflkhfbaa.Rx.Ty.int Go.IntKind.i64).pair ((Go.Proofs.Ytpcohpkflkhfbaa.Rx.Ty.int Go.IntKind.i64).pair Go.Proofs.Ytpcohpkflkhfbaa.Rx.Ty.bool)), x4⟩ : Rw) 0 Option.none)) :: []))
def sh125_L1 (x0 : Int) (x1 : Int) (x2 : Int) (x3 : List (Int × Int × Int × Bool)) : St := (Go.Proofs.Ytpcohpkflkhfbaa.Rx.St.mk ((Go.Proofs.Ytpcohpkflkhfbaa.Rx.AV.par 0 false ((Go.Proofs.Ytpcohpkflkhfbaa.Rx.SV.ref 1000000 0 [] Option.none) :: [])) :: ((Go.Proofs.Ytpcohpkflkhfbaa.Rx.AV.one (Go.Proofs.Ytpcohpkflkhfbaa.Rx.SV.int (Go.IntKind.i64) x0)) :: ((Go.Proofs.Ytpcohpkflkhfbaa.Rx.AV.one (Go.Proofs.Ytpcohpkflkhfbaa.Rx.SV.int (Go.IntKind.i64) x1)) :: ((Go.Proofs.Ytpcohpkflkhfbaa.Rx.AV.fn 95 []) :: (Go.Proofs.Ytpcohpkflkhfbaa.Rx.AV.undef :: (Go.Proofs.Ytpcohpkflkhfbaa.Rx.AV.undef :: (Go.Proofs.Ytpcohpkflkhfbaa.Rx.AV.undef :: (Go.Proofs.Ytpcohpkflkhfbaa.Rx.AV.undef :: ((Go.Proofs.Ytpcohpkflkhfbaa.Rx.AV.one (Go.Proofs.Ytpcohpkflkhfbaa.Rx.SV.int (Go.IntKind.i64) x2)) :: (Go.Proofs.Ytpcohpkflkhfbaa.Rx.AV.undef :: (Go.Proofs.Ytpcohpkflkhfbaa.Rx.AV.undef :: (Go.Proofs.Ytpcohpkflkhfbaa.Rx.AV.undef :: (Go.Proofs.Ytpcohpkflkhfbaa.Rx.AV.undef :: (Go.Proofs.Ytpcohpkflkhfbaa.Rx.AV.undef :: (Go.Proofs.Ytpcohpkflkhfbaa.Rx.AV.undef :: (Go.Proofs.Ytpcohpkflkhfbaa.Rx.AV.undef :: (Go.Proofs.Ytpcohpkflkhfbaa.Rx.AV.undef :: (Go.Proofs.Ytpcohpkflkhfbaa.Rx.AV.undef :: (Go.Proofs.Ytpcohpkflkhfbaa.Rx.AV.undef :: (Go.Proofs.Ytpcohpkflkhfbaa.Rx.AV.undef :: (Go.Proofs.Ytpcohpkflkhfbaa.Rx.AV.undef :: (Go.Proofs.Ytpcohpkflkhfbaa.Rx.AV.undef :: (Go.Proofs.Ytpcohpkflkhfbaa.Rx.AV.undef :: (Go.Proofs.Ytpcohpkflkhfbaa.Rx.AV.undef :: (Go.Proofs.Ytpcohpkflkhfbaa.Rx.AV.undef :: (Go.Proofs.Ytpcohpkflkhfbaa.Rx.AV.undef :: (Go.Proofs.Ytpcohpkflkhfbaa.Rx.AV.undef :: (Go.Proofs.Ytpcohpkflkhfbaa.Rx.AV.undef :: (Go.Proofs.Ytpcohpkflkhfbaa.Rx.AV.undef :: (Go.Proofs.Ytpcohpkflkhfbaa.Rx.AV.undef :: (Go.Proofs.Ytpcohpkflkhfbaa.Rx.AV.undef :: (Go.Proofs.Ytpcohpkflkhfbaa.Rx.AV.undef :: (Go.Proofs.Ytpcohpkflkhfbaa.Rx.AV.undef :: (Go.Proofs.Ytpcohpkflkhfbaa.Rx.AV.undef :: (Go.Proofs.Ytpcohpkflkhfbaa.Rx.AV.undef :: (Go.Proofs.Ytpcohpkflkhfbaa.Rx.AV.undef :: (Go.Proofs.Ytpcohpkflkhfbaa.Rx.AV.undef :: (Go.Proofs.Ytpcohpkflkhfbaa.Rx.AV.undef :: (Go.Proofs.Ytpcohpkflkhfbaa.Rx.AV.undef :: (Go.Proofs.Ytpcohpkflkhfbaa.Rx.AV.undef :: (Go.Proofs.Ytpcohpkflkhfbaa.Rx.AV.undef :: (Go.Proofs.Ytpcohpkflkhfbaa.Rx.AV.undef :: (Go.Proofs.Ytpcohpkflkhfbaa.Rx.AV.undef :: (Go.Proofs.Ytpcohpkflkhfbaa.Rx.AV.undef :: (Go.Proofs.Ytpcohpkflkhfbaa.Rx.AV.undef :: (Go.Proofs.Ytpcohpkflkhfbaa.Rx.AV.undef :: (Go.Proofs.Ytpcohpkflkhfbaa.Rx.AV.undef :: (Go.Proofs.Ytpcohpkflkhfbaa.Rx.AV.undef :: (Go.Proofs.Ytpcohpkflkhfbaa.Rx.AV.undef :: (Go.Proofs.Ytpcohpkflkhfbaa.Rx.AV.undef :: (Go.Proofs.Ytpcohpkflkhfbaa.Rx.AV.undef :: (Go.Proofs.Ytpcohpkflkhfbaa.Rx.AV.undef :: (Go.Proofs.Ytpcohpkflkhfbaa.Rx.AV.undef :: []))))))))))))))))))))))))))))))))))))))))))))))))))))) ((1000000, (Go.Proofs.Ytpcohpkflkhfbaa.Rx.Ent.row (⟨111, (Go.Proofs.Ytpcohpkflkhfbaa.Rx.Ty.int Go.IntKind.i64).pair   ((Go.Proofs.Ytpcohpkflkhfbaa.Rx.Ty.int Go.IntKind.i64).pair ((Go.Proofs.Ytpcohpkflkhfbaa.Rx.Ty.int Go.IntKind.i64).pair Go.Proofs.Ytpcohpkflkhfbaa.Rx.Ty.bool)), x3⟩ : Rw) 0 Option.none)) :: []))
noncomputable def st125_top (n : Nat) (lL1 : Int → Int → Int → (List (Int × Int × Int × Bool)) → Option R125) (a : List (Int × Int × Int × Bool)) (b : Int) (c : Int) (d : Unit) : Option R125 :=
  lL1 (b) (c) (Go.IntKind.i64.wrap (b + (1 : Int))) (a)
noncomputable def st125_L4 (n : Nat) (lL4 : Int → Int → Int → Int → (List (Int × Int × Int × Bool)) → Option R125) (lL1 : Int → Int → Int → (List (Int × Int × Int × Bool)) → Option R125) (x0 : Int) (x1 : Int) (x2 : Int) (x3 : Int) (x4 : List (Int × Int × Int × Bool)) : Option R125 :=
  cond (decide (x0 < x3)) (cond (decide ((0 : Int) ≤ x3)) (cond (decide (x3 < (↑x4.length : Int))) (cond (decide ((0 : Int) ≤ Go.IntKind.i64.wrap (x3 - (1 : Int)))) (cond (decide (Go.IntKind.i64.wrap (x3 - (1 : Int)) < (↑x4.length : Int))) ((Go.Proofs.Ytpcohpkflkhfbaa.Rx.S.q95 n   (((x4.getD x3.toNat ((0 : Int), (0 : Int), (0 : Int), false)).fst,       (x4.getD x3.toNat ((0 : Int), (0 : Int), (0 : Int), false)).snd.fst,       (x4.getD x3.toNat ((0 : Int), (0 : Int), (0 : Int), false)).snd.snd.fst,       (x4.getD x3.toNat ((0 : Int), (0 : Int), (0 : Int), false)).snd.snd.snd),     ((x4.getD (Go.IntKind.i64.wrap (x3 - (1 : Int))).toNat ((0 : Int), (0 : Int), (0 : Int), false)).fst,       (x4.getD (Go.IntKind.i64.wrap (x3 - (1 : Int))).toNat ((0 : Int), (0 : Int), (0 : Int), false)).snd.fst,       (x4.getD (Go.IntKind.i64.wrap (x3 - (1 : Int))).toNat ((0 : Int), (0 : Int), (0 : Int), false)).snd.snd.fst,       (x4.getD (Go.IntKind.i64.wrap (x3 - (1 : Int))).toNat ((0 : Int), (0 : Int), (0 : Int), false)).snd.snd.snd),     ())).bind fun r2 => cond (decide (r2.fst.fst < (0 : Int))) (cond (decide ((0 : Int) ≤ Go.IntKind.i64.wrap (x3 - (1 : Int)))) (cond (decide (Go.IntKind.i64.wrap (x3 - (1 : Int)) < (↑x4.length : Int))) (cond (decide ((0 : Int) ≤ x3)) (cond (decide (x3 < (↑x4.length : Int))) (cond (decide ((0 : Int) ≤ x3)) (cond (decide (x3 < (↑x4.length : Int))) (cond (decide ((0 : Int) ≤ Go.IntKind.i64.wrap (x3 - (1 : Int)))) (cond (decide   (Go.IntKind.i64.wrap (x3 - (1 : Int)) <     (↑(x4.set x3.toNat             ((x4.getD (Go.IntKind.i64.wrap (x3 - (1 : Int))).toNat ((0 : Int), (0 : Int), (0 : Int), false)).fst,               (x4.getD (Go.IntKind.i64.wrap (x3 - (1 : Int))).toNat ((0 : Int), (0 : Int), (0 : Int), false)).snd.fst,               (x4.getD (Go.IntKind.i64.wrap (x3 - (1 : Int))).toNat                       ((0 : Int), (0 : Int), (0 : Int), false)).snd.snd.fst,               (x4.getD (Go.IntKind.i64.wrap (x3 - (1 : Int))).toNat                       ((0 : Int), (0 : Int), (0 : Int), false)).snd.snd.snd)).length :       Int))) (lL4 (x0) (x1) (x2) (Go.IntKind.i64.wrap (x3 - (1 : Int))) ((x4.set x3.toNat       ((x4.getD (Go.IntKind.i64.wrap (x3 - (1 : Int))).toNat ((0 : Int), (0 : Int), (0 : Int), false)).fst,         (x4.getD (Go.IntKind.i64.wrap (x3 - (1 : Int))).toNat ((0 : Int), (0 : Int), (0 : Int), false)).snd.fst,         (x4.getD (Go.IntKind.i64.wrap (x3 - (1 : Int))).toNat ((0 : Int), (0 : Int), (0 : Int), false)).snd.snd.fst,         (x4.getD (Go.IntKind.i64.wrap (x3 - (1 : Int))).toNat                 ((0 : Int), (0 : Int), (0 : Int), false)).snd.snd.snd)).set   (Go.IntKind.i64.wrap (x3 - (1 : Int))).toNat   ((x4.getD x3.toNat ((0 : Int), (0 : Int), (0 : Int), false)).fst,     (x4.getD x3.toNat ((0 : Int), (0 : Int), (0 : Int), false)).snd.fst,     (x4.getD x3.toNat ((0 : Int), (0 : Int), (0 : Int), false)).snd.snd.fst,     (x4.getD x3.toNat ((0 : Int), (0 : Int), (0 : Int), false)).snd.snd.snd))) (none)) (none)) (none)) (none)) (none)) (none)) (none)) (none)) (lL1 (x0) (x1) (Go.IntKind.i64.wrap (x2 + (1 : Int))) (x4))) (none)) (none)) (none)) (none)) (lL1 (x0) (x1) (Go.IntKind.i64.wrap (x2 + (1 : Int))) (x4))
noncomputable def st125_L1 (n : Nat) (lL4 : Int → Int → Int → Int → (List (Int × Int × Int × Bool)) → Option R125) (x0 : Int) (x1 : Int) (x2 : Int) (x3 : List (Int × Int × Int × Bool)) : Option R125 :=
  cond (decide (x2 < x1)) (lL4 (x0) (x1) (x2) (x2) (x3)) (some ((), (x3, ())))
theorem e125_top (n : Nat) (a : List (Int × Int × Int × Bool)) (b : Int) (c : Int) (d : Unit) : runF TT G125 an125 Try.f125 c125 ps125 rs125 n (a, b, c, d, ()) = st125_top n (fun x0 x1 x2 x3 => at125 n (.head 1) [n] (sh125_L1 x0 x1 x2 x3)) a b c d := by kernel_rfl
theorem e125_L4_0 (n : Nat) (m1 : Nat) (x0 : Int) (x1 : Int) (x2 : Int) (x3 : Int) (x4 : List (Int × Int × Int × Bool)) : at125 n (.head 4) [m1, 0] (sh125_L4 x0 x1 x2 x3 x4) = none := by kernel_rfl
theorem e125_L4 (n : Nat) (m1 : Nat) (m4 : Nat) (x0 : Int) (x1 : Int) (x2 : Int) (x3 : Int) (x4 : List (Int × Int × Int × Bool)) : at125 n (.head 4) [m1, m4 + 1] (sh125_L4 x0 x1 x2 x3 x4) = st125_L4 n (fun x0 x1 x2 x3 x4 => at125 n (.head 4) [m1, m4] (sh125_L4 x0 x1 x2 x3 x4)) (fun x0 x1 x2 x3 => at125 n (.head 1) [m1] (sh125_L1 x0 x1 x2 x3)) x0 x1 x2 x3 x4 := by kernel_rfl
theorem e125_L1_0 (n : Nat) (x0 : Int) (x1 : Int) (x2 : Int) (x3 : List (Int × Int × Int × Bool)) : at125 n (.head 1) [0] (sh125_L1 x0 x1 x2 x3) = none := by kernel_rfl
theorem e125_L1 (n : Nat) (m1 : Nat) (x0 : Int) (x1 : Int) (x2 : Int) (x3 : List (Int × Int × Int × Bool)) : at125 n (.head 1) [m1 + 1] (sh125_L1 x0 x1 x2 x3) = st125_L1 n (fun x0 x1 x2 x3 x4 => at125 n (.head 4) [m1, n] (sh125_L4 x0 x1 x2 x3 x4)) x0 x1 x2 x3 := by kernel_rfl
noncomputable def p125_L4 (g1 : Int → Int → Int → (List (Int × Int × Int × Bool)) → Option R125) (n : Nat) : Nat → Int → Int → Int → Int → (List (Int × Int × Int × Bool)) → Option R125
  | 0, _, _, _, _, _ => none
  | m + 1, x0, x1, x2, x3, x4 => st125_L4 n (p125_L4 g1 n m) g1 x0 x1 x2 x3 x4
noncomputable def p125_L1 (n : Nat) : Nat → Int → Int → Int → (List (Int × Int × Int × Bool)) → Option R125
  | 0, _, _, _, _ => none
  | m + 1, x0, x1, x2, x3 => st125_L1 n (p125_L4 (p125_L1 n m) n n) x0 x1 x2 x3
noncomputable def p125 (n : Nat) (a : List (Int × Int × Int × Bool)) (b : Int) (c : Int) (d : Unit) : Option R125 := st125_top n (p125_L1 n n) a b c d
theorem t125_L4 (n : Nat) (m1 : Nat) : ∀ (m4 : Nat) (x0 : Int) (x1 : Int) (x2 : Int) (x3 : Int) (x4 : List (Int × Int × Int × Bool)), at125 n (.head 4) [m1, m4] (sh125_L4 x0 x1 x2 x3 x4) = p125_L4 (fun x0 x1 x2 x3 => at125 n (.head 1) [m1] (sh125_L1 x0 x1 x2 x3)) n m4 x0 x1 x2 x3 x4 := by
  intro m
  induction m with
  | zero => intros; rw [e125_L4_0]; rfl
  | succ m ih =>
    intros
    rw [e125_L4]
    simp only [ih]
    rfl
theorem t125_L1 (n : Nat) : ∀ (m1 : Nat) (x0 : Int) (x1 : Int) (x2 : Int) (x3 : List (Int × Int × Int × Bool)), at125 n (.head 1) [m1] (sh125_L1 x0 x1 x2 x3) = p125_L1  n m1 x0 x1 x2 x3 := by
  intro m
  induction m with
  | zero => intros; rw [e125_L1_0]; rfl
  | succ m ih =>
    intros
    rw [e125_L1]
    simp only [t125_L4, ih]
    rfl
theorem F125_eq (n : Nat) (a : List (Int × Int × Int × Bool)) (b : Int) (c : Int) (d : Unit) : runF TT G125 an125 Try.f125 c125 ps125 rs125 n (a, b, c, d, ()) = p125 n a b c d := by
  rw [e125_top]
  simp only [t125_L1]
  try rfl
noncomputable def q125 (n : Nat) (x : argsD ps125) : Option R125 := p125 n x.1 x.2.1 x.2.2.1 x.2.2.2.1
noncomputable def Sm125 : Sm := ⟨ps125, rs125, false, q125⟩
theorem holds125 (hg : GamOK Try.prog G125) : Holds Try.prog 125 Sm125 := by
  have := h0_125 hg
  have e : (runF TT G125 an125 Try.f125 c125 ps125 rs125) = q125 := by
    funext n x
    exact F125_eq n x.1 x.2.1 x.2.2.1 x.2.2.2.1
  rw [e] at this
  exact this
theorem gam125 : GamOK Try.prog G125 := by
  intro f s h
  unfold G125 at h
  split at h
  · injection h with h; subst h; exact ⟨⟨Try.f95, c95, Try.func95, by kernel_rfl, by decide +kernel⟩, hh95⟩
  · cases h
theorem hh125 : Holds Try.prog 125 Sm125 := holds125 gam125
end Go.Proofs.Ytpcohpkflkhfbaa.Rx.S
namespace Go.Proofs.Ytpcohpkflkhfbaa.Rx.S
open Go Go.RowKit Go.Proofs
set_option maxRecDepth 100000
noncomputable def c120 : Code := (Try.f120.body.getD .skip)
def an120 : An := ⟨fun r => match r with | 2 => ⟨[0, 1, 2, 3, 4, 10, 11], []⟩ | _ => ⟨[], []⟩, fun _ _ => none⟩
abbrev ps120 : List PK := [.io (.row 111 tTh) false, .val i64 false, .val i64 false, .val i64 false, .fn 95 []]
abbrev rs120 : List RK := []
abbrev R120 := retsD rs120 × outsD ps120
noncomputable def G120 : Gam := fun f => match f with | 125 => some Sm125 | _ => none
theorem h0_120 (hg : GamOK Try.prog G120) : Holds Try.prog 120 ⟨ps120, rs120, false, runF TT G120 an120 Try.f120 c120 ps120 rs120⟩ := holds_of tt_ok hg mixed Try.func120 (by kernel_rfl) (by rfl) (by decide +kernel)
noncomputable def at120 : Nat → Pt → List Nat → St → Option R120 := atF TT G120 an120 Try.f120 c120 _ _
def sh120_L2 (x0 : Int) (x1 : Int) (x2 : Int) (x3 : Bool) (x4 : Bool) (x5 : List (Int × Int × Int × Bool)) : St := (Go.Proofs.Ytpcohpkflkhfbaa.Rx.St.mk ((Go.Proofs.Ytpcohpkflkhfbaa.Rx.AV.par 0 false ((Go.Proofs.Ytpcohpkflkhfbaa.Rx.SV.ref 1000000 0 [] Option.none) :: [])) :: ((Go.Proofs.Ytpcohpkflkhfbaa.Rx.AV.one (Go.Proofs.Ytpcohpkflkhfbaa.Rx.SV.int (Go.IntKind.i64) x0)) :: ((Go.Proofs.Ytpcohpkflkhfbaa.Rx.AV.one (Go.Proofs.Ytpcohpkflkhfbaa.Rx.SV.int (Go.IntKind.i64) x1)) :: ((Go.Proofs.Ytpcohpkflkhfbaa.Rx.AV.one (Go.Proofs.Ytpcohpkflkhfbaa.Rx.SV.int (Go.IntKind.i64) x2)) :: ((Go.Proofs.Ytpcohpkflkhfbaa.Rx.AV.fn 95 []) :: (Go.Proofs.Ytpcohpkflkhfbaa.Rx.AV.undef :: (Go.Proofs.Ytpcohpkflkhfbaa.Rx.AV.undef :: (Go.Proofs.Ytpcohpkflkhfbaa.Rx.AV.undef :: (Go.Proofs.Ytpcohpkflkhfbaa.Rx.AV.undef :: (Go.Proofs.Ytpcohpkflkhfbaa.Rx.AV.undef :: ((Go.Proofs.Ytpcohpkflkhfbaa.Rx.AV.one (Go.Proofs.Ytpcohpkflkhfbaa.Rx.SV.bool x3)) :: ((Go.Proofs.Ytpcohpkflkhfbaa.Rx.AV.one (Go.Proofs.Ytpcohpkflkhfbaa.Rx.SV.bool x4)) :: (Go.Proofs.Ytpcohpkflkhfbaa.Rx.AV.undef :: (Go.Proofs.Ytpcohpkflkhfbaa.Rx.AV.undef :: (Go.Proofs.Ytpcohpkflkhfbaa.Rx.AV.undef :: (Go.Proofs.Ytpcohpkflkhfbaa.Rx.AV.undef :: (Go.Proofs.Ytpcohpkflkhfbaa.Rx.AV.undef :: (Go.Proofs.Ytpcohpkflkhfbaa.Rx.AV.undef :: (Go.Proofs.Ytpcohpkflkhfbaa.Rx.AV.undef :: (Go.Proofs.Ytpcohpkflkhfbaa.Rx.AV.undef :: (Go.Proofs.Ytpcohpkflkhfbaa.Rx.AV.undef :: (Go.Proofs.Ytpcohpkflkhfbaa.Rx.AV.undef :: (Go.Proofs.Ytpcohpkflkhfbaa.Rx.AV.undef :: (Go.Proofs.Ytpcohpkflkhfbaa.Rx.AV.undef :: (Go.Proofs.Ytpcohpkflkhfbaa.Rx.AV.undef :: (Go.Proofs.Ytpcohpkflkhfbaa.Rx.AV.undef :: (Go.Proofs.Ytpcohpkflkhfbaa.Rx.AV.undef :: (Go.Proofs.Ytpcohpkflkhfbaa.Rx.AV.undef :: (Go.Proofs.Ytpcohpkflkhfbaa.Rx.AV.undef :: (Go.Proofs.Ytpcohpkflkhfbaa.Rx.AV.undef :: (Go.Proofs.Ytpcohpkflkhfbaa.Rx.AV.undef :: (Go.Proofs.Ytpcohpkflkhfbaa.Rx.AV.undef :: (Go.Proofs.Ytpcohpkflkhfbaa.Rx.AV.undef :: (Go.Proofs.Ytpcohpkflkhfbaa.Rx.AV.undef :: (Go.Proofs.Ytpcohpkflkhfbaa.Rx.AV.undef :: (Go.Proofs.Ytpcohpkflkhfbaa.Rx.AV.undef :: (Go.Proofs.Ytpcohpkflkhfbaa.Rx.AV.undef :: (Go.Proofs.Ytpcohpkflkhfbaa.Rx.AV.undef :: (Go.Proofs.Ytpcohpkflkhfbaa.Rx.AV.undef :: (Go.Proofs.Ytpcohpkflkhfbaa.Rx.AV.undef :: (Go.Proofs.Ytpcohpkflkhfbaa.Rx.AV.undef :: (Go.Proofs.Ytpcohpkflkhfbaa.Rx.AV.undef :: (Go.Proofs.Ytpcohpkflkhfbaa.Rx.AV.undef :: (Go.Proofs.Ytpcohpkflkhfbaa.Rx.AV.undef :: (Go.Proofs.Ytpcohpkflkhfbaa.Rx.AV.undef :: (Go.Proofs.Ytpcohpkflkhfbaa.Rx.AV.undef :: (Go.Proofs.Ytpcohpkflkhfbaa.Rx.AV.undef :: (Go.Proofs.Ytpcohpkflkhfbaa.Rx.AV.undef :: (Go.Proofs.Ytpcohpkflkhfbaa.Rx.AV.undef :: (Go.Proofs.Ytpcohpkflkhfbaa.Rx.AV.undef :: (Go.Proofs.Ytpcohpkflkhfbaa.Rx.AV.undef :: (Go.Proofs.Ytpcohpkflkhfbaa.Rx.AV.undef :: (Go.Proofs.Ytpcohpkflkhfbaa.Rx.AV.undef :: (Go.Proofs.Ytpcohpkflkhfbaa.Rx.AV.undef :: (Go.Proofs.Ytpcohpkflkhfbaa.Rx.AV.undef :: (Go.Proofs.Ytpcohpkflkhfbaa.Rx.AV.undef :: (Go.Proofs.Ytpcohpkflkhfbaa.Rx.AV.undef :: (Go.Proofs.Ytpcohpkflkhfbaa.Rx.AV.undef :: (Go.Proofs.Ytpcohpkflkhfbaa.Rx.AV.undef :: (Go.Proofs.Ytpcohpkflkhfbaa.Rx.AV.undef :: (Go.Proofs.Ytpcohpkflkhfbaa.Rx.AV.undef :: (Go.Proofs.Ytpcohpkflkhfbaa.Rx.AV.undef :: (Go.Proofs.Ytpcohpkflkhfbaa.Rx.AV.undef :: (Go.Proofs.Ytpcohpkflkhfbaa.Rx.AV.undef :: (Go.Proofs.Ytpcohpkflkhfbaa.Rx.AV.undef :: (Go.Proofs.Ytpcohpkflkhfbaa.Rx.AV.undef :: (Go.Proofs.Ytpcohpkflkhfbaa.Rx.AV.undef :: (Go.Proofs.Ytpcohpkflkhfbaa.Rx.AV.undef :: (Go.Proofs.Ytpcohpkflkhfbaa.Rx.AV.undef :: (Go.Proofs.Ytpcohpkflkhfbaa.Rx.AV.undef :: (Go.Proofs.Ytpcohpkflkhfbaa.Rx.AV.undef :: (Go.Proofs.Ytpcohpkflkhfbaa.Rx.AV.undef :: (Go.Proofs.Ytpcohpkflkhfbaa.Rx.AV.undef :: (Go.Proofs.Ytpcohpkflkhfbaa.Rx.AV.undef :: (Go.Proofs.Ytpcohpkflkhfbaa.Rx.AV.undef :: (Go.Proofs.Ytpcohpkflkhfbaa.Rx.AV.undef :: (Go.Proofs.Ytpcohpkflkhfbaa.Rx.AV.undef :: (Go.Proofs.Ytpcohpkflkhfbaa.Rx.AV.undef :: (Go.Proofs.Ytpcohpkflkhfbaa.Rx.AV.undef :: (Go.Proofs.Ytpcohpkflkhfbaa.Rx.AV.undef :: (Go.Proofs.Ytpcohpkflkhfbaa.Rx.AV.undef :: (Go.Proofs.Ytpcohpkflkhfbaa.Rx.AV.undef :: (Go.Proofs.Ytpcohpkflkhfbaa.Rx.AV.undef :: (Go.Proofs.Ytpcohpkflkhfbaa.Rx.AV.undef :: (Go.Proofs.Ytpcohpkflkhfbaa.Rx.AV.undef :: (Go.Proofs.Ytpcohpkflkhfbaa.Rx.AV.undef :: (Go.Proofs.Ytpcohpkflkhfbaa.Rx.AV.undef :: (Go.Proofs.Ytpcohpkflkhfbaa.Rx.AV.undef :: (Go.Proofs.Ytpcohpkflkhfbaa.Rx.AV.undef :: (Go.Proofs.Ytpcohpkflkhfbaa.Rx.AV.undef :: (Go.Proofs.Ytpcohpkflkhfbaa.Rx.AV.undef :: (Go.Proofs.Ytpcohpkflkhfbaa.Rx.AV.undef :: (Go.Proofs.Ytpcohpkflkhfbaa.Rx.AV.undef :: (Go.Proofs.Ytpcohpkflkhfbaa.Rx.AV.undef :: (Go.Proofs.Ytpcohpkflkhfbaa.Rx.AV.undef :: (Go.Proofs.Ytpcohpkflkhfbaa.Rx.AV.undef :: (Go.Proofs.Ytpcohpkflkhfbaa.Rx.AV.undef :: (Go.Proofs.Ytpcohpkflkhfbaa.Rx.AV.undef :: (Go.Proofs.Ytpcohpkflkhfbaa.Rx.AV.undef :: (Go.Proofs.Ytpcohpkflkhfbaa.Rx.AV.undef :: (Go.Proofs.Ytpcohpkflkhfbaa.Rx.AV.undef :: (Go.Proofs.Ytpcohpkflkhfbaa.Rx.AV.undef :: (Go.Proofs.Ytpcohpkflkhfbaa.Rx.AV.undef :: (Go.Proofs.Ytpcohpkflkhfbaa.Rx.AV.undef :: (Go.Proofs.Ytpcohpkflkhfbaa.Rx.AV.undef :: (Go.Proofs.Ytpcohpkflkhfbaa.Rx.AV.undef :: (Go.Proofs.Ytpcohpkflkhfbaa.Rx.AV.undef :: (Go.Proofs.Ytpcohpkflkhfbaa.Rx.AV.undef :: (Go.Proofs.Ytpcohpkflkhfbaa.Rx.AV.undef :: (Go.Proofs.Ytpcohpkflkhfbaa.Rx.AV.undef :: (Go.Proofs.Ytpcohpkflkhfbaa.Rx.AV.undef :: (Go.Proofs.Ytpcohpkflkhfbaa.Rx.AV.undef :: (Go.Proofs.Ytpcohpkflkhfbaa.Rx.AV.undef :: (Go.Proofs.Ytpcohpkflkhfbaa.Rx.AV.undef :: (Go.Proofs.Ytpcohpkflkhfbaa.Rx.AV.undef :: (Go.Proofs.Ytpcohpkflkhfbaa.Rx.AV.undef :: (Go.Proofs.Ytpcohpkflkhfbaa.Rx.AV.undef :: (Go.Proofs.Ytpcohpkflkhfbaa.Rx.AV.undef :: (Go.Proofs.Ytpcohpkflkhfbaa.Rx.AV.undef :: (Go.Proofs.Ytpcohpkflkhfbaa.Rx.AV.undef :: (Go.Proofs.Ytpcohpkflkhfbaa.Rx.AV.undef :: (Go.Proofs.Ytpcohpkflkhfbaa.Rx.AV.undef :: (Go.Proofs.Ytpcohpkflkhfbaa.Rx.AV.undef :: (Go.Proofs.Ytpcohpkflkhfbaa.Rx.AV.undef :: (Go.Proofs.Ytpcohpkflkhfbaa.Rx.AV.undef :: (Go.Proofs.Ytpcohpkflkhfbaa.Rx.AV.undef :: (Go.Proofs.Ytpcohpkflkhfbaa.Rx.AV.undef :: (Go.Proofs.Ytpcohpkflkhfbaa.Rx.AV.undef :: (Go.Proofs.Ytpcohpkflkhfbaa.Rx.AV.undef :: (Go.Proofs.Ytpcohpkflkhfbaa.Rx.AV.undef :: (Go.Proofs.Ytpcohpkflkhfbaa.Rx.AV.undef :: (Go.Proofs.Ytpcohpkflkhfbaa.Rx.AV.undef :: (Go.Proofs.Ytpcohpkflkhfbaa.Rx.AV.undef :: (Go.Proofs.Ytpcohpkflkhfbaa.Rx.AV.undef :: (Go.Proofs.Ytpcohpkflkhfbaa.Rx.AV.undef :: (Go.Proofs.Ytpcohpkflkhfbaa.Rx.AV.undef :: (Go.Proofs.Ytpcohpkflkhfbaa.Rx.AV.undef :: (Go.Proofs.Ytpcohpkflkhfbaa.Rx.AV.undef :: (Go.Proofs.Ytpcohpkflkhfbaa.Rx.AV.undef :: (Go.Proofs.Ytpcohpkflkhfbaa.Rx.AV.undef :: (Go.Proofs.Ytpcohpkflkhfbaa.Rx.AV.undef :: (Go.Proofs.Ytpcohpkflkhfbaa.Rx.AV.undef :: (Go.Proofs.Ytpcohpkflkhfbaa.Rx.AV.undef :: (Go.Proofs.Ytpcohpkflkhfbaa.Rx.AV.undef :: (Go.Proofs.Ytpcohpkflkhfbaa.Rx.AV.undef :: (Go.Proofs.Ytpcohpkflkhfbaa.Rx.AV.undef :: (Go.Proofs.Ytpcohpkflkhfbaa.Rx.AV.undef :: (Go.Proofs.Ytpcohpkflkhfbaa.Rx.AV.undef :: [])))))))))))))))))))))))))))))))))))))))))))))))))))))))))))))))))))))))))))))))))))))))))))))))))))))))))))))))))))))))))))))))))))))))))))))))))))) ((1000000, (Go.Proofs.Ytpcohpkflkhfbaa.Rx.Ent.row (⟨111, (Go.Proofs.Ytpcohpkflkhfbaa.Rx.Ty.int Go.IntKind.i64).pair   ((Go.Proofs.Ytpcohpkflkhfbaa.Rx.Ty.int Go.IntKind.i64).pair ((Go.Proofs.Ytpcohpkflkhfbaa.Rx.Ty.int Go.IntKind.i64).pair Go.Proofs.Ytpcohpkflkhfbaa.Rx.Ty.bool)), x5⟩ : Rw) 0 Option.none)) :: []))
noncomputable def st120_top (n : Nat) (lL2 : Int → Int → Int → Bool → Bool → (List (Int × Int × Int × Bool)) → Option R120) (a : List (Int × Int × Int × Bool)) (b : Int) (c : Int) (d : Int) (e : Unit) : Option R120 :=
  lL2 (b) (c) (d) (true) (true) (a)
noncomputable def st120_L2 (n : Nat)  (x0 : Int) (x1 : Int) (x2 : Int) (x3 : Bool) (x4 : Bool) (x5 : List (Int × Int × Int × Bool)) : Option R120 :=
  cond (decide (Go.IntKind.i64.wrap (x1 - x0) ≤ (12 : Int))) ((Go.Proofs.Ytpcohpkflkhfbaa.Rx.S.q125 n (x5, x0, x1, (), ())).bind fun r1 => some ((), (r1.snd.fst, ()))) (cond (decide (x2 = (0 : Int))) (none) (cond (!x3) (none) (none)))
theorem e120_top (n : Nat) (a : List (Int × Int × Int × Bool)) (b : Int) (c : Int) (d : Int) (e : Unit) : runF TT G120 an120 Try.f120 c120 ps120 rs120 n (a, b, c, d, e, ()) = st120_top n (fun x0 x1 x2 x3 x4 x5 => at120 n (.head 2) [n] (sh120_L2 x0 x1 x2 x3 x4 x5)) a b c d e := by kernel_rfl
theorem e120_L2_0 (n : Nat) (x0 : Int) (x1 : Int) (x2 : Int) (x3 : Bool) (x4 : Bool) (x5 : List (Int × Int × Int × Bool)) : at120 n (.head 2) [0] (sh120_L2 x0 x1 x2 x3 x4 x5) = none := by kernel_rfl
theorem e120_L2 (n : Nat) (m2 : Nat) (x0 : Int) (x1 : Int) (x2 : Int) (x3 : Bool) (x4 : Bool) (x5 : List (Int × Int × Int × Bool)) : at120 n (.head 2) [m2 + 1] (sh120_L2 x0 x1 x2 x3 x4 x5) = st120_L2 n  x0 x1 x2 x3 x4 x5 := by kernel_rfl
noncomputable def p120_L2 (n : Nat) : Nat → Int → Int → Int → Bool → Bool → (List (Int × Int × Int × Bool)) → Option R120
  | 0, _, _, _, _, _, _ => none
  | m + 1, x0, x1, x2, x3, x4, x5 => st120_L2 n  x0 x1 x2 x3 x4 x5
noncomputable def p120 (n : Nat) (a : List (Int × Int × Int × Bool)) (b : Int) (c : Int) (d : Int) (e : Unit) : Option R120 := st120_top n (p120_L2 n n) a b c d e
theorem t120_L2 (n : Nat) : ∀ (m2 : Nat) (x0 : Int) (x1 : Int) (x2 : Int) (x3 : Bool) (x4 : Bool) (x5 : List (Int × Int × Int × Bool)), at120 n (.head 2) [m2] (sh120_L2 x0 x1 x2 x3 x4 x5) = p120_L2  n m2 x0 x1 x2 x3 x4 x5 := by
  intro m
  induction m with
  | zero => intros; rw [e120_L2_0]; rfl
  | succ m ih =>
    intros
    rw [e120_L2]
    try simp only [ih]
    rfl
theorem F120_eq (n : Nat) (a : List (Int × Int × Int × Bool)) (b : Int) (c : Int) (d : Int) (e : Unit) : runF TT G120 an120 Try.f120 c120 ps120 rs120 n (a, b, c, d, e, ()) = p120 n a b c d e := by
  rw [e120_top]
  simp only [t120_L2]
  try rfl
noncomputable def q120 (n : Nat) (x : argsD ps120) : Option R120 := p120 n x.1 x.2.1 x.2.2.1 x.2.2.2.1 x.2.2.2.2.1
noncomputable def Sm120 : Sm := ⟨ps120, rs120, false, q120⟩
theorem holds120 (hg : GamOK Try.prog G120) : Holds Try.prog 120 Sm120 := by
  have := h0_120 hg
  have e : (runF TT G120 an120 Try.f120 c120 ps120 rs120) = q120 := by
    funext n x
    exact F120_eq n x.1 x.2.1 x.2.2.1 x.2.2.2.1 x.2.2.2.2.1
  rw [e] at this
  exact this
theorem gam120 : GamOK Try.prog G120 := by
  intro f s h
  unfold G120 at h
  split at h
  · injection h with h; subst h; exact ⟨⟨Try.f125, c125, Try.func125, by kernel_rfl, by decide +kernel⟩, hh125⟩
  · cases h
theorem hh120 : Holds Try.prog 120 Sm120 := holds120 gam120
end Go.Proofs.Ytpcohpkflkhfbaa.Rx.S
namespace Go.Proofs.Ytpcohpkflkhfbaa.Rx.S
open Go Go.RowKit Go.Proofs
set_option maxRecDepth 100000
noncomputable def c134 : Code := (Try.f134.body.getD .skip)
def an134 : An := ⟨fun _ => ⟨[], []⟩, fun _ _ => none⟩
abbrev ps134 : List PK := [.val (.int .u64) false]
abbrev rs134 : List RK := [.val i64 false]
abbrev R134 := retsD rs134 × outsD ps134
noncomputable def G134 : Gam := fun _ => none
theorem h0_134 (hg : GamOK Try.prog G134) : Holds Try.prog 134 ⟨ps134, rs134, false, runF TT G134 an134 Try.f134 c134 ps134 rs134⟩ := holds_of tt_ok hg mixed Try.func134 (by kernel_rfl) (by rfl) (by decide +kernel)
noncomputable def at134 : Nat → Pt → List Nat → St → Option R134 := atF TT G134 an134 Try.f134 c134 _ _
def tb134_0 : ByteArray := (ByteArray.mk (([(0 : UInt8), (1 : UInt8), (2 : UInt8), (2 : UInt8), (3 : UInt8), (3 : UInt8), (3 : UInt8), (3 : UInt8), (4 : UInt8), (4 : UInt8), (4 : UInt8), (4 : UInt8), (4 : UInt8), (4 : UInt8), (4 : UInt8), (4 : UInt8), (5 : UInt8), (5 : UInt8), (5 : UInt8), (5 : UInt8), (5 : UInt8), (5 : UInt8), (5 : UInt8), (5 : UInt8), (5 : UInt8), (5 : UInt8), (5 : UInt8), (5 : UInt8), (5 : UInt8), (5 : UInt8), (5 : UInt8), (5 : UInt8), (6 : UInt8), (6 : UInt8), (6 : UInt8), (6 : UInt8), (6 : UInt8), (6 : UInt8), (6 : UInt8), (6 : UInt8), (6 : UInt8), (6 : UInt8), (6 : UInt8), (6 : UInt8), (6 : UInt8), (6 : UInt8), (6 : UInt8), (6 : UInt8), (6 : UInt8), (6 : UInt8), (6 : UInt8), (6 : UInt8), (6 : UInt8), (6 : UInt8), (6 : UInt8), (6 : UInt8), (6 : UInt8), (6 : UInt8), (6 : UInt8), (6 : UInt8), (6 : UInt8), (6 : UInt8), (6 : UInt8), (6 : UInt8)].append [(7 : UInt8), (7 : UInt8), (7 : UInt8), (7 : UInt8), (7 : UInt8), (7 : UInt8), (7 : UInt8), (7 : UInt8), (7 : UInt8), (7 : UInt8), (7 : UInt8), (7 : UInt8), (7 : UInt8), (7 : UInt8), (7 : UInt8), (7 : UInt8), (7 : UInt8), (7 : UInt8), (7 : UInt8), (7 : UInt8), (7 : UInt8), (7 : UInt8), (7 : UInt8), (7 : UInt8), (7 : UInt8), (7 : UInt8), (7 : UInt8), (7 : UInt8), (7 : UInt8), (7 : UInt8), (7 : UInt8), (7 : UInt8), (7 : UInt8), (7 : UInt8), (7 : UInt8), (7 : UInt8), (7 : UInt8), (7 : UInt8), (7 : UInt8), (7 : UInt8), (7 : UInt8), (7 : UInt8), (7 : UInt8), (7 : UInt8), (7 : UInt8), (7 : UInt8), (7 : UInt8), (7 : UInt8), (7 : UInt8), (7 : UInt8), (7 : UInt8), (7 : UInt8), (7 : UInt8), (7 : UInt8), (7 : UInt8), (7 : UInt8), (7 : UInt8), (7 : UInt8), (7 : UInt8), (7 : UInt8), (7 : UInt8), (7 : UInt8), (7 : UInt8), (7 : UInt8)]).append ([(8 : UInt8), (8 : UInt8), (8 : UInt8), (8 : UInt8), (8 : UInt8), (8 : UInt8), (8 : UInt8), (8 : UInt8), (8 : UInt8), (8 : UInt8), (8 : UInt8), (8 : UInt8), (8 : UInt8), (8 : UInt8), (8 : UInt8), (8 : UInt8), (8 : UInt8), (8 : UInt8), (8 : UInt8), (8 : UInt8), (8 : UInt8), (8 : UInt8), (8 : UInt8), (8 : UInt8), (8 : UInt8), (8 : UInt8), (8 : UInt8), (8 : UInt8), (8 : UInt8), (8 : UInt8), (8 : UInt8), (8 : UInt8), (8 : UInt8), (8 : UInt8), (8 : UInt8), (8 : UInt8), (8 : UInt8), (8 : UInt8), (8 : UInt8), (8 : UInt8), (8 : UInt8), (8 : UInt8), (8 : UInt8), (8 : UInt8), (8 : UInt8), (8 : UInt8), (8 : UInt8), (8 : UInt8), (8 : UInt8), (8 : UInt8), (8 : UInt8), (8 : UInt8), (8 : UInt8), (8 : UInt8), (8 : UInt8), (8 : UInt8), (8 : UInt8), (8 : UInt8), (8 : UInt8), (8 : UInt8), (8 : UInt8), (8 : UInt8), (8 : UInt8), (8 : UInt8)].append [(8 : UInt8), (8 : UInt8), (8 : UInt8), (8 : UInt8), (8 : UInt8), (8 : UInt8), (8 : UInt8), (8 : UInt8), (8 : UInt8), (8 : UInt8), (8 : UInt8), (8 : UInt8), (8 : UInt8), (8 : UInt8), (8 : UInt8), (8 : UInt8), (8 : UInt8), (8 : UInt8), (8 : UInt8), (8 : UInt8), (8 : UInt8), (8 : UInt8), (8 : UInt8), (8 : UInt8), (8 : UInt8), (8 : UInt8), (8 : UInt8), (8 : UInt8), (8 : UInt8), (8 : UInt8), (8 : UInt8), (8 : UInt8), (8 : UInt8), (8 : UInt8), (8 : UInt8), (8 : UInt8), (8 : UInt8), (8 : UInt8), (8 : UInt8), (8 : UInt8), (8 : UInt8), (8 : UInt8), (8 : UInt8), (8 : UInt8), (8 : UInt8), (8 : UInt8), (8 : UInt8), (8 : UInt8), (8 : UInt8), (8 : UInt8), (8 : UInt8), (8 : UInt8), (8 : UInt8), (8 : UInt8), (8 : UInt8), (8 : UInt8), (8 : UInt8), (8 : UInt8), (8 : UInt8), (8 : UInt8), (8 : UInt8), (8 : UInt8), (8 : UInt8), (8 : UInt8)])).toArray)
noncomputable def st134_top (n : Nat)  (a : Int) : Option R134 :=
  cond (decide ((4294967296 : Int) ≤ a)) (cond (decide ((65536 : Int) ≤ a.fdiv ((2 : Int) ^ min (Int.toNat (32 : Int)) Go.IntKind.u64.bits))) (cond (decide   ((256 : Int) ≤     (a.fdiv ((2 : Int) ^ min (Int.toNat (32 : Int)) Go.IntKind.u64.bits)).fdiv       ((2 : Int) ^ min (Int.toNat (16 : Int)) Go.IntKind.u64.bits))) (cond (decide   ((0 : Int) ≤     Go.IntKind.u8.wrap       (((a.fdiv ((2 : Int) ^ min (Int.toNat (32 : Int)) Go.IntKind.u64.bits)).fdiv             ((2 : Int) ^ min (Int.toNat (16 : Int)) Go.IntKind.u64.bits)).fdiv         ((2 : Int) ^ min (Int.toNat (8 : Int)) Go.IntKind.u64.bits)))) (cond (decide   (Go.IntKind.u8.wrap       (((a.fdiv ((2 : Int) ^ min (Int.toNat (32 : Int)) Go.IntKind.u64.bits)).fdiv             ((2 : Int) ^ min (Int.toNat (16 : Int)) Go.IntKind.u64.bits)).fdiv         ((2 : Int) ^ min (Int.toNat (8 : Int)) Go.IntKind.u64.bits)) <     (↑tb134_0.size :       Int))) (some ((Go.IntKind.i64.wrap   (Go.IntKind.i64.wrap (Go.IntKind.i64.wrap ((32 : Int) + (16 : Int)) + (8 : Int)) +     Go.IntKind.i64.wrap       (↑(tb134_0.data.toList.getD               (Go.IntKind.u8.wrap                   (((a.fdiv ((2 : Int) ^ min (Int.toNat (32 : Int)) Go.IntKind.u64.bits)).fdiv                         ((2 : Int) ^ min (Int.toNat (16 : Int)) Go.IntKind.u64.bits)).fdiv                     ((2 : Int) ^ min (Int.toNat (8 : Int)) Go.IntKind.u64.bits))).toNat               (0 : UInt8)).toNat :         Int)), ()), ())) (none)) (none)) (cond (decide   ((0 : Int) ≤     Go.IntKind.u8.wrap       ((a.fdiv ((2 : Int) ^ min (Int.toNat (32 : Int)) Go.IntKind.u64.bits)).fdiv         ((2 : Int) ^ min (Int.toNat (16 : Int)) Go.IntKind.u64.bits)))) (cond (decide   (Go.IntKind.u8.wrap       ((a.fdiv ((2 : Int) ^ min (Int.toNat (32 : Int)) Go.IntKind.u64.bits)).fdiv         ((2 : Int) ^ min (Int.toNat (16 : Int)) Go.IntKind.u64.bits)) <     (↑tb134_0.size :       Int))) (some ((Go.IntKind.i64.wrap   (Go.IntKind.i64.wrap ((32 : Int) + (16 : Int)) +     Go.IntKind.i64.wrap       (↑(tb134_0.data.toList.getD               (Go.IntKind.u8.wrap                   ((a.fdiv ((2 : Int) ^ min (Int.toNat (32 : Int)) Go.IntKind.u64.bits)).fdiv                     ((2 : Int) ^ min (Int.toNat (16 : Int)) Go.IntKind.u64.bits))).toNat               (0 : UInt8)).toNat :         Int)), ()), ())) (none)) (none))) (cond (decide ((256 : Int) ≤ a.fdiv ((2 : Int) ^ min (Int.toNat (32 : Int)) Go.IntKind.u64.bits))) (cond (decide   ((0 : Int) ≤     Go.IntKind.u8.wrap       ((a.fdiv ((2 : Int) ^ min (Int.toNat (32 : Int)) Go.IntKind.u64.bits)).fdiv         ((2 : Int) ^ min (Int.toNat (8 : Int)) Go.IntKind.u64.bits)))) (cond (decide   (Go.IntKind.u8.wrap       ((a.fdiv ((2 : Int) ^ min (Int.toNat (32 : Int)) Go.IntKind.u64.bits)).fdiv         ((2 : Int) ^ min (Int.toNat (8 : Int)) Go.IntKind.u64.bits)) <     (↑tb134_0.size :       Int))) (some ((Go.IntKind.i64.wrap   (Go.IntKind.i64.wrap ((32 : Int) + (8 : Int)) +     Go.IntKind.i64.wrap       (↑(tb134_0.data.toList.getD               (Go.IntKind.u8.wrap                   ((a.fdiv ((2 : Int) ^ min (Int.toNat (32 : Int)) Go.IntKind.u64.bits)).fdiv                     ((2 : Int) ^ min (Int.toNat (8 : Int)) Go.IntKind.u64.bits))).toNat               (0 : UInt8)).toNat :         Int)), ()), ())) (none)) (none)) (cond (decide ((0 : Int) ≤ Go.IntKind.u8.wrap (a.fdiv ((2 : Int) ^ min (Int.toNat (32 : Int)) Go.IntKind.u64.bits)))) (cond (decide   (Go.IntKind.u8.wrap (a.fdiv ((2 : Int) ^ min (Int.toNat (32 : Int)) Go.IntKind.u64.bits)) <     (↑tb134_0.size :       Int))) (some ((Go.IntKind.i64.wrap   ((32 : Int) +     Go.IntKind.i64.wrap       (↑(tb134_0.data.toList.getD               (Go.IntKind.u8.wrap (a.fdiv ((2 : Int) ^ min (Int.toNat (32 : Int)) Go.IntKind.u64.bits))).toNat               (0 : UInt8)).toNat :         Int)), ()), ())) (none)) (none)))) (cond (decide ((65536 : Int) ≤ a)) (cond (decide ((256 : Int) ≤ a.fdiv ((2 : Int) ^ min (Int.toNat (16 : Int)) Go.IntKind.u64.bits))) (cond (decide   ((0 : Int) ≤     Go.IntKind.u8.wrap       ((a.fdiv ((2 : Int) ^ min (Int.toNat (16 : Int)) Go.IntKind.u64.bits)).fdiv         ((2 : Int) ^ min (Int.toNat (8 : Int)) Go.IntKind.u64.bits)))) (cond (decide   (Go.IntKind.u8.wrap       ((a.fdiv ((2 : Int) ^ min (Int.toNat (16 : Int)) Go.IntKind.u64.bits)).fdiv         ((2 : Int) ^ min (Int.toNat (8 : Int)) Go.IntKind.u64.bits)) <     (↑tb134_0.size :       Int))) (some ((Go.IntKind.i64.wrap   (Go.IntKind.i64.wrap (Go.IntKind.i64.wrap ((0 : Int) + (16 : Int)) + (8 : Int)) +     Go.IntKind.i64.wrap       (↑(tb134_0.data.toList.getD               (Go.IntKind.u8.wrap                   ((a.fdiv ((2 : Int) ^ min (Int.toNat (16 : Int)) Go.IntKind.u64.bits)).fdiv                     ((2 : Int) ^ min (Int.toNat (8 : Int)) Go.IntKind.u64.bits))).toNat               (0 : UInt8)).toNat :         Int)), ()), ())) (none)) (none)) (cond (decide ((0 : Int) ≤ Go.IntKind.u8.wrap (a.fdiv ((2 : Int) ^ min (Int.toNat (16 : Int)) Go.IntKind.u64.bits)))) (cond (decide   (Go.IntKind.u8.wrap (a.fdiv ((2 : Int) ^ min (Int.toNat (16 : Int)) Go.IntKind.u64.bits)) <     (↑tb134_0.size :       Int))) (some ((Go.IntKind.i64.wrap   (Go.IntKind.i64.wrap ((0 : Int) + (16 : Int)) +     Go.IntKind.i64.wrap       (↑(tb134_0.data.toList.getD               (Go.IntKind.u8.wrap (a.fdiv ((2 : Int) ^ min (Int.toNat (16 : Int)) Go.IntKind.u64.bits))).toNat               (0 : UInt8)).toNat :         Int)), ()), ())) (none)) (none))) (cond (decide ((256 : Int) ≤ a)) (cond (decide ((0 : Int) ≤ Go.IntKind.u8.wrap (a.fdiv ((2 : Int) ^ min (Int.toNat (8 : Int)) Go.IntKind.u64.bits)))) (cond (decide   (Go.IntKind.u8.wrap (a.fdiv ((2 : Int) ^ min (Int.toNat (8 : Int)) Go.IntKind.u64.bits)) <     (↑tb134_0.size :       Int))) (some ((Go.IntKind.i64.wrap   (Go.IntKind.i64.wrap ((0 : Int) + (8 : Int)) +     Go.IntKind.i64.wrap       (↑(tb134_0.data.toList.getD               (Go.IntKind.u8.wrap (a.fdiv ((2 : Int) ^ min (Int.toNat (8 : Int)) Go.IntKind.u64.bits))).toNat               (0 : UInt8)).toNat :         Int)), ()), ())) (none)) (none)) (cond (decide ((0 : Int) ≤ Go.IntKind.u8.wrap a)) (cond (decide   (Go.IntKind.u8.wrap a <     (↑tb134_0.size :       Int))) (some ((Go.IntKind.i64.wrap   ((0 : Int) +     Go.IntKind.i64.wrap       (↑(tb134_0.data.toList.getD               (Go.IntKind.u8.wrap a).toNat (0 : UInt8)).toNat :         Int)), ()), ())) (none)) (none))))
theorem e134_top (n : Nat) (a : Int) : runF TT G134 an134 Try.f134 c134 ps134 rs134 n (a, ()) = st134_top n  a := by kernel_rfl
noncomputable def p134 (n : Nat) (a : Int) : Option R134 := st134_top n  a
theorem F134_eq (n : Nat) (a : Int) : runF TT G134 an134 Try.f134 c134 ps134 rs134 n (a, ()) = p134 n a := by
  rw [e134_top]
  skip
  try rfl
noncomputable def q134 (n : Nat) (x : argsD ps134) : Option R134 := p134 n x.1
noncomputable def Sm134 : Sm := ⟨ps134, rs134, false, q134⟩
theorem holds134 (hg : GamOK Try.prog G134) : Holds Try.prog 134 Sm134 := by
  have := h0_134 hg
  have e : (runF TT G134 an134 Try.f134 c134 ps134 rs134) = q134 := by
    funext n x
    exact F134_eq n x.1
  rw [e] at this
  exact this
theorem gam134 : GamOK Try.prog G134 := fun _ _ h => by cases h
theorem hh134 : Holds Try.prog 134 Sm134 := holds134 gam134
end Go.Proofs.Ytpcohpkflkhfbaa.Rx.S
namespace Go.Proofs.Ytpcohpkflkhfbaa.Rx.S
open Go Go.RowKit Go.Proofs
set_option maxRecDepth 100000
noncomputable def c121 : Code := (Try.f121.body.getD .skip)
def an121 : An := ⟨fun _ => ⟨[], []⟩, fun _ _ => none⟩
abbrev ps121 : List PK := [.val (.int .u64) false]
abbrev rs121 : List RK := [.val i64 false]
abbrev R121 := retsD rs121 × outsD ps121
noncomputable def G121 : Gam := fun f => match f with | 134 => some Sm134 | _ => none
theorem h0_121 (hg : GamOK Try.prog G121) : Holds Try.prog 121 ⟨ps121, rs121, false, runF TT G121 an121 Try.f121 c121 ps121 rs121⟩ := holds_of tt_ok hg mixed Try.func121 (by kernel_rfl) (by rfl) (by decide +kernel)
noncomputable def at121 : Nat → Pt → List Nat → St → Option R121 := atF TT G121 an121 Try.f121 c121 _ _
noncomputable def st121_top (n : Nat)  (a : Int) : Option R121 :=
  (Go.Proofs.Ytpcohpkflkhfbaa.Rx.S.q134 n (a, ())).bind fun r0 => some ((r0.fst.fst, ()), ())
theorem e121_top (n : Nat) (a : Int) : runF TT G121 an121 Try.f121 c121 ps121 rs121 n (a, ()) = st121_top n  a := by kernel_rfl
noncomputable def p121 (n : Nat) (a : Int) : Option R121 := st121_top n  a
theorem F121_eq (n : Nat) (a : Int) : runF TT G121 an121 Try.f121 c121 ps121 rs121 n (a, ()) = p121 n a := by
  rw [e121_top]
  skip
  try rfl
noncomputable def q121 (n : Nat) (x : argsD ps121) : Option R121 := p121 n x.1
noncomputable def Sm121 : Sm := ⟨ps121, rs121, false, q121⟩
theorem holds121 (hg : GamOK Try.prog G121) : Holds Try.prog 121 Sm121 := by
  have := h0_121 hg
  have e : (runF TT G121 an121 Try.f121 c121 ps121 rs121) = q121 := by
    funext n x
    exact F121_eq n x.1
  rw [e] at this
  exact this
theorem gam121 : GamOK Try.prog G121 := by
  intro f s h
  unfold G121 at h
  split at h
  · injection h with h; subst h; exact ⟨⟨Try.f134, c134, Try.func134, by kernel_rfl, by decide +kernel⟩, hh134⟩
  · cases h
theorem hh121 : Holds Try.prog 121 Sm121 := holds121 gam121
end Go.Proofs.Ytpcohpkflkhfbaa.Rx.S
namespace Go.Proofs.Ytpcohpkflkhfbaa.Rx.S
open Go Go.RowKit Go.Proofs
set_option maxRecDepth 100000
noncomputable def c94 : Code := (Try.f94.body.getD .skip)
def an94 : An := ⟨fun _ => ⟨[], []⟩, fun _ _ => none⟩
abbrev ps94 : List PK := [.io (.row 111 tTh) false, .fn 95 []]
abbrev rs94 : List RK := []
abbrev R94 := retsD rs94 × outsD ps94
noncomputable def G94 : Gam := fun f => match f with | 120 => some Sm120 | 121 => some Sm121 | _ => none
theorem h0_94 (hg : GamOK Try.prog G94) : Holds Try.prog 94 ⟨ps94, rs94, false, runF TT G94 an94 Try.f94 c94 ps94 rs94⟩ := holds_of tt_ok hg mixed Try.func94 (by kernel_rfl) (by rfl) (by decide +kernel)
noncomputable def at94 : Nat → Pt → List Nat → St → Option R94 := atF TT G94 an94 Try.f94 c94 _ _
noncomputable def st94_top (n : Nat)  (a : List (Int × Int × Int × Bool)) (b : Unit) : Option R94 :=
  (Go.Proofs.Ytpcohpkflkhfbaa.Rx.S.q121 n (Go.IntKind.u64.wrap (↑a.length : Int), ())).bind fun r0 => (Go.Proofs.Ytpcohpkflkhfbaa.Rx.S.q120 n (a, (0 : Int), (↑a.length : Int), r0.fst.fst, (), ())).bind fun r1 => some ((), (r1.snd.fst, ()))
theorem e94_top (n : Nat) (a : List (Int × Int × Int × Bool)) (b : Unit) : runF TT G94 an94 Try.f94 c94 ps94 rs94 n (a, b, ()) = st94_top n  a b := by kernel_rfl
noncomputable def p94 (n : Nat) (a : List (Int × Int × Int × Bool)) (b : Unit) : Option R94 := st94_top n  a b
theorem F94_eq (n : Nat) (a : List (Int × Int × Int × Bool)) (b : Unit) : runF TT G94 an94 Try.f94 c94 ps94 rs94 n (a, b, ()) = p94 n a b := by
  rw [e94_top]
  skip
  try rfl
noncomputable def q94 (n : Nat) (x : argsD ps94) : Option R94 := p94 n x.1 x.2.1
noncomputable def Sm94 : Sm := ⟨ps94, rs94, false, q94⟩
theorem holds94 (hg : GamOK Try.prog G94) : Holds Try.prog 94 Sm94 := by
  have := h0_94 hg
  have e : (runF TT G94 an94 Try.f94 c94 ps94 rs94) = q94 := by
    funext n x
    exact F94_eq n x.1 x.2.1
  rw [e] at this
  exact this
theorem gam94 : GamOK Try.prog G94 := by
  intro f s h
  unfold G94 at h
  split at h
  · injection h with h; subst h; exact ⟨⟨Try.f120, c120, Try.func120, by kernel_rfl, by decide +kernel⟩, hh120⟩
  · injection h with h; subst h; exact ⟨⟨Try.f121, c121, Try.func121, by kernel_rfl, by decide +kernel⟩, hh121⟩
  · cases h
theorem hh94 : Holds Try.prog 94 Sm94 := holds94 gam94
end Go.Proofs.Ytpcohpkflkhfbaa.Rx.S
namespace Go.Proofs.Ytpcohpkflkhfbaa.Rx.S
open Go Go.RowKit Go.Proofs
set_option maxRecDepth 100000
noncomputable def c44 : Code := (Try.f44.body.getD .skip)
def an44 : An := ⟨fun _ => ⟨[], []⟩, fun _ _ => none⟩
abbrev ps44 : List PK := [.val (.pair (.row 111 tTh) i64) true, .val i64 false, .val i64 false]
abbrev rs44 : List RK := [.own (.pair (.row 111 tTh) i64) true, .val .bool false]
abbrev R44 := retsD rs44 × outsD ps44
noncomputable def G44 : Gam := fun f => match f with | 48 => some Sm48 | 62 => some Sm62 | 92 => some Sm92 | 93 => some Sm93 | 94 => some Sm94 | _ => none
theorem h0_44 (hg : GamOK Try.prog G44) : Holds Try.prog 44 ⟨ps44, rs44, false, runF TT G44 an44 Try.f44 c44 ps44 rs44⟩ := holds_of tt_ok hg mixed Try.func44 (by kernel_rfl) (by rfl) (by decide +kernel)
noncomputable def at44 : Nat → Pt → List Nat → St → Option R44 := atF TT G44 an44 Try.f44 c44 _ _
noncomputable def st44_top (n : Nat)  (a : List (Int × Int × Int × Bool) × Int) (b : Int) (c : Int) : Option R44 :=
  (Go.Proofs.Ytpcohpkflkhfbaa.Rx.S.q48 n ((a.fst, a.snd), ())).bind fun r0 => cond (!r0.fst.fst) (some ((([], (0 : Int)), (false, ())), ())) (cond (decide ((↑(List.length a.fst) : Int) = (6 : Int))) (some ((([], (0 : Int)), (false, ())), ())) ((Go.Proofs.Ytpcohpkflkhfbaa.Rx.S.q92 n ((a.fst, a.snd), b, ())).bind fun r1 => cond (decide ((0 : Int) ≤ r1.fst.fst)) (some ((([], (0 : Int)), (false, ())), ())) ((Go.Proofs.Ytpcohpkflkhfbaa.Rx.S.q62 n (b, (0 : Int), (99 : Int), ())).bind fun r2 => cond (!r2.fst.fst) (some ((([], (0 : Int)), (false, ())), ())) ((Go.Proofs.Ytpcohpkflkhfbaa.Rx.S.q62 n (c, (1 : Int), (6 : Int), ())).bind fun r3 => cond (!r3.fst.fst) (some ((([], (0 : Int)), (false, ())), ())) ((Go.Proofs.Ytpcohpkflkhfbaa.Rx.S.q93 n ((a.fst, a.snd), ())).bind fun r4 => cond (decide ((List.length r4.fst.fst.fst + [(b, c, a.snd, true)].length) * (32 : Nat) ≤ (140737488355328 : Nat))) ((Go.Proofs.Ytpcohpkflkhfbaa.Rx.S.q94 n (r4.fst.fst.fst ++ [(b, c, a.snd, true)], (), ())).bind fun r5 => some (((r5.snd.fst, r4.fst.fst.snd), (true, ())), ())) (none))))))
theorem e44_top (n : Nat) (a : List (Int × Int × Int × Bool) × Int) (b : Int) (c : Int) : runF TT G44 an44 Try.f44 c44 ps44 rs44 n (a, b, c, ()) = st44_top n  a b c := by kernel_rfl
noncomputable def p44 (n : Nat) (a : List (Int × Int × Int × Bool) × Int) (b : Int) (c : Int) : Option R44 := st44_top n  a b c
theorem F44_eq (n : Nat) (a : List (Int × Int × Int × Bool) × Int) (b : Int) (c : Int) : runF TT G44 an44 Try.f44 c44 ps44 rs44 n (a, b, c, ()) = p44 n a b c := by
  rw [e44_top]
  skip
  try rfl
noncomputable def q44 (n : Nat) (x : argsD ps44) : Option R44 := p44 n x.1 x.2.1 x.2.2.1
noncomputable def Sm44 : Sm := ⟨ps44, rs44, false, q44⟩
theorem holds44 (hg : GamOK Try.prog G44) : Holds Try.prog 44 Sm44 := by
  have := h0_44 hg
  have e : (runF TT G44 an44 Try.f44 c44 ps44 rs44) = q44 := by
    funext n x
    exact F44_eq n x.1 x.2.1 x.2.2.1
  rw [e] at this
  exact this
theorem gam44 : GamOK Try.prog G44 := by
  intro f s h
  unfold G44 at h
  split at h
  · injection h with h; subst h; exact ⟨⟨Try.f48, c48, Try.func48, by kernel_rfl, by decide +kernel⟩, hh48⟩
  · injection h with h; subst h; exact ⟨⟨Try.f62, c62, Try.func62, by kernel_rfl, by decide +kernel⟩, hh62⟩
  · injection h with h; subst h; exact ⟨⟨Try.f92, c92, Try.func92, by kernel_rfl, by decide +kernel⟩, hh92⟩
  · injection h with h; subst h; exact ⟨⟨Try.f93, c93, Try.func93, by kernel_rfl, by decide +kernel⟩, hh93⟩
  · injection h with h; subst h; exact ⟨⟨Try.f94, c94, Try.func94, by kernel_rfl, by decide +kernel⟩, hh94⟩
  · cases h
theorem hh44 : Holds Try.prog 44 Sm44 := holds44 gam44
end Go.Proofs.Ytpcohpkflkhfbaa.Rx.S
namespace Go.Proofs.Ytpcohpkflkhfbaa.Rx.S
open Go Go.RowKit Go.Proofs
set_option maxRecDepth 100000
noncomputable def c96 : Code := (Try.f96.body.getD .skip)
def an96 : An := ⟨fun r => match r with | 2 => ⟨[1, 3], []⟩ | _ => ⟨[], []⟩, fun _ _ => none⟩
abbrev ps96 : List PK := [.val (.pair (.row 111 tTh) i64) true]
abbrev rs96 : List RK := [.val .bool false]
abbrev R96 := retsD rs96 × outsD ps96
noncomputable def G96 : Gam := fun f => match f with | 57 => some Sm57 | _ => none
theorem h0_96 (hg : GamOK Try.prog G96) : Holds Try.prog 96 ⟨ps96, rs96, false, runF TT G96 an96 Try.f96 c96 ps96 rs96⟩ := holds_of tt_ok hg mixed Try.func96 (by kernel_rfl) (by rfl) (by decide +kernel)
noncomputable def at96 : Nat → Pt → List Nat → St → Option R96 := atF TT G96 an96 Try.f96 c96 _ _
def sh96_L2 (x0 : Int) (x1 : List (Int × Int × Int × Bool)) (x2 : Int) : St := (Go.Proofs.Ytpcohpkflkhfbaa.Rx.St.mk (Go.Proofs.Ytpcohpkflkhfbaa.Rx.AV.undef :: ((Go.Proofs.Ytpcohpkflkhfbaa.Rx.AV.one (Go.Proofs.Ytpcohpkflkhfbaa.Rx.SV.bptr 1000000 0)) :: (Go.Proofs.Ytpcohpkflkhfbaa.Rx.AV.undef :: ((Go.Proofs.Ytpcohpkflkhfbaa.Rx.AV.one (Go.Proofs.Ytpcohpkflkhfbaa.Rx.SV.int (Go.IntKind.i64) x0)) :: (Go.Proofs.Ytpcohpkflkhfbaa.Rx.AV.undef :: (Go.Proofs.Ytpcohpkflkhfbaa.Rx.AV.undef :: (Go.Proofs.Ytpcohpkflkhfbaa.Rx.AV.undef :: (Go.Proofs.Ytpcohpkflkhfbaa.Rx.AV.undef :: (Go.Proofs.Ytpcohpkflkhfbaa.Rx.AV.undef :: (Go.Proofs.Ytpcohpkflkhfbaa.Rx.AV.undef :: (Go.Proofs.Ytpcohpkflkhfbaa.Rx.AV.undef :: (Go.Proofs.Ytpcohpkflkhfbaa.Rx.AV.undef :: (Go.Proofs.Ytpcohpkflkhfbaa.Rx.AV.undef :: (Go.Proofs.Ytpcohpkflkhfbaa.Rx.AV.undef :: (Go.Proofs.Ytpcohpkflkhfbaa.Rx.AV.undef :: (Go.Proofs.Ytpcohpkflkhfbaa.Rx.AV.undef :: (Go.Proofs.Ytpcohpkflkhfbaa.Rx.AV.undef :: (Go.Proofs.Ytpcohpkflkhfbaa.Rx.AV.undef :: (Go.Proofs.Ytpcohpkflkhfbaa.Rx.AV.undef :: (Go.Proofs.Ytpcohpkflkhfbaa.Rx.AV.undef :: (Go.Proofs.Ytpcohpkflkhfbaa.Rx.AV.undef :: (Go.Proofs.Ytpcohpkflkhfbaa.Rx.AV.undef :: (Go.Proofs.Ytpcohpkflkhfbaa.Rx.AV.undef :: (Go.Proofs.Ytpcohpkflkhfbaa.Rx.AV.undef :: (Go.Proofs.Ytpcohpkflkhfbaa.Rx.AV.undef :: (Go.Proofs.Ytpcohpkflkhfbaa.Rx.AV.undef :: (Go.Proofs.Ytpcohpkflkhfbaa.Rx.AV.undef :: (Go.Proofs.Ytpcohpkflkhfbaa.Rx.AV.undef :: (Go.Proofs.Ytpcohpkflkhfbaa.Rx.AV.undef :: (Go.Proofs.Ytpcohpkflkhfbaa.Rx.AV.undef :: (Go.Proofs.Ytpcohpkflkhfbaa.Rx.AV.undef :: (Go.Proofs.Ytpcohpkflkhfbaa.Rx.AV.undef :: (Go.Proofs.Ytpcohpkflkhfbaa.Rx.AV.undef :: (Go.Proofs.Ytpcohpkflkhfbaa.Rx.AV.undef :: (Go.Proofs.Ytpcohpkflkhfbaa.Rx.AV.undef :: (Go.Proofs.Ytpcohpkflkhfbaa.Rx.AV.undef :: (Go.Proofs.Ytpcohpkflkhfbaa.Rx.AV.undef :: (Go.Proofs.Ytpcohpkflkhfbaa.Rx.AV.undef :: (Go.Proofs.Ytpcohpkflkhfbaa.Rx.AV.undef :: (Go.Proofs.Ytpcohpkflkhfbaa.Rx.AV.undef :: (Go.Proofs.Ytpcohpkflkhfbaa.Rx.AV.undef :: (Go.Proofs.Ytpcohpkflkhfbaa.Rx.AV.undef :: (Go.Proofs.Ytpcohpkflkhfbaa.Rx.AV.undef :: (Go.Proofs.Ytpcohpkflkhfbaa.Rx.AV.undef :: (Go.Proofs.Ytpcohpkflkhfbaa.Rx.AV.undef :: (Go.Proofs.Ytpcohpkflkhfbaa.Rx.AV.undef :: (Go.Proofs.Ytpcohpkflkhfbaa.Rx.AV.undef :: (Go.Proofs.Ytpcohpkflkhfbaa.Rx.AV.undef :: (Go.Proofs.Ytpcohpkflkhfbaa.Rx.AV.undef :: (Go.Proofs.Ytpcohpkflkhfbaa.Rx.AV.undef :: (Go.Proofs.Ytpcohpkflkhfbaa.Rx.AV.undef :: (Go.Proofs.Ytpcohpkflkhfbaa.Rx.AV.undef :: (Go.Proofs.Ytpcohpkflkhfbaa.Rx.AV.undef :: (Go.Proofs.Ytpcohpkflkhfbaa.Rx.AV.undef :: (Go.Proofs.Ytpcohpkflkhfbaa.Rx.AV.undef :: (Go.Proofs.Ytpcohpkflkhfbaa.Rx.AV.undef :: (Go.Proofs.Ytpcohpkflkhfbaa.Rx.AV.undef :: (Go.Proofs.Ytpcohpkflkhfbaa.Rx.AV.undef :: (Go.Proofs.Ytpcohpkflkhfbaa.Rx.AV.undef :: (Go.Proofs.Ytpcohpkflkhfbaa.Rx.AV.undef :: (Go.Proofs.Ytpcohpkflkhfbaa.Rx.AV.undef :: (Go.Proofs.Ytpcohpkflkhfbaa.Rx.AV.undef :: (Go.Proofs.Ytpcohpkflkhfbaa.Rx.AV.undef :: (Go.Proofs.Ytpcohpkflkhfbaa.Rx.AV.undef :: (Go.Proofs.Ytpcohpkflkhfbaa.Rx.AV.undef :: (Go.Proofs.Ytpcohpkflkhfbaa.Rx.AV.undef :: (Go.Proofs.Ytpcohpkflkhfbaa.Rx.AV.undef :: (Go.Proofs.Ytpcohpkflkhfbaa.Rx.AV.undef :: (Go.Proofs.Ytpcohpkflkhfbaa.Rx.AV.undef :: []))))))))))))))))))))))))))))))))))))))))))))))))))))))))))))))))))))) ((1000000, (Go.Proofs.Ytpcohpkflkhfbaa.Rx.Ent.box ((Go.Proofs.Ytpcohpkflkhfbaa.Rx.SV.con (⟨111, (Go.Proofs.Ytpcohpkflkhfbaa.Rx.Ty.int Go.IntKind.i64).pair   ((Go.Proofs.Ytpcohpkflkhfbaa.Rx.Ty.int Go.IntKind.i64).pair ((Go.Proofs.Ytpcohpkflkhfbaa.Rx.Ty.int Go.IntKind.i64).pair Go.Proofs.Ytpcohpkflkhfbaa.Rx.Ty.bool)), x1⟩ : Rw)) :: ((Go.Proofs.Ytpcohpkflkhfbaa.Rx.SV.int (Go.IntKind.i64) x2) :: [])))) :: []))
noncomputable def st96_top (n : Nat) (lL2 : Int → (List (Int × Int × Int × Bool)) → Int → Option R96) (a : List (Int × Int × Int × Bool) × Int) : Option R96 :=
  lL2 ((0 : Int)) (a.fst) (a.snd)
noncomputable def st96_L2 (n : Nat) (lL2 : Int → (List (Int × Int × Int × Bool)) → Int → Option R96) (x0 : Int) (x1 : List (Int × Int × Int × Bool)) (x2 : Int) : Option R96 :=
  cond (decide (x0 < (↑x1.length : Int))) (cond (decide ((0 : Int) ≤ x0)) (cond (decide (x0 < (↑x1.length : Int))) ((Go.Proofs.Ytpcohpkflkhfbaa.Rx.S.q57 n ((x1.getD x0.toNat ((0 : Int), (0 : Int), (0 : Int), false)).fst, (0 : Int), (99 : Int), ())).bind fun r1 => cond (!r1.fst.fst) (some ((false, ()), ())) ((Go.Proofs.Ytpcohpkflkhfbaa.Rx.S.q57 n ((x1.getD x0.toNat ((0 : Int), (0 : Int), (0 : Int), false)).snd.fst, (1 : Int), (6 : Int), ())).bind fun r2 => cond (!r2.fst.fst) (some ((false, ()), ())) ((Go.Proofs.Ytpcohpkflkhfbaa.Rx.S.q57 n ((x1.getD x0.toNat ((0 : Int), (0 : Int), (0 : Int), false)).snd.snd.fst, (0 : Int), (1000000 : Int), ())).bind fun r3 => cond (!r3.fst.fst) (some ((false, ()), ())) (cond (decide ((0 : Int) < x0)) (cond (decide ((0 : Int) ≤ Go.IntKind.i64.wrap (x0 - (1 : Int)))) (cond (decide (Go.IntKind.i64.wrap (x0 - (1 : Int)) < (↑x1.length : Int))) (cond (decide   ((x1.getD x0.toNat ((0 : Int), (0 : Int), (0 : Int), false)).fst ≤     (x1.getD (Go.IntKind.i64.wrap (x0 - (1 : Int))).toNat ((0 : Int), (0 : Int), (0 : Int), false)).fst)) (some ((false, ()), ())) (cond ((x1.getD x0.toNat ((0 : Int), (0 : Int), (0 : Int), false)).snd.snd.snd) (cond (decide ((x1.getD x0.toNat ((0 : Int), (0 : Int), (0 : Int), false)).snd.snd.fst < x2)) (some ((false, ()), ())) (lL2 (Go.IntKind.i64.wrap (x0 + (1 : Int))) (x1) (x2))) (lL2 (Go.IntKind.i64.wrap (x0 + (1 : Int))) (x1) (x2)))) (none)) (none)) (cond ((x1.getD x0.toNat ((0 : Int), (0 : Int), (0 : Int), false)).snd.snd.snd) (cond (decide ((x1.getD x0.toNat ((0 : Int), (0 : Int), (0 : Int), false)).snd.snd.fst < x2)) (some ((false, ()), ())) (lL2 (Go.IntKind.i64.wrap (x0 + (1 : Int))) (x1) (x2))) (lL2 (Go.IntKind.i64.wrap (x0 + (1 : Int))) (x1) (x2))))))) (none)) (none)) (cond (decide ((↑x1.length : Int) ≤ (6 : Int))) ((Go.Proofs.Ytpcohpkflkhfbaa.Rx.S.q57 n (x2, (0 : Int), (1000000 : Int), ())).bind fun r4 => some ((r4.fst.fst, ()), ())) (some ((false, ()), ())))
theorem e96_top (n : Nat) (a : List (Int × Int × Int × Bool) × Int) : runF TT G96 an96 Try.f96 c96 ps96 rs96 n (a, ()) = st96_top n (fun x0 x1 x2 => at96 n (.head 2) [n] (sh96_L2 x0 x1 x2)) a := by kernel_rfl
theorem e96_L2_0 (n : Nat) (x0 : Int) (x1 : List (Int × Int × Int × Bool)) (x2 : Int) : at96 n (.head 2) [0] (sh96_L2 x0 x1 x2) = none := by kernel_rfl
theorem e96_L2 (n : Nat) (m2 : Nat) (x0 : Int) (x1 : List (Int × Int × Int × Bool)) (x2 : Int) : at96 n (.head 2) [m2 + 1] (sh96_L2 x0 x1 x2) = st96_L2 n (fun x0 x1 x2 => at96 n (.head 2) [m2] (sh96_L2 x0 x1 x2)) x0 x1 x2 := by kernel_rfl
noncomputable def p96_L2 (n : Nat) : Nat → Int → (List (Int × Int × Int × Bool)) → Int → Option R96
  | 0, _, _, _ => none
  | m + 1, x0, x1, x2 => st96_L2 n (p96_L2 n m) x0 x1 x2
noncomputable def p96 (n : Nat) (a : List (Int × Int × Int × Bool) × Int) : Option R96 := st96_top n (p96_L2 n n) a
theorem t96_L2 (n : Nat) : ∀ (m2 : Nat) (x0 : Int) (x1 : List (Int × Int × Int × Bool)) (x2 : Int), at96 n (.head 2) [m2] (sh96_L2 x0 x1 x2) = p96_L2  n m2 x0 x1 x2 := by
  intro m
  induction m with
  | zero => intros; rw [e96_L2_0]; rfl
  | succ m ih =>
    intros
    rw [e96_L2]
    simp only [ih]
    rfl
theorem F96_eq (n : Nat) (a : List (Int × Int × Int × Bool) × Int) : runF TT G96 an96 Try.f96 c96 ps96 rs96 n (a, ()) = p96 n a := by
  rw [e96_top]
  simp only [t96_L2]
  try rfl
noncomputable def q96 (n : Nat) (x : argsD ps96) : Option R96 := p96 n x.1
noncomputable def Sm96 : Sm := ⟨ps96, rs96, false, q96⟩
theorem holds96 (hg : GamOK Try.prog G96) : Holds Try.prog 96 Sm96 := by
  have := h0_96 hg
  have e : (runF TT G96 an96 Try.f96 c96 ps96 rs96) = q96 := by
    funext n x
    exact F96_eq n x.1
  rw [e] at this
  exact this
theorem gam96 : GamOK Try.prog G96 := by
  intro f s h
  unfold G96 at h
  split at h
  · injection h with h; subst h; exact ⟨⟨Try.f57, c57, Try.func57, by kernel_rfl, by decide +kernel⟩, hh57⟩
  · cases h
theorem hh96 : Holds Try.prog 96 Sm96 := holds96 gam96
end Go.Proofs.Ytpcohpkflkhfbaa.Rx.S
namespace Go.Proofs.Ytpcohpkflkhfbaa.Rx.S
open Go Go.RowKit Go.Proofs
set_option maxRecDepth 100000
noncomputable def c97 : Code := (Try.f97.body.getD .skip)
def an97 : An := ⟨fun r => match r with | 2 => ⟨[1, 2, 5], []⟩ | _ => ⟨[], []⟩, fun _ _ => none⟩
abbrev ps97 : List PK := [.val (.pair (.row 111 tTh) i64) true, .val i64 false]
abbrev rs97 : List RK := [.val i64 false]
abbrev R97 := retsD rs97 × outsD ps97
noncomputable def G97 : Gam := fun _ => none
theorem h0_97 (hg : GamOK Try.prog G97) : Holds Try.prog 97 ⟨ps97, rs97, false, runF TT G97 an97 Try.f97 c97 ps97 rs97⟩ := holds_of tt_ok hg mixed Try.func97 (by kernel_rfl) (by rfl) (by decide +kernel)
noncomputable def at97 : Nat → Pt → List Nat → St → Option R97 := atF TT G97 an97 Try.f97 c97 _ _
def sh97_L2 (x0 : Int) (x1 : Int) (x2 : List (Int × Int × Int × Bool)) (x3 : Int) : St := (Go.Proofs.Ytpcohpkflkhfbaa.Rx.St.mk (Go.Proofs.Ytpcohpkflkhfbaa.Rx.AV.undef :: ((Go.Proofs.Ytpcohpkflkhfbaa.Rx.AV.one (Go.Proofs.Ytpcohpkflkhfbaa.Rx.SV.int (Go.IntKind.i64) x0)) :: ((Go.Proofs.Ytpcohpkflkhfbaa.Rx.AV.one (Go.Proofs.Ytpcohpkflkhfbaa.Rx.SV.bptr 1000000 0)) :: (Go.Proofs.Ytpcohpkflkhfbaa.Rx.AV.undef :: (Go.Proofs.Ytpcohpkflkhfbaa.Rx.AV.undef :: ((Go.Proofs.Ytpcohpkflkhfbaa.Rx.AV.one (Go.Proofs.Ytpcohpkflkhfbaa.Rx.SV.int (Go.IntKind.i64) x1)) :: (Go.Proofs.Ytpcohpkflkhfbaa.Rx.AV.undef :: (Go.Proofs.Ytpcohpkflkhfbaa.Rx.AV.undef :: (Go.Proofs.Ytpcohpkflkhfbaa.Rx.AV.undef :: (Go.Proofs.Ytpcohpkflkhfbaa.Rx.AV.undef :: (Go.Proofs.Ytpcohpkflkhfbaa.Rx.AV.undef :: (Go.Proofs.Ytpcohpkflkhfbaa.Rx.AV.undef :: (Go.Proofs.Ytpcohpkflkhfbaa.Rx.AV.undef :: (Go.Proofs.Ytpcohpkflkhfbaa.Rx.AV.undef :: (Go.Proofs.Ytpcohpkflkhfbaa.Rx.AV.undef :: (Go.Proofs.Ytpcohpkflkhfbaa.Rx.AV.undef :: (Go.Proofs.Ytpcohpkflkhfbaa.Rx.AV.undef :: (Go.Proofs.Ytpcohpkflkhfbaa.Rx.AV.undef :: (Go.Proofs.Ytpcohpkflkhfbaa.Rx.AV.undef :: (Go.Proofs.Ytpcohpkflkhfbaa.Rx.AV.undef :: (Go.Proofs.Ytpcohpkflkhfbaa.Rx.AV.undef :: (Go.Proofs.Ytpcohpkflkhfbaa.Rx.AV.undef :: [])))))))))))))))))))))) ((1000000, (Go.Proofs.Ytpcohpkflkhfbaa.Rx.Ent.box ((Go.Proofs.Ytpcohpkflkhfbaa.Rx.SV.con (⟨111, (Go.Proofs.Ytpcohpkflkhfbaa.Rx.Ty.int Go.IntKind.i64).pair   ((Go.Proofs.Ytpcohpkflkhfbaa.Rx.Ty.int Go.IntKind.i64).pair ((Go.Proofs.Ytpcohpkflkhfbaa.Rx.Ty.int Go.IntKind.i64).pair Go.Proofs.Ytpcohpkflkhfbaa.Rx.Ty.bool)), x2⟩ : Rw)) :: ((Go.Proofs.Ytpcohpkflkhfbaa.Rx.SV.int (Go.IntKind.i64) x3) :: [])))) :: []))
noncomputable def st97_top (n : Nat) (lL2 : Int → Int → (List (Int × Int × Int × Bool)) → Int → Option R97) (a : List (Int × Int × Int × Bool) × Int) (b : Int) : Option R97 :=
  lL2 (b) ((0 : Int)) (a.fst) (a.snd)
noncomputable def st97_L2 (n : Nat) (lL2 : Int → Int → (List (Int × Int × Int × Bool)) → Int → Option R97) (x0 : Int) (x1 : Int) (x2 : List (Int × Int × Int × Bool)) (x3 : Int) : Option R97 :=
  cond (decide (x1 < (↑x2.length : Int))) (cond (decide ((0 : Int) ≤ x1)) (cond (decide (x1 < (↑x2.length : Int))) (cond (decide ((x2.getD x1.toNat ((0 : Int), (0 : Int), (0 : Int), false)).fst = x0)) (some ((x1, ()), ())) (lL2 (x0) (Go.IntKind.i64.wrap (x1 + (1 : Int))) (x2) (x3))) (none)) (none)) (some (((-1 : Int), ()), ()))
theorem e97_top (n : Nat) (a : List (Int × Int × Int × Bool) × Int) (b : Int) : runF TT G97 an97 Try.f97 c97 ps97 rs97 n (a, b, ()) = st97_top n (fun x0 x1 x2 x3 => at97 n (.head 2) [n] (sh97_L2 x0 x1 x2 x3)) a b := by kernel_rfl
theorem e97_L2_0 (n : Nat) (x0 : Int) (x1 : Int) (x2 : List (Int × Int × Int × Bool)) (x3 : Int) : at97 n (.head 2) [0] (sh97_L2 x0 x1 x2 x3) = none := by kernel_rfl
theorem e97_L2 (n : Nat) (m2 : Nat) (x0 : Int) (x1 : Int) (x2 : List (Int × Int × Int × Bool)) (x3 : Int) : at97 n (.head 2) [m2 + 1] (sh97_L2 x0 x1 x2 x3) = st97_L2 n (fun x0 x1 x2 x3 => at97 n (.head 2) [m2] (sh97_L2 x0 x1 x2 x3)) x0 x1 x2 x3 := by kernel_rfl
noncomputable def p97_L2 (n : Nat) : Nat → Int → Int → (List (Int × Int × Int × Bool)) → Int → Option R97
  | 0, _, _, _, _ => none
  | m + 1, x0, x1, x2, x3 => st97_L2 n (p97_L2 n m) x0 x1 x2 x3
noncomputable def p97 (n : Nat) (a : List (Int × Int × Int × Bool) × Int) (b : Int) : Option R97 := st97_top n (p97_L2 n n) a b
theorem t97_L2 (n : Nat) : ∀ (m2 : Nat) (x0 : Int) (x1 : Int) (x2 : List (Int × Int × Int × Bool)) (x3 : Int), at97 n (.head 2) [m2] (sh97_L2 x0 x1 x2 x3) = p97_L2  n m2 x0 x1 x2 x3 := by
  intro m
  induction m with
  | zero => intros; rw [e97_L2_0]; rfl
  | succ m ih =>
    intros
    rw [e97_L2]
    simp only [ih]
    rfl
theorem F97_eq (n : Nat) (a : List (Int × Int × Int × Bool) × Int) (b : Int) : runF TT G97 an97 Try.f97 c97 ps97 rs97 n (a, b, ()) = p97 n a b := by
  rw [e97_top]
  simp only [t97_L2]
  try rfl
noncomputable def q97 (n : Nat) (x : argsD ps97) : Option R97 := p97 n x.1 x.2.1
noncomputable def Sm97 : Sm := ⟨ps97, rs97, false, q97⟩
theorem holds97 (hg : GamOK Try.prog G97) : Holds Try.prog 97 Sm97 := by
  have := h0_97 hg
  have e : (runF TT G97 an97 Try.f97 c97 ps97 rs97) = q97 := by
    funext n x
    exact F97_eq n x.1 x.2.1
  rw [e] at this
  exact this
theorem gam97 : GamOK Try.prog G97 := fun _ _ h => by cases h
theorem hh97 : Holds Try.prog 97 Sm97 := holds97 gam97
end Go.Proofs.Ytpcohpkflkhfbaa.Rx.S
namespace Go.Proofs.Ytpcohpkflkhfbaa.Rx.S
open Go Go.RowKit Go.Proofs
set_option maxRecDepth 100000
noncomputable def c98 : Code := (Try.f98.body.getD .skip)
def an98 : An := ⟨fun r => match r with | 4 => ⟨[2, 3, 4, 5, 6, 7], []⟩ | _ => ⟨[], []⟩, fun _ _ => none⟩
abbrev ps98 : List PK := [.val (.pair (.row 111 tTh) i64) true, .val tTh true]
abbrev rs98 : List RK := [.own (.pair (.row 111 tTh) i64) true]
abbrev R98 := retsD rs98 × outsD ps98
noncomputable def G98 : Gam := fun _ => none
theorem h0_98 (hg : GamOK Try.prog G98) : Holds Try.prog 98 ⟨ps98, rs98, false, runF TT G98 an98 Try.f98 c98 ps98 rs98⟩ := holds_of tt_ok hg mixed Try.func98 (by kernel_rfl) (by rfl) (by decide +kernel)
noncomputable def at98 : Nat → Pt → List Nat → St → Option R98 := atF TT G98 an98 Try.f98 c98 _ _
def sh98_L4 (x0 : Bool) (x1 : Int) (x2 : List (Int × Int × Int × Bool)) (x3 : Int) (x4 : Int) (x5 : Int) (x6 : Int) (x7 : Bool) (x8 : Int) (x9 : List (Int × Int × Int × Bool)) : St := (Go.Proofs.Ytpcohpkflkhfbaa.Rx.St.mk (Go.Proofs.Ytpcohpkflkhfbaa.Rx.AV.undef :: (Go.Proofs.Ytpcohpkflkhfbaa.Rx.AV.undef :: ((Go.Proofs.Ytpcohpkflkhfbaa.Rx.AV.one (Go.Proofs.Ytpcohpkflkhfbaa.Rx.SV.bptr 1000000 0)) :: ((Go.Proofs.Ytpcohpkflkhfbaa.Rx.AV.one (Go.Proofs.Ytpcohpkflkhfbaa.Rx.SV.bptr 1000001 0)) :: ((Go.Proofs.Ytpcohpkflkhfbaa.Rx.AV.one (Go.Proofs.Ytpcohpkflkhfbaa.Rx.SV.bptr 1000002 0)) :: ((Go.Proofs.Ytpcohpkflkhfbaa.Rx.AV.one (Go.Proofs.Ytpcohpkflkhfbaa.Rx.SV.ref 1000003 0 [] Option.none)) :: ((Go.Proofs.Ytpcohpkflkhfbaa.Rx.AV.one (Go.Proofs.Ytpcohpkflkhfbaa.Rx.SV.bool x0)) :: ((Go.Proofs.Ytpcohpkflkhfbaa.Rx.AV.one (Go.Proofs.Ytpcohpkflkhfbaa.Rx.SV.int (Go.IntKind.i64) x1)) :: (Go.Proofs.Ytpcohpkflkhfbaa.Rx.AV.undef :: (Go.Proofs.Ytpcohpkflkhfbaa.Rx.AV.undef :: (Go.Proofs.Ytpcohpkflkhfbaa.Rx.AV.undef :: (Go.Proofs.Ytpcohpkflkhfbaa.Rx.AV.undef :: (Go.Proofs.Ytpcohpkflkhfbaa.Rx.AV.undef :: (Go.Proofs.Ytpcohpkflkhfbaa.Rx.AV.undef :: (Go.Proofs.Ytpcohpkflkhfbaa.Rx.AV.undef :: (Go.Proofs.Ytpcohpkflkhfbaa.Rx.AV.undef :: (Go.Proofs.Ytpcohpkflkhfbaa.Rx.AV.undef :: (Go.Proofs.Ytpcohpkflkhfbaa.Rx.AV.undef :: (Go.Proofs.Ytpcohpkflkhfbaa.Rx.AV.undef :: (Go.Proofs.Ytpcohpkflkhfbaa.Rx.AV.undef :: (Go.Proofs.Ytpcohpkflkhfbaa.Rx.AV.undef :: (Go.Proofs.Ytpcohpkflkhfbaa.Rx.AV.undef :: (Go.Proofs.Ytpcohpkflkhfbaa.Rx.AV.undef :: (Go.Proofs.Ytpcohpkflkhfbaa.Rx.AV.undef :: (Go.Proofs.Ytpcohpkflkhfbaa.Rx.AV.undef :: (Go.Proofs.Ytpcohpkflkhfbaa.Rx.AV.undef :: (Go.Proofs.Ytpcohpkflkhfbaa.Rx.AV.undef :: (Go.Proofs.Ytpcohpkflkhfbaa.Rx.AV.undef :: (Go.Proofs.Ytpcohpkflkhfbaa.Rx.AV.undef :: (Go.Proofs.Ytpcohpkflkhfbaa.Rx.AV.undef :: (Go.Proofs.Ytpcohpkflkhfbaa.Rx.AV.undef :: (Go.Proofs.Ytpcohpkflkhfbaa.Rx.AV.undef :: (Go.Proofs.Ytpcohpkflkhfbaa.Rx.AV.undef :: (Go.Proofs.Ytpcohpkflkhfbaa.Rx.AV.undef :: (Go.Proofs.Ytpcohpkflkhfbaa.Rx.AV.undef :: (Go.Proofs.Ytpcohpkflkhfbaa.Rx.AV.undef :: (Go.Proofs.Ytpcohpkflkhfbaa.Rx.AV.undef :: (Go.Proofs.Ytpcohpkflkhfbaa.Rx.AV.undef :: (Go.Proofs.Ytpcohpkflkhfbaa.Rx.AV.undef :: (Go.Proofs.Ytpcohpkflkhfbaa.Rx.AV.undef :: (Go.Proofs.Ytpcohpkflkhfbaa.Rx.AV.undef :: (Go.Proofs.Ytpcohpkflkhfbaa.Rx.AV.undef :: (Go.Proofs.Ytpcohpkflkhfbaa.Rx.AV.undef :: (Go.Proofs.Ytpcohpkflkhfbaa.Rx.AV.undef :: (Go.Proofs.Ytpcohpkflkhfbaa.Rx.AV.undef :: (Go.Proofs.Ytpcohpkflkhfbaa.Rx.AV.undef :: (Go.Proofs.Ytpcohpkflkhfbaa.Rx.AV.undef :: (Go.Proofs.Ytpcohpkflkhfbaa.Rx.AV.undef :: (Go.Proofs.Ytpcohpkflkhfbaa.Rx.AV.undef :: (Go.Proofs.Ytpcohpkflkhfbaa.Rx.AV.undef :: [])))))))))))))))))))))))))))))))))))))))))))))))))) ((1000000, (Go.Proofs.Ytpcohpkflkhfbaa.Rx.Ent.box ((Go.Proofs.Ytpcohpkflkhfbaa.Rx.SV.con (⟨111, (Go.Proofs.Ytpcohpkflkhfbaa.Rx.Ty.int Go.IntKind.i64).pair   ((Go.Proofs.Ytpcohpkflkhfbaa.Rx.Ty.int Go.IntKind.i64).pair ((Go.Proofs.Ytpcohpkflkhfbaa.Rx.Ty.int Go.IntKind.i64).pair Go.Proofs.Ytpcohpkflkhfbaa.Rx.Ty.bool)), x2⟩ : Rw)) :: ((Go.Proofs.Ytpcohpkflkhfbaa.Rx.SV.int (Go.IntKind.i64) x3) :: [])))) :: ((1000001, (Go.Proofs.Ytpcohpkflkhfbaa.Rx.Ent.box ((Go.Proofs.Ytpcohpkflkhfbaa.Rx.SV.int (Go.IntKind.i64) x4) :: ((Go.Proofs.Ytpcohpkflkhfbaa.Rx.SV.int (Go.IntKind.i64) x5) :: ((Go.Proofs.Ytpcohpkflkhfbaa.Rx.SV.int (Go.IntKind.i64) x6) :: ((Go.Proofs.Ytpcohpkflkhfbaa.Rx.SV.bool x7) :: [])))))) :: ((1000002, (Go.Proofs.Ytpcohpkflkhfbaa.Rx.Ent.box (Go.Proofs.Ytpcohpkflkhfbaa.Rx.SV.nil :: ((Go.Proofs.Ytpcohpkflkhfbaa.Rx.SV.int (Go.IntKind.i64) x8) :: [])))) :: ((1000003, (Go.Proofs.Ytpcohpkflkhfbaa.Rx.Ent.row (⟨111, (Go.Proofs.Ytpcohpkflkhfbaa.Rx.Ty.int Go.IntKind.i64).pair   ((Go.Proofs.Ytpcohpkflkhfbaa.Rx.Ty.int Go.IntKind.i64).pair ((Go.Proofs.Ytpcohpkflkhfbaa.Rx.Ty.int Go.IntKind.i64).pair Go.Proofs.Ytpcohpkflkhfbaa.Rx.Ty.bool)), x9⟩ : Rw) 0 Option.none)) :: [])))))
noncomputable def st98_top (n : Nat) (lL4 : Bool → Int → (List (Int × Int × Int × Bool)) → Int → Int → Int → Int → Bool → Int → (List (Int × Int × Int × Bool)) → Option R98) (a : List (Int × Int × Int × Bool) × Int) (b : Int × Int × Int × Bool) : Option R98 :=
  lL4 (false) ((0 : Int)) (a.fst) (a.snd) (b.fst) (b.snd.fst) (b.snd.snd.fst) (b.snd.snd.snd) ((0 : Int)) ([])
noncomputable def st98_L4 (n : Nat) (lL4 : Bool → Int → (List (Int × Int × Int × Bool)) → Int → Int → Int → Int → Bool → Int → (List (Int × Int × Int × Bool)) → Option R98) (x0 : Bool) (x1 : Int) (x2 : List (Int × Int × Int × Bool)) (x3 : Int) (x4 : Int) (x5 : Int) (x6 : Int) (x7 : Bool) (x8 : Int) (x9 : List (Int × Int × Int × Bool)) : Option R98 :=
  cond (decide (x1 < (↑x2.length : Int))) (cond (!x0) (cond (decide ((0 : Int) ≤ x1)) (cond (decide (x1 < (↑x2.length : Int))) (cond (decide (x4 < (x2.getD x1.toNat ((0 : Int), (0 : Int), (0 : Int), false)).fst)) (cond (decide ((x9.length + [(x4, x5, x6, x7)].length) * (32 : Nat) ≤ (140737488355328 : Nat))) (cond (decide ((0 : Int) ≤ x1)) (cond (decide (x1 < (↑x2.length : Int))) (cond (decide   (((x9 ++ [(x4, x5, x6, x7)]).length +         [((x2.getD x1.toNat ((0 : Int), (0 : Int), (0 : Int), false)).fst,               (x2.getD x1.toNat ((0 : Int), (0 : Int), (0 : Int), false)).snd.fst,               (x2.getD x1.toNat ((0 : Int), (0 : Int), (0 : Int), false)).snd.snd.fst,               (x2.getD x1.toNat ((0 : Int), (0 : Int), (0 : Int), false)).snd.snd.snd)].length) *       (32 : Nat) ≤     (140737488355328 : Nat))) (lL4 (true) (Go.IntKind.i64.wrap (x1 + (1 : Int))) (x2) (x3) (x4) (x5) (x6) (x7) (x8) (x9 ++ [(x4, x5, x6, x7)] ++   [((x2.getD x1.toNat ((0 : Int), (0 : Int), (0 : Int), false)).fst,       (x2.getD x1.toNat ((0 : Int), (0 : Int), (0 : Int), false)).snd.fst,       (x2.getD x1.toNat ((0 : Int), (0 : Int), (0 : Int), false)).snd.snd.fst,       (x2.getD x1.toNat ((0 : Int), (0 : Int), (0 : Int), false)).snd.snd.snd)])) (none)) (none)) (none)) (none)) (cond (decide ((0 : Int) ≤ x1)) (cond (decide (x1 < (↑x2.length : Int))) (cond (decide   ((x9.length +         [((x2.getD x1.toNat ((0 : Int), (0 : Int), (0 : Int), false)).fst,               (x2.getD x1.toNat ((0 : Int), (0 : Int), (0 : Int), false)).snd.fst,               (x2.getD x1.toNat ((0 : Int), (0 : Int), (0 : Int), false)).snd.snd.fst,               (x2.getD x1.toNat ((0 : Int), (0 : Int), (0 : Int), false)).snd.snd.snd)].length) *       (32 : Nat) ≤     (140737488355328 : Nat))) (lL4 (x0) (Go.IntKind.i64.wrap (x1 + (1 : Int))) (x2) (x3) (x4) (x5) (x6) (x7) (x8) (x9 ++   [((x2.getD x1.toNat ((0 : Int), (0 : Int), (0 : Int), false)).fst,       (x2.getD x1.toNat ((0 : Int), (0 : Int), (0 : Int), false)).snd.fst,       (x2.getD x1.toNat ((0 : Int), (0 : Int), (0 : Int), false)).snd.snd.fst,       (x2.getD x1.toNat ((0 : Int), (0 : Int), (0 : Int), false)).snd.snd.snd)])) (none)) (none)) (none))) (none)) (none)) (cond (decide ((0 : Int) ≤ x1)) (cond (decide (x1 < (↑x2.length : Int))) (cond (decide   ((x9.length +         [((x2.getD x1.toNat ((0 : Int), (0 : Int), (0 : Int), false)).fst,               (x2.getD x1.toNat ((0 : Int), (0 : Int), (0 : Int), false)).snd.fst,               (x2.getD x1.toNat ((0 : Int), (0 : Int), (0 : Int), false)).snd.snd.fst,               (x2.getD x1.toNat ((0 : Int), (0 : Int), (0 : Int), false)).snd.snd.snd)].length) *       (32 : Nat) ≤     (140737488355328 : Nat))) (lL4 (x0) (Go.IntKind.i64.wrap (x1 + (1 : Int))) (x2) (x3) (x4) (x5) (x6) (x7) (x8) (x9 ++   [((x2.getD x1.toNat ((0 : Int), (0 : Int), (0 : Int), false)).fst,       (x2.getD x1.toNat ((0 : Int), (0 : Int), (0 : Int), false)).snd.fst,       (x2.getD x1.toNat ((0 : Int), (0 : Int), (0 : Int), false)).snd.snd.fst,       (x2.getD x1.toNat ((0 : Int), (0 : Int), (0 : Int), false)).snd.snd.snd)])) (none)) (none)) (none))) (cond (!x0) (cond (decide ((x9.length + [(x4, x5, x6, x7)].length) * (32 : Nat) ≤ (140737488355328 : Nat))) (some (((x9 ++ [(x4, x5, x6, x7)], x3), ()), ())) (none)) (some (((x9, x3), ()), ())))
theorem e98_top (n : Nat) (a : List (Int × Int × Int × Bool) × Int) (b : Int × Int × Int × Bool) : runF TT G98 an98 Try.f98 c98 ps98 rs98 n (a, b, ()) = st98_top n (fun x0 x1 x2 x3 x4 x5 x6 x7 x8 x9 => at98 n (.head 4) [n] (sh98_L4 x0 x1 x2 x3 x4 x5 x6 x7 x8 x9)) a b := by kernel_rfl
theorem e98_L4_0 (n : Nat) (x0 : Bool) (x1 : Int) (x2 : List (Int × Int × Int × Bool)) (x3 : Int) (x4 : Int) (x5 : Int) (x6 : Int) (x7 : Bool) (x8 : Int) (x9 : List (Int × Int × Int × Bool)) : at98 n (.head 4) [0] (sh98_L4 x0 x1 x2 x3 x4 x5 x6 x7 x8 x9) = none := by kernel_rfl
theorem e98_L4 (n : Nat) (m4 : Nat) (x0 : Bool) (x1 : Int) (x2 : List (Int × Int × Int × Bool)) (x3 : Int) (x4 : Int) (x5 : Int) (x6 : Int) (x7 : Bool) (x8 : Int) (x9 : List (Int × Int × Int × Bool)) : at98 n (.head 4) [m4 + 1] (sh98_L4 x0 x1 x2 x3 x4 x5 x6 x7 x8 x9) = st98_L4 n (fun x0 x1 x2 x3 x4 x5 x6 x7 x8 x9 => at98 n (.head 4) [m4] (sh98_L4 x0 x1 x2 x3 x4 x5 x6 x7 x8 x9)) x0 x1 x2 x3 x4 x5 x6 x7 x8 x9 := by kernel_rfl
noncomputable def p98_L4 (n : Nat) : Nat → Bool → Int → (List (Int × Int × Int × Bool)) → Int → Int → Int → Int → Bool → Int → (List (Int × Int × Int × Bool)) → Option R98
  | 0, _, _, _, _, _, _, _, _, _, _ => none
  | m + 1, x0, x1, x2, x3, x4, x5, x6, x7, x8, x9 => st98_L4 n (p98_L4 n m) x0 x1 x2 x3 x4 x5 x6 x7 x8 x9
noncomputable def p98 (n : Nat) (a : List (Int × Int × Int × Bool) × Int) (b : Int × Int × Int × Bool) : Option R98 := st98_top n (p98_L4 n n) a b
theorem t98_L4 (n : Nat) : ∀ (m4 : Nat) (x0 : Bool) (x1 : Int) (x2 : List (Int × Int × Int × Bool)) (x3 : Int) (x4 : Int) (x5 : Int) (x6 : Int) (x7 : Bool) (x8 : Int) (x9 : List (Int × Int × Int × Bool)), at98 n (.head 4) [m4] (sh98_L4 x0 x1 x2 x3 x4 x5 x6 x7 x8 x9) = p98_L4  n m4 x0 x1 x2 x3 x4 x5 x6 x7 x8 x9 := by
  intro m
  induction m with
  | zero => intros; rw [e98_L4_0]; rfl
  | succ m ih =>
    intros
    rw [e98_L4]
    simp only [ih]
    rfl
theorem F98_eq (n : Nat) (a : List (Int × Int × Int × Bool) × Int) (b : Int × Int × Int × Bool) : runF TT G98 an98 Try.f98 c98 ps98 rs98 n (a, b, ()) = p98 n a b := by
  rw [e98_top]
  simp only [t98_L4]
  try rfl
noncomputable def q98 (n : Nat) (x : argsD ps98) : Option R98 := p98 n x.1 x.2.1
noncomputable def Sm98 : Sm := ⟨ps98, rs98, false, q98⟩
theorem holds98 (hg : GamOK Try.prog G98) : Holds Try.prog 98 Sm98 := by
  have := h0_98 hg
  have e : (runF TT G98 an98 Try.f98 c98 ps98 rs98) = q98 := by
    funext n x
    exact F98_eq n x.1 x.2.1
  rw [e] at this
  exact this
theorem gam98 : GamOK Try.prog G98 := fun _ _ h => by cases h
theorem hh98 : Holds Try.prog 98 Sm98 := holds98 gam98
end Go.Proofs.Ytpcohpkflkhfbaa.Rx.S
namespace Go.Proofs.Ytpcohpkflkhfbaa.Rx.S
open Go Go.RowKit Go.Proofs
set_option maxRecDepth 100000
noncomputable def c99 : Code := (Try.f99.body.getD .skip)
def an99 : An := ⟨fun _ => ⟨[], []⟩, fun _ _ => none⟩
abbrev ps99 : List PK := [.val (.pair (.row 111 tTh) i64) true]
abbrev rs99 : List RK := [.own (.pair (.row 111 tTh) i64) true]
abbrev R99 := retsD rs99 × outsD ps99
noncomputable def G99 : Gam := fun _ => none
theorem h0_99 (hg : GamOK Try.prog G99) : Holds Try.prog 99 ⟨ps99, rs99, false, runF TT G99 an99 Try.f99 c99 ps99 rs99⟩ := holds_of tt_ok hg mixed Try.func99 (by kernel_rfl) (by rfl) (by decide +kernel)
noncomputable def at99 : Nat → Pt → List Nat → St → Option R99 := atF TT G99 an99 Try.f99 c99 _ _
noncomputable def st99_top (n : Nat)  (a : List (Int × Int × Int × Bool) × Int) : Option R99 :=
  cond (decide (((0 : Nat) + List.length a.fst) * (32 : Nat) ≤ (140737488355328 : Nat))) (some (((a.fst, a.snd), ()), ())) (none)
theorem e99_top (n : Nat) (a : List (Int × Int × Int × Bool) × Int) : runF TT G99 an99 Try.f99 c99 ps99 rs99 n (a, ()) = st99_top n  a := by kernel_rfl
noncomputable def p99 (n : Nat) (a : List (Int × Int × Int × Bool) × Int) : Option R99 := st99_top n  a
theorem F99_eq (n : Nat) (a : List (Int × Int × Int × Bool) × Int) : runF TT G99 an99 Try.f99 c99 ps99 rs99 n (a, ()) = p99 n a := by
  rw [e99_top]
  skip
  try rfl
noncomputable def q99 (n : Nat) (x : argsD ps99) : Option R99 := p99 n x.1
noncomputable def Sm99 : Sm := ⟨ps99, rs99, false, q99⟩
theorem holds99 (hg : GamOK Try.prog G99) : Holds Try.prog 99 Sm99 := by
  have := h0_99 hg
  have e : (runF TT G99 an99 Try.f99 c99 ps99 rs99) = q99 := by
    funext n x
    exact F99_eq n x.1
  rw [e] at this
  exact this
theorem gam99 : GamOK Try.prog G99 := fun _ _ h => by cases h
theorem hh99 : Holds Try.prog 99 Sm99 := holds99 gam99
end Go.Proofs.Ytpcohpkflkhfbaa.Rx.S
namespace Go.Proofs.Ytpcohpkflkhfbaa.Rx.S
open Go Go.RowKit Go.Proofs
set_option maxRecDepth 100000
noncomputable def c45 : Code := (Try.f45.body.getD .skip)
def an45 : An := ⟨fun _ => ⟨[], []⟩, fun _ _ => none⟩
abbrev ps45 : List PK := [.val (.pair (.row 111 tTh) i64) true, .val i64 false, .val i64 false]
abbrev rs45 : List RK := [.own (.pair (.row 111 tTh) i64) true, .val .bool false]
abbrev R45 := retsD rs45 × outsD ps45
noncomputable def G45 : Gam := fun f => match f with | 57 => some Sm57 | 96 => some Sm96 | 97 => some Sm97 | 98 => some Sm98 | 99 => some Sm99 | _ => none
theorem h0_45 (hg : GamOK Try.prog G45) : Holds Try.prog 45 ⟨ps45, rs45, false, runF TT G45 an45 Try.f45 c45 ps45 rs45⟩ := holds_of tt_ok hg mixed Try.func45 (by kernel_rfl) (by rfl) (by decide +kernel)
noncomputable def at45 : Nat → Pt → List Nat → St → Option R45 := atF TT G45 an45 Try.f45 c45 _ _
noncomputable def st45_top (n : Nat)  (a : List (Int × Int × Int × Bool) × Int) (b : Int) (c : Int) : Option R45 :=
  (Go.Proofs.Ytpcohpkflkhfbaa.Rx.S.q96 n ((a.fst, a.snd), ())).bind fun r0 => cond (!r0.fst.fst) (some ((([], (0 : Int)), (false, ())), ())) ((Go.Proofs.Ytpcohpkflkhfbaa.Rx.S.q97 n ((a.fst, a.snd), b, ())).bind fun r1 => cond (decide ((0 : Int) ≤ r1.fst.fst)) (some ((([], (0 : Int)), (false, ())), ())) (cond (decide ((6 : Int) ≤ (↑(List.length a.fst) : Int))) (some ((([], (0 : Int)), (false, ())), ())) ((Go.Proofs.Ytpcohpkflkhfbaa.Rx.S.q57 n (b, (0 : Int), (99 : Int), ())).bind fun r2 => cond (!r2.fst.fst) (some ((([], (0 : Int)), (false, ())), ())) ((Go.Proofs.Ytpcohpkflkhfbaa.Rx.S.q57 n (c, (1 : Int), (6 : Int), ())).bind fun r3 => cond (!r3.fst.fst) (some ((([], (0 : Int)), (false, ())), ())) ((Go.Proofs.Ytpcohpkflkhfbaa.Rx.S.q99 n ((a.fst, a.snd), ())).bind fun r4 => (Go.Proofs.Ytpcohpkflkhfbaa.Rx.S.q98 n ((r4.fst.fst.fst, r4.fst.fst.snd), (b, c, a.snd, true), ())).bind fun r5 => some (((r5.fst.fst.fst, r5.fst.fst.snd), (true, ())), ()))))))
theorem e45_top (n : Nat) (a : List (Int × Int × Int × Bool) × Int) (b : Int) (c : Int) : runF TT G45 an45 Try.f45 c45 ps45 rs45 n (a, b, c, ()) = st45_top n  a b c := by kernel_rfl
noncomputable def p45 (n : Nat) (a : List (Int × Int × Int × Bool) × Int) (b : Int) (c : Int) : Option R45 := st45_top n  a b c
theorem F45_eq (n : Nat) (a : List (Int × Int × Int × Bool) × Int) (b : Int) (c : Int) : runF TT G45 an45 Try.f45 c45 ps45 rs45 n (a, b, c, ()) = p45 n a b c := by
  rw [e45_top]
  skip
  try rfl
noncomputable def q45 (n : Nat) (x : argsD ps45) : Option R45 := p45 n x.1 x.2.1 x.2.2.1
noncomputable def Sm45 : Sm := ⟨ps45, rs45, false, q45⟩
theorem holds45 (hg : GamOK Try.prog G45) : Holds Try.prog 45 Sm45 := by
  have := h0_45 hg
  have e : (runF TT G45 an45 Try.f45 c45 ps45 rs45) = q45 := by
    funext n x
    exact F45_eq n x.1 x.2.1 x.2.2.1
  rw [e] at this
  exact this
theorem gam45 : GamOK Try.prog G45 := by
  intro f s h
  unfold G45 at h
  split at h
  · injection h with h; subst h; exact ⟨⟨Try.f57, c57, Try.func57, by kernel_rfl, by decide +kernel⟩, hh57⟩
  · injection h with h; subst h; exact ⟨⟨Try.f96, c96, Try.func96, by kernel_rfl, by decide +kernel⟩, hh96⟩
  · injection h with h; subst h; exact ⟨⟨Try.f97, c97, Try.func97, by kernel_rfl, by decide +kernel⟩, hh97⟩
  · injection h with h; subst h; exact ⟨⟨Try.f98, c98, Try.func98, by kernel_rfl, by decide +kernel⟩, hh98⟩
  · injection h with h; subst h; exact ⟨⟨Try.f99, c99, Try.func99, by kernel_rfl, by decide +kernel⟩, hh99⟩
  · cases h
theorem hh45 : Holds Try.prog 45 Sm45 := holds45 gam45
end Go.Proofs.Ytpcohpkflkhfbaa.Rx.S
namespace Go.Proofs.Ytpcohpkflkhfbaa.Rx.S
open Go Go.RowKit Go.Proofs
set_option maxRecDepth 100000
noncomputable def c101 : Code := (Try.f101.body.getD .skip)
def an101 : An := ⟨fun _ => ⟨[], []⟩, fun _ _ => none⟩
abbrev ps101 : List PK := [.val (.row 139 tTh) false, .val i64 false]
abbrev rs101 : List RK := [.val i64 false]
abbrev R101 := retsD rs101 × outsD ps101
noncomputable def G101 : Gam := fun _ => none
theorem h0_101 (hg : GamOK Try.prog G101) : Holds Try.prog 101 ⟨ps101, rs101, false, runF TT G101 an101 Try.f101 c101 ps101 rs101⟩ := holds_of tt_ok hg mixed Try.func101 (by kernel_rfl) (by rfl) (by decide +kernel)
noncomputable def at101 : Nat → Pt → List Nat → St → Option R101 := atF TT G101 an101 Try.f101 c101 _ _
noncomputable def st101_top (n : Nat)  (a : List (Int × Int × Int × Bool)) (b : Int) : Option R101 :=
  cond (decide (Go.IntKind.i64.wrap (b - (↑a.length : Int)) < (0 : Int))) (some (((-1 : Int), ()), ())) (some ((Go.IntKind.i64.wrap (b - (↑a.length : Int)), ()), ()))
theorem e101_top (n : Nat) (a : List (Int × Int × Int × Bool)) (b : Int) : runF TT G101 an101 Try.f101 c101 ps101 rs101 n (a, b, ()) = st101_top n  a b := by kernel_rfl
noncomputable def p101 (n : Nat) (a : List (Int × Int × Int × Bool)) (b : Int) : Option R101 := st101_top n  a b
theorem F101_eq (n : Nat) (a : List (Int × Int × Int × Bool)) (b : Int) : runF TT G101 an101 Try.f101 c101 ps101 rs101 n (a, b, ()) = p101 n a b := by
  rw [e101_top]
  skip
  try rfl
noncomputable def q101 (n : Nat) (x : argsD ps101) : Option R101 := p101 n x.1 x.2.1
noncomputable def Sm101 : Sm := ⟨ps101, rs101, false, q101⟩
theorem holds101 (hg : GamOK Try.prog G101) : Holds Try.prog 101 Sm101 := by
  have := h0_101 hg
  have e : (runF TT G101 an101 Try.f101 c101 ps101 rs101) = q101 := by
    funext n x
    exact F101_eq n x.1 x.2.1
  rw [e] at this
  exact this
theorem gam101 : GamOK Try.prog G101 := fun _ _ h => by cases h
theorem hh101 : Holds Try.prog 101 Sm101 := holds101 gam101
end Go.Proofs.Ytpcohpkflkhfbaa.Rx.S
namespace Go.Proofs.Ytpcohpkflkhfbaa.Rx.S
open Go Go.RowKit Go.Proofs
set_option maxRecDepth 100000
noncomputable def c49 : Code := (Try.f49.body.getD .skip)
def an49 : An := ⟨fun _ => ⟨[], []⟩, fun _ _ => none⟩
abbrev ps49 : List PK := [.val (.pair (.row 139 tTh) i64) true, .val i64 false]
abbrev rs49 : List RK := [.val i64 false]
abbrev R49 := retsD rs49 × outsD ps49
noncomputable def G49 : Gam := fun f => match f with | 101 => some Sm101 | _ => none
theorem h0_49 (hg : GamOK Try.prog G49) : Holds Try.prog 49 ⟨ps49, rs49, false, runF TT G49 an49 Try.f49 c49 ps49 rs49⟩ := holds_of tt_ok hg mixed Try.func49 (by kernel_rfl) (by rfl) (by decide +kernel)
noncomputable def at49 : Nat → Pt → List Nat → St → Option R49 := atF TT G49 an49 Try.f49 c49 _ _
noncomputable def st49_top (n : Nat)  (a : List (Int × Int × Int × Bool) × Int) (b : Int) : Option R49 :=
  (Go.Proofs.Ytpcohpkflkhfbaa.Rx.S.q101 n (a.fst, b, ())).bind fun r0 => cond (decide (r0.fst.fst < (0 : Int))) (some (((-1 : Int), ()), ())) (some ((r0.fst.fst, ()), ()))
theorem e49_top (n : Nat) (a : List (Int × Int × Int × Bool) × Int) (b : Int) : runF TT G49 an49 Try.f49 c49 ps49 rs49 n (a, b, ()) = st49_top n  a b := by kernel_rfl
noncomputable def p49 (n : Nat) (a : List (Int × Int × Int × Bool) × Int) (b : Int) : Option R49 := st49_top n  a b
theorem F49_eq (n : Nat) (a : List (Int × Int × Int × Bool) × Int) (b : Int) : runF TT G49 an49 Try.f49 c49 ps49 rs49 n (a, b, ()) = p49 n a b := by
  rw [e49_top]
  skip
  try rfl
noncomputable def q49 (n : Nat) (x : argsD ps49) : Option R49 := p49 n x.1 x.2.1
noncomputable def Sm49 : Sm := ⟨ps49, rs49, false, q49⟩
theorem holds49 (hg : GamOK Try.prog G49) : Holds Try.prog 49 Sm49 := by
  have := h0_49 hg
  have e : (runF TT G49 an49 Try.f49 c49 ps49 rs49) = q49 := by
    funext n x
    exact F49_eq n x.1 x.2.1
  rw [e] at this
  exact this
theorem gam49 : GamOK Try.prog G49 := by
  intro f s h
  unfold G49 at h
  split at h
  · injection h with h; subst h; exact ⟨⟨Try.f101, c101, Try.func101, by kernel_rfl, by decide +kernel⟩, hh101⟩
  · cases h
theorem hh49 : Holds Try.prog 49 Sm49 := holds49 gam49
end Go.Proofs.Ytpcohpkflkhfbaa.Rx.S
namespace Go.Proofs.Ytpcohpkflkhfbaa.Rx.S
open Go Go.RowKit Go.Proofs
set_option maxRecDepth 100000
noncomputable def c122 : Code := (Try.f122.body.getD .skip)
def an122 : An := ⟨fun _ => ⟨[], []⟩, fun _ _ => none⟩
abbrev ps122 : List PK := [.val tTh true]
abbrev rs122 : List RK := [.own tTh true]
abbrev R122 := retsD rs122 × outsD ps122
noncomputable def G122 : Gam := fun _ => none
theorem h0_122 (hg : GamOK Try.prog G122) : Holds Try.prog 122 ⟨ps122, rs122, false, runF TT G122 an122 Try.f122 c122 ps122 rs122⟩ := holds_of tt_ok hg mixed Try.func122 (by kernel_rfl) (by rfl) (by decide +kernel)
noncomputable def at122 : Nat → Pt → List Nat → St → Option R122 := atF TT G122 an122 Try.f122 c122 _ _
noncomputable def st122_top (n : Nat)  (a : Int × Int × Int × Bool) : Option R122 :=
  some (((a.fst, (a.snd.fst, (a.snd.snd.fst, a.snd.snd.snd))), ()), ())
theorem e122_top (n : Nat) (a : Int × Int × Int × Bool) : runF TT G122 an122 Try.f122 c122 ps122 rs122 n (a, ()) = st122_top n  a := by kernel_rfl
noncomputable def p122 (n : Nat) (a : Int × Int × Int × Bool) : Option R122 := st122_top n  a
theorem F122_eq (n : Nat) (a : Int × Int × Int × Bool) : runF TT G122 an122 Try.f122 c122 ps122 rs122 n (a, ()) = p122 n a := by
  rw [e122_top]
  skip
  try rfl
noncomputable def q122 (n : Nat) (x : argsD ps122) : Option R122 := p122 n x.1
noncomputable def Sm122 : Sm := ⟨ps122, rs122, false, q122⟩
theorem holds122 (hg : GamOK Try.prog G122) : Holds Try.prog 122 Sm122 := by
  have := h0_122 hg
  have e : (runF TT G122 an122 Try.f122 c122 ps122 rs122) = q122 := by
    funext n x
    exact F122_eq n x.1
  rw [e] at this
  exact this
theorem gam122 : GamOK Try.prog G122 := fun _ _ h => by cases h
theorem hh122 : Holds Try.prog 122 Sm122 := holds122 gam122
end Go.Proofs.Ytpcohpkflkhfbaa.Rx.S
namespace Go.Proofs.Ytpcohpkflkhfbaa.Rx.S
open Go Go.RowKit Go.Proofs
set_option maxRecDepth 100000
noncomputable def c102 : Code := (Try.f102.body.getD .skip)
def an102 : An := ⟨fun r => match r with | 3 => ⟨[0, 3, 4], []⟩ | _ => ⟨[], []⟩, fun _ _ => none⟩
abbrev ps102 : List PK := [.val (.row 139 tTh) false]
abbrev rs102 : List RK := [.own (.row 111 tTh) false]
abbrev R102 := retsD rs102 × outsD ps102
noncomputable def G102 : Gam := fun f => match f with | 122 => some Sm122 | _ => none
theorem h0_102 (hg : GamOK Try.prog G102) : Holds Try.prog 102 ⟨ps102, rs102, false, runF TT G102 an102 Try.f102 c102 ps102 rs102⟩ := holds_of tt_ok hg mixed Try.func102 (by kernel_rfl) (by rfl) (by decide +kernel)
noncomputable def at102 : Nat → Pt → List Nat → St → Option R102 := atF TT G102 an102 Try.f102 c102 _ _
def sh102_L3 (x0 : List (Int × Int × Int × Bool)) (x1 : Int) (x2 : List (Int × Int × Int × Bool)) : St := (Go.Proofs.Ytpcohpkflkhfbaa.Rx.St.mk ((Go.Proofs.Ytpcohpkflkhfbaa.Rx.AV.one (Go.Proofs.Ytpcohpkflkhfbaa.Rx.SV.con (⟨139, (Go.Proofs.Ytpcohpkflkhfbaa.Rx.Ty.int Go.IntKind.i64).pair   ((Go.Proofs.Ytpcohpkflkhfbaa.Rx.Ty.int Go.IntKind.i64).pair ((Go.Proofs.Ytpcohpkflkhfbaa.Rx.Ty.int Go.IntKind.i64).pair Go.Proofs.Ytpcohpkflkhfbaa.Rx.Ty.bool)), x0⟩ : Rw))) :: (Go.Proofs.Ytpcohpkflkhfbaa.Rx.AV.undef :: (Go.Proofs.Ytpcohpkflkhfbaa.Rx.AV.undef :: ((Go.Proofs.Ytpcohpkflkhfbaa.Rx.AV.one (Go.Proofs.Ytpcohpkflkhfbaa.Rx.SV.ref 1000000 0 [] Option.none)) :: ((Go.Proofs.Ytpcohpkflkhfbaa.Rx.AV.one (Go.Proofs.Ytpcohpkflkhfbaa.Rx.SV.int (Go.IntKind.i64) x1)) :: (Go.Proofs.Ytpcohpkflkhfbaa.Rx.AV.undef :: (Go.Proofs.Ytpcohpkflkhfbaa.Rx.AV.undef :: (Go.Proofs.Ytpcohpkflkhfbaa.Rx.AV.undef :: (Go.Proofs.Ytpcohpkflkhfbaa.Rx.AV.undef :: (Go.Proofs.Ytpcohpkflkhfbaa.Rx.AV.undef :: (Go.Proofs.Ytpcohpkflkhfbaa.Rx.AV.undef :: (Go.Proofs.Ytpcohpkflkhfbaa.Rx.AV.undef :: (Go.Proofs.Ytpcohpkflkhfbaa.Rx.AV.undef :: (Go.Proofs.Ytpcohpkflkhfbaa.Rx.AV.undef :: (Go.Proofs.Ytpcohpkflkhfbaa.Rx.AV.undef :: (Go.Proofs.Ytpcohpkflkhfbaa.Rx.AV.undef :: (Go.Proofs.Ytpcohpkflkhfbaa.Rx.AV.undef :: (Go.Proofs.Ytpcohpkflkhfbaa.Rx.AV.undef :: (Go.Proofs.Ytpcohpkflkhfbaa.Rx.AV.undef :: (Go.Proofs.Ytpcohpkflkhfbaa.Rx.AV.undef :: (Go.Proofs.Ytpcohpkflkhfbaa.Rx.AV.undef :: (Go.Proofs.Ytpcohpkflkhfbaa.Rx.AV.undef :: (Go.Proofs.Ytpcohpkflkhfbaa.Rx.AV.undef :: []))))))))))))))))))))))) ((1000000, (Go.Proofs.Ytpcohpkflkhfbaa.Rx.Ent.row (⟨111, (Go.Proofs.Ytpcohpkflkhfbaa.Rx.Ty.int Go.IntKind.i64).pair   ((Go.Proofs.Ytpcohpkflkhfbaa.Rx.Ty.int Go.IntKind.i64).pair ((Go.Proofs.Ytpcohpkflkhfbaa.Rx.Ty.int Go.IntKind.i64).pair Go.Proofs.Ytpcohpkflkhfbaa.Rx.Ty.bool)), x2⟩ : Rw) 0 Option.none)) :: []))
noncomputable def st102_top (n : Nat) (lL3 : (List (Int × Int × Int × Bool)) → Int → (List (Int × Int × Int × Bool)) → Option R102) (a : List (Int × Int × Int × Bool)) : Option R102 :=
  cond (decide ((↑a.length : Int) * (↑(32 : Nat) : Int) ≤ (140737488355328 : Int))) (lL3 (a) ((0 : Int)) (List.replicate (↑a.length : Int).toNat ((0 : Int), (0 : Int), (0 : Int), false))) (none)
noncomputable def st102_L3 (n : Nat) (lL3 : (List (Int × Int × Int × Bool)) → Int → (List (Int × Int × Int × Bool)) → Option R102) (x0 : List (Int × Int × Int × Bool)) (x1 : Int) (x2 : List (Int × Int × Int × Bool)) : Option R102 :=
  cond (decide (x1 < (↑x0.length : Int))) (cond (decide ((0 : Int) ≤ x1)) (cond (decide (x1 < (↑x0.length : Int))) ((Go.Proofs.Ytpcohpkflkhfbaa.Rx.S.q122 n   (((x0.getD x1.toNat ((0 : Int), (0 : Int), (0 : Int), false)).fst,       (x0.getD x1.toNat ((0 : Int), (0 : Int), (0 : Int), false)).snd.fst,       (x0.getD x1.toNat ((0 : Int), (0 : Int), (0 : Int), false)).snd.snd.fst,       (x0.getD x1.toNat ((0 : Int), (0 : Int), (0 : Int), false)).snd.snd.snd),     ())).bind fun r1 => cond (decide ((0 : Int) ≤ x1)) (cond (decide (x1 < (↑x2.length : Int))) (lL3 (x0) (Go.IntKind.i64.wrap (x1 + (1 : Int))) (x2.set x1.toNat (r1.fst.fst.fst, r1.fst.fst.snd.fst, r1.fst.fst.snd.snd.fst, r1.fst.fst.snd.snd.snd))) (none)) (none)) (none)) (none)) (some ((x2, ()), ()))
theorem e102_top (n : Nat) (a : List (Int × Int × Int × Bool)) : runF TT G102 an102 Try.f102 c102 ps102 rs102 n (a, ()) = st102_top n (fun x0 x1 x2 => at102 n (.head 3) [n] (sh102_L3 x0 x1 x2)) a := by kernel_rfl
theorem e102_L3_0 (n : Nat) (x0 : List (Int × Int × Int × Bool)) (x1 : Int) (x2 : List (Int × Int × Int × Bool)) : at102 n (.head 3) [0] (sh102_L3 x0 x1 x2) = none := by kernel_rfl
theorem e102_L3 (n : Nat) (m3 : Nat) (x0 : List (Int × Int × Int × Bool)) (x1 : Int) (x2 : List (Int × Int × Int × Bool)) : at102 n (.head 3) [m3 + 1] (sh102_L3 x0 x1 x2) = st102_L3 n (fun x0 x1 x2 => at102 n (.head 3) [m3] (sh102_L3 x0 x1 x2)) x0 x1 x2 := by kernel_rfl
noncomputable def p102_L3 (n : Nat) : Nat → (List (Int × Int × Int × Bool)) → Int → (List (Int × Int × Int × Bool)) → Option R102
  | 0, _, _, _ => none
  | m + 1, x0, x1, x2 => st102_L3 n (p102_L3 n m) x0 x1 x2
noncomputable def p102 (n : Nat) (a : List (Int × Int × Int × Bool)) : Option R102 := st102_top n (p102_L3 n n) a
theorem t102_L3 (n : Nat) : ∀ (m3 : Nat) (x0 : List (Int × Int × Int × Bool)) (x1 : Int) (x2 : List (Int × Int × Int × Bool)), at102 n (.head 3) [m3] (sh102_L3 x0 x1 x2) = p102_L3  n m3 x0 x1 x2 := by
  intro m
  induction m with
  | zero => intros; rw [e102_L3_0]; rfl
  | succ m ih =>
    intros
    rw [e102_L3]
    simp only [ih]
    rfl
theorem F102_eq (n : Nat) (a : List (Int × Int × Int × Bool)) : runF TT G102 an102 Try.f102 c102 ps102 rs102 n (a, ()) = p102 n a := by
  rw [e102_top]
  simp only [t102_L3]
  try rfl
noncomputable def q102 (n : Nat) (x : argsD ps102) : Option R102 := p102 n x.1
noncomputable def Sm102 : Sm := ⟨ps102, rs102, false, q102⟩
theorem holds102 (hg : GamOK Try.prog G102) : Holds Try.prog 102 Sm102 := by
  have := h0_102 hg
  have e : (runF TT G102 an102 Try.f102 c102 ps102 rs102) = q102 := by
    funext n x
    exact F102_eq n x.1
  rw [e] at this
  exact this
theorem gam102 : GamOK Try.prog G102 := by
  intro f s h
  unfold G102 at h
  split at h
  · injection h with h; subst h; exact ⟨⟨Try.f122, c122, Try.func122, by kernel_rfl, by decide +kernel⟩, hh122⟩
  · cases h
theorem hh102 : Holds Try.prog 102 Sm102 := holds102 gam102
end Go.Proofs.Ytpcohpkflkhfbaa.Rx.S
namespace Go.Proofs.Ytpcohpkflkhfbaa.Rx.S
open Go Go.RowKit Go.Proofs
set_option maxRecDepth 100000
noncomputable def c50 : Code := (Try.f50.body.getD .skip)
def an50 : An := ⟨fun _ => ⟨[], []⟩, fun _ _ => none⟩
abbrev ps50 : List PK := [.val (.pair (.row 139 tTh) i64) true]
abbrev rs50 : List RK := [.own (.pair (.row 111 tTh) i64) true]
abbrev R50 := retsD rs50 × outsD ps50
noncomputable def G50 : Gam := fun f => match f with | 102 => some Sm102 | _ => none
theorem h0_50 (hg : GamOK Try.prog G50) : Holds Try.prog 50 ⟨ps50, rs50, false, runF TT G50 an50 Try.f50 c50 ps50 rs50⟩ := holds_of tt_ok hg mixed Try.func50 (by kernel_rfl) (by rfl) (by decide +kernel)
noncomputable def at50 : Nat → Pt → List Nat → St → Option R50 := atF TT G50 an50 Try.f50 c50 _ _
noncomputable def st50_top (n : Nat)  (a : List (Int × Int × Int × Bool) × Int) : Option R50 :=
  (Go.Proofs.Ytpcohpkflkhfbaa.Rx.S.q102 n (a.fst, ())).bind fun r0 => some (((r0.fst.fst, a.snd), ()), ())
theorem e50_top (n : Nat) (a : List (Int × Int × Int × Bool) × Int) : runF TT G50 an50 Try.f50 c50 ps50 rs50 n (a, ()) = st50_top n  a := by kernel_rfl
noncomputable def p50 (n : Nat) (a : List (Int × Int × Int × Bool) × Int) : Option R50 := st50_top n  a
theorem F50_eq (n : Nat) (a : List (Int × Int × Int × Bool) × Int) : runF TT G50 an50 Try.f50 c50 ps50 rs50 n (a, ()) = p50 n a := by
  rw [e50_top]
  skip
  try rfl
noncomputable def q50 (n : Nat) (x : argsD ps50) : Option R50 := p50 n x.1
noncomputable def Sm50 : Sm := ⟨ps50, rs50, false, q50⟩
theorem holds50 (hg : GamOK Try.prog G50) : Holds Try.prog 50 Sm50 := by
  have := h0_50 hg
  have e : (runF TT G50 an50 Try.f50 c50 ps50 rs50) = q50 := by
    funext n x
    exact F50_eq n x.1
  rw [e] at this
  exact this
theorem gam50 : GamOK Try.prog G50 := by
  intro f s h
  unfold G50 at h
  split at h
  · injection h with h; subst h; exact ⟨⟨Try.f102, c102, Try.func102, by kernel_rfl, by decide +kernel⟩, hh102⟩
  · cases h
theorem hh50 : Holds Try.prog 50 Sm50 := holds50 gam50
end Go.Proofs.Ytpcohpkflkhfbaa.Rx.S
namespace Go.Proofs.Ytpcohpkflkhfbaa.Rx.S
open Go Go.RowKit Go.Proofs
set_option maxRecDepth 100000
noncomputable def c123 : Code := (Try.f123.body.getD .skip)
def an123 : An := ⟨fun _ => ⟨[], []⟩, fun _ _ => none⟩
abbrev ps123 : List PK := [.val tTh true, .val tTh true]
abbrev rs123 : List RK := [.val .bool false]
abbrev R123 := retsD rs123 × outsD ps123
noncomputable def G123 : Gam := fun _ => none
theorem h0_123 (hg : GamOK Try.prog G123) : Holds Try.prog 123 ⟨ps123, rs123, false, runF TT G123 an123 Try.f123 c123 ps123 rs123⟩ := holds_of tt_ok hg mixed Try.func123 (by kernel_rfl) (by rfl) (by decide +kernel)
noncomputable def at123 : Nat → Pt → List Nat → St → Option R123 := atF TT G123 an123 Try.f123 c123 _ _
noncomputable def st123_top (n : Nat)  (a : Int × Int × Int × Bool) (b : Int × Int × Int × Bool) : Option R123 :=
  cond (!decide (a.fst = b.fst)) (some ((false, ()), ())) (cond (!decide (a.snd.fst = b.snd.fst)) (some ((false, ()), ())) (cond (!decide (a.snd.snd.fst = b.snd.snd.fst)) (some ((false, ()), ())) (cond (!a.snd.snd.snd == b.snd.snd.snd) (some ((false, ()), ())) (some ((true, ()), ())))))
theorem e123_top (n : Nat) (a : Int × Int × Int × Bool) (b : Int × Int × Int × Bool) : runF TT G123 an123 Try.f123 c123 ps123 rs123 n (a, b, ()) = st123_top n  a b := by kernel_rfl
noncomputable def p123 (n : Nat) (a : Int × Int × Int × Bool) (b : Int × Int × Int × Bool) : Option R123 := st123_top n  a b
theorem F123_eq (n : Nat) (a : Int × Int × Int × Bool) (b : Int × Int × Int × Bool) : runF TT G123 an123 Try.f123 c123 ps123 rs123 n (a, b, ()) = p123 n a b := by
  rw [e123_top]
  skip
  try rfl
noncomputable def q123 (n : Nat) (x : argsD ps123) : Option R123 := p123 n x.1 x.2.1
noncomputable def Sm123 : Sm := ⟨ps123, rs123, false, q123⟩
theorem holds123 (hg : GamOK Try.prog G123) : Holds Try.prog 123 Sm123 := by
  have := h0_123 hg
  have e : (runF TT G123 an123 Try.f123 c123 ps123 rs123) = q123 := by
    funext n x
    exact F123_eq n x.1 x.2.1
  rw [e] at this
  exact this
theorem gam123 : GamOK Try.prog G123 := fun _ _ h => by cases h
theorem hh123 : Holds Try.prog 123 Sm123 := holds123 gam123
end Go.Proofs.Ytpcohpkflkhfbaa.Rx.S
namespace Go.Proofs.Ytpcohpkflkhfbaa.Rx.S
open Go Go.RowKit Go.Proofs
set_option maxRecDepth 100000
noncomputable def c103 : Code := (Try.f103.body.getD .skip)
def an103 : An := ⟨fun r => match r with | 4 => ⟨[0, 1, 5], []⟩ | _ => ⟨[], []⟩, fun _ _ => none⟩
abbrev ps103 : List PK := [.val (.row 111 tTh) false, .val (.row 111 tTh) false]
abbrev rs103 : List RK := [.val .bool false]
abbrev R103 := retsD rs103 × outsD ps103
noncomputable def G103 : Gam := fun f => match f with | 123 => some Sm123 | _ => none
theorem h0_103 (hg : GamOK Try.prog G103) : Holds Try.prog 103 ⟨ps103, rs103, false, runF TT G103 an103 Try.f103 c103 ps103 rs103⟩ := holds_of tt_ok hg mixed Try.func103 (by kernel_rfl) (by rfl) (by decide +kernel)
noncomputable def at103 : Nat → Pt → List Nat → St → Option R103 := atF TT G103 an103 Try.f103 c103 _ _
def sh103_L4 (x0 : List (Int × Int × Int × Bool)) (x1 : List (Int × Int × Int × Bool)) (x2 : Int) : St := (Go.Proofs.Ytpcohpkflkhfbaa.Rx.St.mk ((Go.Proofs.Ytpcohpkflkhfbaa.Rx.AV.one (Go.Proofs.Ytpcohpkflkhfbaa.Rx.SV.con (⟨111, (Go.Proofs.Ytpcohpkflkhfbaa.Rx.Ty.int Go.IntKind.i64).pair   ((Go.Proofs.Ytpcohpkflkhfbaa.Rx.Ty.int Go.IntKind.i64).pair ((Go.Proofs.Ytpcohpkflkhfbaa.Rx.Ty.int Go.IntKind.i64).pair Go.Proofs.Ytpcohpkflkhfbaa.Rx.Ty.bool)), x0⟩ : Rw))) :: ((Go.Proofs.Ytpcohpkflkhfbaa.Rx.AV.one (Go.Proofs.Ytpcohpkflkhfbaa.Rx.SV.con (⟨111, (Go.Proofs.Ytpcohpkflkhfbaa.Rx.Ty.int Go.IntKind.i64).pair   ((Go.Proofs.Ytpcohpkflkhfbaa.Rx.Ty.int Go.IntKind.i64).pair ((Go.Proofs.Ytpcohpkflkhfbaa.Rx.Ty.int Go.IntKind.i64).pair Go.Proofs.Ytpcohpkflkhfbaa.Rx.Ty.bool)), x1⟩ : Rw))) :: (Go.Proofs.Ytpcohpkflkhfbaa.Rx.AV.undef :: (Go.Proofs.Ytpcohpkflkhfbaa.Rx.AV.undef :: (Go.Proofs.Ytpcohpkflkhfbaa.Rx.AV.undef :: ((Go.Proofs.Ytpcohpkflkhfbaa.Rx.AV.one (Go.Proofs.Ytpcohpkflkhfbaa.Rx.SV.int (Go.IntKind.i64) x2)) :: (Go.Proofs.Ytpcohpkflkhfbaa.Rx.AV.undef :: (Go.Proofs.Ytpcohpkflkhfbaa.Rx.AV.undef :: (Go.Proofs.Ytpcohpkflkhfbaa.Rx.AV.undef :: (Go.Proofs.Ytpcohpkflkhfbaa.Rx.AV.undef :: (Go.Proofs.Ytpcohpkflkhfbaa.Rx.AV.undef :: (Go.Proofs.Ytpcohpkflkhfbaa.Rx.AV.undef :: (Go.Proofs.Ytpcohpkflkhfbaa.Rx.AV.undef :: (Go.Proofs.Ytpcohpkflkhfbaa.Rx.AV.undef :: (Go.Proofs.Ytpcohpkflkhfbaa.Rx.AV.undef :: (Go.Proofs.Ytpcohpkflkhfbaa.Rx.AV.undef :: (Go.Proofs.Ytpcohpkflkhfbaa.Rx.AV.undef :: (Go.Proofs.Ytpcohpkflkhfbaa.Rx.AV.undef :: (Go.Proofs.Ytpcohpkflkhfbaa.Rx.AV.undef :: (Go.Proofs.Ytpcohpkflkhfbaa.Rx.AV.undef :: (Go.Proofs.Ytpcohpkflkhfbaa.Rx.AV.undef :: (Go.Proofs.Ytpcohpkflkhfbaa.Rx.AV.undef :: (Go.Proofs.Ytpcohpkflkhfbaa.Rx.AV.undef :: (Go.Proofs.Ytpcohpkflkhfbaa.Rx.AV.undef :: (Go.Proofs.Ytpcohpkflkhfbaa.Rx.AV.undef :: (Go.Proofs.Ytpcohpkflkhfbaa.Rx.AV.undef :: (Go.Proofs.Ytpcohpkflkhfbaa.Rx.AV.undef :: []))))))))))))))))))))))))))) [])
noncomputable def st103_top (n : Nat) (lL4 : (List (Int × Int × Int × Bool)) → (List (Int × Int × Int × Bool)) → Int → Option R103) (a : List (Int × Int × Int × Bool)) (b : List (Int × Int × Int × Bool)) : Option R103 :=
  cond (!decide ((↑a.length : Int) = (↑b.length : Int))) (some ((false, ()), ())) (lL4 (a) (b) ((0 : Int)))
noncomputable def st103_L4 (n : Nat) (lL4 : (List (Int × Int × Int × Bool)) → (List (Int × Int × Int × Bool)) → Int → Option R103) (x0 : List (Int × Int × Int × Bool)) (x1 : List (Int × Int × Int × Bool)) (x2 : Int) : Option R103 :=
  cond (decide (x2 < (↑x0.length : Int))) (cond (decide ((0 : Int) ≤ x2)) (cond (decide (x2 < (↑x0.length : Int))) (cond (decide ((0 : Int) ≤ x2)) (cond (decide (x2 < (↑x1.length : Int))) ((Go.Proofs.Ytpcohpkflkhfbaa.Rx.S.q123 n   (((x0.getD x2.toNat ((0 : Int), (0 : Int), (0 : Int), false)).fst,       (x0.getD x2.toNat ((0 : Int), (0 : Int), (0 : Int), false)).snd.fst,       (x0.getD x2.toNat ((0 : Int), (0 : Int), (0 : Int), false)).snd.snd.fst,       (x0.getD x2.toNat ((0 : Int), (0 : Int), (0 : Int), false)).snd.snd.snd),     ((x1.getD x2.toNat ((0 : Int), (0 : Int), (0 : Int), false)).fst,       (x1.getD x2.toNat ((0 : Int), (0 : Int), (0 : Int), false)).snd.fst,       (x1.getD x2.toNat ((0 : Int), (0 : Int), (0 : Int), false)).snd.snd.fst,       (x1.getD x2.toNat ((0 : Int), (0 : Int), (0 : Int), false)).snd.snd.snd),     ())).bind fun r1 => cond (!r1.fst.fst) (some ((false, ()), ())) (lL4 (x0) (x1) (Go.IntKind.i64.wrap (x2 + (1 : Int))))) (none)) (none)) (none)) (none)) (some ((true, ()), ()))
theorem e103_top (n : Nat) (a : List (Int × Int × Int × Bool)) (b : List (Int × Int × Int × Bool)) : runF TT G103 an103 Try.f103 c103 ps103 rs103 n (a, b, ()) = st103_top n (fun x0 x1 x2 => at103 n (.head 4) [n] (sh103_L4 x0 x1 x2)) a b := by kernel_rfl
theorem e103_L4_0 (n : Nat) (x0 : List (Int × Int × Int × Bool)) (x1 : List (Int × Int × Int × Bool)) (x2 : Int) : at103 n (.head 4) [0] (sh103_L4 x0 x1 x2) = none := by kernel_rfl
theorem e103_L4 (n : Nat) (m4 : Nat) (x0 : List (Int × Int × Int × Bool)) (x1 : List (Int × Int × Int × Bool)) (x2 : Int) : at103 n (.head 4) [m4 + 1] (sh103_L4 x0 x1 x2) = st103_L4 n (fun x0 x1 x2 => at103 n (.head 4) [m4] (sh103_L4 x0 x1 x2)) x0 x1 x2 := by kernel_rfl
noncomputable def p103_L4 (n : Nat) : Nat → (List (Int × Int × Int × Bool)) → (List (Int × Int × Int × Bool)) → Int → Option R103
  | 0, _, _, _ => none
  | m + 1, x0, x1, x2 => st103_L4 n (p103_L4 n m) x0 x1 x2
noncomputable def p103 (n : Nat) (a : List (Int × Int × Int × Bool)) (b : List (Int × Int × Int × Bool)) : Option R103 := st103_top n (p103_L4 n n) a b
theorem t103_L4 (n : Nat) : ∀ (m4 : Nat) (x0 : List (Int × Int × Int × Bool)) (x1 : List (Int × Int × Int × Bool)) (x2 : Int), at103 n (.head 4) [m4] (sh103_L4 x0 x1 x2) = p103_L4  n m4 x0 x1 x2 := by
  intro m
  induction m with
  | zero => intros; rw [e103_L4_0]; rfl
  | succ m ih =>
    intros
    rw [e103_L4]
    simp only [ih]
    rfl
theorem F103_eq (n : Nat) (a : List (Int × Int × Int × Bool)) (b : List (Int × Int × Int × Bool)) : runF TT G103 an103 Try.f103 c103 ps103 rs103 n (a, b, ()) = p103 n a b := by
  rw [e103_top]
  simp only [t103_L4]
  try rfl
noncomputable def q103 (n : Nat) (x : argsD ps103) : Option R103 := p103 n x.1 x.2.1
noncomputable def Sm103 : Sm := ⟨ps103, rs103, false, q103⟩
theorem holds103 (hg : GamOK Try.prog G103) : Holds Try.prog 103 Sm103 := by
  have := h0_103 hg
  have e : (runF TT G103 an103 Try.f103 c103 ps103 rs103) = q103 := by
    funext n x
    exact F103_eq n x.1 x.2.1
  rw [e] at this
  exact this
theorem gam103 : GamOK Try.prog G103 := by
  intro f s h
  unfold G103 at h
  split at h
  · injection h with h; subst h; exact ⟨⟨Try.f123, c123, Try.func123, by kernel_rfl, by decide +kernel⟩, hh123⟩
  · cases h
theorem hh103 : Holds Try.prog 103 Sm103 := holds103 gam103
end Go.Proofs.Ytpcohpkflkhfbaa.Rx.S
namespace Go.Proofs.Ytpcohpkflkhfbaa.Rx.S
open Go Go.RowKit Go.Proofs
set_option maxRecDepth 100000
noncomputable def c51 : Code := (Try.f51.body.getD .skip)
def an51 : An := ⟨fun _ => ⟨[], []⟩, fun _ _ => none⟩
abbrev ps51 : List PK := [.val (.pair (.row 111 tTh) i64) true, .val (.pair (.row 111 tTh) i64) true]
abbrev rs51 : List RK := [.val .bool false]
abbrev R51 := retsD rs51 × outsD ps51
noncomputable def G51 : Gam := fun f => match f with | 103 => some Sm103 | _ => none
theorem h0_51 (hg : GamOK Try.prog G51) : Holds Try.prog 51 ⟨ps51, rs51, false, runF TT G51 an51 Try.f51 c51 ps51 rs51⟩ := holds_of tt_ok hg mixed Try.func51 (by kernel_rfl) (by rfl) (by decide +kernel)
noncomputable def at51 : Nat → Pt → List Nat → St → Option R51 := atF TT G51 an51 Try.f51 c51 _ _
noncomputable def st51_top (n : Nat)  (a : List (Int × Int × Int × Bool) × Int) (b : List (Int × Int × Int × Bool) × Int) : Option R51 :=
  (Go.Proofs.Ytpcohpkflkhfbaa.Rx.S.q103 n (a.fst, b.fst, ())).bind fun r0 => cond (!r0.fst.fst) (some ((false, ()), ())) (cond (!decide (a.snd = b.snd)) (some ((false, ()), ())) (some ((true, ()), ())))
theorem e51_top (n : Nat) (a : List (Int × Int × Int × Bool) × Int) (b : List (Int × Int × Int × Bool) × Int) : runF TT G51 an51 Try.f51 c51 ps51 rs51 n (a, b, ()) = st51_top n  a b := by kernel_rfl
noncomputable def p51 (n : Nat) (a : List (Int × Int × Int × Bool) × Int) (b : List (Int × Int × Int × Bool) × Int) : Option R51 := st51_top n  a b
theorem F51_eq (n : Nat) (a : List (Int × Int × Int × Bool) × Int) (b : List (Int × Int × Int × Bool) × Int) : runF TT G51 an51 Try.f51 c51 ps51 rs51 n (a, b, ()) = p51 n a b := by
  rw [e51_top]
  skip
  try rfl
noncomputable def q51 (n : Nat) (x : argsD ps51) : Option R51 := p51 n x.1 x.2.1
noncomputable def Sm51 : Sm := ⟨ps51, rs51, false, q51⟩
theorem holds51 (hg : GamOK Try.prog G51) : Holds Try.prog 51 Sm51 := by
  have := h0_51 hg
  have e : (runF TT G51 an51 Try.f51 c51 ps51 rs51) = q51 := by
    funext n x
    exact F51_eq n x.1 x.2.1
  rw [e] at this
  exact this
theorem gam51 : GamOK Try.prog G51 := by
  intro f s h
  unfold G51 at h
  split at h
  · injection h with h; subst h; exact ⟨⟨Try.f103, c103, Try.func103, by kernel_rfl, by decide +kernel⟩, hh103⟩
  · cases h
theorem hh51 : Holds Try.prog 51 Sm51 := holds51 gam51
end Go.Proofs.Ytpcohpkflkhfbaa.Rx.S
namespace Go.Proofs.Ytpcohpkflkhfbaa.Rx.S
open Go Go.RowKit Go.Proofs
set_option maxRecDepth 100000
noncomputable def c104 : Code := (Try.f104.body.getD .skip)
def an104 : An := ⟨fun r => match r with | 2 => ⟨[0, 1, 5], []⟩ | _ => ⟨[], []⟩, fun _ _ => none⟩
abbrev ps104 : List PK := [.io (.row 111 tTh) false, .val i64 false]
abbrev rs104 : List RK := [.val i64 false]
abbrev R104 := retsD rs104 × outsD ps104
noncomputable def G104 : Gam := fun _ => none
theorem h0_104 (hg : GamOK Try.prog G104) : Holds Try.prog 104 ⟨ps104, rs104, false, runF TT G104 an104 Try.f104 c104 ps104 rs104⟩ := holds_of tt_ok hg mixed Try.func104 (by kernel_rfl) (by rfl) (by decide +kernel)
noncomputable def at104 : Nat → Pt → List Nat → St → Option R104 := atF TT G104 an104 Try.f104 c104 _ _
def sh104_L2 (x0 : Int) (x1 : Int) (x2 : List (Int × Int × Int × Bool)) : St := (Go.Proofs.Ytpcohpkflkhfbaa.Rx.St.mk ((Go.Proofs.Ytpcohpkflkhfbaa.Rx.AV.par 0 false ((Go.Proofs.Ytpcohpkflkhfbaa.Rx.SV.ref 1000000 0 [] Option.none) :: [])) :: ((Go.Proofs.Ytpcohpkflkhfbaa.Rx.AV.one (Go.Proofs.Ytpcohpkflkhfbaa.Rx.SV.int (Go.IntKind.i64) x0)) :: (Go.Proofs.Ytpcohpkflkhfbaa.Rx.AV.undef :: (Go.Proofs.Ytpcohpkflkhfbaa.Rx.AV.undef :: (Go.Proofs.Ytpcohpkflkhfbaa.Rx.AV.undef :: ((Go.Proofs.Ytpcohpkflkhfbaa.Rx.AV.one (Go.Proofs.Ytpcohpkflkhfbaa.Rx.SV.int (Go.IntKind.i64) x1)) :: (Go.Proofs.Ytpcohpkflkhfbaa.Rx.AV.undef :: (Go.Proofs.Ytpcohpkflkhfbaa.Rx.AV.undef :: (Go.Proofs.Ytpcohpkflkhfbaa.Rx.AV.undef :: (Go.Proofs.Ytpcohpkflkhfbaa.Rx.AV.undef :: (Go.Proofs.Ytpcohpkflkhfbaa.Rx.AV.undef :: (Go.Proofs.Ytpcohpkflkhfbaa.Rx.AV.undef :: (Go.Proofs.Ytpcohpkflkhfbaa.Rx.AV.undef :: (Go.Proofs.Ytpcohpkflkhfbaa.Rx.AV.undef :: (Go.Proofs.Ytpcohpkflkhfbaa.Rx.AV.undef :: (Go.Proofs.Ytpcohpkflkhfbaa.Rx.AV.undef :: (Go.Proofs.Ytpcohpkflkhfbaa.Rx.AV.undef :: (Go.Proofs.Ytpcohpkflkhfbaa.Rx.AV.undef :: (Go.Proofs.Ytpcohpkflkhfbaa.Rx.AV.undef :: (Go.Proofs.Ytpcohpkflkhfbaa.Rx.AV.undef :: (Go.Proofs.Ytpcohpkflkhfbaa.Rx.AV.undef :: (Go.Proofs.Ytpcohpkflkhfbaa.Rx.AV.undef :: (Go.Proofs.Ytpcohpkflkhfbaa.Rx.AV.undef :: (Go.Proofs.Ytpcohpkflkhfbaa.Rx.AV.undef :: (Go.Proofs.Ytpcohpkflkhfbaa.Rx.AV.undef :: (Go.Proofs.Ytpcohpkflkhfbaa.Rx.AV.undef :: (Go.Proofs.Ytpcohpkflkhfbaa.Rx.AV.undef :: (Go.Proofs.Ytpcohpkflkhfbaa.Rx.AV.undef :: (Go.Proofs.Ytpcohpkflkhfbaa.Rx.AV.undef :: (Go.Proofs.Ytpcohpkflkhfbaa.Rx.AV.undef :: (Go.Proofs.Ytpcohpkflkhfbaa.Rx.AV.undef :: (Go.Proofs.Ytpcohpkflkhfbaa.Rx.AV.undef :: (Go.Proofs.Ytpcohpkflkhfbaa.Rx.AV.undef :: (Go.Proofs.Ytpcohpkflkhfbaa.Rx.AV.undef :: (Go.Proofs.Ytpcohpkflkhfbaa.Rx.AV.undef :: (Go.Proofs.Ytpcohpkflkhfbaa.Rx.AV.undef :: (Go.Proofs.Ytpcohpkflkhfbaa.Rx.AV.undef :: (Go.Proofs.Ytpcohpkflkhfbaa.Rx.AV.undef :: (Go.Proofs.Ytpcohpkflkhfbaa.Rx.AV.undef :: (Go.Proofs.Ytpcohpkflkhfbaa.Rx.AV.undef :: (Go.Proofs.Ytpcohpkflkhfbaa.Rx.AV.undef :: (Go.Proofs.Ytpcohpkflkhfbaa.Rx.AV.undef :: (Go.Proofs.Ytpcohpkflkhfbaa.Rx.AV.undef :: []))))))))))))))))))))))))))))))))))))))))))) ((1000000, (Go.Proofs.Ytpcohpkflkhfbaa.Rx.Ent.row (⟨111, (Go.Proofs.Ytpcohpkflkhfbaa.Rx.Ty.int Go.IntKind.i64).pair   ((Go.Proofs.Ytpcohpkflkhfbaa.Rx.Ty.int Go.IntKind.i64).pair ((Go.Proofs.Ytpcohpkflkhfbaa.Rx.Ty.int Go.IntKind.i64).pair Go.Proofs.Ytpcohpkflkhfbaa.Rx.Ty.bool)), x2⟩ : Rw) 0 Option.none)) :: []))
noncomputable def st104_top (n : Nat) (lL2 : Int → Int → (List (Int × Int × Int × Bool)) → Option R104) (a : List (Int × Int × Int × Bool)) (b : Int) : Option R104 :=
  lL2 (b) ((0 : Int)) (a)
noncomputable def st104_L2 (n : Nat) (lL2 : Int → Int → (List (Int × Int × Int × Bool)) → Option R104) (x0 : Int) (x1 : Int) (x2 : List (Int × Int × Int × Bool)) : Option R104 :=
  cond (decide (x1 < (↑x2.length : Int))) (cond (decide ((0 : Int) ≤ x1)) (cond (decide (x1 < (↑x2.length : Int))) (cond (decide ((0 : Int) ≤ x1)) (cond (decide (x1 < (↑(x2.set x1.toNat (x0, (x2.getD x1.toNat ((0 : Int), (0 : Int), (0 : Int), false)).snd)).length : Int))) (cond (decide ((0 : Int) ≤ x1)) (cond (decide   (x1 <     (↑((x2.set x1.toNat (x0, (x2.getD x1.toNat ((0 : Int), (0 : Int), (0 : Int), false)).snd)).set x1.toNat             (((x2.set x1.toNat (x0, (x2.getD x1.toNat ((0 : Int), (0 : Int), (0 : Int), false)).snd)).getD x1.toNat                   ((0 : Int), (0 : Int), (0 : Int), false)).fst,               Go.IntKind.i64.wrap (x0 + (1 : Int)),               ((x2.set x1.toNat (x0, (x2.getD x1.toNat ((0 : Int), (0 : Int), (0 : Int), false)).snd)).getD x1.toNat                     ((0 : Int), (0 : Int), (0 : Int), false)).snd.snd)).length :       Int))) (cond (decide ((0 : Int) ≤ x1)) (cond (decide   (x1 <     (↑(((x2.set x1.toNat (x0, (x2.getD x1.toNat ((0 : Int), (0 : Int), (0 : Int), false)).snd)).set x1.toNat                 (((x2.set x1.toNat (x0, (x2.getD x1.toNat ((0 : Int), (0 : Int), (0 : Int), false)).snd)).getD x1.toNat                       ((0 : Int), (0 : Int), (0 : Int), false)).fst,                   Go.IntKind.i64.wrap (x0 + (1 : Int)),                   ((x2.set x1.toNat (x0, (x2.getD x1.toNat ((0 : Int), (0 : Int), (0 : Int), false)).snd)).getD x1.toNat                         ((0 : Int), (0 : Int), (0 : Int), false)).snd.snd)).set             x1.toNat             ((((x2.set x1.toNat (x0, (x2.getD x1.toNat ((0 : Int), (0 : Int), (0 : Int), false)).snd)).set x1.toNat                       (((x2.set x1.toNat (x0, (x2.getD x1.toNat ((0 : Int), (0 : Int), (0 : Int), false)).snd)).getD                             x1.toNat ((0 : Int), (0 : Int), (0 : Int), false)).fst,                         Go.IntKind.i64.wrap (x0 + (1 : Int)),                         ((x2.set x1.toNat (x0, (x2.getD x1.toNat ((0 : Int), (0 : Int), (0 : Int), false)).snd)).getD                               x1.toNat ((0 : Int), (0 : Int), (0 : Int), false)).snd.snd)).getD                   x1.toNat ((0 : Int), (0 : Int), (0 : Int), false)).fst,               (((x2.set x1.toNat (x0, (x2.getD x1.toNat ((0 : Int), (0 : Int), (0 : Int), false)).snd)).set x1.toNat                         (((x2.set x1.toNat (x0, (x2.getD x1.toNat ((0 : Int), (0 : Int), (0 : Int), false)).snd)).getD                               x1.toNat ((0 : Int), (0 : Int), (0 : Int), false)).fst,                           Go.IntKind.i64.wrap (x0 + (1 : Int)),                           ((x2.set x1.toNat (x0, (x2.getD x1.toNat ((0 : Int), (0 : Int), (0 : Int), false)).snd)).getD                                 x1.toNat ((0 : Int), (0 : Int), (0 : Int), false)).snd.snd)).getD                     x1.toNat ((0 : Int), (0 : Int), (0 : Int), false)).snd.fst,               Go.IntKind.i64.wrap (Go.IntKind.i64.wrap (x0 + (1 : Int)) + (1 : Int)),               (((x2.set x1.toNat (x0, (x2.getD x1.toNat ((0 : Int), (0 : Int), (0 : Int), false)).snd)).set x1.toNat                           (((x2.set x1.toNat (x0, (x2.getD x1.toNat ((0 : Int), (0 : Int), (0 : Int), false)).snd)).getD                                 x1.toNat ((0 : Int), (0 : Int), (0 : Int), false)).fst,                             Go.IntKind.i64.wrap (x0 + (1 : Int)),                             ((x2.set x1.toNat                                       (x0, (x2.getD x1.toNat ((0 : Int), (0 : Int), (0 : Int), false)).snd)).getD                                   x1.toNat ((0 : Int), (0 : Int), (0 : Int), false)).snd.snd)).getD                       x1.toNat ((0 : Int), (0 : Int), (0 : Int), false)).snd.snd.snd)).length :       Int))) (lL2 (Go.IntKind.i64.wrap   (Go.IntKind.i64.wrap (Go.IntKind.i64.wrap (Go.IntKind.i64.wrap (x0 + (1 : Int)) + (1 : Int)) + (1 : Int)) + (1 : Int))) (Go.IntKind.i64.wrap (x1 + (1 : Int))) ((((x2.set x1.toNat (x0, (x2.getD x1.toNat ((0 : Int), (0 : Int), (0 : Int), false)).snd)).set x1.toNat           (((x2.set x1.toNat (x0, (x2.getD x1.toNat ((0 : Int), (0 : Int), (0 : Int), false)).snd)).getD x1.toNat                 ((0 : Int), (0 : Int), (0 : Int), false)).fst,             Go.IntKind.i64.wrap (x0 + (1 : Int)),             ((x2.set x1.toNat (x0, (x2.getD x1.toNat ((0 : Int), (0 : Int), (0 : Int), false)).snd)).getD x1.toNat                   ((0 : Int), (0 : Int), (0 : Int), false)).snd.snd)).set       x1.toNat       ((((x2.set x1.toNat (x0, (x2.getD x1.toNat ((0 : Int), (0 : Int), (0 : Int), false)).snd)).set x1.toNat                 (((x2.set x1.toNat (x0, (x2.getD x1.toNat ((0 : Int), (0 : Int), (0 : Int), false)).snd)).getD x1.toNat                       ((0 : Int), (0 : Int), (0 : Int), false)).fst,                   Go.IntKind.i64.wrap (x0 + (1 : Int)),                   ((x2.set x1.toNat (x0, (x2.getD x1.toNat ((0 : Int), (0 : Int), (0 : Int), false)).snd)).getD x1.toNat                         ((0 : Int), (0 : Int), (0 : Int), false)).snd.snd)).getD             x1.toNat ((0 : Int), (0 : Int), (0 : Int), false)).fst,         (((x2.set x1.toNat (x0, (x2.getD x1.toNat ((0 : Int), (0 : Int), (0 : Int), false)).snd)).set x1.toNat                   (((x2.set x1.toNat (x0, (x2.getD x1.toNat ((0 : Int), (0 : Int), (0 : Int), false)).snd)).getD                         x1.toNat ((0 : Int), (0 : Int), (0 : Int), false)).fst,                     Go.IntKind.i64.wrap (x0 + (1 : Int)),                     ((x2.set x1.toNat (x0, (x2.getD x1.toNat ((0 : Int), (0 : Int), (0 : Int), false)).snd)).getD                           x1.toNat ((0 : Int), (0 : Int), (0 : Int), false)).snd.snd)).getD               x1.toNat ((0 : Int), (0 : Int), (0 : Int), false)).snd.fst,         Go.IntKind.i64.wrap (Go.IntKind.i64.wrap (x0 + (1 : Int)) + (1 : Int)),         (((x2.set x1.toNat (x0, (x2.getD x1.toNat ((0 : Int), (0 : Int), (0 : Int), false)).snd)).set x1.toNat                     (((x2.set x1.toNat (x0, (x2.getD x1.toNat ((0 : Int), (0 : Int), (0 : Int), false)).snd)).getD                           x1.toNat ((0 : Int), (0 : Int), (0 : Int), false)).fst,                       Go.IntKind.i64.wrap (x0 + (1 : Int)),                       ((x2.set x1.toNat (x0, (x2.getD x1.toNat ((0 : Int), (0 : Int), (0 : Int), false)).snd)).getD                             x1.toNat ((0 : Int), (0 : Int), (0 : Int), false)).snd.snd)).getD                 x1.toNat ((0 : Int), (0 : Int), (0 : Int), false)).snd.snd.snd)).set   x1.toNat   (((((x2.set x1.toNat (x0, (x2.getD x1.toNat ((0 : Int), (0 : Int), (0 : Int), false)).snd)).set x1.toNat                 (((x2.set x1.toNat (x0, (x2.getD x1.toNat ((0 : Int), (0 : Int), (0 : Int), false)).snd)).getD x1.toNat                       ((0 : Int), (0 : Int), (0 : Int), false)).fst,                   Go.IntKind.i64.wrap (x0 + (1 : Int)),                   ((x2.set x1.toNat (x0, (x2.getD x1.toNat ((0 : Int), (0 : Int), (0 : Int), false)).snd)).getD x1.toNat                         ((0 : Int), (0 : Int), (0 : Int), false)).snd.snd)).set             x1.toNat             ((((x2.set x1.toNat (x0, (x2.getD x1.toNat ((0 : Int), (0 : Int), (0 : Int), false)).snd)).set x1.toNat                       (((x2.set x1.toNat (x0, (x2.getD x1.toNat ((0 : Int), (0 : Int), (0 : Int), false)).snd)).getD                             x1.toNat ((0 : Int), (0 : Int), (0 : Int), false)).fst,                         Go.IntKind.i64.wrap (x0 + (1 : Int)),                         ((x2.set x1.toNat (x0, (x2.getD x1.toNat ((0 : Int), (0 : Int), (0 : Int), false)).snd)).getD                               x1.toNat ((0 : Int), (0 : Int), (0 : Int), false)).snd.snd)).getD                   x1.toNat ((0 : Int), (0 : Int), (0 : Int), false)).fst,               (((x2.set x1.toNat (x0, (x2.getD x1.toNat ((0 : Int), (0 : Int), (0 : Int), false)).snd)).set x1.toNat                         (((x2.set x1.toNat (x0, (x2.getD x1.toNat ((0 : Int), (0 : Int), (0 : Int), false)).snd)).getD                               x1.toNat ((0 : Int), (0 : Int), (0 : Int), false)).fst,                           Go.IntKind.i64.wrap (x0 + (1 : Int)),                           ((x2.set x1.toNat (x0, (x2.getD x1.toNat ((0 : Int), (0 : Int), (0 : Int), false)).snd)).getD                                 x1.toNat ((0 : Int), (0 : Int), (0 : Int), false)).snd.snd)).getD                     x1.toNat ((0 : Int), (0 : Int), (0 : Int), false)).snd.fst,               Go.IntKind.i64.wrap (Go.IntKind.i64.wrap (x0 + (1 : Int)) + (1 : Int)),               (((x2.set x1.toNat (x0, (x2.getD x1.toNat ((0 : Int), (0 : Int), (0 : Int), false)).snd)).set x1.toNat                           (((x2.set x1.toNat (x0, (x2.getD x1.toNat ((0 : Int), (0 : Int), (0 : Int), false)).snd)).getD                                 x1.toNat ((0 : Int), (0 : Int), (0 : Int), false)).fst,                             Go.IntKind.i64.wrap (x0 + (1 : Int)),                             ((x2.set x1.toNat                                       (x0, (x2.getD x1.toNat ((0 : Int), (0 : Int), (0 : Int), false)).snd)).getD                                   x1.toNat ((0 : Int), (0 : Int), (0 : Int), false)).snd.snd)).getD                       x1.toNat ((0 : Int), (0 : Int), (0 : Int), false)).snd.snd.snd)).getD         x1.toNat ((0 : Int), (0 : Int), (0 : Int), false)).fst,     ((((x2.set x1.toNat (x0, (x2.getD x1.toNat ((0 : Int), (0 : Int), (0 : Int), false)).snd)).set x1.toNat                   (((x2.set x1.toNat (x0, (x2.getD x1.toNat ((0 : Int), (0 : Int), (0 : Int), false)).snd)).getD                         x1.toNat ((0 : Int), (0 : Int), (0 : Int), false)).fst,                     Go.IntKind.i64.wrap (x0 + (1 : Int)),                     ((x2.set x1.toNat (x0, (x2.getD x1.toNat ((0 : Int), (0 : Int), (0 : Int), false)).snd)).getD                           x1.toNat ((0 : Int), (0 : Int), (0 : Int), false)).snd.snd)).set               x1.toNat               ((((x2.set x1.toNat (x0, (x2.getD x1.toNat ((0 : Int), (0 : Int), (0 : Int), false)).snd)).set x1.toNat                         (((x2.set x1.toNat (x0, (x2.getD x1.toNat ((0 : Int), (0 : Int), (0 : Int), false)).snd)).getD                               x1.toNat ((0 : Int), (0 : Int), (0 : Int), false)).fst,                           Go.IntKind.i64.wrap (x0 + (1 : Int)),                           ((x2.set x1.toNat (x0, (x2.getD x1.toNat ((0 : Int), (0 : Int), (0 : Int), false)).snd)).getD                                 x1.toNat ((0 : Int), (0 : Int), (0 : Int), false)).snd.snd)).getD                     x1.toNat ((0 : Int), (0 : Int), (0 : Int), false)).fst,                 (((x2.set x1.toNat (x0, (x2.getD x1.toNat ((0 : Int), (0 : Int), (0 : Int), false)).snd)).set x1.toNat                           (((x2.set x1.toNat (x0, (x2.getD x1.toNat ((0 : Int), (0 : Int), (0 : Int), false)).snd)).getD                                 x1.toNat ((0 : Int), (0 : Int), (0 : Int), false)).fst,                             Go.IntKind.i64.wrap (x0 + (1 : Int)),                             ((x2.set x1.toNat                                       (x0, (x2.getD x1.toNat ((0 : Int), (0 : Int), (0 : Int), false)).snd)).getD                                   x1.toNat ((0 : Int), (0 : Int), (0 : Int), false)).snd.snd)).getD                       x1.toNat ((0 : Int), (0 : Int), (0 : Int), false)).snd.fst,                 Go.IntKind.i64.wrap (Go.IntKind.i64.wrap (x0 + (1 : Int)) + (1 : Int)),                 (((x2.set x1.toNat (x0, (x2.getD x1.toNat ((0 : Int), (0 : Int), (0 : Int), false)).snd)).set x1.toNat                             (((x2.set x1.toNat                                       (x0, (x2.getD x1.toNat ((0 : Int), (0 : Int), (0 : Int), false)).snd)).getD                                   x1.toNat ((0 : Int), (0 : Int), (0 : Int), false)).fst,                               Go.IntKind.i64.wrap (x0 + (1 : Int)),                               ((x2.set x1.toNat                                         (x0, (x2.getD x1.toNat ((0 : Int), (0 : Int), (0 : Int), false)).snd)).getD                                     x1.toNat ((0 : Int), (0 : Int), (0 : Int), false)).snd.snd)).getD                         x1.toNat ((0 : Int), (0 : Int), (0 : Int), false)).snd.snd.snd)).getD           x1.toNat ((0 : Int), (0 : Int), (0 : Int), false)).snd.fst,     ((((x2.set x1.toNat (x0, (x2.getD x1.toNat ((0 : Int), (0 : Int), (0 : Int), false)).snd)).set x1.toNat                     (((x2.set x1.toNat (x0, (x2.getD x1.toNat ((0 : Int), (0 : Int), (0 : Int), false)).snd)).getD                           x1.toNat ((0 : Int), (0 : Int), (0 : Int), false)).fst,                       Go.IntKind.i64.wrap (x0 + (1 : Int)),                       ((x2.set x1.toNat (x0, (x2.getD x1.toNat ((0 : Int), (0 : Int), (0 : Int), false)).snd)).getD                             x1.toNat ((0 : Int), (0 : Int), (0 : Int), false)).snd.snd)).set                 x1.toNat                 ((((x2.set x1.toNat (x0, (x2.getD x1.toNat ((0 : Int), (0 : Int), (0 : Int), false)).snd)).set x1.toNat                           (((x2.set x1.toNat (x0, (x2.getD x1.toNat ((0 : Int), (0 : Int), (0 : Int), false)).snd)).getD                                 x1.toNat ((0 : Int), (0 : Int), (0 : Int), false)).fst,                             Go.IntKind.i64.wrap (x0 + (1 : Int)),                             ((x2.set x1.toNat                                       (x0, (x2.getD x1.toNat ((0 : Int), (0 : Int), (0 : Int), false)).snd)).getD                                   x1.toNat ((0 : Int), (0 : Int), (0 : Int), false)).snd.snd)).getD                       x1.toNat ((0 : Int), (0 : Int), (0 : Int), false)).fst,                   (((x2.set x1.toNat (x0, (x2.getD x1.toNat ((0 : Int), (0 : Int), (0 : Int), false)).snd)).set x1.toNat                             (((x2.set x1.toNat                                       (x0, (x2.getD x1.toNat ((0 : Int), (0 : Int), (0 : Int), false)).snd)).getD                                   x1.toNat ((0 : Int), (0 : Int), (0 : Int), false)).fst,                               Go.IntKind.i64.wrap (x0 + (1 : Int)),                               ((x2.set x1.toNat                                         (x0, (x2.getD x1.toNat ((0 : Int), (0 : Int), (0 : Int), false)).snd)).getD                                     x1.toNat ((0 : Int), (0 : Int), (0 : Int), false)).snd.snd)).getD                         x1.toNat ((0 : Int), (0 : Int), (0 : Int), false)).snd.fst,                   Go.IntKind.i64.wrap (Go.IntKind.i64.wrap (x0 + (1 : Int)) + (1 : Int)),                   (((x2.set x1.toNat (x0, (x2.getD x1.toNat ((0 : Int), (0 : Int), (0 : Int), false)).snd)).set x1.toNat                               (((x2.set x1.toNat                                         (x0, (x2.getD x1.toNat ((0 : Int), (0 : Int), (0 : Int), false)).snd)).getD                                     x1.toNat ((0 : Int), (0 : Int), (0 : Int), false)).fst,                                 Go.IntKind.i64.wrap (x0 + (1 : Int)),                                 ((x2.set x1.toNat                                           (x0, (x2.getD x1.toNat ((0 : Int), (0 : Int), (0 : Int), false)).snd)).getD                                       x1.toNat ((0 : Int), (0 : Int), (0 : Int), false)).snd.snd)).getD                           x1.toNat ((0 : Int), (0 : Int), (0 : Int), false)).snd.snd.snd)).getD             x1.toNat ((0 : Int), (0 : Int), (0 : Int), false)).snd.snd.fst,     decide       ((Go.IntKind.i64.wrap (Go.IntKind.i64.wrap (Go.IntKind.i64.wrap (x0 + (1 : Int)) + (1 : Int)) + (1 : Int))).tmod           (3 : Int) =         (0 : Int))))) (none)) (none)) (none)) (none)) (none)) (none)) (none)) (none)) (some ((x0, ()), (x2, ())))
theorem e104_top (n : Nat) (a : List (Int × Int × Int × Bool)) (b : Int) : runF TT G104 an104 Try.f104 c104 ps104 rs104 n (a, b, ()) = st104_top n (fun x0 x1 x2 => at104 n (.head 2) [n] (sh104_L2 x0 x1 x2)) a b := by kernel_rfl
theorem e104_L2_0 (n : Nat) (x0 : Int) (x1 : Int) (x2 : List (Int × Int × Int × Bool)) : at104 n (.head 2) [0] (sh104_L2 x0 x1 x2) = none := by kernel_rfl
theorem e104_L2 (n : Nat) (m2 : Nat) (x0 : Int) (x1 : Int) (x2 : List (Int × Int × Int × Bool)) : at104 n (.head 2) [m2 + 1] (sh104_L2 x0 x1 x2) = st104_L2 n (fun x0 x1 x2 => at104 n (.head 2) [m2] (sh104_L2 x0 x1 x2)) x0 x1 x2 := by kernel_rfl
noncomputable def p104_L2 (n : Nat) : Nat → Int → Int → (List (Int × Int × Int × Bool)) → Option R104
  | 0, _, _, _ => none
  | m + 1, x0, x1, x2 => st104_L2 n (p104_L2 n m) x0 x1 x2
noncomputable def p104 (n : Nat) (a : List (Int × Int × Int × Bool)) (b : Int) : Option R104 := st104_top n (p104_L2 n n) a b
theorem t104_L2 (n : Nat) : ∀ (m2 : Nat) (x0 : Int) (x1 : Int) (x2 : List (Int × Int × Int × Bool)), at104 n (.head 2) [m2] (sh104_L2 x0 x1 x2) = p104_L2  n m2 x0 x1 x2 := by
  intro m
  induction m with
  | zero => intros; rw [e104_L2_0]; rfl
  | succ m ih =>
    intros
    rw [e104_L2]
    simp only [ih]
    rfl
theorem F104_eq (n : Nat) (a : List (Int × Int × Int × Bool)) (b : Int) : runF TT G104 an104 Try.f104 c104 ps104 rs104 n (a, b, ()) = p104 n a b := by
  rw [e104_top]
  simp only [t104_L2]
  try rfl
noncomputable def q104 (n : Nat) (x : argsD ps104) : Option R104 := p104 n x.1 x.2.1
noncomputable def Sm104 : Sm := ⟨ps104, rs104, false, q104⟩
theorem holds104 (hg : GamOK Try.prog G104) : Holds Try.prog 104 Sm104 := by
  have := h0_104 hg
  have e : (runF TT G104 an104 Try.f104 c104 ps104 rs104) = q104 := by
    funext n x
    exact F104_eq n x.1 x.2.1
  rw [e] at this
  exact this
theorem gam104 : GamOK Try.prog G104 := fun _ _ h => by cases h
theorem hh104 : Holds Try.prog 104 Sm104 := holds104 gam104
end Go.Proofs.Ytpcohpkflkhfbaa.Rx.S
namespace Go.Proofs.Ytpcohpkflkhfbaa.Rx.S
open Go Go.RowKit Go.Proofs
set_option maxRecDepth 100000
noncomputable def c52 : Code := (Try.f52.body.getD .skip)
def an52 : An := ⟨fun _ => ⟨[], []⟩, fun _ _ => none⟩
abbrev ps52 : List PK := [.io (.pair (.row 111 tTh) i64) true, .val i64 false]
abbrev rs52 : List RK := [.val i64 false]
abbrev R52 := retsD rs52 × outsD ps52
noncomputable def G52 : Gam := fun f => match f with | 104 => some Sm104 | _ => none
theorem h0_52 (hg : GamOK Try.prog G52) : Holds Try.prog 52 ⟨ps52, rs52, false, runF TT G52 an52 Try.f52 c52 ps52 rs52⟩ := holds_of tt_ok hg mixed Try.func52 (by kernel_rfl) (by rfl) (by decide +kernel)
noncomputable def at52 : Nat → Pt → List Nat → St → Option R52 := atF TT G52 an52 Try.f52 c52 _ _
noncomputable def st52_top (n : Nat)  (a : List (Int × Int × Int × Bool) × Int) (b : Int) : Option R52 :=
  (Go.Proofs.Ytpcohpkflkhfbaa.Rx.S.q104 n (a.fst, b, ())).bind fun r0 => some ((r0.fst.fst, ()), ((r0.snd.fst, a.snd), ()))
theorem e52_top (n : Nat) (a : List (Int × Int × Int × Bool) × Int) (b : Int) : runF TT G52 an52 Try.f52 c52 ps52 rs52 n (a, b, ()) = st52_top n  a b := by kernel_rfl
noncomputable def p52 (n : Nat) (a : List (Int × Int × Int × Bool) × Int) (b : Int) : Option R52 := st52_top n  a b
theorem F52_eq (n : Nat) (a : List (Int × Int × Int × Bool) × Int) (b : Int) : runF TT G52 an52 Try.f52 c52 ps52 rs52 n (a, b, ()) = p52 n a b := by
  rw [e52_top]
  skip
  try rfl
noncomputable def q52 (n : Nat) (x : argsD ps52) : Option R52 := p52 n x.1 x.2.1
noncomputable def Sm52 : Sm := ⟨ps52, rs52, false, q52⟩
theorem holds52 (hg : GamOK Try.prog G52) : Holds Try.prog 52 Sm52 := by
  have := h0_52 hg
  have e : (runF TT G52 an52 Try.f52 c52 ps52 rs52) = q52 := by
    funext n x
    exact F52_eq n x.1 x.2.1
  rw [e] at this
  exact this
theorem gam52 : GamOK Try.prog G52 := by
  intro f s h
  unfold G52 at h
  split at h
  · injection h with h; subst h; exact ⟨⟨Try.f104, c104, Try.func104, by kernel_rfl, by decide +kernel⟩, hh104⟩
  · cases h
theorem hh52 : Holds Try.prog 52 Sm52 := holds52 gam52
end Go.Proofs.Ytpcohpkflkhfbaa.Rx.S
namespace Go.Proofs.Ytpcohpkflkhfbaa.Rx.S
open Go Go.RowKit Go.Proofs
set_option maxRecDepth 100000
noncomputable def c105 : Code := (Try.f105.body.getD .skip)
def an105 : An := ⟨fun r => match r with | 2 => ⟨[0, 1, 5], []⟩ | _ => ⟨[], []⟩, fun _ _ => none⟩
abbrev ps105 : List PK := [.val (.row 111 tTh) false, .val i64 false]
abbrev rs105 : List RK := [.val i64 false]
abbrev R105 := retsD rs105 × outsD ps105
noncomputable def G105 : Gam := fun _ => none
theorem h0_105 (hg : GamOK Try.prog G105) : Holds Try.prog 105 ⟨ps105, rs105, false, runF TT G105 an105 Try.f105 c105 ps105 rs105⟩ := holds_of tt_ok hg mixed Try.func105 (by kernel_rfl) (by rfl) (by decide +kernel)
noncomputable def at105 : Nat → Pt → List Nat → St → Option R105 := atF TT G105 an105 Try.f105 c105 _ _
def sh105_L2 (x0 : List (Int × Int × Int × Bool)) (x1 : Int) (x2 : Int) : St := (Go.Proofs.Ytpcohpkflkhfbaa.Rx.St.mk ((Go.Proofs.Ytpcohpkflkhfbaa.Rx.AV.one (Go.Proofs.Ytpcohpkflkhfbaa.Rx.SV.con (⟨111, (Go.Proofs.Ytpcohpkflkhfbaa.Rx.Ty.int Go.IntKind.i64).pair   ((Go.Proofs.Ytpcohpkflkhfbaa.Rx.Ty.int Go.IntKind.i64).pair ((Go.Proofs.Ytpcohpkflkhfbaa.Rx.Ty.int Go.IntKind.i64).pair Go.Proofs.Ytpcohpkflkhfbaa.Rx.Ty.bool)), x0⟩ : Rw))) :: ((Go.Proofs.Ytpcohpkflkhfbaa.Rx.AV.one (Go.Proofs.Ytpcohpkflkhfbaa.Rx.SV.int (Go.IntKind.i64) x1)) :: (Go.Proofs.Ytpcohpkflkhfbaa.Rx.AV.undef :: (Go.Proofs.Ytpcohpkflkhfbaa.Rx.AV.undef :: (Go.Proofs.Ytpcohpkflkhfbaa.Rx.AV.undef :: ((Go.Proofs.Ytpcohpkflkhfbaa.Rx.AV.one (Go.Proofs.Ytpcohpkflkhfbaa.Rx.SV.int (Go.IntKind.i64) x2)) :: (Go.Proofs.Ytpcohpkflkhfbaa.Rx.AV.undef :: (Go.Proofs.Ytpcohpkflkhfbaa.Rx.AV.undef :: (Go.Proofs.Ytpcohpkflkhfbaa.Rx.AV.undef :: (Go.Proofs.Ytpcohpkflkhfbaa.Rx.AV.undef :: (Go.Proofs.Ytpcohpkflkhfbaa.Rx.AV.undef :: (Go.Proofs.Ytpcohpkflkhfbaa.Rx.AV.undef :: (Go.Proofs.Ytpcohpkflkhfbaa.Rx.AV.undef :: (Go.Proofs.Ytpcohpkflkhfbaa.Rx.AV.undef :: (Go.Proofs.Ytpcohpkflkhfbaa.Rx.AV.undef :: (Go.Proofs.Ytpcohpkflkhfbaa.Rx.AV.undef :: (Go.Proofs.Ytpcohpkflkhfbaa.Rx.AV.undef :: (Go.Proofs.Ytpcohpkflkhfbaa.Rx.AV.undef :: (Go.Proofs.Ytpcohpkflkhfbaa.Rx.AV.undef :: (Go.Proofs.Ytpcohpkflkhfbaa.Rx.AV.undef :: (Go.Proofs.Ytpcohpkflkhfbaa.Rx.AV.undef :: (Go.Proofs.Ytpcohpkflkhfbaa.Rx.AV.undef :: (Go.Proofs.Ytpcohpkflkhfbaa.Rx.AV.undef :: (Go.Proofs.Ytpcohpkflkhfbaa.Rx.AV.undef :: (Go.Proofs.Ytpcohpkflkhfbaa.Rx.AV.undef :: (Go.Proofs.Ytpcohpkflkhfbaa.Rx.AV.undef :: (Go.Proofs.Ytpcohpkflkhfbaa.Rx.AV.undef :: (Go.Proofs.Ytpcohpkflkhfbaa.Rx.AV.undef :: (Go.Proofs.Ytpcohpkflkhfbaa.Rx.AV.undef :: (Go.Proofs.Ytpcohpkflkhfbaa.Rx.AV.undef :: (Go.Proofs.Ytpcohpkflkhfbaa.Rx.AV.undef :: (Go.Proofs.Ytpcohpkflkhfbaa.Rx.AV.undef :: (Go.Proofs.Ytpcohpkflkhfbaa.Rx.AV.undef :: (Go.Proofs.Ytpcohpkflkhfbaa.Rx.AV.undef :: (Go.Proofs.Ytpcohpkflkhfbaa.Rx.AV.undef :: (Go.Proofs.Ytpcohpkflkhfbaa.Rx.AV.undef :: (Go.Proofs.Ytpcohpkflkhfbaa.Rx.AV.undef :: (Go.Proofs.Ytpcohpkflkhfbaa.Rx.AV.undef :: (Go.Proofs.Ytpcohpkflkhfbaa.Rx.AV.undef :: (Go.Proofs.Ytpcohpkflkhfbaa.Rx.AV.undef :: (Go.Proofs.Ytpcohpkflkhfbaa.Rx.AV.undef :: (Go.Proofs.Ytpcohpkflkhfbaa.Rx.AV.undef :: (Go.Proofs.Ytpcohpkflkhfbaa.Rx.AV.undef :: (Go.Proofs.Ytpcohpkflkhfbaa.Rx.AV.undef :: (Go.Proofs.Ytpcohpkflkhfbaa.Rx.AV.undef :: (Go.Proofs.Ytpcohpkflkhfbaa.Rx.AV.undef :: (Go.Proofs.Ytpcohpkflkhfbaa.Rx.AV.undef :: (Go.Proofs.Ytpcohpkflkhfbaa.Rx.AV.undef :: (Go.Proofs.Ytpcohpkflkhfbaa.Rx.AV.undef :: (Go.Proofs.Ytpcohpkflkhfbaa.Rx.AV.undef :: (Go.Proofs.Ytpcohpkflkhfbaa.Rx.AV.undef :: []))))))))))))))))))))))))))))))))))))))))))))))))))) [])
noncomputable def st105_top (n : Nat) (lL2 : (List (Int × Int × Int × Bool)) → Int → Int → Option R105) (a : List (Int × Int × Int × Bool)) (b : Int) : Option R105 :=
  lL2 (a) (b) ((0 : Int))
noncomputable def st105_L2 (n : Nat) (lL2 : (List (Int × Int × Int × Bool)) → Int → Int → Option R105) (x0 : List (Int × Int × Int × Bool)) (x1 : Int) (x2 : Int) : Option R105 :=
  cond (decide (x2 < (↑x0.length : Int))) (cond (decide ((0 : Int) ≤ x2)) (cond (decide (x2 < (↑x0.length : Int))) (cond (!decide ((x0.getD x2.toNat ((0 : Int), (0 : Int), (0 : Int), false)).fst = x1)) (some (((-1 : Int), ()), ())) (cond (decide ((0 : Int) ≤ x2)) (cond (decide (x2 < (↑x0.length : Int))) (cond (!decide ((x0.getD x2.toNat ((0 : Int), (0 : Int), (0 : Int), false)).snd.fst = Go.IntKind.i64.wrap (x1 + (1 : Int)))) (some (((-1 : Int), ()), ())) (cond (decide ((0 : Int) ≤ x2)) (cond (decide (x2 < (↑x0.length : Int))) (cond (!decide     ((x0.getD x2.toNat ((0 : Int), (0 : Int), (0 : Int), false)).snd.snd.fst =       Go.IntKind.i64.wrap (Go.IntKind.i64.wrap (x1 + (1 : Int)) + (1 : Int)))) (some (((-1 : Int), ()), ())) (cond (decide ((0 : Int) ≤ x2)) (cond (decide (x2 < (↑x0.length : Int))) (cond (!(x0.getD x2.toNat ((0 : Int), (0 : Int), (0 : Int), false)).snd.snd.snd ==     decide       ((Go.IntKind.i64.wrap (Go.IntKind.i64.wrap (Go.IntKind.i64.wrap (x1 + (1 : Int)) + (1 : Int)) + (1 : Int))).tmod           (3 : Int) =         (0 : Int))) (some (((-1 : Int), ()), ())) (lL2 (x0) (Go.IntKind.i64.wrap   (Go.IntKind.i64.wrap (Go.IntKind.i64.wrap (Go.IntKind.i64.wrap (x1 + (1 : Int)) + (1 : Int)) + (1 : Int)) + (1 : Int))) (Go.IntKind.i64.wrap (x2 + (1 : Int))))) (none)) (none))) (none)) (none))) (none)) (none))) (none)) (none)) (some ((x1, ()), ()))
theorem e105_top (n : Nat) (a : List (Int × Int × Int × Bool)) (b : Int) : runF TT G105 an105 Try.f105 c105 ps105 rs105 n (a, b, ()) = st105_top n (fun x0 x1 x2 => at105 n (.head 2) [n] (sh105_L2 x0 x1 x2)) a b := by kernel_rfl
theorem e105_L2_0 (n : Nat) (x0 : List (Int × Int × Int × Bool)) (x1 : Int) (x2 : Int) : at105 n (.head 2) [0] (sh105_L2 x0 x1 x2) = none := by kernel_rfl
theorem e105_L2 (n : Nat) (m2 : Nat) (x0 : List (Int × Int × Int × Bool)) (x1 : Int) (x2 : Int) : at105 n (.head 2) [m2 + 1] (sh105_L2 x0 x1 x2) = st105_L2 n (fun x0 x1 x2 => at105 n (.head 2) [m2] (sh105_L2 x0 x1 x2)) x0 x1 x2 := by kernel_rfl
noncomputable def p105_L2 (n : Nat) : Nat → (List (Int × Int × Int × Bool)) → Int → Int → Option R105
  | 0, _, _, _ => none
  | m + 1, x0, x1, x2 => st105_L2 n (p105_L2 n m) x0 x1 x2
noncomputable def p105 (n : Nat) (a : List (Int × Int × Int × Bool)) (b : Int) : Option R105 := st105_top n (p105_L2 n n) a b
theorem t105_L2 (n : Nat) : ∀ (m2 : Nat) (x0 : List (Int × Int × Int × Bool)) (x1 : Int) (x2 : Int), at105 n (.head 2) [m2] (sh105_L2 x0 x1 x2) = p105_L2  n m2 x0 x1 x2 := by
  intro m
  induction m with
  | zero => intros; rw [e105_L2_0]; rfl
  | succ m ih =>
    intros
    rw [e105_L2]
    simp only [ih]
    rfl
theorem F105_eq (n : Nat) (a : List (Int × Int × Int × Bool)) (b : Int) : runF TT G105 an105 Try.f105 c105 ps105 rs105 n (a, b, ()) = p105 n a b := by
  rw [e105_top]
  simp only [t105_L2]
  try rfl
noncomputable def q105 (n : Nat) (x : argsD ps105) : Option R105 := p105 n x.1 x.2.1
noncomputable def Sm105 : Sm := ⟨ps105, rs105, false, q105⟩
theorem holds105 (hg : GamOK Try.prog G105) : Holds Try.prog 105 Sm105 := by
  have := h0_105 hg
  have e : (runF TT G105 an105 Try.f105 c105 ps105 rs105) = q105 := by
    funext n x
    exact F105_eq n x.1 x.2.1
  rw [e] at this
  exact this
theorem gam105 : GamOK Try.prog G105 := fun _ _ h => by cases h
theorem hh105 : Holds Try.prog 105 Sm105 := holds105 gam105
end Go.Proofs.Ytpcohpkflkhfbaa.Rx.S
namespace Go.Proofs.Ytpcohpkflkhfbaa.Rx.S
open Go Go.RowKit Go.Proofs
set_option maxRecDepth 100000
noncomputable def c53 : Code := (Try.f53.body.getD .skip)
def an53 : An := ⟨fun _ => ⟨[], []⟩, fun _ _ => none⟩
abbrev ps53 : List PK := [.val (.pair (.row 111 tTh) i64) true, .val i64 false]
abbrev rs53 : List RK := [.val i64 false]
abbrev R53 := retsD rs53 × outsD ps53
noncomputable def G53 : Gam := fun f => match f with | 105 => some Sm105 | _ => none
theorem h0_53 (hg : GamOK Try.prog G53) : Holds Try.prog 53 ⟨ps53, rs53, false, runF TT G53 an53 Try.f53 c53 ps53 rs53⟩ := holds_of tt_ok hg mixed Try.func53 (by kernel_rfl) (by rfl) (by decide +kernel)
noncomputable def at53 : Nat → Pt → List Nat → St → Option R53 := atF TT G53 an53 Try.f53 c53 _ _
noncomputable def st53_top (n : Nat)  (a : List (Int × Int × Int × Bool) × Int) (b : Int) : Option R53 :=
  (Go.Proofs.Ytpcohpkflkhfbaa.Rx.S.q105 n (a.fst, b, ())).bind fun r0 => cond (decide (r0.fst.fst < (0 : Int))) (some (((-1 : Int), ()), ())) (some ((r0.fst.fst, ()), ()))
theorem e53_top (n : Nat) (a : List (Int × Int × Int × Bool) × Int) (b : Int) : runF TT G53 an53 Try.f53 c53 ps53 rs53 n (a, b, ()) = st53_top n  a b := by kernel_rfl
noncomputable def p53 (n : Nat) (a : List (Int × Int × Int × Bool) × Int) (b : Int) : Option R53 := st53_top n  a b
theorem F53_eq (n : Nat) (a : List (Int × Int × Int × Bool) × Int) (b : Int) : runF TT G53 an53 Try.f53 c53 ps53 rs53 n (a, b, ()) = p53 n a b := by
  rw [e53_top]
  skip
  try rfl
noncomputable def q53 (n : Nat) (x : argsD ps53) : Option R53 := p53 n x.1 x.2.1
noncomputable def Sm53 : Sm := ⟨ps53, rs53, false, q53⟩
theorem holds53 (hg : GamOK Try.prog G53) : Holds Try.prog 53 Sm53 := by
  have := h0_53 hg
  have e : (runF TT G53 an53 Try.f53 c53 ps53 rs53) = q53 := by
    funext n x
    exact F53_eq n x.1 x.2.1
  rw [e] at this
  exact this
theorem gam53 : GamOK Try.prog G53 := by
  intro f s h
  unfold G53 at h
  split at h
  · injection h with h; subst h; exact ⟨⟨Try.f105, c105, Try.func105, by kernel_rfl, by decide +kernel⟩, hh105⟩
  · cases h
theorem hh53 : Holds Try.prog 53 Sm53 := holds53 gam53
end Go.Proofs.Ytpcohpkflkhfbaa.Rx.S
