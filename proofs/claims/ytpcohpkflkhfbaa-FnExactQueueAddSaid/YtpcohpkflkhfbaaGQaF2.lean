/- What the functions of this seat compute, each as a plain function on lists and numbers, with the proof that a call answers so. No condition. -/
import Derived.Test.YtpcohpkflkhfbaaGQaF1
namespace Go.Proofs.Ytpcohpkflkhfbaa.Rx.S
open Go Go.RowKit Go.Proofs
set_option maxRecDepth 100000
noncomputable def c12 : Code := (Try.f12.body.getD .skip)
def an12 : An := ⟨fun _ => ⟨[], []⟩, fun _ _ => none⟩
abbrev ps12 : List PK := [.val (.pair (.row 139 tTh) i64) true, .val i64 false, .val i64 false]
abbrev rs12 : List RK := [.val .bool false]
abbrev R12 := retsD rs12 × outsD ps12
noncomputable def G12 : Gam := fun f => match f with | 44 => some Sm44 | 45 => some Sm45 | 49 => some Sm49 | 50 => some Sm50 | 51 => some Sm51 | 52 => some Sm52 | 53 => some Sm53 | _ => none
theorem h0_12 (hg : GamOK Try.prog G12) : Holds Try.prog 12 ⟨ps12, rs12, false, runF TT G12 an12 Try.f12 c12 ps12 rs12⟩ := holds_of tt_ok hg mixed Try.func12 (by kernel_rfl) (by rfl) (by decide +kernel)
noncomputable def at12 : Nat → Pt → List Nat → St → Option R12 := atF TT G12 an12 Try.f12 c12 _ _
noncomputable def st12_top (n : Nat)  (a : List (Int × Int × Int × Bool) × Int) (b : Int) (c : Int) : Option R12 :=
  (Go.Proofs.Ytpcohpkflkhfbaa.Rx.S.q49 n ((a.fst, a.snd), (1048576 : Int), ())).bind fun r0 => cond (decide (r0.fst.fst < (0 : Int))) (some ((true, ()), ())) ((Go.Proofs.Ytpcohpkflkhfbaa.Rx.S.q50 n ((a.fst, a.snd), ())).bind fun r1 => (Go.Proofs.Ytpcohpkflkhfbaa.Rx.S.q45 n ((r1.fst.fst.fst, r1.fst.fst.snd), b, c, ())).bind fun r2 => (Go.Proofs.Ytpcohpkflkhfbaa.Rx.S.q50 n ((a.fst, a.snd), ())).bind fun r3 => (Go.Proofs.Ytpcohpkflkhfbaa.Rx.S.q44 n ((r3.fst.fst.fst, r3.fst.fst.snd), b, c, ())).bind fun r4 => (Go.Proofs.Ytpcohpkflkhfbaa.Rx.S.q51 n ((r4.fst.fst.fst, r4.fst.fst.snd), (r2.fst.fst.fst, r2.fst.fst.snd), ())).bind fun r5 => cond (!r5.fst.fst) (some ((false, ()), ())) (cond (!r4.fst.snd.fst == r2.fst.snd.fst) (some ((false, ()), ())) ((Go.Proofs.Ytpcohpkflkhfbaa.Rx.S.q50 n ((a.fst, a.snd), ())).bind fun r6 => (Go.Proofs.Ytpcohpkflkhfbaa.Rx.S.q51 n ((r3.fst.fst.fst, r3.fst.fst.snd), (r6.fst.fst.fst, r6.fst.fst.snd), ())).bind fun r7 => cond (!r7.fst.fst) (some ((false, ()), ())) ((Go.Proofs.Ytpcohpkflkhfbaa.Rx.S.q52 n ((r3.fst.fst.fst, r3.fst.fst.snd), (1 : Int), ())).bind fun r8 => cond (decide (r8.fst.fst < (0 : Int))) (some ((false, ()), ())) ((Go.Proofs.Ytpcohpkflkhfbaa.Rx.S.q51 n ((r4.fst.fst.fst, r4.fst.fst.snd), (r2.fst.fst.fst, r2.fst.fst.snd), ())).bind fun r9 => cond (!r9.fst.fst) (some ((false, ()), ())) (cond (!r4.fst.snd.fst == r2.fst.snd.fst) (some ((false, ()), ())) ((Go.Proofs.Ytpcohpkflkhfbaa.Rx.S.q52 n ((r4.fst.fst.fst, r4.fst.fst.snd), (1 : Int), ())).bind fun r10 => (Go.Proofs.Ytpcohpkflkhfbaa.Rx.S.q53 n ((r10.snd.fst.fst, r4.fst.fst.snd), (1 : Int), ())).bind fun r11 => cond (decide (r11.fst.fst < (0 : Int))) (some ((false, ()), ())) (cond (!decide (r11.fst.fst = r10.fst.fst)) (some ((false, ()), ())) ((Go.Proofs.Ytpcohpkflkhfbaa.Rx.S.q50 n ((a.fst, a.snd), ())).bind fun r12 => (Go.Proofs.Ytpcohpkflkhfbaa.Rx.S.q44 n ((r12.fst.fst.fst, r12.fst.fst.snd), b, c, ())).bind fun r13 => (Go.Proofs.Ytpcohpkflkhfbaa.Rx.S.q51 n ((r13.fst.fst.fst, r13.fst.fst.snd), (r2.fst.fst.fst, r2.fst.fst.snd), ())).bind fun r14 => cond (!r14.fst.fst) (some ((false, ()), ())) (cond (!r13.fst.snd.fst == r2.fst.snd.fst) (some ((false, ()), ())) ((Go.Proofs.Ytpcohpkflkhfbaa.Rx.S.q53 n ((r10.snd.fst.fst, r4.fst.fst.snd), (1 : Int), ())).bind fun r15 => cond (decide (r15.fst.fst < (0 : Int))) (some ((false, ()), ())) (cond (!decide (r15.fst.fst = r10.fst.fst)) (some ((false, ()), ())) (some ((true, ()), ()))))))))))))))
theorem e12_top (n : Nat) (a : List (Int × Int × Int × Bool) × Int) (b : Int) (c : Int) : runF TT G12 an12 Try.f12 c12 ps12 rs12 n (a, b, c, ()) = st12_top n  a b c := by kernel_rfl
noncomputable def p12 (n : Nat) (a : List (Int × Int × Int × Bool) × Int) (b : Int) (c : Int) : Option R12 := st12_top n  a b c
theorem F12_eq (n : Nat) (a : List (Int × Int × Int × Bool) × Int) (b : Int) (c : Int) : runF TT G12 an12 Try.f12 c12 ps12 rs12 n (a, b, c, ()) = p12 n a b c := by
  rw [e12_top]
  skip
  try rfl
noncomputable def q12 (n : Nat) (x : argsD ps12) : Option R12 := p12 n x.1 x.2.1 x.2.2.1
noncomputable def Sm12 : Sm := ⟨ps12, rs12, false, q12⟩
theorem holds12 (hg : GamOK Try.prog G12) : Holds Try.prog 12 Sm12 := by
  have := h0_12 hg
  have e : (runF TT G12 an12 Try.f12 c12 ps12 rs12) = q12 := by
    funext n x
    exact F12_eq n x.1 x.2.1 x.2.2.1
  rw [e] at this
  exact this
theorem gam12 : GamOK Try.prog G12 := by
  intro f s h
  unfold G12 at h
  split at h
  · injection h with h; subst h; exact ⟨⟨Try.f44, c44, Try.func44, by kernel_rfl, by decide +kernel⟩, hh44⟩
  · injection h with h; subst h; exact ⟨⟨Try.f45, c45, Try.func45, by kernel_rfl, by decide +kernel⟩, hh45⟩
  · injection h with h; subst h; exact ⟨⟨Try.f49, c49, Try.func49, by kernel_rfl, by decide +kernel⟩, hh49⟩
  · injection h with h; subst h; exact ⟨⟨Try.f50, c50, Try.func50, by kernel_rfl, by decide +kernel⟩, hh50⟩
  · injection h with h; subst h; exact ⟨⟨Try.f51, c51, Try.func51, by kernel_rfl, by decide +kernel⟩, hh51⟩
  · injection h with h; subst h; exact ⟨⟨Try.f52, c52, Try.func52, by kernel_rfl, by decide +kernel⟩, hh52⟩
  · injection h with h; subst h; exact ⟨⟨Try.f53, c53, Try.func53, by kernel_rfl, by decide +kernel⟩, hh53⟩
  · cases h
theorem hh12 : Holds Try.prog 12 Sm12 := holds12 gam12
end Go.Proofs.Ytpcohpkflkhfbaa.Rx.S
