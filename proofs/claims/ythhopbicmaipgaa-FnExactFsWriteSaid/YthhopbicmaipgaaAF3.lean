/- What the functions of this seat compute, each as a plain function on lists and numbers, with the proof that a call answers so. No condition. -/
import Derived.Test.YthhopbicmaipgaaAF2
namespace Go.Proofs.Ythhopbicmaipgaa.Rx.S
open Go Go.RowKit Go.Proofs
set_option maxRecDepth 100000
noncomputable def c12 : Code := (Try.f12.body.getD .skip)
def an12 : An := ⟨fun _ => ⟨[], []⟩, fun _ _ => none⟩
abbrev ps12 : List PK := [.val tLf true, .val tCr true, .val i64 false, .val .bool false]
abbrev rs12 : List RK := [.val .bool false]
abbrev R12 := retsD rs12 × outsD ps12
noncomputable def G12 : Gam := fun f => match f with | 21 => some Sm21 | 22 => some Sm22 | 23 => some Sm23 | 24 => some Sm24 | 25 => some Sm25 | 26 => some Sm26 | 27 => some Sm27 | 28 => some Sm28 | 29 => some Sm29 | 42 => some Sm42 | 43 => some Sm43 | _ => none
theorem h0_12 (hg : GamOK Try.prog G12) : Holds Try.prog 12 ⟨ps12, rs12, false, runF TT G12 an12 Try.f12 c12 ps12 rs12⟩ := holds_of tt_ok hg mixed Try.func12 (by kernel_rfl) (by rfl) (by decide +kernel)
noncomputable def at12 : Nat → Pt → List Nat → St → Option R12 := atF TT G12 an12 Try.f12 c12 _ _
noncomputable def st12_top (n : Nat)  (a : List (Int × Int × Int × Int × Int × Int × Bool × ByteArray × List (ByteArray × Int))) (b : Int × Int × List Int) (c : Int) (d : Bool) : Option R12 :=
  (Go.Proofs.Ythhopbicmaipgaa.Rx.S.q21 n (a, (1048576 : Int), ())).bind fun r0 => cond (decide (r0.fst.fst < (0 : Int))) (some ((true, ()), ())) ((Go.Proofs.Ythhopbicmaipgaa.Rx.S.q22 n ((b.fst, b.snd.fst, b.snd.snd), r0.fst.fst, ())).bind fun r1 => cond (decide (r1.fst.fst < (0 : Int))) (some ((true, ()), ())) ((Go.Proofs.Ythhopbicmaipgaa.Rx.S.q23 n (a, ())).bind fun r2 => (Go.Proofs.Ythhopbicmaipgaa.Rx.S.q24 n ((b.fst, b.snd.fst, b.snd.snd), ())).bind fun r3 => (Go.Proofs.Ythhopbicmaipgaa.Rx.S.q42 n (r2.fst.fst, (r3.fst.fst.fst, r3.fst.fst.snd.fst, r3.fst.fst.snd.snd), c, d, ())).bind fun r4 => (Go.Proofs.Ythhopbicmaipgaa.Rx.S.q23 n (a, ())).bind fun r5 => (Go.Proofs.Ythhopbicmaipgaa.Rx.S.q24 n ((b.fst, b.snd.fst, b.snd.snd), ())).bind fun r6 => (Go.Proofs.Ythhopbicmaipgaa.Rx.S.q43 n (r5.fst.fst, (r6.fst.fst.fst, r6.fst.fst.snd.fst, r6.fst.fst.snd.snd), c, d, ())).bind fun r7 => (Go.Proofs.Ythhopbicmaipgaa.Rx.S.q25 n (r7.fst.fst, r4.fst.fst, ())).bind fun r8 => cond (!r8.fst.fst) (some ((false, ()), ())) (cond (!decide (r7.fst.snd.fst = r4.fst.snd.fst)) (some ((false, ()), ())) ((Go.Proofs.Ythhopbicmaipgaa.Rx.S.q23 n (a, ())).bind fun r9 => (Go.Proofs.Ythhopbicmaipgaa.Rx.S.q25 n (r5.fst.fst, r9.fst.fst, ())).bind fun r10 => cond (!r10.fst.fst) (some ((false, ()), ())) ((Go.Proofs.Ythhopbicmaipgaa.Rx.S.q24 n ((b.fst, b.snd.fst, b.snd.snd), ())).bind fun r11 => (Go.Proofs.Ythhopbicmaipgaa.Rx.S.q26 n   ((r6.fst.fst.fst, r6.fst.fst.snd.fst, r6.fst.fst.snd.snd),     (r11.fst.fst.fst, r11.fst.fst.snd.fst, r11.fst.fst.snd.snd), ())).bind fun r12 => cond (!r12.fst.fst) (some ((false, ()), ())) ((Go.Proofs.Ythhopbicmaipgaa.Rx.S.q27 n (r5.fst.fst, (1 : Int), ())).bind fun r13 => (Go.Proofs.Ythhopbicmaipgaa.Rx.S.q28 n ((r6.fst.fst.fst, r6.fst.fst.snd.fst, r6.fst.fst.snd.snd), r13.fst.fst, ())).bind fun r14 => cond (decide (r14.fst.fst < (0 : Int))) (some ((false, ()), ())) ((Go.Proofs.Ythhopbicmaipgaa.Rx.S.q25 n (r7.fst.fst, r4.fst.fst, ())).bind fun r15 => cond (!r15.fst.fst) (some ((false, ()), ())) (cond (!decide (r7.fst.snd.fst = r4.fst.snd.fst)) (some ((false, ()), ())) ((Go.Proofs.Ythhopbicmaipgaa.Rx.S.q27 n (r7.fst.fst, (1 : Int), ())).bind fun r16 => (Go.Proofs.Ythhopbicmaipgaa.Rx.S.q29 n (r16.snd.fst, (1 : Int), ())).bind fun r17 => cond (decide (r17.fst.fst < (0 : Int))) (some ((false, ()), ())) (cond (!decide (r17.fst.fst = r16.fst.fst)) (some ((false, ()), ())) ((Go.Proofs.Ythhopbicmaipgaa.Rx.S.q23 n (a, ())).bind fun r18 => (Go.Proofs.Ythhopbicmaipgaa.Rx.S.q24 n ((b.fst, b.snd.fst, b.snd.snd), ())).bind fun r19 => (Go.Proofs.Ythhopbicmaipgaa.Rx.S.q43 n (r18.fst.fst, (r19.fst.fst.fst, r19.fst.fst.snd.fst, r19.fst.fst.snd.snd), c, d, ())).bind fun r20 => (Go.Proofs.Ythhopbicmaipgaa.Rx.S.q25 n (r20.fst.fst, r4.fst.fst, ())).bind fun r21 => cond (!r21.fst.fst) (some ((false, ()), ())) (cond (!decide (r20.fst.snd.fst = r4.fst.snd.fst)) (some ((false, ()), ())) ((Go.Proofs.Ythhopbicmaipgaa.Rx.S.q29 n (r16.snd.fst, (1 : Int), ())).bind fun r22 => cond (decide (r22.fst.fst < (0 : Int))) (some ((false, ()), ())) (cond (!decide (r22.fst.fst = r16.fst.fst)) (some ((false, ()), ())) (some ((true, ()), ()))))))))))))))))
theorem e12_top (n : Nat) (a : List (Int × Int × Int × Int × Int × Int × Bool × ByteArray × List (ByteArray × Int))) (b : Int × Int × List Int) (c : Int) (d : Bool) : runF TT G12 an12 Try.f12 c12 ps12 rs12 n (a, b, c, d, ()) = st12_top n  a b c d := by kernel_rfl
noncomputable def p12 (n : Nat) (a : List (Int × Int × Int × Int × Int × Int × Bool × ByteArray × List (ByteArray × Int))) (b : Int × Int × List Int) (c : Int) (d : Bool) : Option R12 := st12_top n  a b c d
theorem F12_eq (n : Nat) (a : List (Int × Int × Int × Int × Int × Int × Bool × ByteArray × List (ByteArray × Int))) (b : Int × Int × List Int) (c : Int) (d : Bool) : runF TT G12 an12 Try.f12 c12 ps12 rs12 n (a, b, c, d, ()) = p12 n a b c d := by
  rw [e12_top]
  skip
  try rfl
noncomputable def q12 (n : Nat) (x : argsD ps12) : Option R12 := p12 n x.1 x.2.1 x.2.2.1 x.2.2.2.1
noncomputable def Sm12 : Sm := ⟨ps12, rs12, false, q12⟩
theorem holds12 (hg : GamOK Try.prog G12) : Holds Try.prog 12 Sm12 := by
  have := h0_12 hg
  have e : (runF TT G12 an12 Try.f12 c12 ps12 rs12) = q12 := by
    funext n x
    exact F12_eq n x.1 x.2.1 x.2.2.1 x.2.2.2.1
  rw [e] at this
  exact this
theorem gam12 : GamOK Try.prog G12 := by
  intro f s h
  unfold G12 at h
  split at h
  · injection h with h; subst h; exact ⟨⟨Try.f21, c21, Try.func21, by kernel_rfl, by decide +kernel⟩, hh21⟩
  · injection h with h; subst h; exact ⟨⟨Try.f22, c22, Try.func22, by kernel_rfl, by decide +kernel⟩, hh22⟩
  · injection h with h; subst h; exact ⟨⟨Try.f23, c23, Try.func23, by kernel_rfl, by decide +kernel⟩, hh23⟩
  · injection h with h; subst h; exact ⟨⟨Try.f24, c24, Try.func24, by kernel_rfl, by decide +kernel⟩, hh24⟩
  · injection h with h; subst h; exact ⟨⟨Try.f25, c25, Try.func25, by kernel_rfl, by decide +kernel⟩, hh25⟩
  · injection h with h; subst h; exact ⟨⟨Try.f26, c26, Try.func26, by kernel_rfl, by decide +kernel⟩, hh26⟩
  · injection h with h; subst h; exact ⟨⟨Try.f27, c27, Try.func27, by kernel_rfl, by decide +kernel⟩, hh27⟩
  · injection h with h; subst h; exact ⟨⟨Try.f28, c28, Try.func28, by kernel_rfl, by decide +kernel⟩, hh28⟩
  · injection h with h; subst h; exact ⟨⟨Try.f29, c29, Try.func29, by kernel_rfl, by decide +kernel⟩, hh29⟩
  · injection h with h; subst h; exact ⟨⟨Try.f42, c42, Try.func42, by kernel_rfl, by decide +kernel⟩, hh42⟩
  · injection h with h; subst h; exact ⟨⟨Try.f43, c43, Try.func43, by kernel_rfl, by decide +kernel⟩, hh43⟩
  · cases h
theorem hh12 : Holds Try.prog 12 Sm12 := holds12 gam12
end Go.Proofs.Ythhopbicmaipgaa.Rx.S
