/- What the functions of this seat compute, each as a plain function on lists and numbers, with the proof that a call answers so. No condition. -/
import Derived.Test.YthhopbicmaipgaaBF1
namespace Go.Proofs.Ythhopbicmaipgaa.Rx.S
open Go Go.RowKit Go.Proofs
set_option maxRecDepth 100000
noncomputable def c11 : Code := (Try.f11.body.getD .skip)
def an11 : An := ⟨fun _ => ⟨[], []⟩, fun _ _ => none⟩
abbrev ps11 : List PK := [.val tLf true, .val tCr true, .val i64 false, .val i64 false]
abbrev rs11 : List RK := [.val .bool false]
abbrev R11 := retsD rs11 × outsD ps11
noncomputable def G11 : Gam := fun f => match f with | 21 => some Sm21 | 22 => some Sm22 | 23 => some Sm23 | 24 => some Sm24 | 25 => some Sm25 | 26 => some Sm26 | 27 => some Sm27 | 28 => some Sm28 | 29 => some Sm29 | 40 => some Sm40 | 41 => some Sm41 | _ => none
theorem h0_11 (hg : GamOK Try.prog G11) : Holds Try.prog 11 ⟨ps11, rs11, false, runF TT G11 an11 Try.f11 c11 ps11 rs11⟩ := holds_of tt_ok hg mixed Try.func11 (by kernel_rfl) (by rfl) (by decide +kernel)
noncomputable def at11 : Nat → Pt → List Nat → St → Option R11 := atF TT G11 an11 Try.f11 c11 _ _
noncomputable def st11_top (n : Nat) (a : List (Int × Int × Int × Int × Int × Int × Bool × ByteArray × List (ByteArray × Int))) (b : Int × Int × List Int) (c : Int) (d : Int) : Option R11 :=
  (q21 n (a, (1048576 : Int), ())).bind fun r0 => cond (decide (r0.fst.fst < (0 : Int))) (some ((true, ()), ())) ((q22 n ((b.fst, b.snd.fst, b.snd.snd), r0.fst.fst, ())).bind fun r1 => cond (decide (r1.fst.fst < (0 : Int))) (some ((true, ()), ())) ((q23 n (a, ())).bind fun r2 => (q24 n ((b.fst, b.snd.fst, b.snd.snd), ())).bind fun r3 => (q40 n (r2.fst.fst, (r3.fst.fst.fst, r3.fst.fst.snd.fst, r3.fst.fst.snd.snd), c, d, ())).bind fun r4 => (q23 n (a, ())).bind fun r5 => (q24 n ((b.fst, b.snd.fst, b.snd.snd), ())).bind fun r6 => (q41 n (r5.fst.fst, (r6.fst.fst.fst, r6.fst.fst.snd.fst, r6.fst.fst.snd.snd), c, d, ())).bind fun r7 => (q25 n (r7.fst.fst, r4.fst.fst, ())).bind fun r8 => cond (!r8.fst.fst) (some ((false, ()), ())) (cond (!decide (r7.fst.snd.fst = r4.fst.snd.fst)) (some ((false, ()), ())) ((q23 n (a, ())).bind fun r9 => (q25 n (r5.fst.fst, r9.fst.fst, ())).bind fun r10 => cond (!r10.fst.fst) (some ((false, ()), ())) ((q24 n ((b.fst, b.snd.fst, b.snd.snd), ())).bind fun r11 => (q26 n ((r6.fst.fst.fst, r6.fst.fst.snd.fst, r6.fst.fst.snd.snd), (r11.fst.fst.fst, r11.fst.fst.snd.fst, r11.fst.fst.snd.snd), ())).bind fun r12 => cond (!r12.fst.fst) (some ((false, ()), ())) ((q27 n (r5.fst.fst, (1 : Int), ())).bind fun r13 => (q28 n ((r6.fst.fst.fst, r6.fst.fst.snd.fst, r6.fst.fst.snd.snd), r13.fst.fst, ())).bind fun r14 => cond (decide (r14.fst.fst < (0 : Int))) (some ((false, ()), ())) ((q25 n (r7.fst.fst, r4.fst.fst, ())).bind fun r15 => cond (!r15.fst.fst) (some ((false, ()), ())) (cond (!decide (r7.fst.snd.fst = r4.fst.snd.fst)) (some ((false, ()), ())) ((q27 n (r7.fst.fst, (1 : Int), ())).bind fun r16 => (q29 n (r16.snd.fst, (1 : Int), ())).bind fun r17 => cond (decide (r17.fst.fst < (0 : Int))) (some ((false, ()), ())) (cond (!decide (r17.fst.fst = r16.fst.fst)) (some ((false, ()), ())) ((q23 n (a, ())).bind fun r18 => (q24 n ((b.fst, b.snd.fst, b.snd.snd), ())).bind fun r19 => (q41 n (r18.fst.fst, (r19.fst.fst.fst, r19.fst.fst.snd.fst, r19.fst.fst.snd.snd), c, d, ())).bind fun r20 => (q25 n (r20.fst.fst, r4.fst.fst, ())).bind fun r21 => cond (!r21.fst.fst) (some ((false, ()), ())) (cond (!decide (r20.fst.snd.fst = r4.fst.snd.fst)) (some ((false, ()), ())) ((q29 n (r16.snd.fst, (1 : Int), ())).bind fun r22 => cond (decide (r22.fst.fst < (0 : Int))) (some ((false, ()), ())) (cond (!decide (r22.fst.fst = r16.fst.fst)) (some ((false, ()), ())) (some ((true, ()), ()))))))))))))))))
theorem e11_top (n : Nat) (a : List (Int × Int × Int × Int × Int × Int × Bool × ByteArray × List (ByteArray × Int))) (b : Int × Int × List Int) (c : Int) (d : Int) : runF TT G11 an11 Try.f11 c11 ps11 rs11 n (a, b, c, d, ()) = st11_top n a b c d := by kernel_rfl
noncomputable def p11 (n : Nat) (a : List (Int × Int × Int × Int × Int × Int × Bool × ByteArray × List (ByteArray × Int))) (b : Int × Int × List Int) (c : Int) (d : Int) : Option R11 := st11_top n a b c d
theorem F11_eq (n : Nat) (a : List (Int × Int × Int × Int × Int × Int × Bool × ByteArray × List (ByteArray × Int))) (b : Int × Int × List Int) (c : Int) (d : Int) : runF TT G11 an11 Try.f11 c11 ps11 rs11 n (a, b, c, d, ()) = p11 n a b c d := by
  rw [e11_top]
  skip
  try rfl
noncomputable def q11 (n : Nat) (x : argsD ps11) : Option R11 := p11 n x.1 x.2.1 x.2.2.1 x.2.2.2.1
noncomputable def Sm11 : Sm := ⟨ps11, rs11, false, q11⟩
theorem holds11 (hg : GamOK Try.prog G11) : Holds Try.prog 11 Sm11 := by
  have := h0_11 hg
  have e : (runF TT G11 an11 Try.f11 c11 ps11 rs11) = q11 := by
    funext n x
    exact F11_eq n x.1 x.2.1 x.2.2.1 x.2.2.2.1
  rw [e] at this
  exact this
theorem gam11 : GamOK Try.prog G11 := by
  intro f s h
  unfold G11 at h
  split at h
  · injection h with h; subst h; exact ⟨⟨Try.f21, c21, Try.func21, by kernel_rfl, by decide +kernel⟩, hh21⟩
  · injection h with h; subst h; exact ⟨⟨Try.f22, c22, Try.func22, by kernel_rfl, by decide +kernel⟩, hh22⟩
  · injection h with h; subst h; exact ⟨⟨Try.f23, c23, Try.func23, by kernel_rfl, by decide +kernel⟩, hh23⟩
  · injection h with h; subst h; exact ⟨⟨Try.f24, c24, Try.func24, by kernel_rfl, by decide +kernel⟩, hh24⟩
  · injection h with h; subst h; exact ⟨⟨Try.f25, c25, Try.func25, by kernel_rfl, by decide +kernel⟩, hh25⟩
  · injection h with h; subst h; exact ⟨⟨Try.f26, c26, Try.func26, by kernel_rfl, by decide +kernel⟩, hh26⟩
  · injection h with h; subst h; exact ⟨⟨Try.f27, c27, Try.func27, by kernel_rfl, by decide +kernel⟩, hh27⟩
  · injection h with h; subst h; exact ⟨⟨Try.f28, c28, Try.func28, by kernel_rfl, by decide +kernel⟩, hh28⟩
  · injection h with h; subst h; exact ⟨⟨Try.f29, c29, Try.func29, by kernel_rfl, by decide +kernel⟩, hh29⟩
  · injection h with h; subst h; exact ⟨⟨Try.f40, c40, Try.func40, by kernel_rfl, by decide +kernel⟩, hh40⟩
  · injection h with h; subst h; exact ⟨⟨Try.f41, c41, Try.func41, by kernel_rfl, by decide +kernel⟩, hh41⟩
  · cases h
theorem hh11 : Holds Try.prog 11 Sm11 := holds11 gam11
end Go.Proofs.Ythhopbicmaipgaa.Rx.S
namespace Go.Proofs.Ythhopbicmaipgaa.Rx.S
open Go Go.RowKit Go.Proofs
set_option maxRecDepth 100000
noncomputable def c42 : Code := (Try.f42.body.getD .skip)
def an42 : An := ⟨fun _ => ⟨[], []⟩, fun _ _ => none⟩
abbrev ps42 : List PK := [.val tFs true, .val tCr true, .val i64 false, .val .bool false]
abbrev rs42 : List RK := [.own tFs true, .val i64 false]
abbrev R42 := retsD rs42 × outsD ps42
noncomputable def G42 : Gam := fun f => match f with | 62 => some Sm62 | 63 => some Sm63 | 64 => some Sm64 | 68 => some Sm68 | _ => none
theorem h0_42 (hg : GamOK Try.prog G42) : Holds Try.prog 42 ⟨ps42, rs42, false, runF TT G42 an42 Try.f42 c42 ps42 rs42⟩ := holds_of tt_ok hg mixed Try.func42 (by kernel_rfl) (by rfl) (by decide +kernel)
noncomputable def at42 : Nat → Pt → List Nat → St → Option R42 := atF TT G42 an42 Try.f42 c42 _ _
noncomputable def st42_top (n : Nat) (a : List (Int × Int × Int × Int × Int × Int × Bool × ByteArray × List (ByteArray × Int))) (b : Int × Int × List Int) (c : Int) (d : Bool) : Option R42 :=
  (q62 n (a, ())).bind fun r0 => cond (!r0.fst.fst) (some (([], ((1 : Int), ())), ())) ((q63 n ((b.fst, b.snd.fst, b.snd.snd), ())).bind fun r1 => cond (!r1.fst.fst) (some (([], ((1 : Int), ())), ())) ((q64 n (a, c, ())).bind fun r2 => cond (!r2.fst.fst) (some (([], ((1 : Int), ())), ())) ((q68 n (a, ())).bind fun r3 => cond (decide ((0 : Int) ≤ c)) (cond (decide (c < (↑a.length : Int))) (cond (!decide ((a.getD c.toNat ((0 : Int), (0 : Int), (0 : Int), (0 : Int), (0 : Int), (0 : Int), false, ByteArray.empty, [])).fst = (1 : Int))) (some ((r3.fst.fst, ((4 : Int), ())), ())) (cond (!decide (b.fst = (0 : Int))) (cond (decide ((0 : Int) ≤ c)) (cond (decide (c < (↑a.length : Int))) (cond (!decide (b.fst = (a.getD c.toNat ((0 : Int), (0 : Int), (0 : Int), (0 : Int), (0 : Int), (0 : Int), false, ByteArray.empty, [])).snd.snd.fst)) (some ((r3.fst.fst, ((5 : Int), ())), ())) (cond (decide ((0 : Int) ≤ c)) (cond (decide (c < (↑(List.length r3.fst.fst) : Int))) (some ((List.set r3.fst.fst c.toNat ((List.getD r3.fst.fst c.toNat ((0 : Int), (0 : Int), (0 : Int), (0 : Int), (0 : Int), (0 : Int), false, ByteArray.empty, [])).fst, (List.getD r3.fst.fst c.toNat ((0 : Int), (0 : Int), (0 : Int), (0 : Int), (0 : Int), (0 : Int), false, ByteArray.empty, [])).snd.fst, (List.getD r3.fst.fst c.toNat ((0 : Int), (0 : Int), (0 : Int), (0 : Int), (0 : Int), (0 : Int), false, ByteArray.empty, [])).snd.snd.fst, (List.getD r3.fst.fst c.toNat ((0 : Int), (0 : Int), (0 : Int), (0 : Int), (0 : Int), (0 : Int), false, ByteArray.empty, [])).snd.snd.snd.fst, (List.getD r3.fst.fst c.toNat ((0 : Int), (0 : Int), (0 : Int), (0 : Int), (0 : Int), (0 : Int), false, ByteArray.empty, [])).snd.snd.snd.snd.fst, (List.getD r3.fst.fst c.toNat ((0 : Int), (0 : Int), (0 : Int), (0 : Int), (0 : Int), (0 : Int), false, ByteArray.empty, [])).snd.snd.snd.snd.snd.fst, d, (List.getD r3.fst.fst c.toNat ((0 : Int), (0 : Int), (0 : Int), (0 : Int), (0 : Int), (0 : Int), false, ByteArray.empty, [])).snd.snd.snd.snd.snd.snd.snd), ((0 : Int), ())), ())) (none)) (none))) (none)) (none)) (cond (decide ((0 : Int) ≤ c)) (cond (decide (c < (↑(List.length r3.fst.fst) : Int))) (some ((List.set r3.fst.fst c.toNat ((List.getD r3.fst.fst c.toNat ((0 : Int), (0 : Int), (0 : Int), (0 : Int), (0 : Int), (0 : Int), false, ByteArray.empty, [])).fst, (List.getD r3.fst.fst c.toNat ((0 : Int), (0 : Int), (0 : Int), (0 : Int), (0 : Int), (0 : Int), false, ByteArray.empty, [])).snd.fst, (List.getD r3.fst.fst c.toNat ((0 : Int), (0 : Int), (0 : Int), (0 : Int), (0 : Int), (0 : Int), false, ByteArray.empty, [])).snd.snd.fst, (List.getD r3.fst.fst c.toNat ((0 : Int), (0 : Int), (0 : Int), (0 : Int), (0 : Int), (0 : Int), false, ByteArray.empty, [])).snd.snd.snd.fst, (List.getD r3.fst.fst c.toNat ((0 : Int), (0 : Int), (0 : Int), (0 : Int), (0 : Int), (0 : Int), false, ByteArray.empty, [])).snd.snd.snd.snd.fst, (List.getD r3.fst.fst c.toNat ((0 : Int), (0 : Int), (0 : Int), (0 : Int), (0 : Int), (0 : Int), false, ByteArray.empty, [])).snd.snd.snd.snd.snd.fst, d, (List.getD r3.fst.fst c.toNat ((0 : Int), (0 : Int), (0 : Int), (0 : Int), (0 : Int), (0 : Int), false, ByteArray.empty, [])).snd.snd.snd.snd.snd.snd.snd), ((0 : Int), ())), ())) (none)) (none)))) (none)) (none))))
theorem e42_top (n : Nat) (a : List (Int × Int × Int × Int × Int × Int × Bool × ByteArray × List (ByteArray × Int))) (b : Int × Int × List Int) (c : Int) (d : Bool) : runF TT G42 an42 Try.f42 c42 ps42 rs42 n (a, b, c, d, ()) = st42_top n a b c d := by kernel_rfl
noncomputable def p42 (n : Nat) (a : List (Int × Int × Int × Int × Int × Int × Bool × ByteArray × List (ByteArray × Int))) (b : Int × Int × List Int) (c : Int) (d : Bool) : Option R42 := st42_top n a b c d
theorem F42_eq (n : Nat) (a : List (Int × Int × Int × Int × Int × Int × Bool × ByteArray × List (ByteArray × Int))) (b : Int × Int × List Int) (c : Int) (d : Bool) : runF TT G42 an42 Try.f42 c42 ps42 rs42 n (a, b, c, d, ()) = p42 n a b c d := by
  rw [e42_top]
  skip
  try rfl
noncomputable def q42 (n : Nat) (x : argsD ps42) : Option R42 := p42 n x.1 x.2.1 x.2.2.1 x.2.2.2.1
noncomputable def Sm42 : Sm := ⟨ps42, rs42, false, q42⟩
theorem holds42 (hg : GamOK Try.prog G42) : Holds Try.prog 42 Sm42 := by
  have := h0_42 hg
  have e : (runF TT G42 an42 Try.f42 c42 ps42 rs42) = q42 := by
    funext n x
    exact F42_eq n x.1 x.2.1 x.2.2.1 x.2.2.2.1
  rw [e] at this
  exact this
theorem gam42 : GamOK Try.prog G42 := by
  intro f s h
  unfold G42 at h
  split at h
  · injection h with h; subst h; exact ⟨⟨Try.f62, c62, Try.func62, by kernel_rfl, by decide +kernel⟩, hh62⟩
  · injection h with h; subst h; exact ⟨⟨Try.f63, c63, Try.func63, by kernel_rfl, by decide +kernel⟩, hh63⟩
  · injection h with h; subst h; exact ⟨⟨Try.f64, c64, Try.func64, by kernel_rfl, by decide +kernel⟩, hh64⟩
  · injection h with h; subst h; exact ⟨⟨Try.f68, c68, Try.func68, by kernel_rfl, by decide +kernel⟩, hh68⟩
  · cases h
theorem hh42 : Holds Try.prog 42 Sm42 := holds42 gam42
end Go.Proofs.Ythhopbicmaipgaa.Rx.S
namespace Go.Proofs.Ythhopbicmaipgaa.Rx.S
open Go Go.RowKit Go.Proofs
set_option maxRecDepth 100000
noncomputable def c43 : Code := (Try.f43.body.getD .skip)
def an43 : An := ⟨fun _ => ⟨[], []⟩, fun _ _ => none⟩
abbrev ps43 : List PK := [.val tFs true, .val tCr true, .val i64 false, .val .bool false]
abbrev rs43 : List RK := [.own tFs true, .val i64 false]
abbrev R43 := retsD rs43 × outsD ps43
noncomputable def G43 : Gam := fun f => match f with | 53 => some Sm53 | 56 => some Sm56 | _ => none
theorem h0_43 (hg : GamOK Try.prog G43) : Holds Try.prog 43 ⟨ps43, rs43, false, runF TT G43 an43 Try.f43 c43 ps43 rs43⟩ := holds_of tt_ok hg mixed Try.func43 (by kernel_rfl) (by rfl) (by decide +kernel)
noncomputable def at43 : Nat → Pt → List Nat → St → Option R43 := atF TT G43 an43 Try.f43 c43 _ _
noncomputable def st43_top (n : Nat) (a : List (Int × Int × Int × Int × Int × Int × Bool × ByteArray × List (ByteArray × Int))) (b : Int × Int × List Int) (c : Int) (d : Bool) : Option R43 :=
  (q53 n (a, (b.fst, b.snd.fst, b.snd.snd), [c], ())).bind fun r0 => cond (!r0.fst.fst) (some (([], ((1 : Int), ())), ())) ((q56 n (a, ())).bind fun r1 => cond (decide ((0 : Int) ≤ c)) (cond (decide (c < (↑a.length : Int))) (cond (!decide ((a.getD c.toNat ((0 : Int), (0 : Int), (0 : Int), (0 : Int), (0 : Int), (0 : Int), false, ByteArray.empty, [])).fst = (1 : Int))) (some ((r1.fst.fst, ((4 : Int), ())), ())) (cond (!decide (b.fst = (0 : Int))) (cond (!decide (b.fst = (a.getD c.toNat ((0 : Int), (0 : Int), (0 : Int), (0 : Int), (0 : Int), (0 : Int), false, ByteArray.empty, [])).snd.snd.fst)) (some ((r1.fst.fst, ((5 : Int), ())), ())) (cond (decide ((0 : Int) ≤ c)) (cond (decide (c < (↑(List.length r1.fst.fst) : Int))) (some ((List.set r1.fst.fst c.toNat ((List.getD r1.fst.fst c.toNat ((0 : Int), (0 : Int), (0 : Int), (0 : Int), (0 : Int), (0 : Int), false, ByteArray.empty, [])).fst, (List.getD r1.fst.fst c.toNat ((0 : Int), (0 : Int), (0 : Int), (0 : Int), (0 : Int), (0 : Int), false, ByteArray.empty, [])).snd.fst, (List.getD r1.fst.fst c.toNat ((0 : Int), (0 : Int), (0 : Int), (0 : Int), (0 : Int), (0 : Int), false, ByteArray.empty, [])).snd.snd.fst, (List.getD r1.fst.fst c.toNat ((0 : Int), (0 : Int), (0 : Int), (0 : Int), (0 : Int), (0 : Int), false, ByteArray.empty, [])).snd.snd.snd.fst, (List.getD r1.fst.fst c.toNat ((0 : Int), (0 : Int), (0 : Int), (0 : Int), (0 : Int), (0 : Int), false, ByteArray.empty, [])).snd.snd.snd.snd.fst, (List.getD r1.fst.fst c.toNat ((0 : Int), (0 : Int), (0 : Int), (0 : Int), (0 : Int), (0 : Int), false, ByteArray.empty, [])).snd.snd.snd.snd.snd.fst, d, (List.getD r1.fst.fst c.toNat ((0 : Int), (0 : Int), (0 : Int), (0 : Int), (0 : Int), (0 : Int), false, ByteArray.empty, [])).snd.snd.snd.snd.snd.snd.snd), ((0 : Int), ())), ())) (none)) (none))) (cond (decide ((0 : Int) ≤ c)) (cond (decide (c < (↑(List.length r1.fst.fst) : Int))) (some ((List.set r1.fst.fst c.toNat ((List.getD r1.fst.fst c.toNat ((0 : Int), (0 : Int), (0 : Int), (0 : Int), (0 : Int), (0 : Int), false, ByteArray.empty, [])).fst, (List.getD r1.fst.fst c.toNat ((0 : Int), (0 : Int), (0 : Int), (0 : Int), (0 : Int), (0 : Int), false, ByteArray.empty, [])).snd.fst, (List.getD r1.fst.fst c.toNat ((0 : Int), (0 : Int), (0 : Int), (0 : Int), (0 : Int), (0 : Int), false, ByteArray.empty, [])).snd.snd.fst, (List.getD r1.fst.fst c.toNat ((0 : Int), (0 : Int), (0 : Int), (0 : Int), (0 : Int), (0 : Int), false, ByteArray.empty, [])).snd.snd.snd.fst, (List.getD r1.fst.fst c.toNat ((0 : Int), (0 : Int), (0 : Int), (0 : Int), (0 : Int), (0 : Int), false, ByteArray.empty, [])).snd.snd.snd.snd.fst, (List.getD r1.fst.fst c.toNat ((0 : Int), (0 : Int), (0 : Int), (0 : Int), (0 : Int), (0 : Int), false, ByteArray.empty, [])).snd.snd.snd.snd.snd.fst, d, (List.getD r1.fst.fst c.toNat ((0 : Int), (0 : Int), (0 : Int), (0 : Int), (0 : Int), (0 : Int), false, ByteArray.empty, [])).snd.snd.snd.snd.snd.snd.snd), ((0 : Int), ())), ())) (none)) (none)))) (none)) (none))
theorem e43_top (n : Nat) (a : List (Int × Int × Int × Int × Int × Int × Bool × ByteArray × List (ByteArray × Int))) (b : Int × Int × List Int) (c : Int) (d : Bool) : runF TT G43 an43 Try.f43 c43 ps43 rs43 n (a, b, c, d, ()) = st43_top n a b c d := by kernel_rfl
noncomputable def p43 (n : Nat) (a : List (Int × Int × Int × Int × Int × Int × Bool × ByteArray × List (ByteArray × Int))) (b : Int × Int × List Int) (c : Int) (d : Bool) : Option R43 := st43_top n a b c d
theorem F43_eq (n : Nat) (a : List (Int × Int × Int × Int × Int × Int × Bool × ByteArray × List (ByteArray × Int))) (b : Int × Int × List Int) (c : Int) (d : Bool) : runF TT G43 an43 Try.f43 c43 ps43 rs43 n (a, b, c, d, ()) = p43 n a b c d := by
  rw [e43_top]
  skip
  try rfl
noncomputable def q43 (n : Nat) (x : argsD ps43) : Option R43 := p43 n x.1 x.2.1 x.2.2.1 x.2.2.2.1
noncomputable def Sm43 : Sm := ⟨ps43, rs43, false, q43⟩
theorem holds43 (hg : GamOK Try.prog G43) : Holds Try.prog 43 Sm43 := by
  have := h0_43 hg
  have e : (runF TT G43 an43 Try.f43 c43 ps43 rs43) = q43 := by
    funext n x
    exact F43_eq n x.1 x.2.1 x.2.2.1 x.2.2.2.1
  rw [e] at this
  exact this
theorem gam43 : GamOK Try.prog G43 := by
  intro f s h
  unfold G43 at h
  split at h
  · injection h with h; subst h; exact ⟨⟨Try.f53, c53, Try.func53, by kernel_rfl, by decide +kernel⟩, hh53⟩
  · injection h with h; subst h; exact ⟨⟨Try.f56, c56, Try.func56, by kernel_rfl, by decide +kernel⟩, hh56⟩
  · cases h
theorem hh43 : Holds Try.prog 43 Sm43 := holds43 gam43
end Go.Proofs.Ythhopbicmaipgaa.Rx.S
namespace Go.Proofs.Ythhopbicmaipgaa.Rx.S
open Go Go.RowKit Go.Proofs
set_option maxRecDepth 100000
noncomputable def c12 : Code := (Try.f12.body.getD .skip)
def an12 : An := ⟨fun _ => ⟨[], []⟩, fun _ _ => none⟩
abbrev ps12 : List PK := [.val tLf true, .val tCr true, .val i64 false, .val .bool false]
abbrev rs12 : List RK := [.val .bool false]
abbrev R12 := retsD rs12 × outsD ps12
noncomputable def G12 : Gam := fun f => match f with | 21 => some Sm21 | 22 => some Sm22 | 23 => some Sm23 | 24 => some Sm24 | 25 => some Sm25 | 26 => some Sm26 | 27 => some Sm27 | 28 => some Sm28 | 29 => some Sm29 | 42 => some Sm42 | 43 => some Sm43 | _ => none
theorem h0_12 (hg : GamOK Try.prog G12) : Holds Try.prog 12 ⟨ps12, rs12, false, runF TT G12 an12 Try.f12 c12 ps12 rs12⟩ := holds_of tt_ok hg mixed Try.func12 (by kernel_rfl) (by rfl) (by decide +kernel)
noncomputable def at12 : Nat → Pt → List Nat → St → Option R12 := atF TT G12 an12 Try.f12 c12 _ _
noncomputable def st12_top (n : Nat) (a : List (Int × Int × Int × Int × Int × Int × Bool × ByteArray × List (ByteArray × Int))) (b : Int × Int × List Int) (c : Int) (d : Bool) : Option R12 :=
  (q21 n (a, (1048576 : Int), ())).bind fun r0 => cond (decide (r0.fst.fst < (0 : Int))) (some ((true, ()), ())) ((q22 n ((b.fst, b.snd.fst, b.snd.snd), r0.fst.fst, ())).bind fun r1 => cond (decide (r1.fst.fst < (0 : Int))) (some ((true, ()), ())) ((q23 n (a, ())).bind fun r2 => (q24 n ((b.fst, b.snd.fst, b.snd.snd), ())).bind fun r3 => (q42 n (r2.fst.fst, (r3.fst.fst.fst, r3.fst.fst.snd.fst, r3.fst.fst.snd.snd), c, d, ())).bind fun r4 => (q23 n (a, ())).bind fun r5 => (q24 n ((b.fst, b.snd.fst, b.snd.snd), ())).bind fun r6 => (q43 n (r5.fst.fst, (r6.fst.fst.fst, r6.fst.fst.snd.fst, r6.fst.fst.snd.snd), c, d, ())).bind fun r7 => (q25 n (r7.fst.fst, r4.fst.fst, ())).bind fun r8 => cond (!r8.fst.fst) (some ((false, ()), ())) (cond (!decide (r7.fst.snd.fst = r4.fst.snd.fst)) (some ((false, ()), ())) ((q23 n (a, ())).bind fun r9 => (q25 n (r5.fst.fst, r9.fst.fst, ())).bind fun r10 => cond (!r10.fst.fst) (some ((false, ()), ())) ((q24 n ((b.fst, b.snd.fst, b.snd.snd), ())).bind fun r11 => (q26 n ((r6.fst.fst.fst, r6.fst.fst.snd.fst, r6.fst.fst.snd.snd), (r11.fst.fst.fst, r11.fst.fst.snd.fst, r11.fst.fst.snd.snd), ())).bind fun r12 => cond (!r12.fst.fst) (some ((false, ()), ())) ((q27 n (r5.fst.fst, (1 : Int), ())).bind fun r13 => (q28 n ((r6.fst.fst.fst, r6.fst.fst.snd.fst, r6.fst.fst.snd.snd), r13.fst.fst, ())).bind fun r14 => cond (decide (r14.fst.fst < (0 : Int))) (some ((false, ()), ())) ((q25 n (r7.fst.fst, r4.fst.fst, ())).bind fun r15 => cond (!r15.fst.fst) (some ((false, ()), ())) (cond (!decide (r7.fst.snd.fst = r4.fst.snd.fst)) (some ((false, ()), ())) ((q27 n (r7.fst.fst, (1 : Int), ())).bind fun r16 => (q29 n (r16.snd.fst, (1 : Int), ())).bind fun r17 => cond (decide (r17.fst.fst < (0 : Int))) (some ((false, ()), ())) (cond (!decide (r17.fst.fst = r16.fst.fst)) (some ((false, ()), ())) ((q23 n (a, ())).bind fun r18 => (q24 n ((b.fst, b.snd.fst, b.snd.snd), ())).bind fun r19 => (q43 n (r18.fst.fst, (r19.fst.fst.fst, r19.fst.fst.snd.fst, r19.fst.fst.snd.snd), c, d, ())).bind fun r20 => (q25 n (r20.fst.fst, r4.fst.fst, ())).bind fun r21 => cond (!r21.fst.fst) (some ((false, ()), ())) (cond (!decide (r20.fst.snd.fst = r4.fst.snd.fst)) (some ((false, ()), ())) ((q29 n (r16.snd.fst, (1 : Int), ())).bind fun r22 => cond (decide (r22.fst.fst < (0 : Int))) (some ((false, ()), ())) (cond (!decide (r22.fst.fst = r16.fst.fst)) (some ((false, ()), ())) (some ((true, ()), ()))))))))))))))))
theorem e12_top (n : Nat) (a : List (Int × Int × Int × Int × Int × Int × Bool × ByteArray × List (ByteArray × Int))) (b : Int × Int × List Int) (c : Int) (d : Bool) : runF TT G12 an12 Try.f12 c12 ps12 rs12 n (a, b, c, d, ()) = st12_top n a b c d := by kernel_rfl
noncomputable def p12 (n : Nat) (a : List (Int × Int × Int × Int × Int × Int × Bool × ByteArray × List (ByteArray × Int))) (b : Int × Int × List Int) (c : Int) (d : Bool) : Option R12 := st12_top n a b c d
theorem F12_eq (n : Nat) (a : List (Int × Int × Int × Int × Int × Int × Bool × ByteArray × List (ByteArray × Int))) (b : Int × Int × List Int) (c : Int) (d : Bool) : runF TT G12 an12 Try.f12 c12 ps12 rs12 n (a, b, c, d, ()) = p12 n a b c d := by
  rw [e12_top]
  skip
  try rfl
noncomputable def q12 (n : Nat) (x : argsD ps12) : Option R12 := p12 n x.1 x.2.1 x.2.2.1 x.2.2.2.1
noncomputable def Sm12 : Sm := ⟨ps12, rs12, false, q12⟩
theorem holds12 (hg : GamOK Try.prog G12) : Holds Try.prog 12 Sm12 := by
  have := h0_12 hg
  have e : (runF TT G12 an12 Try.f12 c12 ps12 rs12) = q12 := by
    funext n x
    exact F12_eq n x.1 x.2.1 x.2.2.1 x.2.2.2.1
  rw [e] at this
  exact this
theorem gam12 : GamOK Try.prog G12 := by
  intro f s h
  unfold G12 at h
  split at h
  · injection h with h; subst h; exact ⟨⟨Try.f21, c21, Try.func21, by kernel_rfl, by decide +kernel⟩, hh21⟩
  · injection h with h; subst h; exact ⟨⟨Try.f22, c22, Try.func22, by kernel_rfl, by decide +kernel⟩, hh22⟩
  · injection h with h; subst h; exact ⟨⟨Try.f23, c23, Try.func23, by kernel_rfl, by decide +kernel⟩, hh23⟩
  · injection h with h; subst h; exact ⟨⟨Try.f24, c24, Try.func24, by kernel_rfl, by decide +kernel⟩, hh24⟩
  · injection h with h; subst h; exact ⟨⟨Try.f25, c25, Try.func25, by kernel_rfl, by decide +kernel⟩, hh25⟩
  · injection h with h; subst h; exact ⟨⟨Try.f26, c26, Try.func26, by kernel_rfl, by decide +kernel⟩, hh26⟩
  · injection h with h; subst h; exact ⟨⟨Try.f27, c27, Try.func27, by kernel_rfl, by decide +kernel⟩, hh27⟩
  · injection h with h; subst h; exact ⟨⟨Try.f28, c28, Try.func28, by kernel_rfl, by decide +kernel⟩, hh28⟩
  · injection h with h; subst h; exact ⟨⟨Try.f29, c29, Try.func29, by kernel_rfl, by decide +kernel⟩, hh29⟩
  · injection h with h; subst h; exact ⟨⟨Try.f42, c42, Try.func42, by kernel_rfl, by decide +kernel⟩, hh42⟩
  · injection h with h; subst h; exact ⟨⟨Try.f43, c43, Try.func43, by kernel_rfl, by decide +kernel⟩, hh43⟩
  · cases h
theorem hh12 : Holds Try.prog 12 Sm12 := holds12 gam12
end Go.Proofs.Ythhopbicmaipgaa.Rx.S
namespace Go.Proofs.Ythhopbicmaipgaa.Rx.S
open Go Go.RowKit Go.Proofs
set_option maxRecDepth 100000
noncomputable def c112 : Code := (Try.f112.body.getD .skip)
def an112 : An := ⟨fun _ => ⟨[], []⟩, fun _ _ => none⟩
abbrev ps112 : List PK := [.own tFs true, .val i64 false]
abbrev rs112 : List RK := [.own tFs true]
abbrev R112 := retsD rs112 × outsD ps112
noncomputable def G112 : Gam := fun _ => none
theorem h0_112 (hg : GamOK Try.prog G112) : Holds Try.prog 112 ⟨ps112, rs112, false, runF TT G112 an112 Try.f112 c112 ps112 rs112⟩ := holds_of tt_ok hg mixed Try.func112 (by kernel_rfl) (by rfl) (by decide +kernel)
noncomputable def at112 : Nat → Pt → List Nat → St → Option R112 := atF TT G112 an112 Try.f112 c112 _ _
noncomputable def st112_top (n : Nat) (a : List (Int × Int × Int × Int × Int × Int × Bool × ByteArray × List (ByteArray × Int))) (b : Int) : Option R112 :=
  cond (decide ((0 : Int) < b)) (cond (decide ((0 : Int) ≤ b)) (cond (decide (b < (↑a.length : Int))) (cond (decide ((a.getD b.toNat ((0 : Int), (0 : Int), (0 : Int), (0 : Int), (0 : Int), (0 : Int), false, ByteArray.empty, [])).snd.snd.snd.snd.fst = (0 : Int))) (cond (decide ((0 : Int) ≤ b)) (cond (decide (b < (↑a.length : Int))) (cond (decide ((a.getD b.toNat ((0 : Int), (0 : Int), (0 : Int), (0 : Int), (0 : Int), (0 : Int), false, ByteArray.empty, [])).snd.snd.snd.snd.snd.fst = (0 : Int))) (cond (decide ((0 : Int) ≤ b)) (cond (decide (b < (↑a.length : Int))) (some ((a.set b.toNat ((0 : Int), (0 : Int), (0 : Int), (0 : Int), (0 : Int), (0 : Int), false, ByteArray.empty, []), ()), ())) (none)) (none)) (some ((a, ()), ()))) (none)) (none)) (some ((a, ()), ()))) (none)) (none)) (some ((a, ()), ()))
theorem e112_top (n : Nat) (a : List (Int × Int × Int × Int × Int × Int × Bool × ByteArray × List (ByteArray × Int))) (b : Int) : runF TT G112 an112 Try.f112 c112 ps112 rs112 n (a, b, ()) = st112_top n a b := by kernel_rfl
noncomputable def p112 (n : Nat) (a : List (Int × Int × Int × Int × Int × Int × Bool × ByteArray × List (ByteArray × Int))) (b : Int) : Option R112 := st112_top n a b
theorem F112_eq (n : Nat) (a : List (Int × Int × Int × Int × Int × Int × Bool × ByteArray × List (ByteArray × Int))) (b : Int) : runF TT G112 an112 Try.f112 c112 ps112 rs112 n (a, b, ()) = p112 n a b := by
  rw [e112_top]
  skip
  try rfl
noncomputable def q112 (n : Nat) (x : argsD ps112) : Option R112 := p112 n x.1 x.2.1
noncomputable def Sm112 : Sm := ⟨ps112, rs112, false, q112⟩
theorem holds112 (hg : GamOK Try.prog G112) : Holds Try.prog 112 Sm112 := by
  have := h0_112 hg
  have e : (runF TT G112 an112 Try.f112 c112 ps112 rs112) = q112 := by
    funext n x
    exact F112_eq n x.1 x.2.1
  rw [e] at this
  exact this
theorem gam112 : GamOK Try.prog G112 := fun _ _ h => by cases h
theorem hh112 : Holds Try.prog 112 Sm112 := holds112 gam112
end Go.Proofs.Ythhopbicmaipgaa.Rx.S
namespace Go.Proofs.Ythhopbicmaipgaa.Rx.S
open Go Go.RowKit Go.Proofs
set_option maxRecDepth 100000
noncomputable def c83 : Code := (Try.f83.body.getD .skip)
def an83 : An := ⟨fun _ => ⟨[], []⟩, fun _ _ => none⟩
abbrev ps83 : List PK := [.own tFs true, .val i64 false, .val .bool false]
abbrev rs83 : List RK := [.own tFs true, .val i64 false]
abbrev R83 := retsD rs83 × outsD ps83
noncomputable def G83 : Gam := fun f => match f with | 112 => some Sm112 | _ => none
theorem h0_83 (hg : GamOK Try.prog G83) : Holds Try.prog 83 ⟨ps83, rs83, false, runF TT G83 an83 Try.f83 c83 ps83 rs83⟩ := holds_of tt_ok hg mixed Try.func83 (by kernel_rfl) (by rfl) (by decide +kernel)
noncomputable def at83 : Nat → Pt → List Nat → St → Option R83 := atF TT G83 an83 Try.f83 c83 _ _
noncomputable def st83_top (n : Nat) (a : List (Int × Int × Int × Int × Int × Int × Bool × ByteArray × List (ByteArray × Int))) (b : Int) (c : Bool) : Option R83 :=
  cond (decide ((0 : Int) ≤ b)) (cond (decide (b < (↑a.length : Int))) (cond (c) (cond (decide ((99 : Int) ≤ (a.getD b.toNat ((0 : Int), (0 : Int), (0 : Int), (0 : Int), (0 : Int), (0 : Int), false, ByteArray.empty, [])).snd.snd.snd.snd.snd.fst)) (some ((a, ((6 : Int), ())), ())) (cond (!c) (cond (decide ((a.getD b.toNat ((0 : Int), (0 : Int), (0 : Int), (0 : Int), (0 : Int), (0 : Int), false, ByteArray.empty, [])).snd.snd.snd.snd.snd.fst = (0 : Int))) (some ((a, ((6 : Int), ())), ())) (cond (c) (cond (decide ((0 : Int) ≤ b)) (cond (decide (b < (↑a.length : Int))) (some ((a.set b.toNat ((a.getD b.toNat ((0 : Int), (0 : Int), (0 : Int), (0 : Int), (0 : Int), (0 : Int), false, ByteArray.empty, [])).fst, (a.getD b.toNat ((0 : Int), (0 : Int), (0 : Int), (0 : Int), (0 : Int), (0 : Int), false, ByteArray.empty, [])).snd.fst, (a.getD b.toNat ((0 : Int), (0 : Int), (0 : Int), (0 : Int), (0 : Int), (0 : Int), false, ByteArray.empty, [])).snd.snd.fst, (a.getD b.toNat ((0 : Int), (0 : Int), (0 : Int), (0 : Int), (0 : Int), (0 : Int), false, ByteArray.empty, [])).snd.snd.snd.fst, (a.getD b.toNat ((0 : Int), (0 : Int), (0 : Int), (0 : Int), (0 : Int), (0 : Int), false, ByteArray.empty, [])).snd.snd.snd.snd.fst, Go.IntKind.i64.wrap ((a.getD b.toNat ((0 : Int), (0 : Int), (0 : Int), (0 : Int), (0 : Int), (0 : Int), false, ByteArray.empty, [])).snd.snd.snd.snd.snd.fst + (1 : Int)), (a.getD b.toNat ((0 : Int), (0 : Int), (0 : Int), (0 : Int), (0 : Int), (0 : Int), false, ByteArray.empty, [])).snd.snd.snd.snd.snd.snd), ((0 : Int), ())), ())) (none)) (none)) (cond (decide ((0 : Int) ≤ b)) (cond (decide (b < (↑a.length : Int))) ((q112 n (a.set b.toNat ((a.getD b.toNat ((0 : Int), (0 : Int), (0 : Int), (0 : Int), (0 : Int), (0 : Int), false, ByteArray.empty, [])).fst, (a.getD b.toNat ((0 : Int), (0 : Int), (0 : Int), (0 : Int), (0 : Int), (0 : Int), false, ByteArray.empty, [])).snd.fst, (a.getD b.toNat ((0 : Int), (0 : Int), (0 : Int), (0 : Int), (0 : Int), (0 : Int), false, ByteArray.empty, [])).snd.snd.fst, (a.getD b.toNat ((0 : Int), (0 : Int), (0 : Int), (0 : Int), (0 : Int), (0 : Int), false, ByteArray.empty, [])).snd.snd.snd.fst, (a.getD b.toNat ((0 : Int), (0 : Int), (0 : Int), (0 : Int), (0 : Int), (0 : Int), false, ByteArray.empty, [])).snd.snd.snd.snd.fst, Go.IntKind.i64.wrap ((a.getD b.toNat ((0 : Int), (0 : Int), (0 : Int), (0 : Int), (0 : Int), (0 : Int), false, ByteArray.empty, [])).snd.snd.snd.snd.snd.fst - (1 : Int)), (a.getD b.toNat ((0 : Int), (0 : Int), (0 : Int), (0 : Int), (0 : Int), (0 : Int), false, ByteArray.empty, [])).snd.snd.snd.snd.snd.snd), b, ())).bind fun r0 => some ((r0.fst.fst, ((0 : Int), ())), ())) (none)) (none)))) (cond (c) (cond (decide ((0 : Int) ≤ b)) (cond (decide (b < (↑a.length : Int))) (some ((a.set b.toNat ((a.getD b.toNat ((0 : Int), (0 : Int), (0 : Int), (0 : Int), (0 : Int), (0 : Int), false, ByteArray.empty, [])).fst, (a.getD b.toNat ((0 : Int), (0 : Int), (0 : Int), (0 : Int), (0 : Int), (0 : Int), false, ByteArray.empty, [])).snd.fst, (a.getD b.toNat ((0 : Int), (0 : Int), (0 : Int), (0 : Int), (0 : Int), (0 : Int), false, ByteArray.empty, [])).snd.snd.fst, (a.getD b.toNat ((0 : Int), (0 : Int), (0 : Int), (0 : Int), (0 : Int), (0 : Int), false, ByteArray.empty, [])).snd.snd.snd.fst, (a.getD b.toNat ((0 : Int), (0 : Int), (0 : Int), (0 : Int), (0 : Int), (0 : Int), false, ByteArray.empty, [])).snd.snd.snd.snd.fst, Go.IntKind.i64.wrap ((a.getD b.toNat ((0 : Int), (0 : Int), (0 : Int), (0 : Int), (0 : Int), (0 : Int), false, ByteArray.empty, [])).snd.snd.snd.snd.snd.fst + (1 : Int)), (a.getD b.toNat ((0 : Int), (0 : Int), (0 : Int), (0 : Int), (0 : Int), (0 : Int), false, ByteArray.empty, [])).snd.snd.snd.snd.snd.snd), ((0 : Int), ())), ())) (none)) (none)) (cond (decide ((0 : Int) ≤ b)) (cond (decide (b < (↑a.length : Int))) ((q112 n (a.set b.toNat ((a.getD b.toNat ((0 : Int), (0 : Int), (0 : Int), (0 : Int), (0 : Int), (0 : Int), false, ByteArray.empty, [])).fst, (a.getD b.toNat ((0 : Int), (0 : Int), (0 : Int), (0 : Int), (0 : Int), (0 : Int), false, ByteArray.empty, [])).snd.fst, (a.getD b.toNat ((0 : Int), (0 : Int), (0 : Int), (0 : Int), (0 : Int), (0 : Int), false, ByteArray.empty, [])).snd.snd.fst, (a.getD b.toNat ((0 : Int), (0 : Int), (0 : Int), (0 : Int), (0 : Int), (0 : Int), false, ByteArray.empty, [])).snd.snd.snd.fst, (a.getD b.toNat ((0 : Int), (0 : Int), (0 : Int), (0 : Int), (0 : Int), (0 : Int), false, ByteArray.empty, [])).snd.snd.snd.snd.fst, Go.IntKind.i64.wrap ((a.getD b.toNat ((0 : Int), (0 : Int), (0 : Int), (0 : Int), (0 : Int), (0 : Int), false, ByteArray.empty, [])).snd.snd.snd.snd.snd.fst - (1 : Int)), (a.getD b.toNat ((0 : Int), (0 : Int), (0 : Int), (0 : Int), (0 : Int), (0 : Int), false, ByteArray.empty, [])).snd.snd.snd.snd.snd.snd), b, ())).bind fun r1 => some ((r1.fst.fst, ((0 : Int), ())), ())) (none)) (none))))) (cond (!c) (cond (decide ((a.getD b.toNat ((0 : Int), (0 : Int), (0 : Int), (0 : Int), (0 : Int), (0 : Int), false, ByteArray.empty, [])).snd.snd.snd.snd.snd.fst = (0 : Int))) (some ((a, ((6 : Int), ())), ())) (cond (c) (cond (decide ((0 : Int) ≤ b)) (cond (decide (b < (↑a.length : Int))) (some ((a.set b.toNat ((a.getD b.toNat ((0 : Int), (0 : Int), (0 : Int), (0 : Int), (0 : Int), (0 : Int), false, ByteArray.empty, [])).fst, (a.getD b.toNat ((0 : Int), (0 : Int), (0 : Int), (0 : Int), (0 : Int), (0 : Int), false, ByteArray.empty, [])).snd.fst, (a.getD b.toNat ((0 : Int), (0 : Int), (0 : Int), (0 : Int), (0 : Int), (0 : Int), false, ByteArray.empty, [])).snd.snd.fst, (a.getD b.toNat ((0 : Int), (0 : Int), (0 : Int), (0 : Int), (0 : Int), (0 : Int), false, ByteArray.empty, [])).snd.snd.snd.fst, (a.getD b.toNat ((0 : Int), (0 : Int), (0 : Int), (0 : Int), (0 : Int), (0 : Int), false, ByteArray.empty, [])).snd.snd.snd.snd.fst, Go.IntKind.i64.wrap ((a.getD b.toNat ((0 : Int), (0 : Int), (0 : Int), (0 : Int), (0 : Int), (0 : Int), false, ByteArray.empty, [])).snd.snd.snd.snd.snd.fst + (1 : Int)), (a.getD b.toNat ((0 : Int), (0 : Int), (0 : Int), (0 : Int), (0 : Int), (0 : Int), false, ByteArray.empty, [])).snd.snd.snd.snd.snd.snd), ((0 : Int), ())), ())) (none)) (none)) (cond (decide ((0 : Int) ≤ b)) (cond (decide (b < (↑a.length : Int))) ((q112 n (a.set b.toNat ((a.getD b.toNat ((0 : Int), (0 : Int), (0 : Int), (0 : Int), (0 : Int), (0 : Int), false, ByteArray.empty, [])).fst, (a.getD b.toNat ((0 : Int), (0 : Int), (0 : Int), (0 : Int), (0 : Int), (0 : Int), false, ByteArray.empty, [])).snd.fst, (a.getD b.toNat ((0 : Int), (0 : Int), (0 : Int), (0 : Int), (0 : Int), (0 : Int), false, ByteArray.empty, [])).snd.snd.fst, (a.getD b.toNat ((0 : Int), (0 : Int), (0 : Int), (0 : Int), (0 : Int), (0 : Int), false, ByteArray.empty, [])).snd.snd.snd.fst, (a.getD b.toNat ((0 : Int), (0 : Int), (0 : Int), (0 : Int), (0 : Int), (0 : Int), false, ByteArray.empty, [])).snd.snd.snd.snd.fst, Go.IntKind.i64.wrap ((a.getD b.toNat ((0 : Int), (0 : Int), (0 : Int), (0 : Int), (0 : Int), (0 : Int), false, ByteArray.empty, [])).snd.snd.snd.snd.snd.fst - (1 : Int)), (a.getD b.toNat ((0 : Int), (0 : Int), (0 : Int), (0 : Int), (0 : Int), (0 : Int), false, ByteArray.empty, [])).snd.snd.snd.snd.snd.snd), b, ())).bind fun r2 => some ((r2.fst.fst, ((0 : Int), ())), ())) (none)) (none)))) (cond (c) (cond (decide ((0 : Int) ≤ b)) (cond (decide (b < (↑a.length : Int))) (some ((a.set b.toNat ((a.getD b.toNat ((0 : Int), (0 : Int), (0 : Int), (0 : Int), (0 : Int), (0 : Int), false, ByteArray.empty, [])).fst, (a.getD b.toNat ((0 : Int), (0 : Int), (0 : Int), (0 : Int), (0 : Int), (0 : Int), false, ByteArray.empty, [])).snd.fst, (a.getD b.toNat ((0 : Int), (0 : Int), (0 : Int), (0 : Int), (0 : Int), (0 : Int), false, ByteArray.empty, [])).snd.snd.fst, (a.getD b.toNat ((0 : Int), (0 : Int), (0 : Int), (0 : Int), (0 : Int), (0 : Int), false, ByteArray.empty, [])).snd.snd.snd.fst, (a.getD b.toNat ((0 : Int), (0 : Int), (0 : Int), (0 : Int), (0 : Int), (0 : Int), false, ByteArray.empty, [])).snd.snd.snd.snd.fst, Go.IntKind.i64.wrap ((a.getD b.toNat ((0 : Int), (0 : Int), (0 : Int), (0 : Int), (0 : Int), (0 : Int), false, ByteArray.empty, [])).snd.snd.snd.snd.snd.fst + (1 : Int)), (a.getD b.toNat ((0 : Int), (0 : Int), (0 : Int), (0 : Int), (0 : Int), (0 : Int), false, ByteArray.empty, [])).snd.snd.snd.snd.snd.snd), ((0 : Int), ())), ())) (none)) (none)) (cond (decide ((0 : Int) ≤ b)) (cond (decide (b < (↑a.length : Int))) ((q112 n (a.set b.toNat ((a.getD b.toNat ((0 : Int), (0 : Int), (0 : Int), (0 : Int), (0 : Int), (0 : Int), false, ByteArray.empty, [])).fst, (a.getD b.toNat ((0 : Int), (0 : Int), (0 : Int), (0 : Int), (0 : Int), (0 : Int), false, ByteArray.empty, [])).snd.fst, (a.getD b.toNat ((0 : Int), (0 : Int), (0 : Int), (0 : Int), (0 : Int), (0 : Int), false, ByteArray.empty, [])).snd.snd.fst, (a.getD b.toNat ((0 : Int), (0 : Int), (0 : Int), (0 : Int), (0 : Int), (0 : Int), false, ByteArray.empty, [])).snd.snd.snd.fst, (a.getD b.toNat ((0 : Int), (0 : Int), (0 : Int), (0 : Int), (0 : Int), (0 : Int), false, ByteArray.empty, [])).snd.snd.snd.snd.fst, Go.IntKind.i64.wrap ((a.getD b.toNat ((0 : Int), (0 : Int), (0 : Int), (0 : Int), (0 : Int), (0 : Int), false, ByteArray.empty, [])).snd.snd.snd.snd.snd.fst - (1 : Int)), (a.getD b.toNat ((0 : Int), (0 : Int), (0 : Int), (0 : Int), (0 : Int), (0 : Int), false, ByteArray.empty, [])).snd.snd.snd.snd.snd.snd), b, ())).bind fun r3 => some ((r3.fst.fst, ((0 : Int), ())), ())) (none)) (none))))) (none)) (none)
theorem e83_top (n : Nat) (a : List (Int × Int × Int × Int × Int × Int × Bool × ByteArray × List (ByteArray × Int))) (b : Int) (c : Bool) : runF TT G83 an83 Try.f83 c83 ps83 rs83 n (a, b, c, ()) = st83_top n a b c := by kernel_rfl
noncomputable def p83 (n : Nat) (a : List (Int × Int × Int × Int × Int × Int × Bool × ByteArray × List (ByteArray × Int))) (b : Int) (c : Bool) : Option R83 := st83_top n a b c
theorem F83_eq (n : Nat) (a : List (Int × Int × Int × Int × Int × Int × Bool × ByteArray × List (ByteArray × Int))) (b : Int) (c : Bool) : runF TT G83 an83 Try.f83 c83 ps83 rs83 n (a, b, c, ()) = p83 n a b c := by
  rw [e83_top]
  skip
  try rfl
noncomputable def q83 (n : Nat) (x : argsD ps83) : Option R83 := p83 n x.1 x.2.1 x.2.2.1
noncomputable def Sm83 : Sm := ⟨ps83, rs83, false, q83⟩
theorem holds83 (hg : GamOK Try.prog G83) : Holds Try.prog 83 Sm83 := by
  have := h0_83 hg
  have e : (runF TT G83 an83 Try.f83 c83 ps83 rs83) = q83 := by
    funext n x
    exact F83_eq n x.1 x.2.1 x.2.2.1
  rw [e] at this
  exact this
theorem gam83 : GamOK Try.prog G83 := by
  intro f s h
  unfold G83 at h
  split at h
  · injection h with h; subst h; exact ⟨⟨Try.f112, c112, Try.func112, by kernel_rfl, by decide +kernel⟩, hh112⟩
  · cases h
theorem hh83 : Holds Try.prog 83 Sm83 := holds83 gam83
end Go.Proofs.Ythhopbicmaipgaa.Rx.S
namespace Go.Proofs.Ythhopbicmaipgaa.Rx.S
open Go Go.RowKit Go.Proofs
set_option maxRecDepth 100000
noncomputable def c32 : Code := (Try.f32.body.getD .skip)
def an32 : An := ⟨fun _ => ⟨[], []⟩, fun _ _ => none⟩
abbrev ps32 : List PK := [.val tFs true, .val i64 false, .val .bool false]
abbrev rs32 : List RK := [.own tFs true, .val i64 false]
abbrev R32 := retsD rs32 × outsD ps32
noncomputable def G32 : Gam := fun f => match f with | 62 => some Sm62 | 64 => some Sm64 | 68 => some Sm68 | 83 => some Sm83 | _ => none
theorem h0_32 (hg : GamOK Try.prog G32) : Holds Try.prog 32 ⟨ps32, rs32, false, runF TT G32 an32 Try.f32 c32 ps32 rs32⟩ := holds_of tt_ok hg mixed Try.func32 (by kernel_rfl) (by rfl) (by decide +kernel)
noncomputable def at32 : Nat → Pt → List Nat → St → Option R32 := atF TT G32 an32 Try.f32 c32 _ _
noncomputable def st32_top (n : Nat) (a : List (Int × Int × Int × Int × Int × Int × Bool × ByteArray × List (ByteArray × Int))) (b : Int) (c : Bool) : Option R32 :=
  (q62 n (a, ())).bind fun r0 => cond (!r0.fst.fst) (some (([], ((1 : Int), ())), ())) ((q64 n (a, b, ())).bind fun r1 => cond (!r1.fst.fst) (some (([], ((1 : Int), ())), ())) ((q68 n (a, ())).bind fun r2 => (q83 n (r2.fst.fst, b, c, ())).bind fun r3 => some ((r3.fst.fst, (r3.fst.snd.fst, ())), ())))
theorem e32_top (n : Nat) (a : List (Int × Int × Int × Int × Int × Int × Bool × ByteArray × List (ByteArray × Int))) (b : Int) (c : Bool) : runF TT G32 an32 Try.f32 c32 ps32 rs32 n (a, b, c, ()) = st32_top n a b c := by kernel_rfl
noncomputable def p32 (n : Nat) (a : List (Int × Int × Int × Int × Int × Int × Bool × ByteArray × List (ByteArray × Int))) (b : Int) (c : Bool) : Option R32 := st32_top n a b c
theorem F32_eq (n : Nat) (a : List (Int × Int × Int × Int × Int × Int × Bool × ByteArray × List (ByteArray × Int))) (b : Int) (c : Bool) : runF TT G32 an32 Try.f32 c32 ps32 rs32 n (a, b, c, ()) = p32 n a b c := by
  rw [e32_top]
  skip
  try rfl
noncomputable def q32 (n : Nat) (x : argsD ps32) : Option R32 := p32 n x.1 x.2.1 x.2.2.1
noncomputable def Sm32 : Sm := ⟨ps32, rs32, false, q32⟩
theorem holds32 (hg : GamOK Try.prog G32) : Holds Try.prog 32 Sm32 := by
  have := h0_32 hg
  have e : (runF TT G32 an32 Try.f32 c32 ps32 rs32) = q32 := by
    funext n x
    exact F32_eq n x.1 x.2.1 x.2.2.1
  rw [e] at this
  exact this
theorem gam32 : GamOK Try.prog G32 := by
  intro f s h
  unfold G32 at h
  split at h
  · injection h with h; subst h; exact ⟨⟨Try.f62, c62, Try.func62, by kernel_rfl, by decide +kernel⟩, hh62⟩
  · injection h with h; subst h; exact ⟨⟨Try.f64, c64, Try.func64, by kernel_rfl, by decide +kernel⟩, hh64⟩
  · injection h with h; subst h; exact ⟨⟨Try.f68, c68, Try.func68, by kernel_rfl, by decide +kernel⟩, hh68⟩
  · injection h with h; subst h; exact ⟨⟨Try.f83, c83, Try.func83, by kernel_rfl, by decide +kernel⟩, hh83⟩
  · cases h
theorem hh32 : Holds Try.prog 32 Sm32 := holds32 gam32
end Go.Proofs.Ythhopbicmaipgaa.Rx.S
namespace Go.Proofs.Ythhopbicmaipgaa.Rx.S
open Go Go.RowKit Go.Proofs
set_option maxRecDepth 100000
noncomputable def c70 : Code := (Try.f70.body.getD .skip)
def an70 : An := ⟨fun _ => ⟨[], []⟩, fun _ _ => none⟩
abbrev ps70 : List PK := [.bo tFs, .val i64 false]
abbrev rs70 : List RK := []
abbrev R70 := retsD rs70 × outsD ps70
noncomputable def G70 : Gam := fun _ => none
theorem h0_70 (hg : GamOK Try.prog G70) : Holds Try.prog 70 ⟨ps70, rs70, false, runF TT G70 an70 Try.f70 c70 ps70 rs70⟩ := holds_of tt_ok hg mixed Try.func70 (by kernel_rfl) (by rfl) (by decide +kernel)
noncomputable def at70 : Nat → Pt → List Nat → St → Option R70 := atF TT G70 an70 Try.f70 c70 _ _
noncomputable def st70_top (n : Nat) (a : List (Int × Int × Int × Int × Int × Int × Bool × ByteArray × List (ByteArray × Int))) (b : Int) : Option R70 :=
  cond (decide ((0 : Int) ≤ b)) (cond (decide (b < (↑a.length : Int))) (cond (!decide (b = (0 : Int))) (cond (decide ((a.getD b.toNat ((0 : Int), (0 : Int), (0 : Int), (0 : Int), (0 : Int), (0 : Int), false, ByteArray.empty, [])).snd.snd.snd.snd.fst = (0 : Int))) (cond (decide ((a.getD b.toNat ((0 : Int), (0 : Int), (0 : Int), (0 : Int), (0 : Int), (0 : Int), false, ByteArray.empty, [])).snd.snd.snd.snd.snd.fst = (0 : Int))) (some ((), (a.set b.toNat ((0 : Int), (0 : Int), (0 : Int), (0 : Int), (0 : Int), (0 : Int), false, ByteArray.empty, []), ()))) (some ((), (a, ())))) (some ((), (a, ())))) (some ((), (a, ())))) (none)) (none)
theorem e70_top (n : Nat) (a : List (Int × Int × Int × Int × Int × Int × Bool × ByteArray × List (ByteArray × Int))) (b : Int) : runF TT G70 an70 Try.f70 c70 ps70 rs70 n (a, b, ()) = st70_top n a b := by kernel_rfl
noncomputable def p70 (n : Nat) (a : List (Int × Int × Int × Int × Int × Int × Bool × ByteArray × List (ByteArray × Int))) (b : Int) : Option R70 := st70_top n a b
theorem F70_eq (n : Nat) (a : List (Int × Int × Int × Int × Int × Int × Bool × ByteArray × List (ByteArray × Int))) (b : Int) : runF TT G70 an70 Try.f70 c70 ps70 rs70 n (a, b, ()) = p70 n a b := by
  rw [e70_top]
  skip
  try rfl
noncomputable def q70 (n : Nat) (x : argsD ps70) : Option R70 := p70 n x.1 x.2.1
noncomputable def Sm70 : Sm := ⟨ps70, rs70, false, q70⟩
theorem holds70 (hg : GamOK Try.prog G70) : Holds Try.prog 70 Sm70 := by
  have := h0_70 hg
  have e : (runF TT G70 an70 Try.f70 c70 ps70 rs70) = q70 := by
    funext n x
    exact F70_eq n x.1 x.2.1
  rw [e] at this
  exact this
theorem gam70 : GamOK Try.prog G70 := fun _ _ h => by cases h
theorem hh70 : Holds Try.prog 70 Sm70 := holds70 gam70
end Go.Proofs.Ythhopbicmaipgaa.Rx.S
namespace Go.Proofs.Ythhopbicmaipgaa.Rx.S
open Go Go.RowKit Go.Proofs
set_option maxRecDepth 100000
noncomputable def c84 : Code := (Try.f84.body.getD .skip)
def an84 : An := ⟨fun _ => ⟨[], []⟩, fun _ _ => none⟩
abbrev ps84 : List PK := [.bo tFs, .val i64 false, .val .bool false]
abbrev rs84 : List RK := []
abbrev R84 := retsD rs84 × outsD ps84
noncomputable def G84 : Gam := fun f => match f with | 70 => some Sm70 | _ => none
theorem h0_84 (hg : GamOK Try.prog G84) : Holds Try.prog 84 ⟨ps84, rs84, false, runF TT G84 an84 Try.f84 c84 ps84 rs84⟩ := holds_of tt_ok hg mixed Try.func84 (by kernel_rfl) (by rfl) (by decide +kernel)
noncomputable def at84 : Nat → Pt → List Nat → St → Option R84 := atF TT G84 an84 Try.f84 c84 _ _
noncomputable def st84_top (n : Nat) (a : List (Int × Int × Int × Int × Int × Int × Bool × ByteArray × List (ByteArray × Int))) (b : Int) (c : Bool) : Option R84 :=
  cond (c) (cond (decide ((0 : Int) ≤ b)) (cond (decide (b < (↑a.length : Int))) (cond (decide ((0 : Int) ≤ b)) (cond (decide (b < (↑a.length : Int))) (some ((), (a.set b.toNat ((a.getD b.toNat ((0 : Int), (0 : Int), (0 : Int), (0 : Int), (0 : Int), (0 : Int), false, ByteArray.empty, [])).fst, (a.getD b.toNat ((0 : Int), (0 : Int), (0 : Int), (0 : Int), (0 : Int), (0 : Int), false, ByteArray.empty, [])).snd.fst, (a.getD b.toNat ((0 : Int), (0 : Int), (0 : Int), (0 : Int), (0 : Int), (0 : Int), false, ByteArray.empty, [])).snd.snd.fst, (a.getD b.toNat ((0 : Int), (0 : Int), (0 : Int), (0 : Int), (0 : Int), (0 : Int), false, ByteArray.empty, [])).snd.snd.snd.fst, (a.getD b.toNat ((0 : Int), (0 : Int), (0 : Int), (0 : Int), (0 : Int), (0 : Int), false, ByteArray.empty, [])).snd.snd.snd.snd.fst, Go.IntKind.i64.wrap ((a.getD b.toNat ((0 : Int), (0 : Int), (0 : Int), (0 : Int), (0 : Int), (0 : Int), false, ByteArray.empty, [])).snd.snd.snd.snd.snd.fst + (1 : Int)), (a.getD b.toNat ((0 : Int), (0 : Int), (0 : Int), (0 : Int), (0 : Int), (0 : Int), false, ByteArray.empty, [])).snd.snd.snd.snd.snd.snd), ()))) (none)) (none)) (none)) (none)) (cond (decide ((0 : Int) ≤ b)) (cond (decide (b < (↑a.length : Int))) (cond (decide ((0 : Int) ≤ b)) (cond (decide (b < (↑a.length : Int))) ((q70 n (a.set b.toNat ((a.getD b.toNat ((0 : Int), (0 : Int), (0 : Int), (0 : Int), (0 : Int), (0 : Int), false, ByteArray.empty, [])).fst, (a.getD b.toNat ((0 : Int), (0 : Int), (0 : Int), (0 : Int), (0 : Int), (0 : Int), false, ByteArray.empty, [])).snd.fst, (a.getD b.toNat ((0 : Int), (0 : Int), (0 : Int), (0 : Int), (0 : Int), (0 : Int), false, ByteArray.empty, [])).snd.snd.fst, (a.getD b.toNat ((0 : Int), (0 : Int), (0 : Int), (0 : Int), (0 : Int), (0 : Int), false, ByteArray.empty, [])).snd.snd.snd.fst, (a.getD b.toNat ((0 : Int), (0 : Int), (0 : Int), (0 : Int), (0 : Int), (0 : Int), false, ByteArray.empty, [])).snd.snd.snd.snd.fst, Go.IntKind.i64.wrap ((a.getD b.toNat ((0 : Int), (0 : Int), (0 : Int), (0 : Int), (0 : Int), (0 : Int), false, ByteArray.empty, [])).snd.snd.snd.snd.snd.fst - (1 : Int)), (a.getD b.toNat ((0 : Int), (0 : Int), (0 : Int), (0 : Int), (0 : Int), (0 : Int), false, ByteArray.empty, [])).snd.snd.snd.snd.snd.snd), b, ())).bind fun r0 => some ((), (r0.snd.fst, ()))) (none)) (none)) (none)) (none))
theorem e84_top (n : Nat) (a : List (Int × Int × Int × Int × Int × Int × Bool × ByteArray × List (ByteArray × Int))) (b : Int) (c : Bool) : runF TT G84 an84 Try.f84 c84 ps84 rs84 n (a, b, c, ()) = st84_top n a b c := by kernel_rfl
noncomputable def p84 (n : Nat) (a : List (Int × Int × Int × Int × Int × Int × Bool × ByteArray × List (ByteArray × Int))) (b : Int) (c : Bool) : Option R84 := st84_top n a b c
theorem F84_eq (n : Nat) (a : List (Int × Int × Int × Int × Int × Int × Bool × ByteArray × List (ByteArray × Int))) (b : Int) (c : Bool) : runF TT G84 an84 Try.f84 c84 ps84 rs84 n (a, b, c, ()) = p84 n a b c := by
  rw [e84_top]
  skip
  try rfl
noncomputable def q84 (n : Nat) (x : argsD ps84) : Option R84 := p84 n x.1 x.2.1 x.2.2.1
noncomputable def Sm84 : Sm := ⟨ps84, rs84, false, q84⟩
theorem holds84 (hg : GamOK Try.prog G84) : Holds Try.prog 84 Sm84 := by
  have := h0_84 hg
  have e : (runF TT G84 an84 Try.f84 c84 ps84 rs84) = q84 := by
    funext n x
    exact F84_eq n x.1 x.2.1 x.2.2.1
  rw [e] at this
  exact this
theorem gam84 : GamOK Try.prog G84 := by
  intro f s h
  unfold G84 at h
  split at h
  · injection h with h; subst h; exact ⟨⟨Try.f70, c70, Try.func70, by kernel_rfl, by decide +kernel⟩, hh70⟩
  · cases h
theorem hh84 : Holds Try.prog 84 Sm84 := holds84 gam84
end Go.Proofs.Ythhopbicmaipgaa.Rx.S
namespace Go.Proofs.Ythhopbicmaipgaa.Rx.S
open Go Go.RowKit Go.Proofs
set_option maxRecDepth 100000
noncomputable def c33 : Code := (Try.f33.body.getD .skip)
def an33 : An := ⟨fun _ => ⟨[], []⟩, fun _ _ => none⟩
abbrev ps33 : List PK := [.val tFs true, .val i64 false, .val .bool false]
abbrev rs33 : List RK := [.own tFs true, .val i64 false]
abbrev R33 := retsD rs33 × outsD ps33
noncomputable def G33 : Gam := fun f => match f with | 36 => some Sm36 | 56 => some Sm56 | 82 => some Sm82 | 84 => some Sm84 | _ => none
theorem h0_33 (hg : GamOK Try.prog G33) : Holds Try.prog 33 ⟨ps33, rs33, false, runF TT G33 an33 Try.f33 c33 ps33 rs33⟩ := holds_of tt_ok hg mixed Try.func33 (by kernel_rfl) (by rfl) (by decide +kernel)
noncomputable def at33 : Nat → Pt → List Nat → St → Option R33 := atF TT G33 an33 Try.f33 c33 _ _
noncomputable def st33_top (n : Nat) (a : List (Int × Int × Int × Int × Int × Int × Bool × ByteArray × List (ByteArray × Int))) (b : Int) (c : Bool) : Option R33 :=
  (q36 n (a, ())).bind fun r0 => cond (!r0.fst.fst) (some (([], ((1 : Int), ())), ())) ((q82 n (a, b, ())).bind fun r1 => cond (!r1.fst.fst) (some (([], ((1 : Int), ())), ())) ((q56 n (a, ())).bind fun r2 => cond (c) (cond (decide ((0 : Int) ≤ b)) (cond (decide (b < (↑a.length : Int))) (cond (decide ((a.getD b.toNat ((0 : Int), (0 : Int), (0 : Int), (0 : Int), (0 : Int), (0 : Int), false, ByteArray.empty, [])).snd.snd.snd.snd.snd.fst = (99 : Int))) (some ((r2.fst.fst, ((6 : Int), ())), ())) (cond (!c) (cond (decide ((0 : Int) ≤ b)) (cond (decide (b < (↑a.length : Int))) (cond (decide ((a.getD b.toNat ((0 : Int), (0 : Int), (0 : Int), (0 : Int), (0 : Int), (0 : Int), false, ByteArray.empty, [])).snd.snd.snd.snd.snd.fst = (0 : Int))) (some ((r2.fst.fst, ((6 : Int), ())), ())) ((q84 n (r2.fst.fst, b, c, ())).bind fun r3 => some ((r3.snd.fst, ((0 : Int), ())), ()))) (none)) (none)) ((q84 n (r2.fst.fst, b, c, ())).bind fun r4 => some ((r4.snd.fst, ((0 : Int), ())), ())))) (none)) (none)) (cond (!c) (cond (decide ((0 : Int) ≤ b)) (cond (decide (b < (↑a.length : Int))) (cond (decide ((a.getD b.toNat ((0 : Int), (0 : Int), (0 : Int), (0 : Int), (0 : Int), (0 : Int), false, ByteArray.empty, [])).snd.snd.snd.snd.snd.fst = (0 : Int))) (some ((r2.fst.fst, ((6 : Int), ())), ())) ((q84 n (r2.fst.fst, b, c, ())).bind fun r5 => some ((r5.snd.fst, ((0 : Int), ())), ()))) (none)) (none)) ((q84 n (r2.fst.fst, b, c, ())).bind fun r6 => some ((r6.snd.fst, ((0 : Int), ())), ())))))
theorem e33_top (n : Nat) (a : List (Int × Int × Int × Int × Int × Int × Bool × ByteArray × List (ByteArray × Int))) (b : Int) (c : Bool) : runF TT G33 an33 Try.f33 c33 ps33 rs33 n (a, b, c, ()) = st33_top n a b c := by kernel_rfl
noncomputable def p33 (n : Nat) (a : List (Int × Int × Int × Int × Int × Int × Bool × ByteArray × List (ByteArray × Int))) (b : Int) (c : Bool) : Option R33 := st33_top n a b c
theorem F33_eq (n : Nat) (a : List (Int × Int × Int × Int × Int × Int × Bool × ByteArray × List (ByteArray × Int))) (b : Int) (c : Bool) : runF TT G33 an33 Try.f33 c33 ps33 rs33 n (a, b, c, ()) = p33 n a b c := by
  rw [e33_top]
  skip
  try rfl
noncomputable def q33 (n : Nat) (x : argsD ps33) : Option R33 := p33 n x.1 x.2.1 x.2.2.1
noncomputable def Sm33 : Sm := ⟨ps33, rs33, false, q33⟩
theorem holds33 (hg : GamOK Try.prog G33) : Holds Try.prog 33 Sm33 := by
  have := h0_33 hg
  have e : (runF TT G33 an33 Try.f33 c33 ps33 rs33) = q33 := by
    funext n x
    exact F33_eq n x.1 x.2.1 x.2.2.1
  rw [e] at this
  exact this
theorem gam33 : GamOK Try.prog G33 := by
  intro f s h
  unfold G33 at h
  split at h
  · injection h with h; subst h; exact ⟨⟨Try.f36, c36, Try.func36, by kernel_rfl, by decide +kernel⟩, hh36⟩
  · injection h with h; subst h; exact ⟨⟨Try.f56, c56, Try.func56, by kernel_rfl, by decide +kernel⟩, hh56⟩
  · injection h with h; subst h; exact ⟨⟨Try.f82, c82, Try.func82, by kernel_rfl, by decide +kernel⟩, hh82⟩
  · injection h with h; subst h; exact ⟨⟨Try.f84, c84, Try.func84, by kernel_rfl, by decide +kernel⟩, hh84⟩
  · cases h
theorem hh33 : Holds Try.prog 33 Sm33 := holds33 gam33
end Go.Proofs.Ythhopbicmaipgaa.Rx.S
namespace Go.Proofs.Ythhopbicmaipgaa.Rx.S
open Go Go.RowKit Go.Proofs
set_option maxRecDepth 100000
noncomputable def c6 : Code := (Try.f6.body.getD .skip)
def an6 : An := ⟨fun _ => ⟨[], []⟩, fun _ _ => none⟩
abbrev ps6 : List PK := [.val tLf true, .val i64 false, .val .bool false]
abbrev rs6 : List RK := [.val .bool false]
abbrev R6 := retsD rs6 × outsD ps6
noncomputable def G6 : Gam := fun f => match f with | 21 => some Sm21 | 23 => some Sm23 | 25 => some Sm25 | 27 => some Sm27 | 29 => some Sm29 | 32 => some Sm32 | 33 => some Sm33 | _ => none
theorem h0_6 (hg : GamOK Try.prog G6) : Holds Try.prog 6 ⟨ps6, rs6, false, runF TT G6 an6 Try.f6 c6 ps6 rs6⟩ := holds_of tt_ok hg mixed Try.func6 (by kernel_rfl) (by rfl) (by decide +kernel)
noncomputable def at6 : Nat → Pt → List Nat → St → Option R6 := atF TT G6 an6 Try.f6 c6 _ _
noncomputable def st6_top (n : Nat) (a : List (Int × Int × Int × Int × Int × Int × Bool × ByteArray × List (ByteArray × Int))) (b : Int) (c : Bool) : Option R6 :=
  (q21 n (a, (1048576 : Int), ())).bind fun r0 => cond (decide (r0.fst.fst < (0 : Int))) (some ((true, ()), ())) ((q23 n (a, ())).bind fun r1 => (q32 n (r1.fst.fst, b, c, ())).bind fun r2 => (q23 n (a, ())).bind fun r3 => (q33 n (r3.fst.fst, b, c, ())).bind fun r4 => (q25 n (r4.fst.fst, r2.fst.fst, ())).bind fun r5 => cond (!r5.fst.fst) (some ((false, ()), ())) (cond (!decide (r4.fst.snd.fst = r2.fst.snd.fst)) (some ((false, ()), ())) ((q23 n (a, ())).bind fun r6 => (q25 n (r3.fst.fst, r6.fst.fst, ())).bind fun r7 => cond (!r7.fst.fst) (some ((false, ()), ())) ((q27 n (r3.fst.fst, (1 : Int), ())).bind fun r8 => cond (decide (r8.fst.fst < (0 : Int))) (some ((false, ()), ())) ((q25 n (r4.fst.fst, r2.fst.fst, ())).bind fun r9 => cond (!r9.fst.fst) (some ((false, ()), ())) (cond (!decide (r4.fst.snd.fst = r2.fst.snd.fst)) (some ((false, ()), ())) ((q27 n (r4.fst.fst, (1 : Int), ())).bind fun r10 => (q29 n (r10.snd.fst, (1 : Int), ())).bind fun r11 => cond (decide (r11.fst.fst < (0 : Int))) (some ((false, ()), ())) (cond (!decide (r11.fst.fst = r10.fst.fst)) (some ((false, ()), ())) ((q23 n (a, ())).bind fun r12 => (q33 n (r12.fst.fst, b, c, ())).bind fun r13 => (q25 n (r13.fst.fst, r2.fst.fst, ())).bind fun r14 => cond (!r14.fst.fst) (some ((false, ()), ())) (cond (!decide (r13.fst.snd.fst = r2.fst.snd.fst)) (some ((false, ()), ())) ((q29 n (r10.snd.fst, (1 : Int), ())).bind fun r15 => cond (decide (r15.fst.fst < (0 : Int))) (some ((false, ()), ())) (cond (!decide (r15.fst.fst = r10.fst.fst)) (some ((false, ()), ())) (some ((true, ()), ()))))))))))))))
theorem e6_top (n : Nat) (a : List (Int × Int × Int × Int × Int × Int × Bool × ByteArray × List (ByteArray × Int))) (b : Int) (c : Bool) : runF TT G6 an6 Try.f6 c6 ps6 rs6 n (a, b, c, ()) = st6_top n a b c := by kernel_rfl
noncomputable def p6 (n : Nat) (a : List (Int × Int × Int × Int × Int × Int × Bool × ByteArray × List (ByteArray × Int))) (b : Int) (c : Bool) : Option R6 := st6_top n a b c
theorem F6_eq (n : Nat) (a : List (Int × Int × Int × Int × Int × Int × Bool × ByteArray × List (ByteArray × Int))) (b : Int) (c : Bool) : runF TT G6 an6 Try.f6 c6 ps6 rs6 n (a, b, c, ()) = p6 n a b c := by
  rw [e6_top]
  skip
  try rfl
noncomputable def q6 (n : Nat) (x : argsD ps6) : Option R6 := p6 n x.1 x.2.1 x.2.2.1
noncomputable def Sm6 : Sm := ⟨ps6, rs6, false, q6⟩
theorem holds6 (hg : GamOK Try.prog G6) : Holds Try.prog 6 Sm6 := by
  have := h0_6 hg
  have e : (runF TT G6 an6 Try.f6 c6 ps6 rs6) = q6 := by
    funext n x
    exact F6_eq n x.1 x.2.1 x.2.2.1
  rw [e] at this
  exact this
theorem gam6 : GamOK Try.prog G6 := by
  intro f s h
  unfold G6 at h
  split at h
  · injection h with h; subst h; exact ⟨⟨Try.f21, c21, Try.func21, by kernel_rfl, by decide +kernel⟩, hh21⟩
  · injection h with h; subst h; exact ⟨⟨Try.f23, c23, Try.func23, by kernel_rfl, by decide +kernel⟩, hh23⟩
  · injection h with h; subst h; exact ⟨⟨Try.f25, c25, Try.func25, by kernel_rfl, by decide +kernel⟩, hh25⟩
  · injection h with h; subst h; exact ⟨⟨Try.f27, c27, Try.func27, by kernel_rfl, by decide +kernel⟩, hh27⟩
  · injection h with h; subst h; exact ⟨⟨Try.f29, c29, Try.func29, by kernel_rfl, by decide +kernel⟩, hh29⟩
  · injection h with h; subst h; exact ⟨⟨Try.f32, c32, Try.func32, by kernel_rfl, by decide +kernel⟩, hh32⟩
  · injection h with h; subst h; exact ⟨⟨Try.f33, c33, Try.func33, by kernel_rfl, by decide +kernel⟩, hh33⟩
  · cases h
theorem hh6 : Holds Try.prog 6 Sm6 := holds6 gam6
end Go.Proofs.Ythhopbicmaipgaa.Rx.S
