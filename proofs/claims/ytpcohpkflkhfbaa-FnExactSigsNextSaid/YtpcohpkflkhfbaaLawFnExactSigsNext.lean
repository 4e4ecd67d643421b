/- THE LAW FnExactSigsNext, WHATEVER THE INPUT: it answers true, and what came in reads as it did. No condition. (The row, written by this session's program hp_law.py out of the pure statement and the printed and hand-made walks.) -/
import Derived.Test.YtpcohpkflkhfbaaRows
import Derived.Test.YtpcohpkflkhfbaaGSnxx8
import Derived.Test.YtpcohpkflkhfbaaPureFnExactSigsNext
import Derived.Test.YtpcohpkflkhfbaaGSnxOpn
import Derived.WalkKit
import Derived.ProofKit
import Derived.OpenShut
import Derived.ShutString
import Derived.ChangeOld
import Derived.Below
import Derived.SizedLaws
import Derived.Carry
namespace Go.Proofs.Ytpcohpkflkhfbaa.fnExactSigsNext
open Go.ChangeShapes Go.WideShapes Go.ChangeAt Go.RowKit Go.Proofs.YtpcohpkflkhfbaaW.PrintWords Go.Proofs.Ytpcohpkflkhfbaa.GSnx
open Go.ChangeMaps (open_string shut_string)
set_option linter.unusedVariables false
theorem own : ownKnob Try.prog.godebug = none := by kernel_rfl
theorem laidOut : laidOutB Try.prog = true := by kernel_rfl
set_option maxRecDepth 100000 in
theorem lifted (os : Os) (started : os.Started) (H : Type) (enc : TypeId × Value → H) :
    ReturnsInHanded {} Try.checked os 4 .any (Rows.fnExactSigsNextSpec.pre6 enc Try.prog Try.f4 Rows.fnExactSigsNextRow.domain false) (Rows.fnExactSigsNextSpec.post enc Try.prog Try.f4 false true false false) := by
  refine returnsInHanded_of_change_sized (C := Try.checked) own started (by kernel_rfl) Try.func4
    (ChangeSpec.witness6 (enc := enc) (C := Try.checked) false ⟨#[], #[.agg #[.slice none 0 0, .slice none 0 0, .slice none 0 0]], []⟩ 8 (by kernel_rfl) (by kernel_rfl) (by kernel_rfl) (by kernel_rfl)) ?_
  intro W base args ds gs before hval0 hW hcnd hsz0 _
  have hval : ∀ (j : Nat) t v, Try.f4.params[j]? = some t → args[j]? = some v → Value.okWide Try.prog W .any base t v := hval0
  have hW' := hW
  obtain ⟨p, q, hA0, hV, rfl, hfz, hnd⟩ := hW
  have hA : DataW.TrodAll enc Try.prog W 0 (fun _ => true) true Try.f4.params.toList args.toList ds p := hA0
  rw [Try.params4] at hA hval
  obtain ⟨v0, vs0, d0, ds0, p0, q0, hargs, rfl, rfl, h0, r0⟩ := trodAll_cons hA
  obtain ⟨rfl, rfl, rfl⟩ := trodAll_nil r0
  obtain rfl : args = #[v0] := by cases args; simp_all
  obtain ⟨rfl, rfl⟩ := trodVars_none hV
  obtain ⟨cs0, rfl, hsz0⟩ := okWide_struct Try.underlying25 (hval 0 25 v0 rfl rfl)
  have k0 := h0
  have lt0 : ∀ x ∈ p0, x.block < W.heap.size := by obtain ⟨m, hm⟩ := k0; exact DataW.trod_lt m _ _ _ hm
  obtain ⟨fuel0, hf0⟩ := h0
  obtain ⟨p0_, hK0, w0⟩ := (opn25 : Opn.Opn enc Try.prog W 25 k25 W25) _ _ _ hf0
  obtain ⟨A0_0, c0_0, A0_1, c0_1, A0_2, c0_2, hcs, hc0_0, hr0_0, hc0_1, hr0_1, hc0_2, hr0_2⟩ := k25_open hK0
  obtain rfl : cs0 = #[.slice A0_0 p0_.f0.length c0_0, .slice A0_1 p0_.f1.length c0_1, .slice A0_2 p0_.f2.length c0_2] := by
    have hq : cs0.toList = [.slice A0_0 p0_.f0.length c0_0, .slice A0_1 p0_.f1.length c0_1, .slice A0_2 p0_.f2.length c0_2] := hcs
    cases cs0
    simpa using hq
  clear hA0 hval0 hsz0
  obtain ⟨k, h⟩ := Pure.FnExactSigsNext p0_ w0
  refine (laws_FnExactSigsNext.calls k _ _ p0_.f0 _ _ p0_.f1 _ _ p0_.f2 true W hr0_0 hc0_0 hr0_1 hc0_1 hr0_2 hc0_2 h).mono fun e W' ⟨he, bel_⟩ => ?_
  have bel : Below W.heap.size W W' := bel_
  subst he
  exact ⟨_, rfl, _, _, _, [], _, [], hW', trodAll_mk1 (shut_bool Try.underlying4 _), (trodAll_cons_mk (Below.trod laidOut (by kernel_rfl) (of_decide_eq_true (by kernel_rfl)) k0 bel lt0) trodAll_mk0), rfl, bel.frame _, fun h => by cases h⟩
theorem over : Rows.fnExactSigsNextRow.holds Try.pinned (OpenSpec.ofChange Rows.fnExactSigsNextSpec) :=
  OpenClaim.holds_of_wide 4 Try.f4 rfl rfl rfl rfl rfl rfl rfl ⟨rfl, rfl, rfl, rfl, rfl⟩ rfl rfl rfl rfl rfl (by kernel_rfl) Try.func4 (by kernel_rfl)
    (of_decide_eq_true (by kernel_rfl)) (by unfold Func.isWrapper; first | (rw [if_pos (by decide +kernel)]; kernel_rfl) | (rw [if_neg (by decide +kernel)]; exact ⟨rfl, rfl⟩))
    (fun os started H enc _ => lifted os started H enc)
theorem proved : Rows.FnExactSigsNextSaid := over
#print axioms proved
end Go.Proofs.Ytpcohpkflkhfbaa.fnExactSigsNext
namespace Go.Proofs.Ytpcohpkflkhfbaa
/-- The row, under a short name, for the claim. -/
theorem fnExactSigsNext_holds : Rows.FnExactSigsNextSaid := fnExactSigsNext.proved
end Go.Proofs.Ytpcohpkflkhfbaa
