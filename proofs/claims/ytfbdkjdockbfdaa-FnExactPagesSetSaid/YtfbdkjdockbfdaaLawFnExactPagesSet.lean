/- THE LAW FnExactPagesSet, WHATEVER THE INPUT: it answers true, and what came in reads as it did. No condition. (The row, written by this session's program hp_law.py out of the pure statement and the printed and hand-made walks.) -/
import Derived.Test.YtfbdkjdockbfdaaRows
import Derived.Test.YtfbdkjdockbfdaaGPsetx8
import Derived.Test.YtfbdkjdockbfdaaPureFnExactPagesSet
import Derived.Test.YtfbdkjdockbfdaaGPsetOpn
import Derived.WalkKit
import Derived.ProofKit
import Derived.OpenShut
import Derived.ShutString
import Derived.ChangeOld
import Derived.Below
import Derived.SizedLaws
import Derived.Carry
namespace Go.Proofs.Ytfbdkjdockbfdaa.fnExactPagesSet
open Go.ChangeShapes Go.WideShapes Go.ChangeAt Go.RowKit Go.Proofs.YtfbdkjdockbfdaaW.PrintWords Go.Proofs.Ytfbdkjdockbfdaa.GPset
open Go.ChangeMaps (open_string shut_string)
set_option linter.unusedVariables false
theorem own : ownKnob Try.prog.godebug = none := by kernel_rfl
theorem laidOut : laidOutB Try.prog = true := by kernel_rfl
set_option maxRecDepth 100000 in
theorem lifted (os : Os) (started : os.Started) (H : Type) (enc : TypeId × Value → H) :
    ReturnsInHanded {} Try.checked os 5 .any (Rows.fnExactPagesSetSpec.pre6 enc Try.prog Try.f5 Rows.fnExactPagesSetRow.domain false) (Rows.fnExactPagesSetSpec.post enc Try.prog Try.f5 false true false false) := by
  refine returnsInHanded_of_change_sized (C := Try.checked) own started (by kernel_rfl) Try.func5
    (ChangeSpec.witness6 (enc := enc) (C := Try.checked) false ⟨#[], #[.agg #[.slice none 0 0, .slice none 0 0], .int .i64 0, .int .i64 0, .int .i64 0], []⟩ 8 (by kernel_rfl) (by kernel_rfl) (by kernel_rfl) (by kernel_rfl)) ?_
  intro W base args ds gs before hval0 hW hcnd hsz0 _
  have hval : ∀ (j : Nat) t v, Try.f5.params[j]? = some t → args[j]? = some v → Value.okWide Try.prog W .any base t v := hval0
  have hW' := hW
  obtain ⟨p, q, hA0, hV, rfl, hfz, hnd⟩ := hW
  have hA : DataW.TrodAll enc Try.prog W 0 (fun _ => true) true Try.f5.params.toList args.toList ds p := hA0
  rw [Try.params5] at hA hval
  obtain ⟨v0, vs0, d0, ds0, p0, q0, hargs, rfl, rfl, h0, r0⟩ := trodAll_cons hA
  obtain ⟨v1, vs1, d1, ds1, p1, q1, rfl, rfl, rfl, h1, r1⟩ := trodAll_cons r0
  obtain ⟨v2, vs2, d2, ds2, p2, q2, rfl, rfl, rfl, h2, r2⟩ := trodAll_cons r1
  obtain ⟨v3, vs3, d3, ds3, p3, q3, rfl, rfl, rfl, h3, r3⟩ := trodAll_cons r2
  obtain ⟨rfl, rfl, rfl⟩ := trodAll_nil r3
  obtain rfl : args = #[v0, v1, v2, v3] := by cases args; simp_all
  obtain ⟨rfl, rfl⟩ := trodVars_none hV
  obtain ⟨cs0, rfl, hsz0⟩ := okWide_struct Try.underlying38 (hval 0 38 v0 rfl rfl)
  have k0 := h0
  have lt0 : ∀ x ∈ p0, x.block < W.heap.size := by obtain ⟨m, hm⟩ := k0; exact DataW.trod_lt m _ _ _ hm
  obtain ⟨fuel0, hf0⟩ := h0
  obtain ⟨p0_, hK0, w0⟩ := (opn38 : Opn.Opn enc Try.prog W 38 k38 W38) _ _ _ hf0
  obtain ⟨A0_0, c0_0, A0_1, c0_1, hcs, hc0_0, hr0_0, hc0_1, hr0_1⟩ := k38_open hK0
  obtain rfl : cs0 = #[.slice A0_0 p0_.f0.length c0_0, .slice A0_1 p0_.f1.length c0_1] := by
    have hq : cs0.toList = [.slice A0_0 p0_.f0.length c0_0, .slice A0_1 p0_.f1.length c0_1] := hcs
    cases cs0
    simpa using hq
  obtain ⟨a1, rfl, rfl, rfl, w1⟩ := open_int Try.underlying3 (hval 1 3 v1 rfl rfl) h1
  obtain ⟨a2, rfl, rfl, rfl, w2⟩ := open_int Try.underlying3 (hval 2 3 v2 rfl rfl) h2
  obtain ⟨a3, rfl, rfl, rfl, w3⟩ := open_int Try.underlying3 (hval 3 3 v3 rfl rfl) h3
  clear hA0 hval0 hsz0
  obtain ⟨k, h⟩ := Pure.FnExactPagesSet p0_ a1 a2 a3 w0 w1 w2 w3
  refine (laws_FnExactPagesSet.calls k _ _ p0_.f0 _ _ p0_.f1 a1 a2 a3 true W hr0_0 hc0_0 hr0_1 hc0_1 h).mono fun e W' ⟨he, bel_⟩ => ?_
  have bel : Below W.heap.size W W' := bel_
  subst he
  exact ⟨_, rfl, _, _, _, [], _, [], hW', trodAll_mk1 (shut_bool Try.underlying4 _), (trodAll_cons_mk (Below.trod laidOut (by kernel_rfl) (of_decide_eq_true (by kernel_rfl)) k0 bel lt0) (trodAll_cons_mk (shut_int Try.underlying3 w1) (trodAll_cons_mk (shut_int Try.underlying3 w2) (trodAll_cons_mk (shut_int Try.underlying3 w3) trodAll_mk0)))), rfl, bel.frame _, fun h => by cases h⟩
theorem over : Rows.fnExactPagesSetRow.holds Try.pinned (OpenSpec.ofChange Rows.fnExactPagesSetSpec) :=
  OpenClaim.holds_of_wide 5 Try.f5 rfl rfl rfl rfl rfl rfl rfl ⟨rfl, rfl, rfl, rfl, rfl⟩ rfl rfl rfl rfl rfl (by kernel_rfl) Try.func5 (by kernel_rfl)
    (of_decide_eq_true (by kernel_rfl)) (by unfold Func.isWrapper; first | (rw [if_pos (by decide +kernel)]; kernel_rfl) | (rw [if_neg (by decide +kernel)]; exact ⟨rfl, rfl⟩))
    (fun os started H enc _ => lifted os started H enc)
theorem proved : Rows.FnExactPagesSetSaid := over
#print axioms proved
end Go.Proofs.Ytfbdkjdockbfdaa.fnExactPagesSet
namespace Go.Proofs.Ytfbdkjdockbfdaa
/-- The row, under a short name, for the claim. -/
theorem fnExactPagesSet_holds : Rows.FnExactPagesSetSaid := fnExactPagesSet.proved
end Go.Proofs.Ytfbdkjdockbfdaa
