/- THE LAW FnExactPagesTake, WHATEVER THE INPUT: it answers true, and what came in reads as it did. No condition. (The row, written by this session's program hp_law.py out of the pure statement and the printed and hand-made walks.) -/
import Derived.Test.YtfbdkjdockbfdaaRows
import Derived.Test.YtfbdkjdockbfdaaGPagesx7
import Derived.Test.YtfbdkjdockbfdaaPureFnExactPagesTake
import Derived.Test.YtfbdkjdockbfdaaOpn
import Derived.WalkKit
import Derived.ProofKit
import Derived.OpenShut
import Derived.ShutString
import Derived.ChangeOld
import Derived.Below
import Derived.SizedLaws
import Derived.Carry
namespace Go.Proofs.Ytfbdkjdockbfdaa.fnExactPagesTake
open Go.ChangeShapes Go.WideShapes Go.ChangeAt Go.RowKit Go.Proofs.YtfbdkjdockbfdaaW.PrintWords Go.Proofs.Ytfbdkjdockbfdaa.GPages
open Go.ChangeMaps (open_string shut_string)
set_option linter.unusedVariables false
theorem own : ownKnob Try.prog.godebug = none := by kernel_rfl
theorem laidOut : laidOutB Try.prog = true := by kernel_rfl
set_option maxRecDepth 100000 in
theorem lifted (os : Os) (started : os.Started) (H : Type) (enc : TypeId × Value → H) :
    ReturnsInHanded {} Try.checked os 6 .any (Rows.fnExactPagesTakeSpec.pre6 enc Try.prog Try.f6 Rows.fnExactPagesTakeRow.domain false) (Rows.fnExactPagesTakeSpec.post enc Try.prog Try.f6 false true false false) := by
  refine returnsInHanded_of_change_sized (C := Try.checked) own started (by kernel_rfl) Try.func6
    (ChangeSpec.witness6 (enc := enc) (C := Try.checked) false ⟨#[], #[.agg #[.slice none 0 0, .slice none 0 0], .string ByteArray.empty], []⟩ 8 (by kernel_rfl) (by kernel_rfl) (by kernel_rfl) (by kernel_rfl)) ?_
  intro W base args ds gs before hval0 hW hcnd hsz0 _
  have hval : ∀ (j : Nat) t v, Try.f6.params[j]? = some t → args[j]? = some v → Value.okWide Try.prog W .any base t v := hval0
  have hW' := hW
  obtain ⟨p, q, hA0, hV, rfl, hfz, hnd⟩ := hW
  have hA : DataW.TrodAll enc Try.prog W 0 (fun _ => true) true Try.f6.params.toList args.toList ds p := hA0
  rw [Try.params6] at hA hval
  obtain ⟨v0, vs0, d0, ds0, p0, q0, hargs, rfl, rfl, h0, r0⟩ := trodAll_cons hA
  obtain ⟨v1, vs1, d1, ds1, p1, q1, rfl, rfl, rfl, h1, r1⟩ := trodAll_cons r0
  obtain ⟨rfl, rfl, rfl⟩ := trodAll_nil r1
  obtain rfl : args = #[v0, v1] := by cases args; simp_all
  obtain ⟨rfl, rfl⟩ := trodVars_none hV
  obtain ⟨cs0, rfl, hsz0⟩ := okWide_struct Try.underlying38 (hval 0 38 v0 rfl rfl)
  have k0 := h0
  have lt0 : ∀ x ∈ p0, x.block < W.heap.size := by obtain ⟨m, hm⟩ := k0; exact DataW.trod_lt m _ _ _ hm
  obtain ⟨fuel0, hf0⟩ := h0
  obtain ⟨p0_, hK0, w0⟩ := (opn38 : Opn.Opn enc Try.prog W 38 k38 W38) _ _ _ hf0
  obtain ⟨A0_0, c0_0, A0_1, c0_1, hcs, hc0_0, hr0_0, hc0_1, hr0_1⟩ := k38_open hK0
  obtain rfl : cs0 = #[.slice A0_0 p0_.f0.length c0_0, .slice A0_1 p0_.f1.length c0_1] := by
    have hq : cs0.toList = [.slice A0_0 p0_.f0.length c0_0, .slice A0_1 p0_.f1.length c0_1] := hcs
    cases cs0
    simpa using hq
  obtain ⟨a1, rfl, rfl, rfl, w1⟩ := open_string Try.underlying9 (hval 1 9 v1 rfl rfl) h1
  clear hA0 hval0 hsz0
  obtain ⟨k, h⟩ := Pure.FnExactPagesTake p0_ a1 w0 (by simpa [maxLen] using w1)
  refine (laws_FnExactPagesTake.calls k _ _ p0_.f0 _ _ p0_.f1 a1 true W hr0_0 hc0_0 hr0_1 hc0_1 h).mono fun e W' ⟨he, bel_⟩ => ?_
  have bel : Below W.heap.size W W' := bel_
  subst he
  exact ⟨_, rfl, _, _, _, [], _, [], hW', trodAll_mk1 (shut_bool Try.underlying4 _), (trodAll_cons_mk (Below.trod laidOut (by kernel_rfl) (of_decide_eq_true (by kernel_rfl)) k0 bel lt0) (trodAll_cons_mk (shut_string Try.underlying9 w1) trodAll_mk0)), rfl, bel.frame _, fun h => by cases h⟩
theorem over : Rows.fnExactPagesTakeRow.holds Try.pinned (OpenSpec.ofChange Rows.fnExactPagesTakeSpec) :=
  OpenClaim.holds_of_wide 6 Try.f6 rfl rfl rfl rfl rfl rfl rfl ⟨rfl, rfl, rfl, rfl, rfl⟩ rfl rfl rfl rfl rfl (by kernel_rfl) Try.func6 (by kernel_rfl)
    (of_decide_eq_true (by kernel_rfl)) (by unfold Func.isWrapper; first | (rw [if_pos (by decide +kernel)]; kernel_rfl) | (rw [if_neg (by decide +kernel)]; exact ⟨rfl, rfl⟩))
    (fun os started H enc _ => lifted os started H enc)
theorem proved : Rows.FnExactPagesTakeSaid := over
#print axioms proved
end Go.Proofs.Ytfbdkjdockbfdaa.fnExactPagesTake
namespace Go.Proofs.Ytfbdkjdockbfdaa
/-- The row, under a short name, for the claim. -/
theorem fnExactPagesTake_holds : Rows.FnExactPagesTakeSaid := fnExactPagesTake.proved
end Go.Proofs.Ytfbdkjdockbfdaa
