/- THE LAW FnExactVfsMount, WHATEVER THE INPUT: it answers true, and what came in reads as it did. No condition. -/
import Derived.Test.YtbjgiioppmkpiaaRows
import Derived.Test.YtbjgiioppmkpiaaKP1
import Derived.WalkKit
import Derived.ProofKit
import Derived.OpenShut
import Derived.ShutString
import Derived.ChangeOld
import Derived.Below
import Derived.SizedLaws
import Derived.Carry
namespace Go.Proofs.Ytbjgiioppmkpiaa.fnExactVfsMount
open Go.Proofs.Ytbjgiioppmkpiaa.Rx Go.Proofs.Ytbjgiioppmkpiaa.Rx.S Go.ChangeShapes Go.WideShapes Go.ChangeAt Go.RowKit
open Go.ChangeMaps (open_string shut_string)
set_option linter.unusedVariables false
theorem own : ownKnob Try.prog.godebug = none := by kernel_rfl
theorem laidOut : laidOutB Try.prog = true := by kernel_rfl
set_option maxRecDepth 100000 in
theorem lifted (os : Os) (started : os.Started) (H : Type) (enc : TypeId × Value → H) :
    ReturnsInHanded {} Try.checked os 8 .any (Rows.fnExactVfsMountSpec.pre6 enc Try.prog Try.f8 Rows.fnExactVfsMountRow.domain false) (Rows.fnExactVfsMountSpec.post enc Try.prog Try.f8 false true false false) := by
  refine returnsInHanded_of_change_sized (C := Try.checked) own started (by kernel_rfl) Try.func8
    (ChangeSpec.witness6 (enc := enc) (C := Try.checked) false ⟨#[], #[.agg #[.slice none 0 0, .int .i64 0], .agg #[.int .i64 0, .int .i64 0, .slice none 0 0], .int .i64 0], []⟩ 8 (by kernel_rfl) (by kernel_rfl) (by kernel_rfl) (by kernel_rfl)) ?_
  intro W base args ds gs before hval0 hW hcnd hsz0 _
  have hval : ∀ (j : Nat) t v, Try.f8.params[j]? = some t → args[j]? = some v → Value.okWide Try.prog W .any base t v := hval0
  have hW' := hW
  obtain ⟨p, q, hA0, hV, rfl, hfz, hnd⟩ := hW
  have hA : DataW.TrodAll enc Try.prog W 0 (fun _ => true) true Try.f8.params.toList args.toList ds p := hA0
  rw [Try.params8] at hA hval
  obtain ⟨v0, vs0, d0, ds0, p0, q0, hargs, rfl, rfl, h0, r0⟩ := trodAll_cons hA
  obtain ⟨v1, vs1, d1, ds1, p1, q1, rfl, rfl, rfl, h1, r1⟩ := trodAll_cons r0
  obtain ⟨v2, vs2, d2, ds2, p2, q2, rfl, rfl, rfl, h2, r2⟩ := trodAll_cons r1
  obtain ⟨rfl, rfl, rfl⟩ := trodAll_nil r2
  obtain rfl : args = #[v0, v1, v2] := by cases args; simp_all
  obtain ⟨rfl, rfl⟩ := trodVars_none hV
  have lt0 : ∀ x ∈ p0, x.block < W.heap.size := by obtain ⟨m, hm⟩ := h0; exact DataW.trod_lt m _ _ _ hm
  obtain ⟨x0, a0, w0⟩ := arg_struct (t := tLV) Try.underlying56 (opn_struct Try.underlying56 rfl (by kernel_rfl) (.cons _ _ 0 _ _ rfl (by kernel_rfl) (opn_slice Try.underlying54 (by kernel_rfl) (opn_struct Try.underlying68 rfl (by kernel_rfl) (.one _ 0 _ rfl (by kernel_rfl) (opn_slice Try.underlying66 (by kernel_rfl) (opn_struct Try.underlying161 rfl (by kernel_rfl) (.cons _ _ 0 _ _ rfl (by kernel_rfl) (opn_int Try.underlying3) (.cons _ _ 1 _ _ rfl (by kernel_rfl) (opn_int Try.underlying3) (.cons _ _ 2 _ _ rfl (by kernel_rfl) (opn_int Try.underlying3) (.cons _ _ 3 _ _ rfl (by kernel_rfl) (opn_int Try.underlying3) (.cons _ _ 4 _ _ rfl (by kernel_rfl) (opn_int Try.underlying3) (.cons _ _ 5 _ _ rfl (by kernel_rfl) (opn_int Try.underlying3) (.cons _ _ 6 _ _ rfl (by kernel_rfl) (opn_bool Try.underlying4) (.cons _ _ 7 _ _ rfl (by kernel_rfl) (opn_string Try.underlying9) (.one _ 8 _ rfl (by kernel_rfl) (opn_slice Try.underlying159 (by kernel_rfl) (opn_struct Try.underlying178 rfl (by kernel_rfl) (.cons _ _ 0 _ _ rfl (by kernel_rfl) (opn_string Try.underlying9) (.one _ 1 _ rfl (by kernel_rfl) (opn_int Try.underlying3))))))))))))))))))) (.one _ 1 _ rfl (by kernel_rfl) (opn_int Try.underlying3)))) (hval 0 56 v0 rfl rfl) h0
  have lt1 : ∀ x ∈ p1, x.block < W.heap.size := by obtain ⟨m, hm⟩ := h1; exact DataW.trod_lt m _ _ _ hm
  obtain ⟨x1, a1, w1⟩ := arg_struct (t := tCr) Try.underlying57 (opn_struct Try.underlying57 rfl (by kernel_rfl) (.cons _ _ 0 _ _ rfl (by kernel_rfl) (opn_int Try.underlying3) (.cons _ _ 1 _ _ rfl (by kernel_rfl) (opn_int Try.underlying3) (.one _ 2 _ rfl (by kernel_rfl) (opn_slice Try.underlying26 (by kernel_rfl) (opn_int Try.underlying3)))))) (hval 1 57 v1 rfl rfl) h1
  have lt2 : ∀ x ∈ p2, x.block < W.heap.size := by obtain ⟨m, hm⟩ := h2; exact DataW.trod_lt m _ _ _ hm
  obtain ⟨x2, a2, w2⟩ := arg_int Try.underlying3 (hval 2 3 v2 rfl rfl) h2
  obtain ⟨k, o, h⟩ := pure8 x0 x1 x2 w0 w1 w2
  refine (call_law hh8 (Fs := [[], [], []]) (vs := [v0, v1, v2]) rfl ⟨a0, ⟨a1, ⟨a2, trivial⟩⟩⟩ h).mono fun e W' ⟨he, bel_⟩ => ?_
  have bel : Below W.heap.size W W' := bel_
  subst he
  exact ⟨_, rfl, _, _, _, [], _, [], hW', trodAll_mk1 (shut_bool Try.underlying4 _), (trodAll_cons_mk (Below.trod laidOut (by kernel_rfl) (of_decide_eq_true (by kernel_rfl)) h0 bel lt0) (trodAll_cons_mk (Below.trod laidOut (by kernel_rfl) (of_decide_eq_true (by kernel_rfl)) h1 bel lt1) (trodAll_cons_mk (Below.trod laidOut (by kernel_rfl) (of_decide_eq_true (by kernel_rfl)) h2 bel lt2) trodAll_mk0))), rfl, bel.frame _, fun h => by cases h⟩
theorem over : Rows.fnExactVfsMountRow.holds Try.pinned (OpenSpec.ofChange Rows.fnExactVfsMountSpec) :=
  OpenClaim.holds_of_wide 8 Try.f8 rfl rfl rfl rfl rfl rfl rfl ⟨rfl, rfl, rfl, rfl, rfl⟩ rfl rfl rfl rfl rfl (by kernel_rfl) Try.func8 (by kernel_rfl)
    (of_decide_eq_true (by kernel_rfl)) (by unfold Func.isWrapper; first | (rw [if_pos (by decide +kernel)]; kernel_rfl) | (rw [if_neg (by decide +kernel)]; exact ⟨rfl, rfl⟩))
    (fun os started H enc _ => lifted os started H enc)
theorem proved : Rows.FnExactVfsMountSaid := over
#print axioms proved
end Go.Proofs.Ytbjgiioppmkpiaa.fnExactVfsMount
namespace Go.Proofs.Ytbjgiioppmkpiaa
/-- The row, under a short name, for the claim. -/
theorem fnExactVfsMount_holds : Rows.FnExactVfsMountSaid := fnExactVfsMount.proved
end Go.Proofs.Ytbjgiioppmkpiaa
