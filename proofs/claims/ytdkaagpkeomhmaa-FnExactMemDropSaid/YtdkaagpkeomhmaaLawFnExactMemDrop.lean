/- THE LAW FnExactMemDrop, WHATEVER THE INPUT: it answers true, and what came in reads as it did. No condition. -/
import Derived.Test.YtdkaagpkeomhmaaRows
import Derived.Test.YtdkaagpkeomhmaaEP1
import Derived.WalkKit
import Derived.ProofKit
import Derived.OpenShut
import Derived.ShutString
import Derived.ChangeOld
import Derived.Below
import Derived.SizedLaws
import Derived.Carry
namespace Go.Proofs.Ytdkaagpkeomhmaa.fnExactMemDrop
open Go.Proofs.Ytdkaagpkeomhmaa.Rx Go.Proofs.Ytdkaagpkeomhmaa.Rx.S Go.ChangeShapes Go.WideShapes Go.ChangeAt Go.RowKit
open Go.ChangeMaps (open_string shut_string)
set_option linter.unusedVariables false
theorem own : ownKnob Try.prog.godebug = none := by kernel_rfl
theorem laidOut : laidOutB Try.prog = true := by kernel_rfl
set_option maxRecDepth 100000 in
theorem lifted (os : Os) (started : os.Started) (H : Type) (enc : TypeId × Value → H) :
    ReturnsInHanded {} Try.checked os 8 .any (Rows.fnExactMemDropSpec.pre6 enc Try.prog Try.f8 Rows.fnExactMemDropRow.domain false) (Rows.fnExactMemDropSpec.post enc Try.prog Try.f8 false true false false) := by
  refine returnsInHanded_of_change_sized (C := Try.checked) own started (by kernel_rfl) Try.func8
    (ChangeSpec.witness6 (enc := enc) (C := Try.checked) false ⟨#[], #[.agg #[.slice none 0 0, .slice none 0 0, .slice none 0 0, .slice none 0 0, .slice none 0 0, .int .i64 0], .int .i64 0], []⟩ 8 (by kernel_rfl) (by kernel_rfl) (by kernel_rfl) (by kernel_rfl)) ?_
  intro W base args ds gs before hval0 hW hcnd hsz0 _
  have hval : ∀ (j : Nat) t v, Try.f8.params[j]? = some t → args[j]? = some v → Value.okWide Try.prog W .any base t v := hval0
  have hW' := hW
  obtain ⟨p, q, hA0, hV, rfl, hfz, hnd⟩ := hW
  have hA : DataW.TrodAll enc Try.prog W 0 (fun _ => true) true Try.f8.params.toList args.toList ds p := hA0
  rw [Try.params8] at hA hval
  obtain ⟨v0, vs0, d0, ds0, p0, q0, hargs, rfl, rfl, h0, r0⟩ := trodAll_cons hA
  obtain ⟨v1, vs1, d1, ds1, p1, q1, rfl, rfl, rfl, h1, r1⟩ := trodAll_cons r0
  obtain ⟨rfl, rfl, rfl⟩ := trodAll_nil r1
  obtain rfl : args = #[v0, v1] := by cases args; simp_all
  obtain ⟨rfl, rfl⟩ := trodVars_none hV
  have lt0 : ∀ x ∈ p0, x.block < W.heap.size := by obtain ⟨m, hm⟩ := h0; exact DataW.trod_lt m _ _ _ hm
  obtain ⟨x0, a0, w0⟩ := arg_struct (t := tLm) Try.underlying58 (opn_struct Try.underlying58 rfl (by kernel_rfl) (.cons _ _ 0 _ _ rfl (by kernel_rfl) (opn_struct Try.underlying55 rfl (by kernel_rfl) (.cons _ _ 0 _ _ rfl (by kernel_rfl) (opn_slice Try.underlying23 (by kernel_rfl) (opn_string Try.underlying9)) (.one _ 1 _ rfl (by kernel_rfl) (opn_slice Try.underlying24 (by kernel_rfl) (opn_int Try.underlying3))))) (.cons _ _ 2 _ _ rfl (by kernel_rfl) (opn_struct Try.underlying55 rfl (by kernel_rfl) (.cons _ _ 0 _ _ rfl (by kernel_rfl) (opn_slice Try.underlying23 (by kernel_rfl) (opn_string Try.underlying9)) (.one _ 1 _ rfl (by kernel_rfl) (opn_slice Try.underlying24 (by kernel_rfl) (opn_int Try.underlying3))))) (.cons _ _ 4 _ _ rfl (by kernel_rfl) (opn_slice Try.underlying56 (by kernel_rfl) (opn_struct Try.underlying174 rfl (by kernel_rfl) (.cons _ _ 0 _ _ rfl (by kernel_rfl) (opn_bool Try.underlying4) (.cons _ _ 1 _ _ rfl (by kernel_rfl) (opn_slice Try.underlying163 (by kernel_rfl) (opn_struct Try.underlying205 rfl (by kernel_rfl) (.cons _ _ 0 _ _ rfl (by kernel_rfl) (opn_int Try.underlying3) (.cons _ _ 1 _ _ rfl (by kernel_rfl) (opn_int Try.underlying3) (.cons _ _ 2 _ _ rfl (by kernel_rfl) (opn_bool Try.underlying4) (.one _ 3 _ rfl (by kernel_rfl) (opn_bool Try.underlying4))))))) (.one _ 2 _ rfl (by kernel_rfl) (opn_slice Try.underlying172 (by kernel_rfl) (opn_struct Try.underlying208 rfl (by kernel_rfl) (.cons _ _ 0 _ _ rfl (by kernel_rfl) (opn_int Try.underlying3) (.cons _ _ 1 _ _ rfl (by kernel_rfl) (opn_int Try.underlying3) (.cons _ _ 2 _ _ rfl (by kernel_rfl) (opn_bool Try.underlying4) (.one _ 3 _ rfl (by kernel_rfl) (opn_bool Try.underlying4)))))))))))) (.one _ 5 _ rfl (by kernel_rfl) (opn_int Try.underlying3)))))) (hval 0 58 v0 rfl rfl) h0
  have lt1 : ∀ x ∈ p1, x.block < W.heap.size := by obtain ⟨m, hm⟩ := h1; exact DataW.trod_lt m _ _ _ hm
  obtain ⟨x1, a1, w1⟩ := arg_int Try.underlying3 (hval 1 3 v1 rfl rfl) h1
  obtain ⟨k, o, h⟩ := pure8 x0 x1 w0 w1
  refine (call_law hh8 (Fs := [[], []]) (vs := [v0, v1]) rfl ⟨a0, ⟨a1, trivial⟩⟩ h).mono fun e W' ⟨he, bel_⟩ => ?_
  have bel : Below W.heap.size W W' := bel_
  subst he
  exact ⟨_, rfl, _, _, _, [], _, [], hW', trodAll_mk1 (shut_bool Try.underlying4 _), (trodAll_cons_mk (Below.trod laidOut (by kernel_rfl) (of_decide_eq_true (by kernel_rfl)) h0 bel lt0) (trodAll_cons_mk (Below.trod laidOut (by kernel_rfl) (of_decide_eq_true (by kernel_rfl)) h1 bel lt1) trodAll_mk0)), rfl, bel.frame _, fun h => by cases h⟩
theorem over : Rows.fnExactMemDropRow.holds Try.pinned (OpenSpec.ofChange Rows.fnExactMemDropSpec) :=
  OpenClaim.holds_of_wide 8 Try.f8 rfl rfl rfl rfl rfl rfl rfl ⟨rfl, rfl, rfl, rfl, rfl⟩ rfl rfl rfl rfl rfl (by kernel_rfl) Try.func8 (by kernel_rfl)
    (of_decide_eq_true (by kernel_rfl)) (by unfold Func.isWrapper; first | (rw [if_pos (by decide +kernel)]; kernel_rfl) | (rw [if_neg (by decide +kernel)]; exact ⟨rfl, rfl⟩))
    (fun os started H enc _ => lifted os started H enc)
theorem proved : Rows.FnExactMemDropSaid := over
#print axioms proved
end Go.Proofs.Ytdkaagpkeomhmaa.fnExactMemDrop
namespace Go.Proofs.Ytdkaagpkeomhmaa
/-- The row, under a short name, for the claim. -/
theorem fnExactMemDrop_holds : Rows.FnExactMemDropSaid := fnExactMemDrop.proved
end Go.Proofs.Ytdkaagpkeomhmaa
