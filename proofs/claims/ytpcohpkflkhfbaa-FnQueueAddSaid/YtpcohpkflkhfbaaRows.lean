/-
  No cell of these rows narrows 'for every input' (looked for: loops, veiled, ifaces, maps, wideKeys, modest, calm, conditions, laid).
  DERIVED. THE GIVEN ROWS OF THIS SEAT. 10 by the template 'for every input the law returns true; each argument reads behind the call as it read before'; 0 by the template 'total and deterministic' (their statements: YtpcohpkflkhfbaaTotals.lean).
  GIVEN WITH THE SEED: the statements are not yours to turn. If you find one false, say at which input.
  Laid BY PROGRAM, IN A SANDBOX (cutbox-rows.mjs): the forced cells as the released guide's own fill.sh prints them over the translation 72d9eacd2d3ce794… (all of the seat's roots in one cut). By AI agents, Wed Nov 11 2026. No macro, syntax, notation, axiom, sorry.
-/
import Derived.Test.YtpcohpkflkhfbaaChecked
import GoSem.Claim
import GoSem.ClaimJoined
import GoSem.ClaimMapViews
import Derived.JoinedTies
import Derived.KernelRfl
namespace Go.Proofs.Ytpcohpkflkhfbaa
/- THE CELL 'sum', in the pinned program and in every row, IS THE sha256 OF THE DUMP (.gsa) THAT YtpcohpkflkhfbaaProg.lean LOADS. Nothing in Lean hashes anything: it is a label: what it is worth is what the hold of that sum in a sandbox is worth. -/
noncomputable def Try.pinned : Pinned := { name := "ytpcohpkflkhfbaa", sum := "72d9eacd2d3ce7941127975dd8139c0efb772017941268220b16d8b31ba9c06b", checked := Try.checked }
namespace Rows
def none {H : Type} : Left H := { results := [], args := [] }

/-- 'laws.FnExactSigsSend': WHATEVER THE INPUT: true; the input reads as it did. -/
def fnExactSigsSendSpec : ChangeSpec := { name := "fnExactSigsSend", fn := fun _ => fun
  | [d1, d2] => { results := [.lit (.bool true)], args := [d1, d2] }
  | _ => none }
def fnExactSigsSendRow : OpenClaim := { program := "ytpcohpkflkhfbaa", sum := "72d9eacd2d3ce7941127975dd8139c0efb772017941268220b16d8b31ba9c06b", func := "loop.example/quarterdeck/laws.FnExactSigsSend", spec := "fnExactSigsSend", apart := false }
def FnExactSigsSendSaid : Prop := fnExactSigsSendRow.holds Try.pinned (OpenSpec.ofChange fnExactSigsSendSpec)

/-- ITS FALSE NEIGHBOUR: 'it returns false'. Refute it at one input. -/
def fnExactSigsSendWrong : ChangeSpec := { name := "fnExactSigsSend", fn := fun _ => fun
  | [d1, d2] => { results := [.lit (.bool false)], args := [d1, d2] }
  | _ => none }
def FnExactSigsSendWrongFalsely : Prop := fnExactSigsSendRow.holds Try.pinned (OpenSpec.ofChange fnExactSigsSendWrong)

/-- 'laws.FnExactSigsNext': WHATEVER THE INPUT: true; the input reads as it did. -/
def fnExactSigsNextSpec : ChangeSpec := { name := "fnExactSigsNext", fn := fun _ => fun
  | [d] => { results := [.lit (.bool true)], args := [d] }
  | _ => none }
def fnExactSigsNextRow : OpenClaim := { program := "ytpcohpkflkhfbaa", sum := "72d9eacd2d3ce7941127975dd8139c0efb772017941268220b16d8b31ba9c06b", func := "loop.example/quarterdeck/laws.FnExactSigsNext", spec := "fnExactSigsNext", unfollowed := true, recurses := true, apart := false }
def FnExactSigsNextSaid : Prop := fnExactSigsNextRow.holds Try.pinned (OpenSpec.ofChange fnExactSigsNextSpec)

/-- ITS FALSE NEIGHBOUR: 'it returns false'. Refute it at one input. -/
def fnExactSigsNextWrong : ChangeSpec := { name := "fnExactSigsNext", fn := fun _ => fun
  | [d] => { results := [.lit (.bool false)], args := [d] }
  | _ => none }
def FnExactSigsNextWrongFalsely : Prop := fnExactSigsNextRow.holds Try.pinned (OpenSpec.ofChange fnExactSigsNextWrong)

/-- 'laws.FnLockOk': WHATEVER THE INPUT: true; the input reads as it did. -/
def fnLockOkSpec : ChangeSpec := { name := "fnLockOk", fn := fun _ => fun
  | [d] => { results := [.lit (.bool true)], args := [d] }
  | _ => none }
def fnLockOkRow : OpenClaim := { program := "ytpcohpkflkhfbaa", sum := "72d9eacd2d3ce7941127975dd8139c0efb772017941268220b16d8b31ba9c06b", func := "loop.example/quarterdeck/laws.FnLockOk", spec := "fnLockOk", apart := false }
def FnLockOkSaid : Prop := fnLockOkRow.holds Try.pinned (OpenSpec.ofChange fnLockOkSpec)

/-- ITS FALSE NEIGHBOUR: 'it returns false'. Refute it at one input. -/
def fnLockOkWrong : ChangeSpec := { name := "fnLockOk", fn := fun _ => fun
  | [d] => { results := [.lit (.bool false)], args := [d] }
  | _ => none }
def FnLockOkWrongFalsely : Prop := fnLockOkRow.holds Try.pinned (OpenSpec.ofChange fnLockOkWrong)

/-- 'laws.FnLockStep': WHATEVER THE INPUT: true; the input reads as it did. -/
def fnLockStepSpec : ChangeSpec := { name := "fnLockStep", fn := fun _ => fun
  | [d] => { results := [.lit (.bool true)], args := [d] }
  | _ => none }
def fnLockStepRow : OpenClaim := { program := "ytpcohpkflkhfbaa", sum := "72d9eacd2d3ce7941127975dd8139c0efb772017941268220b16d8b31ba9c06b", func := "loop.example/quarterdeck/laws.FnLockStep", spec := "fnLockStep", apart := false }
def FnLockStepSaid : Prop := fnLockStepRow.holds Try.pinned (OpenSpec.ofChange fnLockStepSpec)

/-- ITS FALSE NEIGHBOUR: 'it returns false'. Refute it at one input. -/
def fnLockStepWrong : ChangeSpec := { name := "fnLockStep", fn := fun _ => fun
  | [d] => { results := [.lit (.bool false)], args := [d] }
  | _ => none }
def FnLockStepWrongFalsely : Prop := fnLockStepRow.holds Try.pinned (OpenSpec.ofChange fnLockStepWrong)

/-- 'laws.FnLockStuck': WHATEVER THE INPUT: true; the input reads as it did. -/
def fnLockStuckSpec : ChangeSpec := { name := "fnLockStuck", fn := fun _ => fun
  | [d] => { results := [.lit (.bool true)], args := [d] }
  | _ => none }
def fnLockStuckRow : OpenClaim := { program := "ytpcohpkflkhfbaa", sum := "72d9eacd2d3ce7941127975dd8139c0efb772017941268220b16d8b31ba9c06b", func := "loop.example/quarterdeck/laws.FnLockStuck", spec := "fnLockStuck", apart := false }
def FnLockStuckSaid : Prop := fnLockStuckRow.holds Try.pinned (OpenSpec.ofChange fnLockStuckSpec)

/-- ITS FALSE NEIGHBOUR: 'it returns false'. Refute it at one input. -/
def fnLockStuckWrong : ChangeSpec := { name := "fnLockStuck", fn := fun _ => fun
  | [d] => { results := [.lit (.bool false)], args := [d] }
  | _ => none }
def FnLockStuckWrongFalsely : Prop := fnLockStuckRow.holds Try.pinned (OpenSpec.ofChange fnLockStuckWrong)

/-- 'laws.FnLockRun': WHATEVER THE INPUT: true; the input reads as it did. -/
def fnLockRunSpec : ChangeSpec := { name := "fnLockRun", fn := fun _ => fun
  | [d1, d2] => { results := [.lit (.bool true)], args := [d1, d2] }
  | _ => none }
def fnLockRunRow : OpenClaim := { program := "ytpcohpkflkhfbaa", sum := "72d9eacd2d3ce7941127975dd8139c0efb772017941268220b16d8b31ba9c06b", func := "loop.example/quarterdeck/laws.FnLockRun", spec := "fnLockRun", apart := false }
def FnLockRunSaid : Prop := fnLockRunRow.holds Try.pinned (OpenSpec.ofChange fnLockRunSpec)

/-- ITS FALSE NEIGHBOUR: 'it returns false'. Refute it at one input. -/
def fnLockRunWrong : ChangeSpec := { name := "fnLockRun", fn := fun _ => fun
  | [d1, d2] => { results := [.lit (.bool false)], args := [d1, d2] }
  | _ => none }
def FnLockRunWrongFalsely : Prop := fnLockRunRow.holds Try.pinned (OpenSpec.ofChange fnLockRunWrong)

/-- 'laws.FnExactLockStep': WHATEVER THE INPUT: true; the input reads as it did. -/
def fnExactLockStepSpec : ChangeSpec := { name := "fnExactLockStep", fn := fun _ => fun
  | [d1, d2] => { results := [.lit (.bool true)], args := [d1, d2] }
  | _ => none }
def fnExactLockStepRow : OpenClaim := { program := "ytpcohpkflkhfbaa", sum := "72d9eacd2d3ce7941127975dd8139c0efb772017941268220b16d8b31ba9c06b", func := "loop.example/quarterdeck/laws.FnExactLockStep", spec := "fnExactLockStep", apart := false }
def FnExactLockStepSaid : Prop := fnExactLockStepRow.holds Try.pinned (OpenSpec.ofChange fnExactLockStepSpec)

/-- ITS FALSE NEIGHBOUR: 'it returns false'. Refute it at one input. -/
def fnExactLockStepWrong : ChangeSpec := { name := "fnExactLockStep", fn := fun _ => fun
  | [d1, d2] => { results := [.lit (.bool false)], args := [d1, d2] }
  | _ => none }
def FnExactLockStepWrongFalsely : Prop := fnExactLockStepRow.holds Try.pinned (OpenSpec.ofChange fnExactLockStepWrong)

/-- 'laws.FnExactLockRun': WHATEVER THE INPUT: true; the input reads as it did. -/
def fnExactLockRunSpec : ChangeSpec := { name := "fnExactLockRun", fn := fun _ => fun
  | [d1, d2] => { results := [.lit (.bool true)], args := [d1, d2] }
  | _ => none }
def fnExactLockRunRow : OpenClaim := { program := "ytpcohpkflkhfbaa", sum := "72d9eacd2d3ce7941127975dd8139c0efb772017941268220b16d8b31ba9c06b", func := "loop.example/quarterdeck/laws.FnExactLockRun", spec := "fnExactLockRun", apart := false }
def FnExactLockRunSaid : Prop := fnExactLockRunRow.holds Try.pinned (OpenSpec.ofChange fnExactLockRunSpec)

/-- ITS FALSE NEIGHBOUR: 'it returns false'. Refute it at one input. -/
def fnExactLockRunWrong : ChangeSpec := { name := "fnExactLockRun", fn := fun _ => fun
  | [d1, d2] => { results := [.lit (.bool false)], args := [d1, d2] }
  | _ => none }
def FnExactLockRunWrongFalsely : Prop := fnExactLockRunRow.holds Try.pinned (OpenSpec.ofChange fnExactLockRunWrong)

/-- 'laws.FnQueueAdd': WHATEVER THE INPUT: true; the input reads as it did. -/
def fnQueueAddSpec : ChangeSpec := { name := "fnQueueAdd", fn := fun _ => fun
  | [d] => { results := [.lit (.bool true)], args := [d] }
  | _ => none }
def fnQueueAddRow : OpenClaim := { program := "ytpcohpkflkhfbaa", sum := "72d9eacd2d3ce7941127975dd8139c0efb772017941268220b16d8b31ba9c06b", func := "loop.example/quarterdeck/laws.FnQueueAdd", spec := "fnQueueAdd", unfollowed := true, recurses := true, apart := false }
def FnQueueAddSaid : Prop := fnQueueAddRow.holds Try.pinned (OpenSpec.ofChange fnQueueAddSpec)

/-- ITS FALSE NEIGHBOUR: 'it returns false'. Refute it at one input. -/
def fnQueueAddWrong : ChangeSpec := { name := "fnQueueAdd", fn := fun _ => fun
  | [d] => { results := [.lit (.bool false)], args := [d] }
  | _ => none }
def FnQueueAddWrongFalsely : Prop := fnQueueAddRow.holds Try.pinned (OpenSpec.ofChange fnQueueAddWrong)

/-- 'laws.FnExactQueueAdd': WHATEVER THE INPUT: true; the input reads as it did. -/
def fnExactQueueAddSpec : ChangeSpec := { name := "fnExactQueueAdd", fn := fun _ => fun
  | [d1, d2, d3] => { results := [.lit (.bool true)], args := [d1, d2, d3] }
  | _ => none }
def fnExactQueueAddRow : OpenClaim := { program := "ytpcohpkflkhfbaa", sum := "72d9eacd2d3ce7941127975dd8139c0efb772017941268220b16d8b31ba9c06b", func := "loop.example/quarterdeck/laws.FnExactQueueAdd", spec := "fnExactQueueAdd", unfollowed := true, recurses := true, apart := false }
def FnExactQueueAddSaid : Prop := fnExactQueueAddRow.holds Try.pinned (OpenSpec.ofChange fnExactQueueAddSpec)

/-- ITS FALSE NEIGHBOUR: 'it returns false'. Refute it at one input. -/
def fnExactQueueAddWrong : ChangeSpec := { name := "fnExactQueueAdd", fn := fun _ => fun
  | [d1, d2, d3] => { results := [.lit (.bool false)], args := [d1, d2, d3] }
  | _ => none }
def FnExactQueueAddWrongFalsely : Prop := fnExactQueueAddRow.holds Try.pinned (OpenSpec.ofChange fnExactQueueAddWrong)

/- THE SECOND FORM. 'bulk': how many values and letters a reading holds, each counted each time it is reached (what is shared counts as often as it is met; a slice's spare places count too). A statement '..UptoSaid' is the law's where the arguments, and the package variables that the reading takes, are together of bulk at most 1048576: NARROWER than '..Said'. Prove '..Said' where nothing that the law and all that it calls make is longer than what came in: it says more and counts as full. Else prove '..UptoSaid'. A law counts once. -/
mutual
def uptoBulk {H : Type} : DataW H → Nat
  | .lit (.string bytes) => bytes.length + 1
  | .lit _ => 1
  | .nil => 1
  | .ptr d => uptoBulk d + 1
  | .slice elems spare => uptoBulkAll elems + uptoBulkAll spare + 1
  | .agg parts => uptoBulkAll parts + 1
  | .iface _ d => uptoBulk d + 1
  | .map entries => uptoBulkEntries entries + 1
  | .held _ => 1
def uptoBulkAll {H : Type} : List (DataW H) → Nat
  | [] => 0
  | d :: r => uptoBulk d + uptoBulkAll r
def uptoBulkEntries {H : Type} : List (Lit × DataW H) → Nat
  | [] => 0
  | x :: r => uptoBulkEntry x + uptoBulkEntries r
def uptoBulkEntry {H : Type} : Lit × DataW H → Nat
  | (.string bytes, d) => bytes.length + uptoBulk d + 1
  | (_, d) => uptoBulk d + 1
 end
def uptoSmall : (H : Type) → List (DataW H) → Bool := fun _ ds => decide (uptoBulkAll ds ≤ 1048576)
def OpenSpec.upto (s : _root_.Go.ChangeSpec) : _root_.Go.OpenSpec := { _root_.Go.OpenSpec.ofChange s with cond := some uptoSmall }

/-- 'laws.FnExactSigsSend', WHERE WHAT IT READS IS OF BULK AT MOST 1048576: true; the input reads as it did. -/
def fnExactSigsSendUptoRow : OpenClaim := { program := "ytpcohpkflkhfbaa", sum := "72d9eacd2d3ce7941127975dd8139c0efb772017941268220b16d8b31ba9c06b", func := "loop.example/quarterdeck/laws.FnExactSigsSend", spec := "fnExactSigsSend", apart := false, narrowed := true }
def FnExactSigsSendUptoSaid : Prop := fnExactSigsSendUptoRow.holds Try.pinned (OpenSpec.upto fnExactSigsSendSpec)

/-- 'laws.FnExactSigsNext', WHERE WHAT IT READS IS OF BULK AT MOST 1048576: true; the input reads as it did. -/
def fnExactSigsNextUptoRow : OpenClaim := { program := "ytpcohpkflkhfbaa", sum := "72d9eacd2d3ce7941127975dd8139c0efb772017941268220b16d8b31ba9c06b", func := "loop.example/quarterdeck/laws.FnExactSigsNext", spec := "fnExactSigsNext", unfollowed := true, recurses := true, apart := false, narrowed := true }
def FnExactSigsNextUptoSaid : Prop := fnExactSigsNextUptoRow.holds Try.pinned (OpenSpec.upto fnExactSigsNextSpec)

/-- 'laws.FnLockOk', WHERE WHAT IT READS IS OF BULK AT MOST 1048576: true; the input reads as it did. -/
def fnLockOkUptoRow : OpenClaim := { program := "ytpcohpkflkhfbaa", sum := "72d9eacd2d3ce7941127975dd8139c0efb772017941268220b16d8b31ba9c06b", func := "loop.example/quarterdeck/laws.FnLockOk", spec := "fnLockOk", apart := false, narrowed := true }
def FnLockOkUptoSaid : Prop := fnLockOkUptoRow.holds Try.pinned (OpenSpec.upto fnLockOkSpec)

/-- 'laws.FnLockStep', WHERE WHAT IT READS IS OF BULK AT MOST 1048576: true; the input reads as it did. -/
def fnLockStepUptoRow : OpenClaim := { program := "ytpcohpkflkhfbaa", sum := "72d9eacd2d3ce7941127975dd8139c0efb772017941268220b16d8b31ba9c06b", func := "loop.example/quarterdeck/laws.FnLockStep", spec := "fnLockStep", apart := false, narrowed := true }
def FnLockStepUptoSaid : Prop := fnLockStepUptoRow.holds Try.pinned (OpenSpec.upto fnLockStepSpec)

/-- 'laws.FnLockStuck', WHERE WHAT IT READS IS OF BULK AT MOST 1048576: true; the input reads as it did. -/
def fnLockStuckUptoRow : OpenClaim := { program := "ytpcohpkflkhfbaa", sum := "72d9eacd2d3ce7941127975dd8139c0efb772017941268220b16d8b31ba9c06b", func := "loop.example/quarterdeck/laws.FnLockStuck", spec := "fnLockStuck", apart := false, narrowed := true }
def FnLockStuckUptoSaid : Prop := fnLockStuckUptoRow.holds Try.pinned (OpenSpec.upto fnLockStuckSpec)

/-- 'laws.FnLockRun', WHERE WHAT IT READS IS OF BULK AT MOST 1048576: true; the input reads as it did. -/
def fnLockRunUptoRow : OpenClaim := { program := "ytpcohpkflkhfbaa", sum := "72d9eacd2d3ce7941127975dd8139c0efb772017941268220b16d8b31ba9c06b", func := "loop.example/quarterdeck/laws.FnLockRun", spec := "fnLockRun", apart := false, narrowed := true }
def FnLockRunUptoSaid : Prop := fnLockRunUptoRow.holds Try.pinned (OpenSpec.upto fnLockRunSpec)

/-- 'laws.FnExactLockStep', WHERE WHAT IT READS IS OF BULK AT MOST 1048576: true; the input reads as it did. -/
def fnExactLockStepUptoRow : OpenClaim := { program := "ytpcohpkflkhfbaa", sum := "72d9eacd2d3ce7941127975dd8139c0efb772017941268220b16d8b31ba9c06b", func := "loop.example/quarterdeck/laws.FnExactLockStep", spec := "fnExactLockStep", apart := false, narrowed := true }
def FnExactLockStepUptoSaid : Prop := fnExactLockStepUptoRow.holds Try.pinned (OpenSpec.upto fnExactLockStepSpec)

/-- 'laws.FnExactLockRun', WHERE WHAT IT READS IS OF BULK AT MOST 1048576: true; the input reads as it did. -/
def fnExactLockRunUptoRow : OpenClaim := { program := "ytpcohpkflkhfbaa", sum := "72d9eacd2d3ce7941127975dd8139c0efb772017941268220b16d8b31ba9c06b", func := "loop.example/quarterdeck/laws.FnExactLockRun", spec := "fnExactLockRun", apart := false, narrowed := true }
def FnExactLockRunUptoSaid : Prop := fnExactLockRunUptoRow.holds Try.pinned (OpenSpec.upto fnExactLockRunSpec)

/-- 'laws.FnQueueAdd', WHERE WHAT IT READS IS OF BULK AT MOST 1048576: true; the input reads as it did. -/
def fnQueueAddUptoRow : OpenClaim := { program := "ytpcohpkflkhfbaa", sum := "72d9eacd2d3ce7941127975dd8139c0efb772017941268220b16d8b31ba9c06b", func := "loop.example/quarterdeck/laws.FnQueueAdd", spec := "fnQueueAdd", unfollowed := true, recurses := true, apart := false, narrowed := true }
def FnQueueAddUptoSaid : Prop := fnQueueAddUptoRow.holds Try.pinned (OpenSpec.upto fnQueueAddSpec)

/-- 'laws.FnExactQueueAdd', WHERE WHAT IT READS IS OF BULK AT MOST 1048576: true; the input reads as it did. -/
def fnExactQueueAddUptoRow : OpenClaim := { program := "ytpcohpkflkhfbaa", sum := "72d9eacd2d3ce7941127975dd8139c0efb772017941268220b16d8b31ba9c06b", func := "loop.example/quarterdeck/laws.FnExactQueueAdd", spec := "fnExactQueueAdd", unfollowed := true, recurses := true, apart := false, narrowed := true }
def FnExactQueueAddUptoSaid : Prop := fnExactQueueAddUptoRow.holds Try.pinned (OpenSpec.upto fnExactQueueAddSpec)

end Rows
end Go.Proofs.Ytpcohpkflkhfbaa
