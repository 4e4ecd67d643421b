/-
  No cell of these rows narrows 'for every input' (looked for: loops, veiled, ifaces, maps, wideKeys, modest, calm, conditions, laid).
  DERIVED. THE GIVEN ROWS OF THIS SEAT. 6 by the template 'for every input the law returns true; each argument reads behind the call as it read before'; 0 by the template 'total and deterministic' (their statements: YtfbdkjdockbfdaaTotals.lean).
  GIVEN WITH THE SEED: the statements are not yours to turn. If you find one false, say at which input.
  Laid BY PROGRAM, IN A SANDBOX (cutbox-rows.mjs): the forced cells as the released guide's own fill.sh prints them over the translation ae0b85bf8e900cc1… (all of the seat's roots in one cut). By AI agents, Wed Nov 11 2026. No macro, syntax, notation, axiom, sorry.
-/
import Derived.Test.YtfbdkjdockbfdaaChecked
import GoSem.Claim
import GoSem.ClaimJoined
import GoSem.ClaimMapViews
import Derived.JoinedTies
import Derived.KernelRfl
namespace Go.Proofs.Ytfbdkjdockbfdaa
/- THE CELL 'sum', in the pinned program and in every row, IS THE sha256 OF THE DUMP (.gsa) THAT YtfbdkjdockbfdaaProg.lean LOADS. Nothing in Lean hashes anything: it is a label: what it is worth is what the hold of that sum in a sandbox is worth. -/
noncomputable def Try.pinned : Pinned := { name := "ytfbdkjdockbfdaa", sum := "ae0b85bf8e900cc1eeae4e31c60b4a0af44e479b4be5d1cd7a1c011699343f23", checked := Try.checked }
namespace Rows
def none {H : Type} : Left H := { results := [], args := [] }

/-- 'laws.FnSigsBlocked': WHATEVER THE INPUT: true; the input reads as it did. -/
def fnSigsBlockedSpec : ChangeSpec := { name := "fnSigsBlocked", fn := fun _ => fun
  | [d] => { results := [.lit (.bool true)], args := [d] }
  | _ => none }
def fnSigsBlockedRow : OpenClaim := { program := "ytfbdkjdockbfdaa", sum := "ae0b85bf8e900cc1eeae4e31c60b4a0af44e479b4be5d1cd7a1c011699343f23", func := "loop.example/quarterdeck/laws.FnSigsBlocked", spec := "fnSigsBlocked", unfollowed := true, recurses := true, apart := false }
def FnSigsBlockedSaid : Prop := fnSigsBlockedRow.holds Try.pinned (OpenSpec.ofChange fnSigsBlockedSpec)

/-- ITS FALSE NEIGHBOUR: 'it returns false'. Refute it at one input. -/
def fnSigsBlockedWrong : ChangeSpec := { name := "fnSigsBlocked", fn := fun _ => fun
  | [d] => { results := [.lit (.bool false)], args := [d] }
  | _ => none }
def FnSigsBlockedWrongFalsely : Prop := fnSigsBlockedRow.holds Try.pinned (OpenSpec.ofChange fnSigsBlockedWrong)

/-- 'laws.FnExactPagesGive': WHATEVER THE INPUT: true; the input reads as it did. -/
def fnExactPagesGiveSpec : ChangeSpec := { name := "fnExactPagesGive", fn := fun _ => fun
  | [d1, d2] => { results := [.lit (.bool true)], args := [d1, d2] }
  | _ => none }
def fnExactPagesGiveRow : OpenClaim := { program := "ytfbdkjdockbfdaa", sum := "ae0b85bf8e900cc1eeae4e31c60b4a0af44e479b4be5d1cd7a1c011699343f23", func := "loop.example/quarterdeck/laws.FnExactPagesGive", spec := "fnExactPagesGive", apart := false }
def FnExactPagesGiveSaid : Prop := fnExactPagesGiveRow.holds Try.pinned (OpenSpec.ofChange fnExactPagesGiveSpec)

/-- ITS FALSE NEIGHBOUR: 'it returns false'. Refute it at one input. -/
def fnExactPagesGiveWrong : ChangeSpec := { name := "fnExactPagesGive", fn := fun _ => fun
  | [d1, d2] => { results := [.lit (.bool false)], args := [d1, d2] }
  | _ => none }
def FnExactPagesGiveWrongFalsely : Prop := fnExactPagesGiveRow.holds Try.pinned (OpenSpec.ofChange fnExactPagesGiveWrong)

/-- 'laws.FnExactPagesSet': WHATEVER THE INPUT: true; the input reads as it did. -/
def fnExactPagesSetSpec : ChangeSpec := { name := "fnExactPagesSet", fn := fun _ => fun
  | [d1, d2, d3, d4] => { results := [.lit (.bool true)], args := [d1, d2, d3, d4] }
  | _ => none }
def fnExactPagesSetRow : OpenClaim := { program := "ytfbdkjdockbfdaa", sum := "ae0b85bf8e900cc1eeae4e31c60b4a0af44e479b4be5d1cd7a1c011699343f23", func := "loop.example/quarterdeck/laws.FnExactPagesSet", spec := "fnExactPagesSet", apart := false }
def FnExactPagesSetSaid : Prop := fnExactPagesSetRow.holds Try.pinned (OpenSpec.ofChange fnExactPagesSetSpec)

/-- ITS FALSE NEIGHBOUR: 'it returns false'. Refute it at one input. -/
def fnExactPagesSetWrong : ChangeSpec := { name := "fnExactPagesSet", fn := fun _ => fun
  | [d1, d2, d3, d4] => { results := [.lit (.bool false)], args := [d1, d2, d3, d4] }
  | _ => none }
def FnExactPagesSetWrongFalsely : Prop := fnExactPagesSetRow.holds Try.pinned (OpenSpec.ofChange fnExactPagesSetWrong)

/-- 'laws.FnExactPagesTake': WHATEVER THE INPUT: true; the input reads as it did. -/
def fnExactPagesTakeSpec : ChangeSpec := { name := "fnExactPagesTake", fn := fun _ => fun
  | [d1, d2] => { results := [.lit (.bool true)], args := [d1, d2] }
  | _ => none }
def fnExactPagesTakeRow : OpenClaim := { program := "ytfbdkjdockbfdaa", sum := "ae0b85bf8e900cc1eeae4e31c60b4a0af44e479b4be5d1cd7a1c011699343f23", func := "loop.example/quarterdeck/laws.FnExactPagesTake", spec := "fnExactPagesTake", apart := false }
def FnExactPagesTakeSaid : Prop := fnExactPagesTakeRow.holds Try.pinned (OpenSpec.ofChange fnExactPagesTakeSpec)

/-- ITS FALSE NEIGHBOUR: 'it returns false'. Refute it at one input. -/
def fnExactPagesTakeWrong : ChangeSpec := { name := "fnExactPagesTake", fn := fun _ => fun
  | [d1, d2] => { results := [.lit (.bool false)], args := [d1, d2] }
  | _ => none }
def FnExactPagesTakeWrongFalsely : Prop := fnExactPagesTakeRow.holds Try.pinned (OpenSpec.ofChange fnExactPagesTakeWrong)

/-- 'laws.FnShareSlept': WHATEVER THE INPUT: true; the input reads as it did. -/
def fnShareSleptSpec : ChangeSpec := { name := "fnShareSlept", fn := fun _ => fun
  | [d1, d2] => { results := [.lit (.bool true)], args := [d1, d2] }
  | _ => none }
def fnShareSleptRow : OpenClaim := { program := "ytfbdkjdockbfdaa", sum := "ae0b85bf8e900cc1eeae4e31c60b4a0af44e479b4be5d1cd7a1c011699343f23", func := "loop.example/quarterdeck/laws.FnShareSlept", spec := "fnShareSlept", unfollowed := true, recurses := true, apart := false }
def FnShareSleptSaid : Prop := fnShareSleptRow.holds Try.pinned (OpenSpec.ofChange fnShareSleptSpec)

/-- ITS FALSE NEIGHBOUR: 'it returns false'. Refute it at one input. -/
def fnShareSleptWrong : ChangeSpec := { name := "fnShareSlept", fn := fun _ => fun
  | [d1, d2] => { results := [.lit (.bool false)], args := [d1, d2] }
  | _ => none }
def FnShareSleptWrongFalsely : Prop := fnShareSleptRow.holds Try.pinned (OpenSpec.ofChange fnShareSleptWrong)

/-- 'laws.FnExactNetOk': WHATEVER THE INPUT: true; the input reads as it did. -/
def fnExactNetOkSpec : ChangeSpec := { name := "fnExactNetOk", fn := fun _ => fun
  | [d] => { results := [.lit (.bool true)], args := [d] }
  | _ => none }
def fnExactNetOkRow : OpenClaim := { program := "ytfbdkjdockbfdaa", sum := "ae0b85bf8e900cc1eeae4e31c60b4a0af44e479b4be5d1cd7a1c011699343f23", func := "loop.example/quarterdeck/laws.FnExactNetOk", spec := "fnExactNetOk", unfollowed := true, recurses := true, apart := false }
def FnExactNetOkSaid : Prop := fnExactNetOkRow.holds Try.pinned (OpenSpec.ofChange fnExactNetOkSpec)

/-- ITS FALSE NEIGHBOUR: 'it returns false'. Refute it at one input. -/
def fnExactNetOkWrong : ChangeSpec := { name := "fnExactNetOk", fn := fun _ => fun
  | [d] => { results := [.lit (.bool false)], args := [d] }
  | _ => none }
def FnExactNetOkWrongFalsely : Prop := fnExactNetOkRow.holds Try.pinned (OpenSpec.ofChange fnExactNetOkWrong)

/- THE SECOND FORM. 'bulk': how many values and letters a reading holds, each counted each time it is reached (what is shared counts as often as it is met; a slice's spare places count too). A statement '..UptoSaid' is the law's where the arguments, and the package variables that the reading takes, are together of bulk at most 1048576: NARROWER than '..Said'. Prove '..Said' where nothing that the law and all that it calls make is longer than what came in: it says more and counts as full. Else prove '..UptoSaid'. A law counts once. -/
mutual
def uptoBulk {H : Type} : DataW H → Nat
  | .lit (.string bytes) => bytes.length + 1
  | .lit _ => 1
  | .nil => 1
  | .ptr d => uptoBulk d + 1
  | .slice elems spare => uptoBulkAll elems + uptoBulkAll spare + 1
  | .agg parts => uptoBulkAll parts + 1
  | .iface _ d => uptoBulk d + 1
  | .map entries => uptoBulkEntries entries + 1
  | .held _ => 1
def uptoBulkAll {H : Type} : List (DataW H) → Nat
  | [] => 0
  | d :: r => uptoBulk d + uptoBulkAll r
def uptoBulkEntries {H : Type} : List (Lit × DataW H) → Nat
  | [] => 0
  | x :: r => uptoBulkEntry x + uptoBulkEntries r
def uptoBulkEntry {H : Type} : Lit × DataW H → Nat
  | (.string bytes, d) => bytes.length + uptoBulk d + 1
  | (_, d) => uptoBulk d + 1
 end
def uptoSmall : (H : Type) → List (DataW H) → Bool := fun _ ds => decide (uptoBulkAll ds ≤ 1048576)
def OpenSpec.upto (s : _root_.Go.ChangeSpec) : _root_.Go.OpenSpec := { _root_.Go.OpenSpec.ofChange s with cond := some uptoSmall }

/-- 'laws.FnSigsBlocked', WHERE WHAT IT READS IS OF BULK AT MOST 1048576: true; the input reads as it did. -/
def fnSigsBlockedUptoRow : OpenClaim := { program := "ytfbdkjdockbfdaa", sum := "ae0b85bf8e900cc1eeae4e31c60b4a0af44e479b4be5d1cd7a1c011699343f23", func := "loop.example/quarterdeck/laws.FnSigsBlocked", spec := "fnSigsBlocked", unfollowed := true, recurses := true, apart := false, narrowed := true }
def FnSigsBlockedUptoSaid : Prop := fnSigsBlockedUptoRow.holds Try.pinned (OpenSpec.upto fnSigsBlockedSpec)

/-- 'laws.FnExactPagesGive', WHERE WHAT IT READS IS OF BULK AT MOST 1048576: true; the input reads as it did. -/
def fnExactPagesGiveUptoRow : OpenClaim := { program := "ytfbdkjdockbfdaa", sum := "ae0b85bf8e900cc1eeae4e31c60b4a0af44e479b4be5d1cd7a1c011699343f23", func := "loop.example/quarterdeck/laws.FnExactPagesGive", spec := "fnExactPagesGive", apart := false, narrowed := true }
def FnExactPagesGiveUptoSaid : Prop := fnExactPagesGiveUptoRow.holds Try.pinned (OpenSpec.upto fnExactPagesGiveSpec)

/-- 'laws.FnExactPagesSet', WHERE WHAT IT READS IS OF BULK AT MOST 1048576: true; the input reads as it did. -/
def fnExactPagesSetUptoRow : OpenClaim := { program := "ytfbdkjdockbfdaa", sum := "ae0b85bf8e900cc1eeae4e31c60b4a0af44e479b4be5d1cd7a1c011699343f23", func := "loop.example/quarterdeck/laws.FnExactPagesSet", spec := "fnExactPagesSet", apart := false, narrowed := true }
def FnExactPagesSetUptoSaid : Prop := fnExactPagesSetUptoRow.holds Try.pinned (OpenSpec.upto fnExactPagesSetSpec)

/-- 'laws.FnExactPagesTake', WHERE WHAT IT READS IS OF BULK AT MOST 1048576: true; the input reads as it did. -/
def fnExactPagesTakeUptoRow : OpenClaim := { program := "ytfbdkjdockbfdaa", sum := "ae0b85bf8e900cc1eeae4e31c60b4a0af44e479b4be5d1cd7a1c011699343f23", func := "loop.example/quarterdeck/laws.FnExactPagesTake", spec := "fnExactPagesTake", apart := false, narrowed := true }
def FnExactPagesTakeUptoSaid : Prop := fnExactPagesTakeUptoRow.holds Try.pinned (OpenSpec.upto fnExactPagesTakeSpec)

/-- 'laws.FnShareSlept', WHERE WHAT IT READS IS OF BULK AT MOST 1048576: true; the input reads as it did. -/
def fnShareSleptUptoRow : OpenClaim := { program := "ytfbdkjdockbfdaa", sum := "ae0b85bf8e900cc1eeae4e31c60b4a0af44e479b4be5d1cd7a1c011699343f23", func := "loop.example/quarterdeck/laws.FnShareSlept", spec := "fnShareSlept", unfollowed := true, recurses := true, apart := false, narrowed := true }
def FnShareSleptUptoSaid : Prop := fnShareSleptUptoRow.holds Try.pinned (OpenSpec.upto fnShareSleptSpec)

/-- 'laws.FnExactNetOk', WHERE WHAT IT READS IS OF BULK AT MOST 1048576: true; the input reads as it did. -/
def fnExactNetOkUptoRow : OpenClaim := { program := "ytfbdkjdockbfdaa", sum := "ae0b85bf8e900cc1eeae4e31c60b4a0af44e479b4be5d1cd7a1c011699343f23", func := "loop.example/quarterdeck/laws.FnExactNetOk", spec := "fnExactNetOk", unfollowed := true, recurses := true, apart := false, narrowed := true }
def FnExactNetOkUptoSaid : Prop := fnExactNetOkUptoRow.holds Try.pinned (OpenSpec.upto fnExactNetOkSpec)

end Rows
end Go.Proofs.Ytfbdkjdockbfdaa
