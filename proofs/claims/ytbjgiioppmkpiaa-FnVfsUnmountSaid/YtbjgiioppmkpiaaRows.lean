/-
  No cell of these rows narrows 'for every input' (looked for: loops, veiled, ifaces, maps, wideKeys, modest, calm, conditions, laid).
  DERIVED. THE GIVEN ROWS OF THIS SEAT. 12 by the template 'for every input the law returns true; each argument reads behind the call as it read before'; 0 by the template 'total and deterministic' (their statements: YtbjgiioppmkpiaaTotals.lean).
  GIVEN WITH THE SEED: the statements are not yours to turn. If you find one false, say at which input.
  Laid BY PROGRAM, IN A SANDBOX (cutbox-rows.mjs): the forced cells as the released guide's own fill.sh prints them over the translation e7cccbf7af788ec6… (all of the seat's roots in one cut). By AI agents, Wed Nov 11 2026. No macro, syntax, notation, axiom, sorry.
-/
import Derived.Test.YtbjgiioppmkpiaaChecked
import GoSem.Claim
import GoSem.ClaimJoined
import GoSem.ClaimMapViews
import Derived.JoinedTies
import Derived.KernelRfl
namespace Go.Proofs.Ytbjgiioppmkpiaa
/- THE CELL 'sum', in the pinned program and in every row, IS THE sha256 OF THE DUMP (.gsa) THAT YtbjgiioppmkpiaaProg.lean LOADS. Nothing in Lean hashes anything: it is a label: what it is worth is what the hold of that sum in a sandbox is worth. -/
noncomputable def Try.pinned : Pinned := { name := "ytbjgiioppmkpiaa", sum := "e7cccbf7af788ec6ccc12aa1a477b802ff3ef15d2b60f2d13355515bd0a901ff", checked := Try.checked }
namespace Rows
def none {H : Type} : Left H := { results := [], args := [] }

/-- 'laws.FnFsMode': WHATEVER THE INPUT: true; the input reads as it did. -/
def fnFsModeSpec : ChangeSpec := { name := "fnFsMode", fn := fun _ => fun
  | [d] => { results := [.lit (.bool true)], args := [d] }
  | _ => none }
def fnFsModeRow : OpenClaim := { program := "ytbjgiioppmkpiaa", sum := "e7cccbf7af788ec6ccc12aa1a477b802ff3ef15d2b60f2d13355515bd0a901ff", func := "loop.example/quarterdeck/laws.FnFsMode", spec := "fnFsMode", unfollowed := true, recurses := true, apart := false }
def FnFsModeSaid : Prop := fnFsModeRow.holds Try.pinned (OpenSpec.ofChange fnFsModeSpec)

/-- ITS FALSE NEIGHBOUR: 'it returns false'. Refute it at one input. -/
def fnFsModeWrong : ChangeSpec := { name := "fnFsMode", fn := fun _ => fun
  | [d] => { results := [.lit (.bool false)], args := [d] }
  | _ => none }
def FnFsModeWrongFalsely : Prop := fnFsModeRow.holds Try.pinned (OpenSpec.ofChange fnFsModeWrong)

/-- 'laws.FnFsDrop': WHATEVER THE INPUT: true; the input reads as it did. -/
def fnFsDropSpec : ChangeSpec := { name := "fnFsDrop", fn := fun _ => fun
  | [d] => { results := [.lit (.bool true)], args := [d] }
  | _ => none }
def fnFsDropRow : OpenClaim := { program := "ytbjgiioppmkpiaa", sum := "e7cccbf7af788ec6ccc12aa1a477b802ff3ef15d2b60f2d13355515bd0a901ff", func := "loop.example/quarterdeck/laws.FnFsDrop", spec := "fnFsDrop", inPlace := ["internal/bytealg.abigen_runtime_cmpstring"], unfollowed := true, recurses := true, apart := false }
def FnFsDropSaid : Prop := fnFsDropRow.holds Try.pinned (OpenSpec.ofChange fnFsDropSpec)

/-- ITS FALSE NEIGHBOUR: 'it returns false'. Refute it at one input. -/
def fnFsDropWrong : ChangeSpec := { name := "fnFsDrop", fn := fun _ => fun
  | [d] => { results := [.lit (.bool false)], args := [d] }
  | _ => none }
def FnFsDropWrongFalsely : Prop := fnFsDropRow.holds Try.pinned (OpenSpec.ofChange fnFsDropWrong)

/-- 'laws.FnVfsUnmount': WHATEVER THE INPUT: true; the input reads as it did. -/
def fnVfsUnmountSpec : ChangeSpec := { name := "fnVfsUnmount", fn := fun _ => fun
  | [d] => { results := [.lit (.bool true)], args := [d] }
  | _ => none }
def fnVfsUnmountRow : OpenClaim := { program := "ytbjgiioppmkpiaa", sum := "e7cccbf7af788ec6ccc12aa1a477b802ff3ef15d2b60f2d13355515bd0a901ff", func := "loop.example/quarterdeck/laws.FnVfsUnmount", spec := "fnVfsUnmount", unfollowed := true, recurses := true, apart := false }
def FnVfsUnmountSaid : Prop := fnVfsUnmountRow.holds Try.pinned (OpenSpec.ofChange fnVfsUnmountSpec)

/-- ITS FALSE NEIGHBOUR: 'it returns false'. Refute it at one input. -/
def fnVfsUnmountWrong : ChangeSpec := { name := "fnVfsUnmount", fn := fun _ => fun
  | [d] => { results := [.lit (.bool false)], args := [d] }
  | _ => none }
def FnVfsUnmountWrongFalsely : Prop := fnVfsUnmountRow.holds Try.pinned (OpenSpec.ofChange fnVfsUnmountWrong)

/-- 'laws.FnExactVfsUnmount': WHATEVER THE INPUT: true; the input reads as it did. -/
def fnExactVfsUnmountSpec : ChangeSpec := { name := "fnExactVfsUnmount", fn := fun _ => fun
  | [d1, d2] => { results := [.lit (.bool true)], args := [d1, d2] }
  | _ => none }
def fnExactVfsUnmountRow : OpenClaim := { program := "ytbjgiioppmkpiaa", sum := "e7cccbf7af788ec6ccc12aa1a477b802ff3ef15d2b60f2d13355515bd0a901ff", func := "loop.example/quarterdeck/laws.FnExactVfsUnmount", spec := "fnExactVfsUnmount", unfollowed := true, recurses := true, apart := false }
def FnExactVfsUnmountSaid : Prop := fnExactVfsUnmountRow.holds Try.pinned (OpenSpec.ofChange fnExactVfsUnmountSpec)

/-- ITS FALSE NEIGHBOUR: 'it returns false'. Refute it at one input. -/
def fnExactVfsUnmountWrong : ChangeSpec := { name := "fnExactVfsUnmount", fn := fun _ => fun
  | [d1, d2] => { results := [.lit (.bool false)], args := [d1, d2] }
  | _ => none }
def FnExactVfsUnmountWrongFalsely : Prop := fnExactVfsUnmountRow.holds Try.pinned (OpenSpec.ofChange fnExactVfsUnmountWrong)

/-- 'laws.FnExactFsDrop': WHATEVER THE INPUT: true; the input reads as it did. -/
def fnExactFsDropSpec : ChangeSpec := { name := "fnExactFsDrop", fn := fun _ => fun
  | [d1, d2, d3, d4] => { results := [.lit (.bool true)], args := [d1, d2, d3, d4] }
  | _ => none }
def fnExactFsDropRow : OpenClaim := { program := "ytbjgiioppmkpiaa", sum := "e7cccbf7af788ec6ccc12aa1a477b802ff3ef15d2b60f2d13355515bd0a901ff", func := "loop.example/quarterdeck/laws.FnExactFsDrop", spec := "fnExactFsDrop", inPlace := ["internal/bytealg.abigen_runtime_cmpstring"], unfollowed := true, recurses := true, apart := false }
def FnExactFsDropSaid : Prop := fnExactFsDropRow.holds Try.pinned (OpenSpec.ofChange fnExactFsDropSpec)

/-- ITS FALSE NEIGHBOUR: 'it returns false'. Refute it at one input. -/
def fnExactFsDropWrong : ChangeSpec := { name := "fnExactFsDrop", fn := fun _ => fun
  | [d1, d2, d3, d4] => { results := [.lit (.bool false)], args := [d1, d2, d3, d4] }
  | _ => none }
def FnExactFsDropWrongFalsely : Prop := fnExactFsDropRow.holds Try.pinned (OpenSpec.ofChange fnExactFsDropWrong)

/-- 'laws.FnExactVfsMount': WHATEVER THE INPUT: true; the input reads as it did. -/
def fnExactVfsMountSpec : ChangeSpec := { name := "fnExactVfsMount", fn := fun _ => fun
  | [d1, d2, d3] => { results := [.lit (.bool true)], args := [d1, d2, d3] }
  | _ => none }
def fnExactVfsMountRow : OpenClaim := { program := "ytbjgiioppmkpiaa", sum := "e7cccbf7af788ec6ccc12aa1a477b802ff3ef15d2b60f2d13355515bd0a901ff", func := "loop.example/quarterdeck/laws.FnExactVfsMount", spec := "fnExactVfsMount", unfollowed := true, recurses := true, apart := false }
def FnExactVfsMountSaid : Prop := fnExactVfsMountRow.holds Try.pinned (OpenSpec.ofChange fnExactVfsMountSpec)

/-- ITS FALSE NEIGHBOUR: 'it returns false'. Refute it at one input. -/
def fnExactVfsMountWrong : ChangeSpec := { name := "fnExactVfsMount", fn := fun _ => fun
  | [d1, d2, d3] => { results := [.lit (.bool false)], args := [d1, d2, d3] }
  | _ => none }
def FnExactVfsMountWrongFalsely : Prop := fnExactVfsMountRow.holds Try.pinned (OpenSpec.ofChange fnExactVfsMountWrong)

/-- 'laws.FnFsMake': WHATEVER THE INPUT: true; the input reads as it did. -/
def fnFsMakeSpec : ChangeSpec := { name := "fnFsMake", fn := fun _ => fun
  | [d] => { results := [.lit (.bool true)], args := [d] }
  | _ => none }
def fnFsMakeRow : OpenClaim := { program := "ytbjgiioppmkpiaa", sum := "e7cccbf7af788ec6ccc12aa1a477b802ff3ef15d2b60f2d13355515bd0a901ff", func := "loop.example/quarterdeck/laws.FnFsMake", spec := "fnFsMake", inPlace := ["internal/bytealg.abigen_runtime_cmpstring", "slices.overlaps[loop.example/quarterdeck/impl.Entry]"], unfollowed := true, recurses := true, apart := false }
def FnFsMakeSaid : Prop := fnFsMakeRow.holds Try.pinned (OpenSpec.ofChange fnFsMakeSpec)

/-- ITS FALSE NEIGHBOUR: 'it returns false'. Refute it at one input. -/
def fnFsMakeWrong : ChangeSpec := { name := "fnFsMake", fn := fun _ => fun
  | [d] => { results := [.lit (.bool false)], args := [d] }
  | _ => none }
def FnFsMakeWrongFalsely : Prop := fnFsMakeRow.holds Try.pinned (OpenSpec.ofChange fnFsMakeWrong)

/-- 'laws.FnFsMoveBack': WHATEVER THE INPUT: true; the input reads as it did. -/
def fnFsMoveBackSpec : ChangeSpec := { name := "fnFsMoveBack", fn := fun _ => fun
  | [d] => { results := [.lit (.bool true)], args := [d] }
  | _ => none }
def fnFsMoveBackRow : OpenClaim := { program := "ytbjgiioppmkpiaa", sum := "e7cccbf7af788ec6ccc12aa1a477b802ff3ef15d2b60f2d13355515bd0a901ff", func := "loop.example/quarterdeck/laws.FnFsMoveBack", spec := "fnFsMoveBack", inPlace := ["internal/bytealg.abigen_runtime_cmpstring", "slices.overlaps[loop.example/quarterdeck/impl.Entry]"], unfollowed := true, recurses := true, apart := false }
def FnFsMoveBackSaid : Prop := fnFsMoveBackRow.holds Try.pinned (OpenSpec.ofChange fnFsMoveBackSpec)

/-- ITS FALSE NEIGHBOUR: 'it returns false'. Refute it at one input. -/
def fnFsMoveBackWrong : ChangeSpec := { name := "fnFsMoveBack", fn := fun _ => fun
  | [d] => { results := [.lit (.bool false)], args := [d] }
  | _ => none }
def FnFsMoveBackWrongFalsely : Prop := fnFsMoveBackRow.holds Try.pinned (OpenSpec.ofChange fnFsMoveBackWrong)

/-- 'laws.FnFsMove': WHATEVER THE INPUT: true; the input reads as it did. -/
def fnFsMoveSpec : ChangeSpec := { name := "fnFsMove", fn := fun _ => fun
  | [d] => { results := [.lit (.bool true)], args := [d] }
  | _ => none }
def fnFsMoveRow : OpenClaim := { program := "ytbjgiioppmkpiaa", sum := "e7cccbf7af788ec6ccc12aa1a477b802ff3ef15d2b60f2d13355515bd0a901ff", func := "loop.example/quarterdeck/laws.FnFsMove", spec := "fnFsMove", inPlace := ["internal/bytealg.abigen_runtime_cmpstring", "slices.overlaps[loop.example/quarterdeck/impl.Entry]"], unfollowed := true, recurses := true, apart := false }
def FnFsMoveSaid : Prop := fnFsMoveRow.holds Try.pinned (OpenSpec.ofChange fnFsMoveSpec)

/-- ITS FALSE NEIGHBOUR: 'it returns false'. Refute it at one input. -/
def fnFsMoveWrong : ChangeSpec := { name := "fnFsMove", fn := fun _ => fun
  | [d] => { results := [.lit (.bool false)], args := [d] }
  | _ => none }
def FnFsMoveWrongFalsely : Prop := fnFsMoveRow.holds Try.pinned (OpenSpec.ofChange fnFsMoveWrong)

/-- 'laws.FnFsLink': WHATEVER THE INPUT: true; the input reads as it did. -/
def fnFsLinkSpec : ChangeSpec := { name := "fnFsLink", fn := fun _ => fun
  | [d] => { results := [.lit (.bool true)], args := [d] }
  | _ => none }
def fnFsLinkRow : OpenClaim := { program := "ytbjgiioppmkpiaa", sum := "e7cccbf7af788ec6ccc12aa1a477b802ff3ef15d2b60f2d13355515bd0a901ff", func := "loop.example/quarterdeck/laws.FnFsLink", spec := "fnFsLink", inPlace := ["internal/bytealg.abigen_runtime_cmpstring", "slices.overlaps[loop.example/quarterdeck/impl.Entry]"], unfollowed := true, recurses := true, apart := false }
def FnFsLinkSaid : Prop := fnFsLinkRow.holds Try.pinned (OpenSpec.ofChange fnFsLinkSpec)

/-- ITS FALSE NEIGHBOUR: 'it returns false'. Refute it at one input. -/
def fnFsLinkWrong : ChangeSpec := { name := "fnFsLink", fn := fun _ => fun
  | [d] => { results := [.lit (.bool false)], args := [d] }
  | _ => none }
def FnFsLinkWrongFalsely : Prop := fnFsLinkRow.holds Try.pinned (OpenSpec.ofChange fnFsLinkWrong)

/-- 'laws.FnFsMakeDrop': WHATEVER THE INPUT: true; the input reads as it did. -/
def fnFsMakeDropSpec : ChangeSpec := { name := "fnFsMakeDrop", fn := fun _ => fun
  | [d] => { results := [.lit (.bool true)], args := [d] }
  | _ => none }
def fnFsMakeDropRow : OpenClaim := { program := "ytbjgiioppmkpiaa", sum := "e7cccbf7af788ec6ccc12aa1a477b802ff3ef15d2b60f2d13355515bd0a901ff", func := "loop.example/quarterdeck/laws.FnFsMakeDrop", spec := "fnFsMakeDrop", inPlace := ["internal/bytealg.abigen_runtime_cmpstring", "slices.overlaps[loop.example/quarterdeck/impl.Entry]"], unfollowed := true, recurses := true, apart := false }
def FnFsMakeDropSaid : Prop := fnFsMakeDropRow.holds Try.pinned (OpenSpec.ofChange fnFsMakeDropSpec)

/-- ITS FALSE NEIGHBOUR: 'it returns false'. Refute it at one input. -/
def fnFsMakeDropWrong : ChangeSpec := { name := "fnFsMakeDrop", fn := fun _ => fun
  | [d] => { results := [.lit (.bool false)], args := [d] }
  | _ => none }
def FnFsMakeDropWrongFalsely : Prop := fnFsMakeDropRow.holds Try.pinned (OpenSpec.ofChange fnFsMakeDropWrong)

/-- 'laws.FnExactFsLink': WHATEVER THE INPUT: true; the input reads as it did. -/
def fnExactFsLinkSpec : ChangeSpec := { name := "fnExactFsLink", fn := fun _ => fun
  | [d1, d2, d3, d4, d5] => { results := [.lit (.bool true)], args := [d1, d2, d3, d4, d5] }
  | _ => none }
def fnExactFsLinkRow : OpenClaim := { program := "ytbjgiioppmkpiaa", sum := "e7cccbf7af788ec6ccc12aa1a477b802ff3ef15d2b60f2d13355515bd0a901ff", func := "loop.example/quarterdeck/laws.FnExactFsLink", spec := "fnExactFsLink", inPlace := ["internal/bytealg.abigen_runtime_cmpstring", "slices.overlaps[loop.example/quarterdeck/impl.Entry]"], unfollowed := true, recurses := true, apart := false }
def FnExactFsLinkSaid : Prop := fnExactFsLinkRow.holds Try.pinned (OpenSpec.ofChange fnExactFsLinkSpec)

/-- ITS FALSE NEIGHBOUR: 'it returns false'. Refute it at one input. -/
def fnExactFsLinkWrong : ChangeSpec := { name := "fnExactFsLink", fn := fun _ => fun
  | [d1, d2, d3, d4, d5] => { results := [.lit (.bool false)], args := [d1, d2, d3, d4, d5] }
  | _ => none }
def FnExactFsLinkWrongFalsely : Prop := fnExactFsLinkRow.holds Try.pinned (OpenSpec.ofChange fnExactFsLinkWrong)

/- THE SECOND FORM. 'bulk': how many values and letters a reading holds, each counted each time it is reached (what is shared counts as often as it is met; a slice's spare places count too). A statement '..UptoSaid' is the law's where the arguments, and the package variables that the reading takes, are together of bulk at most 1048576: NARROWER than '..Said'. Prove '..Said' where nothing that the law and all that it calls make is longer than what came in: it says more and counts as full. Else prove '..UptoSaid'. A law counts once. -/
mutual
def uptoBulk {H : Type} : DataW H → Nat
  | .lit (.string bytes) => bytes.length + 1
  | .lit _ => 1
  | .nil => 1
  | .ptr d => uptoBulk d + 1
  | .slice elems spare => uptoBulkAll elems + uptoBulkAll spare + 1
  | .agg parts => uptoBulkAll parts + 1
  | .iface _ d => uptoBulk d + 1
  | .map entries => uptoBulkEntries entries + 1
  | .held _ => 1
def uptoBulkAll {H : Type} : List (DataW H) → Nat
  | [] => 0
  | d :: r => uptoBulk d + uptoBulkAll r
def uptoBulkEntries {H : Type} : List (Lit × DataW H) → Nat
  | [] => 0
  | x :: r => uptoBulkEntry x + uptoBulkEntries r
def uptoBulkEntry {H : Type} : Lit × DataW H → Nat
  | (.string bytes, d) => bytes.length + uptoBulk d + 1
  | (_, d) => uptoBulk d + 1
 end
def uptoSmall : (H : Type) → List (DataW H) → Bool := fun _ ds => decide (uptoBulkAll ds ≤ 1048576)
def OpenSpec.upto (s : _root_.Go.ChangeSpec) : _root_.Go.OpenSpec := { _root_.Go.OpenSpec.ofChange s with cond := some uptoSmall }

/-- 'laws.FnFsMode', WHERE WHAT IT READS IS OF BULK AT MOST 1048576: true; the input reads as it did. -/
def fnFsModeUptoRow : OpenClaim := { program := "ytbjgiioppmkpiaa", sum := "e7cccbf7af788ec6ccc12aa1a477b802ff3ef15d2b60f2d13355515bd0a901ff", func := "loop.example/quarterdeck/laws.FnFsMode", spec := "fnFsMode", unfollowed := true, recurses := true, apart := false, narrowed := true }
def FnFsModeUptoSaid : Prop := fnFsModeUptoRow.holds Try.pinned (OpenSpec.upto fnFsModeSpec)

/-- 'laws.FnFsDrop', WHERE WHAT IT READS IS OF BULK AT MOST 1048576: true; the input reads as it did. -/
def fnFsDropUptoRow : OpenClaim := { program := "ytbjgiioppmkpiaa", sum := "e7cccbf7af788ec6ccc12aa1a477b802ff3ef15d2b60f2d13355515bd0a901ff", func := "loop.example/quarterdeck/laws.FnFsDrop", spec := "fnFsDrop", inPlace := ["internal/bytealg.abigen_runtime_cmpstring"], unfollowed := true, recurses := true, apart := false, narrowed := true }
def FnFsDropUptoSaid : Prop := fnFsDropUptoRow.holds Try.pinned (OpenSpec.upto fnFsDropSpec)

/-- 'laws.FnVfsUnmount', WHERE WHAT IT READS IS OF BULK AT MOST 1048576: true; the input reads as it did. -/
def fnVfsUnmountUptoRow : OpenClaim := { program := "ytbjgiioppmkpiaa", sum := "e7cccbf7af788ec6ccc12aa1a477b802ff3ef15d2b60f2d13355515bd0a901ff", func := "loop.example/quarterdeck/laws.FnVfsUnmount", spec := "fnVfsUnmount", unfollowed := true, recurses := true, apart := false, narrowed := true }
def FnVfsUnmountUptoSaid : Prop := fnVfsUnmountUptoRow.holds Try.pinned (OpenSpec.upto fnVfsUnmountSpec)

/-- 'laws.FnExactVfsUnmount', WHERE WHAT IT READS IS OF BULK AT MOST 1048576: true; the input reads as it did. -/
def fnExactVfsUnmountUptoRow : OpenClaim := { program := "ytbjgiioppmkpiaa", sum := "e7cccbf7af788ec6ccc12aa1a477b802ff3ef15d2b60f2d13355515bd0a901ff", func := "loop.example/quarterdeck/laws.FnExactVfsUnmount", spec := "fnExactVfsUnmount", unfollowed := true, recurses := true, apart := false, narrowed := true }
def FnExactVfsUnmountUptoSaid : Prop := fnExactVfsUnmountUptoRow.holds Try.pinned (OpenSpec.upto fnExactVfsUnmountSpec)

/-- 'laws.FnExactFsDrop', WHERE WHAT IT READS IS OF BULK AT MOST 1048576: true; the input reads as it did. -/
def fnExactFsDropUptoRow : OpenClaim := { program := "ytbjgiioppmkpiaa", sum := "e7cccbf7af788ec6ccc12aa1a477b802ff3ef15d2b60f2d13355515bd0a901ff", func := "loop.example/quarterdeck/laws.FnExactFsDrop", spec := "fnExactFsDrop", inPlace := ["internal/bytealg.abigen_runtime_cmpstring"], unfollowed := true, recurses := true, apart := false, narrowed := true }
def FnExactFsDropUptoSaid : Prop := fnExactFsDropUptoRow.holds Try.pinned (OpenSpec.upto fnExactFsDropSpec)

/-- 'laws.FnExactVfsMount', WHERE WHAT IT READS IS OF BULK AT MOST 1048576: true; the input reads as it did. -/
def fnExactVfsMountUptoRow : OpenClaim := { program := "ytbjgiioppmkpiaa", sum := "e7cccbf7af788ec6ccc12aa1a477b802ff3ef15d2b60f2d13355515bd0a901ff", func := "loop.example/quarterdeck/laws.FnExactVfsMount", spec := "fnExactVfsMount", unfollowed := true, recurses := true, apart := false, narrowed := true }
def FnExactVfsMountUptoSaid : Prop := fnExactVfsMountUptoRow.holds Try.pinned (OpenSpec.upto fnExactVfsMountSpec)

/-- 'laws.FnFsMake', WHERE WHAT IT READS IS OF BULK AT MOST 1048576: true; the input reads as it did. -/
def fnFsMakeUptoRow : OpenClaim := { program := "ytbjgiioppmkpiaa", sum := "e7cccbf7af788ec6ccc12aa1a477b802ff3ef15d2b60f2d13355515bd0a901ff", func := "loop.example/quarterdeck/laws.FnFsMake", spec := "fnFsMake", inPlace := ["internal/bytealg.abigen_runtime_cmpstring", "slices.overlaps[loop.example/quarterdeck/impl.Entry]"], unfollowed := true, recurses := true, apart := false, narrowed := true }
def FnFsMakeUptoSaid : Prop := fnFsMakeUptoRow.holds Try.pinned (OpenSpec.upto fnFsMakeSpec)

/-- 'laws.FnFsMoveBack', WHERE WHAT IT READS IS OF BULK AT MOST 1048576: true; the input reads as it did. -/
def fnFsMoveBackUptoRow : OpenClaim := { program := "ytbjgiioppmkpiaa", sum := "e7cccbf7af788ec6ccc12aa1a477b802ff3ef15d2b60f2d13355515bd0a901ff", func := "loop.example/quarterdeck/laws.FnFsMoveBack", spec := "fnFsMoveBack", inPlace := ["internal/bytealg.abigen_runtime_cmpstring", "slices.overlaps[loop.example/quarterdeck/impl.Entry]"], unfollowed := true, recurses := true, apart := false, narrowed := true }
def FnFsMoveBackUptoSaid : Prop := fnFsMoveBackUptoRow.holds Try.pinned (OpenSpec.upto fnFsMoveBackSpec)

/-- 'laws.FnFsMove', WHERE WHAT IT READS IS OF BULK AT MOST 1048576: true; the input reads as it did. -/
def fnFsMoveUptoRow : OpenClaim := { program := "ytbjgiioppmkpiaa", sum := "e7cccbf7af788ec6ccc12aa1a477b802ff3ef15d2b60f2d13355515bd0a901ff", func := "loop.example/quarterdeck/laws.FnFsMove", spec := "fnFsMove", inPlace := ["internal/bytealg.abigen_runtime_cmpstring", "slices.overlaps[loop.example/quarterdeck/impl.Entry]"], unfollowed := true, recurses := true, apart := false, narrowed := true }
def FnFsMoveUptoSaid : Prop := fnFsMoveUptoRow.holds Try.pinned (OpenSpec.upto fnFsMoveSpec)

/-- 'laws.FnFsLink', WHERE WHAT IT READS IS OF BULK AT MOST 1048576: true; the input reads as it did. -/
def fnFsLinkUptoRow : OpenClaim := { program := "ytbjgiioppmkpiaa", sum := "e7cccbf7af788ec6ccc12aa1a477b802ff3ef15d2b60f2d13355515bd0a901ff", func := "loop.example/quarterdeck/laws.FnFsLink", spec := "fnFsLink", inPlace := ["internal/bytealg.abigen_runtime_cmpstring", "slices.overlaps[loop.example/quarterdeck/impl.Entry]"], unfollowed := true, recurses := true, apart := false, narrowed := true }
def FnFsLinkUptoSaid : Prop := fnFsLinkUptoRow.holds Try.pinned (OpenSpec.upto fnFsLinkSpec)

/-- 'laws.FnFsMakeDrop', WHERE WHAT IT READS IS OF BULK AT MOST 1048576: true; the input reads as it did. -/
def fnFsMakeDropUptoRow : OpenClaim := { program := "ytbjgiioppmkpiaa", sum := "e7cccbf7af788ec6ccc12aa1a477b802ff3ef15d2b60f2d13355515bd0a901ff", func := "loop.example/quarterdeck/laws.FnFsMakeDrop", spec := "fnFsMakeDrop", inPlace := ["internal/bytealg.abigen_runtime_cmpstring", "slices.overlaps[loop.example/quarterdeck/impl.Entry]"], unfollowed := true, recurses := true, apart := false, narrowed := true }
def FnFsMakeDropUptoSaid : Prop := fnFsMakeDropUptoRow.holds Try.pinned (OpenSpec.upto fnFsMakeDropSpec)

/-- 'laws.FnExactFsLink', WHERE WHAT IT READS IS OF BULK AT MOST 1048576: true; the input reads as it did. -/
def fnExactFsLinkUptoRow : OpenClaim := { program := "ytbjgiioppmkpiaa", sum := "e7cccbf7af788ec6ccc12aa1a477b802ff3ef15d2b60f2d13355515bd0a901ff", func := "loop.example/quarterdeck/laws.FnExactFsLink", spec := "fnExactFsLink", inPlace := ["internal/bytealg.abigen_runtime_cmpstring", "slices.overlaps[loop.example/quarterdeck/impl.Entry]"], unfollowed := true, recurses := true, apart := false, narrowed := true }
def FnExactFsLinkUptoSaid : Prop := fnExactFsLinkUptoRow.holds Try.pinned (OpenSpec.upto fnExactFsLinkSpec)

end Rows
end Go.Proofs.Ytbjgiioppmkpiaa
