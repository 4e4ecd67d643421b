/-
  No cell of these rows narrows 'for every input' (looked for: loops, veiled, ifaces, maps, wideKeys, modest, calm, conditions, laid).
  DERIVED. THE GIVEN ROWS OF THIS SEAT. 9 by the template 'for every input the law returns true; each argument reads behind the call as it read before'; 0 by the template 'total and deterministic' (their statements: YtdkaagpkeomhmaaTotals.lean).
  GIVEN WITH THE SEED: the statements are not yours to turn. If you find one false, say at which input.
  Laid BY PROGRAM, IN A SANDBOX (cutbox-rows.mjs): the forced cells as the released guide's own fill.sh prints them over the translation b04907e3010b60d3… (all of the seat's roots in one cut). By AI agents, Wed Nov 11 2026. No macro, syntax, notation, axiom, sorry.
-/
import Derived.Test.YtdkaagpkeomhmaaChecked
import GoSem.Claim
import GoSem.ClaimJoined
import GoSem.ClaimMapViews
import Derived.JoinedTies
import Derived.KernelRfl
namespace Go.Proofs.Ytdkaagpkeomhmaa
/- THE CELL 'sum', in the pinned program and in every row, IS THE sha256 OF THE DUMP (.gsa) THAT YtdkaagpkeomhmaaProg.lean LOADS. Nothing in Lean hashes anything: it is a label: what it is worth is what the hold of that sum in a sandbox is worth. -/
noncomputable def Try.pinned : Pinned := { name := "ytdkaagpkeomhmaa", sum := "b04907e3010b60d30e8bd93b155fe9a28e2f38714a6894db63396bb19d441d9f", checked := Try.checked }
namespace Rows
def none {H : Type} : Left H := { results := [], args := [] }

/-- 'laws.FnMemCut': WHATEVER THE INPUT: true; the input reads as it did. -/
def fnMemCutSpec : ChangeSpec := { name := "fnMemCut", fn := fun _ => fun
  | [d] => { results := [.lit (.bool true)], args := [d] }
  | _ => none }
def fnMemCutRow : OpenClaim := { program := "ytdkaagpkeomhmaa", sum := "b04907e3010b60d30e8bd93b155fe9a28e2f38714a6894db63396bb19d441d9f", func := "loop.example/quarterdeck/laws.FnMemCut", spec := "fnMemCut", unfollowed := true, recurses := true, plainKeys := false, apart := false }
def FnMemCutSaid : Prop := fnMemCutRow.holds Try.pinned (OpenSpec.ofChange fnMemCutSpec)

/-- ITS FALSE NEIGHBOUR: 'it returns false'. Refute it at one input. -/
def fnMemCutWrong : ChangeSpec := { name := "fnMemCut", fn := fun _ => fun
  | [d] => { results := [.lit (.bool false)], args := [d] }
  | _ => none }
def FnMemCutWrongFalsely : Prop := fnMemCutRow.holds Try.pinned (OpenSpec.ofChange fnMemCutWrong)

/-- 'laws.FnExactBytesSet': WHATEVER THE INPUT: true; the input reads as it did. -/
def fnExactBytesSetSpec : ChangeSpec := { name := "fnExactBytesSet", fn := fun _ => fun
  | [d1, d2, d3, d4] => { results := [.lit (.bool true)], args := [d1, d2, d3, d4] }
  | _ => none }
def fnExactBytesSetRow : OpenClaim := { program := "ytdkaagpkeomhmaa", sum := "b04907e3010b60d30e8bd93b155fe9a28e2f38714a6894db63396bb19d441d9f", func := "loop.example/quarterdeck/laws.FnExactBytesSet", spec := "fnExactBytesSet", unfollowed := true, recurses := true, plainKeys := false, apart := false }
def FnExactBytesSetSaid : Prop := fnExactBytesSetRow.holds Try.pinned (OpenSpec.ofChange fnExactBytesSetSpec)

/-- ITS FALSE NEIGHBOUR: 'it returns false'. Refute it at one input. -/
def fnExactBytesSetWrong : ChangeSpec := { name := "fnExactBytesSet", fn := fun _ => fun
  | [d1, d2, d3, d4] => { results := [.lit (.bool false)], args := [d1, d2, d3, d4] }
  | _ => none }
def FnExactBytesSetWrongFalsely : Prop := fnExactBytesSetRow.holds Try.pinned (OpenSpec.ofChange fnExactBytesSetWrong)

/-- 'laws.FnExactBytesFork': WHATEVER THE INPUT: true; the input reads as it did. -/
def fnExactBytesForkSpec : ChangeSpec := { name := "fnExactBytesFork", fn := fun _ => fun
  | [d1, d2] => { results := [.lit (.bool true)], args := [d1, d2] }
  | _ => none }
def fnExactBytesForkRow : OpenClaim := { program := "ytdkaagpkeomhmaa", sum := "b04907e3010b60d30e8bd93b155fe9a28e2f38714a6894db63396bb19d441d9f", func := "loop.example/quarterdeck/laws.FnExactBytesFork", spec := "fnExactBytesFork", unfollowed := true, recurses := true, plainKeys := false, apart := false }
def FnExactBytesForkSaid : Prop := fnExactBytesForkRow.holds Try.pinned (OpenSpec.ofChange fnExactBytesForkSpec)

/-- ITS FALSE NEIGHBOUR: 'it returns false'. Refute it at one input. -/
def fnExactBytesForkWrong : ChangeSpec := { name := "fnExactBytesFork", fn := fun _ => fun
  | [d1, d2] => { results := [.lit (.bool false)], args := [d1, d2] }
  | _ => none }
def FnExactBytesForkWrongFalsely : Prop := fnExactBytesForkRow.holds Try.pinned (OpenSpec.ofChange fnExactBytesForkWrong)

/-- 'laws.FnExactMemMake': WHATEVER THE INPUT: true; the input reads as it did. -/
def fnExactMemMakeSpec : ChangeSpec := { name := "fnExactMemMake", fn := fun _ => fun
  | [d] => { results := [.lit (.bool true)], args := [d] }
  | _ => none }
def fnExactMemMakeRow : OpenClaim := { program := "ytdkaagpkeomhmaa", sum := "b04907e3010b60d30e8bd93b155fe9a28e2f38714a6894db63396bb19d441d9f", func := "loop.example/quarterdeck/laws.FnExactMemMake", spec := "fnExactMemMake", unfollowed := true, recurses := true, plainKeys := false, apart := false }
def FnExactMemMakeSaid : Prop := fnExactMemMakeRow.holds Try.pinned (OpenSpec.ofChange fnExactMemMakeSpec)

/-- ITS FALSE NEIGHBOUR: 'it returns false'. Refute it at one input. -/
def fnExactMemMakeWrong : ChangeSpec := { name := "fnExactMemMake", fn := fun _ => fun
  | [d] => { results := [.lit (.bool false)], args := [d] }
  | _ => none }
def FnExactMemMakeWrongFalsely : Prop := fnExactMemMakeRow.holds Try.pinned (OpenSpec.ofChange fnExactMemMakeWrong)

/-- 'laws.FnMemMake': WHATEVER THE INPUT: true; the input reads as it did. -/
def fnMemMakeSpec : ChangeSpec := { name := "fnMemMake", fn := fun _ => fun
  | [d] => { results := [.lit (.bool true)], args := [d] }
  | _ => none }
def fnMemMakeRow : OpenClaim := { program := "ytdkaagpkeomhmaa", sum := "b04907e3010b60d30e8bd93b155fe9a28e2f38714a6894db63396bb19d441d9f", func := "loop.example/quarterdeck/laws.FnMemMake", spec := "fnMemMake", unfollowed := true, recurses := true, plainKeys := false, apart := false }
def FnMemMakeSaid : Prop := fnMemMakeRow.holds Try.pinned (OpenSpec.ofChange fnMemMakeSpec)

/-- ITS FALSE NEIGHBOUR: 'it returns false'. Refute it at one input. -/
def fnMemMakeWrong : ChangeSpec := { name := "fnMemMake", fn := fun _ => fun
  | [d] => { results := [.lit (.bool false)], args := [d] }
  | _ => none }
def FnMemMakeWrongFalsely : Prop := fnMemMakeRow.holds Try.pinned (OpenSpec.ofChange fnMemMakeWrong)

/-- 'laws.FnExactMemDrop': WHATEVER THE INPUT: true; the input reads as it did. -/
def fnExactMemDropSpec : ChangeSpec := { name := "fnExactMemDrop", fn := fun _ => fun
  | [d1, d2] => { results := [.lit (.bool true)], args := [d1, d2] }
  | _ => none }
def fnExactMemDropRow : OpenClaim := { program := "ytdkaagpkeomhmaa", sum := "b04907e3010b60d30e8bd93b155fe9a28e2f38714a6894db63396bb19d441d9f", func := "loop.example/quarterdeck/laws.FnExactMemDrop", spec := "fnExactMemDrop", unfollowed := true, recurses := true, plainKeys := false, apart := false }
def FnExactMemDropSaid : Prop := fnExactMemDropRow.holds Try.pinned (OpenSpec.ofChange fnExactMemDropSpec)

/-- ITS FALSE NEIGHBOUR: 'it returns false'. Refute it at one input. -/
def fnExactMemDropWrong : ChangeSpec := { name := "fnExactMemDrop", fn := fun _ => fun
  | [d1, d2] => { results := [.lit (.bool false)], args := [d1, d2] }
  | _ => none }
def FnExactMemDropWrongFalsely : Prop := fnExactMemDropRow.holds Try.pinned (OpenSpec.ofChange fnExactMemDropWrong)

/-- 'laws.FnBytesFork': WHATEVER THE INPUT: true; the input reads as it did. -/
def fnBytesForkSpec : ChangeSpec := { name := "fnBytesFork", fn := fun _ => fun
  | [d] => { results := [.lit (.bool true)], args := [d] }
  | _ => none }
def fnBytesForkRow : OpenClaim := { program := "ytdkaagpkeomhmaa", sum := "b04907e3010b60d30e8bd93b155fe9a28e2f38714a6894db63396bb19d441d9f", func := "loop.example/quarterdeck/laws.FnBytesFork", spec := "fnBytesFork", unfollowed := true, recurses := true, plainKeys := false, apart := false }
def FnBytesForkSaid : Prop := fnBytesForkRow.holds Try.pinned (OpenSpec.ofChange fnBytesForkSpec)

/-- ITS FALSE NEIGHBOUR: 'it returns false'. Refute it at one input. -/
def fnBytesForkWrong : ChangeSpec := { name := "fnBytesFork", fn := fun _ => fun
  | [d] => { results := [.lit (.bool false)], args := [d] }
  | _ => none }
def FnBytesForkWrongFalsely : Prop := fnBytesForkRow.holds Try.pinned (OpenSpec.ofChange fnBytesForkWrong)

/-- 'laws.FnMemDrop': WHATEVER THE INPUT: true; the input reads as it did. -/
def fnMemDropSpec : ChangeSpec := { name := "fnMemDrop", fn := fun _ => fun
  | [d] => { results := [.lit (.bool true)], args := [d] }
  | _ => none }
def fnMemDropRow : OpenClaim := { program := "ytdkaagpkeomhmaa", sum := "b04907e3010b60d30e8bd93b155fe9a28e2f38714a6894db63396bb19d441d9f", func := "loop.example/quarterdeck/laws.FnMemDrop", spec := "fnMemDrop", unfollowed := true, recurses := true, plainKeys := false, apart := false }
def FnMemDropSaid : Prop := fnMemDropRow.holds Try.pinned (OpenSpec.ofChange fnMemDropSpec)

/-- ITS FALSE NEIGHBOUR: 'it returns false'. Refute it at one input. -/
def fnMemDropWrong : ChangeSpec := { name := "fnMemDrop", fn := fun _ => fun
  | [d] => { results := [.lit (.bool false)], args := [d] }
  | _ => none }
def FnMemDropWrongFalsely : Prop := fnMemDropRow.holds Try.pinned (OpenSpec.ofChange fnMemDropWrong)

/-- 'laws.FnBytesSet': WHATEVER THE INPUT: true; the input reads as it did. -/
def fnBytesSetSpec : ChangeSpec := { name := "fnBytesSet", fn := fun _ => fun
  | [d] => { results := [.lit (.bool true)], args := [d] }
  | _ => none }
def fnBytesSetRow : OpenClaim := { program := "ytdkaagpkeomhmaa", sum := "b04907e3010b60d30e8bd93b155fe9a28e2f38714a6894db63396bb19d441d9f", func := "loop.example/quarterdeck/laws.FnBytesSet", spec := "fnBytesSet", unfollowed := true, recurses := true, plainKeys := false, apart := false }
def FnBytesSetSaid : Prop := fnBytesSetRow.holds Try.pinned (OpenSpec.ofChange fnBytesSetSpec)

/-- ITS FALSE NEIGHBOUR: 'it returns false'. Refute it at one input. -/
def fnBytesSetWrong : ChangeSpec := { name := "fnBytesSet", fn := fun _ => fun
  | [d] => { results := [.lit (.bool false)], args := [d] }
  | _ => none }
def FnBytesSetWrongFalsely : Prop := fnBytesSetRow.holds Try.pinned (OpenSpec.ofChange fnBytesSetWrong)

/- THE SECOND FORM. 'bulk': how many values and letters a reading holds, each counted each time it is reached (what is shared counts as often as it is met; a slice's spare places count too). A statement '..UptoSaid' is the law's where the arguments, and the package variables that the reading takes, are together of bulk at most 1048576: NARROWER than '..Said'. Prove '..Said' where nothing that the law and all that it calls make is longer than what came in: it says more and counts as full. Else prove '..UptoSaid'. A law counts once. -/
mutual
def uptoBulk {H : Type} : DataW H → Nat
  | .lit (.string bytes) => bytes.length + 1
  | .lit _ => 1
  | .nil => 1
  | .ptr d => uptoBulk d + 1
  | .slice elems spare => uptoBulkAll elems + uptoBulkAll spare + 1
  | .agg parts => uptoBulkAll parts + 1
  | .iface _ d => uptoBulk d + 1
  | .map entries => uptoBulkEntries entries + 1
  | .held _ => 1
def uptoBulkAll {H : Type} : List (DataW H) → Nat
  | [] => 0
  | d :: r => uptoBulk d + uptoBulkAll r
def uptoBulkEntries {H : Type} : List (Lit × DataW H) → Nat
  | [] => 0
  | x :: r => uptoBulkEntry x + uptoBulkEntries r
def uptoBulkEntry {H : Type} : Lit × DataW H → Nat
  | (.string bytes, d) => bytes.length + uptoBulk d + 1
  | (_, d) => uptoBulk d + 1
 end
def uptoSmall : (H : Type) → List (DataW H) → Bool := fun _ ds => decide (uptoBulkAll ds ≤ 1048576)
def OpenSpec.upto (s : _root_.Go.ChangeSpec) : _root_.Go.OpenSpec := { _root_.Go.OpenSpec.ofChange s with cond := some uptoSmall }

/-- 'laws.FnMemCut', WHERE WHAT IT READS IS OF BULK AT MOST 1048576: true; the input reads as it did. -/
def fnMemCutUptoRow : OpenClaim := { program := "ytdkaagpkeomhmaa", sum := "b04907e3010b60d30e8bd93b155fe9a28e2f38714a6894db63396bb19d441d9f", func := "loop.example/quarterdeck/laws.FnMemCut", spec := "fnMemCut", unfollowed := true, recurses := true, plainKeys := false, apart := false, narrowed := true }
def FnMemCutUptoSaid : Prop := fnMemCutUptoRow.holds Try.pinned (OpenSpec.upto fnMemCutSpec)

/-- 'laws.FnExactBytesSet', WHERE WHAT IT READS IS OF BULK AT MOST 1048576: true; the input reads as it did. -/
def fnExactBytesSetUptoRow : OpenClaim := { program := "ytdkaagpkeomhmaa", sum := "b04907e3010b60d30e8bd93b155fe9a28e2f38714a6894db63396bb19d441d9f", func := "loop.example/quarterdeck/laws.FnExactBytesSet", spec := "fnExactBytesSet", unfollowed := true, recurses := true, plainKeys := false, apart := false, narrowed := true }
def FnExactBytesSetUptoSaid : Prop := fnExactBytesSetUptoRow.holds Try.pinned (OpenSpec.upto fnExactBytesSetSpec)

/-- 'laws.FnExactBytesFork', WHERE WHAT IT READS IS OF BULK AT MOST 1048576: true; the input reads as it did. -/
def fnExactBytesForkUptoRow : OpenClaim := { program := "ytdkaagpkeomhmaa", sum := "b04907e3010b60d30e8bd93b155fe9a28e2f38714a6894db63396bb19d441d9f", func := "loop.example/quarterdeck/laws.FnExactBytesFork", spec := "fnExactBytesFork", unfollowed := true, recurses := true, plainKeys := false, apart := false, narrowed := true }
def FnExactBytesForkUptoSaid : Prop := fnExactBytesForkUptoRow.holds Try.pinned (OpenSpec.upto fnExactBytesForkSpec)

/-- 'laws.FnExactMemMake', WHERE WHAT IT READS IS OF BULK AT MOST 1048576: true; the input reads as it did. -/
def fnExactMemMakeUptoRow : OpenClaim := { program := "ytdkaagpkeomhmaa", sum := "b04907e3010b60d30e8bd93b155fe9a28e2f38714a6894db63396bb19d441d9f", func := "loop.example/quarterdeck/laws.FnExactMemMake", spec := "fnExactMemMake", unfollowed := true, recurses := true, plainKeys := false, apart := false, narrowed := true }
def FnExactMemMakeUptoSaid : Prop := fnExactMemMakeUptoRow.holds Try.pinned (OpenSpec.upto fnExactMemMakeSpec)

/-- 'laws.FnMemMake', WHERE WHAT IT READS IS OF BULK AT MOST 1048576: true; the input reads as it did. -/
def fnMemMakeUptoRow : OpenClaim := { program := "ytdkaagpkeomhmaa", sum := "b04907e3010b60d30e8bd93b155fe9a28e2f38714a6894db63396bb19d441d9f", func := "loop.example/quarterdeck/laws.FnMemMake", spec := "fnMemMake", unfollowed := true, recurses := true, plainKeys := false, apart := false, narrowed := true }
def FnMemMakeUptoSaid : Prop := fnMemMakeUptoRow.holds Try.pinned (OpenSpec.upto fnMemMakeSpec)

/-- 'laws.FnExactMemDrop', WHERE WHAT IT READS IS OF BULK AT MOST 1048576: true; the input reads as it did. -/
def fnExactMemDropUptoRow : OpenClaim := { program := "ytdkaagpkeomhmaa", sum := "b04907e3010b60d30e8bd93b155fe9a28e2f38714a6894db63396bb19d441d9f", func := "loop.example/quarterdeck/laws.FnExactMemDrop", spec := "fnExactMemDrop", unfollowed := true, recurses := true, plainKeys := false, apart := false, narrowed := true }
def FnExactMemDropUptoSaid : Prop := fnExactMemDropUptoRow.holds Try.pinned (OpenSpec.upto fnExactMemDropSpec)

/-- 'laws.FnBytesFork', WHERE WHAT IT READS IS OF BULK AT MOST 1048576: true; the input reads as it did. -/
def fnBytesForkUptoRow : OpenClaim := { program := "ytdkaagpkeomhmaa", sum := "b04907e3010b60d30e8bd93b155fe9a28e2f38714a6894db63396bb19d441d9f", func := "loop.example/quarterdeck/laws.FnBytesFork", spec := "fnBytesFork", unfollowed := true, recurses := true, plainKeys := false, apart := false, narrowed := true }
def FnBytesForkUptoSaid : Prop := fnBytesForkUptoRow.holds Try.pinned (OpenSpec.upto fnBytesForkSpec)

/-- 'laws.FnMemDrop', WHERE WHAT IT READS IS OF BULK AT MOST 1048576: true; the input reads as it did. -/
def fnMemDropUptoRow : OpenClaim := { program := "ytdkaagpkeomhmaa", sum := "b04907e3010b60d30e8bd93b155fe9a28e2f38714a6894db63396bb19d441d9f", func := "loop.example/quarterdeck/laws.FnMemDrop", spec := "fnMemDrop", unfollowed := true, recurses := true, plainKeys := false, apart := false, narrowed := true }
def FnMemDropUptoSaid : Prop := fnMemDropUptoRow.holds Try.pinned (OpenSpec.upto fnMemDropSpec)

/-- 'laws.FnBytesSet', WHERE WHAT IT READS IS OF BULK AT MOST 1048576: true; the input reads as it did. -/
def fnBytesSetUptoRow : OpenClaim := { program := "ytdkaagpkeomhmaa", sum := "b04907e3010b60d30e8bd93b155fe9a28e2f38714a6894db63396bb19d441d9f", func := "loop.example/quarterdeck/laws.FnBytesSet", spec := "fnBytesSet", unfollowed := true, recurses := true, plainKeys := false, apart := false, narrowed := true }
def FnBytesSetUptoSaid : Prop := fnBytesSetUptoRow.holds Try.pinned (OpenSpec.upto fnBytesSetSpec)

end Rows
end Go.Proofs.Ytdkaagpkeomhmaa
