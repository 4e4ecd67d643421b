/-
  No cell of these rows narrows 'for every input' (looked for: loops, veiled, ifaces, maps, wideKeys, modest, calm, conditions, laid).
  DERIVED. THE GIVEN ROWS OF THIS SEAT. 12 by the template 'for every input the law returns true; each argument reads behind the call as it read before'; 0 by the template 'total and deterministic' (their statements: YthhopbicmaipgaaTotals.lean).
  GIVEN WITH THE SEED: the statements are not yours to turn. If you find one false, say at which input.
  Laid BY PROGRAM, IN A SANDBOX (cutbox-rows.mjs): the forced cells as the released guide's own fill.sh prints them over the translation 7cb9545b2dfa35ff… (all of the seat's roots in one cut). By AI agents, Wed Nov 11 2026. No macro, syntax, notation, axiom, sorry.
-/
import Derived.Test.YthhopbicmaipgaaChecked
import GoSem.Claim
import GoSem.ClaimJoined
import GoSem.ClaimMapViews
import Derived.JoinedTies
import Derived.KernelRfl
namespace Go.Proofs.Ythhopbicmaipgaa
/- THE CELL 'sum', in the pinned program and in every row, IS THE sha256 OF THE DUMP (.gsa) THAT YthhopbicmaipgaaProg.lean LOADS. Nothing in Lean hashes anything: it is a label: what it is worth is what the hold of that sum in a sandbox is worth. -/
noncomputable def Try.pinned : Pinned := { name := "ythhopbicmaipgaa", sum := "7cb9545b2dfa35ffba1f8bb486d4d4c153eff042040aabdbd5625f71d23fb178", checked := Try.checked }
namespace Rows
def none {H : Type} : Left H := { results := [], args := [] }

/-- 'laws.FnFsLinks': WHATEVER THE INPUT: true; the input reads as it did. -/
def fnFsLinksSpec : ChangeSpec := { name := "fnFsLinks", fn := fun _ => fun
  | [d1, d2] => { results := [.lit (.bool true)], args := [d1, d2] }
  | _ => none }
def fnFsLinksRow : OpenClaim := { program := "ythhopbicmaipgaa", sum := "7cb9545b2dfa35ffba1f8bb486d4d4c153eff042040aabdbd5625f71d23fb178", func := "loop.example/quarterdeck/laws.FnFsLinks", spec := "fnFsLinks", inPlace := ["internal/bytealg.abigen_runtime_cmpstring", "slices.overlaps[loop.example/quarterdeck/impl.Entry]"], unfollowed := true, recurses := true, apart := false }
def FnFsLinksSaid : Prop := fnFsLinksRow.holds Try.pinned (OpenSpec.ofChange fnFsLinksSpec)

/-- ITS FALSE NEIGHBOUR: 'it returns false'. Refute it at one input. -/
def fnFsLinksWrong : ChangeSpec := { name := "fnFsLinks", fn := fun _ => fun
  | [d1, d2] => { results := [.lit (.bool false)], args := [d1, d2] }
  | _ => none }
def FnFsLinksWrongFalsely : Prop := fnFsLinksRow.holds Try.pinned (OpenSpec.ofChange fnFsLinksWrong)

/-- 'laws.FnExactFsMake': WHATEVER THE INPUT: true; the input reads as it did. -/
def fnExactFsMakeSpec : ChangeSpec := { name := "fnExactFsMake", fn := fun _ => fun
  | [d1, d2, d3, d4, d5, d6] => { results := [.lit (.bool true)], args := [d1, d2, d3, d4, d5, d6] }
  | _ => none }
def fnExactFsMakeRow : OpenClaim := { program := "ythhopbicmaipgaa", sum := "7cb9545b2dfa35ffba1f8bb486d4d4c153eff042040aabdbd5625f71d23fb178", func := "loop.example/quarterdeck/laws.FnExactFsMake", spec := "fnExactFsMake", inPlace := ["internal/bytealg.abigen_runtime_cmpstring", "slices.overlaps[loop.example/quarterdeck/impl.Entry]"], unfollowed := true, recurses := true, apart := false }
def FnExactFsMakeSaid : Prop := fnExactFsMakeRow.holds Try.pinned (OpenSpec.ofChange fnExactFsMakeSpec)

/-- ITS FALSE NEIGHBOUR: 'it returns false'. Refute it at one input. -/
def fnExactFsMakeWrong : ChangeSpec := { name := "fnExactFsMake", fn := fun _ => fun
  | [d1, d2, d3, d4, d5, d6] => { results := [.lit (.bool false)], args := [d1, d2, d3, d4, d5, d6] }
  | _ => none }
def FnExactFsMakeWrongFalsely : Prop := fnExactFsMakeRow.holds Try.pinned (OpenSpec.ofChange fnExactFsMakeWrong)

/-- 'laws.FnExactFsWrite': WHATEVER THE INPUT: true; the input reads as it did. -/
def fnExactFsWriteSpec : ChangeSpec := { name := "fnExactFsWrite", fn := fun _ => fun
  | [d1, d2, d3, d4] => { results := [.lit (.bool true)], args := [d1, d2, d3, d4] }
  | _ => none }
def fnExactFsWriteRow : OpenClaim := { program := "ythhopbicmaipgaa", sum := "7cb9545b2dfa35ffba1f8bb486d4d4c153eff042040aabdbd5625f71d23fb178", func := "loop.example/quarterdeck/laws.FnExactFsWrite", spec := "fnExactFsWrite", unfollowed := true, recurses := true, apart := false }
def FnExactFsWriteSaid : Prop := fnExactFsWriteRow.holds Try.pinned (OpenSpec.ofChange fnExactFsWriteSpec)

/-- ITS FALSE NEIGHBOUR: 'it returns false'. Refute it at one input. -/
def fnExactFsWriteWrong : ChangeSpec := { name := "fnExactFsWrite", fn := fun _ => fun
  | [d1, d2, d3, d4] => { results := [.lit (.bool false)], args := [d1, d2, d3, d4] }
  | _ => none }
def FnExactFsWriteWrongFalsely : Prop := fnExactFsWriteRow.holds Try.pinned (OpenSpec.ofChange fnExactFsWriteWrong)

/-- 'laws.FnExactFsOpen': WHATEVER THE INPUT: true; the input reads as it did. -/
def fnExactFsOpenSpec : ChangeSpec := { name := "fnExactFsOpen", fn := fun _ => fun
  | [d1, d2, d3] => { results := [.lit (.bool true)], args := [d1, d2, d3] }
  | _ => none }
def fnExactFsOpenRow : OpenClaim := { program := "ythhopbicmaipgaa", sum := "7cb9545b2dfa35ffba1f8bb486d4d4c153eff042040aabdbd5625f71d23fb178", func := "loop.example/quarterdeck/laws.FnExactFsOpen", spec := "fnExactFsOpen", unfollowed := true, recurses := true, apart := false }
def FnExactFsOpenSaid : Prop := fnExactFsOpenRow.holds Try.pinned (OpenSpec.ofChange fnExactFsOpenSpec)

/-- ITS FALSE NEIGHBOUR: 'it returns false'. Refute it at one input. -/
def fnExactFsOpenWrong : ChangeSpec := { name := "fnExactFsOpen", fn := fun _ => fun
  | [d1, d2, d3] => { results := [.lit (.bool false)], args := [d1, d2, d3] }
  | _ => none }
def FnExactFsOpenWrongFalsely : Prop := fnExactFsOpenRow.holds Try.pinned (OpenSpec.ofChange fnExactFsOpenWrong)

/-- 'laws.FnFsApart': WHATEVER THE INPUT: true; the input reads as it did. -/
def fnFsApartSpec : ChangeSpec := { name := "fnFsApart", fn := fun _ => fun
  | [d1, d2] => { results := [.lit (.bool true)], args := [d1, d2] }
  | _ => none }
def fnFsApartRow : OpenClaim := { program := "ythhopbicmaipgaa", sum := "7cb9545b2dfa35ffba1f8bb486d4d4c153eff042040aabdbd5625f71d23fb178", func := "loop.example/quarterdeck/laws.FnFsApart", spec := "fnFsApart", unfollowed := true, recurses := true, apart := false }
def FnFsApartSaid : Prop := fnFsApartRow.holds Try.pinned (OpenSpec.ofChange fnFsApartSpec)

/-- ITS FALSE NEIGHBOUR: 'it returns false'. Refute it at one input. -/
def fnFsApartWrong : ChangeSpec := { name := "fnFsApart", fn := fun _ => fun
  | [d1, d2] => { results := [.lit (.bool false)], args := [d1, d2] }
  | _ => none }
def FnFsApartWrongFalsely : Prop := fnFsApartRow.holds Try.pinned (OpenSpec.ofChange fnFsApartWrong)

/-- 'laws.FnFsOpen': WHATEVER THE INPUT: true; the input reads as it did. -/
def fnFsOpenSpec : ChangeSpec := { name := "fnFsOpen", fn := fun _ => fun
  | [d] => { results := [.lit (.bool true)], args := [d] }
  | _ => none }
def fnFsOpenRow : OpenClaim := { program := "ythhopbicmaipgaa", sum := "7cb9545b2dfa35ffba1f8bb486d4d4c153eff042040aabdbd5625f71d23fb178", func := "loop.example/quarterdeck/laws.FnFsOpen", spec := "fnFsOpen", unfollowed := true, recurses := true, apart := false }
def FnFsOpenSaid : Prop := fnFsOpenRow.holds Try.pinned (OpenSpec.ofChange fnFsOpenSpec)

/-- ITS FALSE NEIGHBOUR: 'it returns false'. Refute it at one input. -/
def fnFsOpenWrong : ChangeSpec := { name := "fnFsOpen", fn := fun _ => fun
  | [d] => { results := [.lit (.bool false)], args := [d] }
  | _ => none }
def FnFsOpenWrongFalsely : Prop := fnFsOpenRow.holds Try.pinned (OpenSpec.ofChange fnFsOpenWrong)

/-- 'laws.FnFsWrite': WHATEVER THE INPUT: true; the input reads as it did. -/
def fnFsWriteSpec : ChangeSpec := { name := "fnFsWrite", fn := fun _ => fun
  | [d] => { results := [.lit (.bool true)], args := [d] }
  | _ => none }
def fnFsWriteRow : OpenClaim := { program := "ythhopbicmaipgaa", sum := "7cb9545b2dfa35ffba1f8bb486d4d4c153eff042040aabdbd5625f71d23fb178", func := "loop.example/quarterdeck/laws.FnFsWrite", spec := "fnFsWrite", unfollowed := true, recurses := true, apart := false }
def FnFsWriteSaid : Prop := fnFsWriteRow.holds Try.pinned (OpenSpec.ofChange fnFsWriteSpec)

/-- ITS FALSE NEIGHBOUR: 'it returns false'. Refute it at one input. -/
def fnFsWriteWrong : ChangeSpec := { name := "fnFsWrite", fn := fun _ => fun
  | [d] => { results := [.lit (.bool false)], args := [d] }
  | _ => none }
def FnFsWriteWrongFalsely : Prop := fnFsWriteRow.holds Try.pinned (OpenSpec.ofChange fnFsWriteWrong)

/-- 'laws.FnExactFsMode': WHATEVER THE INPUT: true; the input reads as it did. -/
def fnExactFsModeSpec : ChangeSpec := { name := "fnExactFsMode", fn := fun _ => fun
  | [d1, d2, d3, d4] => { results := [.lit (.bool true)], args := [d1, d2, d3, d4] }
  | _ => none }
def fnExactFsModeRow : OpenClaim := { program := "ythhopbicmaipgaa", sum := "7cb9545b2dfa35ffba1f8bb486d4d4c153eff042040aabdbd5625f71d23fb178", func := "loop.example/quarterdeck/laws.FnExactFsMode", spec := "fnExactFsMode", unfollowed := true, recurses := true, apart := false }
def FnExactFsModeSaid : Prop := fnExactFsModeRow.holds Try.pinned (OpenSpec.ofChange fnExactFsModeSpec)

/-- ITS FALSE NEIGHBOUR: 'it returns false'. Refute it at one input. -/
def fnExactFsModeWrong : ChangeSpec := { name := "fnExactFsMode", fn := fun _ => fun
  | [d1, d2, d3, d4] => { results := [.lit (.bool false)], args := [d1, d2, d3, d4] }
  | _ => none }
def FnExactFsModeWrongFalsely : Prop := fnExactFsModeRow.holds Try.pinned (OpenSpec.ofChange fnExactFsModeWrong)

/-- 'laws.FnExactFsOwn': WHATEVER THE INPUT: true; the input reads as it did. -/
def fnExactFsOwnSpec : ChangeSpec := { name := "fnExactFsOwn", fn := fun _ => fun
  | [d1, d2, d3, d4] => { results := [.lit (.bool true)], args := [d1, d2, d3, d4] }
  | _ => none }
def fnExactFsOwnRow : OpenClaim := { program := "ythhopbicmaipgaa", sum := "7cb9545b2dfa35ffba1f8bb486d4d4c153eff042040aabdbd5625f71d23fb178", func := "loop.example/quarterdeck/laws.FnExactFsOwn", spec := "fnExactFsOwn", unfollowed := true, recurses := true, apart := false }
def FnExactFsOwnSaid : Prop := fnExactFsOwnRow.holds Try.pinned (OpenSpec.ofChange fnExactFsOwnSpec)

/-- ITS FALSE NEIGHBOUR: 'it returns false'. Refute it at one input. -/
def fnExactFsOwnWrong : ChangeSpec := { name := "fnExactFsOwn", fn := fun _ => fun
  | [d1, d2, d3, d4] => { results := [.lit (.bool false)], args := [d1, d2, d3, d4] }
  | _ => none }
def FnExactFsOwnWrongFalsely : Prop := fnExactFsOwnRow.holds Try.pinned (OpenSpec.ofChange fnExactFsOwnWrong)

/-- 'laws.FnExactFsMark': WHATEVER THE INPUT: true; the input reads as it did. -/
def fnExactFsMarkSpec : ChangeSpec := { name := "fnExactFsMark", fn := fun _ => fun
  | [d1, d2, d3, d4] => { results := [.lit (.bool true)], args := [d1, d2, d3, d4] }
  | _ => none }
def fnExactFsMarkRow : OpenClaim := { program := "ythhopbicmaipgaa", sum := "7cb9545b2dfa35ffba1f8bb486d4d4c153eff042040aabdbd5625f71d23fb178", func := "loop.example/quarterdeck/laws.FnExactFsMark", spec := "fnExactFsMark", unfollowed := true, recurses := true, apart := false }
def FnExactFsMarkSaid : Prop := fnExactFsMarkRow.holds Try.pinned (OpenSpec.ofChange fnExactFsMarkSpec)

/-- ITS FALSE NEIGHBOUR: 'it returns false'. Refute it at one input. -/
def fnExactFsMarkWrong : ChangeSpec := { name := "fnExactFsMark", fn := fun _ => fun
  | [d1, d2, d3, d4] => { results := [.lit (.bool false)], args := [d1, d2, d3, d4] }
  | _ => none }
def FnExactFsMarkWrongFalsely : Prop := fnExactFsMarkRow.holds Try.pinned (OpenSpec.ofChange fnExactFsMarkWrong)

/-- 'laws.FnFsOwn': WHATEVER THE INPUT: true; the input reads as it did. -/
def fnFsOwnSpec : ChangeSpec := { name := "fnFsOwn", fn := fun _ => fun
  | [d] => { results := [.lit (.bool true)], args := [d] }
  | _ => none }
def fnFsOwnRow : OpenClaim := { program := "ythhopbicmaipgaa", sum := "7cb9545b2dfa35ffba1f8bb486d4d4c153eff042040aabdbd5625f71d23fb178", func := "loop.example/quarterdeck/laws.FnFsOwn", spec := "fnFsOwn", unfollowed := true, recurses := true, apart := false }
def FnFsOwnSaid : Prop := fnFsOwnRow.holds Try.pinned (OpenSpec.ofChange fnFsOwnSpec)

/-- ITS FALSE NEIGHBOUR: 'it returns false'. Refute it at one input. -/
def fnFsOwnWrong : ChangeSpec := { name := "fnFsOwn", fn := fun _ => fun
  | [d] => { results := [.lit (.bool false)], args := [d] }
  | _ => none }
def FnFsOwnWrongFalsely : Prop := fnFsOwnRow.holds Try.pinned (OpenSpec.ofChange fnFsOwnWrong)

/-- 'laws.FnFsMark': WHATEVER THE INPUT: true; the input reads as it did. -/
def fnFsMarkSpec : ChangeSpec := { name := "fnFsMark", fn := fun _ => fun
  | [d] => { results := [.lit (.bool true)], args := [d] }
  | _ => none }
def fnFsMarkRow : OpenClaim := { program := "ythhopbicmaipgaa", sum := "7cb9545b2dfa35ffba1f8bb486d4d4c153eff042040aabdbd5625f71d23fb178", func := "loop.example/quarterdeck/laws.FnFsMark", spec := "fnFsMark", unfollowed := true, recurses := true, apart := false }
def FnFsMarkSaid : Prop := fnFsMarkRow.holds Try.pinned (OpenSpec.ofChange fnFsMarkSpec)

/-- ITS FALSE NEIGHBOUR: 'it returns false'. Refute it at one input. -/
def fnFsMarkWrong : ChangeSpec := { name := "fnFsMark", fn := fun _ => fun
  | [d] => { results := [.lit (.bool false)], args := [d] }
  | _ => none }
def FnFsMarkWrongFalsely : Prop := fnFsMarkRow.holds Try.pinned (OpenSpec.ofChange fnFsMarkWrong)

/- THE SECOND FORM. 'bulk': how many values and letters a reading holds, each counted each time it is reached (what is shared counts as often as it is met; a slice's spare places count too). A statement '..UptoSaid' is the law's where the arguments, and the package variables that the reading takes, are together of bulk at most 1048576: NARROWER than '..Said'. Prove '..Said' where nothing that the law and all that it calls make is longer than what came in: it says more and counts as full. Else prove '..UptoSaid'. A law counts once. -/
mutual
def uptoBulk {H : Type} : DataW H → Nat
  | .lit (.string bytes) => bytes.length + 1
  | .lit _ => 1
  | .nil => 1
  | .ptr d => uptoBulk d + 1
  | .slice elems spare => uptoBulkAll elems + uptoBulkAll spare + 1
  | .agg parts => uptoBulkAll parts + 1
  | .iface _ d => uptoBulk d + 1
  | .map entries => uptoBulkEntries entries + 1
  | .held _ => 1
def uptoBulkAll {H : Type} : List (DataW H) → Nat
  | [] => 0
  | d :: r => uptoBulk d + uptoBulkAll r
def uptoBulkEntries {H : Type} : List (Lit × DataW H) → Nat
  | [] => 0
  | x :: r => uptoBulkEntry x + uptoBulkEntries r
def uptoBulkEntry {H : Type} : Lit × DataW H → Nat
  | (.string bytes, d) => bytes.length + uptoBulk d + 1
  | (_, d) => uptoBulk d + 1
 end
def uptoSmall : (H : Type) → List (DataW H) → Bool := fun _ ds => decide (uptoBulkAll ds ≤ 1048576)
def OpenSpec.upto (s : _root_.Go.ChangeSpec) : _root_.Go.OpenSpec := { _root_.Go.OpenSpec.ofChange s with cond := some uptoSmall }

/-- 'laws.FnFsLinks', WHERE WHAT IT READS IS OF BULK AT MOST 1048576: true; the input reads as it did. -/
def fnFsLinksUptoRow : OpenClaim := { program := "ythhopbicmaipgaa", sum := "7cb9545b2dfa35ffba1f8bb486d4d4c153eff042040aabdbd5625f71d23fb178", func := "loop.example/quarterdeck/laws.FnFsLinks", spec := "fnFsLinks", inPlace := ["internal/bytealg.abigen_runtime_cmpstring", "slices.overlaps[loop.example/quarterdeck/impl.Entry]"], unfollowed := true, recurses := true, apart := false, narrowed := true }
def FnFsLinksUptoSaid : Prop := fnFsLinksUptoRow.holds Try.pinned (OpenSpec.upto fnFsLinksSpec)

/-- 'laws.FnExactFsMake', WHERE WHAT IT READS IS OF BULK AT MOST 1048576: true; the input reads as it did. -/
def fnExactFsMakeUptoRow : OpenClaim := { program := "ythhopbicmaipgaa", sum := "7cb9545b2dfa35ffba1f8bb486d4d4c153eff042040aabdbd5625f71d23fb178", func := "loop.example/quarterdeck/laws.FnExactFsMake", spec := "fnExactFsMake", inPlace := ["internal/bytealg.abigen_runtime_cmpstring", "slices.overlaps[loop.example/quarterdeck/impl.Entry]"], unfollowed := true, recurses := true, apart := false, narrowed := true }
def FnExactFsMakeUptoSaid : Prop := fnExactFsMakeUptoRow.holds Try.pinned (OpenSpec.upto fnExactFsMakeSpec)

/-- 'laws.FnExactFsWrite', WHERE WHAT IT READS IS OF BULK AT MOST 1048576: true; the input reads as it did. -/
def fnExactFsWriteUptoRow : OpenClaim := { program := "ythhopbicmaipgaa", sum := "7cb9545b2dfa35ffba1f8bb486d4d4c153eff042040aabdbd5625f71d23fb178", func := "loop.example/quarterdeck/laws.FnExactFsWrite", spec := "fnExactFsWrite", unfollowed := true, recurses := true, apart := false, narrowed := true }
def FnExactFsWriteUptoSaid : Prop := fnExactFsWriteUptoRow.holds Try.pinned (OpenSpec.upto fnExactFsWriteSpec)

/-- 'laws.FnExactFsOpen', WHERE WHAT IT READS IS OF BULK AT MOST 1048576: true; the input reads as it did. -/
def fnExactFsOpenUptoRow : OpenClaim := { program := "ythhopbicmaipgaa", sum := "7cb9545b2dfa35ffba1f8bb486d4d4c153eff042040aabdbd5625f71d23fb178", func := "loop.example/quarterdeck/laws.FnExactFsOpen", spec := "fnExactFsOpen", unfollowed := true, recurses := true, apart := false, narrowed := true }
def FnExactFsOpenUptoSaid : Prop := fnExactFsOpenUptoRow.holds Try.pinned (OpenSpec.upto fnExactFsOpenSpec)

/-- 'laws.FnFsApart', WHERE WHAT IT READS IS OF BULK AT MOST 1048576: true; the input reads as it did. -/
def fnFsApartUptoRow : OpenClaim := { program := "ythhopbicmaipgaa", sum := "7cb9545b2dfa35ffba1f8bb486d4d4c153eff042040aabdbd5625f71d23fb178", func := "loop.example/quarterdeck/laws.FnFsApart", spec := "fnFsApart", unfollowed := true, recurses := true, apart := false, narrowed := true }
def FnFsApartUptoSaid : Prop := fnFsApartUptoRow.holds Try.pinned (OpenSpec.upto fnFsApartSpec)

/-- 'laws.FnFsOpen', WHERE WHAT IT READS IS OF BULK AT MOST 1048576: true; the input reads as it did. -/
def fnFsOpenUptoRow : OpenClaim := { program := "ythhopbicmaipgaa", sum := "7cb9545b2dfa35ffba1f8bb486d4d4c153eff042040aabdbd5625f71d23fb178", func := "loop.example/quarterdeck/laws.FnFsOpen", spec := "fnFsOpen", unfollowed := true, recurses := true, apart := false, narrowed := true }
def FnFsOpenUptoSaid : Prop := fnFsOpenUptoRow.holds Try.pinned (OpenSpec.upto fnFsOpenSpec)

/-- 'laws.FnFsWrite', WHERE WHAT IT READS IS OF BULK AT MOST 1048576: true; the input reads as it did. -/
def fnFsWriteUptoRow : OpenClaim := { program := "ythhopbicmaipgaa", sum := "7cb9545b2dfa35ffba1f8bb486d4d4c153eff042040aabdbd5625f71d23fb178", func := "loop.example/quarterdeck/laws.FnFsWrite", spec := "fnFsWrite", unfollowed := true, recurses := true, apart := false, narrowed := true }
def FnFsWriteUptoSaid : Prop := fnFsWriteUptoRow.holds Try.pinned (OpenSpec.upto fnFsWriteSpec)

/-- 'laws.FnExactFsMode', WHERE WHAT IT READS IS OF BULK AT MOST 1048576: true; the input reads as it did. -/
def fnExactFsModeUptoRow : OpenClaim := { program := "ythhopbicmaipgaa", sum := "7cb9545b2dfa35ffba1f8bb486d4d4c153eff042040aabdbd5625f71d23fb178", func := "loop.example/quarterdeck/laws.FnExactFsMode", spec := "fnExactFsMode", unfollowed := true, recurses := true, apart := false, narrowed := true }
def FnExactFsModeUptoSaid : Prop := fnExactFsModeUptoRow.holds Try.pinned (OpenSpec.upto fnExactFsModeSpec)

/-- 'laws.FnExactFsOwn', WHERE WHAT IT READS IS OF BULK AT MOST 1048576: true; the input reads as it did. -/
def fnExactFsOwnUptoRow : OpenClaim := { program := "ythhopbicmaipgaa", sum := "7cb9545b2dfa35ffba1f8bb486d4d4c153eff042040aabdbd5625f71d23fb178", func := "loop.example/quarterdeck/laws.FnExactFsOwn", spec := "fnExactFsOwn", unfollowed := true, recurses := true, apart := false, narrowed := true }
def FnExactFsOwnUptoSaid : Prop := fnExactFsOwnUptoRow.holds Try.pinned (OpenSpec.upto fnExactFsOwnSpec)

/-- 'laws.FnExactFsMark', WHERE WHAT IT READS IS OF BULK AT MOST 1048576: true; the input reads as it did. -/
def fnExactFsMarkUptoRow : OpenClaim := { program := "ythhopbicmaipgaa", sum := "7cb9545b2dfa35ffba1f8bb486d4d4c153eff042040aabdbd5625f71d23fb178", func := "loop.example/quarterdeck/laws.FnExactFsMark", spec := "fnExactFsMark", unfollowed := true, recurses := true, apart := false, narrowed := true }
def FnExactFsMarkUptoSaid : Prop := fnExactFsMarkUptoRow.holds Try.pinned (OpenSpec.upto fnExactFsMarkSpec)

/-- 'laws.FnFsOwn', WHERE WHAT IT READS IS OF BULK AT MOST 1048576: true; the input reads as it did. -/
def fnFsOwnUptoRow : OpenClaim := { program := "ythhopbicmaipgaa", sum := "7cb9545b2dfa35ffba1f8bb486d4d4c153eff042040aabdbd5625f71d23fb178", func := "loop.example/quarterdeck/laws.FnFsOwn", spec := "fnFsOwn", unfollowed := true, recurses := true, apart := false, narrowed := true }
def FnFsOwnUptoSaid : Prop := fnFsOwnUptoRow.holds Try.pinned (OpenSpec.upto fnFsOwnSpec)

/-- 'laws.FnFsMark', WHERE WHAT IT READS IS OF BULK AT MOST 1048576: true; the input reads as it did. -/
def fnFsMarkUptoRow : OpenClaim := { program := "ythhopbicmaipgaa", sum := "7cb9545b2dfa35ffba1f8bb486d4d4c153eff042040aabdbd5625f71d23fb178", func := "loop.example/quarterdeck/laws.FnFsMark", spec := "fnFsMark", unfollowed := true, recurses := true, apart := false, narrowed := true }
def FnFsMarkUptoSaid : Prop := fnFsMarkUptoRow.holds Try.pinned (OpenSpec.upto fnFsMarkSpec)

end Rows
end Go.Proofs.Ythhopbicmaipgaa
