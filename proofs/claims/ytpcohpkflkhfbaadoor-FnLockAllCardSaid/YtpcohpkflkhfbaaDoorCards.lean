/-
  DERIVED. GIVEN WITH THE SEED: THE CARDS: each row of YtpcohpkflkhfbaaDoorRows.lean that lists a variable, with what it lists TIED to the program's text (the seventh form; the later family's looks); each row that meets fmt, with fmt's text TOLD by the authors' own Lean function (tested against real Go, not proved from fmt's source: count such statements apart). THE CARD IS WHAT COUNTS. Prove the row's statement (the work); the ties are given (YtpcohpkflkhfbaaDoorTie.lean); close each card by the builder's one call (the guide's Derived/Test/ToyasCard.lean, 'card_holds'). Laid BY PROGRAM, IN A SANDBOX (cutbox-door.mjs). By AI agents, Wed Nov 11 2026. No macro, syntax, notation, axiom, sorry.
-/
import Derived.Test.YtpcohpkflkhfbaaDoorRows
import GoSem.ClaimSeven
namespace Go.Proofs.YtpcohpkflkhfbaaDoor
namespace Rows

/-- THE TIED CARD OF 'laws.FnExactLockAll'. -/
def fnExactLockAllCard : Claim7 := { stood := { row := fnExactLockAllRow, standIns := [], harness := (true, "05362b46191151faf5ab4cf6c0237376c2e28183120cb420247197eda6d096e3"), looks := false }, kinds := [], alts := [], laidByText := true, laidKinds := [.data, .data, .data], laidTests := true, laidLooks := .later }
def FnExactLockAllCardSaid : Prop := Claim7.holds Tryd.pinned (.plain (OpenSpec.ofChange fnExactLockAllSpec)) fnExactLockAllCard

/-- THE TIED CARD OF 'laws.FnLockAll'. -/
def fnLockAllCard : Claim7 := { stood := { row := fnLockAllRow, standIns := [], harness := (true, "05362b46191151faf5ab4cf6c0237376c2e28183120cb420247197eda6d096e3"), looks := false }, kinds := [], alts := [], laidByText := true, laidKinds := [.data, .data, .data], laidTests := true, laidLooks := .later }
def FnLockAllCardSaid : Prop := Claim7.holds Tryd.pinned (.plain (OpenSpec.ofChange fnLockAllSpec)) fnLockAllCard

/-- THE SECOND FORM's CARD OF 'laws.FnExactLockAll'. -/
def fnExactLockAllUptoCard : Claim7 := { stood := { row := fnExactLockAllUptoRow, standIns := [], harness := (true, "05362b46191151faf5ab4cf6c0237376c2e28183120cb420247197eda6d096e3"), looks := false }, kinds := [], alts := [], laidByText := true, laidKinds := [.data, .data, .data], laidTests := true, laidLooks := .later }
def FnExactLockAllUptoCardSaid : Prop := Claim7.holds Tryd.pinned (.plain (OpenSpec.upto fnExactLockAllSpec)) fnExactLockAllUptoCard

/-- THE SECOND FORM's CARD OF 'laws.FnLockAll'. -/
def fnLockAllUptoCard : Claim7 := { stood := { row := fnLockAllUptoRow, standIns := [], harness := (true, "05362b46191151faf5ab4cf6c0237376c2e28183120cb420247197eda6d096e3"), looks := false }, kinds := [], alts := [], laidByText := true, laidKinds := [.data, .data, .data], laidTests := true, laidLooks := .later }
def FnLockAllUptoCardSaid : Prop := Claim7.holds Tryd.pinned (.plain (OpenSpec.upto fnLockAllSpec)) fnLockAllUptoCard
end Rows
end Go.Proofs.YtpcohpkflkhfbaaDoor
