/-
  DERIVED. GIVEN WITH THE SEED: THE CARDS: each row of YtkekgagekgadmaaGreatDoorRows.lean that lists a variable, with what it lists TIED to the program's text (the seventh form; the later family's looks); each row that meets fmt, with fmt's text TOLD by the authors' own Lean function (tested against real Go, not proved from fmt's source: count such statements apart). THE CARD IS WHAT COUNTS. Prove the row's statement (the work); the ties are given (YtkekgagekgadmaaGreatDoorTie.lean); close each card by the builder's one call (the guide's Derived/Test/ToyasCard.lean, 'card_holds'). Laid BY PROGRAM, IN A SANDBOX (cutbox-door.mjs). By AI agents, Wed Nov 11 2026. No macro, syntax, notation, axiom, sorry.
-/
import Derived.Test.YtkekgagekgadmaaGreatDoorRows
import GoSem.ClaimSeven
namespace Go.Proofs.YtkekgagekgadmaaGreatDoor
namespace Rows

/-- THE TIED CARD OF 'hindcastlaw26.RollbackPlays'. -/
def rollbackPlaysCard : Claim7 := { stood := { row := rollbackPlaysRow, standIns := [], harness := (true, "ad5f3b3593a0b4c6b3557b999736a83a6d658c1244c798a2e0ae03024bd9938d"), looks := false }, kinds := [], alts := [], laidByText := true, laidKinds := [.data, .data], laidTests := true, laidLooks := .later }
def RollbackPlaysCardSaid : Prop := Claim7.holds Tryz.pinned (.plain (OpenSpec.ofChange rollbackPlaysSpec)) rollbackPlaysCard

/-- THE SECOND FORM's CARD OF 'hindcastlaw26.RollbackPlays'. -/
def rollbackPlaysUptoCard : Claim7 := { stood := { row := rollbackPlaysUptoRow, standIns := [], harness := (true, "ad5f3b3593a0b4c6b3557b999736a83a6d658c1244c798a2e0ae03024bd9938d"), looks := false }, kinds := [], alts := [], laidByText := true, laidKinds := [.data, .data], laidTests := true, laidLooks := .later }
def RollbackPlaysUptoCardSaid : Prop := Claim7.holds Tryz.pinned (.plain (OpenSpec.upto rollbackPlaysSpec)) rollbackPlaysUptoCard
end Rows
end Go.Proofs.YtkekgagekgadmaaGreatDoor
