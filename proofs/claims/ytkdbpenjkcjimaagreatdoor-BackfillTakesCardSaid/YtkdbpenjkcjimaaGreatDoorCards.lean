/-
  DERIVED. GIVEN WITH THE SEED: THE CARDS: each row of YtkdbpenjkcjimaaGreatDoorRows.lean that lists a variable, with what it lists TIED to the program's text (the seventh form; the later family's looks); each row that meets fmt, with fmt's text TOLD by the authors' own Lean function (tested against real Go, not proved from fmt's source: count such statements apart). THE CARD IS WHAT COUNTS. Prove the row's statement (the work); the ties are given (YtkdbpenjkcjimaaGreatDoorTie.lean); close each card by the builder's one call (the guide's Derived/Test/ToyasCard.lean, 'card_holds'). Laid BY PROGRAM, IN A SANDBOX (cutbox-door.mjs). By AI agents, Wed Nov 11 2026. No macro, syntax, notation, axiom, sorry.
-/
import Derived.Test.YtkdbpenjkcjimaaGreatDoorRows
import GoSem.ClaimSeven
namespace Go.Proofs.YtkdbpenjkcjimaaGreatDoor
namespace Rows

/-- THE TIED CARD OF 'hindcastlaw28.BackfillTakes'. -/
def backfillTakesCard : Claim7 := { stood := { row := backfillTakesRow, standIns := [], harness := (true, "a67b63e2bf4f604192ae6f717867355eeadbcd9ca73a8f2649c0d91fec42795f"), looks := false }, kinds := [], alts := [], laidByText := true, laidKinds := [.data, .data], laidTests := true, laidLooks := .later }
def BackfillTakesCardSaid : Prop := Claim7.holds Tryz.pinned (.plain (OpenSpec.ofChange backfillTakesSpec)) backfillTakesCard

/-- THE SECOND FORM's CARD OF 'hindcastlaw28.BackfillTakes'. -/
def backfillTakesUptoCard : Claim7 := { stood := { row := backfillTakesUptoRow, standIns := [], harness := (true, "a67b63e2bf4f604192ae6f717867355eeadbcd9ca73a8f2649c0d91fec42795f"), looks := false }, kinds := [], alts := [], laidByText := true, laidKinds := [.data, .data], laidTests := true, laidLooks := .later }
def BackfillTakesUptoCardSaid : Prop := Claim7.holds Tryz.pinned (.plain (OpenSpec.upto backfillTakesSpec)) backfillTakesUptoCard
end Rows
end Go.Proofs.YtkdbpenjkcjimaaGreatDoor
