/-
  DERIVED. GIVEN WITH THE SEED: THE CARDS: each row of YtbbkblolaficdaaDoorRows.lean that lists a variable, with what it lists TIED to the program's text (the seventh form; the later family's looks); each row that meets fmt, with fmt's text TOLD by the authors' own Lean function (tested against real Go, not proved from fmt's source: count such statements apart). THE CARD IS WHAT COUNTS. Prove the row's statement (the work); the ties are given (YtbbkblolaficdaaDoorTie.lean); close each card by the builder's one call (the guide's Derived/Test/ToyasCard.lean, 'card_holds'). Laid BY PROGRAM, IN A SANDBOX (cutbox-door.mjs). By AI agents, Wed Nov 11 2026. No macro, syntax, notation, axiom, sorry.
-/
import Derived.Test.YtbbkblolaficdaaDoorRows
import GoSem.ClaimSeven
namespace Go.Proofs.YtbbkblolaficdaaDoor
namespace Rows

/-- THE TIED CARD OF 'hindcastlaw25.RingHolds'. -/
def ringHoldsCard : Claim7 := { stood := { row := ringHoldsRow, standIns := [], harness := (true, "440ff36c54f7497ece608f6cdb069b5fe50f9f29d2822f7a5255641a7ac27b94"), looks := false }, kinds := [], alts := [], laidByText := true, laidKinds := [.data, .data], laidTests := true, laidLooks := .later }
def RingHoldsCardSaid : Prop := Claim7.holds Tryd.pinned (.plain (OpenSpec.ofChange ringHoldsSpec)) ringHoldsCard

/-- THE TIED CARD OF 'hindcastlaw25.RingPlays'. -/
def ringPlaysCard : Claim7 := { stood := { row := ringPlaysRow, standIns := [], harness := (true, "440ff36c54f7497ece608f6cdb069b5fe50f9f29d2822f7a5255641a7ac27b94"), looks := false }, kinds := [], alts := [], laidByText := true, laidKinds := [.data, .data], laidTests := true, laidLooks := .later }
def RingPlaysCardSaid : Prop := Claim7.holds Tryd.pinned (.plain (OpenSpec.ofChange ringPlaysSpec)) ringPlaysCard

/-- THE TIED CARD OF 'hindcastlaw25.RingKnown'. -/
def ringKnownCard : Claim7 := { stood := { row := ringKnownRow, standIns := [], harness := (true, "440ff36c54f7497ece608f6cdb069b5fe50f9f29d2822f7a5255641a7ac27b94"), looks := false }, kinds := [], alts := [], laidByText := true, laidKinds := [.data, .data], laidTests := true, laidLooks := .later }
def RingKnownCardSaid : Prop := Claim7.holds Tryd.pinned (.plain (OpenSpec.ofChange ringKnownSpec)) ringKnownCard

/-- THE SECOND FORM's CARD OF 'hindcastlaw25.RingHolds'. -/
def ringHoldsUptoCard : Claim7 := { stood := { row := ringHoldsUptoRow, standIns := [], harness := (true, "440ff36c54f7497ece608f6cdb069b5fe50f9f29d2822f7a5255641a7ac27b94"), looks := false }, kinds := [], alts := [], laidByText := true, laidKinds := [.data, .data], laidTests := true, laidLooks := .later }
def RingHoldsUptoCardSaid : Prop := Claim7.holds Tryd.pinned (.plain (OpenSpec.upto ringHoldsSpec)) ringHoldsUptoCard

/-- THE SECOND FORM's CARD OF 'hindcastlaw25.RingPlays'. -/
def ringPlaysUptoCard : Claim7 := { stood := { row := ringPlaysUptoRow, standIns := [], harness := (true, "440ff36c54f7497ece608f6cdb069b5fe50f9f29d2822f7a5255641a7ac27b94"), looks := false }, kinds := [], alts := [], laidByText := true, laidKinds := [.data, .data], laidTests := true, laidLooks := .later }
def RingPlaysUptoCardSaid : Prop := Claim7.holds Tryd.pinned (.plain (OpenSpec.upto ringPlaysSpec)) ringPlaysUptoCard

/-- THE SECOND FORM's CARD OF 'hindcastlaw25.RingKnown'. -/
def ringKnownUptoCard : Claim7 := { stood := { row := ringKnownUptoRow, standIns := [], harness := (true, "440ff36c54f7497ece608f6cdb069b5fe50f9f29d2822f7a5255641a7ac27b94"), looks := false }, kinds := [], alts := [], laidByText := true, laidKinds := [.data, .data], laidTests := true, laidLooks := .later }
def RingKnownUptoCardSaid : Prop := Claim7.holds Tryd.pinned (.plain (OpenSpec.upto ringKnownSpec)) ringKnownUptoCard
end Rows
end Go.Proofs.YtbbkblolaficdaaDoor
