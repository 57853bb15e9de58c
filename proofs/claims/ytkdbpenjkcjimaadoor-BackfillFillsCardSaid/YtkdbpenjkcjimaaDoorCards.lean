/-
  DERIVED. GIVEN WITH THE SEED: THE CARDS: each row of YtkdbpenjkcjimaaDoorRows.lean that lists a variable, with what it lists TIED to the program's text (the seventh form; the later family's looks); each row that meets fmt, with fmt's text TOLD by the authors' own Lean function (tested against real Go, not proved from fmt's source: count such statements apart). THE CARD IS WHAT COUNTS. Prove the row's statement (the work); the ties are given (YtkdbpenjkcjimaaDoorTie.lean); close each card by the builder's one call (the guide's Derived/Test/ToyasCard.lean, 'card_holds'). Laid BY PROGRAM, IN A SANDBOX (cutbox-door.mjs). By AI agents, Wed Nov 11 2026. No macro, syntax, notation, axiom, sorry.
-/
import Derived.Test.YtkdbpenjkcjimaaDoorRows
import GoSem.ClaimSeven
namespace Go.Proofs.YtkdbpenjkcjimaaDoor
namespace Rows

/-- THE TIED CARD OF 'hindcastlaw28.BackfillFills'. -/
def backfillFillsCard : Claim7 := { stood := { row := backfillFillsRow, standIns := [], harness := (true, "b890502d73cc7679f6b2052596dc8fc887349080bc878b7f9b8a97b051369cc0"), looks := false }, kinds := [], alts := [], laidByText := true, laidKinds := [.data, .data], laidTests := true, laidLooks := .later }
def BackfillFillsCardSaid : Prop := Claim7.holds Tryd.pinned (.plain (OpenSpec.ofChange backfillFillsSpec)) backfillFillsCard

/-- THE TIED CARD OF 'hindcastlaw28.BackfillKnown'. -/
def backfillKnownCard : Claim7 := { stood := { row := backfillKnownRow, standIns := [], harness := (true, "b890502d73cc7679f6b2052596dc8fc887349080bc878b7f9b8a97b051369cc0"), looks := false }, kinds := [], alts := [], laidByText := true, laidKinds := [.data, .data], laidTests := true, laidLooks := .later }
def BackfillKnownCardSaid : Prop := Claim7.holds Tryd.pinned (.plain (OpenSpec.ofChange backfillKnownSpec)) backfillKnownCard

/-- THE SECOND FORM's CARD OF 'hindcastlaw28.BackfillFills'. -/
def backfillFillsUptoCard : Claim7 := { stood := { row := backfillFillsUptoRow, standIns := [], harness := (true, "b890502d73cc7679f6b2052596dc8fc887349080bc878b7f9b8a97b051369cc0"), looks := false }, kinds := [], alts := [], laidByText := true, laidKinds := [.data, .data], laidTests := true, laidLooks := .later }
def BackfillFillsUptoCardSaid : Prop := Claim7.holds Tryd.pinned (.plain (OpenSpec.upto backfillFillsSpec)) backfillFillsUptoCard

/-- THE SECOND FORM's CARD OF 'hindcastlaw28.BackfillKnown'. -/
def backfillKnownUptoCard : Claim7 := { stood := { row := backfillKnownUptoRow, standIns := [], harness := (true, "b890502d73cc7679f6b2052596dc8fc887349080bc878b7f9b8a97b051369cc0"), looks := false }, kinds := [], alts := [], laidByText := true, laidKinds := [.data, .data], laidTests := true, laidLooks := .later }
def BackfillKnownUptoCardSaid : Prop := Claim7.holds Tryd.pinned (.plain (OpenSpec.upto backfillKnownSpec)) backfillKnownUptoCard
end Rows
end Go.Proofs.YtkdbpenjkcjimaaDoor
