/-
  DERIVED. GIVEN WITH THE SEED: THE CARDS: each row of YtkekgagekgadmaaDoorRows.lean that lists a variable, with what it lists TIED to the program's text (the seventh form; the later family's looks); each row that meets fmt, with fmt's text TOLD by the authors' own Lean function (tested against real Go, not proved from fmt's source: count such statements apart). THE CARD IS WHAT COUNTS. Prove the row's statement (the work); the ties are given (YtkekgagekgadmaaDoorTie.lean); close each card by the builder's one call (the guide's Derived/Test/ToyasCard.lean, 'card_holds'). Laid BY PROGRAM, IN A SANDBOX (cutbox-door.mjs). By AI agents, Wed Nov 11 2026. No macro, syntax, notation, axiom, sorry.
-/
import Derived.Test.YtkekgagekgadmaaDoorRows
import GoSem.ClaimSeven
namespace Go.Proofs.YtkekgagekgadmaaDoor
namespace Rows

/-- THE TIED CARD OF 'hindcastlaw26.RollbackComes'. -/
def rollbackComesCard : Claim7 := { stood := { row := rollbackComesRow, standIns := [], harness := (true, "a1615979c2ef1807c5d3914849f505efdcd69703b21fc5b502cee9e30ea1cba3"), looks := false }, kinds := [], alts := [], laidByText := true, laidKinds := [.data, .data], laidTests := true, laidLooks := .later }
def RollbackComesCardSaid : Prop := Claim7.holds Tryd.pinned (.plain (OpenSpec.ofChange rollbackComesSpec)) rollbackComesCard

/-- THE TIED CARD OF 'hindcastlaw26.RollbackKnown'. -/
def rollbackKnownCard : Claim7 := { stood := { row := rollbackKnownRow, standIns := [], harness := (true, "a1615979c2ef1807c5d3914849f505efdcd69703b21fc5b502cee9e30ea1cba3"), looks := false }, kinds := [], alts := [], laidByText := true, laidKinds := [.data, .data], laidTests := true, laidLooks := .later }
def RollbackKnownCardSaid : Prop := Claim7.holds Tryd.pinned (.plain (OpenSpec.ofChange rollbackKnownSpec)) rollbackKnownCard

/-- THE TIED CARD OF 'hindcastlaw26.RollbackTrue'. -/
def rollbackTrueCard : Claim7 := { stood := { row := rollbackTrueRow, standIns := [], harness := (true, "a1615979c2ef1807c5d3914849f505efdcd69703b21fc5b502cee9e30ea1cba3"), looks := false }, kinds := [], alts := [], laidByText := true, laidKinds := [.data, .data], laidTests := true, laidLooks := .later }
def RollbackTrueCardSaid : Prop := Claim7.holds Tryd.pinned (.plain (OpenSpec.ofChange rollbackTrueSpec)) rollbackTrueCard

/-- THE SECOND FORM's CARD OF 'hindcastlaw26.RollbackComes'. -/
def rollbackComesUptoCard : Claim7 := { stood := { row := rollbackComesUptoRow, standIns := [], harness := (true, "a1615979c2ef1807c5d3914849f505efdcd69703b21fc5b502cee9e30ea1cba3"), looks := false }, kinds := [], alts := [], laidByText := true, laidKinds := [.data, .data], laidTests := true, laidLooks := .later }
def RollbackComesUptoCardSaid : Prop := Claim7.holds Tryd.pinned (.plain (OpenSpec.upto rollbackComesSpec)) rollbackComesUptoCard

/-- THE SECOND FORM's CARD OF 'hindcastlaw26.RollbackKnown'. -/
def rollbackKnownUptoCard : Claim7 := { stood := { row := rollbackKnownUptoRow, standIns := [], harness := (true, "a1615979c2ef1807c5d3914849f505efdcd69703b21fc5b502cee9e30ea1cba3"), looks := false }, kinds := [], alts := [], laidByText := true, laidKinds := [.data, .data], laidTests := true, laidLooks := .later }
def RollbackKnownUptoCardSaid : Prop := Claim7.holds Tryd.pinned (.plain (OpenSpec.upto rollbackKnownSpec)) rollbackKnownUptoCard

/-- THE SECOND FORM's CARD OF 'hindcastlaw26.RollbackTrue'. -/
def rollbackTrueUptoCard : Claim7 := { stood := { row := rollbackTrueUptoRow, standIns := [], harness := (true, "a1615979c2ef1807c5d3914849f505efdcd69703b21fc5b502cee9e30ea1cba3"), looks := false }, kinds := [], alts := [], laidByText := true, laidKinds := [.data, .data], laidTests := true, laidLooks := .later }
def RollbackTrueUptoCardSaid : Prop := Claim7.holds Tryd.pinned (.plain (OpenSpec.upto rollbackTrueSpec)) rollbackTrueUptoCard
end Rows
end Go.Proofs.YtkekgagekgadmaaDoor
