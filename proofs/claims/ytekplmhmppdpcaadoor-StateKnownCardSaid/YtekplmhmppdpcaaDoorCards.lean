/-
  DERIVED. GIVEN WITH THE SEED: THE CARDS: each row of YtekplmhmppdpcaaDoorRows.lean that lists a variable, with what it lists TIED to the program's text (the seventh form; the later family's looks); each row that meets fmt, with fmt's text TOLD by the authors' own Lean function (tested against real Go, not proved from fmt's source: count such statements apart). THE CARD IS WHAT COUNTS. Prove the row's statement (the work); the ties are given (YtekplmhmppdpcaaDoorTie.lean); close each card by the builder's one call (the guide's Derived/Test/ToyasCard.lean, 'card_holds'). Laid BY PROGRAM, IN A SANDBOX (cutbox-door.mjs). By AI agents, Wed Nov 11 2026. No macro, syntax, notation, axiom, sorry.
-/
import Derived.Test.YtekplmhmppdpcaaDoorRows
import GoSem.ClaimSeven
namespace Go.Proofs.YtekplmhmppdpcaaDoor
namespace Rows

/-- THE TIED CARD OF 'hindcastlaw08.StatePuts'. -/
def statePutsCard : Claim7 := { stood := { row := statePutsRow, standIns := [], harness := (true, "36e0e983c47df4fadd8c8014bed03a6069b996565acafb2b5c48730ab008a9d9"), looks := false }, kinds := [], alts := [], laidByText := true, laidKinds := [.data, .data], laidTests := true, laidLooks := .later }
def StatePutsCardSaid : Prop := Claim7.holds Tryd.pinned (.plain (OpenSpec.ofChange statePutsSpec)) statePutsCard

/-- THE TIED CARD OF 'hindcastlaw08.StateTakes'. -/
def stateTakesCard : Claim7 := { stood := { row := stateTakesRow, standIns := [], harness := (true, "36e0e983c47df4fadd8c8014bed03a6069b996565acafb2b5c48730ab008a9d9"), looks := false }, kinds := [], alts := [], laidByText := true, laidKinds := [.data, .data], laidTests := true, laidLooks := .later }
def StateTakesCardSaid : Prop := Claim7.holds Tryd.pinned (.plain (OpenSpec.ofChange stateTakesSpec)) stateTakesCard

/-- THE TIED CARD OF 'hindcastlaw08.StateBack'. -/
def stateBackCard : Claim7 := { stood := { row := stateBackRow, standIns := [], harness := (true, "36e0e983c47df4fadd8c8014bed03a6069b996565acafb2b5c48730ab008a9d9"), looks := false }, kinds := [], alts := [], laidByText := true, laidKinds := [.data, .data], laidTests := true, laidLooks := .later }
def StateBackCardSaid : Prop := Claim7.holds Tryd.pinned (.plain (OpenSpec.ofChange stateBackSpec)) stateBackCard

/-- THE TIED CARD OF 'hindcastlaw08.StateOne'. -/
def stateOneCard : Claim7 := { stood := { row := stateOneRow, standIns := [], harness := (true, "36e0e983c47df4fadd8c8014bed03a6069b996565acafb2b5c48730ab008a9d9"), looks := false }, kinds := [], alts := [], laidByText := true, laidKinds := [.data, .data], laidTests := true, laidLooks := .later }
def StateOneCardSaid : Prop := Claim7.holds Tryd.pinned (.plain (OpenSpec.ofChange stateOneSpec)) stateOneCard

/-- THE TIED CARD OF 'hindcastlaw08.StateKnown'. -/
def stateKnownCard : Claim7 := { stood := { row := stateKnownRow, standIns := [], harness := (true, "36e0e983c47df4fadd8c8014bed03a6069b996565acafb2b5c48730ab008a9d9"), looks := false }, kinds := [], alts := [], laidByText := true, laidKinds := [.data, .data], laidTests := true, laidLooks := .later }
def StateKnownCardSaid : Prop := Claim7.holds Tryd.pinned (.plain (OpenSpec.ofChange stateKnownSpec)) stateKnownCard

/-- THE TIED CARD OF 'hindcastlaw08.StateSame'. -/
def stateSameCard : Claim7 := { stood := { row := stateSameRow, standIns := [], harness := (true, "36e0e983c47df4fadd8c8014bed03a6069b996565acafb2b5c48730ab008a9d9"), looks := false }, kinds := [], alts := [], laidByText := true, laidKinds := [.data, .data], laidTests := true, laidLooks := .later }
def StateSameCardSaid : Prop := Claim7.holds Tryd.pinned (.plain (OpenSpec.ofChange stateSameSpec)) stateSameCard

/-- THE SECOND FORM's CARD OF 'hindcastlaw08.StatePuts'. -/
def statePutsUptoCard : Claim7 := { stood := { row := statePutsUptoRow, standIns := [], harness := (true, "36e0e983c47df4fadd8c8014bed03a6069b996565acafb2b5c48730ab008a9d9"), looks := false }, kinds := [], alts := [], laidByText := true, laidKinds := [.data, .data], laidTests := true, laidLooks := .later }
def StatePutsUptoCardSaid : Prop := Claim7.holds Tryd.pinned (.plain (OpenSpec.upto statePutsSpec)) statePutsUptoCard

/-- THE SECOND FORM's CARD OF 'hindcastlaw08.StateTakes'. -/
def stateTakesUptoCard : Claim7 := { stood := { row := stateTakesUptoRow, standIns := [], harness := (true, "36e0e983c47df4fadd8c8014bed03a6069b996565acafb2b5c48730ab008a9d9"), looks := false }, kinds := [], alts := [], laidByText := true, laidKinds := [.data, .data], laidTests := true, laidLooks := .later }
def StateTakesUptoCardSaid : Prop := Claim7.holds Tryd.pinned (.plain (OpenSpec.upto stateTakesSpec)) stateTakesUptoCard

/-- THE SECOND FORM's CARD OF 'hindcastlaw08.StateBack'. -/
def stateBackUptoCard : Claim7 := { stood := { row := stateBackUptoRow, standIns := [], harness := (true, "36e0e983c47df4fadd8c8014bed03a6069b996565acafb2b5c48730ab008a9d9"), looks := false }, kinds := [], alts := [], laidByText := true, laidKinds := [.data, .data], laidTests := true, laidLooks := .later }
def StateBackUptoCardSaid : Prop := Claim7.holds Tryd.pinned (.plain (OpenSpec.upto stateBackSpec)) stateBackUptoCard

/-- THE SECOND FORM's CARD OF 'hindcastlaw08.StateOne'. -/
def stateOneUptoCard : Claim7 := { stood := { row := stateOneUptoRow, standIns := [], harness := (true, "36e0e983c47df4fadd8c8014bed03a6069b996565acafb2b5c48730ab008a9d9"), looks := false }, kinds := [], alts := [], laidByText := true, laidKinds := [.data, .data], laidTests := true, laidLooks := .later }
def StateOneUptoCardSaid : Prop := Claim7.holds Tryd.pinned (.plain (OpenSpec.upto stateOneSpec)) stateOneUptoCard

/-- THE SECOND FORM's CARD OF 'hindcastlaw08.StateKnown'. -/
def stateKnownUptoCard : Claim7 := { stood := { row := stateKnownUptoRow, standIns := [], harness := (true, "36e0e983c47df4fadd8c8014bed03a6069b996565acafb2b5c48730ab008a9d9"), looks := false }, kinds := [], alts := [], laidByText := true, laidKinds := [.data, .data], laidTests := true, laidLooks := .later }
def StateKnownUptoCardSaid : Prop := Claim7.holds Tryd.pinned (.plain (OpenSpec.upto stateKnownSpec)) stateKnownUptoCard

/-- THE SECOND FORM's CARD OF 'hindcastlaw08.StateSame'. -/
def stateSameUptoCard : Claim7 := { stood := { row := stateSameUptoRow, standIns := [], harness := (true, "36e0e983c47df4fadd8c8014bed03a6069b996565acafb2b5c48730ab008a9d9"), looks := false }, kinds := [], alts := [], laidByText := true, laidKinds := [.data, .data], laidTests := true, laidLooks := .later }
def StateSameUptoCardSaid : Prop := Claim7.holds Tryd.pinned (.plain (OpenSpec.upto stateSameSpec)) stateSameUptoCard
end Rows
end Go.Proofs.YtekplmhmppdpcaaDoor
