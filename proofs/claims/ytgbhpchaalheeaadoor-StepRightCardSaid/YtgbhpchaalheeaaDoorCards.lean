/-
  DERIVED. GIVEN WITH THE SEED: THE CARDS: each row of YtgbhpchaalheeaaDoorRows.lean that lists a variable, with what it lists TIED to the program's text (the seventh form; the later family's looks); each row that meets fmt, with fmt's text TOLD by the authors' own Lean function (tested against real Go, not proved from fmt's source: count such statements apart). THE CARD IS WHAT COUNTS. Prove the row's statement (the work); the ties are given (YtgbhpchaalheeaaDoorTie.lean); close each card by the builder's one call (the guide's Derived/Test/ToyasCard.lean, 'card_holds'). Laid BY PROGRAM, IN A SANDBOX (cutbox-door.mjs). By AI agents, Wed Nov 11 2026. No macro, syntax, notation, axiom, sorry.
-/
import Derived.Test.YtgbhpchaalheeaaDoorRows
import GoSem.ClaimSeven
namespace Go.Proofs.YtgbhpchaalheeaaDoor
namespace Rows

/-- THE TIED CARD OF 'hindcastlaw09.StepMakes'. -/
def stepMakesCard : Claim7 := { stood := { row := stepMakesRow, standIns := [], harness := (true, "c7863742f649737bf7d850331520740a359be8475b2b9a5dc69a100f64aad565"), looks := false }, kinds := [], alts := [], laidByText := true, laidKinds := [.data, .data], laidTests := true, laidLooks := .later }
def StepMakesCardSaid : Prop := Claim7.holds Tryd.pinned (.plain (OpenSpec.ofChange stepMakesSpec)) stepMakesCard

/-- THE TIED CARD OF 'hindcastlaw09.StepGoes'. -/
def stepGoesCard : Claim7 := { stood := { row := stepGoesRow, standIns := [], harness := (true, "c7863742f649737bf7d850331520740a359be8475b2b9a5dc69a100f64aad565"), looks := false }, kinds := [], alts := [], laidByText := true, laidKinds := [.data, .data], laidTests := true, laidLooks := .later }
def StepGoesCardSaid : Prop := Claim7.holds Tryd.pinned (.plain (OpenSpec.ofChange stepGoesSpec)) stepGoesCard

/-- THE TIED CARD OF 'hindcastlaw09.StepRests'. -/
def stepRestsCard : Claim7 := { stood := { row := stepRestsRow, standIns := [], harness := (true, "c7863742f649737bf7d850331520740a359be8475b2b9a5dc69a100f64aad565"), looks := false }, kinds := [], alts := [], laidByText := true, laidKinds := [.data, .data], laidTests := true, laidLooks := .later }
def StepRestsCardSaid : Prop := Claim7.holds Tryd.pinned (.plain (OpenSpec.ofChange stepRestsSpec)) stepRestsCard

/-- THE TIED CARD OF 'hindcastlaw09.StepKnown'. -/
def stepKnownCard : Claim7 := { stood := { row := stepKnownRow, standIns := [], harness := (true, "c7863742f649737bf7d850331520740a359be8475b2b9a5dc69a100f64aad565"), looks := false }, kinds := [], alts := [], laidByText := true, laidKinds := [.data, .data], laidTests := true, laidLooks := .later }
def StepKnownCardSaid : Prop := Claim7.holds Tryd.pinned (.plain (OpenSpec.ofChange stepKnownSpec)) stepKnownCard

/-- THE TIED CARD OF 'hindcastlaw09.StepRight'. -/
def stepRightCard : Claim7 := { stood := { row := stepRightRow, standIns := [], harness := (true, "c7863742f649737bf7d850331520740a359be8475b2b9a5dc69a100f64aad565"), looks := false }, kinds := [], alts := [], laidByText := true, laidKinds := [.data, .data], laidTests := true, laidLooks := .later }
def StepRightCardSaid : Prop := Claim7.holds Tryd.pinned (.plain (OpenSpec.ofChange stepRightSpec)) stepRightCard

/-- THE SECOND FORM's CARD OF 'hindcastlaw09.StepMakes'. -/
def stepMakesUptoCard : Claim7 := { stood := { row := stepMakesUptoRow, standIns := [], harness := (true, "c7863742f649737bf7d850331520740a359be8475b2b9a5dc69a100f64aad565"), looks := false }, kinds := [], alts := [], laidByText := true, laidKinds := [.data, .data], laidTests := true, laidLooks := .later }
def StepMakesUptoCardSaid : Prop := Claim7.holds Tryd.pinned (.plain (OpenSpec.upto stepMakesSpec)) stepMakesUptoCard

/-- THE SECOND FORM's CARD OF 'hindcastlaw09.StepGoes'. -/
def stepGoesUptoCard : Claim7 := { stood := { row := stepGoesUptoRow, standIns := [], harness := (true, "c7863742f649737bf7d850331520740a359be8475b2b9a5dc69a100f64aad565"), looks := false }, kinds := [], alts := [], laidByText := true, laidKinds := [.data, .data], laidTests := true, laidLooks := .later }
def StepGoesUptoCardSaid : Prop := Claim7.holds Tryd.pinned (.plain (OpenSpec.upto stepGoesSpec)) stepGoesUptoCard

/-- THE SECOND FORM's CARD OF 'hindcastlaw09.StepRests'. -/
def stepRestsUptoCard : Claim7 := { stood := { row := stepRestsUptoRow, standIns := [], harness := (true, "c7863742f649737bf7d850331520740a359be8475b2b9a5dc69a100f64aad565"), looks := false }, kinds := [], alts := [], laidByText := true, laidKinds := [.data, .data], laidTests := true, laidLooks := .later }
def StepRestsUptoCardSaid : Prop := Claim7.holds Tryd.pinned (.plain (OpenSpec.upto stepRestsSpec)) stepRestsUptoCard

/-- THE SECOND FORM's CARD OF 'hindcastlaw09.StepKnown'. -/
def stepKnownUptoCard : Claim7 := { stood := { row := stepKnownUptoRow, standIns := [], harness := (true, "c7863742f649737bf7d850331520740a359be8475b2b9a5dc69a100f64aad565"), looks := false }, kinds := [], alts := [], laidByText := true, laidKinds := [.data, .data], laidTests := true, laidLooks := .later }
def StepKnownUptoCardSaid : Prop := Claim7.holds Tryd.pinned (.plain (OpenSpec.upto stepKnownSpec)) stepKnownUptoCard

/-- THE SECOND FORM's CARD OF 'hindcastlaw09.StepRight'. -/
def stepRightUptoCard : Claim7 := { stood := { row := stepRightUptoRow, standIns := [], harness := (true, "c7863742f649737bf7d850331520740a359be8475b2b9a5dc69a100f64aad565"), looks := false }, kinds := [], alts := [], laidByText := true, laidKinds := [.data, .data], laidTests := true, laidLooks := .later }
def StepRightUptoCardSaid : Prop := Claim7.holds Tryd.pinned (.plain (OpenSpec.upto stepRightSpec)) stepRightUptoCard
end Rows
end Go.Proofs.YtgbhpchaalheeaaDoor
