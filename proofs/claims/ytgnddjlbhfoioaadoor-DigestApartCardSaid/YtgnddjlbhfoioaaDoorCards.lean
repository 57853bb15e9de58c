/-
  DERIVED. GIVEN WITH THE SEED: THE CARDS: each row of YtgnddjlbhfoioaaDoorRows.lean that lists a variable, with what it lists TIED to the program's text (the seventh form; the later family's looks); each row that meets fmt, with fmt's text TOLD by the authors' own Lean function (tested against real Go, not proved from fmt's source: count such statements apart). THE CARD IS WHAT COUNTS. Prove the row's statement (the work); the ties are given (YtgnddjlbhfoioaaDoorTie.lean); close each card by the builder's one call (the guide's Derived/Test/ToyasCard.lean, 'card_holds'). Laid BY PROGRAM, IN A SANDBOX (cutbox-door.mjs). By AI agents, Wed Nov 11 2026. No macro, syntax, notation, axiom, sorry.
-/
import Derived.Test.YtgnddjlbhfoioaaDoorRows
import GoSem.ClaimSeven
namespace Go.Proofs.YtgnddjlbhfoioaaDoor
namespace Rows

/-- THE TIED CARD OF 'hindcastlaw10.DigestJoins'. -/
def digestJoinsCard : Claim7 := { stood := { row := digestJoinsRow, standIns := [], harness := (true, "4a3357ab052cf70dcda54590ccfb03963d2bf710b78bb58b41fade3e637e4add"), looks := false }, kinds := [], alts := [], laidByText := true, laidKinds := [.data, .data], laidTests := true, laidLooks := .later }
def DigestJoinsCardSaid : Prop := Claim7.holds Tryd.pinned (.plain (OpenSpec.ofChange digestJoinsSpec)) digestJoinsCard

/-- THE TIED CARD OF 'hindcastlaw10.DigestMixes'. -/
def digestMixesCard : Claim7 := { stood := { row := digestMixesRow, standIns := [], harness := (true, "4a3357ab052cf70dcda54590ccfb03963d2bf710b78bb58b41fade3e637e4add"), looks := false }, kinds := [], alts := [], laidByText := true, laidKinds := [.data, .data], laidTests := true, laidLooks := .later }
def DigestMixesCardSaid : Prop := Claim7.holds Tryd.pinned (.plain (OpenSpec.ofChange digestMixesSpec)) digestMixesCard

/-- THE TIED CARD OF 'hindcastlaw10.DigestOn'. -/
def digestOnCard : Claim7 := { stood := { row := digestOnRow, standIns := [], harness := (true, "4a3357ab052cf70dcda54590ccfb03963d2bf710b78bb58b41fade3e637e4add"), looks := false }, kinds := [], alts := [], laidByText := true, laidKinds := [.data, .data], laidTests := true, laidLooks := .later }
def DigestOnCardSaid : Prop := Claim7.holds Tryd.pinned (.plain (OpenSpec.ofChange digestOnSpec)) digestOnCard

/-- THE TIED CARD OF 'hindcastlaw10.DigestApart'. -/
def digestApartCard : Claim7 := { stood := { row := digestApartRow, standIns := [], harness := (true, "4a3357ab052cf70dcda54590ccfb03963d2bf710b78bb58b41fade3e637e4add"), looks := false }, kinds := [], alts := [], laidByText := true, laidKinds := [.data, .data], laidTests := true, laidLooks := .later }
def DigestApartCardSaid : Prop := Claim7.holds Tryd.pinned (.plain (OpenSpec.ofChange digestApartSpec)) digestApartCard

/-- THE TIED CARD OF 'hindcastlaw10.DigestKnown'. -/
def digestKnownCard : Claim7 := { stood := { row := digestKnownRow, standIns := [], harness := (true, "4a3357ab052cf70dcda54590ccfb03963d2bf710b78bb58b41fade3e637e4add"), looks := false }, kinds := [], alts := [], laidByText := true, laidKinds := [.data, .data], laidTests := true, laidLooks := .later }
def DigestKnownCardSaid : Prop := Claim7.holds Tryd.pinned (.plain (OpenSpec.ofChange digestKnownSpec)) digestKnownCard

/-- THE SECOND FORM's CARD OF 'hindcastlaw10.DigestJoins'. -/
def digestJoinsUptoCard : Claim7 := { stood := { row := digestJoinsUptoRow, standIns := [], harness := (true, "4a3357ab052cf70dcda54590ccfb03963d2bf710b78bb58b41fade3e637e4add"), looks := false }, kinds := [], alts := [], laidByText := true, laidKinds := [.data, .data], laidTests := true, laidLooks := .later }
def DigestJoinsUptoCardSaid : Prop := Claim7.holds Tryd.pinned (.plain (OpenSpec.upto digestJoinsSpec)) digestJoinsUptoCard

/-- THE SECOND FORM's CARD OF 'hindcastlaw10.DigestMixes'. -/
def digestMixesUptoCard : Claim7 := { stood := { row := digestMixesUptoRow, standIns := [], harness := (true, "4a3357ab052cf70dcda54590ccfb03963d2bf710b78bb58b41fade3e637e4add"), looks := false }, kinds := [], alts := [], laidByText := true, laidKinds := [.data, .data], laidTests := true, laidLooks := .later }
def DigestMixesUptoCardSaid : Prop := Claim7.holds Tryd.pinned (.plain (OpenSpec.upto digestMixesSpec)) digestMixesUptoCard

/-- THE SECOND FORM's CARD OF 'hindcastlaw10.DigestOn'. -/
def digestOnUptoCard : Claim7 := { stood := { row := digestOnUptoRow, standIns := [], harness := (true, "4a3357ab052cf70dcda54590ccfb03963d2bf710b78bb58b41fade3e637e4add"), looks := false }, kinds := [], alts := [], laidByText := true, laidKinds := [.data, .data], laidTests := true, laidLooks := .later }
def DigestOnUptoCardSaid : Prop := Claim7.holds Tryd.pinned (.plain (OpenSpec.upto digestOnSpec)) digestOnUptoCard

/-- THE SECOND FORM's CARD OF 'hindcastlaw10.DigestApart'. -/
def digestApartUptoCard : Claim7 := { stood := { row := digestApartUptoRow, standIns := [], harness := (true, "4a3357ab052cf70dcda54590ccfb03963d2bf710b78bb58b41fade3e637e4add"), looks := false }, kinds := [], alts := [], laidByText := true, laidKinds := [.data, .data], laidTests := true, laidLooks := .later }
def DigestApartUptoCardSaid : Prop := Claim7.holds Tryd.pinned (.plain (OpenSpec.upto digestApartSpec)) digestApartUptoCard

/-- THE SECOND FORM's CARD OF 'hindcastlaw10.DigestKnown'. -/
def digestKnownUptoCard : Claim7 := { stood := { row := digestKnownUptoRow, standIns := [], harness := (true, "4a3357ab052cf70dcda54590ccfb03963d2bf710b78bb58b41fade3e637e4add"), looks := false }, kinds := [], alts := [], laidByText := true, laidKinds := [.data, .data], laidTests := true, laidLooks := .later }
def DigestKnownUptoCardSaid : Prop := Claim7.holds Tryd.pinned (.plain (OpenSpec.upto digestKnownSpec)) digestKnownUptoCard
end Rows
end Go.Proofs.YtgnddjlbhfoioaaDoor
