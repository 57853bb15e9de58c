/-
  DERIVED. GIVEN WITH THE SEED: THE CARDS: each row of YtfkkpnfbpolppaaDoorRows.lean that lists a variable, with what it lists TIED to the program's text (the seventh form; the later family's looks); each row that meets fmt, with fmt's text TOLD by the authors' own Lean function (tested against real Go, not proved from fmt's source: count such statements apart). THE CARD IS WHAT COUNTS. Prove the row's statement (the work); the ties are given (YtfkkpnfbpolppaaDoorTie.lean); close each card by the builder's one call (the guide's Derived/Test/ToyasCard.lean, 'card_holds'). Laid BY PROGRAM, IN A SANDBOX (cutbox-door.mjs). By AI agents, Wed Nov 11 2026. No macro, syntax, notation, axiom, sorry.
-/
import Derived.Test.YtfkkpnfbpolppaaDoorRows
import GoSem.ClaimSeven
namespace Go.Proofs.YtfkkpnfbpolppaaDoor
namespace Rows

/-- THE TIED CARD OF 'hindcastlaw11.FoldMakes'. -/
def foldMakesCard : Claim7 := { stood := { row := foldMakesRow, standIns := [], harness := (true, "b6aca47960e41962ba44e875ca7452d76ae6dd6ed6bff1f3d7e2189f93ec75f4"), looks := false }, kinds := [], alts := [], laidByText := true, laidKinds := [.data, .data], laidTests := true, laidLooks := .later }
def FoldMakesCardSaid : Prop := Claim7.holds Tryd.pinned (.plain (OpenSpec.ofChange foldMakesSpec)) foldMakesCard

/-- THE TIED CARD OF 'hindcastlaw11.FoldParts'. -/
def foldPartsCard : Claim7 := { stood := { row := foldPartsRow, standIns := [], harness := (true, "b6aca47960e41962ba44e875ca7452d76ae6dd6ed6bff1f3d7e2189f93ec75f4"), looks := false }, kinds := [], alts := [], laidByText := true, laidKinds := [.data, .data], laidTests := true, laidLooks := .later }
def FoldPartsCardSaid : Prop := Claim7.holds Tryd.pinned (.plain (OpenSpec.ofChange foldPartsSpec)) foldPartsCard

/-- THE TIED CARD OF 'hindcastlaw11.FoldHolds'. -/
def foldHoldsCard : Claim7 := { stood := { row := foldHoldsRow, standIns := [], harness := (true, "b6aca47960e41962ba44e875ca7452d76ae6dd6ed6bff1f3d7e2189f93ec75f4"), looks := false }, kinds := [], alts := [], laidByText := true, laidKinds := [.data, .data], laidTests := true, laidLooks := .later }
def FoldHoldsCardSaid : Prop := Claim7.holds Tryd.pinned (.plain (OpenSpec.ofChange foldHoldsSpec)) foldHoldsCard

/-- THE TIED CARD OF 'hindcastlaw11.FoldHistory'. -/
def foldHistoryCard : Claim7 := { stood := { row := foldHistoryRow, standIns := [], harness := (true, "b6aca47960e41962ba44e875ca7452d76ae6dd6ed6bff1f3d7e2189f93ec75f4"), looks := false }, kinds := [], alts := [], laidByText := true, laidKinds := [.data, .data], laidTests := true, laidLooks := .later }
def FoldHistoryCardSaid : Prop := Claim7.holds Tryd.pinned (.plain (OpenSpec.ofChange foldHistorySpec)) foldHistoryCard

/-- THE TIED CARD OF 'hindcastlaw11.FoldKnown'. -/
def foldKnownCard : Claim7 := { stood := { row := foldKnownRow, standIns := [], harness := (true, "b6aca47960e41962ba44e875ca7452d76ae6dd6ed6bff1f3d7e2189f93ec75f4"), looks := false }, kinds := [], alts := [], laidByText := true, laidKinds := [.data, .data], laidTests := true, laidLooks := .later }
def FoldKnownCardSaid : Prop := Claim7.holds Tryd.pinned (.plain (OpenSpec.ofChange foldKnownSpec)) foldKnownCard

/-- THE SECOND FORM's CARD OF 'hindcastlaw11.FoldMakes'. -/
def foldMakesUptoCard : Claim7 := { stood := { row := foldMakesUptoRow, standIns := [], harness := (true, "b6aca47960e41962ba44e875ca7452d76ae6dd6ed6bff1f3d7e2189f93ec75f4"), looks := false }, kinds := [], alts := [], laidByText := true, laidKinds := [.data, .data], laidTests := true, laidLooks := .later }
def FoldMakesUptoCardSaid : Prop := Claim7.holds Tryd.pinned (.plain (OpenSpec.upto foldMakesSpec)) foldMakesUptoCard

/-- THE SECOND FORM's CARD OF 'hindcastlaw11.FoldParts'. -/
def foldPartsUptoCard : Claim7 := { stood := { row := foldPartsUptoRow, standIns := [], harness := (true, "b6aca47960e41962ba44e875ca7452d76ae6dd6ed6bff1f3d7e2189f93ec75f4"), looks := false }, kinds := [], alts := [], laidByText := true, laidKinds := [.data, .data], laidTests := true, laidLooks := .later }
def FoldPartsUptoCardSaid : Prop := Claim7.holds Tryd.pinned (.plain (OpenSpec.upto foldPartsSpec)) foldPartsUptoCard

/-- THE SECOND FORM's CARD OF 'hindcastlaw11.FoldHolds'. -/
def foldHoldsUptoCard : Claim7 := { stood := { row := foldHoldsUptoRow, standIns := [], harness := (true, "b6aca47960e41962ba44e875ca7452d76ae6dd6ed6bff1f3d7e2189f93ec75f4"), looks := false }, kinds := [], alts := [], laidByText := true, laidKinds := [.data, .data], laidTests := true, laidLooks := .later }
def FoldHoldsUptoCardSaid : Prop := Claim7.holds Tryd.pinned (.plain (OpenSpec.upto foldHoldsSpec)) foldHoldsUptoCard

/-- THE SECOND FORM's CARD OF 'hindcastlaw11.FoldHistory'. -/
def foldHistoryUptoCard : Claim7 := { stood := { row := foldHistoryUptoRow, standIns := [], harness := (true, "b6aca47960e41962ba44e875ca7452d76ae6dd6ed6bff1f3d7e2189f93ec75f4"), looks := false }, kinds := [], alts := [], laidByText := true, laidKinds := [.data, .data], laidTests := true, laidLooks := .later }
def FoldHistoryUptoCardSaid : Prop := Claim7.holds Tryd.pinned (.plain (OpenSpec.upto foldHistorySpec)) foldHistoryUptoCard

/-- THE SECOND FORM's CARD OF 'hindcastlaw11.FoldKnown'. -/
def foldKnownUptoCard : Claim7 := { stood := { row := foldKnownUptoRow, standIns := [], harness := (true, "b6aca47960e41962ba44e875ca7452d76ae6dd6ed6bff1f3d7e2189f93ec75f4"), looks := false }, kinds := [], alts := [], laidByText := true, laidKinds := [.data, .data], laidTests := true, laidLooks := .later }
def FoldKnownUptoCardSaid : Prop := Claim7.holds Tryd.pinned (.plain (OpenSpec.upto foldKnownSpec)) foldKnownUptoCard
end Rows
end Go.Proofs.YtfkkpnfbpolppaaDoor
