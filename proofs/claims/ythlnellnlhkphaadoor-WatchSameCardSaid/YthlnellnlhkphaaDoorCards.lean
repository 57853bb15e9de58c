/-
  DERIVED. GIVEN WITH THE SEED: THE CARDS: each row of YthlnellnlhkphaaDoorRows.lean that lists a variable, with what it lists TIED to the program's text (the seventh form; the later family's looks); each row that meets fmt, with fmt's text TOLD by the authors' own Lean function (tested against real Go, not proved from fmt's source: count such statements apart). THE CARD IS WHAT COUNTS. Prove the row's statement (the work); the ties are given (YthlnellnlhkphaaDoorTie.lean); close each card by the builder's one call (the guide's Derived/Test/ToyasCard.lean, 'card_holds'). Laid BY PROGRAM, IN A SANDBOX (cutbox-door.mjs). By AI agents, Wed Nov 11 2026. No macro, syntax, notation, axiom, sorry.
-/
import Derived.Test.YthlnellnlhkphaaDoorRows
import GoSem.ClaimSeven
namespace Go.Proofs.YthlnellnlhkphaaDoor
namespace Rows

/-- THE TIED CARD OF 'hindcastlaw29.WatchPlays'. -/
def watchPlaysCard : Claim7 := { stood := { row := watchPlaysRow, standIns := [], harness := (true, "8f6689a69c41ef5dc25abc6195e34e9f60efb4b76465c4803dd67fdc8b750f2b"), looks := false }, kinds := [], alts := [], laidByText := true, laidKinds := [.data, .data], laidTests := true, laidLooks := .later }
def WatchPlaysCardSaid : Prop := Claim7.holds Tryd.pinned (.plain (OpenSpec.ofChange watchPlaysSpec)) watchPlaysCard

/-- THE TIED CARD OF 'hindcastlaw29.WatchKnown'. -/
def watchKnownCard : Claim7 := { stood := { row := watchKnownRow, standIns := [], harness := (true, "8f6689a69c41ef5dc25abc6195e34e9f60efb4b76465c4803dd67fdc8b750f2b"), looks := false }, kinds := [], alts := [], laidByText := true, laidKinds := [.data, .data], laidTests := true, laidLooks := .later }
def WatchKnownCardSaid : Prop := Claim7.holds Tryd.pinned (.plain (OpenSpec.ofChange watchKnownSpec)) watchKnownCard

/-- THE TIED CARD OF 'hindcastlaw29.WatchSame'. -/
def watchSameCard : Claim7 := { stood := { row := watchSameRow, standIns := [], harness := (true, "8f6689a69c41ef5dc25abc6195e34e9f60efb4b76465c4803dd67fdc8b750f2b"), looks := false }, kinds := [], alts := [], laidByText := true, laidKinds := [.data, .data], laidTests := true, laidLooks := .later }
def WatchSameCardSaid : Prop := Claim7.holds Tryd.pinned (.plain (OpenSpec.ofChange watchSameSpec)) watchSameCard

/-- THE SECOND FORM's CARD OF 'hindcastlaw29.WatchPlays'. -/
def watchPlaysUptoCard : Claim7 := { stood := { row := watchPlaysUptoRow, standIns := [], harness := (true, "8f6689a69c41ef5dc25abc6195e34e9f60efb4b76465c4803dd67fdc8b750f2b"), looks := false }, kinds := [], alts := [], laidByText := true, laidKinds := [.data, .data], laidTests := true, laidLooks := .later }
def WatchPlaysUptoCardSaid : Prop := Claim7.holds Tryd.pinned (.plain (OpenSpec.upto watchPlaysSpec)) watchPlaysUptoCard

/-- THE SECOND FORM's CARD OF 'hindcastlaw29.WatchKnown'. -/
def watchKnownUptoCard : Claim7 := { stood := { row := watchKnownUptoRow, standIns := [], harness := (true, "8f6689a69c41ef5dc25abc6195e34e9f60efb4b76465c4803dd67fdc8b750f2b"), looks := false }, kinds := [], alts := [], laidByText := true, laidKinds := [.data, .data], laidTests := true, laidLooks := .later }
def WatchKnownUptoCardSaid : Prop := Claim7.holds Tryd.pinned (.plain (OpenSpec.upto watchKnownSpec)) watchKnownUptoCard

/-- THE SECOND FORM's CARD OF 'hindcastlaw29.WatchSame'. -/
def watchSameUptoCard : Claim7 := { stood := { row := watchSameUptoRow, standIns := [], harness := (true, "8f6689a69c41ef5dc25abc6195e34e9f60efb4b76465c4803dd67fdc8b750f2b"), looks := false }, kinds := [], alts := [], laidByText := true, laidKinds := [.data, .data], laidTests := true, laidLooks := .later }
def WatchSameUptoCardSaid : Prop := Claim7.holds Tryd.pinned (.plain (OpenSpec.upto watchSameSpec)) watchSameUptoCard
end Rows
end Go.Proofs.YthlnellnlhkphaaDoor
