/-
  No cell of these rows narrows 'for every input' (looked for: loops, veiled, ifaces, maps, wideKeys, modest, calm, conditions, laid).
  DERIVED. THE GIVEN ROWS OF THIS SEAT. 6 by the template 'for every input the law returns true; each argument reads behind the call as it read before'; 0 by the template 'total and deterministic' (their statements: YtfmicjjbbeffjaaTotals.lean).
  GIVEN WITH THE SEED: the statements are not yours to turn. If you find one false, say at which input.
  Laid BY PROGRAM, IN A SANDBOX (cutbox-rows.mjs): the forced cells as the released guide's own fill.sh prints them over the translation 50f666bc9204eda0… (all of the seat's roots in one cut). By AI agents, Wed Nov 11 2026. No macro, syntax, notation, axiom, sorry.
-/
import Derived.Test.YtfmicjjbbeffjaaChecked
import GoSem.Claim
import GoSem.ClaimJoined
import GoSem.ClaimMapViews
import Derived.JoinedTies
import Derived.KernelRfl
namespace Go.Proofs.Ytfmicjjbbeffjaa
/- THE CELL 'sum', in the pinned program and in every row, IS THE sha256 OF THE DUMP (.gsa) THAT YtfmicjjbbeffjaaProg.lean LOADS. Nothing in Lean hashes anything: it is a label: what it is worth is what the hold of that sum in a sandbox is worth. -/
noncomputable def Try.pinned : Pinned := { name := "ytfmicjjbbeffjaa", sum := "50f666bc9204eda0a6b82e5c0d31a9502c1191e62db24f27198610f8f6fbcfc7", checked := Try.checked }
namespace Rows
def none {H : Type} : Left H := { results := [], args := [] }

/-- 'hindcastlaw07.GeomOver': WHATEVER THE INPUT: true; the input reads as it did. -/
def geomOverSpec : ChangeSpec := { name := "geomOver", fn := fun _ => fun
  | [d1, d2] => { results := [.lit (.bool true)], args := [d1, d2] }
  | _ => none }
def geomOverRow : OpenClaim := { program := "ytfmicjjbbeffjaa", sum := "50f666bc9204eda0a6b82e5c0d31a9502c1191e62db24f27198610f8f6fbcfc7", func := "hindcast/hindcastlaw07.GeomOver", spec := "geomOver", unfollowed := true, recurses := true, apart := false }
def GeomOverSaid : Prop := geomOverRow.holds Try.pinned (OpenSpec.ofChange geomOverSpec)

/-- ITS FALSE NEIGHBOUR: 'it returns false'. Refute it at one input. -/
def geomOverWrong : ChangeSpec := { name := "geomOver", fn := fun _ => fun
  | [d1, d2] => { results := [.lit (.bool false)], args := [d1, d2] }
  | _ => none }
def GeomOverWrongFalsely : Prop := geomOverRow.holds Try.pinned (OpenSpec.ofChange geomOverWrong)

/-- 'hindcastlaw07.GeomMoves': WHATEVER THE INPUT: true; the input reads as it did. -/
def geomMovesSpec : ChangeSpec := { name := "geomMoves", fn := fun _ => fun
  | [d1, d2, d3] => { results := [.lit (.bool true)], args := [d1, d2, d3] }
  | _ => none }
def geomMovesRow : OpenClaim := { program := "ytfmicjjbbeffjaa", sum := "50f666bc9204eda0a6b82e5c0d31a9502c1191e62db24f27198610f8f6fbcfc7", func := "hindcast/hindcastlaw07.GeomMoves", spec := "geomMoves", unfollowed := true, recurses := true, apart := false }
def GeomMovesSaid : Prop := geomMovesRow.holds Try.pinned (OpenSpec.ofChange geomMovesSpec)

/-- ITS FALSE NEIGHBOUR: 'it returns false'. Refute it at one input. -/
def geomMovesWrong : ChangeSpec := { name := "geomMoves", fn := fun _ => fun
  | [d1, d2, d3] => { results := [.lit (.bool false)], args := [d1, d2, d3] }
  | _ => none }
def GeomMovesWrongFalsely : Prop := geomMovesRow.holds Try.pinned (OpenSpec.ofChange geomMovesWrong)

/-- 'hindcastlaw07.GeomPoint': WHATEVER THE INPUT: true; the input reads as it did. -/
def geomPointSpec : ChangeSpec := { name := "geomPoint", fn := fun _ => fun
  | [d1, d2, d3] => { results := [.lit (.bool true)], args := [d1, d2, d3] }
  | _ => none }
def geomPointRow : OpenClaim := { program := "ytfmicjjbbeffjaa", sum := "50f666bc9204eda0a6b82e5c0d31a9502c1191e62db24f27198610f8f6fbcfc7", func := "hindcast/hindcastlaw07.GeomPoint", spec := "geomPoint", unfollowed := true, recurses := true, apart := false }
def GeomPointSaid : Prop := geomPointRow.holds Try.pinned (OpenSpec.ofChange geomPointSpec)

/-- ITS FALSE NEIGHBOUR: 'it returns false'. Refute it at one input. -/
def geomPointWrong : ChangeSpec := { name := "geomPoint", fn := fun _ => fun
  | [d1, d2, d3] => { results := [.lit (.bool false)], args := [d1, d2, d3] }
  | _ => none }
def GeomPointWrongFalsely : Prop := geomPointRow.holds Try.pinned (OpenSpec.ofChange geomPointWrong)

/-- 'hindcastlaw07.GeomStays': WHATEVER THE INPUT: true; the input reads as it did. -/
def geomStaysSpec : ChangeSpec := { name := "geomStays", fn := fun _ => fun
  | [d1, d2, d3] => { results := [.lit (.bool true)], args := [d1, d2, d3] }
  | _ => none }
def geomStaysRow : OpenClaim := { program := "ytfmicjjbbeffjaa", sum := "50f666bc9204eda0a6b82e5c0d31a9502c1191e62db24f27198610f8f6fbcfc7", func := "hindcast/hindcastlaw07.GeomStays", spec := "geomStays", unfollowed := true, recurses := true, apart := false }
def GeomStaysSaid : Prop := geomStaysRow.holds Try.pinned (OpenSpec.ofChange geomStaysSpec)

/-- ITS FALSE NEIGHBOUR: 'it returns false'. Refute it at one input. -/
def geomStaysWrong : ChangeSpec := { name := "geomStays", fn := fun _ => fun
  | [d1, d2, d3] => { results := [.lit (.bool false)], args := [d1, d2, d3] }
  | _ => none }
def GeomStaysWrongFalsely : Prop := geomStaysRow.holds Try.pinned (OpenSpec.ofChange geomStaysWrong)

/-- 'hindcastlaw07.GeomNear': WHATEVER THE INPUT: true; the input reads as it did. -/
def geomNearSpec : ChangeSpec := { name := "geomNear", fn := fun _ => fun
  | [d1, d2] => { results := [.lit (.bool true)], args := [d1, d2] }
  | _ => none }
def geomNearRow : OpenClaim := { program := "ytfmicjjbbeffjaa", sum := "50f666bc9204eda0a6b82e5c0d31a9502c1191e62db24f27198610f8f6fbcfc7", func := "hindcast/hindcastlaw07.GeomNear", spec := "geomNear", unfollowed := true, recurses := true, apart := false }
def GeomNearSaid : Prop := geomNearRow.holds Try.pinned (OpenSpec.ofChange geomNearSpec)

/-- ITS FALSE NEIGHBOUR: 'it returns false'. Refute it at one input. -/
def geomNearWrong : ChangeSpec := { name := "geomNear", fn := fun _ => fun
  | [d1, d2] => { results := [.lit (.bool false)], args := [d1, d2] }
  | _ => none }
def GeomNearWrongFalsely : Prop := geomNearRow.holds Try.pinned (OpenSpec.ofChange geomNearWrong)

/-- 'hindcastlaw07.GeomKnown': WHATEVER THE INPUT: true; the input reads as it did. -/
def geomKnownSpec : ChangeSpec := { name := "geomKnown", fn := fun _ => fun
  | [] => { results := [.lit (.bool true)], args := [] }
  | _ => none }
def geomKnownRow : OpenClaim := { program := "ytfmicjjbbeffjaa", sum := "50f666bc9204eda0a6b82e5c0d31a9502c1191e62db24f27198610f8f6fbcfc7", func := "hindcast/hindcastlaw07.GeomKnown", spec := "geomKnown", unfollowed := true, recurses := true, apart := false }
def GeomKnownSaid : Prop := geomKnownRow.holds Try.pinned (OpenSpec.ofChange geomKnownSpec)

/-- ITS FALSE NEIGHBOUR: 'it returns false'. Refute it at one input. -/
def geomKnownWrong : ChangeSpec := { name := "geomKnown", fn := fun _ => fun
  | [] => { results := [.lit (.bool false)], args := [] }
  | _ => none }
def GeomKnownWrongFalsely : Prop := geomKnownRow.holds Try.pinned (OpenSpec.ofChange geomKnownWrong)

/- THE SECOND FORM. 'bulk': how many values and letters a reading holds, each counted each time it is reached (what is shared counts as often as it is met; a slice's spare places count too). A statement '..UptoSaid' is the law's where the arguments, and the package variables that the reading takes, are together of bulk at most 1048576: NARROWER than '..Said'. Prove '..Said' where nothing that the law and all that it calls make is longer than what came in: it says more and counts as full. Else prove '..UptoSaid'. A law counts once. -/
mutual
def uptoBulk {H : Type} : DataW H → Nat
  | .lit (.string bytes) => bytes.length + 1
  | .lit _ => 1
  | .nil => 1
  | .ptr d => uptoBulk d + 1
  | .slice elems spare => uptoBulkAll elems + uptoBulkAll spare + 1
  | .agg parts => uptoBulkAll parts + 1
  | .iface _ d => uptoBulk d + 1
  | .map entries => uptoBulkEntries entries + 1
  | .held _ => 1
def uptoBulkAll {H : Type} : List (DataW H) → Nat
  | [] => 0
  | d :: r => uptoBulk d + uptoBulkAll r
def uptoBulkEntries {H : Type} : List (Lit × DataW H) → Nat
  | [] => 0
  | x :: r => uptoBulkEntry x + uptoBulkEntries r
def uptoBulkEntry {H : Type} : Lit × DataW H → Nat
  | (.string bytes, d) => bytes.length + uptoBulk d + 1
  | (_, d) => uptoBulk d + 1
 end
def uptoSmall : (H : Type) → List (DataW H) → Bool := fun _ ds => decide (uptoBulkAll ds ≤ 1048576)
def OpenSpec.upto (s : _root_.Go.ChangeSpec) : _root_.Go.OpenSpec := { _root_.Go.OpenSpec.ofChange s with cond := some uptoSmall }

/-- 'hindcastlaw07.GeomOver', WHERE WHAT IT READS IS OF BULK AT MOST 1048576: true; the input reads as it did. -/
def geomOverUptoRow : OpenClaim := { program := "ytfmicjjbbeffjaa", sum := "50f666bc9204eda0a6b82e5c0d31a9502c1191e62db24f27198610f8f6fbcfc7", func := "hindcast/hindcastlaw07.GeomOver", spec := "geomOver", unfollowed := true, recurses := true, apart := false, narrowed := true }
def GeomOverUptoSaid : Prop := geomOverUptoRow.holds Try.pinned (OpenSpec.upto geomOverSpec)

/-- 'hindcastlaw07.GeomMoves', WHERE WHAT IT READS IS OF BULK AT MOST 1048576: true; the input reads as it did. -/
def geomMovesUptoRow : OpenClaim := { program := "ytfmicjjbbeffjaa", sum := "50f666bc9204eda0a6b82e5c0d31a9502c1191e62db24f27198610f8f6fbcfc7", func := "hindcast/hindcastlaw07.GeomMoves", spec := "geomMoves", unfollowed := true, recurses := true, apart := false, narrowed := true }
def GeomMovesUptoSaid : Prop := geomMovesUptoRow.holds Try.pinned (OpenSpec.upto geomMovesSpec)

/-- 'hindcastlaw07.GeomPoint', WHERE WHAT IT READS IS OF BULK AT MOST 1048576: true; the input reads as it did. -/
def geomPointUptoRow : OpenClaim := { program := "ytfmicjjbbeffjaa", sum := "50f666bc9204eda0a6b82e5c0d31a9502c1191e62db24f27198610f8f6fbcfc7", func := "hindcast/hindcastlaw07.GeomPoint", spec := "geomPoint", unfollowed := true, recurses := true, apart := false, narrowed := true }
def GeomPointUptoSaid : Prop := geomPointUptoRow.holds Try.pinned (OpenSpec.upto geomPointSpec)

/-- 'hindcastlaw07.GeomStays', WHERE WHAT IT READS IS OF BULK AT MOST 1048576: true; the input reads as it did. -/
def geomStaysUptoRow : OpenClaim := { program := "ytfmicjjbbeffjaa", sum := "50f666bc9204eda0a6b82e5c0d31a9502c1191e62db24f27198610f8f6fbcfc7", func := "hindcast/hindcastlaw07.GeomStays", spec := "geomStays", unfollowed := true, recurses := true, apart := false, narrowed := true }
def GeomStaysUptoSaid : Prop := geomStaysUptoRow.holds Try.pinned (OpenSpec.upto geomStaysSpec)

/-- 'hindcastlaw07.GeomNear', WHERE WHAT IT READS IS OF BULK AT MOST 1048576: true; the input reads as it did. -/
def geomNearUptoRow : OpenClaim := { program := "ytfmicjjbbeffjaa", sum := "50f666bc9204eda0a6b82e5c0d31a9502c1191e62db24f27198610f8f6fbcfc7", func := "hindcast/hindcastlaw07.GeomNear", spec := "geomNear", unfollowed := true, recurses := true, apart := false, narrowed := true }
def GeomNearUptoSaid : Prop := geomNearUptoRow.holds Try.pinned (OpenSpec.upto geomNearSpec)

/-- 'hindcastlaw07.GeomKnown', WHERE WHAT IT READS IS OF BULK AT MOST 1048576: true; the input reads as it did. -/
def geomKnownUptoRow : OpenClaim := { program := "ytfmicjjbbeffjaa", sum := "50f666bc9204eda0a6b82e5c0d31a9502c1191e62db24f27198610f8f6fbcfc7", func := "hindcast/hindcastlaw07.GeomKnown", spec := "geomKnown", unfollowed := true, recurses := true, apart := false, narrowed := true }
def GeomKnownUptoSaid : Prop := geomKnownUptoRow.holds Try.pinned (OpenSpec.upto geomKnownSpec)

end Rows
end Go.Proofs.Ytfmicjjbbeffjaa
