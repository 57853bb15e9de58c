/-
  NARROWER THAN 'FOR EVERY INPUT', by the rows' own cells (each row's printed sentence says how): FoldMakes: laid · FoldParts: laid · FoldHolds: laid · FoldHistory: laid · FoldKnown: laid.
  DERIVED. THE GIVEN ROWS OF THIS SEAT. 5 by the template 'for every input the law returns true; each argument reads behind the call as it read before'; 0 by the template 'total and deterministic' (their statements: YtfkkpnfbpolppaaDoorTotals.lean).
  GIVEN WITH THE SEED: the statements are not yours to turn. If you find one false, say at which input.
  Laid BY PROGRAM, IN A SANDBOX (cutbox-rows.mjs): the forced cells as the released guide's own fill.sh prints them over the translation 7e77aed7da726a2b… (all of the seat's roots in one cut). By AI agents, Wed Nov 11 2026. No macro, syntax, notation, axiom, sorry.
-/
import Derived.Test.YtfkkpnfbpolppaaDoorChecked
import GoSem.Claim
import GoSem.ClaimJoined
import GoSem.ClaimMapViews
import Derived.JoinedTies
import Derived.KernelRfl
namespace Go.Proofs.YtfkkpnfbpolppaaDoor
/- THE CELL 'sum', in the pinned program and in every row, IS THE sha256 OF THE DUMP (.gsa) THAT YtfkkpnfbpolppaaDoorProg.lean LOADS. Nothing in Lean hashes anything: it is a label: what it is worth is what the hold of that sum in a sandbox is worth. -/
noncomputable def Tryd.pinned : Pinned := { name := "ytfkkpnfbpolppaadoor", sum := "7e77aed7da726a2b47786db1fcb128a10f0681481940b1934183be5a50aa064d", checked := Tryd.checked }
namespace Rows
def none {H : Type} : Left H := { results := [], args := [] }

/- WHAT THE LISTED PACKAGE-LEVEL VARIABLES READ AS WHEN THE CALL BEGINS. Each datum BY PROGRAM (the guide's laid-datum.mjs) off the statement by which the dump's own 'gosem.cut.vars' lays the variable. In a bare row this is a premise. The card (YtfkkpnfbpolppaaDoorCards.lean) ties it to the program's text. -/
def laid_hindcast_state_playerBounds {H : Type} : DataW H := .agg [.agg [.lit (.int .i32 0), .lit (.int .i32 61440)], .agg [.lit (.int .i32 0), .lit (.int .i32 28672)], .agg [.lit (.int .i32 (-1024)), .lit (.int .i32 1024)], .agg [.lit (.int .i32 (-1024)), .lit (.int .i32 1024)], .agg [.lit (.int .i32 1), .lit (.int .i32 100)], .agg [.lit (.int .i32 0), .lit (.int .i32 30)], .agg [.lit (.int .i32 0), .lit (.int .i32 3)]]
def laid_hindcast_state_shotBounds {H : Type} : DataW H := .agg [.agg [.lit (.int .i32 0), .lit (.int .i32 65024)], .agg [.lit (.int .i32 0), .lit (.int .i32 32256)], .agg [.lit (.int .i32 (-2048)), .lit (.int .i32 2048)], .agg [.lit (.int .i32 (-2048)), .lit (.int .i32 2048)], .agg [.lit (.int .i32 0), .lit (.int .i32 1)], .agg [.lit (.int .i32 1), .lit (.int .i32 40)]]

/-- 'hindcastlaw11.FoldMakes': WHATEVER THE INPUT: true; the input reads as it did. -/
def foldMakesSpec : ChangeSpec := { name := "foldMakes", fn := fun _ => fun
  | [d1, d2] => { results := [.lit (.bool true)], args := [d1, d2] }
  | _ => none }
def foldMakesRow : OpenClaim := { program := "ytfkkpnfbpolppaadoor", sum := "7e77aed7da726a2b47786db1fcb128a10f0681481940b1934183be5a50aa064d", func := "hindcast/hindcastlaw11.FoldMakes", spec := "foldMakes", unfollowed := true, recurses := true, named := ["hindcast/state.playerBounds", "hindcast/state.shotBounds"], apart := false, laid := [("hindcast/state.playerBounds", laid_hindcast_state_playerBounds), ("hindcast/state.shotBounds", laid_hindcast_state_shotBounds)] }
def FoldMakesSaid : Prop := foldMakesRow.holds Tryd.pinned (OpenSpec.ofChange foldMakesSpec)

/-- ITS FALSE NEIGHBOUR: 'it returns false'. Refute it at one input. -/
def foldMakesWrong : ChangeSpec := { name := "foldMakes", fn := fun _ => fun
  | [d1, d2] => { results := [.lit (.bool false)], args := [d1, d2] }
  | _ => none }
def FoldMakesWrongFalsely : Prop := foldMakesRow.holds Tryd.pinned (OpenSpec.ofChange foldMakesWrong)

/-- 'hindcastlaw11.FoldParts': WHATEVER THE INPUT: true; the input reads as it did. -/
def foldPartsSpec : ChangeSpec := { name := "foldParts", fn := fun _ => fun
  | [d1, d2, d3] => { results := [.lit (.bool true)], args := [d1, d2, d3] }
  | _ => none }
def foldPartsRow : OpenClaim := { program := "ytfkkpnfbpolppaadoor", sum := "7e77aed7da726a2b47786db1fcb128a10f0681481940b1934183be5a50aa064d", func := "hindcast/hindcastlaw11.FoldParts", spec := "foldParts", unfollowed := true, recurses := true, named := ["hindcast/state.playerBounds", "hindcast/state.shotBounds"], apart := false, laid := [("hindcast/state.playerBounds", laid_hindcast_state_playerBounds), ("hindcast/state.shotBounds", laid_hindcast_state_shotBounds)] }
def FoldPartsSaid : Prop := foldPartsRow.holds Tryd.pinned (OpenSpec.ofChange foldPartsSpec)

/-- ITS FALSE NEIGHBOUR: 'it returns false'. Refute it at one input. -/
def foldPartsWrong : ChangeSpec := { name := "foldParts", fn := fun _ => fun
  | [d1, d2, d3] => { results := [.lit (.bool false)], args := [d1, d2, d3] }
  | _ => none }
def FoldPartsWrongFalsely : Prop := foldPartsRow.holds Tryd.pinned (OpenSpec.ofChange foldPartsWrong)

/-- 'hindcastlaw11.FoldHolds': WHATEVER THE INPUT: true; the input reads as it did. -/
def foldHoldsSpec : ChangeSpec := { name := "foldHolds", fn := fun _ => fun
  | [d1, d2, d3] => { results := [.lit (.bool true)], args := [d1, d2, d3] }
  | _ => none }
def foldHoldsRow : OpenClaim := { program := "ytfkkpnfbpolppaadoor", sum := "7e77aed7da726a2b47786db1fcb128a10f0681481940b1934183be5a50aa064d", func := "hindcast/hindcastlaw11.FoldHolds", spec := "foldHolds", unfollowed := true, recurses := true, named := ["hindcast/state.playerBounds", "hindcast/state.shotBounds"], apart := false, laid := [("hindcast/state.playerBounds", laid_hindcast_state_playerBounds), ("hindcast/state.shotBounds", laid_hindcast_state_shotBounds)] }
def FoldHoldsSaid : Prop := foldHoldsRow.holds Tryd.pinned (OpenSpec.ofChange foldHoldsSpec)

/-- ITS FALSE NEIGHBOUR: 'it returns false'. Refute it at one input. -/
def foldHoldsWrong : ChangeSpec := { name := "foldHolds", fn := fun _ => fun
  | [d1, d2, d3] => { results := [.lit (.bool false)], args := [d1, d2, d3] }
  | _ => none }
def FoldHoldsWrongFalsely : Prop := foldHoldsRow.holds Tryd.pinned (OpenSpec.ofChange foldHoldsWrong)

/-- 'hindcastlaw11.FoldHistory': WHATEVER THE INPUT: true; the input reads as it did. -/
def foldHistorySpec : ChangeSpec := { name := "foldHistory", fn := fun _ => fun
  | [d1, d2, d3] => { results := [.lit (.bool true)], args := [d1, d2, d3] }
  | _ => none }
def foldHistoryRow : OpenClaim := { program := "ytfkkpnfbpolppaadoor", sum := "7e77aed7da726a2b47786db1fcb128a10f0681481940b1934183be5a50aa064d", func := "hindcast/hindcastlaw11.FoldHistory", spec := "foldHistory", unfollowed := true, recurses := true, named := ["hindcast/state.playerBounds", "hindcast/state.shotBounds"], apart := false, laid := [("hindcast/state.playerBounds", laid_hindcast_state_playerBounds), ("hindcast/state.shotBounds", laid_hindcast_state_shotBounds)] }
def FoldHistorySaid : Prop := foldHistoryRow.holds Tryd.pinned (OpenSpec.ofChange foldHistorySpec)

/-- ITS FALSE NEIGHBOUR: 'it returns false'. Refute it at one input. -/
def foldHistoryWrong : ChangeSpec := { name := "foldHistory", fn := fun _ => fun
  | [d1, d2, d3] => { results := [.lit (.bool false)], args := [d1, d2, d3] }
  | _ => none }
def FoldHistoryWrongFalsely : Prop := foldHistoryRow.holds Tryd.pinned (OpenSpec.ofChange foldHistoryWrong)

/-- 'hindcastlaw11.FoldKnown': WHATEVER THE INPUT: true; the input reads as it did. -/
def foldKnownSpec : ChangeSpec := { name := "foldKnown", fn := fun _ => fun
  | [] => { results := [.lit (.bool true)], args := [] }
  | _ => none }
def foldKnownRow : OpenClaim := { program := "ytfkkpnfbpolppaadoor", sum := "7e77aed7da726a2b47786db1fcb128a10f0681481940b1934183be5a50aa064d", func := "hindcast/hindcastlaw11.FoldKnown", spec := "foldKnown", unfollowed := true, recurses := true, named := ["hindcast/state.playerBounds", "hindcast/state.shotBounds"], apart := false, laid := [("hindcast/state.playerBounds", laid_hindcast_state_playerBounds), ("hindcast/state.shotBounds", laid_hindcast_state_shotBounds)] }
def FoldKnownSaid : Prop := foldKnownRow.holds Tryd.pinned (OpenSpec.ofChange foldKnownSpec)

/-- ITS FALSE NEIGHBOUR: 'it returns false'. Refute it at one input. -/
def foldKnownWrong : ChangeSpec := { name := "foldKnown", fn := fun _ => fun
  | [] => { results := [.lit (.bool false)], args := [] }
  | _ => none }
def FoldKnownWrongFalsely : Prop := foldKnownRow.holds Tryd.pinned (OpenSpec.ofChange foldKnownWrong)

/- THE SECOND FORM. 'bulk': how many values and letters a reading holds, each counted each time it is reached (what is shared counts as often as it is met; a slice's spare places count too). A statement '..UptoSaid' is the law's where the arguments, and the package variables that the reading takes, are together of bulk at most 1048576: NARROWER than '..Said'. Prove '..Said' where nothing that the law and all that it calls make is longer than what came in: it says more and counts as full. Else prove '..UptoSaid'. A law counts once. -/
mutual
def uptoBulk {H : Type} : DataW H → Nat
  | .lit (.string bytes) => bytes.length + 1
  | .lit _ => 1
  | .nil => 1
  | .ptr d => uptoBulk d + 1
  | .slice elems spare => uptoBulkAll elems + uptoBulkAll spare + 1
  | .agg parts => uptoBulkAll parts + 1
  | .iface _ d => uptoBulk d + 1
  | .map entries => uptoBulkEntries entries + 1
  | .held _ => 1
def uptoBulkAll {H : Type} : List (DataW H) → Nat
  | [] => 0
  | d :: r => uptoBulk d + uptoBulkAll r
def uptoBulkEntries {H : Type} : List (Lit × DataW H) → Nat
  | [] => 0
  | x :: r => uptoBulkEntry x + uptoBulkEntries r
def uptoBulkEntry {H : Type} : Lit × DataW H → Nat
  | (.string bytes, d) => bytes.length + uptoBulk d + 1
  | (_, d) => uptoBulk d + 1
 end
def uptoSmall : (H : Type) → List (DataW H) → Bool := fun _ ds => decide (uptoBulkAll ds ≤ 1048576)
def OpenSpec.upto (s : _root_.Go.ChangeSpec) : _root_.Go.OpenSpec := { _root_.Go.OpenSpec.ofChange s with cond := some uptoSmall }

/-- 'hindcastlaw11.FoldMakes', WHERE WHAT IT READS IS OF BULK AT MOST 1048576: true; the input reads as it did. -/
def foldMakesUptoRow : OpenClaim := { program := "ytfkkpnfbpolppaadoor", sum := "7e77aed7da726a2b47786db1fcb128a10f0681481940b1934183be5a50aa064d", func := "hindcast/hindcastlaw11.FoldMakes", spec := "foldMakes", unfollowed := true, recurses := true, named := ["hindcast/state.playerBounds", "hindcast/state.shotBounds"], apart := false, laid := [("hindcast/state.playerBounds", laid_hindcast_state_playerBounds), ("hindcast/state.shotBounds", laid_hindcast_state_shotBounds)], narrowed := true }
def FoldMakesUptoSaid : Prop := foldMakesUptoRow.holds Tryd.pinned (OpenSpec.upto foldMakesSpec)

/-- 'hindcastlaw11.FoldParts', WHERE WHAT IT READS IS OF BULK AT MOST 1048576: true; the input reads as it did. -/
def foldPartsUptoRow : OpenClaim := { program := "ytfkkpnfbpolppaadoor", sum := "7e77aed7da726a2b47786db1fcb128a10f0681481940b1934183be5a50aa064d", func := "hindcast/hindcastlaw11.FoldParts", spec := "foldParts", unfollowed := true, recurses := true, named := ["hindcast/state.playerBounds", "hindcast/state.shotBounds"], apart := false, laid := [("hindcast/state.playerBounds", laid_hindcast_state_playerBounds), ("hindcast/state.shotBounds", laid_hindcast_state_shotBounds)], narrowed := true }
def FoldPartsUptoSaid : Prop := foldPartsUptoRow.holds Tryd.pinned (OpenSpec.upto foldPartsSpec)

/-- 'hindcastlaw11.FoldHolds', WHERE WHAT IT READS IS OF BULK AT MOST 1048576: true; the input reads as it did. -/
def foldHoldsUptoRow : OpenClaim := { program := "ytfkkpnfbpolppaadoor", sum := "7e77aed7da726a2b47786db1fcb128a10f0681481940b1934183be5a50aa064d", func := "hindcast/hindcastlaw11.FoldHolds", spec := "foldHolds", unfollowed := true, recurses := true, named := ["hindcast/state.playerBounds", "hindcast/state.shotBounds"], apart := false, laid := [("hindcast/state.playerBounds", laid_hindcast_state_playerBounds), ("hindcast/state.shotBounds", laid_hindcast_state_shotBounds)], narrowed := true }
def FoldHoldsUptoSaid : Prop := foldHoldsUptoRow.holds Tryd.pinned (OpenSpec.upto foldHoldsSpec)

/-- 'hindcastlaw11.FoldHistory', WHERE WHAT IT READS IS OF BULK AT MOST 1048576: true; the input reads as it did. -/
def foldHistoryUptoRow : OpenClaim := { program := "ytfkkpnfbpolppaadoor", sum := "7e77aed7da726a2b47786db1fcb128a10f0681481940b1934183be5a50aa064d", func := "hindcast/hindcastlaw11.FoldHistory", spec := "foldHistory", unfollowed := true, recurses := true, named := ["hindcast/state.playerBounds", "hindcast/state.shotBounds"], apart := false, laid := [("hindcast/state.playerBounds", laid_hindcast_state_playerBounds), ("hindcast/state.shotBounds", laid_hindcast_state_shotBounds)], narrowed := true }
def FoldHistoryUptoSaid : Prop := foldHistoryUptoRow.holds Tryd.pinned (OpenSpec.upto foldHistorySpec)

/-- 'hindcastlaw11.FoldKnown', WHERE WHAT IT READS IS OF BULK AT MOST 1048576: true; the input reads as it did. -/
def foldKnownUptoRow : OpenClaim := { program := "ytfkkpnfbpolppaadoor", sum := "7e77aed7da726a2b47786db1fcb128a10f0681481940b1934183be5a50aa064d", func := "hindcast/hindcastlaw11.FoldKnown", spec := "foldKnown", unfollowed := true, recurses := true, named := ["hindcast/state.playerBounds", "hindcast/state.shotBounds"], apart := false, laid := [("hindcast/state.playerBounds", laid_hindcast_state_playerBounds), ("hindcast/state.shotBounds", laid_hindcast_state_shotBounds)], narrowed := true }
def FoldKnownUptoSaid : Prop := foldKnownUptoRow.holds Tryd.pinned (OpenSpec.upto foldKnownSpec)

end Rows
end Go.Proofs.YtfkkpnfbpolppaaDoor
