/-
  NARROWER THAN 'FOR EVERY INPUT', by the rows' own cells (each row's printed sentence says how): DigestJoins: laid · DigestMixes: laid · DigestOn: laid · DigestApart: laid · DigestKnown: laid.
  DERIVED. THE GIVEN ROWS OF THIS SEAT. 5 by the template 'for every input the law returns true; each argument reads behind the call as it read before'; 0 by the template 'total and deterministic' (their statements: YtgnddjlbhfoioaaDoorTotals.lean).
  GIVEN WITH THE SEED: the statements are not yours to turn. If you find one false, say at which input.
  Laid BY PROGRAM, IN A SANDBOX (cutbox-rows.mjs): the forced cells as the released guide's own fill.sh prints them over the translation a6f2a05b92a71d35… (all of the seat's roots in one cut). By AI agents, Wed Nov 11 2026. No macro, syntax, notation, axiom, sorry.
-/
import Derived.Test.YtgnddjlbhfoioaaDoorChecked
import GoSem.Claim
import GoSem.ClaimJoined
import GoSem.ClaimMapViews
import Derived.JoinedTies
import Derived.KernelRfl
namespace Go.Proofs.YtgnddjlbhfoioaaDoor
/- THE CELL 'sum', in the pinned program and in every row, IS THE sha256 OF THE DUMP (.gsa) THAT YtgnddjlbhfoioaaDoorProg.lean LOADS. Nothing in Lean hashes anything: it is a label: what it is worth is what the hold of that sum in a sandbox is worth. -/
noncomputable def Tryd.pinned : Pinned := { name := "ytgnddjlbhfoioaadoor", sum := "a6f2a05b92a71d35e527ea0d471597c35cbff5020877b28883c2b32a8cae7277", checked := Tryd.checked }
namespace Rows
def none {H : Type} : Left H := { results := [], args := [] }

/- WHAT THE LISTED PACKAGE-LEVEL VARIABLES READ AS WHEN THE CALL BEGINS. Each datum BY PROGRAM (the guide's laid-datum.mjs) off the statement by which the dump's own 'gosem.cut.vars' lays the variable. In a bare row this is a premise. The card (YtgnddjlbhfoioaaDoorCards.lean) ties it to the program's text. -/
def laid_hindcast_state_playerBounds {H : Type} : DataW H := .agg [.agg [.lit (.int .i32 0), .lit (.int .i32 61440)], .agg [.lit (.int .i32 0), .lit (.int .i32 28672)], .agg [.lit (.int .i32 (-1024)), .lit (.int .i32 1024)], .agg [.lit (.int .i32 (-1024)), .lit (.int .i32 1024)], .agg [.lit (.int .i32 1), .lit (.int .i32 100)], .agg [.lit (.int .i32 0), .lit (.int .i32 30)], .agg [.lit (.int .i32 0), .lit (.int .i32 3)]]
def laid_hindcast_state_shotBounds {H : Type} : DataW H := .agg [.agg [.lit (.int .i32 0), .lit (.int .i32 65024)], .agg [.lit (.int .i32 0), .lit (.int .i32 32256)], .agg [.lit (.int .i32 (-2048)), .lit (.int .i32 2048)], .agg [.lit (.int .i32 (-2048)), .lit (.int .i32 2048)], .agg [.lit (.int .i32 0), .lit (.int .i32 1)], .agg [.lit (.int .i32 1), .lit (.int .i32 40)]]

/-- 'hindcastlaw10.DigestJoins': WHATEVER THE INPUT: true; the input reads as it did. -/
def digestJoinsSpec : ChangeSpec := { name := "digestJoins", fn := fun _ => fun
  | [d1, d2, d3] => { results := [.lit (.bool true)], args := [d1, d2, d3] }
  | _ => none }
def digestJoinsRow : OpenClaim := { program := "ytgnddjlbhfoioaadoor", sum := "a6f2a05b92a71d35e527ea0d471597c35cbff5020877b28883c2b32a8cae7277", func := "hindcast/hindcastlaw10.DigestJoins", spec := "digestJoins", unfollowed := true, recurses := true, named := ["hindcast/state.playerBounds", "hindcast/state.shotBounds"], apart := false, laid := [("hindcast/state.playerBounds", laid_hindcast_state_playerBounds), ("hindcast/state.shotBounds", laid_hindcast_state_shotBounds)] }
def DigestJoinsSaid : Prop := digestJoinsRow.holds Tryd.pinned (OpenSpec.ofChange digestJoinsSpec)

/-- ITS FALSE NEIGHBOUR: 'it returns false'. Refute it at one input. -/
def digestJoinsWrong : ChangeSpec := { name := "digestJoins", fn := fun _ => fun
  | [d1, d2, d3] => { results := [.lit (.bool false)], args := [d1, d2, d3] }
  | _ => none }
def DigestJoinsWrongFalsely : Prop := digestJoinsRow.holds Tryd.pinned (OpenSpec.ofChange digestJoinsWrong)

/-- 'hindcastlaw10.DigestMixes': WHATEVER THE INPUT: true; the input reads as it did. -/
def digestMixesSpec : ChangeSpec := { name := "digestMixes", fn := fun _ => fun
  | [d1, d2, d3] => { results := [.lit (.bool true)], args := [d1, d2, d3] }
  | _ => none }
def digestMixesRow : OpenClaim := { program := "ytgnddjlbhfoioaadoor", sum := "a6f2a05b92a71d35e527ea0d471597c35cbff5020877b28883c2b32a8cae7277", func := "hindcast/hindcastlaw10.DigestMixes", spec := "digestMixes", unfollowed := true, recurses := true, named := ["hindcast/state.playerBounds", "hindcast/state.shotBounds"], apart := false, laid := [("hindcast/state.playerBounds", laid_hindcast_state_playerBounds), ("hindcast/state.shotBounds", laid_hindcast_state_shotBounds)] }
def DigestMixesSaid : Prop := digestMixesRow.holds Tryd.pinned (OpenSpec.ofChange digestMixesSpec)

/-- ITS FALSE NEIGHBOUR: 'it returns false'. Refute it at one input. -/
def digestMixesWrong : ChangeSpec := { name := "digestMixes", fn := fun _ => fun
  | [d1, d2, d3] => { results := [.lit (.bool false)], args := [d1, d2, d3] }
  | _ => none }
def DigestMixesWrongFalsely : Prop := digestMixesRow.holds Tryd.pinned (OpenSpec.ofChange digestMixesWrong)

/-- 'hindcastlaw10.DigestOn': WHATEVER THE INPUT: true; the input reads as it did. -/
def digestOnSpec : ChangeSpec := { name := "digestOn", fn := fun _ => fun
  | [d1, d2, d3] => { results := [.lit (.bool true)], args := [d1, d2, d3] }
  | _ => none }
def digestOnRow : OpenClaim := { program := "ytgnddjlbhfoioaadoor", sum := "a6f2a05b92a71d35e527ea0d471597c35cbff5020877b28883c2b32a8cae7277", func := "hindcast/hindcastlaw10.DigestOn", spec := "digestOn", unfollowed := true, recurses := true, named := ["hindcast/state.playerBounds", "hindcast/state.shotBounds"], apart := false, laid := [("hindcast/state.playerBounds", laid_hindcast_state_playerBounds), ("hindcast/state.shotBounds", laid_hindcast_state_shotBounds)] }
def DigestOnSaid : Prop := digestOnRow.holds Tryd.pinned (OpenSpec.ofChange digestOnSpec)

/-- ITS FALSE NEIGHBOUR: 'it returns false'. Refute it at one input. -/
def digestOnWrong : ChangeSpec := { name := "digestOn", fn := fun _ => fun
  | [d1, d2, d3] => { results := [.lit (.bool false)], args := [d1, d2, d3] }
  | _ => none }
def DigestOnWrongFalsely : Prop := digestOnRow.holds Tryd.pinned (OpenSpec.ofChange digestOnWrong)

/-- 'hindcastlaw10.DigestApart': WHATEVER THE INPUT: true; the input reads as it did. -/
def digestApartSpec : ChangeSpec := { name := "digestApart", fn := fun _ => fun
  | [d1, d2, d3] => { results := [.lit (.bool true)], args := [d1, d2, d3] }
  | _ => none }
def digestApartRow : OpenClaim := { program := "ytgnddjlbhfoioaadoor", sum := "a6f2a05b92a71d35e527ea0d471597c35cbff5020877b28883c2b32a8cae7277", func := "hindcast/hindcastlaw10.DigestApart", spec := "digestApart", unfollowed := true, recurses := true, named := ["hindcast/state.playerBounds", "hindcast/state.shotBounds"], apart := false, laid := [("hindcast/state.playerBounds", laid_hindcast_state_playerBounds), ("hindcast/state.shotBounds", laid_hindcast_state_shotBounds)] }
def DigestApartSaid : Prop := digestApartRow.holds Tryd.pinned (OpenSpec.ofChange digestApartSpec)

/-- ITS FALSE NEIGHBOUR: 'it returns false'. Refute it at one input. -/
def digestApartWrong : ChangeSpec := { name := "digestApart", fn := fun _ => fun
  | [d1, d2, d3] => { results := [.lit (.bool false)], args := [d1, d2, d3] }
  | _ => none }
def DigestApartWrongFalsely : Prop := digestApartRow.holds Tryd.pinned (OpenSpec.ofChange digestApartWrong)

/-- 'hindcastlaw10.DigestKnown': WHATEVER THE INPUT: true; the input reads as it did. -/
def digestKnownSpec : ChangeSpec := { name := "digestKnown", fn := fun _ => fun
  | [] => { results := [.lit (.bool true)], args := [] }
  | _ => none }
def digestKnownRow : OpenClaim := { program := "ytgnddjlbhfoioaadoor", sum := "a6f2a05b92a71d35e527ea0d471597c35cbff5020877b28883c2b32a8cae7277", func := "hindcast/hindcastlaw10.DigestKnown", spec := "digestKnown", unfollowed := true, recurses := true, named := ["hindcast/state.playerBounds", "hindcast/state.shotBounds"], apart := false, laid := [("hindcast/state.playerBounds", laid_hindcast_state_playerBounds), ("hindcast/state.shotBounds", laid_hindcast_state_shotBounds)] }
def DigestKnownSaid : Prop := digestKnownRow.holds Tryd.pinned (OpenSpec.ofChange digestKnownSpec)

/-- ITS FALSE NEIGHBOUR: 'it returns false'. Refute it at one input. -/
def digestKnownWrong : ChangeSpec := { name := "digestKnown", fn := fun _ => fun
  | [] => { results := [.lit (.bool false)], args := [] }
  | _ => none }
def DigestKnownWrongFalsely : Prop := digestKnownRow.holds Tryd.pinned (OpenSpec.ofChange digestKnownWrong)

/- THE SECOND FORM. 'bulk': how many values and letters a reading holds, each counted each time it is reached (what is shared counts as often as it is met; a slice's spare places count too). A statement '..UptoSaid' is the law's where the arguments, and the package variables that the reading takes, are together of bulk at most 1048576: NARROWER than '..Said'. Prove '..Said' where nothing that the law and all that it calls make is longer than what came in: it says more and counts as full. Else prove '..UptoSaid'. A law counts once. -/
mutual
def uptoBulk {H : Type} : DataW H → Nat
  | .lit (.string bytes) => bytes.length + 1
  | .lit _ => 1
  | .nil => 1
  | .ptr d => uptoBulk d + 1
  | .slice elems spare => uptoBulkAll elems + uptoBulkAll spare + 1
  | .agg parts => uptoBulkAll parts + 1
  | .iface _ d => uptoBulk d + 1
  | .map entries => uptoBulkEntries entries + 1
  | .held _ => 1
def uptoBulkAll {H : Type} : List (DataW H) → Nat
  | [] => 0
  | d :: r => uptoBulk d + uptoBulkAll r
def uptoBulkEntries {H : Type} : List (Lit × DataW H) → Nat
  | [] => 0
  | x :: r => uptoBulkEntry x + uptoBulkEntries r
def uptoBulkEntry {H : Type} : Lit × DataW H → Nat
  | (.string bytes, d) => bytes.length + uptoBulk d + 1
  | (_, d) => uptoBulk d + 1
 end
def uptoSmall : (H : Type) → List (DataW H) → Bool := fun _ ds => decide (uptoBulkAll ds ≤ 1048576)
def OpenSpec.upto (s : _root_.Go.ChangeSpec) : _root_.Go.OpenSpec := { _root_.Go.OpenSpec.ofChange s with cond := some uptoSmall }

/-- 'hindcastlaw10.DigestJoins', WHERE WHAT IT READS IS OF BULK AT MOST 1048576: true; the input reads as it did. -/
def digestJoinsUptoRow : OpenClaim := { program := "ytgnddjlbhfoioaadoor", sum := "a6f2a05b92a71d35e527ea0d471597c35cbff5020877b28883c2b32a8cae7277", func := "hindcast/hindcastlaw10.DigestJoins", spec := "digestJoins", unfollowed := true, recurses := true, named := ["hindcast/state.playerBounds", "hindcast/state.shotBounds"], apart := false, laid := [("hindcast/state.playerBounds", laid_hindcast_state_playerBounds), ("hindcast/state.shotBounds", laid_hindcast_state_shotBounds)], narrowed := true }
def DigestJoinsUptoSaid : Prop := digestJoinsUptoRow.holds Tryd.pinned (OpenSpec.upto digestJoinsSpec)

/-- 'hindcastlaw10.DigestMixes', WHERE WHAT IT READS IS OF BULK AT MOST 1048576: true; the input reads as it did. -/
def digestMixesUptoRow : OpenClaim := { program := "ytgnddjlbhfoioaadoor", sum := "a6f2a05b92a71d35e527ea0d471597c35cbff5020877b28883c2b32a8cae7277", func := "hindcast/hindcastlaw10.DigestMixes", spec := "digestMixes", unfollowed := true, recurses := true, named := ["hindcast/state.playerBounds", "hindcast/state.shotBounds"], apart := false, laid := [("hindcast/state.playerBounds", laid_hindcast_state_playerBounds), ("hindcast/state.shotBounds", laid_hindcast_state_shotBounds)], narrowed := true }
def DigestMixesUptoSaid : Prop := digestMixesUptoRow.holds Tryd.pinned (OpenSpec.upto digestMixesSpec)

/-- 'hindcastlaw10.DigestOn', WHERE WHAT IT READS IS OF BULK AT MOST 1048576: true; the input reads as it did. -/
def digestOnUptoRow : OpenClaim := { program := "ytgnddjlbhfoioaadoor", sum := "a6f2a05b92a71d35e527ea0d471597c35cbff5020877b28883c2b32a8cae7277", func := "hindcast/hindcastlaw10.DigestOn", spec := "digestOn", unfollowed := true, recurses := true, named := ["hindcast/state.playerBounds", "hindcast/state.shotBounds"], apart := false, laid := [("hindcast/state.playerBounds", laid_hindcast_state_playerBounds), ("hindcast/state.shotBounds", laid_hindcast_state_shotBounds)], narrowed := true }
def DigestOnUptoSaid : Prop := digestOnUptoRow.holds Tryd.pinned (OpenSpec.upto digestOnSpec)

/-- 'hindcastlaw10.DigestApart', WHERE WHAT IT READS IS OF BULK AT MOST 1048576: true; the input reads as it did. -/
def digestApartUptoRow : OpenClaim := { program := "ytgnddjlbhfoioaadoor", sum := "a6f2a05b92a71d35e527ea0d471597c35cbff5020877b28883c2b32a8cae7277", func := "hindcast/hindcastlaw10.DigestApart", spec := "digestApart", unfollowed := true, recurses := true, named := ["hindcast/state.playerBounds", "hindcast/state.shotBounds"], apart := false, laid := [("hindcast/state.playerBounds", laid_hindcast_state_playerBounds), ("hindcast/state.shotBounds", laid_hindcast_state_shotBounds)], narrowed := true }
def DigestApartUptoSaid : Prop := digestApartUptoRow.holds Tryd.pinned (OpenSpec.upto digestApartSpec)

/-- 'hindcastlaw10.DigestKnown', WHERE WHAT IT READS IS OF BULK AT MOST 1048576: true; the input reads as it did. -/
def digestKnownUptoRow : OpenClaim := { program := "ytgnddjlbhfoioaadoor", sum := "a6f2a05b92a71d35e527ea0d471597c35cbff5020877b28883c2b32a8cae7277", func := "hindcast/hindcastlaw10.DigestKnown", spec := "digestKnown", unfollowed := true, recurses := true, named := ["hindcast/state.playerBounds", "hindcast/state.shotBounds"], apart := false, laid := [("hindcast/state.playerBounds", laid_hindcast_state_playerBounds), ("hindcast/state.shotBounds", laid_hindcast_state_shotBounds)], narrowed := true }
def DigestKnownUptoSaid : Prop := digestKnownUptoRow.holds Tryd.pinned (OpenSpec.upto digestKnownSpec)

end Rows
end Go.Proofs.YtgnddjlbhfoioaaDoor
