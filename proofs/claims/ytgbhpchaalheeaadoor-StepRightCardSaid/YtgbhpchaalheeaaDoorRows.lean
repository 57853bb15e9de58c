/-
  NARROWER THAN 'FOR EVERY INPUT', by the rows' own cells (each row's printed sentence says how): StepMakes: laid · StepGoes: laid · StepRests: laid · StepKnown: laid · StepRight: laid.
  DERIVED. THE GIVEN ROWS OF THIS SEAT. 5 by the template 'for every input the law returns true; each argument reads behind the call as it read before'; 0 by the template 'total and deterministic' (their statements: YtgbhpchaalheeaaDoorTotals.lean).
  GIVEN WITH THE SEED: the statements are not yours to turn. If you find one false, say at which input.
  Laid BY PROGRAM, IN A SANDBOX (cutbox-rows.mjs): the forced cells as the released guide's own fill.sh prints them over the translation c01da82ffe269faf… (all of the seat's roots in one cut). By AI agents, Wed Nov 11 2026. No macro, syntax, notation, axiom, sorry.
-/
import Derived.Test.YtgbhpchaalheeaaDoorChecked
import GoSem.Claim
import GoSem.ClaimJoined
import GoSem.ClaimMapViews
import Derived.JoinedTies
import Derived.KernelRfl
namespace Go.Proofs.YtgbhpchaalheeaaDoor
/- THE CELL 'sum', in the pinned program and in every row, IS THE sha256 OF THE DUMP (.gsa) THAT YtgbhpchaalheeaaDoorProg.lean LOADS. Nothing in Lean hashes anything: it is a label: what it is worth is what the hold of that sum in a sandbox is worth. -/
noncomputable def Tryd.pinned : Pinned := { name := "ytgbhpchaalheeaadoor", sum := "c01da82ffe269faf45b9ca6043c99e1499bc5d95d4c949c4ef7fbc00421c6451", checked := Tryd.checked }
namespace Rows
def none {H : Type} : Left H := { results := [], args := [] }

/- WHAT THE LISTED PACKAGE-LEVEL VARIABLES READ AS WHEN THE CALL BEGINS. Each datum BY PROGRAM (the guide's laid-datum.mjs) off the statement by which the dump's own 'gosem.cut.vars' lays the variable. In a bare row this is a premise. The card (YtgbhpchaalheeaaDoorCards.lean) ties it to the program's text. -/
def laid_hindcast_state_playerBounds {H : Type} : DataW H := .agg [.agg [.lit (.int .i32 0), .lit (.int .i32 61440)], .agg [.lit (.int .i32 0), .lit (.int .i32 28672)], .agg [.lit (.int .i32 (-1024)), .lit (.int .i32 1024)], .agg [.lit (.int .i32 (-1024)), .lit (.int .i32 1024)], .agg [.lit (.int .i32 1), .lit (.int .i32 100)], .agg [.lit (.int .i32 0), .lit (.int .i32 30)], .agg [.lit (.int .i32 0), .lit (.int .i32 3)]]
def laid_hindcast_state_shotBounds {H : Type} : DataW H := .agg [.agg [.lit (.int .i32 0), .lit (.int .i32 65024)], .agg [.lit (.int .i32 0), .lit (.int .i32 32256)], .agg [.lit (.int .i32 (-2048)), .lit (.int .i32 2048)], .agg [.lit (.int .i32 (-2048)), .lit (.int .i32 2048)], .agg [.lit (.int .i32 0), .lit (.int .i32 1)], .agg [.lit (.int .i32 1), .lit (.int .i32 40)]]

/-- 'hindcastlaw09.StepMakes': WHATEVER THE INPUT: true; the input reads as it did. -/
def stepMakesSpec : ChangeSpec := { name := "stepMakes", fn := fun _ => fun
  | [d1, d2] => { results := [.lit (.bool true)], args := [d1, d2] }
  | _ => none }
def stepMakesRow : OpenClaim := { program := "ytgbhpchaalheeaadoor", sum := "c01da82ffe269faf45b9ca6043c99e1499bc5d95d4c949c4ef7fbc00421c6451", func := "hindcast/hindcastlaw09.StepMakes", spec := "stepMakes", unfollowed := true, recurses := true, named := ["hindcast/state.playerBounds", "hindcast/state.shotBounds"], apart := false, laid := [("hindcast/state.playerBounds", laid_hindcast_state_playerBounds), ("hindcast/state.shotBounds", laid_hindcast_state_shotBounds)] }
def StepMakesSaid : Prop := stepMakesRow.holds Tryd.pinned (OpenSpec.ofChange stepMakesSpec)

/-- ITS FALSE NEIGHBOUR: 'it returns false'. Refute it at one input. -/
def stepMakesWrong : ChangeSpec := { name := "stepMakes", fn := fun _ => fun
  | [d1, d2] => { results := [.lit (.bool false)], args := [d1, d2] }
  | _ => none }
def StepMakesWrongFalsely : Prop := stepMakesRow.holds Tryd.pinned (OpenSpec.ofChange stepMakesWrong)

/-- 'hindcastlaw09.StepGoes': WHATEVER THE INPUT: true; the input reads as it did. -/
def stepGoesSpec : ChangeSpec := { name := "stepGoes", fn := fun _ => fun
  | [d1, d2] => { results := [.lit (.bool true)], args := [d1, d2] }
  | _ => none }
def stepGoesRow : OpenClaim := { program := "ytgbhpchaalheeaadoor", sum := "c01da82ffe269faf45b9ca6043c99e1499bc5d95d4c949c4ef7fbc00421c6451", func := "hindcast/hindcastlaw09.StepGoes", spec := "stepGoes", unfollowed := true, recurses := true, named := ["hindcast/state.playerBounds", "hindcast/state.shotBounds"], apart := false, laid := [("hindcast/state.playerBounds", laid_hindcast_state_playerBounds), ("hindcast/state.shotBounds", laid_hindcast_state_shotBounds)] }
def StepGoesSaid : Prop := stepGoesRow.holds Tryd.pinned (OpenSpec.ofChange stepGoesSpec)

/-- ITS FALSE NEIGHBOUR: 'it returns false'. Refute it at one input. -/
def stepGoesWrong : ChangeSpec := { name := "stepGoes", fn := fun _ => fun
  | [d1, d2] => { results := [.lit (.bool false)], args := [d1, d2] }
  | _ => none }
def StepGoesWrongFalsely : Prop := stepGoesRow.holds Tryd.pinned (OpenSpec.ofChange stepGoesWrong)

/-- 'hindcastlaw09.StepRests': WHATEVER THE INPUT: true; the input reads as it did. -/
def stepRestsSpec : ChangeSpec := { name := "stepRests", fn := fun _ => fun
  | [d] => { results := [.lit (.bool true)], args := [d] }
  | _ => none }
def stepRestsRow : OpenClaim := { program := "ytgbhpchaalheeaadoor", sum := "c01da82ffe269faf45b9ca6043c99e1499bc5d95d4c949c4ef7fbc00421c6451", func := "hindcast/hindcastlaw09.StepRests", spec := "stepRests", unfollowed := true, recurses := true, named := ["hindcast/state.playerBounds", "hindcast/state.shotBounds"], apart := false, laid := [("hindcast/state.playerBounds", laid_hindcast_state_playerBounds), ("hindcast/state.shotBounds", laid_hindcast_state_shotBounds)] }
def StepRestsSaid : Prop := stepRestsRow.holds Tryd.pinned (OpenSpec.ofChange stepRestsSpec)

/-- ITS FALSE NEIGHBOUR: 'it returns false'. Refute it at one input. -/
def stepRestsWrong : ChangeSpec := { name := "stepRests", fn := fun _ => fun
  | [d] => { results := [.lit (.bool false)], args := [d] }
  | _ => none }
def StepRestsWrongFalsely : Prop := stepRestsRow.holds Tryd.pinned (OpenSpec.ofChange stepRestsWrong)

/-- 'hindcastlaw09.StepKnown': WHATEVER THE INPUT: true; the input reads as it did. -/
def stepKnownSpec : ChangeSpec := { name := "stepKnown", fn := fun _ => fun
  | [] => { results := [.lit (.bool true)], args := [] }
  | _ => none }
def stepKnownRow : OpenClaim := { program := "ytgbhpchaalheeaadoor", sum := "c01da82ffe269faf45b9ca6043c99e1499bc5d95d4c949c4ef7fbc00421c6451", func := "hindcast/hindcastlaw09.StepKnown", spec := "stepKnown", unfollowed := true, recurses := true, named := ["hindcast/state.playerBounds", "hindcast/state.shotBounds"], apart := false, laid := [("hindcast/state.playerBounds", laid_hindcast_state_playerBounds), ("hindcast/state.shotBounds", laid_hindcast_state_shotBounds)] }
def StepKnownSaid : Prop := stepKnownRow.holds Tryd.pinned (OpenSpec.ofChange stepKnownSpec)

/-- ITS FALSE NEIGHBOUR: 'it returns false'. Refute it at one input. -/
def stepKnownWrong : ChangeSpec := { name := "stepKnown", fn := fun _ => fun
  | [] => { results := [.lit (.bool false)], args := [] }
  | _ => none }
def StepKnownWrongFalsely : Prop := stepKnownRow.holds Tryd.pinned (OpenSpec.ofChange stepKnownWrong)

/-- 'hindcastlaw09.StepRight': WHATEVER THE INPUT: true; the input reads as it did. -/
def stepRightSpec : ChangeSpec := { name := "stepRight", fn := fun _ => fun
  | [d1, d2] => { results := [.lit (.bool true)], args := [d1, d2] }
  | _ => none }
def stepRightRow : OpenClaim := { program := "ytgbhpchaalheeaadoor", sum := "c01da82ffe269faf45b9ca6043c99e1499bc5d95d4c949c4ef7fbc00421c6451", func := "hindcast/hindcastlaw09.StepRight", spec := "stepRight", unfollowed := true, recurses := true, named := ["hindcast/state.playerBounds", "hindcast/state.shotBounds"], apart := false, laid := [("hindcast/state.playerBounds", laid_hindcast_state_playerBounds), ("hindcast/state.shotBounds", laid_hindcast_state_shotBounds)] }
def StepRightSaid : Prop := stepRightRow.holds Tryd.pinned (OpenSpec.ofChange stepRightSpec)

/-- ITS FALSE NEIGHBOUR: 'it returns false'. Refute it at one input. -/
def stepRightWrong : ChangeSpec := { name := "stepRight", fn := fun _ => fun
  | [d1, d2] => { results := [.lit (.bool false)], args := [d1, d2] }
  | _ => none }
def StepRightWrongFalsely : Prop := stepRightRow.holds Tryd.pinned (OpenSpec.ofChange stepRightWrong)

/- THE SECOND FORM. 'bulk': how many values and letters a reading holds, each counted each time it is reached (what is shared counts as often as it is met; a slice's spare places count too). A statement '..UptoSaid' is the law's where the arguments, and the package variables that the reading takes, are together of bulk at most 1048576: NARROWER than '..Said'. Prove '..Said' where nothing that the law and all that it calls make is longer than what came in: it says more and counts as full. Else prove '..UptoSaid'. A law counts once. -/
mutual
def uptoBulk {H : Type} : DataW H → Nat
  | .lit (.string bytes) => bytes.length + 1
  | .lit _ => 1
  | .nil => 1
  | .ptr d => uptoBulk d + 1
  | .slice elems spare => uptoBulkAll elems + uptoBulkAll spare + 1
  | .agg parts => uptoBulkAll parts + 1
  | .iface _ d => uptoBulk d + 1
  | .map entries => uptoBulkEntries entries + 1
  | .held _ => 1
def uptoBulkAll {H : Type} : List (DataW H) → Nat
  | [] => 0
  | d :: r => uptoBulk d + uptoBulkAll r
def uptoBulkEntries {H : Type} : List (Lit × DataW H) → Nat
  | [] => 0
  | x :: r => uptoBulkEntry x + uptoBulkEntries r
def uptoBulkEntry {H : Type} : Lit × DataW H → Nat
  | (.string bytes, d) => bytes.length + uptoBulk d + 1
  | (_, d) => uptoBulk d + 1
 end
def uptoSmall : (H : Type) → List (DataW H) → Bool := fun _ ds => decide (uptoBulkAll ds ≤ 1048576)
def OpenSpec.upto (s : _root_.Go.ChangeSpec) : _root_.Go.OpenSpec := { _root_.Go.OpenSpec.ofChange s with cond := some uptoSmall }

/-- 'hindcastlaw09.StepMakes', WHERE WHAT IT READS IS OF BULK AT MOST 1048576: true; the input reads as it did. -/
def stepMakesUptoRow : OpenClaim := { program := "ytgbhpchaalheeaadoor", sum := "c01da82ffe269faf45b9ca6043c99e1499bc5d95d4c949c4ef7fbc00421c6451", func := "hindcast/hindcastlaw09.StepMakes", spec := "stepMakes", unfollowed := true, recurses := true, named := ["hindcast/state.playerBounds", "hindcast/state.shotBounds"], apart := false, laid := [("hindcast/state.playerBounds", laid_hindcast_state_playerBounds), ("hindcast/state.shotBounds", laid_hindcast_state_shotBounds)], narrowed := true }
def StepMakesUptoSaid : Prop := stepMakesUptoRow.holds Tryd.pinned (OpenSpec.upto stepMakesSpec)

/-- 'hindcastlaw09.StepGoes', WHERE WHAT IT READS IS OF BULK AT MOST 1048576: true; the input reads as it did. -/
def stepGoesUptoRow : OpenClaim := { program := "ytgbhpchaalheeaadoor", sum := "c01da82ffe269faf45b9ca6043c99e1499bc5d95d4c949c4ef7fbc00421c6451", func := "hindcast/hindcastlaw09.StepGoes", spec := "stepGoes", unfollowed := true, recurses := true, named := ["hindcast/state.playerBounds", "hindcast/state.shotBounds"], apart := false, laid := [("hindcast/state.playerBounds", laid_hindcast_state_playerBounds), ("hindcast/state.shotBounds", laid_hindcast_state_shotBounds)], narrowed := true }
def StepGoesUptoSaid : Prop := stepGoesUptoRow.holds Tryd.pinned (OpenSpec.upto stepGoesSpec)

/-- 'hindcastlaw09.StepRests', WHERE WHAT IT READS IS OF BULK AT MOST 1048576: true; the input reads as it did. -/
def stepRestsUptoRow : OpenClaim := { program := "ytgbhpchaalheeaadoor", sum := "c01da82ffe269faf45b9ca6043c99e1499bc5d95d4c949c4ef7fbc00421c6451", func := "hindcast/hindcastlaw09.StepRests", spec := "stepRests", unfollowed := true, recurses := true, named := ["hindcast/state.playerBounds", "hindcast/state.shotBounds"], apart := false, laid := [("hindcast/state.playerBounds", laid_hindcast_state_playerBounds), ("hindcast/state.shotBounds", laid_hindcast_state_shotBounds)], narrowed := true }
def StepRestsUptoSaid : Prop := stepRestsUptoRow.holds Tryd.pinned (OpenSpec.upto stepRestsSpec)

/-- 'hindcastlaw09.StepKnown', WHERE WHAT IT READS IS OF BULK AT MOST 1048576: true; the input reads as it did. -/
def stepKnownUptoRow : OpenClaim := { program := "ytgbhpchaalheeaadoor", sum := "c01da82ffe269faf45b9ca6043c99e1499bc5d95d4c949c4ef7fbc00421c6451", func := "hindcast/hindcastlaw09.StepKnown", spec := "stepKnown", unfollowed := true, recurses := true, named := ["hindcast/state.playerBounds", "hindcast/state.shotBounds"], apart := false, laid := [("hindcast/state.playerBounds", laid_hindcast_state_playerBounds), ("hindcast/state.shotBounds", laid_hindcast_state_shotBounds)], narrowed := true }
def StepKnownUptoSaid : Prop := stepKnownUptoRow.holds Tryd.pinned (OpenSpec.upto stepKnownSpec)

/-- 'hindcastlaw09.StepRight', WHERE WHAT IT READS IS OF BULK AT MOST 1048576: true; the input reads as it did. -/
def stepRightUptoRow : OpenClaim := { program := "ytgbhpchaalheeaadoor", sum := "c01da82ffe269faf45b9ca6043c99e1499bc5d95d4c949c4ef7fbc00421c6451", func := "hindcast/hindcastlaw09.StepRight", spec := "stepRight", unfollowed := true, recurses := true, named := ["hindcast/state.playerBounds", "hindcast/state.shotBounds"], apart := false, laid := [("hindcast/state.playerBounds", laid_hindcast_state_playerBounds), ("hindcast/state.shotBounds", laid_hindcast_state_shotBounds)], narrowed := true }
def StepRightUptoSaid : Prop := stepRightUptoRow.holds Tryd.pinned (OpenSpec.upto stepRightSpec)

end Rows
end Go.Proofs.YtgbhpchaalheeaaDoor
