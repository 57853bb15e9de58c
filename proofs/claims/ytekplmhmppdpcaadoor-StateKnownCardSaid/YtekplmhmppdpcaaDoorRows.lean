/-
  NARROWER THAN 'FOR EVERY INPUT', by the rows' own cells (each row's printed sentence says how): StatePuts: laid · StateTakes: laid · StateBack: laid · StateOne: laid · StateKnown: laid · StateSame: laid.
  DERIVED. THE GIVEN ROWS OF THIS SEAT. 6 by the template 'for every input the law returns true; each argument reads behind the call as it read before'; 0 by the template 'total and deterministic' (their statements: YtekplmhmppdpcaaDoorTotals.lean).
  GIVEN WITH THE SEED: the statements are not yours to turn. If you find one false, say at which input.
  Laid BY PROGRAM, IN A SANDBOX (cutbox-rows.mjs): the forced cells as the released guide's own fill.sh prints them over the translation 655ab74f4b1817d3… (all of the seat's roots in one cut). By AI agents, Wed Nov 11 2026. No macro, syntax, notation, axiom, sorry.
-/
import Derived.Test.YtekplmhmppdpcaaDoorChecked
import GoSem.Claim
import GoSem.ClaimJoined
import GoSem.ClaimMapViews
import Derived.JoinedTies
import Derived.KernelRfl
namespace Go.Proofs.YtekplmhmppdpcaaDoor
/- THE CELL 'sum', in the pinned program and in every row, IS THE sha256 OF THE DUMP (.gsa) THAT YtekplmhmppdpcaaDoorProg.lean LOADS. Nothing in Lean hashes anything: it is a label: what it is worth is what the hold of that sum in a sandbox is worth. -/
noncomputable def Tryd.pinned : Pinned := { name := "ytekplmhmppdpcaadoor", sum := "655ab74f4b1817d398635ca124a097c244d359de18ee7a6080a7f4359cdd0c15", checked := Tryd.checked }
namespace Rows
def none {H : Type} : Left H := { results := [], args := [] }

/- WHAT THE LISTED PACKAGE-LEVEL VARIABLES READ AS WHEN THE CALL BEGINS. Each datum BY PROGRAM (the guide's laid-datum.mjs) off the statement by which the dump's own 'gosem.cut.vars' lays the variable. In a bare row this is a premise. The card (YtekplmhmppdpcaaDoorCards.lean) ties it to the program's text. -/
def laid_hindcast_state_playerBounds {H : Type} : DataW H := .agg [.agg [.lit (.int .i32 0), .lit (.int .i32 61440)], .agg [.lit (.int .i32 0), .lit (.int .i32 28672)], .agg [.lit (.int .i32 (-1024)), .lit (.int .i32 1024)], .agg [.lit (.int .i32 (-1024)), .lit (.int .i32 1024)], .agg [.lit (.int .i32 1), .lit (.int .i32 100)], .agg [.lit (.int .i32 0), .lit (.int .i32 30)], .agg [.lit (.int .i32 0), .lit (.int .i32 3)]]
def laid_hindcast_state_shotBounds {H : Type} : DataW H := .agg [.agg [.lit (.int .i32 0), .lit (.int .i32 65024)], .agg [.lit (.int .i32 0), .lit (.int .i32 32256)], .agg [.lit (.int .i32 (-2048)), .lit (.int .i32 2048)], .agg [.lit (.int .i32 (-2048)), .lit (.int .i32 2048)], .agg [.lit (.int .i32 0), .lit (.int .i32 1)], .agg [.lit (.int .i32 1), .lit (.int .i32 40)]]

/-- 'hindcastlaw08.StatePuts': WHATEVER THE INPUT: true; the input reads as it did. -/
def statePutsSpec : ChangeSpec := { name := "statePuts", fn := fun _ => fun
  | [d1, d2] => { results := [.lit (.bool true)], args := [d1, d2] }
  | _ => none }
def statePutsRow : OpenClaim := { program := "ytekplmhmppdpcaadoor", sum := "655ab74f4b1817d398635ca124a097c244d359de18ee7a6080a7f4359cdd0c15", func := "hindcast/hindcastlaw08.StatePuts", spec := "statePuts", unfollowed := true, recurses := true, named := ["hindcast/state.playerBounds", "hindcast/state.shotBounds"], apart := false, laid := [("hindcast/state.playerBounds", laid_hindcast_state_playerBounds), ("hindcast/state.shotBounds", laid_hindcast_state_shotBounds)] }
def StatePutsSaid : Prop := statePutsRow.holds Tryd.pinned (OpenSpec.ofChange statePutsSpec)

/-- ITS FALSE NEIGHBOUR: 'it returns false'. Refute it at one input. -/
def statePutsWrong : ChangeSpec := { name := "statePuts", fn := fun _ => fun
  | [d1, d2] => { results := [.lit (.bool false)], args := [d1, d2] }
  | _ => none }
def StatePutsWrongFalsely : Prop := statePutsRow.holds Tryd.pinned (OpenSpec.ofChange statePutsWrong)

/-- 'hindcastlaw08.StateTakes': WHATEVER THE INPUT: true; the input reads as it did. -/
def stateTakesSpec : ChangeSpec := { name := "stateTakes", fn := fun _ => fun
  | [d] => { results := [.lit (.bool true)], args := [d] }
  | _ => none }
def stateTakesRow : OpenClaim := { program := "ytekplmhmppdpcaadoor", sum := "655ab74f4b1817d398635ca124a097c244d359de18ee7a6080a7f4359cdd0c15", func := "hindcast/hindcastlaw08.StateTakes", spec := "stateTakes", unfollowed := true, recurses := true, named := ["hindcast/state.playerBounds", "hindcast/state.shotBounds"], apart := false, laid := [("hindcast/state.playerBounds", laid_hindcast_state_playerBounds), ("hindcast/state.shotBounds", laid_hindcast_state_shotBounds)] }
def StateTakesSaid : Prop := stateTakesRow.holds Tryd.pinned (OpenSpec.ofChange stateTakesSpec)

/-- ITS FALSE NEIGHBOUR: 'it returns false'. Refute it at one input. -/
def stateTakesWrong : ChangeSpec := { name := "stateTakes", fn := fun _ => fun
  | [d] => { results := [.lit (.bool false)], args := [d] }
  | _ => none }
def StateTakesWrongFalsely : Prop := stateTakesRow.holds Tryd.pinned (OpenSpec.ofChange stateTakesWrong)

/-- 'hindcastlaw08.StateBack': WHATEVER THE INPUT: true; the input reads as it did. -/
def stateBackSpec : ChangeSpec := { name := "stateBack", fn := fun _ => fun
  | [d1, d2, d3] => { results := [.lit (.bool true)], args := [d1, d2, d3] }
  | _ => none }
def stateBackRow : OpenClaim := { program := "ytekplmhmppdpcaadoor", sum := "655ab74f4b1817d398635ca124a097c244d359de18ee7a6080a7f4359cdd0c15", func := "hindcast/hindcastlaw08.StateBack", spec := "stateBack", unfollowed := true, recurses := true, named := ["hindcast/state.playerBounds", "hindcast/state.shotBounds"], apart := false, laid := [("hindcast/state.playerBounds", laid_hindcast_state_playerBounds), ("hindcast/state.shotBounds", laid_hindcast_state_shotBounds)] }
def StateBackSaid : Prop := stateBackRow.holds Tryd.pinned (OpenSpec.ofChange stateBackSpec)

/-- ITS FALSE NEIGHBOUR: 'it returns false'. Refute it at one input. -/
def stateBackWrong : ChangeSpec := { name := "stateBack", fn := fun _ => fun
  | [d1, d2, d3] => { results := [.lit (.bool false)], args := [d1, d2, d3] }
  | _ => none }
def StateBackWrongFalsely : Prop := stateBackRow.holds Tryd.pinned (OpenSpec.ofChange stateBackWrong)

/-- 'hindcastlaw08.StateOne': WHATEVER THE INPUT: true; the input reads as it did. -/
def stateOneSpec : ChangeSpec := { name := "stateOne", fn := fun _ => fun
  | [d] => { results := [.lit (.bool true)], args := [d] }
  | _ => none }
def stateOneRow : OpenClaim := { program := "ytekplmhmppdpcaadoor", sum := "655ab74f4b1817d398635ca124a097c244d359de18ee7a6080a7f4359cdd0c15", func := "hindcast/hindcastlaw08.StateOne", spec := "stateOne", unfollowed := true, recurses := true, named := ["hindcast/state.playerBounds", "hindcast/state.shotBounds"], apart := false, laid := [("hindcast/state.playerBounds", laid_hindcast_state_playerBounds), ("hindcast/state.shotBounds", laid_hindcast_state_shotBounds)] }
def StateOneSaid : Prop := stateOneRow.holds Tryd.pinned (OpenSpec.ofChange stateOneSpec)

/-- ITS FALSE NEIGHBOUR: 'it returns false'. Refute it at one input. -/
def stateOneWrong : ChangeSpec := { name := "stateOne", fn := fun _ => fun
  | [d] => { results := [.lit (.bool false)], args := [d] }
  | _ => none }
def StateOneWrongFalsely : Prop := stateOneRow.holds Tryd.pinned (OpenSpec.ofChange stateOneWrong)

/-- 'hindcastlaw08.StateKnown': WHATEVER THE INPUT: true; the input reads as it did. -/
def stateKnownSpec : ChangeSpec := { name := "stateKnown", fn := fun _ => fun
  | [] => { results := [.lit (.bool true)], args := [] }
  | _ => none }
def stateKnownRow : OpenClaim := { program := "ytekplmhmppdpcaadoor", sum := "655ab74f4b1817d398635ca124a097c244d359de18ee7a6080a7f4359cdd0c15", func := "hindcast/hindcastlaw08.StateKnown", spec := "stateKnown", unfollowed := true, recurses := true, named := ["hindcast/state.playerBounds", "hindcast/state.shotBounds"], apart := false, laid := [("hindcast/state.playerBounds", laid_hindcast_state_playerBounds), ("hindcast/state.shotBounds", laid_hindcast_state_shotBounds)] }
def StateKnownSaid : Prop := stateKnownRow.holds Tryd.pinned (OpenSpec.ofChange stateKnownSpec)

/-- ITS FALSE NEIGHBOUR: 'it returns false'. Refute it at one input. -/
def stateKnownWrong : ChangeSpec := { name := "stateKnown", fn := fun _ => fun
  | [] => { results := [.lit (.bool false)], args := [] }
  | _ => none }
def StateKnownWrongFalsely : Prop := stateKnownRow.holds Tryd.pinned (OpenSpec.ofChange stateKnownWrong)

/-- 'hindcastlaw08.StateSame': WHATEVER THE INPUT: true; the input reads as it did. -/
def stateSameSpec : ChangeSpec := { name := "stateSame", fn := fun _ => fun
  | [d1, d2] => { results := [.lit (.bool true)], args := [d1, d2] }
  | _ => none }
def stateSameRow : OpenClaim := { program := "ytekplmhmppdpcaadoor", sum := "655ab74f4b1817d398635ca124a097c244d359de18ee7a6080a7f4359cdd0c15", func := "hindcast/hindcastlaw08.StateSame", spec := "stateSame", unfollowed := true, recurses := true, named := ["hindcast/state.playerBounds", "hindcast/state.shotBounds"], apart := false, laid := [("hindcast/state.playerBounds", laid_hindcast_state_playerBounds), ("hindcast/state.shotBounds", laid_hindcast_state_shotBounds)] }
def StateSameSaid : Prop := stateSameRow.holds Tryd.pinned (OpenSpec.ofChange stateSameSpec)

/-- ITS FALSE NEIGHBOUR: 'it returns false'. Refute it at one input. -/
def stateSameWrong : ChangeSpec := { name := "stateSame", fn := fun _ => fun
  | [d1, d2] => { results := [.lit (.bool false)], args := [d1, d2] }
  | _ => none }
def StateSameWrongFalsely : Prop := stateSameRow.holds Tryd.pinned (OpenSpec.ofChange stateSameWrong)

/- THE SECOND FORM. 'bulk': how many values and letters a reading holds, each counted each time it is reached (what is shared counts as often as it is met; a slice's spare places count too). A statement '..UptoSaid' is the law's where the arguments, and the package variables that the reading takes, are together of bulk at most 1048576: NARROWER than '..Said'. Prove '..Said' where nothing that the law and all that it calls make is longer than what came in: it says more and counts as full. Else prove '..UptoSaid'. A law counts once. -/
mutual
def uptoBulk {H : Type} : DataW H → Nat
  | .lit (.string bytes) => bytes.length + 1
  | .lit _ => 1
  | .nil => 1
  | .ptr d => uptoBulk d + 1
  | .slice elems spare => uptoBulkAll elems + uptoBulkAll spare + 1
  | .agg parts => uptoBulkAll parts + 1
  | .iface _ d => uptoBulk d + 1
  | .map entries => uptoBulkEntries entries + 1
  | .held _ => 1
def uptoBulkAll {H : Type} : List (DataW H) → Nat
  | [] => 0
  | d :: r => uptoBulk d + uptoBulkAll r
def uptoBulkEntries {H : Type} : List (Lit × DataW H) → Nat
  | [] => 0
  | x :: r => uptoBulkEntry x + uptoBulkEntries r
def uptoBulkEntry {H : Type} : Lit × DataW H → Nat
  | (.string bytes, d) => bytes.length + uptoBulk d + 1
  | (_, d) => uptoBulk d + 1
 end
def uptoSmall : (H : Type) → List (DataW H) → Bool := fun _ ds => decide (uptoBulkAll ds ≤ 1048576)
def OpenSpec.upto (s : _root_.Go.ChangeSpec) : _root_.Go.OpenSpec := { _root_.Go.OpenSpec.ofChange s with cond := some uptoSmall }

/-- 'hindcastlaw08.StatePuts', WHERE WHAT IT READS IS OF BULK AT MOST 1048576: true; the input reads as it did. -/
def statePutsUptoRow : OpenClaim := { program := "ytekplmhmppdpcaadoor", sum := "655ab74f4b1817d398635ca124a097c244d359de18ee7a6080a7f4359cdd0c15", func := "hindcast/hindcastlaw08.StatePuts", spec := "statePuts", unfollowed := true, recurses := true, named := ["hindcast/state.playerBounds", "hindcast/state.shotBounds"], apart := false, laid := [("hindcast/state.playerBounds", laid_hindcast_state_playerBounds), ("hindcast/state.shotBounds", laid_hindcast_state_shotBounds)], narrowed := true }
def StatePutsUptoSaid : Prop := statePutsUptoRow.holds Tryd.pinned (OpenSpec.upto statePutsSpec)

/-- 'hindcastlaw08.StateTakes', WHERE WHAT IT READS IS OF BULK AT MOST 1048576: true; the input reads as it did. -/
def stateTakesUptoRow : OpenClaim := { program := "ytekplmhmppdpcaadoor", sum := "655ab74f4b1817d398635ca124a097c244d359de18ee7a6080a7f4359cdd0c15", func := "hindcast/hindcastlaw08.StateTakes", spec := "stateTakes", unfollowed := true, recurses := true, named := ["hindcast/state.playerBounds", "hindcast/state.shotBounds"], apart := false, laid := [("hindcast/state.playerBounds", laid_hindcast_state_playerBounds), ("hindcast/state.shotBounds", laid_hindcast_state_shotBounds)], narrowed := true }
def StateTakesUptoSaid : Prop := stateTakesUptoRow.holds Tryd.pinned (OpenSpec.upto stateTakesSpec)

/-- 'hindcastlaw08.StateBack', WHERE WHAT IT READS IS OF BULK AT MOST 1048576: true; the input reads as it did. -/
def stateBackUptoRow : OpenClaim := { program := "ytekplmhmppdpcaadoor", sum := "655ab74f4b1817d398635ca124a097c244d359de18ee7a6080a7f4359cdd0c15", func := "hindcast/hindcastlaw08.StateBack", spec := "stateBack", unfollowed := true, recurses := true, named := ["hindcast/state.playerBounds", "hindcast/state.shotBounds"], apart := false, laid := [("hindcast/state.playerBounds", laid_hindcast_state_playerBounds), ("hindcast/state.shotBounds", laid_hindcast_state_shotBounds)], narrowed := true }
def StateBackUptoSaid : Prop := stateBackUptoRow.holds Tryd.pinned (OpenSpec.upto stateBackSpec)

/-- 'hindcastlaw08.StateOne', WHERE WHAT IT READS IS OF BULK AT MOST 1048576: true; the input reads as it did. -/
def stateOneUptoRow : OpenClaim := { program := "ytekplmhmppdpcaadoor", sum := "655ab74f4b1817d398635ca124a097c244d359de18ee7a6080a7f4359cdd0c15", func := "hindcast/hindcastlaw08.StateOne", spec := "stateOne", unfollowed := true, recurses := true, named := ["hindcast/state.playerBounds", "hindcast/state.shotBounds"], apart := false, laid := [("hindcast/state.playerBounds", laid_hindcast_state_playerBounds), ("hindcast/state.shotBounds", laid_hindcast_state_shotBounds)], narrowed := true }
def StateOneUptoSaid : Prop := stateOneUptoRow.holds Tryd.pinned (OpenSpec.upto stateOneSpec)

/-- 'hindcastlaw08.StateKnown', WHERE WHAT IT READS IS OF BULK AT MOST 1048576: true; the input reads as it did. -/
def stateKnownUptoRow : OpenClaim := { program := "ytekplmhmppdpcaadoor", sum := "655ab74f4b1817d398635ca124a097c244d359de18ee7a6080a7f4359cdd0c15", func := "hindcast/hindcastlaw08.StateKnown", spec := "stateKnown", unfollowed := true, recurses := true, named := ["hindcast/state.playerBounds", "hindcast/state.shotBounds"], apart := false, laid := [("hindcast/state.playerBounds", laid_hindcast_state_playerBounds), ("hindcast/state.shotBounds", laid_hindcast_state_shotBounds)], narrowed := true }
def StateKnownUptoSaid : Prop := stateKnownUptoRow.holds Tryd.pinned (OpenSpec.upto stateKnownSpec)

/-- 'hindcastlaw08.StateSame', WHERE WHAT IT READS IS OF BULK AT MOST 1048576: true; the input reads as it did. -/
def stateSameUptoRow : OpenClaim := { program := "ytekplmhmppdpcaadoor", sum := "655ab74f4b1817d398635ca124a097c244d359de18ee7a6080a7f4359cdd0c15", func := "hindcast/hindcastlaw08.StateSame", spec := "stateSame", unfollowed := true, recurses := true, named := ["hindcast/state.playerBounds", "hindcast/state.shotBounds"], apart := false, laid := [("hindcast/state.playerBounds", laid_hindcast_state_playerBounds), ("hindcast/state.shotBounds", laid_hindcast_state_shotBounds)], narrowed := true }
def StateSameUptoSaid : Prop := stateSameUptoRow.holds Tryd.pinned (OpenSpec.upto stateSameSpec)

end Rows
end Go.Proofs.YtekplmhmppdpcaaDoor
