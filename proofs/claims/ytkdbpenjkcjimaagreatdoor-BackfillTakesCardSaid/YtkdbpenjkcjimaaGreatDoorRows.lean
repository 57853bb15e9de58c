/-
  NARROWER THAN 'FOR EVERY INPUT', by the rows' own cells (each row's printed sentence says how): BackfillTakes: laid.
  DERIVED. THE GIVEN ROWS OF THIS SEAT. 1 by the template 'for every input the law returns true; each argument reads behind the call as it read before'; 0 by the template 'total and deterministic' (their statements: YtkdbpenjkcjimaaGreatDoorTotals.lean).
  GIVEN WITH THE SEED: the statements are not yours to turn. If you find one false, say at which input.
  Laid BY PROGRAM, IN A SANDBOX (cutbox-rows.mjs): the forced cells as the released guide's own fill.sh prints them over the translation 1c22f31ca24c4aed… (all of the seat's roots in one cut). By AI agents, Wed Nov 11 2026. No macro, syntax, notation, axiom, sorry.
-/
import Derived.Test.YtkdbpenjkcjimaaGreatDoorChecked
import GoSem.Claim
import GoSem.ClaimJoined
import GoSem.ClaimMapViews
import Derived.JoinedTies
import Derived.KernelRfl
namespace Go.Proofs.YtkdbpenjkcjimaaGreatDoor
/- THE CELL 'sum', in the pinned program and in every row, IS THE sha256 OF THE DUMP (.gsa) THAT YtkdbpenjkcjimaaGreatDoorProg.lean LOADS. Nothing in Lean hashes anything: it is a label: what it is worth is what the hold of that sum in a sandbox is worth. -/
noncomputable def Tryz.pinned : Pinned := { name := "ytkdbpenjkcjimaagreatdoor", sum := "1c22f31ca24c4aed45f5bc44a0992655b5577309abcb60d545af695e86460d5c", checked := Tryz.checked }
namespace Rows
def none {H : Type} : Left H := { results := [], args := [] }

/- WHAT THE LISTED PACKAGE-LEVEL VARIABLES READ AS WHEN THE CALL BEGINS. Each datum BY PROGRAM (the guide's laid-datum.mjs) off the statement by which the dump's own 'gosem.cut.vars' lays the variable. In a bare row this is a premise. The card (YtkdbpenjkcjimaaGreatDoorCards.lean) ties it to the program's text. -/
def laid_hindcast_state_playerBounds {H : Type} : DataW H := .agg [.agg [.lit (.int .i32 0), .lit (.int .i32 61440)], .agg [.lit (.int .i32 0), .lit (.int .i32 28672)], .agg [.lit (.int .i32 (-1024)), .lit (.int .i32 1024)], .agg [.lit (.int .i32 (-1024)), .lit (.int .i32 1024)], .agg [.lit (.int .i32 1), .lit (.int .i32 100)], .agg [.lit (.int .i32 0), .lit (.int .i32 30)], .agg [.lit (.int .i32 0), .lit (.int .i32 3)]]
def laid_hindcast_state_shotBounds {H : Type} : DataW H := .agg [.agg [.lit (.int .i32 0), .lit (.int .i32 65024)], .agg [.lit (.int .i32 0), .lit (.int .i32 32256)], .agg [.lit (.int .i32 (-2048)), .lit (.int .i32 2048)], .agg [.lit (.int .i32 (-2048)), .lit (.int .i32 2048)], .agg [.lit (.int .i32 0), .lit (.int .i32 1)], .agg [.lit (.int .i32 1), .lit (.int .i32 40)]]

/-- 'hindcastlaw28.BackfillTakes': WHATEVER THE INPUT: true; the input reads as it did. -/
def backfillTakesSpec : ChangeSpec := { name := "backfillTakes", fn := fun _ => fun
  | [d1, d2, d3] => { results := [.lit (.bool true)], args := [d1, d2, d3] }
  | _ => none }
def backfillTakesRow : OpenClaim := { program := "ytkdbpenjkcjimaagreatdoor", sum := "1c22f31ca24c4aed45f5bc44a0992655b5577309abcb60d545af695e86460d5c", func := "hindcast/hindcastlaw28.BackfillTakes", spec := "backfillTakes", unfollowed := true, recurses := true, named := ["hindcast/state.playerBounds", "hindcast/state.shotBounds"], apart := false, laid := [("hindcast/state.playerBounds", laid_hindcast_state_playerBounds), ("hindcast/state.shotBounds", laid_hindcast_state_shotBounds)] }
def BackfillTakesSaid : Prop := backfillTakesRow.holds Tryz.pinned (OpenSpec.ofChange backfillTakesSpec)

/-- ITS FALSE NEIGHBOUR: 'it returns false'. Refute it at one input. -/
def backfillTakesWrong : ChangeSpec := { name := "backfillTakes", fn := fun _ => fun
  | [d1, d2, d3] => { results := [.lit (.bool false)], args := [d1, d2, d3] }
  | _ => none }
def BackfillTakesWrongFalsely : Prop := backfillTakesRow.holds Tryz.pinned (OpenSpec.ofChange backfillTakesWrong)

/- THE SECOND FORM. 'bulk': how many values and letters a reading holds, each counted each time it is reached (what is shared counts as often as it is met; a slice's spare places count too). A statement '..UptoSaid' is the law's where the arguments, and the package variables that the reading takes, are together of bulk at most 1048576: NARROWER than '..Said'. Prove '..Said' where nothing that the law and all that it calls make is longer than what came in: it says more and counts as full. Else prove '..UptoSaid'. A law counts once. -/
mutual
def uptoBulk {H : Type} : DataW H → Nat
  | .lit (.string bytes) => bytes.length + 1
  | .lit _ => 1
  | .nil => 1
  | .ptr d => uptoBulk d + 1
  | .slice elems spare => uptoBulkAll elems + uptoBulkAll spare + 1
  | .agg parts => uptoBulkAll parts + 1
  | .iface _ d => uptoBulk d + 1
  | .map entries => uptoBulkEntries entries + 1
  | .held _ => 1
def uptoBulkAll {H : Type} : List (DataW H) → Nat
  | [] => 0
  | d :: r => uptoBulk d + uptoBulkAll r
def uptoBulkEntries {H : Type} : List (Lit × DataW H) → Nat
  | [] => 0
  | x :: r => uptoBulkEntry x + uptoBulkEntries r
def uptoBulkEntry {H : Type} : Lit × DataW H → Nat
  | (.string bytes, d) => bytes.length + uptoBulk d + 1
  | (_, d) => uptoBulk d + 1
 end
def uptoSmall : (H : Type) → List (DataW H) → Bool := fun _ ds => decide (uptoBulkAll ds ≤ 1048576)
def OpenSpec.upto (s : _root_.Go.ChangeSpec) : _root_.Go.OpenSpec := { _root_.Go.OpenSpec.ofChange s with cond := some uptoSmall }

/-- 'hindcastlaw28.BackfillTakes', WHERE WHAT IT READS IS OF BULK AT MOST 1048576: true; the input reads as it did. -/
def backfillTakesUptoRow : OpenClaim := { program := "ytkdbpenjkcjimaagreatdoor", sum := "1c22f31ca24c4aed45f5bc44a0992655b5577309abcb60d545af695e86460d5c", func := "hindcast/hindcastlaw28.BackfillTakes", spec := "backfillTakes", unfollowed := true, recurses := true, named := ["hindcast/state.playerBounds", "hindcast/state.shotBounds"], apart := false, laid := [("hindcast/state.playerBounds", laid_hindcast_state_playerBounds), ("hindcast/state.shotBounds", laid_hindcast_state_shotBounds)], narrowed := true }
def BackfillTakesUptoSaid : Prop := backfillTakesUptoRow.holds Tryz.pinned (OpenSpec.upto backfillTakesSpec)

end Rows
end Go.Proofs.YtkdbpenjkcjimaaGreatDoor
