/-
  DERIVED. GIVEN WITH THE SEED: THE PROGRAM's TIES (one call each: nine closed facts by the kernel) AND EACH ROW's TIE, after the 31st guide's Derived/Test/Toyas{Tie, Card}.lean. No idea stands in it: it is a product of the set-up. Laid BY PROGRAM, IN A SANDBOX (cutbox-door.mjs). By AI agents, Wed Nov 11 2026. No macro, syntax, notation, axiom, sorry.
-/
import Derived.Test.YtkdbpenjkcjimaaGreatDoorRows
import Derived.LaidByTextLater
import Derived.SevenTiedAt
import Derived.LaidSub
import Derived.LaidOnce
namespace Go.Proofs.YtkdbpenjkcjimaaGreatDoor
open Go
set_option maxRecDepth 100000
theorem seatTie1 : Tryz.prog.laidByTextLater [("hindcast/state.playerBounds", Rows.laid_hindcast_state_playerBounds), ("hindcast/state.shotBounds", Rows.laid_hindcast_state_shotBounds)] [.data, .data] true :=
  Program.laidByTextLater_by_one 32 8 15 (by kernel_rfl) (by kernel_rfl) (by kernel_rfl) (by kernel_rfl) (by kernel_rfl) (by kernel_rfl) (fun _ _ => by kernel_rfl)
theorem noOwnUnsafe : Tryz.pinned.checked.prog.headLifts.contains "ownunsafe" = false := by kernel_rfl
theorem tie : Tryz.prog.laidByTextLater [("hindcast/state.playerBounds", Rows.laid_hindcast_state_playerBounds), ("hindcast/state.shotBounds", Rows.laid_hindcast_state_shotBounds)] [.data, .data] true :=
  Program.laidByTextLater.sub seatTie1 ["hindcast/state.playerBounds", "hindcast/state.shotBounds"] (by kernel_rfl) (by kernel_rfl)
theorem backfillTakes_row_tie : Rows.backfillTakesRow.laidByTextAt .later Tryz.pinned [.data, .data] true :=
  OpenClaim.laidByTextAt_later rfl rfl tie noOwnUnsafe
theorem backfillTakesUpto_row_tie : Rows.backfillTakesUptoRow.laidByTextAt .later Tryz.pinned [.data, .data] true :=
  OpenClaim.laidByTextAt_later rfl rfl tie noOwnUnsafe
end Go.Proofs.YtkdbpenjkcjimaaGreatDoor
