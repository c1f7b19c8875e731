/-
  DERIVED. GIVEN WITH THE SEED: THE PROGRAM's TIES (one call each: nine closed facts by the kernel) AND EACH ROW's TIE, after the 31st guide's Derived/Test/Toyas{Tie, Card}.lean. No idea stands in it: it is a product of the set-up. Laid BY PROGRAM, IN A SANDBOX (cutbox-door.mjs). By AI agents, Wed Nov 11 2026. No macro, syntax, notation, axiom, sorry.
-/
import Derived.Test.YtbhibbcjfgnmhaaGreatDoorRows
import Derived.LaidByTextLater
import Derived.SevenTiedAt
import Derived.LaidSub
import Derived.LaidOnce
namespace Go.Proofs.YtbhibbcjfgnmhaaGreatDoor
open Go
set_option maxRecDepth 100000
theorem seatTie1 : Tryz.prog.laidByTextLater [("monocle/fix.powers", Rows.laid_monocle_fix_powers), ("monocle/surface.places", Rows.laid_monocle_surface_places), ("monocle/frame.identity", Rows.laid_monocle_frame_identity)] [.data, .mappedDeep, .data] true :=
  Program.laidByTextLater_by_one 60 8 19 (by kernel_rfl) (by kernel_rfl) (by kernel_rfl) (by kernel_rfl) (by kernel_rfl) (by kernel_rfl) (fun _ _ => by kernel_rfl)
theorem noOwnUnsafe : Tryz.pinned.checked.prog.headLifts.contains "ownunsafe" = false := by kernel_rfl
theorem tie : Tryz.prog.laidByTextLater [("monocle/fix.powers", Rows.laid_monocle_fix_powers), ("monocle/surface.places", Rows.laid_monocle_surface_places), ("monocle/frame.identity", Rows.laid_monocle_frame_identity)] [.data, .mappedDeep, .data] true :=
  Program.laidByTextLater.sub seatTie1 ["monocle/fix.powers", "monocle/surface.places", "monocle/frame.identity"] (by kernel_rfl) (by kernel_rfl)
theorem frameUndo_row_tie : Rows.frameUndoRow.laidByTextAt .later Tryz.pinned [.data, .mappedDeep, .data] true :=
  OpenClaim.laidByTextAt_later rfl rfl tie noOwnUnsafe
theorem frameUndoUpto_row_tie : Rows.frameUndoUptoRow.laidByTextAt .later Tryz.pinned [.data, .mappedDeep, .data] true :=
  OpenClaim.laidByTextAt_later rfl rfl tie noOwnUnsafe
end Go.Proofs.YtbhibbcjfgnmhaaGreatDoor
