/-
  DERIVED. GIVEN WITH THE SEED: THE PROGRAM's TIES (one call each: nine closed facts by the kernel) AND EACH ROW's TIE, after the 31st guide's Derived/Test/Toyas{Tie, Card}.lean. No idea stands in it: it is a product of the set-up. Laid BY PROGRAM, IN A SANDBOX (cutbox-door.mjs). By AI agents, Wed Nov 11 2026. No macro, syntax, notation, axiom, sorry.
-/
import Derived.Test.YtlbabiemgageaaaGreatDoorRows
import Derived.LaidByTextLater
import Derived.SevenTiedAt
import Derived.LaidSub
import Derived.LaidOnce
namespace Go.Proofs.YtlbabiemgageaaaGreatDoor
open Go
set_option maxRecDepth 100000
theorem seatTie1 : Tryz.prog.laidByTextLater [("monocle/fix.powers", Rows.laid_monocle_fix_powers), ("monocle/surface.places", Rows.laid_monocle_surface_places), ("monocle/frame.identity", Rows.laid_monocle_frame_identity)] [.data, .mappedDeep, .data] true :=
  Program.laidByTextLater_by_one 60 8 19 (by kernel_rfl) (by kernel_rfl) (by kernel_rfl) (by kernel_rfl) (by kernel_rfl) (by kernel_rfl) (fun _ _ => by kernel_rfl)
theorem noOwnUnsafe : Tryz.pinned.checked.prog.headLifts.contains "ownunsafe" = false := by kernel_rfl
theorem tie : Tryz.prog.laidByTextLater [("monocle/fix.powers", Rows.laid_monocle_fix_powers), ("monocle/surface.places", Rows.laid_monocle_surface_places), ("monocle/frame.identity", Rows.laid_monocle_frame_identity)] [.data, .mappedDeep, .data] true :=
  Program.laidByTextLater.sub seatTie1 ["monocle/fix.powers", "monocle/surface.places", "monocle/frame.identity"] (by kernel_rfl) (by kernel_rfl)
theorem framePlaces_row_tie : Rows.framePlacesRow.laidByTextAt .later Tryz.pinned [.data, .mappedDeep, .data] true :=
  OpenClaim.laidByTextAt_later rfl rfl tie noOwnUnsafe
theorem frameMoves_row_tie : Rows.frameMovesRow.laidByTextAt .later Tryz.pinned [.data, .mappedDeep, .data] true :=
  OpenClaim.laidByTextAt_later rfl rfl tie noOwnUnsafe
theorem frameTurns_row_tie : Rows.frameTurnsRow.laidByTextAt .later Tryz.pinned [.data, .mappedDeep, .data] true :=
  OpenClaim.laidByTextAt_later rfl rfl tie noOwnUnsafe
theorem frameTrue_row_tie : Rows.frameTrueRow.laidByTextAt .later Tryz.pinned [.data, .mappedDeep, .data] true :=
  OpenClaim.laidByTextAt_later rfl rfl tie noOwnUnsafe
theorem frameStraight_row_tie : Rows.frameStraightRow.laidByTextAt .later Tryz.pinned [.data, .mappedDeep, .data] true :=
  OpenClaim.laidByTextAt_later rfl rfl tie noOwnUnsafe
theorem frameBack_row_tie : Rows.frameBackRow.laidByTextAt .later Tryz.pinned [.data, .mappedDeep, .data] true :=
  OpenClaim.laidByTextAt_later rfl rfl tie noOwnUnsafe
theorem frameBegin_row_tie : Rows.frameBeginRow.laidByTextAt .later Tryz.pinned [.data, .mappedDeep, .data] true :=
  OpenClaim.laidByTextAt_later rfl rfl tie noOwnUnsafe
theorem frameUndo_row_tie : Rows.frameUndoRow.laidByTextAt .later Tryz.pinned [.data, .mappedDeep, .data] true :=
  OpenClaim.laidByTextAt_later rfl rfl tie noOwnUnsafe
theorem frameKnown_row_tie : Rows.frameKnownRow.laidByTextAt .later Tryz.pinned [.data, .mappedDeep, .data] true :=
  OpenClaim.laidByTextAt_later rfl rfl tie noOwnUnsafe
theorem framePlacesUpto_row_tie : Rows.framePlacesUptoRow.laidByTextAt .later Tryz.pinned [.data, .mappedDeep, .data] true :=
  OpenClaim.laidByTextAt_later rfl rfl tie noOwnUnsafe
theorem frameMovesUpto_row_tie : Rows.frameMovesUptoRow.laidByTextAt .later Tryz.pinned [.data, .mappedDeep, .data] true :=
  OpenClaim.laidByTextAt_later rfl rfl tie noOwnUnsafe
theorem frameTurnsUpto_row_tie : Rows.frameTurnsUptoRow.laidByTextAt .later Tryz.pinned [.data, .mappedDeep, .data] true :=
  OpenClaim.laidByTextAt_later rfl rfl tie noOwnUnsafe
theorem frameTrueUpto_row_tie : Rows.frameTrueUptoRow.laidByTextAt .later Tryz.pinned [.data, .mappedDeep, .data] true :=
  OpenClaim.laidByTextAt_later rfl rfl tie noOwnUnsafe
theorem frameStraightUpto_row_tie : Rows.frameStraightUptoRow.laidByTextAt .later Tryz.pinned [.data, .mappedDeep, .data] true :=
  OpenClaim.laidByTextAt_later rfl rfl tie noOwnUnsafe
theorem frameBackUpto_row_tie : Rows.frameBackUptoRow.laidByTextAt .later Tryz.pinned [.data, .mappedDeep, .data] true :=
  OpenClaim.laidByTextAt_later rfl rfl tie noOwnUnsafe
theorem frameBeginUpto_row_tie : Rows.frameBeginUptoRow.laidByTextAt .later Tryz.pinned [.data, .mappedDeep, .data] true :=
  OpenClaim.laidByTextAt_later rfl rfl tie noOwnUnsafe
theorem frameUndoUpto_row_tie : Rows.frameUndoUptoRow.laidByTextAt .later Tryz.pinned [.data, .mappedDeep, .data] true :=
  OpenClaim.laidByTextAt_later rfl rfl tie noOwnUnsafe
theorem frameKnownUpto_row_tie : Rows.frameKnownUptoRow.laidByTextAt .later Tryz.pinned [.data, .mappedDeep, .data] true :=
  OpenClaim.laidByTextAt_later rfl rfl tie noOwnUnsafe
end Go.Proofs.YtlbabiemgageaaaGreatDoor
