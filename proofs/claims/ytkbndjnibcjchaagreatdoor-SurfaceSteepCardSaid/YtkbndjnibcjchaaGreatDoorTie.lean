/-
  DERIVED. GIVEN WITH THE SEED: THE PROGRAM's TIES (one call each: nine closed facts by the kernel) AND EACH ROW's TIE, after the 31st guide's Derived/Test/Toyas{Tie, Card}.lean. No idea stands in it: it is a product of the set-up. Laid BY PROGRAM, IN A SANDBOX (cutbox-door.mjs). By AI agents, Wed Nov 11 2026. No macro, syntax, notation, axiom, sorry.
-/
import Derived.Test.YtkbndjnibcjchaaGreatDoorRows
import Derived.LaidByTextLater
import Derived.SevenTiedAt
import Derived.LaidSub
import Derived.LaidOnce
namespace Go.Proofs.YtkbndjnibcjchaaGreatDoor
open Go
set_option maxRecDepth 100000
theorem seatTie1 : Tryz.prog.laidByTextLater [("monocle/surface.one", Rows.laid_monocle_surface_one), ("monocle/surface.places", Rows.laid_monocle_surface_places)] [.data, .mappedDeep] true :=
  Program.laidByTextLater_by_one 43 8 8 (by kernel_rfl) (by kernel_rfl) (by kernel_rfl) (by kernel_rfl) (by kernel_rfl) (by kernel_rfl) (fun _ _ => by kernel_rfl)
theorem noOwnUnsafe : Tryz.pinned.checked.prog.headLifts.contains "ownunsafe" = false := by kernel_rfl
theorem tie : Tryz.prog.laidByTextLater [("monocle/surface.one", Rows.laid_monocle_surface_one), ("monocle/surface.places", Rows.laid_monocle_surface_places)] [.data, .mappedDeep] true :=
  Program.laidByTextLater.sub seatTie1 ["monocle/surface.one", "monocle/surface.places"] (by kernel_rfl) (by kernel_rfl)
theorem surfaceConic_row_tie : Rows.surfaceConicRow.laidByTextAt .later Tryz.pinned [.data, .mappedDeep] true :=
  OpenClaim.laidByTextAt_later rfl rfl tie noOwnUnsafe
theorem surfaceSteep_row_tie : Rows.surfaceSteepRow.laidByTextAt .later Tryz.pinned [.data, .mappedDeep] true :=
  OpenClaim.laidByTextAt_later rfl rfl tie noOwnUnsafe
theorem surfaceConicUpto_row_tie : Rows.surfaceConicUptoRow.laidByTextAt .later Tryz.pinned [.data, .mappedDeep] true :=
  OpenClaim.laidByTextAt_later rfl rfl tie noOwnUnsafe
theorem surfaceSteepUpto_row_tie : Rows.surfaceSteepUptoRow.laidByTextAt .later Tryz.pinned [.data, .mappedDeep] true :=
  OpenClaim.laidByTextAt_later rfl rfl tie noOwnUnsafe
end Go.Proofs.YtkbndjnibcjchaaGreatDoor
