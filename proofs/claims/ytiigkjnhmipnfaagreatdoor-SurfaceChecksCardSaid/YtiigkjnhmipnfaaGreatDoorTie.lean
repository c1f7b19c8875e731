/-
  DERIVED. GIVEN WITH THE SEED: THE PROGRAM's TIES (one call each: nine closed facts by the kernel) AND EACH ROW's TIE, after the 31st guide's Derived/Test/Toyas{Tie, Card}.lean. No idea stands in it: it is a product of the set-up. Laid BY PROGRAM, IN A SANDBOX (cutbox-door.mjs). By AI agents, Wed Nov 11 2026. No macro, syntax, notation, axiom, sorry.
-/
import Derived.Test.YtiigkjnhmipnfaaGreatDoorRows
import Derived.LaidByTextLater
import Derived.SevenTiedAt
import Derived.LaidSub
import Derived.LaidOnce
namespace Go.Proofs.YtiigkjnhmipnfaaGreatDoor
open Go
set_option maxRecDepth 100000
theorem seatTie1 : Tryz.prog.laidByTextLater [("monocle/monocleref11.bad", Rows.laid_monocle_monocleref11_bad), ("monocle/surface.one", Rows.laid_monocle_surface_one), ("monocle/surface.places", Rows.laid_monocle_surface_places)] [.data, .data, .mappedDeep] true :=
  Program.laidByTextLater_by_one 48 8 8 (by kernel_rfl) (by kernel_rfl) (by kernel_rfl) (by kernel_rfl) (by kernel_rfl) (by kernel_rfl) (fun _ _ => by kernel_rfl)
theorem noOwnUnsafe : Tryz.pinned.checked.prog.headLifts.contains "ownunsafe" = false := by kernel_rfl
theorem tie : Tryz.prog.laidByTextLater [("monocle/surface.one", Rows.laid_monocle_surface_one), ("monocle/surface.places", Rows.laid_monocle_surface_places)] [.data, .mappedDeep] true :=
  Program.laidByTextLater.sub seatTie1 ["monocle/surface.one", "monocle/surface.places"] (by kernel_rfl) (by kernel_rfl)
theorem surfaceChecks_row_tie : Rows.surfaceChecksRow.laidByTextAt .later Tryz.pinned [.data, .mappedDeep] true :=
  OpenClaim.laidByTextAt_later rfl rfl tie noOwnUnsafe
theorem surfaceParams_row_tie : Rows.surfaceParamsRow.laidByTextAt .later Tryz.pinned [.data, .mappedDeep] true :=
  OpenClaim.laidByTextAt_later rfl rfl tie noOwnUnsafe
theorem surfaceConic_row_tie : Rows.surfaceConicRow.laidByTextAt .later Tryz.pinned [.data, .mappedDeep] true :=
  OpenClaim.laidByTextAt_later rfl rfl tie noOwnUnsafe
theorem surfaceSteep_row_tie : Rows.surfaceSteepRow.laidByTextAt .later Tryz.pinned [.data, .mappedDeep] true :=
  OpenClaim.laidByTextAt_later rfl rfl tie noOwnUnsafe
theorem surfaceEven_row_tie : Rows.surfaceEvenRow.laidByTextAt .later Tryz.pinned [.data, .mappedDeep] true :=
  OpenClaim.laidByTextAt_later rfl rfl tie noOwnUnsafe
theorem surfaceWithin_row_tie : Rows.surfaceWithinRow.laidByTextAt .later Tryz.pinned [.data, .mappedDeep] true :=
  OpenClaim.laidByTextAt_later rfl rfl tie noOwnUnsafe
theorem surfaceRound_row_tie : Rows.surfaceRoundRow.laidByTextAt .later Tryz.pinned [.data, .mappedDeep] true :=
  OpenClaim.laidByTextAt_later rfl rfl tie noOwnUnsafe
theorem surfaceSets_row_tie : Rows.surfaceSetsRow.laidByTextAt .later Tryz.pinned [.data, .mappedDeep] true :=
  OpenClaim.laidByTextAt_later rfl rfl tie noOwnUnsafe
theorem surfaceKnown_row_tie : Rows.surfaceKnownRow.laidByTextAt .later Tryz.pinned [.data, .mappedDeep] true :=
  OpenClaim.laidByTextAt_later rfl rfl tie noOwnUnsafe
theorem tie2 : Tryz.prog.laidByTextLater [("monocle/monocleref11.bad", Rows.laid_monocle_monocleref11_bad), ("monocle/surface.one", Rows.laid_monocle_surface_one), ("monocle/surface.places", Rows.laid_monocle_surface_places)] [.data, .data, .mappedDeep] true :=
  Program.laidByTextLater.sub seatTie1 ["monocle/monocleref11.bad", "monocle/surface.one", "monocle/surface.places"] (by kernel_rfl) (by kernel_rfl)
theorem surfaceSags_row_tie : Rows.surfaceSagsRow.laidByTextAt .later Tryz.pinned [.data, .data, .mappedDeep] true :=
  OpenClaim.laidByTextAt_later rfl rfl tie2 noOwnUnsafe
theorem surfaceSlopes_row_tie : Rows.surfaceSlopesRow.laidByTextAt .later Tryz.pinned [.data, .data, .mappedDeep] true :=
  OpenClaim.laidByTextAt_later rfl rfl tie2 noOwnUnsafe
theorem surfaceChecksUpto_row_tie : Rows.surfaceChecksUptoRow.laidByTextAt .later Tryz.pinned [.data, .mappedDeep] true :=
  OpenClaim.laidByTextAt_later rfl rfl tie noOwnUnsafe
theorem surfaceParamsUpto_row_tie : Rows.surfaceParamsUptoRow.laidByTextAt .later Tryz.pinned [.data, .mappedDeep] true :=
  OpenClaim.laidByTextAt_later rfl rfl tie noOwnUnsafe
theorem surfaceSagsUpto_row_tie : Rows.surfaceSagsUptoRow.laidByTextAt .later Tryz.pinned [.data, .data, .mappedDeep] true :=
  OpenClaim.laidByTextAt_later rfl rfl tie2 noOwnUnsafe
theorem surfaceSlopesUpto_row_tie : Rows.surfaceSlopesUptoRow.laidByTextAt .later Tryz.pinned [.data, .data, .mappedDeep] true :=
  OpenClaim.laidByTextAt_later rfl rfl tie2 noOwnUnsafe
theorem surfaceConicUpto_row_tie : Rows.surfaceConicUptoRow.laidByTextAt .later Tryz.pinned [.data, .mappedDeep] true :=
  OpenClaim.laidByTextAt_later rfl rfl tie noOwnUnsafe
theorem surfaceSteepUpto_row_tie : Rows.surfaceSteepUptoRow.laidByTextAt .later Tryz.pinned [.data, .mappedDeep] true :=
  OpenClaim.laidByTextAt_later rfl rfl tie noOwnUnsafe
theorem surfaceEvenUpto_row_tie : Rows.surfaceEvenUptoRow.laidByTextAt .later Tryz.pinned [.data, .mappedDeep] true :=
  OpenClaim.laidByTextAt_later rfl rfl tie noOwnUnsafe
theorem surfaceWithinUpto_row_tie : Rows.surfaceWithinUptoRow.laidByTextAt .later Tryz.pinned [.data, .mappedDeep] true :=
  OpenClaim.laidByTextAt_later rfl rfl tie noOwnUnsafe
theorem surfaceRoundUpto_row_tie : Rows.surfaceRoundUptoRow.laidByTextAt .later Tryz.pinned [.data, .mappedDeep] true :=
  OpenClaim.laidByTextAt_later rfl rfl tie noOwnUnsafe
theorem surfaceSetsUpto_row_tie : Rows.surfaceSetsUptoRow.laidByTextAt .later Tryz.pinned [.data, .mappedDeep] true :=
  OpenClaim.laidByTextAt_later rfl rfl tie noOwnUnsafe
theorem surfaceKnownUpto_row_tie : Rows.surfaceKnownUptoRow.laidByTextAt .later Tryz.pinned [.data, .mappedDeep] true :=
  OpenClaim.laidByTextAt_later rfl rfl tie noOwnUnsafe
end Go.Proofs.YtiigkjnhmipnfaaGreatDoor
