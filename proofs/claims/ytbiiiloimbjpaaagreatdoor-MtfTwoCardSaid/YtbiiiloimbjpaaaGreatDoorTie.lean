/-
  DERIVED. GIVEN WITH THE SEED: THE PROGRAM's TIES (one call each: nine closed facts by the kernel) AND EACH ROW's TIE, after the 31st guide's Derived/Test/Toyas{Tie, Card}.lean. No idea stands in it: it is a product of the set-up. Laid BY PROGRAM, IN A SANDBOX (cutbox-door.mjs). By AI agents, Wed Nov 11 2026. No macro, syntax, notation, axiom, sorry.
-/
import Derived.Test.YtbiiiloimbjpaaaGreatDoorRows
import Derived.LaidByTextLater
import Derived.SevenTiedAt
import Derived.LaidSub
import Derived.LaidOnce
namespace Go.Proofs.YtbiiiloimbjpaaaGreatDoor
open Go
set_option maxRecDepth 100000
theorem seatTie1 : Tryz.prog.laidByTextLater [("monocle/mtf.sides", Rows.laid_monocle_mtf_sides), ("monocle/monoclelaw31.one", Rows.laid_monocle_monoclelaw31_one), ("monocle/monoclelaw31.nought", Rows.laid_monocle_monoclelaw31_nought)] [.funcs, .data, .data] true :=
  Program.laidByTextLater_by_one 34 8 3 (by kernel_rfl) (by kernel_rfl) (by kernel_rfl) (by kernel_rfl) (by kernel_rfl) (by kernel_rfl) (fun _ _ => by kernel_rfl)
theorem noOwnUnsafe : Tryz.pinned.checked.prog.headLifts.contains "ownunsafe" = false := by kernel_rfl
theorem tie : Tryz.prog.laidByTextLater [("monocle/mtf.sides", Rows.laid_monocle_mtf_sides), ("monocle/monoclelaw31.one", Rows.laid_monocle_monoclelaw31_one), ("monocle/monoclelaw31.nought", Rows.laid_monocle_monoclelaw31_nought)] [.funcs, .data, .data] true :=
  Program.laidByTextLater.sub seatTie1 ["monocle/mtf.sides", "monocle/monoclelaw31.one", "monocle/monoclelaw31.nought"] (by kernel_rfl) (by kernel_rfl)
theorem mtfModulates_row_tie : Rows.mtfModulatesRow.laidByTextAt .later Tryz.pinned [.funcs, .data, .data] true :=
  OpenClaim.laidByTextAt_later rfl rfl tie noOwnUnsafe
theorem mtfCurves_row_tie : Rows.mtfCurvesRow.laidByTextAt .later Tryz.pinned [.funcs, .data, .data] true :=
  OpenClaim.laidByTextAt_later rfl rfl tie noOwnUnsafe
theorem mtfTwo_row_tie : Rows.mtfTwoRow.laidByTextAt .later Tryz.pinned [.funcs, .data, .data] true :=
  OpenClaim.laidByTextAt_later rfl rfl tie noOwnUnsafe
theorem mtfModulatesUpto_row_tie : Rows.mtfModulatesUptoRow.laidByTextAt .later Tryz.pinned [.funcs, .data, .data] true :=
  OpenClaim.laidByTextAt_later rfl rfl tie noOwnUnsafe
theorem mtfCurvesUpto_row_tie : Rows.mtfCurvesUptoRow.laidByTextAt .later Tryz.pinned [.funcs, .data, .data] true :=
  OpenClaim.laidByTextAt_later rfl rfl tie noOwnUnsafe
theorem mtfTwoUpto_row_tie : Rows.mtfTwoUptoRow.laidByTextAt .later Tryz.pinned [.funcs, .data, .data] true :=
  OpenClaim.laidByTextAt_later rfl rfl tie noOwnUnsafe
end Go.Proofs.YtbiiiloimbjpaaaGreatDoor
