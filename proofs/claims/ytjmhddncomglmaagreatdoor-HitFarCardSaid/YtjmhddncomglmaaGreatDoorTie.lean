/-
  DERIVED. GIVEN WITH THE SEED: THE PROGRAM's TIES (one call each: nine closed facts by the kernel) AND EACH ROW's TIE, after the 31st guide's Derived/Test/Toyas{Tie, Card}.lean. No idea stands in it: it is a product of the set-up. Laid BY PROGRAM, IN A SANDBOX (cutbox-door.mjs). By AI agents, Wed Nov 11 2026. No macro, syntax, notation, axiom, sorry.
-/
import Derived.Test.YtjmhddncomglmaaGreatDoorRows
import Derived.LaidByTextLater
import Derived.SevenTiedAt
import Derived.LaidSub
import Derived.LaidOnce
namespace Go.Proofs.YtjmhddncomglmaaGreatDoor
open Go
set_option maxRecDepth 100000
theorem seatTie1 : Tryz.prog.laidByTextLater [("monocle/monocleref11.bad", Rows.laid_monocle_monocleref11_bad), ("monocle/surface.one", Rows.laid_monocle_surface_one), ("monocle/hit.widths", Rows.laid_monocle_hit_widths)] [.data, .data, .data] true :=
  Program.laidByTextLater_by_one 24 8 5 (by kernel_rfl) (by kernel_rfl) (by kernel_rfl) (by kernel_rfl) (by kernel_rfl) (by kernel_rfl) (fun _ _ => by kernel_rfl)
theorem noOwnUnsafe : Tryz.pinned.checked.prog.headLifts.contains "ownunsafe" = false := by kernel_rfl
theorem tie : Tryz.prog.laidByTextLater [("monocle/monocleref11.bad", Rows.laid_monocle_monocleref11_bad), ("monocle/surface.one", Rows.laid_monocle_surface_one), ("monocle/hit.widths", Rows.laid_monocle_hit_widths)] [.data, .data, .data] true :=
  Program.laidByTextLater.sub seatTie1 ["monocle/monocleref11.bad", "monocle/surface.one", "monocle/hit.widths"] (by kernel_rfl) (by kernel_rfl)
theorem hitFar_row_tie : Rows.hitFarRow.laidByTextAt .later Tryz.pinned [.data, .data, .data] true :=
  OpenClaim.laidByTextAt_later rfl rfl tie noOwnUnsafe
theorem tie2 : Tryz.prog.laidByTextLater [("monocle/surface.one", Rows.laid_monocle_surface_one), ("monocle/hit.widths", Rows.laid_monocle_hit_widths)] [.data, .data] true :=
  Program.laidByTextLater.sub seatTie1 ["monocle/surface.one", "monocle/hit.widths"] (by kernel_rfl) (by kernel_rfl)
theorem hitMirrors_row_tie : Rows.hitMirrorsRow.laidByTextAt .later Tryz.pinned [.data, .data] true :=
  OpenClaim.laidByTextAt_later rfl rfl tie2 noOwnUnsafe
theorem hitFarUpto_row_tie : Rows.hitFarUptoRow.laidByTextAt .later Tryz.pinned [.data, .data, .data] true :=
  OpenClaim.laidByTextAt_later rfl rfl tie noOwnUnsafe
theorem hitMirrorsUpto_row_tie : Rows.hitMirrorsUptoRow.laidByTextAt .later Tryz.pinned [.data, .data] true :=
  OpenClaim.laidByTextAt_later rfl rfl tie2 noOwnUnsafe
end Go.Proofs.YtjmhddncomglmaaGreatDoor
