/-
  DERIVED. GIVEN WITH THE SEED: THE CARDS: each row of YtjmhddncomglmaaGreatDoorRows.lean that lists a variable, with what it lists TIED to the program's text (the seventh form; the later family's looks); each row that meets fmt, with fmt's text TOLD by the authors' own Lean function (tested against real Go, not proved from fmt's source: count such statements apart). THE CARD IS WHAT COUNTS. Prove the row's statement (the work); the ties are given (YtjmhddncomglmaaGreatDoorTie.lean); close each card by the builder's one call (the guide's Derived/Test/ToyasCard.lean, 'card_holds'). Laid BY PROGRAM, IN A SANDBOX (cutbox-door.mjs). By AI agents, Wed Nov 11 2026. No macro, syntax, notation, axiom, sorry.
-/
import Derived.Test.YtjmhddncomglmaaGreatDoorRows
import GoSem.ClaimSeven
namespace Go.Proofs.YtjmhddncomglmaaGreatDoor
namespace Rows

/-- THE TIED CARD OF 'monoclelaw25.HitFar'. -/
def hitFarCard : Claim7 := { stood := { row := hitFarRow, standIns := [], harness := (true, "d622747173096c113bc8132d0fcafa461f705e3c3e352d04bb96b3f2ea33f6f8"), looks := true }, kinds := [], alts := [], laidByText := true, laidKinds := [.data, .data, .data], laidTests := true, laidLooks := .later }
def HitFarCardSaid : Prop := Claim7.holds Tryz.pinned (.plain (OpenSpec.ofChange hitFarSpec)) hitFarCard

/-- THE TIED CARD OF 'monoclelaw25.HitMirrors'. -/
def hitMirrorsCard : Claim7 := { stood := { row := hitMirrorsRow, standIns := [], harness := (true, "d622747173096c113bc8132d0fcafa461f705e3c3e352d04bb96b3f2ea33f6f8"), looks := true }, kinds := [], alts := [], laidByText := true, laidKinds := [.data, .data], laidTests := true, laidLooks := .later }
def HitMirrorsCardSaid : Prop := Claim7.holds Tryz.pinned (.plain (OpenSpec.ofChange hitMirrorsSpec)) hitMirrorsCard

/-- THE SECOND FORM's CARD OF 'monoclelaw25.HitFar'. -/
def hitFarUptoCard : Claim7 := { stood := { row := hitFarUptoRow, standIns := [], harness := (true, "d622747173096c113bc8132d0fcafa461f705e3c3e352d04bb96b3f2ea33f6f8"), looks := true }, kinds := [], alts := [], laidByText := true, laidKinds := [.data, .data, .data], laidTests := true, laidLooks := .later }
def HitFarUptoCardSaid : Prop := Claim7.holds Tryz.pinned (.plain (OpenSpec.upto hitFarSpec)) hitFarUptoCard

/-- THE SECOND FORM's CARD OF 'monoclelaw25.HitMirrors'. -/
def hitMirrorsUptoCard : Claim7 := { stood := { row := hitMirrorsUptoRow, standIns := [], harness := (true, "d622747173096c113bc8132d0fcafa461f705e3c3e352d04bb96b3f2ea33f6f8"), looks := true }, kinds := [], alts := [], laidByText := true, laidKinds := [.data, .data], laidTests := true, laidLooks := .later }
def HitMirrorsUptoCardSaid : Prop := Claim7.holds Tryz.pinned (.plain (OpenSpec.upto hitMirrorsSpec)) hitMirrorsUptoCard
end Rows
end Go.Proofs.YtjmhddncomglmaaGreatDoor
