/-
  DERIVED. GIVEN WITH THE SEED: THE CARDS: each row of YtkbndjnibcjchaaGreatDoorRows.lean that lists a variable, with what it lists TIED to the program's text (the seventh form; the later family's looks); each row that meets fmt, with fmt's text TOLD by the authors' own Lean function (tested against real Go, not proved from fmt's source: count such statements apart). THE CARD IS WHAT COUNTS. Prove the row's statement (the work); the ties are given (YtkbndjnibcjchaaGreatDoorTie.lean); close each card by the builder's one call (the guide's Derived/Test/ToyasCard.lean, 'card_holds'). Laid BY PROGRAM, IN A SANDBOX (cutbox-door.mjs). By AI agents, Wed Nov 11 2026. No macro, syntax, notation, axiom, sorry.
-/
import Derived.Test.YtkbndjnibcjchaaGreatDoorRows
import GoSem.ClaimSeven
namespace Go.Proofs.YtkbndjnibcjchaaGreatDoor
namespace Rows

/-- THE TIED CARD OF 'monoclelaw11.SurfaceConic'. -/
def surfaceConicCard : Claim7 := { stood := { row := surfaceConicRow, standIns := [], harness := (true, "1e3d677c9d1dfe40f3c514e9c83e0f8201bc69f073d7222d69ac65c003b36067"), looks := false }, kinds := [], alts := [], laidByText := true, laidKinds := [.data, .mappedDeep], laidTests := true, laidLooks := .later }
def SurfaceConicCardSaid : Prop := Claim7.holds Tryz.pinned (.plain (OpenSpec.ofChange surfaceConicSpec)) surfaceConicCard

/-- THE TIED CARD OF 'monoclelaw11.SurfaceSteep'. -/
def surfaceSteepCard : Claim7 := { stood := { row := surfaceSteepRow, standIns := [], harness := (true, "1e3d677c9d1dfe40f3c514e9c83e0f8201bc69f073d7222d69ac65c003b36067"), looks := false }, kinds := [], alts := [], laidByText := true, laidKinds := [.data, .mappedDeep], laidTests := true, laidLooks := .later }
def SurfaceSteepCardSaid : Prop := Claim7.holds Tryz.pinned (.plain (OpenSpec.ofChange surfaceSteepSpec)) surfaceSteepCard

/-- THE SECOND FORM's CARD OF 'monoclelaw11.SurfaceConic'. -/
def surfaceConicUptoCard : Claim7 := { stood := { row := surfaceConicUptoRow, standIns := [], harness := (true, "1e3d677c9d1dfe40f3c514e9c83e0f8201bc69f073d7222d69ac65c003b36067"), looks := false }, kinds := [], alts := [], laidByText := true, laidKinds := [.data, .mappedDeep], laidTests := true, laidLooks := .later }
def SurfaceConicUptoCardSaid : Prop := Claim7.holds Tryz.pinned (.plain (OpenSpec.upto surfaceConicSpec)) surfaceConicUptoCard

/-- THE SECOND FORM's CARD OF 'monoclelaw11.SurfaceSteep'. -/
def surfaceSteepUptoCard : Claim7 := { stood := { row := surfaceSteepUptoRow, standIns := [], harness := (true, "1e3d677c9d1dfe40f3c514e9c83e0f8201bc69f073d7222d69ac65c003b36067"), looks := false }, kinds := [], alts := [], laidByText := true, laidKinds := [.data, .mappedDeep], laidTests := true, laidLooks := .later }
def SurfaceSteepUptoCardSaid : Prop := Claim7.holds Tryz.pinned (.plain (OpenSpec.upto surfaceSteepSpec)) surfaceSteepUptoCard
end Rows
end Go.Proofs.YtkbndjnibcjchaaGreatDoor
