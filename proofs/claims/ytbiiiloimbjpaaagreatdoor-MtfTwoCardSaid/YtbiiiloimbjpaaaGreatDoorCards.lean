/-
  DERIVED. GIVEN WITH THE SEED: THE CARDS: each row of YtbiiiloimbjpaaaGreatDoorRows.lean that lists a variable, with what it lists TIED to the program's text (the seventh form; the later family's looks); each row that meets fmt, with fmt's text TOLD by the authors' own Lean function (tested against real Go, not proved from fmt's source: count such statements apart). THE CARD IS WHAT COUNTS. Prove the row's statement (the work); the ties are given (YtbiiiloimbjpaaaGreatDoorTie.lean); close each card by the builder's one call (the guide's Derived/Test/ToyasCard.lean, 'card_holds'). Laid BY PROGRAM, IN A SANDBOX (cutbox-door.mjs). By AI agents, Wed Nov 11 2026. No macro, syntax, notation, axiom, sorry.
-/
import Derived.Test.YtbiiiloimbjpaaaGreatDoorRows
import GoSem.ClaimSeven
namespace Go.Proofs.YtbiiiloimbjpaaaGreatDoor
namespace Rows

/-- THE TIED CARD OF 'monoclelaw31.MtfModulates'. -/
def mtfModulatesCard : Claim7 := { stood := { row := mtfModulatesRow, standIns := [], harness := (true, "a82d1f1440ea33cc5e75019dc8621bc2b2023d813e0c7c3999182a711df8db29"), looks := true }, kinds := [], alts := [], laidByText := true, laidKinds := [.funcs, .data, .data], laidTests := true, laidLooks := .later }
def MtfModulatesCardSaid : Prop := Claim7.holds Tryz.pinned (.plain (OpenSpec.ofChange mtfModulatesSpec)) mtfModulatesCard

/-- THE TIED CARD OF 'monoclelaw31.MtfCurves'. -/
def mtfCurvesCard : Claim7 := { stood := { row := mtfCurvesRow, standIns := [], harness := (true, "a82d1f1440ea33cc5e75019dc8621bc2b2023d813e0c7c3999182a711df8db29"), looks := true }, kinds := [], alts := [], laidByText := true, laidKinds := [.funcs, .data, .data], laidTests := true, laidLooks := .later }
def MtfCurvesCardSaid : Prop := Claim7.holds Tryz.pinned (.plain (OpenSpec.ofChange mtfCurvesSpec)) mtfCurvesCard

/-- THE TIED CARD OF 'monoclelaw31.MtfTwo'. -/
def mtfTwoCard : Claim7 := { stood := { row := mtfTwoRow, standIns := [], harness := (true, "a82d1f1440ea33cc5e75019dc8621bc2b2023d813e0c7c3999182a711df8db29"), looks := true }, kinds := [], alts := [], laidByText := true, laidKinds := [.funcs, .data, .data], laidTests := true, laidLooks := .later }
def MtfTwoCardSaid : Prop := Claim7.holds Tryz.pinned (.plain (OpenSpec.ofChange mtfTwoSpec)) mtfTwoCard

/-- THE SECOND FORM's CARD OF 'monoclelaw31.MtfModulates'. -/
def mtfModulatesUptoCard : Claim7 := { stood := { row := mtfModulatesUptoRow, standIns := [], harness := (true, "a82d1f1440ea33cc5e75019dc8621bc2b2023d813e0c7c3999182a711df8db29"), looks := true }, kinds := [], alts := [], laidByText := true, laidKinds := [.funcs, .data, .data], laidTests := true, laidLooks := .later }
def MtfModulatesUptoCardSaid : Prop := Claim7.holds Tryz.pinned (.plain (OpenSpec.upto mtfModulatesSpec)) mtfModulatesUptoCard

/-- THE SECOND FORM's CARD OF 'monoclelaw31.MtfCurves'. -/
def mtfCurvesUptoCard : Claim7 := { stood := { row := mtfCurvesUptoRow, standIns := [], harness := (true, "a82d1f1440ea33cc5e75019dc8621bc2b2023d813e0c7c3999182a711df8db29"), looks := true }, kinds := [], alts := [], laidByText := true, laidKinds := [.funcs, .data, .data], laidTests := true, laidLooks := .later }
def MtfCurvesUptoCardSaid : Prop := Claim7.holds Tryz.pinned (.plain (OpenSpec.upto mtfCurvesSpec)) mtfCurvesUptoCard

/-- THE SECOND FORM's CARD OF 'monoclelaw31.MtfTwo'. -/
def mtfTwoUptoCard : Claim7 := { stood := { row := mtfTwoUptoRow, standIns := [], harness := (true, "a82d1f1440ea33cc5e75019dc8621bc2b2023d813e0c7c3999182a711df8db29"), looks := true }, kinds := [], alts := [], laidByText := true, laidKinds := [.funcs, .data, .data], laidTests := true, laidLooks := .later }
def MtfTwoUptoCardSaid : Prop := Claim7.holds Tryz.pinned (.plain (OpenSpec.upto mtfTwoSpec)) mtfTwoUptoCard
end Rows
end Go.Proofs.YtbiiiloimbjpaaaGreatDoor
