/-
  DERIVED. GIVEN WITH THE SEED: THE CARDS: each row of YtooloakdmdbnaaaGreatDoorRows.lean that lists a variable, with what it lists TIED to the program's text (the seventh form; the later family's looks); each row that meets fmt, with fmt's text TOLD by the authors' own Lean function (tested against real Go, not proved from fmt's source: count such statements apart). THE CARD IS WHAT COUNTS. Prove the row's statement (the work); the ties are given (YtooloakdmdbnaaaGreatDoorTie.lean); close each card by the builder's one call (the guide's Derived/Test/ToyasCard.lean, 'card_holds'). Laid BY PROGRAM, IN A SANDBOX (cutbox-door.mjs). By AI agents, Wed Nov 11 2026. No macro, syntax, notation, axiom, sorry.
-/
import Derived.Test.YtooloakdmdbnaaaGreatDoorRows
import GoSem.ClaimSeven
namespace Go.Proofs.YtooloakdmdbnaaaGreatDoor
namespace Rows

/-- THE TIED CARD OF 'monoclelaw26.BendNormals'. -/
def bendNormalsCard : Claim7 := { stood := { row := bendNormalsRow, standIns := [], harness := (true, "2ead54abf711d94ae38a7ff3950ea31d7bd9b8902a6fd8097645bc2381ac04c2"), looks := true }, kinds := [], alts := [], laidByText := true, laidKinds := [.data, .data], laidTests := true, laidLooks := .later }
def BendNormalsCardSaid : Prop := Claim7.holds Tryz.pinned (.plain (OpenSpec.ofChange bendNormalsSpec)) bendNormalsCard

/-- THE TIED CARD OF 'monoclelaw26.BendBends'. -/
def bendBendsCard : Claim7 := { stood := { row := bendBendsRow, standIns := [], harness := (true, "2ead54abf711d94ae38a7ff3950ea31d7bd9b8902a6fd8097645bc2381ac04c2"), looks := true }, kinds := [], alts := [], laidByText := true, laidKinds := [.data, .data], laidTests := true, laidLooks := .later }
def BendBendsCardSaid : Prop := Claim7.holds Tryz.pinned (.plain (OpenSpec.ofChange bendBendsSpec)) bendBendsCard

/-- THE SECOND FORM's CARD OF 'monoclelaw26.BendNormals'. -/
def bendNormalsUptoCard : Claim7 := { stood := { row := bendNormalsUptoRow, standIns := [], harness := (true, "2ead54abf711d94ae38a7ff3950ea31d7bd9b8902a6fd8097645bc2381ac04c2"), looks := true }, kinds := [], alts := [], laidByText := true, laidKinds := [.data, .data], laidTests := true, laidLooks := .later }
def BendNormalsUptoCardSaid : Prop := Claim7.holds Tryz.pinned (.plain (OpenSpec.upto bendNormalsSpec)) bendNormalsUptoCard

/-- THE SECOND FORM's CARD OF 'monoclelaw26.BendBends'. -/
def bendBendsUptoCard : Claim7 := { stood := { row := bendBendsUptoRow, standIns := [], harness := (true, "2ead54abf711d94ae38a7ff3950ea31d7bd9b8902a6fd8097645bc2381ac04c2"), looks := true }, kinds := [], alts := [], laidByText := true, laidKinds := [.data, .data], laidTests := true, laidLooks := .later }
def BendBendsUptoCardSaid : Prop := Claim7.holds Tryz.pinned (.plain (OpenSpec.upto bendBendsSpec)) bendBendsUptoCard
end Rows
end Go.Proofs.YtooloakdmdbnaaaGreatDoor
