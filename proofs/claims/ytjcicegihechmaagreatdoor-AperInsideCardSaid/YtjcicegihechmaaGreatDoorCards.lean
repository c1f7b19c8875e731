/-
  DERIVED. GIVEN WITH THE SEED: THE CARDS: each row of YtjcicegihechmaaGreatDoorRows.lean that lists a variable, with what it lists TIED to the program's text (the seventh form; the later family's looks); each row that meets fmt, with fmt's text TOLD by the authors' own Lean function (tested against real Go, not proved from fmt's source: count such statements apart). THE CARD IS WHAT COUNTS. Prove the row's statement (the work); the ties are given (YtjcicegihechmaaGreatDoorTie.lean); close each card by the builder's one call (the guide's Derived/Test/ToyasCard.lean, 'card_holds'). Laid BY PROGRAM, IN A SANDBOX (cutbox-door.mjs). By AI agents, Wed Nov 11 2026. No macro, syntax, notation, axiom, sorry.
-/
import Derived.Test.YtjcicegihechmaaGreatDoorRows
import GoSem.ClaimSeven
namespace Go.Proofs.YtjcicegihechmaaGreatDoor
namespace Rows

/-- THE TIED CARD OF 'monoclelaw15.AperInside'. -/
def aperInsideCard : Claim7 := { stood := { row := aperInsideRow, standIns := [], harness := (true, "fc75bdd88bf1b99e1e87a1536846c2e199946dcde839b67ffb8fae84c3e26e60"), looks := false }, kinds := [], alts := [], laidByText := true, laidKinds := [.data, .data, .data, .mappedDeep, .data], laidTests := true, laidLooks := .later }
def AperInsideCardSaid : Prop := Claim7.holds Tryz.pinned (.plain (OpenSpec.ofChange aperInsideSpec)) aperInsideCard

/-- THE SECOND FORM's CARD OF 'monoclelaw15.AperInside'. -/
def aperInsideUptoCard : Claim7 := { stood := { row := aperInsideUptoRow, standIns := [], harness := (true, "fc75bdd88bf1b99e1e87a1536846c2e199946dcde839b67ffb8fae84c3e26e60"), looks := false }, kinds := [], alts := [], laidByText := true, laidKinds := [.data, .data, .data, .mappedDeep, .data], laidTests := true, laidLooks := .later }
def AperInsideUptoCardSaid : Prop := Claim7.holds Tryz.pinned (.plain (OpenSpec.upto aperInsideSpec)) aperInsideUptoCard
end Rows
end Go.Proofs.YtjcicegihechmaaGreatDoor
