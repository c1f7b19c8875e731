/-
  DERIVED. GIVEN WITH THE SEED: THE CARDS: each row of YtbboldpghkahjaaGreatDoorRows.lean that lists a variable, with what it lists TIED to the program's text (the seventh form; the later family's looks); each row that meets fmt, with fmt's text TOLD by the authors' own Lean function (tested against real Go, not proved from fmt's source: count such statements apart). THE CARD IS WHAT COUNTS. Prove the row's statement (the work); the ties are given (YtbboldpghkahjaaGreatDoorTie.lean); close each card by the builder's one call (the guide's Derived/Test/ToyasCard.lean, 'card_holds'). Laid BY PROGRAM, IN A SANDBOX (cutbox-door.mjs). By AI agents, Wed Nov 11 2026. No macro, syntax, notation, axiom, sorry.
-/
import Derived.Test.YtbboldpghkahjaaGreatDoorRows
import GoSem.ClaimSeven
namespace Go.Proofs.YtbboldpghkahjaaGreatDoor
namespace Rows

/-- THE TIED CARD OF 'monoclelaw26.BendSnell'. -/
def bendSnellCard : Claim7 := { stood := { row := bendSnellRow, standIns := [], harness := (true, "9c27366a21760dbe7c712c193d1064723fdbb70bb17aa1ef043f1e6f62374058"), looks := true }, kinds := [], alts := [], laidByText := true, laidKinds := [.data], laidTests := true, laidLooks := .later }
def BendSnellCardSaid : Prop := Claim7.holds Tryz.pinned (.plain (OpenSpec.ofChange bendSnellSpec)) bendSnellCard

/-- THE TIED CARD OF 'monoclelaw26.BendBack'. -/
def bendBackCard : Claim7 := { stood := { row := bendBackRow, standIns := [], harness := (true, "9c27366a21760dbe7c712c193d1064723fdbb70bb17aa1ef043f1e6f62374058"), looks := true }, kinds := [], alts := [], laidByText := true, laidKinds := [.data], laidTests := true, laidLooks := .later }
def BendBackCardSaid : Prop := Claim7.holds Tryz.pinned (.plain (OpenSpec.ofChange bendBackSpec)) bendBackCard

/-- THE TIED CARD OF 'monoclelaw26.BendKeeps'. -/
def bendKeepsCard : Claim7 := { stood := { row := bendKeepsRow, standIns := [], harness := (true, "9c27366a21760dbe7c712c193d1064723fdbb70bb17aa1ef043f1e6f62374058"), looks := true }, kinds := [], alts := [], laidByText := true, laidKinds := [.data], laidTests := true, laidLooks := .later }
def BendKeepsCardSaid : Prop := Claim7.holds Tryz.pinned (.plain (OpenSpec.ofChange bendKeepsSpec)) bendKeepsCard

/-- THE TIED CARD OF 'monoclelaw26.BendOrders'. -/
def bendOrdersCard : Claim7 := { stood := { row := bendOrdersRow, standIns := [], harness := (true, "9c27366a21760dbe7c712c193d1064723fdbb70bb17aa1ef043f1e6f62374058"), looks := true }, kinds := [], alts := [], laidByText := true, laidKinds := [.data], laidTests := true, laidLooks := .later }
def BendOrdersCardSaid : Prop := Claim7.holds Tryz.pinned (.plain (OpenSpec.ofChange bendOrdersSpec)) bendOrdersCard

/-- THE SECOND FORM's CARD OF 'monoclelaw26.BendSnell'. -/
def bendSnellUptoCard : Claim7 := { stood := { row := bendSnellUptoRow, standIns := [], harness := (true, "9c27366a21760dbe7c712c193d1064723fdbb70bb17aa1ef043f1e6f62374058"), looks := true }, kinds := [], alts := [], laidByText := true, laidKinds := [.data], laidTests := true, laidLooks := .later }
def BendSnellUptoCardSaid : Prop := Claim7.holds Tryz.pinned (.plain (OpenSpec.upto bendSnellSpec)) bendSnellUptoCard

/-- THE SECOND FORM's CARD OF 'monoclelaw26.BendBack'. -/
def bendBackUptoCard : Claim7 := { stood := { row := bendBackUptoRow, standIns := [], harness := (true, "9c27366a21760dbe7c712c193d1064723fdbb70bb17aa1ef043f1e6f62374058"), looks := true }, kinds := [], alts := [], laidByText := true, laidKinds := [.data], laidTests := true, laidLooks := .later }
def BendBackUptoCardSaid : Prop := Claim7.holds Tryz.pinned (.plain (OpenSpec.upto bendBackSpec)) bendBackUptoCard

/-- THE SECOND FORM's CARD OF 'monoclelaw26.BendKeeps'. -/
def bendKeepsUptoCard : Claim7 := { stood := { row := bendKeepsUptoRow, standIns := [], harness := (true, "9c27366a21760dbe7c712c193d1064723fdbb70bb17aa1ef043f1e6f62374058"), looks := true }, kinds := [], alts := [], laidByText := true, laidKinds := [.data], laidTests := true, laidLooks := .later }
def BendKeepsUptoCardSaid : Prop := Claim7.holds Tryz.pinned (.plain (OpenSpec.upto bendKeepsSpec)) bendKeepsUptoCard

/-- THE SECOND FORM's CARD OF 'monoclelaw26.BendOrders'. -/
def bendOrdersUptoCard : Claim7 := { stood := { row := bendOrdersUptoRow, standIns := [], harness := (true, "9c27366a21760dbe7c712c193d1064723fdbb70bb17aa1ef043f1e6f62374058"), looks := true }, kinds := [], alts := [], laidByText := true, laidKinds := [.data], laidTests := true, laidLooks := .later }
def BendOrdersUptoCardSaid : Prop := Claim7.holds Tryz.pinned (.plain (OpenSpec.upto bendOrdersSpec)) bendOrdersUptoCard
end Rows
end Go.Proofs.YtbboldpghkahjaaGreatDoor
