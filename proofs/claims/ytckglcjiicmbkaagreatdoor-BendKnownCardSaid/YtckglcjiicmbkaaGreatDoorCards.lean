/-
  DERIVED. GIVEN WITH THE SEED: THE CARDS: each row of YtckglcjiicmbkaaGreatDoorRows.lean that lists a variable, with what it lists TIED to the program's text (the seventh form; the later family's looks); each row that meets fmt, with fmt's text TOLD by the authors' own Lean function (tested against real Go, not proved from fmt's source: count such statements apart). THE CARD IS WHAT COUNTS. Prove the row's statement (the work); the ties are given (YtckglcjiicmbkaaGreatDoorTie.lean); close each card by the builder's one call (the guide's Derived/Test/ToyasCard.lean, 'card_holds'). Laid BY PROGRAM, IN A SANDBOX (cutbox-door.mjs). By AI agents, Wed Nov 11 2026. No macro, syntax, notation, axiom, sorry.
-/
import Derived.Test.YtckglcjiicmbkaaGreatDoorRows
import GoSem.ClaimSeven
namespace Go.Proofs.YtckglcjiicmbkaaGreatDoor
namespace Rows

/-- THE TIED CARD OF 'monoclelaw26.BendNormals'. -/
def bendNormalsCard : Claim7 := { stood := { row := bendNormalsRow, standIns := [], harness := (true, "fda8b998b056aef84f3a851bb0e855e464f3c0372594842e17429cb1d2a1e21a"), looks := true }, kinds := [], alts := [], laidByText := true, laidKinds := [.data, .data], laidTests := true, laidLooks := .later }
def BendNormalsCardSaid : Prop := Claim7.holds Tryz.pinned (.plain (OpenSpec.ofChange bendNormalsSpec)) bendNormalsCard

/-- THE TIED CARD OF 'monoclelaw26.BendBends'. -/
def bendBendsCard : Claim7 := { stood := { row := bendBendsRow, standIns := [], harness := (true, "fda8b998b056aef84f3a851bb0e855e464f3c0372594842e17429cb1d2a1e21a"), looks := true }, kinds := [], alts := [], laidByText := true, laidKinds := [.data, .data], laidTests := true, laidLooks := .later }
def BendBendsCardSaid : Prop := Claim7.holds Tryz.pinned (.plain (OpenSpec.ofChange bendBendsSpec)) bendBendsCard

/-- THE TIED CARD OF 'monoclelaw26.BendSnell'. -/
def bendSnellCard : Claim7 := { stood := { row := bendSnellRow, standIns := [], harness := (true, "fda8b998b056aef84f3a851bb0e855e464f3c0372594842e17429cb1d2a1e21a"), looks := true }, kinds := [], alts := [], laidByText := true, laidKinds := [.data], laidTests := true, laidLooks := .later }
def BendSnellCardSaid : Prop := Claim7.holds Tryz.pinned (.plain (OpenSpec.ofChange bendSnellSpec)) bendSnellCard

/-- THE TIED CARD OF 'monoclelaw26.BendBack'. -/
def bendBackCard : Claim7 := { stood := { row := bendBackRow, standIns := [], harness := (true, "fda8b998b056aef84f3a851bb0e855e464f3c0372594842e17429cb1d2a1e21a"), looks := true }, kinds := [], alts := [], laidByText := true, laidKinds := [.data], laidTests := true, laidLooks := .later }
def BendBackCardSaid : Prop := Claim7.holds Tryz.pinned (.plain (OpenSpec.ofChange bendBackSpec)) bendBackCard

/-- THE TIED CARD OF 'monoclelaw26.BendKeeps'. -/
def bendKeepsCard : Claim7 := { stood := { row := bendKeepsRow, standIns := [], harness := (true, "fda8b998b056aef84f3a851bb0e855e464f3c0372594842e17429cb1d2a1e21a"), looks := true }, kinds := [], alts := [], laidByText := true, laidKinds := [.data], laidTests := true, laidLooks := .later }
def BendKeepsCardSaid : Prop := Claim7.holds Tryz.pinned (.plain (OpenSpec.ofChange bendKeepsSpec)) bendKeepsCard

/-- THE TIED CARD OF 'monoclelaw26.BendOrders'. -/
def bendOrdersCard : Claim7 := { stood := { row := bendOrdersRow, standIns := [], harness := (true, "fda8b998b056aef84f3a851bb0e855e464f3c0372594842e17429cb1d2a1e21a"), looks := true }, kinds := [], alts := [], laidByText := true, laidKinds := [.data], laidTests := true, laidLooks := .later }
def BendOrdersCardSaid : Prop := Claim7.holds Tryz.pinned (.plain (OpenSpec.ofChange bendOrdersSpec)) bendOrdersCard

/-- THE TIED CARD OF 'monoclelaw26.BendKnown'. -/
def bendKnownCard : Claim7 := { stood := { row := bendKnownRow, standIns := [], harness := (true, "fda8b998b056aef84f3a851bb0e855e464f3c0372594842e17429cb1d2a1e21a"), looks := true }, kinds := [], alts := [], laidByText := true, laidKinds := [.data], laidTests := true, laidLooks := .later }
def BendKnownCardSaid : Prop := Claim7.holds Tryz.pinned (.plain (OpenSpec.ofChange bendKnownSpec)) bendKnownCard

/-- THE SECOND FORM's CARD OF 'monoclelaw26.BendNormals'. -/
def bendNormalsUptoCard : Claim7 := { stood := { row := bendNormalsUptoRow, standIns := [], harness := (true, "fda8b998b056aef84f3a851bb0e855e464f3c0372594842e17429cb1d2a1e21a"), looks := true }, kinds := [], alts := [], laidByText := true, laidKinds := [.data, .data], laidTests := true, laidLooks := .later }
def BendNormalsUptoCardSaid : Prop := Claim7.holds Tryz.pinned (.plain (OpenSpec.upto bendNormalsSpec)) bendNormalsUptoCard

/-- THE SECOND FORM's CARD OF 'monoclelaw26.BendBends'. -/
def bendBendsUptoCard : Claim7 := { stood := { row := bendBendsUptoRow, standIns := [], harness := (true, "fda8b998b056aef84f3a851bb0e855e464f3c0372594842e17429cb1d2a1e21a"), looks := true }, kinds := [], alts := [], laidByText := true, laidKinds := [.data, .data], laidTests := true, laidLooks := .later }
def BendBendsUptoCardSaid : Prop := Claim7.holds Tryz.pinned (.plain (OpenSpec.upto bendBendsSpec)) bendBendsUptoCard

/-- THE SECOND FORM's CARD OF 'monoclelaw26.BendSnell'. -/
def bendSnellUptoCard : Claim7 := { stood := { row := bendSnellUptoRow, standIns := [], harness := (true, "fda8b998b056aef84f3a851bb0e855e464f3c0372594842e17429cb1d2a1e21a"), looks := true }, kinds := [], alts := [], laidByText := true, laidKinds := [.data], laidTests := true, laidLooks := .later }
def BendSnellUptoCardSaid : Prop := Claim7.holds Tryz.pinned (.plain (OpenSpec.upto bendSnellSpec)) bendSnellUptoCard

/-- THE SECOND FORM's CARD OF 'monoclelaw26.BendBack'. -/
def bendBackUptoCard : Claim7 := { stood := { row := bendBackUptoRow, standIns := [], harness := (true, "fda8b998b056aef84f3a851bb0e855e464f3c0372594842e17429cb1d2a1e21a"), looks := true }, kinds := [], alts := [], laidByText := true, laidKinds := [.data], laidTests := true, laidLooks := .later }
def BendBackUptoCardSaid : Prop := Claim7.holds Tryz.pinned (.plain (OpenSpec.upto bendBackSpec)) bendBackUptoCard

/-- THE SECOND FORM's CARD OF 'monoclelaw26.BendKeeps'. -/
def bendKeepsUptoCard : Claim7 := { stood := { row := bendKeepsUptoRow, standIns := [], harness := (true, "fda8b998b056aef84f3a851bb0e855e464f3c0372594842e17429cb1d2a1e21a"), looks := true }, kinds := [], alts := [], laidByText := true, laidKinds := [.data], laidTests := true, laidLooks := .later }
def BendKeepsUptoCardSaid : Prop := Claim7.holds Tryz.pinned (.plain (OpenSpec.upto bendKeepsSpec)) bendKeepsUptoCard

/-- THE SECOND FORM's CARD OF 'monoclelaw26.BendOrders'. -/
def bendOrdersUptoCard : Claim7 := { stood := { row := bendOrdersUptoRow, standIns := [], harness := (true, "fda8b998b056aef84f3a851bb0e855e464f3c0372594842e17429cb1d2a1e21a"), looks := true }, kinds := [], alts := [], laidByText := true, laidKinds := [.data], laidTests := true, laidLooks := .later }
def BendOrdersUptoCardSaid : Prop := Claim7.holds Tryz.pinned (.plain (OpenSpec.upto bendOrdersSpec)) bendOrdersUptoCard

/-- THE SECOND FORM's CARD OF 'monoclelaw26.BendKnown'. -/
def bendKnownUptoCard : Claim7 := { stood := { row := bendKnownUptoRow, standIns := [], harness := (true, "fda8b998b056aef84f3a851bb0e855e464f3c0372594842e17429cb1d2a1e21a"), looks := true }, kinds := [], alts := [], laidByText := true, laidKinds := [.data], laidTests := true, laidLooks := .later }
def BendKnownUptoCardSaid : Prop := Claim7.holds Tryz.pinned (.plain (OpenSpec.upto bendKnownSpec)) bendKnownUptoCard
end Rows
end Go.Proofs.YtckglcjiicmbkaaGreatDoor
