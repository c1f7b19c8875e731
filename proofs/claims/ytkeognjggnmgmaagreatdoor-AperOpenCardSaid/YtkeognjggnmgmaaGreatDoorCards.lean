/-
  DERIVED. GIVEN WITH THE SEED: THE CARDS: each row of YtkeognjggnmgmaaGreatDoorRows.lean that lists a variable, with what it lists TIED to the program's text (the seventh form; the later family's looks); each row that meets fmt, with fmt's text TOLD by the authors' own Lean function (tested against real Go, not proved from fmt's source: count such statements apart). THE CARD IS WHAT COUNTS. Prove the row's statement (the work); the ties are given (YtkeognjggnmgmaaGreatDoorTie.lean); close each card by the builder's one call (the guide's Derived/Test/ToyasCard.lean, 'card_holds'). Laid BY PROGRAM, IN A SANDBOX (cutbox-door.mjs). By AI agents, Wed Nov 11 2026. No macro, syntax, notation, axiom, sorry.
-/
import Derived.Test.YtkeognjggnmgmaaGreatDoorRows
import GoSem.ClaimSeven
namespace Go.Proofs.YtkeognjggnmgmaaGreatDoor
namespace Rows

/-- THE TIED CARD OF 'monoclelaw15.AperInside'. -/
def aperInsideCard : Claim7 := { stood := { row := aperInsideRow, standIns := [], harness := (true, "d9670bc5e3d8d9555967d5528892bdd8478a83c5c1623dcfc6b9692e720f517d"), looks := false }, kinds := [], alts := [], laidByText := true, laidKinds := [.data, .data, .data, .mappedDeep, .data], laidTests := true, laidLooks := .later }
def AperInsideCardSaid : Prop := Claim7.holds Tryz.pinned (.plain (OpenSpec.ofChange aperInsideSpec)) aperInsideCard

/-- THE TIED CARD OF 'monoclelaw15.AperClear'. -/
def aperClearCard : Claim7 := { stood := { row := aperClearRow, standIns := [], harness := (true, "d9670bc5e3d8d9555967d5528892bdd8478a83c5c1623dcfc6b9692e720f517d"), looks := false }, kinds := [], alts := [], laidByText := true, laidKinds := [.data, .data, .data, .mappedDeep, .data], laidTests := true, laidLooks := .later }
def AperClearCardSaid : Prop := Claim7.holds Tryz.pinned (.plain (OpenSpec.ofChange aperClearSpec)) aperClearCard

/-- THE TIED CARD OF 'monoclelaw15.AperEdges'. -/
def aperEdgesCard : Claim7 := { stood := { row := aperEdgesRow, standIns := [], harness := (true, "d9670bc5e3d8d9555967d5528892bdd8478a83c5c1623dcfc6b9692e720f517d"), looks := false }, kinds := [], alts := [], laidByText := true, laidKinds := [.data, .data, .data, .mappedDeep, .data], laidTests := true, laidLooks := .later }
def AperEdgesCardSaid : Prop := Claim7.holds Tryz.pinned (.plain (OpenSpec.ofChange aperEdgesSpec)) aperEdgesCard

/-- THE TIED CARD OF 'monoclelaw15.AperExact'. -/
def aperExactCard : Claim7 := { stood := { row := aperExactRow, standIns := [], harness := (true, "d9670bc5e3d8d9555967d5528892bdd8478a83c5c1623dcfc6b9692e720f517d"), looks := false }, kinds := [], alts := [], laidByText := true, laidKinds := [.data, .data, .mappedDeep, .data], laidTests := true, laidLooks := .later }
def AperExactCardSaid : Prop := Claim7.holds Tryz.pinned (.plain (OpenSpec.ofChange aperExactSpec)) aperExactCard

/-- THE TIED CARD OF 'monoclelaw15.AperWithin'. -/
def aperWithinCard : Claim7 := { stood := { row := aperWithinRow, standIns := [], harness := (true, "d9670bc5e3d8d9555967d5528892bdd8478a83c5c1623dcfc6b9692e720f517d"), looks := false }, kinds := [], alts := [], laidByText := true, laidKinds := [.data, .data, .mappedDeep, .data], laidTests := true, laidLooks := .later }
def AperWithinCardSaid : Prop := Claim7.holds Tryz.pinned (.plain (OpenSpec.ofChange aperWithinSpec)) aperWithinCard

/-- THE TIED CARD OF 'monoclelaw15.AperOpen'. -/
def aperOpenCard : Claim7 := { stood := { row := aperOpenRow, standIns := [], harness := (true, "d9670bc5e3d8d9555967d5528892bdd8478a83c5c1623dcfc6b9692e720f517d"), looks := false }, kinds := [], alts := [], laidByText := true, laidKinds := [.data, .data, .mappedDeep, .data], laidTests := true, laidLooks := .later }
def AperOpenCardSaid : Prop := Claim7.holds Tryz.pinned (.plain (OpenSpec.ofChange aperOpenSpec)) aperOpenCard

/-- THE TIED CARD OF 'monoclelaw15.AperKnown'. -/
def aperKnownCard : Claim7 := { stood := { row := aperKnownRow, standIns := [], harness := (true, "d9670bc5e3d8d9555967d5528892bdd8478a83c5c1623dcfc6b9692e720f517d"), looks := false }, kinds := [], alts := [], laidByText := true, laidKinds := [.data, .data, .mappedDeep, .data], laidTests := true, laidLooks := .later }
def AperKnownCardSaid : Prop := Claim7.holds Tryz.pinned (.plain (OpenSpec.ofChange aperKnownSpec)) aperKnownCard

/-- THE SECOND FORM's CARD OF 'monoclelaw15.AperInside'. -/
def aperInsideUptoCard : Claim7 := { stood := { row := aperInsideUptoRow, standIns := [], harness := (true, "d9670bc5e3d8d9555967d5528892bdd8478a83c5c1623dcfc6b9692e720f517d"), looks := false }, kinds := [], alts := [], laidByText := true, laidKinds := [.data, .data, .data, .mappedDeep, .data], laidTests := true, laidLooks := .later }
def AperInsideUptoCardSaid : Prop := Claim7.holds Tryz.pinned (.plain (OpenSpec.upto aperInsideSpec)) aperInsideUptoCard

/-- THE SECOND FORM's CARD OF 'monoclelaw15.AperClear'. -/
def aperClearUptoCard : Claim7 := { stood := { row := aperClearUptoRow, standIns := [], harness := (true, "d9670bc5e3d8d9555967d5528892bdd8478a83c5c1623dcfc6b9692e720f517d"), looks := false }, kinds := [], alts := [], laidByText := true, laidKinds := [.data, .data, .data, .mappedDeep, .data], laidTests := true, laidLooks := .later }
def AperClearUptoCardSaid : Prop := Claim7.holds Tryz.pinned (.plain (OpenSpec.upto aperClearSpec)) aperClearUptoCard

/-- THE SECOND FORM's CARD OF 'monoclelaw15.AperEdges'. -/
def aperEdgesUptoCard : Claim7 := { stood := { row := aperEdgesUptoRow, standIns := [], harness := (true, "d9670bc5e3d8d9555967d5528892bdd8478a83c5c1623dcfc6b9692e720f517d"), looks := false }, kinds := [], alts := [], laidByText := true, laidKinds := [.data, .data, .data, .mappedDeep, .data], laidTests := true, laidLooks := .later }
def AperEdgesUptoCardSaid : Prop := Claim7.holds Tryz.pinned (.plain (OpenSpec.upto aperEdgesSpec)) aperEdgesUptoCard

/-- THE SECOND FORM's CARD OF 'monoclelaw15.AperExact'. -/
def aperExactUptoCard : Claim7 := { stood := { row := aperExactUptoRow, standIns := [], harness := (true, "d9670bc5e3d8d9555967d5528892bdd8478a83c5c1623dcfc6b9692e720f517d"), looks := false }, kinds := [], alts := [], laidByText := true, laidKinds := [.data, .data, .mappedDeep, .data], laidTests := true, laidLooks := .later }
def AperExactUptoCardSaid : Prop := Claim7.holds Tryz.pinned (.plain (OpenSpec.upto aperExactSpec)) aperExactUptoCard

/-- THE SECOND FORM's CARD OF 'monoclelaw15.AperWithin'. -/
def aperWithinUptoCard : Claim7 := { stood := { row := aperWithinUptoRow, standIns := [], harness := (true, "d9670bc5e3d8d9555967d5528892bdd8478a83c5c1623dcfc6b9692e720f517d"), looks := false }, kinds := [], alts := [], laidByText := true, laidKinds := [.data, .data, .mappedDeep, .data], laidTests := true, laidLooks := .later }
def AperWithinUptoCardSaid : Prop := Claim7.holds Tryz.pinned (.plain (OpenSpec.upto aperWithinSpec)) aperWithinUptoCard

/-- THE SECOND FORM's CARD OF 'monoclelaw15.AperOpen'. -/
def aperOpenUptoCard : Claim7 := { stood := { row := aperOpenUptoRow, standIns := [], harness := (true, "d9670bc5e3d8d9555967d5528892bdd8478a83c5c1623dcfc6b9692e720f517d"), looks := false }, kinds := [], alts := [], laidByText := true, laidKinds := [.data, .data, .mappedDeep, .data], laidTests := true, laidLooks := .later }
def AperOpenUptoCardSaid : Prop := Claim7.holds Tryz.pinned (.plain (OpenSpec.upto aperOpenSpec)) aperOpenUptoCard

/-- THE SECOND FORM's CARD OF 'monoclelaw15.AperKnown'. -/
def aperKnownUptoCard : Claim7 := { stood := { row := aperKnownUptoRow, standIns := [], harness := (true, "d9670bc5e3d8d9555967d5528892bdd8478a83c5c1623dcfc6b9692e720f517d"), looks := false }, kinds := [], alts := [], laidByText := true, laidKinds := [.data, .data, .mappedDeep, .data], laidTests := true, laidLooks := .later }
def AperKnownUptoCardSaid : Prop := Claim7.holds Tryz.pinned (.plain (OpenSpec.upto aperKnownSpec)) aperKnownUptoCard
end Rows
end Go.Proofs.YtkeognjggnmgmaaGreatDoor
