/-
  DERIVED. GIVEN WITH THE SEED: THE CARDS: each row of YtiigkjnhmipnfaaGreatDoorRows.lean that lists a variable, with what it lists TIED to the program's text (the seventh form; the later family's looks); each row that meets fmt, with fmt's text TOLD by the authors' own Lean function (tested against real Go, not proved from fmt's source: count such statements apart). THE CARD IS WHAT COUNTS. Prove the row's statement (the work); the ties are given (YtiigkjnhmipnfaaGreatDoorTie.lean); close each card by the builder's one call (the guide's Derived/Test/ToyasCard.lean, 'card_holds'). Laid BY PROGRAM, IN A SANDBOX (cutbox-door.mjs). By AI agents, Wed Nov 11 2026. No macro, syntax, notation, axiom, sorry.
-/
import Derived.Test.YtiigkjnhmipnfaaGreatDoorRows
import GoSem.ClaimSeven
namespace Go.Proofs.YtiigkjnhmipnfaaGreatDoor
namespace Rows

/-- THE TIED CARD OF 'monoclelaw11.SurfaceChecks'. -/
def surfaceChecksCard : Claim7 := { stood := { row := surfaceChecksRow, standIns := [], harness := (true, "3c2fcfda3a7021e0e71f23a05ba0e96cfda05f3aadc2b71d27ef5767ab2e0ada"), looks := false }, kinds := [], alts := [], laidByText := true, laidKinds := [.data, .mappedDeep], laidTests := true, laidLooks := .later }
def SurfaceChecksCardSaid : Prop := Claim7.holds Tryz.pinned (.plain (OpenSpec.ofChange surfaceChecksSpec)) surfaceChecksCard

/-- THE TIED CARD OF 'monoclelaw11.SurfaceParams'. -/
def surfaceParamsCard : Claim7 := { stood := { row := surfaceParamsRow, standIns := [], harness := (true, "3c2fcfda3a7021e0e71f23a05ba0e96cfda05f3aadc2b71d27ef5767ab2e0ada"), looks := false }, kinds := [], alts := [], laidByText := true, laidKinds := [.data, .mappedDeep], laidTests := true, laidLooks := .later }
def SurfaceParamsCardSaid : Prop := Claim7.holds Tryz.pinned (.plain (OpenSpec.ofChange surfaceParamsSpec)) surfaceParamsCard

/-- THE TIED CARD OF 'monoclelaw11.SurfaceSags'. -/
def surfaceSagsCard : Claim7 := { stood := { row := surfaceSagsRow, standIns := [], harness := (true, "3c2fcfda3a7021e0e71f23a05ba0e96cfda05f3aadc2b71d27ef5767ab2e0ada"), looks := false }, kinds := [], alts := [], laidByText := true, laidKinds := [.data, .data, .mappedDeep], laidTests := true, laidLooks := .later }
def SurfaceSagsCardSaid : Prop := Claim7.holds Tryz.pinned (.plain (OpenSpec.ofChange surfaceSagsSpec)) surfaceSagsCard

/-- THE TIED CARD OF 'monoclelaw11.SurfaceSlopes'. -/
def surfaceSlopesCard : Claim7 := { stood := { row := surfaceSlopesRow, standIns := [], harness := (true, "3c2fcfda3a7021e0e71f23a05ba0e96cfda05f3aadc2b71d27ef5767ab2e0ada"), looks := false }, kinds := [], alts := [], laidByText := true, laidKinds := [.data, .data, .mappedDeep], laidTests := true, laidLooks := .later }
def SurfaceSlopesCardSaid : Prop := Claim7.holds Tryz.pinned (.plain (OpenSpec.ofChange surfaceSlopesSpec)) surfaceSlopesCard

/-- THE TIED CARD OF 'monoclelaw11.SurfaceConic'. -/
def surfaceConicCard : Claim7 := { stood := { row := surfaceConicRow, standIns := [], harness := (true, "3c2fcfda3a7021e0e71f23a05ba0e96cfda05f3aadc2b71d27ef5767ab2e0ada"), looks := false }, kinds := [], alts := [], laidByText := true, laidKinds := [.data, .mappedDeep], laidTests := true, laidLooks := .later }
def SurfaceConicCardSaid : Prop := Claim7.holds Tryz.pinned (.plain (OpenSpec.ofChange surfaceConicSpec)) surfaceConicCard

/-- THE TIED CARD OF 'monoclelaw11.SurfaceSteep'. -/
def surfaceSteepCard : Claim7 := { stood := { row := surfaceSteepRow, standIns := [], harness := (true, "3c2fcfda3a7021e0e71f23a05ba0e96cfda05f3aadc2b71d27ef5767ab2e0ada"), looks := false }, kinds := [], alts := [], laidByText := true, laidKinds := [.data, .mappedDeep], laidTests := true, laidLooks := .later }
def SurfaceSteepCardSaid : Prop := Claim7.holds Tryz.pinned (.plain (OpenSpec.ofChange surfaceSteepSpec)) surfaceSteepCard

/-- THE TIED CARD OF 'monoclelaw11.SurfaceEven'. -/
def surfaceEvenCard : Claim7 := { stood := { row := surfaceEvenRow, standIns := [], harness := (true, "3c2fcfda3a7021e0e71f23a05ba0e96cfda05f3aadc2b71d27ef5767ab2e0ada"), looks := false }, kinds := [], alts := [], laidByText := true, laidKinds := [.data, .mappedDeep], laidTests := true, laidLooks := .later }
def SurfaceEvenCardSaid : Prop := Claim7.holds Tryz.pinned (.plain (OpenSpec.ofChange surfaceEvenSpec)) surfaceEvenCard

/-- THE TIED CARD OF 'monoclelaw11.SurfaceWithin'. -/
def surfaceWithinCard : Claim7 := { stood := { row := surfaceWithinRow, standIns := [], harness := (true, "3c2fcfda3a7021e0e71f23a05ba0e96cfda05f3aadc2b71d27ef5767ab2e0ada"), looks := false }, kinds := [], alts := [], laidByText := true, laidKinds := [.data, .mappedDeep], laidTests := true, laidLooks := .later }
def SurfaceWithinCardSaid : Prop := Claim7.holds Tryz.pinned (.plain (OpenSpec.ofChange surfaceWithinSpec)) surfaceWithinCard

/-- THE TIED CARD OF 'monoclelaw11.SurfaceRound'. -/
def surfaceRoundCard : Claim7 := { stood := { row := surfaceRoundRow, standIns := [], harness := (true, "3c2fcfda3a7021e0e71f23a05ba0e96cfda05f3aadc2b71d27ef5767ab2e0ada"), looks := false }, kinds := [], alts := [], laidByText := true, laidKinds := [.data, .mappedDeep], laidTests := true, laidLooks := .later }
def SurfaceRoundCardSaid : Prop := Claim7.holds Tryz.pinned (.plain (OpenSpec.ofChange surfaceRoundSpec)) surfaceRoundCard

/-- THE TIED CARD OF 'monoclelaw11.SurfaceSets'. -/
def surfaceSetsCard : Claim7 := { stood := { row := surfaceSetsRow, standIns := [], harness := (true, "3c2fcfda3a7021e0e71f23a05ba0e96cfda05f3aadc2b71d27ef5767ab2e0ada"), looks := false }, kinds := [], alts := [], laidByText := true, laidKinds := [.data, .mappedDeep], laidTests := true, laidLooks := .later }
def SurfaceSetsCardSaid : Prop := Claim7.holds Tryz.pinned (.plain (OpenSpec.ofChange surfaceSetsSpec)) surfaceSetsCard

/-- THE TIED CARD OF 'monoclelaw11.SurfaceKnown'. -/
def surfaceKnownCard : Claim7 := { stood := { row := surfaceKnownRow, standIns := [], harness := (true, "3c2fcfda3a7021e0e71f23a05ba0e96cfda05f3aadc2b71d27ef5767ab2e0ada"), looks := false }, kinds := [], alts := [], laidByText := true, laidKinds := [.data, .mappedDeep], laidTests := true, laidLooks := .later }
def SurfaceKnownCardSaid : Prop := Claim7.holds Tryz.pinned (.plain (OpenSpec.ofChange surfaceKnownSpec)) surfaceKnownCard

/-- THE SECOND FORM's CARD OF 'monoclelaw11.SurfaceChecks'. -/
def surfaceChecksUptoCard : Claim7 := { stood := { row := surfaceChecksUptoRow, standIns := [], harness := (true, "3c2fcfda3a7021e0e71f23a05ba0e96cfda05f3aadc2b71d27ef5767ab2e0ada"), looks := false }, kinds := [], alts := [], laidByText := true, laidKinds := [.data, .mappedDeep], laidTests := true, laidLooks := .later }
def SurfaceChecksUptoCardSaid : Prop := Claim7.holds Tryz.pinned (.plain (OpenSpec.upto surfaceChecksSpec)) surfaceChecksUptoCard

/-- THE SECOND FORM's CARD OF 'monoclelaw11.SurfaceParams'. -/
def surfaceParamsUptoCard : Claim7 := { stood := { row := surfaceParamsUptoRow, standIns := [], harness := (true, "3c2fcfda3a7021e0e71f23a05ba0e96cfda05f3aadc2b71d27ef5767ab2e0ada"), looks := false }, kinds := [], alts := [], laidByText := true, laidKinds := [.data, .mappedDeep], laidTests := true, laidLooks := .later }
def SurfaceParamsUptoCardSaid : Prop := Claim7.holds Tryz.pinned (.plain (OpenSpec.upto surfaceParamsSpec)) surfaceParamsUptoCard

/-- THE SECOND FORM's CARD OF 'monoclelaw11.SurfaceSags'. -/
def surfaceSagsUptoCard : Claim7 := { stood := { row := surfaceSagsUptoRow, standIns := [], harness := (true, "3c2fcfda3a7021e0e71f23a05ba0e96cfda05f3aadc2b71d27ef5767ab2e0ada"), looks := false }, kinds := [], alts := [], laidByText := true, laidKinds := [.data, .data, .mappedDeep], laidTests := true, laidLooks := .later }
def SurfaceSagsUptoCardSaid : Prop := Claim7.holds Tryz.pinned (.plain (OpenSpec.upto surfaceSagsSpec)) surfaceSagsUptoCard

/-- THE SECOND FORM's CARD OF 'monoclelaw11.SurfaceSlopes'. -/
def surfaceSlopesUptoCard : Claim7 := { stood := { row := surfaceSlopesUptoRow, standIns := [], harness := (true, "3c2fcfda3a7021e0e71f23a05ba0e96cfda05f3aadc2b71d27ef5767ab2e0ada"), looks := false }, kinds := [], alts := [], laidByText := true, laidKinds := [.data, .data, .mappedDeep], laidTests := true, laidLooks := .later }
def SurfaceSlopesUptoCardSaid : Prop := Claim7.holds Tryz.pinned (.plain (OpenSpec.upto surfaceSlopesSpec)) surfaceSlopesUptoCard

/-- THE SECOND FORM's CARD OF 'monoclelaw11.SurfaceConic'. -/
def surfaceConicUptoCard : Claim7 := { stood := { row := surfaceConicUptoRow, standIns := [], harness := (true, "3c2fcfda3a7021e0e71f23a05ba0e96cfda05f3aadc2b71d27ef5767ab2e0ada"), looks := false }, kinds := [], alts := [], laidByText := true, laidKinds := [.data, .mappedDeep], laidTests := true, laidLooks := .later }
def SurfaceConicUptoCardSaid : Prop := Claim7.holds Tryz.pinned (.plain (OpenSpec.upto surfaceConicSpec)) surfaceConicUptoCard

/-- THE SECOND FORM's CARD OF 'monoclelaw11.SurfaceSteep'. -/
def surfaceSteepUptoCard : Claim7 := { stood := { row := surfaceSteepUptoRow, standIns := [], harness := (true, "3c2fcfda3a7021e0e71f23a05ba0e96cfda05f3aadc2b71d27ef5767ab2e0ada"), looks := false }, kinds := [], alts := [], laidByText := true, laidKinds := [.data, .mappedDeep], laidTests := true, laidLooks := .later }
def SurfaceSteepUptoCardSaid : Prop := Claim7.holds Tryz.pinned (.plain (OpenSpec.upto surfaceSteepSpec)) surfaceSteepUptoCard

/-- THE SECOND FORM's CARD OF 'monoclelaw11.SurfaceEven'. -/
def surfaceEvenUptoCard : Claim7 := { stood := { row := surfaceEvenUptoRow, standIns := [], harness := (true, "3c2fcfda3a7021e0e71f23a05ba0e96cfda05f3aadc2b71d27ef5767ab2e0ada"), looks := false }, kinds := [], alts := [], laidByText := true, laidKinds := [.data, .mappedDeep], laidTests := true, laidLooks := .later }
def SurfaceEvenUptoCardSaid : Prop := Claim7.holds Tryz.pinned (.plain (OpenSpec.upto surfaceEvenSpec)) surfaceEvenUptoCard

/-- THE SECOND FORM's CARD OF 'monoclelaw11.SurfaceWithin'. -/
def surfaceWithinUptoCard : Claim7 := { stood := { row := surfaceWithinUptoRow, standIns := [], harness := (true, "3c2fcfda3a7021e0e71f23a05ba0e96cfda05f3aadc2b71d27ef5767ab2e0ada"), looks := false }, kinds := [], alts := [], laidByText := true, laidKinds := [.data, .mappedDeep], laidTests := true, laidLooks := .later }
def SurfaceWithinUptoCardSaid : Prop := Claim7.holds Tryz.pinned (.plain (OpenSpec.upto surfaceWithinSpec)) surfaceWithinUptoCard

/-- THE SECOND FORM's CARD OF 'monoclelaw11.SurfaceRound'. -/
def surfaceRoundUptoCard : Claim7 := { stood := { row := surfaceRoundUptoRow, standIns := [], harness := (true, "3c2fcfda3a7021e0e71f23a05ba0e96cfda05f3aadc2b71d27ef5767ab2e0ada"), looks := false }, kinds := [], alts := [], laidByText := true, laidKinds := [.data, .mappedDeep], laidTests := true, laidLooks := .later }
def SurfaceRoundUptoCardSaid : Prop := Claim7.holds Tryz.pinned (.plain (OpenSpec.upto surfaceRoundSpec)) surfaceRoundUptoCard

/-- THE SECOND FORM's CARD OF 'monoclelaw11.SurfaceSets'. -/
def surfaceSetsUptoCard : Claim7 := { stood := { row := surfaceSetsUptoRow, standIns := [], harness := (true, "3c2fcfda3a7021e0e71f23a05ba0e96cfda05f3aadc2b71d27ef5767ab2e0ada"), looks := false }, kinds := [], alts := [], laidByText := true, laidKinds := [.data, .mappedDeep], laidTests := true, laidLooks := .later }
def SurfaceSetsUptoCardSaid : Prop := Claim7.holds Tryz.pinned (.plain (OpenSpec.upto surfaceSetsSpec)) surfaceSetsUptoCard

/-- THE SECOND FORM's CARD OF 'monoclelaw11.SurfaceKnown'. -/
def surfaceKnownUptoCard : Claim7 := { stood := { row := surfaceKnownUptoRow, standIns := [], harness := (true, "3c2fcfda3a7021e0e71f23a05ba0e96cfda05f3aadc2b71d27ef5767ab2e0ada"), looks := false }, kinds := [], alts := [], laidByText := true, laidKinds := [.data, .mappedDeep], laidTests := true, laidLooks := .later }
def SurfaceKnownUptoCardSaid : Prop := Claim7.holds Tryz.pinned (.plain (OpenSpec.upto surfaceKnownSpec)) surfaceKnownUptoCard
end Rows
end Go.Proofs.YtiigkjnhmipnfaaGreatDoor
