/-
  DERIVED. GIVEN WITH THE SEED: THE CARDS: each row of YtdljkgcdgidldaaGreatDoorRows.lean that lists a variable, with what it lists TIED to the program's text (the seventh form; the later family's looks); each row that meets fmt, with fmt's text TOLD by the authors' own Lean function (tested against real Go, not proved from fmt's source: count such statements apart). THE CARD IS WHAT COUNTS. Prove the row's statement (the work); the ties are given (YtdljkgcdgidldaaGreatDoorTie.lean); close each card by the builder's one call (the guide's Derived/Test/ToyasCard.lean, 'card_holds'). Laid BY PROGRAM, IN A SANDBOX (cutbox-door.mjs). By AI agents, Wed Nov 11 2026. No macro, syntax, notation, axiom, sorry.
-/
import Derived.Test.YtdljkgcdgidldaaGreatDoorRows
import GoSem.ClaimSeven
namespace Go.Proofs.YtdljkgcdgidldaaGreatDoor
namespace Rows

/-- THE TIED CARD OF 'monoclelaw25.HitFar'. -/
def hitFarCard : Claim7 := { stood := { row := hitFarRow, standIns := [], harness := (true, "fb0420665ece2c658f9fb74ecc7743e4abb112e54739815548d0128449531495"), looks := true }, kinds := [], alts := [], laidByText := true, laidKinds := [.data, .data, .data], laidTests := true, laidLooks := .later }
def HitFarCardSaid : Prop := Claim7.holds Tryz.pinned (.plain (OpenSpec.ofChange hitFarSpec)) hitFarCard

/-- THE TIED CARD OF 'monoclelaw25.HitLies'. -/
def hitLiesCard : Claim7 := { stood := { row := hitLiesRow, standIns := [], harness := (true, "fb0420665ece2c658f9fb74ecc7743e4abb112e54739815548d0128449531495"), looks := true }, kinds := [], alts := [], laidByText := true, laidKinds := [.data, .data, .data], laidTests := true, laidLooks := .later }
def HitLiesCardSaid : Prop := Claim7.holds Tryz.pinned (.plain (OpenSpec.ofChange hitLiesSpec)) hitLiesCard

/-- THE TIED CARD OF 'monoclelaw25.HitMirrors'. -/
def hitMirrorsCard : Claim7 := { stood := { row := hitMirrorsRow, standIns := [], harness := (true, "fb0420665ece2c658f9fb74ecc7743e4abb112e54739815548d0128449531495"), looks := true }, kinds := [], alts := [], laidByText := true, laidKinds := [.data, .data], laidTests := true, laidLooks := .later }
def HitMirrorsCardSaid : Prop := Claim7.holds Tryz.pinned (.plain (OpenSpec.ofChange hitMirrorsSpec)) hitMirrorsCard

/-- THE TIED CARD OF 'monoclelaw25.HitTurns'. -/
def hitTurnsCard : Claim7 := { stood := { row := hitTurnsRow, standIns := [], harness := (true, "fb0420665ece2c658f9fb74ecc7743e4abb112e54739815548d0128449531495"), looks := true }, kinds := [], alts := [], laidByText := true, laidKinds := [.data, .data], laidTests := true, laidLooks := .later }
def HitTurnsCardSaid : Prop := Claim7.holds Tryz.pinned (.plain (OpenSpec.ofChange hitTurnsSpec)) hitTurnsCard

/-- THE TIED CARD OF 'monoclelaw25.HitSlides'. -/
def hitSlidesCard : Claim7 := { stood := { row := hitSlidesRow, standIns := [], harness := (true, "fb0420665ece2c658f9fb74ecc7743e4abb112e54739815548d0128449531495"), looks := true }, kinds := [], alts := [], laidByText := true, laidKinds := [.data, .data], laidTests := true, laidLooks := .later }
def HitSlidesCardSaid : Prop := Claim7.holds Tryz.pinned (.plain (OpenSpec.ofChange hitSlidesSpec)) hitSlidesCard

/-- THE TIED CARD OF 'monoclelaw25.HitKnown'. -/
def hitKnownCard : Claim7 := { stood := { row := hitKnownRow, standIns := [], harness := (true, "fb0420665ece2c658f9fb74ecc7743e4abb112e54739815548d0128449531495"), looks := true }, kinds := [], alts := [], laidByText := true, laidKinds := [.data, .data], laidTests := true, laidLooks := .later }
def HitKnownCardSaid : Prop := Claim7.holds Tryz.pinned (.plain (OpenSpec.ofChange hitKnownSpec)) hitKnownCard

/-- THE SECOND FORM's CARD OF 'monoclelaw25.HitFar'. -/
def hitFarUptoCard : Claim7 := { stood := { row := hitFarUptoRow, standIns := [], harness := (true, "fb0420665ece2c658f9fb74ecc7743e4abb112e54739815548d0128449531495"), looks := true }, kinds := [], alts := [], laidByText := true, laidKinds := [.data, .data, .data], laidTests := true, laidLooks := .later }
def HitFarUptoCardSaid : Prop := Claim7.holds Tryz.pinned (.plain (OpenSpec.upto hitFarSpec)) hitFarUptoCard

/-- THE SECOND FORM's CARD OF 'monoclelaw25.HitLies'. -/
def hitLiesUptoCard : Claim7 := { stood := { row := hitLiesUptoRow, standIns := [], harness := (true, "fb0420665ece2c658f9fb74ecc7743e4abb112e54739815548d0128449531495"), looks := true }, kinds := [], alts := [], laidByText := true, laidKinds := [.data, .data, .data], laidTests := true, laidLooks := .later }
def HitLiesUptoCardSaid : Prop := Claim7.holds Tryz.pinned (.plain (OpenSpec.upto hitLiesSpec)) hitLiesUptoCard

/-- THE SECOND FORM's CARD OF 'monoclelaw25.HitMirrors'. -/
def hitMirrorsUptoCard : Claim7 := { stood := { row := hitMirrorsUptoRow, standIns := [], harness := (true, "fb0420665ece2c658f9fb74ecc7743e4abb112e54739815548d0128449531495"), looks := true }, kinds := [], alts := [], laidByText := true, laidKinds := [.data, .data], laidTests := true, laidLooks := .later }
def HitMirrorsUptoCardSaid : Prop := Claim7.holds Tryz.pinned (.plain (OpenSpec.upto hitMirrorsSpec)) hitMirrorsUptoCard

/-- THE SECOND FORM's CARD OF 'monoclelaw25.HitTurns'. -/
def hitTurnsUptoCard : Claim7 := { stood := { row := hitTurnsUptoRow, standIns := [], harness := (true, "fb0420665ece2c658f9fb74ecc7743e4abb112e54739815548d0128449531495"), looks := true }, kinds := [], alts := [], laidByText := true, laidKinds := [.data, .data], laidTests := true, laidLooks := .later }
def HitTurnsUptoCardSaid : Prop := Claim7.holds Tryz.pinned (.plain (OpenSpec.upto hitTurnsSpec)) hitTurnsUptoCard

/-- THE SECOND FORM's CARD OF 'monoclelaw25.HitSlides'. -/
def hitSlidesUptoCard : Claim7 := { stood := { row := hitSlidesUptoRow, standIns := [], harness := (true, "fb0420665ece2c658f9fb74ecc7743e4abb112e54739815548d0128449531495"), looks := true }, kinds := [], alts := [], laidByText := true, laidKinds := [.data, .data], laidTests := true, laidLooks := .later }
def HitSlidesUptoCardSaid : Prop := Claim7.holds Tryz.pinned (.plain (OpenSpec.upto hitSlidesSpec)) hitSlidesUptoCard

/-- THE SECOND FORM's CARD OF 'monoclelaw25.HitKnown'. -/
def hitKnownUptoCard : Claim7 := { stood := { row := hitKnownUptoRow, standIns := [], harness := (true, "fb0420665ece2c658f9fb74ecc7743e4abb112e54739815548d0128449531495"), looks := true }, kinds := [], alts := [], laidByText := true, laidKinds := [.data, .data], laidTests := true, laidLooks := .later }
def HitKnownUptoCardSaid : Prop := Claim7.holds Tryz.pinned (.plain (OpenSpec.upto hitKnownSpec)) hitKnownUptoCard
end Rows
end Go.Proofs.YtdljkgcdgidldaaGreatDoor
