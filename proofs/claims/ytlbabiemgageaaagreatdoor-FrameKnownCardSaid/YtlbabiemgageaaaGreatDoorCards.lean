/-
  DERIVED. GIVEN WITH THE SEED: THE CARDS: each row of YtlbabiemgageaaaGreatDoorRows.lean that lists a variable, with what it lists TIED to the program's text (the seventh form; the later family's looks); each row that meets fmt, with fmt's text TOLD by the authors' own Lean function (tested against real Go, not proved from fmt's source: count such statements apart). THE CARD IS WHAT COUNTS. Prove the row's statement (the work); the ties are given (YtlbabiemgageaaaGreatDoorTie.lean); close each card by the builder's one call (the guide's Derived/Test/ToyasCard.lean, 'card_holds'). Laid BY PROGRAM, IN A SANDBOX (cutbox-door.mjs). By AI agents, Wed Nov 11 2026. No macro, syntax, notation, axiom, sorry.
-/
import Derived.Test.YtlbabiemgageaaaGreatDoorRows
import GoSem.ClaimSeven
namespace Go.Proofs.YtlbabiemgageaaaGreatDoor
namespace Rows

/-- THE TIED CARD OF 'monoclelaw14.FramePlaces'. -/
def framePlacesCard : Claim7 := { stood := { row := framePlacesRow, standIns := [], harness := (true, "fd1ef2a7bd2258c69a40e24e772bf79c8210adb13ff29989c837666bece598f1"), looks := false }, kinds := [], alts := [], laidByText := true, laidKinds := [.data, .mappedDeep, .data], laidTests := true, laidLooks := .later }
def FramePlacesCardSaid : Prop := Claim7.holds Tryz.pinned (.plain (OpenSpec.ofChange framePlacesSpec)) framePlacesCard

/-- THE TIED CARD OF 'monoclelaw14.FrameMoves'. -/
def frameMovesCard : Claim7 := { stood := { row := frameMovesRow, standIns := [], harness := (true, "fd1ef2a7bd2258c69a40e24e772bf79c8210adb13ff29989c837666bece598f1"), looks := false }, kinds := [], alts := [], laidByText := true, laidKinds := [.data, .mappedDeep, .data], laidTests := true, laidLooks := .later }
def FrameMovesCardSaid : Prop := Claim7.holds Tryz.pinned (.plain (OpenSpec.ofChange frameMovesSpec)) frameMovesCard

/-- THE TIED CARD OF 'monoclelaw14.FrameTurns'. -/
def frameTurnsCard : Claim7 := { stood := { row := frameTurnsRow, standIns := [], harness := (true, "fd1ef2a7bd2258c69a40e24e772bf79c8210adb13ff29989c837666bece598f1"), looks := false }, kinds := [], alts := [], laidByText := true, laidKinds := [.data, .mappedDeep, .data], laidTests := true, laidLooks := .later }
def FrameTurnsCardSaid : Prop := Claim7.holds Tryz.pinned (.plain (OpenSpec.ofChange frameTurnsSpec)) frameTurnsCard

/-- THE TIED CARD OF 'monoclelaw14.FrameTrue'. -/
def frameTrueCard : Claim7 := { stood := { row := frameTrueRow, standIns := [], harness := (true, "fd1ef2a7bd2258c69a40e24e772bf79c8210adb13ff29989c837666bece598f1"), looks := false }, kinds := [], alts := [], laidByText := true, laidKinds := [.data, .mappedDeep, .data], laidTests := true, laidLooks := .later }
def FrameTrueCardSaid : Prop := Claim7.holds Tryz.pinned (.plain (OpenSpec.ofChange frameTrueSpec)) frameTrueCard

/-- THE TIED CARD OF 'monoclelaw14.FrameStraight'. -/
def frameStraightCard : Claim7 := { stood := { row := frameStraightRow, standIns := [], harness := (true, "fd1ef2a7bd2258c69a40e24e772bf79c8210adb13ff29989c837666bece598f1"), looks := false }, kinds := [], alts := [], laidByText := true, laidKinds := [.data, .mappedDeep, .data], laidTests := true, laidLooks := .later }
def FrameStraightCardSaid : Prop := Claim7.holds Tryz.pinned (.plain (OpenSpec.ofChange frameStraightSpec)) frameStraightCard

/-- THE TIED CARD OF 'monoclelaw14.FrameBack'. -/
def frameBackCard : Claim7 := { stood := { row := frameBackRow, standIns := [], harness := (true, "fd1ef2a7bd2258c69a40e24e772bf79c8210adb13ff29989c837666bece598f1"), looks := false }, kinds := [], alts := [], laidByText := true, laidKinds := [.data, .mappedDeep, .data], laidTests := true, laidLooks := .later }
def FrameBackCardSaid : Prop := Claim7.holds Tryz.pinned (.plain (OpenSpec.ofChange frameBackSpec)) frameBackCard

/-- THE TIED CARD OF 'monoclelaw14.FrameBegin'. -/
def frameBeginCard : Claim7 := { stood := { row := frameBeginRow, standIns := [], harness := (true, "fd1ef2a7bd2258c69a40e24e772bf79c8210adb13ff29989c837666bece598f1"), looks := false }, kinds := [], alts := [], laidByText := true, laidKinds := [.data, .mappedDeep, .data], laidTests := true, laidLooks := .later }
def FrameBeginCardSaid : Prop := Claim7.holds Tryz.pinned (.plain (OpenSpec.ofChange frameBeginSpec)) frameBeginCard

/-- THE TIED CARD OF 'monoclelaw14.FrameUndo'. -/
def frameUndoCard : Claim7 := { stood := { row := frameUndoRow, standIns := [], harness := (true, "fd1ef2a7bd2258c69a40e24e772bf79c8210adb13ff29989c837666bece598f1"), looks := false }, kinds := [], alts := [], laidByText := true, laidKinds := [.data, .mappedDeep, .data], laidTests := true, laidLooks := .later }
def FrameUndoCardSaid : Prop := Claim7.holds Tryz.pinned (.plain (OpenSpec.ofChange frameUndoSpec)) frameUndoCard

/-- THE TIED CARD OF 'monoclelaw14.FrameKnown'. -/
def frameKnownCard : Claim7 := { stood := { row := frameKnownRow, standIns := [], harness := (true, "fd1ef2a7bd2258c69a40e24e772bf79c8210adb13ff29989c837666bece598f1"), looks := false }, kinds := [], alts := [], laidByText := true, laidKinds := [.data, .mappedDeep, .data], laidTests := true, laidLooks := .later }
def FrameKnownCardSaid : Prop := Claim7.holds Tryz.pinned (.plain (OpenSpec.ofChange frameKnownSpec)) frameKnownCard

/-- THE SECOND FORM's CARD OF 'monoclelaw14.FramePlaces'. -/
def framePlacesUptoCard : Claim7 := { stood := { row := framePlacesUptoRow, standIns := [], harness := (true, "fd1ef2a7bd2258c69a40e24e772bf79c8210adb13ff29989c837666bece598f1"), looks := false }, kinds := [], alts := [], laidByText := true, laidKinds := [.data, .mappedDeep, .data], laidTests := true, laidLooks := .later }
def FramePlacesUptoCardSaid : Prop := Claim7.holds Tryz.pinned (.plain (OpenSpec.upto framePlacesSpec)) framePlacesUptoCard

/-- THE SECOND FORM's CARD OF 'monoclelaw14.FrameMoves'. -/
def frameMovesUptoCard : Claim7 := { stood := { row := frameMovesUptoRow, standIns := [], harness := (true, "fd1ef2a7bd2258c69a40e24e772bf79c8210adb13ff29989c837666bece598f1"), looks := false }, kinds := [], alts := [], laidByText := true, laidKinds := [.data, .mappedDeep, .data], laidTests := true, laidLooks := .later }
def FrameMovesUptoCardSaid : Prop := Claim7.holds Tryz.pinned (.plain (OpenSpec.upto frameMovesSpec)) frameMovesUptoCard

/-- THE SECOND FORM's CARD OF 'monoclelaw14.FrameTurns'. -/
def frameTurnsUptoCard : Claim7 := { stood := { row := frameTurnsUptoRow, standIns := [], harness := (true, "fd1ef2a7bd2258c69a40e24e772bf79c8210adb13ff29989c837666bece598f1"), looks := false }, kinds := [], alts := [], laidByText := true, laidKinds := [.data, .mappedDeep, .data], laidTests := true, laidLooks := .later }
def FrameTurnsUptoCardSaid : Prop := Claim7.holds Tryz.pinned (.plain (OpenSpec.upto frameTurnsSpec)) frameTurnsUptoCard

/-- THE SECOND FORM's CARD OF 'monoclelaw14.FrameTrue'. -/
def frameTrueUptoCard : Claim7 := { stood := { row := frameTrueUptoRow, standIns := [], harness := (true, "fd1ef2a7bd2258c69a40e24e772bf79c8210adb13ff29989c837666bece598f1"), looks := false }, kinds := [], alts := [], laidByText := true, laidKinds := [.data, .mappedDeep, .data], laidTests := true, laidLooks := .later }
def FrameTrueUptoCardSaid : Prop := Claim7.holds Tryz.pinned (.plain (OpenSpec.upto frameTrueSpec)) frameTrueUptoCard

/-- THE SECOND FORM's CARD OF 'monoclelaw14.FrameStraight'. -/
def frameStraightUptoCard : Claim7 := { stood := { row := frameStraightUptoRow, standIns := [], harness := (true, "fd1ef2a7bd2258c69a40e24e772bf79c8210adb13ff29989c837666bece598f1"), looks := false }, kinds := [], alts := [], laidByText := true, laidKinds := [.data, .mappedDeep, .data], laidTests := true, laidLooks := .later }
def FrameStraightUptoCardSaid : Prop := Claim7.holds Tryz.pinned (.plain (OpenSpec.upto frameStraightSpec)) frameStraightUptoCard

/-- THE SECOND FORM's CARD OF 'monoclelaw14.FrameBack'. -/
def frameBackUptoCard : Claim7 := { stood := { row := frameBackUptoRow, standIns := [], harness := (true, "fd1ef2a7bd2258c69a40e24e772bf79c8210adb13ff29989c837666bece598f1"), looks := false }, kinds := [], alts := [], laidByText := true, laidKinds := [.data, .mappedDeep, .data], laidTests := true, laidLooks := .later }
def FrameBackUptoCardSaid : Prop := Claim7.holds Tryz.pinned (.plain (OpenSpec.upto frameBackSpec)) frameBackUptoCard

/-- THE SECOND FORM's CARD OF 'monoclelaw14.FrameBegin'. -/
def frameBeginUptoCard : Claim7 := { stood := { row := frameBeginUptoRow, standIns := [], harness := (true, "fd1ef2a7bd2258c69a40e24e772bf79c8210adb13ff29989c837666bece598f1"), looks := false }, kinds := [], alts := [], laidByText := true, laidKinds := [.data, .mappedDeep, .data], laidTests := true, laidLooks := .later }
def FrameBeginUptoCardSaid : Prop := Claim7.holds Tryz.pinned (.plain (OpenSpec.upto frameBeginSpec)) frameBeginUptoCard

/-- THE SECOND FORM's CARD OF 'monoclelaw14.FrameUndo'. -/
def frameUndoUptoCard : Claim7 := { stood := { row := frameUndoUptoRow, standIns := [], harness := (true, "fd1ef2a7bd2258c69a40e24e772bf79c8210adb13ff29989c837666bece598f1"), looks := false }, kinds := [], alts := [], laidByText := true, laidKinds := [.data, .mappedDeep, .data], laidTests := true, laidLooks := .later }
def FrameUndoUptoCardSaid : Prop := Claim7.holds Tryz.pinned (.plain (OpenSpec.upto frameUndoSpec)) frameUndoUptoCard

/-- THE SECOND FORM's CARD OF 'monoclelaw14.FrameKnown'. -/
def frameKnownUptoCard : Claim7 := { stood := { row := frameKnownUptoRow, standIns := [], harness := (true, "fd1ef2a7bd2258c69a40e24e772bf79c8210adb13ff29989c837666bece598f1"), looks := false }, kinds := [], alts := [], laidByText := true, laidKinds := [.data, .mappedDeep, .data], laidTests := true, laidLooks := .later }
def FrameKnownUptoCardSaid : Prop := Claim7.holds Tryz.pinned (.plain (OpenSpec.upto frameKnownSpec)) frameKnownUptoCard
end Rows
end Go.Proofs.YtlbabiemgageaaaGreatDoor
