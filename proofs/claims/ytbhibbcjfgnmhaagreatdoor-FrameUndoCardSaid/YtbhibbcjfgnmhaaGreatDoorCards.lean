/-
  DERIVED. GIVEN WITH THE SEED: THE CARDS: each row of YtbhibbcjfgnmhaaGreatDoorRows.lean that lists a variable, with what it lists TIED to the program's text (the seventh form; the later family's looks); each row that meets fmt, with fmt's text TOLD by the authors' own Lean function (tested against real Go, not proved from fmt's source: count such statements apart). THE CARD IS WHAT COUNTS. Prove the row's statement (the work); the ties are given (YtbhibbcjfgnmhaaGreatDoorTie.lean); close each card by the builder's one call (the guide's Derived/Test/ToyasCard.lean, 'card_holds'). Laid BY PROGRAM, IN A SANDBOX (cutbox-door.mjs). By AI agents, Wed Nov 11 2026. No macro, syntax, notation, axiom, sorry.
-/
import Derived.Test.YtbhibbcjfgnmhaaGreatDoorRows
import GoSem.ClaimSeven
namespace Go.Proofs.YtbhibbcjfgnmhaaGreatDoor
namespace Rows

/-- THE TIED CARD OF 'monoclelaw14.FrameUndo'. -/
def frameUndoCard : Claim7 := { stood := { row := frameUndoRow, standIns := [], harness := (true, "b608695479a966f4a6cfac9bcd92ab976d14f1850c6b26633a8a446f31ac8d89"), looks := false }, kinds := [], alts := [], laidByText := true, laidKinds := [.data, .mappedDeep, .data], laidTests := true, laidLooks := .later }
def FrameUndoCardSaid : Prop := Claim7.holds Tryz.pinned (.plain (OpenSpec.ofChange frameUndoSpec)) frameUndoCard

/-- THE SECOND FORM's CARD OF 'monoclelaw14.FrameUndo'. -/
def frameUndoUptoCard : Claim7 := { stood := { row := frameUndoUptoRow, standIns := [], harness := (true, "b608695479a966f4a6cfac9bcd92ab976d14f1850c6b26633a8a446f31ac8d89"), looks := false }, kinds := [], alts := [], laidByText := true, laidKinds := [.data, .mappedDeep, .data], laidTests := true, laidLooks := .later }
def FrameUndoUptoCardSaid : Prop := Claim7.holds Tryz.pinned (.plain (OpenSpec.upto frameUndoSpec)) frameUndoUptoCard
end Rows
end Go.Proofs.YtbhibbcjfgnmhaaGreatDoor
