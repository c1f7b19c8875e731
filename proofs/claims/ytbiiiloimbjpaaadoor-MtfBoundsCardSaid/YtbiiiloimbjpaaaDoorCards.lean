/-
  DERIVED. GIVEN WITH THE SEED: THE CARDS: each row of YtbiiiloimbjpaaaDoorRows.lean that lists a variable, with what it lists TIED to the program's text (the seventh form; the later family's looks); each row that meets fmt, with fmt's text TOLD by the authors' own Lean function (tested against real Go, not proved from fmt's source: count such statements apart). THE CARD IS WHAT COUNTS. Prove the row's statement (the work); the ties are given (YtbiiiloimbjpaaaDoorTie.lean); close each card by the builder's one call (the guide's Derived/Test/ToyasCard.lean, 'card_holds'). Laid BY PROGRAM, IN A SANDBOX (cutbox-door.mjs). By AI agents, Wed Nov 11 2026. No macro, syntax, notation, axiom, sorry.
-/
import Derived.Test.YtbiiiloimbjpaaaDoorRows
import GoSem.ClaimSeven
namespace Go.Proofs.YtbiiiloimbjpaaaDoor
namespace Rows

/-- THE TIED CARD OF 'monoclelaw31.MtfBounds'. -/
def mtfBoundsCard : Claim7 := { stood := { row := mtfBoundsRow, standIns := [], harness := (true, "b41dfae6d5decf68d7e767a3ac351276760d135d04d778d98ecbb6880026f14f"), looks := true }, kinds := [], alts := [], laidByText := true, laidKinds := [.funcs, .data, .data], laidTests := true, laidLooks := .later }
def MtfBoundsCardSaid : Prop := Claim7.holds Tryd.pinned (.plain (OpenSpec.ofChange mtfBoundsSpec)) mtfBoundsCard

/-- THE TIED CARD OF 'monoclelaw31.MtfMoves'. -/
def mtfMovesCard : Claim7 := { stood := { row := mtfMovesRow, standIns := [], harness := (true, "b41dfae6d5decf68d7e767a3ac351276760d135d04d778d98ecbb6880026f14f"), looks := true }, kinds := [], alts := [], laidByText := true, laidKinds := [.funcs, .data, .data], laidTests := true, laidLooks := .later }
def MtfMovesCardSaid : Prop := Claim7.holds Tryd.pinned (.plain (OpenSpec.ofChange mtfMovesSpec)) mtfMovesCard

/-- THE TIED CARD OF 'monoclelaw31.MtfKnown'. -/
def mtfKnownCard : Claim7 := { stood := { row := mtfKnownRow, standIns := [], harness := (true, "b41dfae6d5decf68d7e767a3ac351276760d135d04d778d98ecbb6880026f14f"), looks := true }, kinds := [], alts := [], laidByText := true, laidKinds := [.funcs, .data, .data], laidTests := true, laidLooks := .later }
def MtfKnownCardSaid : Prop := Claim7.holds Tryd.pinned (.plain (OpenSpec.ofChange mtfKnownSpec)) mtfKnownCard

/-- THE SECOND FORM's CARD OF 'monoclelaw31.MtfBounds'. -/
def mtfBoundsUptoCard : Claim7 := { stood := { row := mtfBoundsUptoRow, standIns := [], harness := (true, "b41dfae6d5decf68d7e767a3ac351276760d135d04d778d98ecbb6880026f14f"), looks := true }, kinds := [], alts := [], laidByText := true, laidKinds := [.funcs, .data, .data], laidTests := true, laidLooks := .later }
def MtfBoundsUptoCardSaid : Prop := Claim7.holds Tryd.pinned (.plain (OpenSpec.upto mtfBoundsSpec)) mtfBoundsUptoCard

/-- THE SECOND FORM's CARD OF 'monoclelaw31.MtfMoves'. -/
def mtfMovesUptoCard : Claim7 := { stood := { row := mtfMovesUptoRow, standIns := [], harness := (true, "b41dfae6d5decf68d7e767a3ac351276760d135d04d778d98ecbb6880026f14f"), looks := true }, kinds := [], alts := [], laidByText := true, laidKinds := [.funcs, .data, .data], laidTests := true, laidLooks := .later }
def MtfMovesUptoCardSaid : Prop := Claim7.holds Tryd.pinned (.plain (OpenSpec.upto mtfMovesSpec)) mtfMovesUptoCard

/-- THE SECOND FORM's CARD OF 'monoclelaw31.MtfKnown'. -/
def mtfKnownUptoCard : Claim7 := { stood := { row := mtfKnownUptoRow, standIns := [], harness := (true, "b41dfae6d5decf68d7e767a3ac351276760d135d04d778d98ecbb6880026f14f"), looks := true }, kinds := [], alts := [], laidByText := true, laidKinds := [.funcs, .data, .data], laidTests := true, laidLooks := .later }
def MtfKnownUptoCardSaid : Prop := Claim7.holds Tryd.pinned (.plain (OpenSpec.upto mtfKnownSpec)) mtfKnownUptoCard
end Rows
end Go.Proofs.YtbiiiloimbjpaaaDoor
