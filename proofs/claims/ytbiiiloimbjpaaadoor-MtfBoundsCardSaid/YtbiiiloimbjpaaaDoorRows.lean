/-
  NARROWER THAN 'FOR EVERY INPUT', by the rows' own cells (each row's printed sentence says how): MtfBounds: laid · MtfMoves: laid · MtfKnown: laid.
  DERIVED. THE GIVEN ROWS OF THIS SEAT. 3 by the template 'for every input the law returns true; each argument reads behind the call as it read before'; 0 by the template 'total and deterministic' (their statements: YtbiiiloimbjpaaaDoorTotals.lean).
  GIVEN WITH THE SEED: the statements are not yours to turn. If you find one false, say at which input.
  Laid BY PROGRAM, IN A SANDBOX (cutbox-rows.mjs): the forced cells as the released guide's own fill.sh prints them over the translation 613479d9ace241cf… (all of the seat's roots in one cut). By AI agents, Wed Nov 11 2026. No macro, syntax, notation, axiom, sorry.
-/
import Derived.Test.YtbiiiloimbjpaaaDoorChecked
import GoSem.Claim
import GoSem.ClaimJoined
import GoSem.ClaimMapViews
import Derived.JoinedTies
import Derived.KernelRfl
namespace Go.Proofs.YtbiiiloimbjpaaaDoor
/- THE CELL 'sum', in the pinned program and in every row, IS THE sha256 OF THE DUMP (.gsa) THAT YtbiiiloimbjpaaaDoorProg.lean LOADS. Nothing in Lean hashes anything: it is a label: what it is worth is what the hold of that sum in a sandbox is worth. -/
noncomputable def Tryd.pinned : Pinned := { name := "ytbiiiloimbjpaaadoor", sum := "613479d9ace241cfcac66625606eb6c7ec50bbecec2bff5a5cbd80661d95876a", checked := Tryd.checked }
namespace Rows
def none {H : Type} : Left H := { results := [], args := [] }

/- WHAT THE LISTED PACKAGE-LEVEL VARIABLES READ AS WHEN THE CALL BEGINS. Each datum BY PROGRAM (the guide's laid-datum.mjs) off the statement by which the dump's own 'gosem.cut.vars' lays the variable. In a bare row this is a premise. The card (YtbiiiloimbjpaaaDoorCards.lean) ties it to the program's text. -/
def laid_monocle_mtf_sides {H : Type} : DataW H := .iface "func table" (.map [(.bool false, .iface "func" (.lit (.string [109, 111, 110, 111, 99, 108, 101, 47, 109, 116, 102, 46, 115, 105, 100, 101, 115, 36, 50]))), (.bool true, .iface "func" (.lit (.string [109, 111, 110, 111, 99, 108, 101, 47, 109, 116, 102, 46, 115, 105, 100, 101, 115, 36, 49])))])
def laid_monocle_monoclelaw31_one {H : Type} : DataW H := .agg [.lit (.int .i64 4294967296), .lit (.int .i64 4294967296)]
def laid_monocle_monoclelaw31_nought {H : Type} : DataW H := .agg [.lit (.int .i64 0), .lit (.int .i64 0)]

/-- 'monoclelaw31.MtfBounds': WHATEVER THE INPUT: true; the input reads as it did. -/
def mtfBoundsSpec : ChangeSpec := { name := "mtfBounds", fn := fun _ => fun
  | [d1, d2, d3] => { results := [.lit (.bool true)], args := [d1, d2, d3] }
  | _ => none }
def mtfBoundsRow : OpenClaim := { program := "ytbiiiloimbjpaaadoor", sum := "613479d9ace241cfcac66625606eb6c7ec50bbecec2bff5a5cbd80661d95876a", func := "monocle/monoclelaw31.MtfBounds", spec := "mtfBounds", inPlace := ["math/bits.Add64"], unfollowed := true, recurses := true, named := ["monocle/monoclelaw31.one", "monocle/monoclelaw31.nought", "math/bits.divideError", "math/bits.overflowError", "monocle/mtf.sides"], apart := false, laid := [("monocle/mtf.sides", laid_monocle_mtf_sides), ("monocle/monoclelaw31.one", laid_monocle_monoclelaw31_one), ("monocle/monoclelaw31.nought", laid_monocle_monoclelaw31_nought)] }
def MtfBoundsSaid : Prop := mtfBoundsRow.holds Tryd.pinned (OpenSpec.ofChange mtfBoundsSpec)

/-- ITS FALSE NEIGHBOUR: 'it returns false'. Refute it at one input. -/
def mtfBoundsWrong : ChangeSpec := { name := "mtfBounds", fn := fun _ => fun
  | [d1, d2, d3] => { results := [.lit (.bool false)], args := [d1, d2, d3] }
  | _ => none }
def MtfBoundsWrongFalsely : Prop := mtfBoundsRow.holds Tryd.pinned (OpenSpec.ofChange mtfBoundsWrong)

/-- 'monoclelaw31.MtfMoves': WHATEVER THE INPUT: true; the input reads as it did. -/
def mtfMovesSpec : ChangeSpec := { name := "mtfMoves", fn := fun _ => fun
  | [d1, d2, d3, d4] => { results := [.lit (.bool true)], args := [d1, d2, d3, d4] }
  | _ => none }
def mtfMovesRow : OpenClaim := { program := "ytbiiiloimbjpaaadoor", sum := "613479d9ace241cfcac66625606eb6c7ec50bbecec2bff5a5cbd80661d95876a", func := "monocle/monoclelaw31.MtfMoves", spec := "mtfMoves", inPlace := ["math/bits.Add64"], unfollowed := true, recurses := true, named := ["monocle/monoclelaw31.one", "monocle/monoclelaw31.nought", "math/bits.divideError", "math/bits.overflowError", "monocle/mtf.sides"], apart := false, laid := [("monocle/mtf.sides", laid_monocle_mtf_sides), ("monocle/monoclelaw31.one", laid_monocle_monoclelaw31_one), ("monocle/monoclelaw31.nought", laid_monocle_monoclelaw31_nought)] }
def MtfMovesSaid : Prop := mtfMovesRow.holds Tryd.pinned (OpenSpec.ofChange mtfMovesSpec)

/-- ITS FALSE NEIGHBOUR: 'it returns false'. Refute it at one input. -/
def mtfMovesWrong : ChangeSpec := { name := "mtfMoves", fn := fun _ => fun
  | [d1, d2, d3, d4] => { results := [.lit (.bool false)], args := [d1, d2, d3, d4] }
  | _ => none }
def MtfMovesWrongFalsely : Prop := mtfMovesRow.holds Tryd.pinned (OpenSpec.ofChange mtfMovesWrong)

/-- 'monoclelaw31.MtfKnown': WHATEVER THE INPUT: true; the input reads as it did. -/
def mtfKnownSpec : ChangeSpec := { name := "mtfKnown", fn := fun _ => fun
  | [] => { results := [.lit (.bool true)], args := [] }
  | _ => none }
def mtfKnownRow : OpenClaim := { program := "ytbiiiloimbjpaaadoor", sum := "613479d9ace241cfcac66625606eb6c7ec50bbecec2bff5a5cbd80661d95876a", func := "monocle/monoclelaw31.MtfKnown", spec := "mtfKnown", inPlace := ["math/bits.Add64"], unfollowed := true, recurses := true, named := ["monocle/monoclelaw31.nought", "monocle/monoclelaw31.one", "math/bits.divideError", "math/bits.overflowError", "monocle/mtf.sides"], apart := false, laid := [("monocle/mtf.sides", laid_monocle_mtf_sides), ("monocle/monoclelaw31.one", laid_monocle_monoclelaw31_one), ("monocle/monoclelaw31.nought", laid_monocle_monoclelaw31_nought)] }
def MtfKnownSaid : Prop := mtfKnownRow.holds Tryd.pinned (OpenSpec.ofChange mtfKnownSpec)

/-- ITS FALSE NEIGHBOUR: 'it returns false'. Refute it at one input. -/
def mtfKnownWrong : ChangeSpec := { name := "mtfKnown", fn := fun _ => fun
  | [] => { results := [.lit (.bool false)], args := [] }
  | _ => none }
def MtfKnownWrongFalsely : Prop := mtfKnownRow.holds Tryd.pinned (OpenSpec.ofChange mtfKnownWrong)

/- THE SECOND FORM. 'bulk': how many values and letters a reading holds, each counted each time it is reached (what is shared counts as often as it is met; a slice's spare places count too). A statement '..UptoSaid' is the law's where the arguments, and the package variables that the reading takes, are together of bulk at most 1048576: NARROWER than '..Said'. Prove '..Said' where nothing that the law and all that it calls make is longer than what came in: it says more and counts as full. Else prove '..UptoSaid'. A law counts once. -/
mutual
def uptoBulk {H : Type} : DataW H → Nat
  | .lit (.string bytes) => bytes.length + 1
  | .lit _ => 1
  | .nil => 1
  | .ptr d => uptoBulk d + 1
  | .slice elems spare => uptoBulkAll elems + uptoBulkAll spare + 1
  | .agg parts => uptoBulkAll parts + 1
  | .iface _ d => uptoBulk d + 1
  | .map entries => uptoBulkEntries entries + 1
  | .held _ => 1
def uptoBulkAll {H : Type} : List (DataW H) → Nat
  | [] => 0
  | d :: r => uptoBulk d + uptoBulkAll r
def uptoBulkEntries {H : Type} : List (Lit × DataW H) → Nat
  | [] => 0
  | x :: r => uptoBulkEntry x + uptoBulkEntries r
def uptoBulkEntry {H : Type} : Lit × DataW H → Nat
  | (.string bytes, d) => bytes.length + uptoBulk d + 1
  | (_, d) => uptoBulk d + 1
 end
def uptoSmall : (H : Type) → List (DataW H) → Bool := fun _ ds => decide (uptoBulkAll ds ≤ 1048576)
def OpenSpec.upto (s : _root_.Go.ChangeSpec) : _root_.Go.OpenSpec := { _root_.Go.OpenSpec.ofChange s with cond := some uptoSmall }

/-- 'monoclelaw31.MtfBounds', WHERE WHAT IT READS IS OF BULK AT MOST 1048576: true; the input reads as it did. -/
def mtfBoundsUptoRow : OpenClaim := { program := "ytbiiiloimbjpaaadoor", sum := "613479d9ace241cfcac66625606eb6c7ec50bbecec2bff5a5cbd80661d95876a", func := "monocle/monoclelaw31.MtfBounds", spec := "mtfBounds", inPlace := ["math/bits.Add64"], unfollowed := true, recurses := true, named := ["monocle/monoclelaw31.one", "monocle/monoclelaw31.nought", "math/bits.divideError", "math/bits.overflowError", "monocle/mtf.sides"], apart := false, laid := [("monocle/mtf.sides", laid_monocle_mtf_sides), ("monocle/monoclelaw31.one", laid_monocle_monoclelaw31_one), ("monocle/monoclelaw31.nought", laid_monocle_monoclelaw31_nought)], narrowed := true }
def MtfBoundsUptoSaid : Prop := mtfBoundsUptoRow.holds Tryd.pinned (OpenSpec.upto mtfBoundsSpec)

/-- 'monoclelaw31.MtfMoves', WHERE WHAT IT READS IS OF BULK AT MOST 1048576: true; the input reads as it did. -/
def mtfMovesUptoRow : OpenClaim := { program := "ytbiiiloimbjpaaadoor", sum := "613479d9ace241cfcac66625606eb6c7ec50bbecec2bff5a5cbd80661d95876a", func := "monocle/monoclelaw31.MtfMoves", spec := "mtfMoves", inPlace := ["math/bits.Add64"], unfollowed := true, recurses := true, named := ["monocle/monoclelaw31.one", "monocle/monoclelaw31.nought", "math/bits.divideError", "math/bits.overflowError", "monocle/mtf.sides"], apart := false, laid := [("monocle/mtf.sides", laid_monocle_mtf_sides), ("monocle/monoclelaw31.one", laid_monocle_monoclelaw31_one), ("monocle/monoclelaw31.nought", laid_monocle_monoclelaw31_nought)], narrowed := true }
def MtfMovesUptoSaid : Prop := mtfMovesUptoRow.holds Tryd.pinned (OpenSpec.upto mtfMovesSpec)

/-- 'monoclelaw31.MtfKnown', WHERE WHAT IT READS IS OF BULK AT MOST 1048576: true; the input reads as it did. -/
def mtfKnownUptoRow : OpenClaim := { program := "ytbiiiloimbjpaaadoor", sum := "613479d9ace241cfcac66625606eb6c7ec50bbecec2bff5a5cbd80661d95876a", func := "monocle/monoclelaw31.MtfKnown", spec := "mtfKnown", inPlace := ["math/bits.Add64"], unfollowed := true, recurses := true, named := ["monocle/monoclelaw31.nought", "monocle/monoclelaw31.one", "math/bits.divideError", "math/bits.overflowError", "monocle/mtf.sides"], apart := false, laid := [("monocle/mtf.sides", laid_monocle_mtf_sides), ("monocle/monoclelaw31.one", laid_monocle_monoclelaw31_one), ("monocle/monoclelaw31.nought", laid_monocle_monoclelaw31_nought)], narrowed := true }
def MtfKnownUptoSaid : Prop := mtfKnownUptoRow.holds Tryd.pinned (OpenSpec.upto mtfKnownSpec)

end Rows
end Go.Proofs.YtbiiiloimbjpaaaDoor
