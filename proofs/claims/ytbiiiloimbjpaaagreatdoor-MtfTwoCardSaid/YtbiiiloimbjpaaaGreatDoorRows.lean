/-
  NARROWER THAN 'FOR EVERY INPUT', by the rows' own cells (each row's printed sentence says how): MtfModulates: laid · MtfCurves: laid · MtfTwo: laid.
  DERIVED. THE GIVEN ROWS OF THIS SEAT. 3 by the template 'for every input the law returns true; each argument reads behind the call as it read before'; 0 by the template 'total and deterministic' (their statements: YtbiiiloimbjpaaaGreatDoorTotals.lean).
  GIVEN WITH THE SEED: the statements are not yours to turn. If you find one false, say at which input.
  Laid BY PROGRAM, IN A SANDBOX (cutbox-rows.mjs): the forced cells as the released guide's own fill.sh prints them over the translation 9bee3aa9daee63e6… (all of the seat's roots in one cut). By AI agents, Wed Nov 11 2026. No macro, syntax, notation, axiom, sorry.
-/
import Derived.Test.YtbiiiloimbjpaaaGreatDoorChecked
import GoSem.Claim
import GoSem.ClaimJoined
import GoSem.ClaimMapViews
import Derived.JoinedTies
import Derived.KernelRfl
namespace Go.Proofs.YtbiiiloimbjpaaaGreatDoor
/- THE CELL 'sum', in the pinned program and in every row, IS THE sha256 OF THE DUMP (.gsa) THAT YtbiiiloimbjpaaaGreatDoorProg.lean LOADS. Nothing in Lean hashes anything: it is a label: what it is worth is what the hold of that sum in a sandbox is worth. -/
noncomputable def Tryz.pinned : Pinned := { name := "ytbiiiloimbjpaaagreatdoor", sum := "9bee3aa9daee63e609e6f9ac7bfa80bd0e7407d4624996e13a4bc6c4280fb34c", checked := Tryz.checked }
namespace Rows
def none {H : Type} : Left H := { results := [], args := [] }

/- WHAT THE LISTED PACKAGE-LEVEL VARIABLES READ AS WHEN THE CALL BEGINS. Each datum BY PROGRAM (the guide's laid-datum.mjs) off the statement by which the dump's own 'gosem.cut.vars' lays the variable. In a bare row this is a premise. The card (YtbiiiloimbjpaaaGreatDoorCards.lean) ties it to the program's text. -/
def laid_monocle_mtf_sides {H : Type} : DataW H := .iface "func table" (.map [(.bool false, .iface "func" (.lit (.string [109, 111, 110, 111, 99, 108, 101, 47, 109, 116, 102, 46, 115, 105, 100, 101, 115, 36, 50]))), (.bool true, .iface "func" (.lit (.string [109, 111, 110, 111, 99, 108, 101, 47, 109, 116, 102, 46, 115, 105, 100, 101, 115, 36, 49])))])
def laid_monocle_monoclelaw31_one {H : Type} : DataW H := .agg [.lit (.int .i64 4294967296), .lit (.int .i64 4294967296)]
def laid_monocle_monoclelaw31_nought {H : Type} : DataW H := .agg [.lit (.int .i64 0), .lit (.int .i64 0)]

/-- 'monoclelaw31.MtfModulates': WHATEVER THE INPUT: true; the input reads as it did. -/
def mtfModulatesSpec : ChangeSpec := { name := "mtfModulates", fn := fun _ => fun
  | [d1, d2, d3, d4, d5, d6] => { results := [.lit (.bool true)], args := [d1, d2, d3, d4, d5, d6] }
  | _ => none }
def mtfModulatesRow : OpenClaim := { program := "ytbiiiloimbjpaaagreatdoor", sum := "9bee3aa9daee63e609e6f9ac7bfa80bd0e7407d4624996e13a4bc6c4280fb34c", func := "monocle/monoclelaw31.MtfModulates", spec := "mtfModulates", inPlace := ["math/bits.Add64"], unfollowed := true, recurses := true, named := ["math/bits.divideError", "math/bits.overflowError", "monocle/mtf.sides", "monocle/monoclelaw31.one", "monocle/monoclelaw31.nought"], apart := false, laid := [("monocle/mtf.sides", laid_monocle_mtf_sides), ("monocle/monoclelaw31.one", laid_monocle_monoclelaw31_one), ("monocle/monoclelaw31.nought", laid_monocle_monoclelaw31_nought)] }
def MtfModulatesSaid : Prop := mtfModulatesRow.holds Tryz.pinned (OpenSpec.ofChange mtfModulatesSpec)

/-- ITS FALSE NEIGHBOUR: 'it returns false'. Refute it at one input. -/
def mtfModulatesWrong : ChangeSpec := { name := "mtfModulates", fn := fun _ => fun
  | [d1, d2, d3, d4, d5, d6] => { results := [.lit (.bool false)], args := [d1, d2, d3, d4, d5, d6] }
  | _ => none }
def MtfModulatesWrongFalsely : Prop := mtfModulatesRow.holds Tryz.pinned (OpenSpec.ofChange mtfModulatesWrong)

/-- 'monoclelaw31.MtfCurves': WHATEVER THE INPUT: true; the input reads as it did. -/
def mtfCurvesSpec : ChangeSpec := { name := "mtfCurves", fn := fun _ => fun
  | [d1, d2, d3, d4, d5, d6] => { results := [.lit (.bool true)], args := [d1, d2, d3, d4, d5, d6] }
  | _ => none }
def mtfCurvesRow : OpenClaim := { program := "ytbiiiloimbjpaaagreatdoor", sum := "9bee3aa9daee63e609e6f9ac7bfa80bd0e7407d4624996e13a4bc6c4280fb34c", func := "monocle/monoclelaw31.MtfCurves", spec := "mtfCurves", inPlace := ["math/bits.Add64"], unfollowed := true, recurses := true, named := ["math/bits.divideError", "math/bits.overflowError", "monocle/mtf.sides", "monocle/monoclelaw31.one", "monocle/monoclelaw31.nought"], apart := false, laid := [("monocle/mtf.sides", laid_monocle_mtf_sides), ("monocle/monoclelaw31.one", laid_monocle_monoclelaw31_one), ("monocle/monoclelaw31.nought", laid_monocle_monoclelaw31_nought)] }
def MtfCurvesSaid : Prop := mtfCurvesRow.holds Tryz.pinned (OpenSpec.ofChange mtfCurvesSpec)

/-- ITS FALSE NEIGHBOUR: 'it returns false'. Refute it at one input. -/
def mtfCurvesWrong : ChangeSpec := { name := "mtfCurves", fn := fun _ => fun
  | [d1, d2, d3, d4, d5, d6] => { results := [.lit (.bool false)], args := [d1, d2, d3, d4, d5, d6] }
  | _ => none }
def MtfCurvesWrongFalsely : Prop := mtfCurvesRow.holds Tryz.pinned (OpenSpec.ofChange mtfCurvesWrong)

/-- 'monoclelaw31.MtfTwo': WHATEVER THE INPUT: true; the input reads as it did. -/
def mtfTwoSpec : ChangeSpec := { name := "mtfTwo", fn := fun _ => fun
  | [d1, d2] => { results := [.lit (.bool true)], args := [d1, d2] }
  | _ => none }
def mtfTwoRow : OpenClaim := { program := "ytbiiiloimbjpaaagreatdoor", sum := "9bee3aa9daee63e609e6f9ac7bfa80bd0e7407d4624996e13a4bc6c4280fb34c", func := "monocle/monoclelaw31.MtfTwo", spec := "mtfTwo", inPlace := ["math/bits.Add64"], unfollowed := true, recurses := true, named := ["monocle/monoclelaw31.one", "monocle/monoclelaw31.nought", "math/bits.divideError", "math/bits.overflowError", "monocle/mtf.sides"], apart := false, laid := [("monocle/mtf.sides", laid_monocle_mtf_sides), ("monocle/monoclelaw31.one", laid_monocle_monoclelaw31_one), ("monocle/monoclelaw31.nought", laid_monocle_monoclelaw31_nought)] }
def MtfTwoSaid : Prop := mtfTwoRow.holds Tryz.pinned (OpenSpec.ofChange mtfTwoSpec)

/-- ITS FALSE NEIGHBOUR: 'it returns false'. Refute it at one input. -/
def mtfTwoWrong : ChangeSpec := { name := "mtfTwo", fn := fun _ => fun
  | [d1, d2] => { results := [.lit (.bool false)], args := [d1, d2] }
  | _ => none }
def MtfTwoWrongFalsely : Prop := mtfTwoRow.holds Tryz.pinned (OpenSpec.ofChange mtfTwoWrong)

/- THE SECOND FORM. 'bulk': how many values and letters a reading holds, each counted each time it is reached (what is shared counts as often as it is met; a slice's spare places count too). A statement '..UptoSaid' is the law's where the arguments, and the package variables that the reading takes, are together of bulk at most 1048576: NARROWER than '..Said'. Prove '..Said' where nothing that the law and all that it calls make is longer than what came in: it says more and counts as full. Else prove '..UptoSaid'. A law counts once. -/
mutual
def uptoBulk {H : Type} : DataW H → Nat
  | .lit (.string bytes) => bytes.length + 1
  | .lit _ => 1
  | .nil => 1
  | .ptr d => uptoBulk d + 1
  | .slice elems spare => uptoBulkAll elems + uptoBulkAll spare + 1
  | .agg parts => uptoBulkAll parts + 1
  | .iface _ d => uptoBulk d + 1
  | .map entries => uptoBulkEntries entries + 1
  | .held _ => 1
def uptoBulkAll {H : Type} : List (DataW H) → Nat
  | [] => 0
  | d :: r => uptoBulk d + uptoBulkAll r
def uptoBulkEntries {H : Type} : List (Lit × DataW H) → Nat
  | [] => 0
  | x :: r => uptoBulkEntry x + uptoBulkEntries r
def uptoBulkEntry {H : Type} : Lit × DataW H → Nat
  | (.string bytes, d) => bytes.length + uptoBulk d + 1
  | (_, d) => uptoBulk d + 1
 end
def uptoSmall : (H : Type) → List (DataW H) → Bool := fun _ ds => decide (uptoBulkAll ds ≤ 1048576)
def OpenSpec.upto (s : _root_.Go.ChangeSpec) : _root_.Go.OpenSpec := { _root_.Go.OpenSpec.ofChange s with cond := some uptoSmall }

/-- 'monoclelaw31.MtfModulates', WHERE WHAT IT READS IS OF BULK AT MOST 1048576: true; the input reads as it did. -/
def mtfModulatesUptoRow : OpenClaim := { program := "ytbiiiloimbjpaaagreatdoor", sum := "9bee3aa9daee63e609e6f9ac7bfa80bd0e7407d4624996e13a4bc6c4280fb34c", func := "monocle/monoclelaw31.MtfModulates", spec := "mtfModulates", inPlace := ["math/bits.Add64"], unfollowed := true, recurses := true, named := ["math/bits.divideError", "math/bits.overflowError", "monocle/mtf.sides", "monocle/monoclelaw31.one", "monocle/monoclelaw31.nought"], apart := false, laid := [("monocle/mtf.sides", laid_monocle_mtf_sides), ("monocle/monoclelaw31.one", laid_monocle_monoclelaw31_one), ("monocle/monoclelaw31.nought", laid_monocle_monoclelaw31_nought)], narrowed := true }
def MtfModulatesUptoSaid : Prop := mtfModulatesUptoRow.holds Tryz.pinned (OpenSpec.upto mtfModulatesSpec)

/-- 'monoclelaw31.MtfCurves', WHERE WHAT IT READS IS OF BULK AT MOST 1048576: true; the input reads as it did. -/
def mtfCurvesUptoRow : OpenClaim := { program := "ytbiiiloimbjpaaagreatdoor", sum := "9bee3aa9daee63e609e6f9ac7bfa80bd0e7407d4624996e13a4bc6c4280fb34c", func := "monocle/monoclelaw31.MtfCurves", spec := "mtfCurves", inPlace := ["math/bits.Add64"], unfollowed := true, recurses := true, named := ["math/bits.divideError", "math/bits.overflowError", "monocle/mtf.sides", "monocle/monoclelaw31.one", "monocle/monoclelaw31.nought"], apart := false, laid := [("monocle/mtf.sides", laid_monocle_mtf_sides), ("monocle/monoclelaw31.one", laid_monocle_monoclelaw31_one), ("monocle/monoclelaw31.nought", laid_monocle_monoclelaw31_nought)], narrowed := true }
def MtfCurvesUptoSaid : Prop := mtfCurvesUptoRow.holds Tryz.pinned (OpenSpec.upto mtfCurvesSpec)

/-- 'monoclelaw31.MtfTwo', WHERE WHAT IT READS IS OF BULK AT MOST 1048576: true; the input reads as it did. -/
def mtfTwoUptoRow : OpenClaim := { program := "ytbiiiloimbjpaaagreatdoor", sum := "9bee3aa9daee63e609e6f9ac7bfa80bd0e7407d4624996e13a4bc6c4280fb34c", func := "monocle/monoclelaw31.MtfTwo", spec := "mtfTwo", inPlace := ["math/bits.Add64"], unfollowed := true, recurses := true, named := ["monocle/monoclelaw31.one", "monocle/monoclelaw31.nought", "math/bits.divideError", "math/bits.overflowError", "monocle/mtf.sides"], apart := false, laid := [("monocle/mtf.sides", laid_monocle_mtf_sides), ("monocle/monoclelaw31.one", laid_monocle_monoclelaw31_one), ("monocle/monoclelaw31.nought", laid_monocle_monoclelaw31_nought)], narrowed := true }
def MtfTwoUptoSaid : Prop := mtfTwoUptoRow.holds Tryz.pinned (OpenSpec.upto mtfTwoSpec)

end Rows
end Go.Proofs.YtbiiiloimbjpaaaGreatDoor
