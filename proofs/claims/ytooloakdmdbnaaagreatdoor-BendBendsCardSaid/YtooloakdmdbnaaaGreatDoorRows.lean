/-
  NARROWER THAN 'FOR EVERY INPUT', by the rows' own cells (each row's printed sentence says how): BendNormals: laid · BendBends: laid.
  DERIVED. THE GIVEN ROWS OF THIS SEAT. 2 by the template 'for every input the law returns true; each argument reads behind the call as it read before'; 0 by the template 'total and deterministic' (their statements: YtooloakdmdbnaaaGreatDoorTotals.lean).
  GIVEN WITH THE SEED: the statements are not yours to turn. If you find one false, say at which input.
  Laid BY PROGRAM, IN A SANDBOX (cutbox-rows.mjs): the forced cells as the released guide's own fill.sh prints them over the translation c677ba670c33ea7d… (all of the seat's roots in one cut). By AI agents, Wed Nov 11 2026. No macro, syntax, notation, axiom, sorry.
-/
import Derived.Test.YtooloakdmdbnaaaGreatDoorChecked
import GoSem.Claim
import GoSem.ClaimJoined
import GoSem.ClaimMapViews
import Derived.JoinedTies
import Derived.KernelRfl
namespace Go.Proofs.YtooloakdmdbnaaaGreatDoor
/- THE CELL 'sum', in the pinned program and in every row, IS THE sha256 OF THE DUMP (.gsa) THAT YtooloakdmdbnaaaGreatDoorProg.lean LOADS. Nothing in Lean hashes anything: it is a label: what it is worth is what the hold of that sum in a sandbox is worth. -/
noncomputable def Tryz.pinned : Pinned := { name := "ytooloakdmdbnaaagreatdoor", sum := "c677ba670c33ea7d3b71808b8e798ca36ed2208f41092510f95e24d546b03443", checked := Tryz.checked }
namespace Rows
def none {H : Type} : Left H := { results := [], args := [] }

/- WHAT THE LISTED PACKAGE-LEVEL VARIABLES READ AS WHEN THE CALL BEGINS. Each datum BY PROGRAM (the guide's laid-datum.mjs) off the statement by which the dump's own 'gosem.cut.vars' lays the variable. In a bare row this is a premise. The card (YtooloakdmdbnaaaGreatDoorCards.lean) ties it to the program's text. -/
def laid_monocle_monocleref11_bad {H : Type} : DataW H := .agg [.lit (.int .i64 1), .lit (.int .i64 0)]
def laid_monocle_surface_one {H : Type} : DataW H := .agg [.lit (.int .i64 4294967296), .lit (.int .i64 4294967296)]

/-- 'monoclelaw26.BendNormals': WHATEVER THE INPUT: true; the input reads as it did. -/
def bendNormalsSpec : ChangeSpec := { name := "bendNormals", fn := fun _ => fun
  | [d1, d2, d3, d4] => { results := [.lit (.bool true)], args := [d1, d2, d3, d4] }
  | _ => none }
def bendNormalsRow : OpenClaim := { program := "ytooloakdmdbnaaagreatdoor", sum := "c677ba670c33ea7d3b71808b8e798ca36ed2208f41092510f95e24d546b03443", func := "monocle/monoclelaw26.BendNormals", spec := "bendNormals", inPlace := ["math/bits.Add64"], unfollowed := true, recurses := true, named := ["monocle/surface.one", "math/bits.divideError", "math/bits.overflowError", "monocle/monocleref11.bad"], apart := false, laid := [("monocle/monocleref11.bad", laid_monocle_monocleref11_bad), ("monocle/surface.one", laid_monocle_surface_one)] }
def BendNormalsSaid : Prop := bendNormalsRow.holds Tryz.pinned (OpenSpec.ofChange bendNormalsSpec)

/-- ITS FALSE NEIGHBOUR: 'it returns false'. Refute it at one input. -/
def bendNormalsWrong : ChangeSpec := { name := "bendNormals", fn := fun _ => fun
  | [d1, d2, d3, d4] => { results := [.lit (.bool false)], args := [d1, d2, d3, d4] }
  | _ => none }
def BendNormalsWrongFalsely : Prop := bendNormalsRow.holds Tryz.pinned (OpenSpec.ofChange bendNormalsWrong)

/-- 'monoclelaw26.BendBends': WHATEVER THE INPUT: true; the input reads as it did. -/
def bendBendsSpec : ChangeSpec := { name := "bendBends", fn := fun _ => fun
  | [d1, d2, d3, d4, d5, d6] => { results := [.lit (.bool true)], args := [d1, d2, d3, d4, d5, d6] }
  | _ => none }
def bendBendsRow : OpenClaim := { program := "ytooloakdmdbnaaagreatdoor", sum := "c677ba670c33ea7d3b71808b8e798ca36ed2208f41092510f95e24d546b03443", func := "monocle/monoclelaw26.BendBends", spec := "bendBends", inPlace := ["math/bits.Add64"], unfollowed := true, recurses := true, named := ["monocle/surface.one", "math/bits.divideError", "math/bits.overflowError", "monocle/monocleref11.bad"], apart := false, laid := [("monocle/monocleref11.bad", laid_monocle_monocleref11_bad), ("monocle/surface.one", laid_monocle_surface_one)] }
def BendBendsSaid : Prop := bendBendsRow.holds Tryz.pinned (OpenSpec.ofChange bendBendsSpec)

/-- ITS FALSE NEIGHBOUR: 'it returns false'. Refute it at one input. -/
def bendBendsWrong : ChangeSpec := { name := "bendBends", fn := fun _ => fun
  | [d1, d2, d3, d4, d5, d6] => { results := [.lit (.bool false)], args := [d1, d2, d3, d4, d5, d6] }
  | _ => none }
def BendBendsWrongFalsely : Prop := bendBendsRow.holds Tryz.pinned (OpenSpec.ofChange bendBendsWrong)

/- THE SECOND FORM. 'bulk': how many values and letters a reading holds, each counted each time it is reached (what is shared counts as often as it is met; a slice's spare places count too). A statement '..UptoSaid' is the law's where the arguments, and the package variables that the reading takes, are together of bulk at most 1048576: NARROWER than '..Said'. Prove '..Said' where nothing that the law and all that it calls make is longer than what came in: it says more and counts as full. Else prove '..UptoSaid'. A law counts once. -/
mutual
def uptoBulk {H : Type} : DataW H → Nat
  | .lit (.string bytes) => bytes.length + 1
  | .lit _ => 1
  | .nil => 1
  | .ptr d => uptoBulk d + 1
  | .slice elems spare => uptoBulkAll elems + uptoBulkAll spare + 1
  | .agg parts => uptoBulkAll parts + 1
  | .iface _ d => uptoBulk d + 1
  | .map entries => uptoBulkEntries entries + 1
  | .held _ => 1
def uptoBulkAll {H : Type} : List (DataW H) → Nat
  | [] => 0
  | d :: r => uptoBulk d + uptoBulkAll r
def uptoBulkEntries {H : Type} : List (Lit × DataW H) → Nat
  | [] => 0
  | x :: r => uptoBulkEntry x + uptoBulkEntries r
def uptoBulkEntry {H : Type} : Lit × DataW H → Nat
  | (.string bytes, d) => bytes.length + uptoBulk d + 1
  | (_, d) => uptoBulk d + 1
 end
def uptoSmall : (H : Type) → List (DataW H) → Bool := fun _ ds => decide (uptoBulkAll ds ≤ 1048576)
def OpenSpec.upto (s : _root_.Go.ChangeSpec) : _root_.Go.OpenSpec := { _root_.Go.OpenSpec.ofChange s with cond := some uptoSmall }

/-- 'monoclelaw26.BendNormals', WHERE WHAT IT READS IS OF BULK AT MOST 1048576: true; the input reads as it did. -/
def bendNormalsUptoRow : OpenClaim := { program := "ytooloakdmdbnaaagreatdoor", sum := "c677ba670c33ea7d3b71808b8e798ca36ed2208f41092510f95e24d546b03443", func := "monocle/monoclelaw26.BendNormals", spec := "bendNormals", inPlace := ["math/bits.Add64"], unfollowed := true, recurses := true, named := ["monocle/surface.one", "math/bits.divideError", "math/bits.overflowError", "monocle/monocleref11.bad"], apart := false, laid := [("monocle/monocleref11.bad", laid_monocle_monocleref11_bad), ("monocle/surface.one", laid_monocle_surface_one)], narrowed := true }
def BendNormalsUptoSaid : Prop := bendNormalsUptoRow.holds Tryz.pinned (OpenSpec.upto bendNormalsSpec)

/-- 'monoclelaw26.BendBends', WHERE WHAT IT READS IS OF BULK AT MOST 1048576: true; the input reads as it did. -/
def bendBendsUptoRow : OpenClaim := { program := "ytooloakdmdbnaaagreatdoor", sum := "c677ba670c33ea7d3b71808b8e798ca36ed2208f41092510f95e24d546b03443", func := "monocle/monoclelaw26.BendBends", spec := "bendBends", inPlace := ["math/bits.Add64"], unfollowed := true, recurses := true, named := ["monocle/surface.one", "math/bits.divideError", "math/bits.overflowError", "monocle/monocleref11.bad"], apart := false, laid := [("monocle/monocleref11.bad", laid_monocle_monocleref11_bad), ("monocle/surface.one", laid_monocle_surface_one)], narrowed := true }
def BendBendsUptoSaid : Prop := bendBendsUptoRow.holds Tryz.pinned (OpenSpec.upto bendBendsSpec)

end Rows
end Go.Proofs.YtooloakdmdbnaaaGreatDoor
