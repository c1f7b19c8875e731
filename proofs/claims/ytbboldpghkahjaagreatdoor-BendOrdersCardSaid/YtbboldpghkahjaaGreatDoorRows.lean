/-
  NARROWER THAN 'FOR EVERY INPUT', by the rows' own cells (each row's printed sentence says how): BendSnell: laid · BendBack: laid · BendKeeps: laid · BendOrders: laid.
  DERIVED. THE GIVEN ROWS OF THIS SEAT. 4 by the template 'for every input the law returns true; each argument reads behind the call as it read before'; 0 by the template 'total and deterministic' (their statements: YtbboldpghkahjaaGreatDoorTotals.lean).
  GIVEN WITH THE SEED: the statements are not yours to turn. If you find one false, say at which input.
  Laid BY PROGRAM, IN A SANDBOX (cutbox-rows.mjs): the forced cells as the released guide's own fill.sh prints them over the translation ddef1cabd4bae2b9… (all of the seat's roots in one cut). By AI agents, Wed Nov 11 2026. No macro, syntax, notation, axiom, sorry.
-/
import Derived.Test.YtbboldpghkahjaaGreatDoorChecked
import GoSem.Claim
import GoSem.ClaimJoined
import GoSem.ClaimMapViews
import Derived.JoinedTies
import Derived.KernelRfl
namespace Go.Proofs.YtbboldpghkahjaaGreatDoor
/- THE CELL 'sum', in the pinned program and in every row, IS THE sha256 OF THE DUMP (.gsa) THAT YtbboldpghkahjaaGreatDoorProg.lean LOADS. Nothing in Lean hashes anything: it is a label: what it is worth is what the hold of that sum in a sandbox is worth. -/
noncomputable def Tryz.pinned : Pinned := { name := "ytbboldpghkahjaagreatdoor", sum := "ddef1cabd4bae2b91dd1907090d26810e48bac049a01f64cb3ef3219bb30d7af", checked := Tryz.checked }
namespace Rows
def none {H : Type} : Left H := { results := [], args := [] }

/- WHAT THE LISTED PACKAGE-LEVEL VARIABLES READ AS WHEN THE CALL BEGINS. Each datum BY PROGRAM (the guide's laid-datum.mjs) off the statement by which the dump's own 'gosem.cut.vars' lays the variable. In a bare row this is a premise. The card (YtbboldpghkahjaaGreatDoorCards.lean) ties it to the program's text. -/
def laid_monocle_surface_one {H : Type} : DataW H := .agg [.lit (.int .i64 4294967296), .lit (.int .i64 4294967296)]

/-- 'monoclelaw26.BendSnell': WHATEVER THE INPUT: true; the input reads as it did. -/
def bendSnellSpec : ChangeSpec := { name := "bendSnell", fn := fun _ => fun
  | [d1, d2, d3] => { results := [.lit (.bool true)], args := [d1, d2, d3] }
  | _ => none }
def bendSnellRow : OpenClaim := { program := "ytbboldpghkahjaagreatdoor", sum := "ddef1cabd4bae2b91dd1907090d26810e48bac049a01f64cb3ef3219bb30d7af", func := "monocle/monoclelaw26.BendSnell", spec := "bendSnell", inPlace := ["math/bits.Add64"], unfollowed := true, recurses := true, named := ["monocle/surface.one", "math/bits.divideError", "math/bits.overflowError"], apart := false, laid := [("monocle/surface.one", laid_monocle_surface_one)] }
def BendSnellSaid : Prop := bendSnellRow.holds Tryz.pinned (OpenSpec.ofChange bendSnellSpec)

/-- ITS FALSE NEIGHBOUR: 'it returns false'. Refute it at one input. -/
def bendSnellWrong : ChangeSpec := { name := "bendSnell", fn := fun _ => fun
  | [d1, d2, d3] => { results := [.lit (.bool false)], args := [d1, d2, d3] }
  | _ => none }
def BendSnellWrongFalsely : Prop := bendSnellRow.holds Tryz.pinned (OpenSpec.ofChange bendSnellWrong)

/-- 'monoclelaw26.BendBack': WHATEVER THE INPUT: true; the input reads as it did. -/
def bendBackSpec : ChangeSpec := { name := "bendBack", fn := fun _ => fun
  | [d1, d2, d3] => { results := [.lit (.bool true)], args := [d1, d2, d3] }
  | _ => none }
def bendBackRow : OpenClaim := { program := "ytbboldpghkahjaagreatdoor", sum := "ddef1cabd4bae2b91dd1907090d26810e48bac049a01f64cb3ef3219bb30d7af", func := "monocle/monoclelaw26.BendBack", spec := "bendBack", inPlace := ["math/bits.Add64"], unfollowed := true, recurses := true, named := ["monocle/surface.one", "math/bits.divideError", "math/bits.overflowError"], apart := false, laid := [("monocle/surface.one", laid_monocle_surface_one)] }
def BendBackSaid : Prop := bendBackRow.holds Tryz.pinned (OpenSpec.ofChange bendBackSpec)

/-- ITS FALSE NEIGHBOUR: 'it returns false'. Refute it at one input. -/
def bendBackWrong : ChangeSpec := { name := "bendBack", fn := fun _ => fun
  | [d1, d2, d3] => { results := [.lit (.bool false)], args := [d1, d2, d3] }
  | _ => none }
def BendBackWrongFalsely : Prop := bendBackRow.holds Tryz.pinned (OpenSpec.ofChange bendBackWrong)

/-- 'monoclelaw26.BendKeeps': WHATEVER THE INPUT: true; the input reads as it did. -/
def bendKeepsSpec : ChangeSpec := { name := "bendKeeps", fn := fun _ => fun
  | [d1, d2, d3] => { results := [.lit (.bool true)], args := [d1, d2, d3] }
  | _ => none }
def bendKeepsRow : OpenClaim := { program := "ytbboldpghkahjaagreatdoor", sum := "ddef1cabd4bae2b91dd1907090d26810e48bac049a01f64cb3ef3219bb30d7af", func := "monocle/monoclelaw26.BendKeeps", spec := "bendKeeps", inPlace := ["math/bits.Add64"], unfollowed := true, recurses := true, named := ["monocle/surface.one", "math/bits.divideError", "math/bits.overflowError"], apart := false, laid := [("monocle/surface.one", laid_monocle_surface_one)] }
def BendKeepsSaid : Prop := bendKeepsRow.holds Tryz.pinned (OpenSpec.ofChange bendKeepsSpec)

/-- ITS FALSE NEIGHBOUR: 'it returns false'. Refute it at one input. -/
def bendKeepsWrong : ChangeSpec := { name := "bendKeeps", fn := fun _ => fun
  | [d1, d2, d3] => { results := [.lit (.bool false)], args := [d1, d2, d3] }
  | _ => none }
def BendKeepsWrongFalsely : Prop := bendKeepsRow.holds Tryz.pinned (OpenSpec.ofChange bendKeepsWrong)

/-- 'monoclelaw26.BendOrders': WHATEVER THE INPUT: true; the input reads as it did. -/
def bendOrdersSpec : ChangeSpec := { name := "bendOrders", fn := fun _ => fun
  | [d1, d2, d3] => { results := [.lit (.bool true)], args := [d1, d2, d3] }
  | _ => none }
def bendOrdersRow : OpenClaim := { program := "ytbboldpghkahjaagreatdoor", sum := "ddef1cabd4bae2b91dd1907090d26810e48bac049a01f64cb3ef3219bb30d7af", func := "monocle/monoclelaw26.BendOrders", spec := "bendOrders", inPlace := ["math/bits.Add64"], unfollowed := true, recurses := true, named := ["monocle/surface.one", "math/bits.divideError", "math/bits.overflowError"], apart := false, laid := [("monocle/surface.one", laid_monocle_surface_one)] }
def BendOrdersSaid : Prop := bendOrdersRow.holds Tryz.pinned (OpenSpec.ofChange bendOrdersSpec)

/-- ITS FALSE NEIGHBOUR: 'it returns false'. Refute it at one input. -/
def bendOrdersWrong : ChangeSpec := { name := "bendOrders", fn := fun _ => fun
  | [d1, d2, d3] => { results := [.lit (.bool false)], args := [d1, d2, d3] }
  | _ => none }
def BendOrdersWrongFalsely : Prop := bendOrdersRow.holds Tryz.pinned (OpenSpec.ofChange bendOrdersWrong)

/- THE SECOND FORM. 'bulk': how many values and letters a reading holds, each counted each time it is reached (what is shared counts as often as it is met; a slice's spare places count too). A statement '..UptoSaid' is the law's where the arguments, and the package variables that the reading takes, are together of bulk at most 1048576: NARROWER than '..Said'. Prove '..Said' where nothing that the law and all that it calls make is longer than what came in: it says more and counts as full. Else prove '..UptoSaid'. A law counts once. -/
mutual
def uptoBulk {H : Type} : DataW H → Nat
  | .lit (.string bytes) => bytes.length + 1
  | .lit _ => 1
  | .nil => 1
  | .ptr d => uptoBulk d + 1
  | .slice elems spare => uptoBulkAll elems + uptoBulkAll spare + 1
  | .agg parts => uptoBulkAll parts + 1
  | .iface _ d => uptoBulk d + 1
  | .map entries => uptoBulkEntries entries + 1
  | .held _ => 1
def uptoBulkAll {H : Type} : List (DataW H) → Nat
  | [] => 0
  | d :: r => uptoBulk d + uptoBulkAll r
def uptoBulkEntries {H : Type} : List (Lit × DataW H) → Nat
  | [] => 0
  | x :: r => uptoBulkEntry x + uptoBulkEntries r
def uptoBulkEntry {H : Type} : Lit × DataW H → Nat
  | (.string bytes, d) => bytes.length + uptoBulk d + 1
  | (_, d) => uptoBulk d + 1
 end
def uptoSmall : (H : Type) → List (DataW H) → Bool := fun _ ds => decide (uptoBulkAll ds ≤ 1048576)
def OpenSpec.upto (s : _root_.Go.ChangeSpec) : _root_.Go.OpenSpec := { _root_.Go.OpenSpec.ofChange s with cond := some uptoSmall }

/-- 'monoclelaw26.BendSnell', WHERE WHAT IT READS IS OF BULK AT MOST 1048576: true; the input reads as it did. -/
def bendSnellUptoRow : OpenClaim := { program := "ytbboldpghkahjaagreatdoor", sum := "ddef1cabd4bae2b91dd1907090d26810e48bac049a01f64cb3ef3219bb30d7af", func := "monocle/monoclelaw26.BendSnell", spec := "bendSnell", inPlace := ["math/bits.Add64"], unfollowed := true, recurses := true, named := ["monocle/surface.one", "math/bits.divideError", "math/bits.overflowError"], apart := false, laid := [("monocle/surface.one", laid_monocle_surface_one)], narrowed := true }
def BendSnellUptoSaid : Prop := bendSnellUptoRow.holds Tryz.pinned (OpenSpec.upto bendSnellSpec)

/-- 'monoclelaw26.BendBack', WHERE WHAT IT READS IS OF BULK AT MOST 1048576: true; the input reads as it did. -/
def bendBackUptoRow : OpenClaim := { program := "ytbboldpghkahjaagreatdoor", sum := "ddef1cabd4bae2b91dd1907090d26810e48bac049a01f64cb3ef3219bb30d7af", func := "monocle/monoclelaw26.BendBack", spec := "bendBack", inPlace := ["math/bits.Add64"], unfollowed := true, recurses := true, named := ["monocle/surface.one", "math/bits.divideError", "math/bits.overflowError"], apart := false, laid := [("monocle/surface.one", laid_monocle_surface_one)], narrowed := true }
def BendBackUptoSaid : Prop := bendBackUptoRow.holds Tryz.pinned (OpenSpec.upto bendBackSpec)

/-- 'monoclelaw26.BendKeeps', WHERE WHAT IT READS IS OF BULK AT MOST 1048576: true; the input reads as it did. -/
def bendKeepsUptoRow : OpenClaim := { program := "ytbboldpghkahjaagreatdoor", sum := "ddef1cabd4bae2b91dd1907090d26810e48bac049a01f64cb3ef3219bb30d7af", func := "monocle/monoclelaw26.BendKeeps", spec := "bendKeeps", inPlace := ["math/bits.Add64"], unfollowed := true, recurses := true, named := ["monocle/surface.one", "math/bits.divideError", "math/bits.overflowError"], apart := false, laid := [("monocle/surface.one", laid_monocle_surface_one)], narrowed := true }
def BendKeepsUptoSaid : Prop := bendKeepsUptoRow.holds Tryz.pinned (OpenSpec.upto bendKeepsSpec)

/-- 'monoclelaw26.BendOrders', WHERE WHAT IT READS IS OF BULK AT MOST 1048576: true; the input reads as it did. -/
def bendOrdersUptoRow : OpenClaim := { program := "ytbboldpghkahjaagreatdoor", sum := "ddef1cabd4bae2b91dd1907090d26810e48bac049a01f64cb3ef3219bb30d7af", func := "monocle/monoclelaw26.BendOrders", spec := "bendOrders", inPlace := ["math/bits.Add64"], unfollowed := true, recurses := true, named := ["monocle/surface.one", "math/bits.divideError", "math/bits.overflowError"], apart := false, laid := [("monocle/surface.one", laid_monocle_surface_one)], narrowed := true }
def BendOrdersUptoSaid : Prop := bendOrdersUptoRow.holds Tryz.pinned (OpenSpec.upto bendOrdersSpec)

end Rows
end Go.Proofs.YtbboldpghkahjaaGreatDoor
