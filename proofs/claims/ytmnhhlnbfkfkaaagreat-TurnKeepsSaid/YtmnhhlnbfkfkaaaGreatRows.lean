/-
  No cell of these rows narrows 'for every input' (looked for: loops, veiled, ifaces, maps, wideKeys, modest, calm, conditions, laid).
  DERIVED. THE GIVEN ROWS OF THIS SEAT. 4 by the template 'for every input the law returns true; each argument reads behind the call as it read before'; 0 by the template 'total and deterministic' (their statements: YtmnhhlnbfkfkaaaGreatTotals.lean).
  GIVEN WITH THE SEED: the statements are not yours to turn. If you find one false, say at which input.
  Laid BY PROGRAM, IN A SANDBOX (cutbox-rows.mjs): the forced cells as the released guide's own fill.sh prints them over the translation bac24028acb4fefd… (all of the seat's roots in one cut). By AI agents, Wed Nov 11 2026. No macro, syntax, notation, axiom, sorry.
-/
import Derived.Test.YtmnhhlnbfkfkaaaGreatChecked
import GoSem.Claim
import GoSem.ClaimJoined
import GoSem.ClaimMapViews
import Derived.JoinedTies
import Derived.KernelRfl
namespace Go.Proofs.YtmnhhlnbfkfkaaaGreat
/- THE CELL 'sum', in the pinned program and in every row, IS THE sha256 OF THE DUMP (.gsa) THAT YtmnhhlnbfkfkaaaGreatProg.lean LOADS. Nothing in Lean hashes anything: it is a label: what it is worth is what the hold of that sum in a sandbox is worth. -/
noncomputable def Tryz.pinned : Pinned := { name := "ytmnhhlnbfkfkaaagreat", sum := "bac24028acb4fefd7d0d7207103fdc22dc21a11caab826e36c331a20028c4366", checked := Tryz.checked }
namespace Rows
def none {H : Type} : Left H := { results := [], args := [] }

/-- 'monoclelaw07.TurnSines': WHATEVER THE INPUT: true; the input reads as it did. -/
def turnSinesSpec : ChangeSpec := { name := "turnSines", fn := fun _ => fun
  | [d1, d2, d3] => { results := [.lit (.bool true)], args := [d1, d2, d3] }
  | _ => none }
def turnSinesRow : OpenClaim := { program := "ytmnhhlnbfkfkaaagreat", sum := "bac24028acb4fefd7d0d7207103fdc22dc21a11caab826e36c331a20028c4366", func := "monocle/monoclelaw07.TurnSines", spec := "turnSines", unfollowed := true, recurses := true, named := ["math/bits.divideError", "math/bits.overflowError"], apart := false }
def TurnSinesSaid : Prop := turnSinesRow.holds Tryz.pinned (OpenSpec.ofChange turnSinesSpec)

/-- ITS FALSE NEIGHBOUR: 'it returns false'. Refute it at one input. -/
def turnSinesWrong : ChangeSpec := { name := "turnSines", fn := fun _ => fun
  | [d1, d2, d3] => { results := [.lit (.bool false)], args := [d1, d2, d3] }
  | _ => none }
def TurnSinesWrongFalsely : Prop := turnSinesRow.holds Tryz.pinned (OpenSpec.ofChange turnSinesWrong)

/-- 'monoclelaw07.TurnRotations': WHATEVER THE INPUT: true; the input reads as it did. -/
def turnRotationsSpec : ChangeSpec := { name := "turnRotations", fn := fun _ => fun
  | [d1, d2] => { results := [.lit (.bool true)], args := [d1, d2] }
  | _ => none }
def turnRotationsRow : OpenClaim := { program := "ytmnhhlnbfkfkaaagreat", sum := "bac24028acb4fefd7d0d7207103fdc22dc21a11caab826e36c331a20028c4366", func := "monocle/monoclelaw07.TurnRotations", spec := "turnRotations", unfollowed := true, recurses := true, named := ["math/bits.divideError", "math/bits.overflowError"], apart := false }
def TurnRotationsSaid : Prop := turnRotationsRow.holds Tryz.pinned (OpenSpec.ofChange turnRotationsSpec)

/-- ITS FALSE NEIGHBOUR: 'it returns false'. Refute it at one input. -/
def turnRotationsWrong : ChangeSpec := { name := "turnRotations", fn := fun _ => fun
  | [d1, d2] => { results := [.lit (.bool false)], args := [d1, d2] }
  | _ => none }
def TurnRotationsWrongFalsely : Prop := turnRotationsRow.holds Tryz.pinned (OpenSpec.ofChange turnRotationsWrong)

/-- 'monoclelaw07.TurnProducts': WHATEVER THE INPUT: true; the input reads as it did. -/
def turnProductsSpec : ChangeSpec := { name := "turnProducts", fn := fun _ => fun
  | [d] => { results := [.lit (.bool true)], args := [d] }
  | _ => none }
def turnProductsRow : OpenClaim := { program := "ytmnhhlnbfkfkaaagreat", sum := "bac24028acb4fefd7d0d7207103fdc22dc21a11caab826e36c331a20028c4366", func := "monocle/monoclelaw07.TurnProducts", spec := "turnProducts", unfollowed := true, recurses := true, named := ["math/bits.divideError", "math/bits.overflowError"], apart := false }
def TurnProductsSaid : Prop := turnProductsRow.holds Tryz.pinned (OpenSpec.ofChange turnProductsSpec)

/-- ITS FALSE NEIGHBOUR: 'it returns false'. Refute it at one input. -/
def turnProductsWrong : ChangeSpec := { name := "turnProducts", fn := fun _ => fun
  | [d] => { results := [.lit (.bool false)], args := [d] }
  | _ => none }
def TurnProductsWrongFalsely : Prop := turnProductsRow.holds Tryz.pinned (OpenSpec.ofChange turnProductsWrong)

/-- 'monoclelaw07.TurnKeeps': WHATEVER THE INPUT: true; the input reads as it did. -/
def turnKeepsSpec : ChangeSpec := { name := "turnKeeps", fn := fun _ => fun
  | [d1, d2] => { results := [.lit (.bool true)], args := [d1, d2] }
  | _ => none }
def turnKeepsRow : OpenClaim := { program := "ytmnhhlnbfkfkaaagreat", sum := "bac24028acb4fefd7d0d7207103fdc22dc21a11caab826e36c331a20028c4366", func := "monocle/monoclelaw07.TurnKeeps", spec := "turnKeeps", inPlace := ["math/bits.Add64"], unfollowed := true, recurses := true, named := ["math/bits.divideError", "math/bits.overflowError"], apart := false }
def TurnKeepsSaid : Prop := turnKeepsRow.holds Tryz.pinned (OpenSpec.ofChange turnKeepsSpec)

/-- ITS FALSE NEIGHBOUR: 'it returns false'. Refute it at one input. -/
def turnKeepsWrong : ChangeSpec := { name := "turnKeeps", fn := fun _ => fun
  | [d1, d2] => { results := [.lit (.bool false)], args := [d1, d2] }
  | _ => none }
def TurnKeepsWrongFalsely : Prop := turnKeepsRow.holds Tryz.pinned (OpenSpec.ofChange turnKeepsWrong)

/- THE SECOND FORM. 'bulk': how many values and letters a reading holds, each counted each time it is reached (what is shared counts as often as it is met; a slice's spare places count too). A statement '..UptoSaid' is the law's where the arguments, and the package variables that the reading takes, are together of bulk at most 1048576: NARROWER than '..Said'. Prove '..Said' where nothing that the law and all that it calls make is longer than what came in: it says more and counts as full. Else prove '..UptoSaid'. A law counts once. -/
mutual
def uptoBulk {H : Type} : DataW H → Nat
  | .lit (.string bytes) => bytes.length + 1
  | .lit _ => 1
  | .nil => 1
  | .ptr d => uptoBulk d + 1
  | .slice elems spare => uptoBulkAll elems + uptoBulkAll spare + 1
  | .agg parts => uptoBulkAll parts + 1
  | .iface _ d => uptoBulk d + 1
  | .map entries => uptoBulkEntries entries + 1
  | .held _ => 1
def uptoBulkAll {H : Type} : List (DataW H) → Nat
  | [] => 0
  | d :: r => uptoBulk d + uptoBulkAll r
def uptoBulkEntries {H : Type} : List (Lit × DataW H) → Nat
  | [] => 0
  | x :: r => uptoBulkEntry x + uptoBulkEntries r
def uptoBulkEntry {H : Type} : Lit × DataW H → Nat
  | (.string bytes, d) => bytes.length + uptoBulk d + 1
  | (_, d) => uptoBulk d + 1
 end
def uptoSmall : (H : Type) → List (DataW H) → Bool := fun _ ds => decide (uptoBulkAll ds ≤ 1048576)
def OpenSpec.upto (s : _root_.Go.ChangeSpec) : _root_.Go.OpenSpec := { _root_.Go.OpenSpec.ofChange s with cond := some uptoSmall }

/-- 'monoclelaw07.TurnSines', WHERE WHAT IT READS IS OF BULK AT MOST 1048576: true; the input reads as it did. -/
def turnSinesUptoRow : OpenClaim := { program := "ytmnhhlnbfkfkaaagreat", sum := "bac24028acb4fefd7d0d7207103fdc22dc21a11caab826e36c331a20028c4366", func := "monocle/monoclelaw07.TurnSines", spec := "turnSines", unfollowed := true, recurses := true, named := ["math/bits.divideError", "math/bits.overflowError"], apart := false, narrowed := true }
def TurnSinesUptoSaid : Prop := turnSinesUptoRow.holds Tryz.pinned (OpenSpec.upto turnSinesSpec)

/-- 'monoclelaw07.TurnRotations', WHERE WHAT IT READS IS OF BULK AT MOST 1048576: true; the input reads as it did. -/
def turnRotationsUptoRow : OpenClaim := { program := "ytmnhhlnbfkfkaaagreat", sum := "bac24028acb4fefd7d0d7207103fdc22dc21a11caab826e36c331a20028c4366", func := "monocle/monoclelaw07.TurnRotations", spec := "turnRotations", unfollowed := true, recurses := true, named := ["math/bits.divideError", "math/bits.overflowError"], apart := false, narrowed := true }
def TurnRotationsUptoSaid : Prop := turnRotationsUptoRow.holds Tryz.pinned (OpenSpec.upto turnRotationsSpec)

/-- 'monoclelaw07.TurnProducts', WHERE WHAT IT READS IS OF BULK AT MOST 1048576: true; the input reads as it did. -/
def turnProductsUptoRow : OpenClaim := { program := "ytmnhhlnbfkfkaaagreat", sum := "bac24028acb4fefd7d0d7207103fdc22dc21a11caab826e36c331a20028c4366", func := "monocle/monoclelaw07.TurnProducts", spec := "turnProducts", unfollowed := true, recurses := true, named := ["math/bits.divideError", "math/bits.overflowError"], apart := false, narrowed := true }
def TurnProductsUptoSaid : Prop := turnProductsUptoRow.holds Tryz.pinned (OpenSpec.upto turnProductsSpec)

/-- 'monoclelaw07.TurnKeeps', WHERE WHAT IT READS IS OF BULK AT MOST 1048576: true; the input reads as it did. -/
def turnKeepsUptoRow : OpenClaim := { program := "ytmnhhlnbfkfkaaagreat", sum := "bac24028acb4fefd7d0d7207103fdc22dc21a11caab826e36c331a20028c4366", func := "monocle/monoclelaw07.TurnKeeps", spec := "turnKeeps", inPlace := ["math/bits.Add64"], unfollowed := true, recurses := true, named := ["math/bits.divideError", "math/bits.overflowError"], apart := false, narrowed := true }
def TurnKeepsUptoSaid : Prop := turnKeepsUptoRow.holds Tryz.pinned (OpenSpec.upto turnKeepsSpec)

end Rows
end Go.Proofs.YtmnhhlnbfkfkaaaGreat
