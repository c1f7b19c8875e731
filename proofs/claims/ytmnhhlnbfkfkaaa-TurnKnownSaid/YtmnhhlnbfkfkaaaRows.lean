/-
  No cell of these rows narrows 'for every input' (looked for: loops, veiled, ifaces, maps, wideKeys, modest, calm, conditions, laid).
  DERIVED. THE GIVEN ROWS OF THIS SEAT. 3 by the template 'for every input the law returns true; each argument reads behind the call as it read before'; 0 by the template 'total and deterministic' (their statements: YtmnhhlnbfkfkaaaTotals.lean).
  GIVEN WITH THE SEED: the statements are not yours to turn. If you find one false, say at which input.
  Laid BY PROGRAM, IN A SANDBOX (cutbox-rows.mjs): the forced cells as the released guide's own fill.sh prints them over the translation 4b18f4662d2eb593… (all of the seat's roots in one cut). By AI agents, Wed Nov 11 2026. No macro, syntax, notation, axiom, sorry.
-/
import Derived.Test.YtmnhhlnbfkfkaaaChecked
import GoSem.Claim
import GoSem.ClaimJoined
import GoSem.ClaimMapViews
import Derived.JoinedTies
import Derived.KernelRfl
namespace Go.Proofs.Ytmnhhlnbfkfkaaa
/- THE CELL 'sum', in the pinned program and in every row, IS THE sha256 OF THE DUMP (.gsa) THAT YtmnhhlnbfkfkaaaProg.lean LOADS. Nothing in Lean hashes anything: it is a label: what it is worth is what the hold of that sum in a sandbox is worth. -/
noncomputable def Try.pinned : Pinned := { name := "ytmnhhlnbfkfkaaa", sum := "4b18f4662d2eb593b655e85689c2c942b702422ca1cf4a4c9ac8b6a4eb288d30", checked := Try.checked }
namespace Rows
def none {H : Type} : Left H := { results := [], args := [] }

/-- 'monoclelaw07.TurnSums': WHATEVER THE INPUT: true; the input reads as it did. -/
def turnSumsSpec : ChangeSpec := { name := "turnSums", fn := fun _ => fun
  | [d1, d2, d3] => { results := [.lit (.bool true)], args := [d1, d2, d3] }
  | _ => none }
def turnSumsRow : OpenClaim := { program := "ytmnhhlnbfkfkaaa", sum := "4b18f4662d2eb593b655e85689c2c942b702422ca1cf4a4c9ac8b6a4eb288d30", func := "monocle/monoclelaw07.TurnSums", spec := "turnSums", unfollowed := true, recurses := true, named := ["math/bits.divideError", "math/bits.overflowError"], apart := false }
def TurnSumsSaid : Prop := turnSumsRow.holds Try.pinned (OpenSpec.ofChange turnSumsSpec)

/-- ITS FALSE NEIGHBOUR: 'it returns false'. Refute it at one input. -/
def turnSumsWrong : ChangeSpec := { name := "turnSums", fn := fun _ => fun
  | [d1, d2, d3] => { results := [.lit (.bool false)], args := [d1, d2, d3] }
  | _ => none }
def TurnSumsWrongFalsely : Prop := turnSumsRow.holds Try.pinned (OpenSpec.ofChange turnSumsWrong)

/-- 'monoclelaw07.TurnCircles': WHATEVER THE INPUT: true; the input reads as it did. -/
def turnCirclesSpec : ChangeSpec := { name := "turnCircles", fn := fun _ => fun
  | [d1, d2, d3] => { results := [.lit (.bool true)], args := [d1, d2, d3] }
  | _ => none }
def turnCirclesRow : OpenClaim := { program := "ytmnhhlnbfkfkaaa", sum := "4b18f4662d2eb593b655e85689c2c942b702422ca1cf4a4c9ac8b6a4eb288d30", func := "monocle/monoclelaw07.TurnCircles", spec := "turnCircles", unfollowed := true, recurses := true, named := ["math/bits.divideError", "math/bits.overflowError"], apart := false }
def TurnCirclesSaid : Prop := turnCirclesRow.holds Try.pinned (OpenSpec.ofChange turnCirclesSpec)

/-- ITS FALSE NEIGHBOUR: 'it returns false'. Refute it at one input. -/
def turnCirclesWrong : ChangeSpec := { name := "turnCircles", fn := fun _ => fun
  | [d1, d2, d3] => { results := [.lit (.bool false)], args := [d1, d2, d3] }
  | _ => none }
def TurnCirclesWrongFalsely : Prop := turnCirclesRow.holds Try.pinned (OpenSpec.ofChange turnCirclesWrong)

/-- 'monoclelaw07.TurnKnown': WHATEVER THE INPUT: true; the input reads as it did. -/
def turnKnownSpec : ChangeSpec := { name := "turnKnown", fn := fun _ => fun
  | [] => { results := [.lit (.bool true)], args := [] }
  | _ => none }
def turnKnownRow : OpenClaim := { program := "ytmnhhlnbfkfkaaa", sum := "4b18f4662d2eb593b655e85689c2c942b702422ca1cf4a4c9ac8b6a4eb288d30", func := "monocle/monoclelaw07.TurnKnown", spec := "turnKnown", unfollowed := true, recurses := true, named := ["math/bits.divideError", "math/bits.overflowError"], apart := false }
def TurnKnownSaid : Prop := turnKnownRow.holds Try.pinned (OpenSpec.ofChange turnKnownSpec)

/-- ITS FALSE NEIGHBOUR: 'it returns false'. Refute it at one input. -/
def turnKnownWrong : ChangeSpec := { name := "turnKnown", fn := fun _ => fun
  | [] => { results := [.lit (.bool false)], args := [] }
  | _ => none }
def TurnKnownWrongFalsely : Prop := turnKnownRow.holds Try.pinned (OpenSpec.ofChange turnKnownWrong)

/- THE SECOND FORM. 'bulk': how many values and letters a reading holds, each counted each time it is reached (what is shared counts as often as it is met; a slice's spare places count too). A statement '..UptoSaid' is the law's where the arguments, and the package variables that the reading takes, are together of bulk at most 1048576: NARROWER than '..Said'. Prove '..Said' where nothing that the law and all that it calls make is longer than what came in: it says more and counts as full. Else prove '..UptoSaid'. A law counts once. -/
mutual
def uptoBulk {H : Type} : DataW H → Nat
  | .lit (.string bytes) => bytes.length + 1
  | .lit _ => 1
  | .nil => 1
  | .ptr d => uptoBulk d + 1
  | .slice elems spare => uptoBulkAll elems + uptoBulkAll spare + 1
  | .agg parts => uptoBulkAll parts + 1
  | .iface _ d => uptoBulk d + 1
  | .map entries => uptoBulkEntries entries + 1
  | .held _ => 1
def uptoBulkAll {H : Type} : List (DataW H) → Nat
  | [] => 0
  | d :: r => uptoBulk d + uptoBulkAll r
def uptoBulkEntries {H : Type} : List (Lit × DataW H) → Nat
  | [] => 0
  | x :: r => uptoBulkEntry x + uptoBulkEntries r
def uptoBulkEntry {H : Type} : Lit × DataW H → Nat
  | (.string bytes, d) => bytes.length + uptoBulk d + 1
  | (_, d) => uptoBulk d + 1
 end
def uptoSmall : (H : Type) → List (DataW H) → Bool := fun _ ds => decide (uptoBulkAll ds ≤ 1048576)
def OpenSpec.upto (s : _root_.Go.ChangeSpec) : _root_.Go.OpenSpec := { _root_.Go.OpenSpec.ofChange s with cond := some uptoSmall }

/-- 'monoclelaw07.TurnSums', WHERE WHAT IT READS IS OF BULK AT MOST 1048576: true; the input reads as it did. -/
def turnSumsUptoRow : OpenClaim := { program := "ytmnhhlnbfkfkaaa", sum := "4b18f4662d2eb593b655e85689c2c942b702422ca1cf4a4c9ac8b6a4eb288d30", func := "monocle/monoclelaw07.TurnSums", spec := "turnSums", unfollowed := true, recurses := true, named := ["math/bits.divideError", "math/bits.overflowError"], apart := false, narrowed := true }
def TurnSumsUptoSaid : Prop := turnSumsUptoRow.holds Try.pinned (OpenSpec.upto turnSumsSpec)

/-- 'monoclelaw07.TurnCircles', WHERE WHAT IT READS IS OF BULK AT MOST 1048576: true; the input reads as it did. -/
def turnCirclesUptoRow : OpenClaim := { program := "ytmnhhlnbfkfkaaa", sum := "4b18f4662d2eb593b655e85689c2c942b702422ca1cf4a4c9ac8b6a4eb288d30", func := "monocle/monoclelaw07.TurnCircles", spec := "turnCircles", unfollowed := true, recurses := true, named := ["math/bits.divideError", "math/bits.overflowError"], apart := false, narrowed := true }
def TurnCirclesUptoSaid : Prop := turnCirclesUptoRow.holds Try.pinned (OpenSpec.upto turnCirclesSpec)

/-- 'monoclelaw07.TurnKnown', WHERE WHAT IT READS IS OF BULK AT MOST 1048576: true; the input reads as it did. -/
def turnKnownUptoRow : OpenClaim := { program := "ytmnhhlnbfkfkaaa", sum := "4b18f4662d2eb593b655e85689c2c942b702422ca1cf4a4c9ac8b6a4eb288d30", func := "monocle/monoclelaw07.TurnKnown", spec := "turnKnown", unfollowed := true, recurses := true, named := ["math/bits.divideError", "math/bits.overflowError"], apart := false, narrowed := true }
def TurnKnownUptoSaid : Prop := turnKnownUptoRow.holds Try.pinned (OpenSpec.upto turnKnownSpec)

end Rows
end Go.Proofs.Ytmnhhlnbfkfkaaa
