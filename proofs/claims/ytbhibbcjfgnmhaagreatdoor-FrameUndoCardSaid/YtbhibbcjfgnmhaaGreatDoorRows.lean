/-
  NARROWER THAN 'FOR EVERY INPUT', by the rows' own cells (each row's printed sentence says how): FrameUndo: laid.
  DERIVED. THE GIVEN ROWS OF THIS SEAT. 1 by the template 'for every input the law returns true; each argument reads behind the call as it read before'; 0 by the template 'total and deterministic' (their statements: YtbhibbcjfgnmhaaGreatDoorTotals.lean).
  GIVEN WITH THE SEED: the statements are not yours to turn. If you find one false, say at which input.
  Laid BY PROGRAM, IN A SANDBOX (cutbox-rows.mjs): the forced cells as the released guide's own fill.sh prints them over the translation 2507d263940c127e… (all of the seat's roots in one cut). By AI agents, Wed Nov 11 2026. No macro, syntax, notation, axiom, sorry.
-/
import Derived.Test.YtbhibbcjfgnmhaaGreatDoorChecked
import GoSem.Claim
import GoSem.ClaimJoined
import GoSem.ClaimMapViews
import Derived.JoinedTies
import Derived.KernelRfl
namespace Go.Proofs.YtbhibbcjfgnmhaaGreatDoor
/- THE CELL 'sum', in the pinned program and in every row, IS THE sha256 OF THE DUMP (.gsa) THAT YtbhibbcjfgnmhaaGreatDoorProg.lean LOADS. Nothing in Lean hashes anything: it is a label: what it is worth is what the hold of that sum in a sandbox is worth. -/
noncomputable def Tryz.pinned : Pinned := { name := "ytbhibbcjfgnmhaagreatdoor", sum := "2507d263940c127e60ef7073dbe40b724767710f62dbce1a95b5b58faa7c5959", checked := Tryz.checked }
namespace Rows
def none {H : Type} : Left H := { results := [], args := [] }

/- WHAT THE LISTED PACKAGE-LEVEL VARIABLES READ AS WHEN THE CALL BEGINS. Each datum BY PROGRAM (the guide's laid-datum.mjs) off the statement by which the dump's own 'gosem.cut.vars' lays the variable. In a bare row this is a premise. The card (YtbhibbcjfgnmhaaGreatDoorCards.lean) ties it to the program's text. -/
def laid_monocle_fix_powers {H : Type} : DataW H := .agg [.lit (.int .u64 1), .lit (.int .u64 10), .lit (.int .u64 100), .lit (.int .u64 1000), .lit (.int .u64 10000), .lit (.int .u64 100000), .lit (.int .u64 1000000), .lit (.int .u64 10000000), .lit (.int .u64 100000000), .lit (.int .u64 1000000000), .lit (.int .u64 10000000000), .lit (.int .u64 100000000000), .lit (.int .u64 1000000000000)]
def laid_monocle_surface_places {H : Type} : DataW H := .map [(.int .i64 1, .slice [.lit (.int .i64 1), .lit (.int .i64 2), .lit (.int .i64 5), .lit (.int .i64 6), .lit (.int .i64 7), .lit (.int .i64 8), .lit (.int .i64 10)] []), (.int .i64 2, .slice [.lit (.int .i64 1), .lit (.int .i64 2), .lit (.int .i64 3), .lit (.int .i64 4), .lit (.int .i64 10)] []), (.int .i64 3, .slice [.lit (.int .i64 11), .lit (.int .i64 12), .lit (.int .i64 13), .lit (.int .i64 14), .lit (.int .i64 15)] []), (.int .i64 4, .slice [.lit (.int .i64 1), .lit (.int .i64 10)] [])]
def laid_monocle_frame_identity {H : Type} : DataW H := .agg [.agg [.agg [.lit (.int .i64 4294967296), .lit (.int .i64 4294967296)], .agg [.lit (.int .i64 0), .lit (.int .i64 0)], .agg [.lit (.int .i64 0), .lit (.int .i64 0)]], .agg [.agg [.lit (.int .i64 0), .lit (.int .i64 0)], .agg [.lit (.int .i64 4294967296), .lit (.int .i64 4294967296)], .agg [.lit (.int .i64 0), .lit (.int .i64 0)]], .agg [.agg [.lit (.int .i64 0), .lit (.int .i64 0)], .agg [.lit (.int .i64 0), .lit (.int .i64 0)], .agg [.lit (.int .i64 4294967296), .lit (.int .i64 4294967296)]]]

/-- 'monoclelaw14.FrameUndo': WHATEVER THE INPUT: true; the input reads as it did. -/
def frameUndoSpec : ChangeSpec := { name := "frameUndo", fn := fun _ => fun
  | [d1, d2] => { results := [.lit (.bool true)], args := [d1, d2] }
  | _ => none }
def frameUndoRow : OpenClaim := { program := "ytbhibbcjfgnmhaagreatdoor", sum := "2507d263940c127e60ef7073dbe40b724767710f62dbce1a95b5b58faa7c5959", func := "monocle/monoclelaw14.FrameUndo", spec := "frameUndo", unfollowed := true, recurses := true, named := ["monocle/frame.identity", "monocle/surface.places", "monocle/fix.powers", "math/bits.divideError", "math/bits.overflowError"], plainKeys := false, apart := false, laid := [("monocle/fix.powers", laid_monocle_fix_powers), ("monocle/surface.places", laid_monocle_surface_places), ("monocle/frame.identity", laid_monocle_frame_identity)] }
def FrameUndoSaid : Prop := frameUndoRow.holds Tryz.pinned (OpenSpec.ofChange frameUndoSpec)

/-- ITS FALSE NEIGHBOUR: 'it returns false'. Refute it at one input. -/
def frameUndoWrong : ChangeSpec := { name := "frameUndo", fn := fun _ => fun
  | [d1, d2] => { results := [.lit (.bool false)], args := [d1, d2] }
  | _ => none }
def FrameUndoWrongFalsely : Prop := frameUndoRow.holds Tryz.pinned (OpenSpec.ofChange frameUndoWrong)

/- THE SECOND FORM. 'bulk': how many values and letters a reading holds, each counted each time it is reached (what is shared counts as often as it is met; a slice's spare places count too). A statement '..UptoSaid' is the law's where the arguments, and the package variables that the reading takes, are together of bulk at most 1048576: NARROWER than '..Said'. Prove '..Said' where nothing that the law and all that it calls make is longer than what came in: it says more and counts as full. Else prove '..UptoSaid'. A law counts once. -/
mutual
def uptoBulk {H : Type} : DataW H → Nat
  | .lit (.string bytes) => bytes.length + 1
  | .lit _ => 1
  | .nil => 1
  | .ptr d => uptoBulk d + 1
  | .slice elems spare => uptoBulkAll elems + uptoBulkAll spare + 1
  | .agg parts => uptoBulkAll parts + 1
  | .iface _ d => uptoBulk d + 1
  | .map entries => uptoBulkEntries entries + 1
  | .held _ => 1
def uptoBulkAll {H : Type} : List (DataW H) → Nat
  | [] => 0
  | d :: r => uptoBulk d + uptoBulkAll r
def uptoBulkEntries {H : Type} : List (Lit × DataW H) → Nat
  | [] => 0
  | x :: r => uptoBulkEntry x + uptoBulkEntries r
def uptoBulkEntry {H : Type} : Lit × DataW H → Nat
  | (.string bytes, d) => bytes.length + uptoBulk d + 1
  | (_, d) => uptoBulk d + 1
 end
def uptoSmall : (H : Type) → List (DataW H) → Bool := fun _ ds => decide (uptoBulkAll ds ≤ 1048576)
def OpenSpec.upto (s : _root_.Go.ChangeSpec) : _root_.Go.OpenSpec := { _root_.Go.OpenSpec.ofChange s with cond := some uptoSmall }

/-- 'monoclelaw14.FrameUndo', WHERE WHAT IT READS IS OF BULK AT MOST 1048576: true; the input reads as it did. -/
def frameUndoUptoRow : OpenClaim := { program := "ytbhibbcjfgnmhaagreatdoor", sum := "2507d263940c127e60ef7073dbe40b724767710f62dbce1a95b5b58faa7c5959", func := "monocle/monoclelaw14.FrameUndo", spec := "frameUndo", unfollowed := true, recurses := true, named := ["monocle/frame.identity", "monocle/surface.places", "monocle/fix.powers", "math/bits.divideError", "math/bits.overflowError"], plainKeys := false, apart := false, laid := [("monocle/fix.powers", laid_monocle_fix_powers), ("monocle/surface.places", laid_monocle_surface_places), ("monocle/frame.identity", laid_monocle_frame_identity)], narrowed := true }
def FrameUndoUptoSaid : Prop := frameUndoUptoRow.holds Tryz.pinned (OpenSpec.upto frameUndoSpec)

end Rows
end Go.Proofs.YtbhibbcjfgnmhaaGreatDoor
