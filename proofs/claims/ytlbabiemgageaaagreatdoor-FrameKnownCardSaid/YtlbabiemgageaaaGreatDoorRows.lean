/-
  NARROWER THAN 'FOR EVERY INPUT', by the rows' own cells (each row's printed sentence says how): FramePlaces: laid · FrameMoves: laid · FrameTurns: laid · FrameTrue: laid · FrameStraight: laid · FrameBack: laid · FrameBegin: laid · FrameUndo: laid · FrameKnown: laid.
  DERIVED. THE GIVEN ROWS OF THIS SEAT. 9 by the template 'for every input the law returns true; each argument reads behind the call as it read before'; 0 by the template 'total and deterministic' (their statements: YtlbabiemgageaaaGreatDoorTotals.lean).
  GIVEN WITH THE SEED: the statements are not yours to turn. If you find one false, say at which input.
  Laid BY PROGRAM, IN A SANDBOX (cutbox-rows.mjs): the forced cells as the released guide's own fill.sh prints them over the translation a126a290ffd3960b… (all of the seat's roots in one cut). By AI agents, Wed Nov 11 2026. No macro, syntax, notation, axiom, sorry.
-/
import Derived.Test.YtlbabiemgageaaaGreatDoorChecked
import GoSem.Claim
import GoSem.ClaimJoined
import GoSem.ClaimMapViews
import Derived.JoinedTies
import Derived.KernelRfl
namespace Go.Proofs.YtlbabiemgageaaaGreatDoor
/- THE CELL 'sum', in the pinned program and in every row, IS THE sha256 OF THE DUMP (.gsa) THAT YtlbabiemgageaaaGreatDoorProg.lean LOADS. Nothing in Lean hashes anything: it is a label: what it is worth is what the hold of that sum in a sandbox is worth. -/
noncomputable def Tryz.pinned : Pinned := { name := "ytlbabiemgageaaagreatdoor", sum := "a126a290ffd3960b942d78b7ff5fc213f2eedcc3e7300d3dc29f9cdd8ebc65fc", checked := Tryz.checked }
namespace Rows
def none {H : Type} : Left H := { results := [], args := [] }

/- WHAT THE LISTED PACKAGE-LEVEL VARIABLES READ AS WHEN THE CALL BEGINS. Each datum BY PROGRAM (the guide's laid-datum.mjs) off the statement by which the dump's own 'gosem.cut.vars' lays the variable. In a bare row this is a premise. The card (YtlbabiemgageaaaGreatDoorCards.lean) ties it to the program's text. -/
def laid_monocle_fix_powers {H : Type} : DataW H := .agg [.lit (.int .u64 1), .lit (.int .u64 10), .lit (.int .u64 100), .lit (.int .u64 1000), .lit (.int .u64 10000), .lit (.int .u64 100000), .lit (.int .u64 1000000), .lit (.int .u64 10000000), .lit (.int .u64 100000000), .lit (.int .u64 1000000000), .lit (.int .u64 10000000000), .lit (.int .u64 100000000000), .lit (.int .u64 1000000000000)]
def laid_monocle_surface_places {H : Type} : DataW H := .map [(.int .i64 1, .slice [.lit (.int .i64 1), .lit (.int .i64 2), .lit (.int .i64 5), .lit (.int .i64 6), .lit (.int .i64 7), .lit (.int .i64 8), .lit (.int .i64 10)] []), (.int .i64 2, .slice [.lit (.int .i64 1), .lit (.int .i64 2), .lit (.int .i64 3), .lit (.int .i64 4), .lit (.int .i64 10)] []), (.int .i64 3, .slice [.lit (.int .i64 11), .lit (.int .i64 12), .lit (.int .i64 13), .lit (.int .i64 14), .lit (.int .i64 15)] []), (.int .i64 4, .slice [.lit (.int .i64 1), .lit (.int .i64 10)] [])]
def laid_monocle_frame_identity {H : Type} : DataW H := .agg [.agg [.agg [.lit (.int .i64 4294967296), .lit (.int .i64 4294967296)], .agg [.lit (.int .i64 0), .lit (.int .i64 0)], .agg [.lit (.int .i64 0), .lit (.int .i64 0)]], .agg [.agg [.lit (.int .i64 0), .lit (.int .i64 0)], .agg [.lit (.int .i64 4294967296), .lit (.int .i64 4294967296)], .agg [.lit (.int .i64 0), .lit (.int .i64 0)]], .agg [.agg [.lit (.int .i64 0), .lit (.int .i64 0)], .agg [.lit (.int .i64 0), .lit (.int .i64 0)], .agg [.lit (.int .i64 4294967296), .lit (.int .i64 4294967296)]]]

/-- 'monoclelaw14.FramePlaces': WHATEVER THE INPUT: true; the input reads as it did. -/
def framePlacesSpec : ChangeSpec := { name := "framePlaces", fn := fun _ => fun
  | [d1, d2, d3] => { results := [.lit (.bool true)], args := [d1, d2, d3] }
  | _ => none }
def framePlacesRow : OpenClaim := { program := "ytlbabiemgageaaagreatdoor", sum := "a126a290ffd3960b942d78b7ff5fc213f2eedcc3e7300d3dc29f9cdd8ebc65fc", func := "monocle/monoclelaw14.FramePlaces", spec := "framePlaces", unfollowed := true, recurses := true, named := ["monocle/frame.identity", "monocle/surface.places", "monocle/fix.powers", "math/bits.divideError", "math/bits.overflowError"], plainKeys := false, apart := false, laid := [("monocle/fix.powers", laid_monocle_fix_powers), ("monocle/surface.places", laid_monocle_surface_places), ("monocle/frame.identity", laid_monocle_frame_identity)] }
def FramePlacesSaid : Prop := framePlacesRow.holds Tryz.pinned (OpenSpec.ofChange framePlacesSpec)

/-- ITS FALSE NEIGHBOUR: 'it returns false'. Refute it at one input. -/
def framePlacesWrong : ChangeSpec := { name := "framePlaces", fn := fun _ => fun
  | [d1, d2, d3] => { results := [.lit (.bool false)], args := [d1, d2, d3] }
  | _ => none }
def FramePlacesWrongFalsely : Prop := framePlacesRow.holds Tryz.pinned (OpenSpec.ofChange framePlacesWrong)

/-- 'monoclelaw14.FrameMoves': WHATEVER THE INPUT: true; the input reads as it did. -/
def frameMovesSpec : ChangeSpec := { name := "frameMoves", fn := fun _ => fun
  | [d1, d2, d3, d4] => { results := [.lit (.bool true)], args := [d1, d2, d3, d4] }
  | _ => none }
def frameMovesRow : OpenClaim := { program := "ytlbabiemgageaaagreatdoor", sum := "a126a290ffd3960b942d78b7ff5fc213f2eedcc3e7300d3dc29f9cdd8ebc65fc", func := "monocle/monoclelaw14.FrameMoves", spec := "frameMoves", unfollowed := true, recurses := true, named := ["monocle/frame.identity", "monocle/surface.places", "monocle/fix.powers", "math/bits.divideError", "math/bits.overflowError"], plainKeys := false, apart := false, laid := [("monocle/fix.powers", laid_monocle_fix_powers), ("monocle/surface.places", laid_monocle_surface_places), ("monocle/frame.identity", laid_monocle_frame_identity)] }
def FrameMovesSaid : Prop := frameMovesRow.holds Tryz.pinned (OpenSpec.ofChange frameMovesSpec)

/-- ITS FALSE NEIGHBOUR: 'it returns false'. Refute it at one input. -/
def frameMovesWrong : ChangeSpec := { name := "frameMoves", fn := fun _ => fun
  | [d1, d2, d3, d4] => { results := [.lit (.bool false)], args := [d1, d2, d3, d4] }
  | _ => none }
def FrameMovesWrongFalsely : Prop := frameMovesRow.holds Tryz.pinned (OpenSpec.ofChange frameMovesWrong)

/-- 'monoclelaw14.FrameTurns': WHATEVER THE INPUT: true; the input reads as it did. -/
def frameTurnsSpec : ChangeSpec := { name := "frameTurns", fn := fun _ => fun
  | [d1, d2, d3, d4] => { results := [.lit (.bool true)], args := [d1, d2, d3, d4] }
  | _ => none }
def frameTurnsRow : OpenClaim := { program := "ytlbabiemgageaaagreatdoor", sum := "a126a290ffd3960b942d78b7ff5fc213f2eedcc3e7300d3dc29f9cdd8ebc65fc", func := "monocle/monoclelaw14.FrameTurns", spec := "frameTurns", unfollowed := true, recurses := true, named := ["monocle/frame.identity", "monocle/surface.places", "monocle/fix.powers", "math/bits.divideError", "math/bits.overflowError"], plainKeys := false, apart := false, laid := [("monocle/fix.powers", laid_monocle_fix_powers), ("monocle/surface.places", laid_monocle_surface_places), ("monocle/frame.identity", laid_monocle_frame_identity)] }
def FrameTurnsSaid : Prop := frameTurnsRow.holds Tryz.pinned (OpenSpec.ofChange frameTurnsSpec)

/-- ITS FALSE NEIGHBOUR: 'it returns false'. Refute it at one input. -/
def frameTurnsWrong : ChangeSpec := { name := "frameTurns", fn := fun _ => fun
  | [d1, d2, d3, d4] => { results := [.lit (.bool false)], args := [d1, d2, d3, d4] }
  | _ => none }
def FrameTurnsWrongFalsely : Prop := frameTurnsRow.holds Tryz.pinned (OpenSpec.ofChange frameTurnsWrong)

/-- 'monoclelaw14.FrameTrue': WHATEVER THE INPUT: true; the input reads as it did. -/
def frameTrueSpec : ChangeSpec := { name := "frameTrue", fn := fun _ => fun
  | [d] => { results := [.lit (.bool true)], args := [d] }
  | _ => none }
def frameTrueRow : OpenClaim := { program := "ytlbabiemgageaaagreatdoor", sum := "a126a290ffd3960b942d78b7ff5fc213f2eedcc3e7300d3dc29f9cdd8ebc65fc", func := "monocle/monoclelaw14.FrameTrue", spec := "frameTrue", unfollowed := true, recurses := true, named := ["monocle/frame.identity", "monocle/surface.places", "monocle/fix.powers", "math/bits.divideError", "math/bits.overflowError"], plainKeys := false, apart := false, laid := [("monocle/fix.powers", laid_monocle_fix_powers), ("monocle/surface.places", laid_monocle_surface_places), ("monocle/frame.identity", laid_monocle_frame_identity)] }
def FrameTrueSaid : Prop := frameTrueRow.holds Tryz.pinned (OpenSpec.ofChange frameTrueSpec)

/-- ITS FALSE NEIGHBOUR: 'it returns false'. Refute it at one input. -/
def frameTrueWrong : ChangeSpec := { name := "frameTrue", fn := fun _ => fun
  | [d] => { results := [.lit (.bool false)], args := [d] }
  | _ => none }
def FrameTrueWrongFalsely : Prop := frameTrueRow.holds Tryz.pinned (OpenSpec.ofChange frameTrueWrong)

/-- 'monoclelaw14.FrameStraight': WHATEVER THE INPUT: true; the input reads as it did. -/
def frameStraightSpec : ChangeSpec := { name := "frameStraight", fn := fun _ => fun
  | [d] => { results := [.lit (.bool true)], args := [d] }
  | _ => none }
def frameStraightRow : OpenClaim := { program := "ytlbabiemgageaaagreatdoor", sum := "a126a290ffd3960b942d78b7ff5fc213f2eedcc3e7300d3dc29f9cdd8ebc65fc", func := "monocle/monoclelaw14.FrameStraight", spec := "frameStraight", unfollowed := true, recurses := true, named := ["monocle/frame.identity", "monocle/surface.places", "monocle/fix.powers", "math/bits.divideError", "math/bits.overflowError"], plainKeys := false, apart := false, laid := [("monocle/fix.powers", laid_monocle_fix_powers), ("monocle/surface.places", laid_monocle_surface_places), ("monocle/frame.identity", laid_monocle_frame_identity)] }
def FrameStraightSaid : Prop := frameStraightRow.holds Tryz.pinned (OpenSpec.ofChange frameStraightSpec)

/-- ITS FALSE NEIGHBOUR: 'it returns false'. Refute it at one input. -/
def frameStraightWrong : ChangeSpec := { name := "frameStraight", fn := fun _ => fun
  | [d] => { results := [.lit (.bool false)], args := [d] }
  | _ => none }
def FrameStraightWrongFalsely : Prop := frameStraightRow.holds Tryz.pinned (OpenSpec.ofChange frameStraightWrong)

/-- 'monoclelaw14.FrameBack': WHATEVER THE INPUT: true; the input reads as it did. -/
def frameBackSpec : ChangeSpec := { name := "frameBack", fn := fun _ => fun
  | [d1, d2] => { results := [.lit (.bool true)], args := [d1, d2] }
  | _ => none }
def frameBackRow : OpenClaim := { program := "ytlbabiemgageaaagreatdoor", sum := "a126a290ffd3960b942d78b7ff5fc213f2eedcc3e7300d3dc29f9cdd8ebc65fc", func := "monocle/monoclelaw14.FrameBack", spec := "frameBack", unfollowed := true, recurses := true, named := ["monocle/frame.identity", "monocle/surface.places", "monocle/fix.powers", "math/bits.divideError", "math/bits.overflowError"], plainKeys := false, apart := false, laid := [("monocle/fix.powers", laid_monocle_fix_powers), ("monocle/surface.places", laid_monocle_surface_places), ("monocle/frame.identity", laid_monocle_frame_identity)] }
def FrameBackSaid : Prop := frameBackRow.holds Tryz.pinned (OpenSpec.ofChange frameBackSpec)

/-- ITS FALSE NEIGHBOUR: 'it returns false'. Refute it at one input. -/
def frameBackWrong : ChangeSpec := { name := "frameBack", fn := fun _ => fun
  | [d1, d2] => { results := [.lit (.bool false)], args := [d1, d2] }
  | _ => none }
def FrameBackWrongFalsely : Prop := frameBackRow.holds Tryz.pinned (OpenSpec.ofChange frameBackWrong)

/-- 'monoclelaw14.FrameBegin': WHATEVER THE INPUT: true; the input reads as it did. -/
def frameBeginSpec : ChangeSpec := { name := "frameBegin", fn := fun _ => fun
  | [d1, d2] => { results := [.lit (.bool true)], args := [d1, d2] }
  | _ => none }
def frameBeginRow : OpenClaim := { program := "ytlbabiemgageaaagreatdoor", sum := "a126a290ffd3960b942d78b7ff5fc213f2eedcc3e7300d3dc29f9cdd8ebc65fc", func := "monocle/monoclelaw14.FrameBegin", spec := "frameBegin", unfollowed := true, recurses := true, named := ["monocle/frame.identity", "monocle/surface.places", "monocle/fix.powers", "math/bits.divideError", "math/bits.overflowError"], plainKeys := false, apart := false, laid := [("monocle/fix.powers", laid_monocle_fix_powers), ("monocle/surface.places", laid_monocle_surface_places), ("monocle/frame.identity", laid_monocle_frame_identity)] }
def FrameBeginSaid : Prop := frameBeginRow.holds Tryz.pinned (OpenSpec.ofChange frameBeginSpec)

/-- ITS FALSE NEIGHBOUR: 'it returns false'. Refute it at one input. -/
def frameBeginWrong : ChangeSpec := { name := "frameBegin", fn := fun _ => fun
  | [d1, d2] => { results := [.lit (.bool false)], args := [d1, d2] }
  | _ => none }
def FrameBeginWrongFalsely : Prop := frameBeginRow.holds Tryz.pinned (OpenSpec.ofChange frameBeginWrong)

/-- 'monoclelaw14.FrameUndo': WHATEVER THE INPUT: true; the input reads as it did. -/
def frameUndoSpec : ChangeSpec := { name := "frameUndo", fn := fun _ => fun
  | [d1, d2] => { results := [.lit (.bool true)], args := [d1, d2] }
  | _ => none }
def frameUndoRow : OpenClaim := { program := "ytlbabiemgageaaagreatdoor", sum := "a126a290ffd3960b942d78b7ff5fc213f2eedcc3e7300d3dc29f9cdd8ebc65fc", func := "monocle/monoclelaw14.FrameUndo", spec := "frameUndo", unfollowed := true, recurses := true, named := ["monocle/frame.identity", "monocle/surface.places", "monocle/fix.powers", "math/bits.divideError", "math/bits.overflowError"], plainKeys := false, apart := false, laid := [("monocle/fix.powers", laid_monocle_fix_powers), ("monocle/surface.places", laid_monocle_surface_places), ("monocle/frame.identity", laid_monocle_frame_identity)] }
def FrameUndoSaid : Prop := frameUndoRow.holds Tryz.pinned (OpenSpec.ofChange frameUndoSpec)

/-- ITS FALSE NEIGHBOUR: 'it returns false'. Refute it at one input. -/
def frameUndoWrong : ChangeSpec := { name := "frameUndo", fn := fun _ => fun
  | [d1, d2] => { results := [.lit (.bool false)], args := [d1, d2] }
  | _ => none }
def FrameUndoWrongFalsely : Prop := frameUndoRow.holds Tryz.pinned (OpenSpec.ofChange frameUndoWrong)

/-- 'monoclelaw14.FrameKnown': WHATEVER THE INPUT: true; the input reads as it did. -/
def frameKnownSpec : ChangeSpec := { name := "frameKnown", fn := fun _ => fun
  | [] => { results := [.lit (.bool true)], args := [] }
  | _ => none }
def frameKnownRow : OpenClaim := { program := "ytlbabiemgageaaagreatdoor", sum := "a126a290ffd3960b942d78b7ff5fc213f2eedcc3e7300d3dc29f9cdd8ebc65fc", func := "monocle/monoclelaw14.FrameKnown", spec := "frameKnown", unfollowed := true, recurses := true, named := ["monocle/frame.identity", "monocle/surface.places", "monocle/fix.powers", "math/bits.divideError", "math/bits.overflowError"], plainKeys := false, apart := false, laid := [("monocle/fix.powers", laid_monocle_fix_powers), ("monocle/surface.places", laid_monocle_surface_places), ("monocle/frame.identity", laid_monocle_frame_identity)] }
def FrameKnownSaid : Prop := frameKnownRow.holds Tryz.pinned (OpenSpec.ofChange frameKnownSpec)

/-- ITS FALSE NEIGHBOUR: 'it returns false'. Refute it at one input. -/
def frameKnownWrong : ChangeSpec := { name := "frameKnown", fn := fun _ => fun
  | [] => { results := [.lit (.bool false)], args := [] }
  | _ => none }
def FrameKnownWrongFalsely : Prop := frameKnownRow.holds Tryz.pinned (OpenSpec.ofChange frameKnownWrong)

/- THE SECOND FORM. 'bulk': how many values and letters a reading holds, each counted each time it is reached (what is shared counts as often as it is met; a slice's spare places count too). A statement '..UptoSaid' is the law's where the arguments, and the package variables that the reading takes, are together of bulk at most 1048576: NARROWER than '..Said'. Prove '..Said' where nothing that the law and all that it calls make is longer than what came in: it says more and counts as full. Else prove '..UptoSaid'. A law counts once. -/
mutual
def uptoBulk {H : Type} : DataW H → Nat
  | .lit (.string bytes) => bytes.length + 1
  | .lit _ => 1
  | .nil => 1
  | .ptr d => uptoBulk d + 1
  | .slice elems spare => uptoBulkAll elems + uptoBulkAll spare + 1
  | .agg parts => uptoBulkAll parts + 1
  | .iface _ d => uptoBulk d + 1
  | .map entries => uptoBulkEntries entries + 1
  | .held _ => 1
def uptoBulkAll {H : Type} : List (DataW H) → Nat
  | [] => 0
  | d :: r => uptoBulk d + uptoBulkAll r
def uptoBulkEntries {H : Type} : List (Lit × DataW H) → Nat
  | [] => 0
  | x :: r => uptoBulkEntry x + uptoBulkEntries r
def uptoBulkEntry {H : Type} : Lit × DataW H → Nat
  | (.string bytes, d) => bytes.length + uptoBulk d + 1
  | (_, d) => uptoBulk d + 1
 end
def uptoSmall : (H : Type) → List (DataW H) → Bool := fun _ ds => decide (uptoBulkAll ds ≤ 1048576)
def OpenSpec.upto (s : _root_.Go.ChangeSpec) : _root_.Go.OpenSpec := { _root_.Go.OpenSpec.ofChange s with cond := some uptoSmall }

/-- 'monoclelaw14.FramePlaces', WHERE WHAT IT READS IS OF BULK AT MOST 1048576: true; the input reads as it did. -/
def framePlacesUptoRow : OpenClaim := { program := "ytlbabiemgageaaagreatdoor", sum := "a126a290ffd3960b942d78b7ff5fc213f2eedcc3e7300d3dc29f9cdd8ebc65fc", func := "monocle/monoclelaw14.FramePlaces", spec := "framePlaces", unfollowed := true, recurses := true, named := ["monocle/frame.identity", "monocle/surface.places", "monocle/fix.powers", "math/bits.divideError", "math/bits.overflowError"], plainKeys := false, apart := false, laid := [("monocle/fix.powers", laid_monocle_fix_powers), ("monocle/surface.places", laid_monocle_surface_places), ("monocle/frame.identity", laid_monocle_frame_identity)], narrowed := true }
def FramePlacesUptoSaid : Prop := framePlacesUptoRow.holds Tryz.pinned (OpenSpec.upto framePlacesSpec)

/-- 'monoclelaw14.FrameMoves', WHERE WHAT IT READS IS OF BULK AT MOST 1048576: true; the input reads as it did. -/
def frameMovesUptoRow : OpenClaim := { program := "ytlbabiemgageaaagreatdoor", sum := "a126a290ffd3960b942d78b7ff5fc213f2eedcc3e7300d3dc29f9cdd8ebc65fc", func := "monocle/monoclelaw14.FrameMoves", spec := "frameMoves", unfollowed := true, recurses := true, named := ["monocle/frame.identity", "monocle/surface.places", "monocle/fix.powers", "math/bits.divideError", "math/bits.overflowError"], plainKeys := false, apart := false, laid := [("monocle/fix.powers", laid_monocle_fix_powers), ("monocle/surface.places", laid_monocle_surface_places), ("monocle/frame.identity", laid_monocle_frame_identity)], narrowed := true }
def FrameMovesUptoSaid : Prop := frameMovesUptoRow.holds Tryz.pinned (OpenSpec.upto frameMovesSpec)

/-- 'monoclelaw14.FrameTurns', WHERE WHAT IT READS IS OF BULK AT MOST 1048576: true; the input reads as it did. -/
def frameTurnsUptoRow : OpenClaim := { program := "ytlbabiemgageaaagreatdoor", sum := "a126a290ffd3960b942d78b7ff5fc213f2eedcc3e7300d3dc29f9cdd8ebc65fc", func := "monocle/monoclelaw14.FrameTurns", spec := "frameTurns", unfollowed := true, recurses := true, named := ["monocle/frame.identity", "monocle/surface.places", "monocle/fix.powers", "math/bits.divideError", "math/bits.overflowError"], plainKeys := false, apart := false, laid := [("monocle/fix.powers", laid_monocle_fix_powers), ("monocle/surface.places", laid_monocle_surface_places), ("monocle/frame.identity", laid_monocle_frame_identity)], narrowed := true }
def FrameTurnsUptoSaid : Prop := frameTurnsUptoRow.holds Tryz.pinned (OpenSpec.upto frameTurnsSpec)

/-- 'monoclelaw14.FrameTrue', WHERE WHAT IT READS IS OF BULK AT MOST 1048576: true; the input reads as it did. -/
def frameTrueUptoRow : OpenClaim := { program := "ytlbabiemgageaaagreatdoor", sum := "a126a290ffd3960b942d78b7ff5fc213f2eedcc3e7300d3dc29f9cdd8ebc65fc", func := "monocle/monoclelaw14.FrameTrue", spec := "frameTrue", unfollowed := true, recurses := true, named := ["monocle/frame.identity", "monocle/surface.places", "monocle/fix.powers", "math/bits.divideError", "math/bits.overflowError"], plainKeys := false, apart := false, laid := [("monocle/fix.powers", laid_monocle_fix_powers), ("monocle/surface.places", laid_monocle_surface_places), ("monocle/frame.identity", laid_monocle_frame_identity)], narrowed := true }
def FrameTrueUptoSaid : Prop := frameTrueUptoRow.holds Tryz.pinned (OpenSpec.upto frameTrueSpec)

/-- 'monoclelaw14.FrameStraight', WHERE WHAT IT READS IS OF BULK AT MOST 1048576: true; the input reads as it did. -/
def frameStraightUptoRow : OpenClaim := { program := "ytlbabiemgageaaagreatdoor", sum := "a126a290ffd3960b942d78b7ff5fc213f2eedcc3e7300d3dc29f9cdd8ebc65fc", func := "monocle/monoclelaw14.FrameStraight", spec := "frameStraight", unfollowed := true, recurses := true, named := ["monocle/frame.identity", "monocle/surface.places", "monocle/fix.powers", "math/bits.divideError", "math/bits.overflowError"], plainKeys := false, apart := false, laid := [("monocle/fix.powers", laid_monocle_fix_powers), ("monocle/surface.places", laid_monocle_surface_places), ("monocle/frame.identity", laid_monocle_frame_identity)], narrowed := true }
def FrameStraightUptoSaid : Prop := frameStraightUptoRow.holds Tryz.pinned (OpenSpec.upto frameStraightSpec)

/-- 'monoclelaw14.FrameBack', WHERE WHAT IT READS IS OF BULK AT MOST 1048576: true; the input reads as it did. -/
def frameBackUptoRow : OpenClaim := { program := "ytlbabiemgageaaagreatdoor", sum := "a126a290ffd3960b942d78b7ff5fc213f2eedcc3e7300d3dc29f9cdd8ebc65fc", func := "monocle/monoclelaw14.FrameBack", spec := "frameBack", unfollowed := true, recurses := true, named := ["monocle/frame.identity", "monocle/surface.places", "monocle/fix.powers", "math/bits.divideError", "math/bits.overflowError"], plainKeys := false, apart := false, laid := [("monocle/fix.powers", laid_monocle_fix_powers), ("monocle/surface.places", laid_monocle_surface_places), ("monocle/frame.identity", laid_monocle_frame_identity)], narrowed := true }
def FrameBackUptoSaid : Prop := frameBackUptoRow.holds Tryz.pinned (OpenSpec.upto frameBackSpec)

/-- 'monoclelaw14.FrameBegin', WHERE WHAT IT READS IS OF BULK AT MOST 1048576: true; the input reads as it did. -/
def frameBeginUptoRow : OpenClaim := { program := "ytlbabiemgageaaagreatdoor", sum := "a126a290ffd3960b942d78b7ff5fc213f2eedcc3e7300d3dc29f9cdd8ebc65fc", func := "monocle/monoclelaw14.FrameBegin", spec := "frameBegin", unfollowed := true, recurses := true, named := ["monocle/frame.identity", "monocle/surface.places", "monocle/fix.powers", "math/bits.divideError", "math/bits.overflowError"], plainKeys := false, apart := false, laid := [("monocle/fix.powers", laid_monocle_fix_powers), ("monocle/surface.places", laid_monocle_surface_places), ("monocle/frame.identity", laid_monocle_frame_identity)], narrowed := true }
def FrameBeginUptoSaid : Prop := frameBeginUptoRow.holds Tryz.pinned (OpenSpec.upto frameBeginSpec)

/-- 'monoclelaw14.FrameUndo', WHERE WHAT IT READS IS OF BULK AT MOST 1048576: true; the input reads as it did. -/
def frameUndoUptoRow : OpenClaim := { program := "ytlbabiemgageaaagreatdoor", sum := "a126a290ffd3960b942d78b7ff5fc213f2eedcc3e7300d3dc29f9cdd8ebc65fc", func := "monocle/monoclelaw14.FrameUndo", spec := "frameUndo", unfollowed := true, recurses := true, named := ["monocle/frame.identity", "monocle/surface.places", "monocle/fix.powers", "math/bits.divideError", "math/bits.overflowError"], plainKeys := false, apart := false, laid := [("monocle/fix.powers", laid_monocle_fix_powers), ("monocle/surface.places", laid_monocle_surface_places), ("monocle/frame.identity", laid_monocle_frame_identity)], narrowed := true }
def FrameUndoUptoSaid : Prop := frameUndoUptoRow.holds Tryz.pinned (OpenSpec.upto frameUndoSpec)

/-- 'monoclelaw14.FrameKnown', WHERE WHAT IT READS IS OF BULK AT MOST 1048576: true; the input reads as it did. -/
def frameKnownUptoRow : OpenClaim := { program := "ytlbabiemgageaaagreatdoor", sum := "a126a290ffd3960b942d78b7ff5fc213f2eedcc3e7300d3dc29f9cdd8ebc65fc", func := "monocle/monoclelaw14.FrameKnown", spec := "frameKnown", unfollowed := true, recurses := true, named := ["monocle/frame.identity", "monocle/surface.places", "monocle/fix.powers", "math/bits.divideError", "math/bits.overflowError"], plainKeys := false, apart := false, laid := [("monocle/fix.powers", laid_monocle_fix_powers), ("monocle/surface.places", laid_monocle_surface_places), ("monocle/frame.identity", laid_monocle_frame_identity)], narrowed := true }
def FrameKnownUptoSaid : Prop := frameKnownUptoRow.holds Tryz.pinned (OpenSpec.upto frameKnownSpec)

end Rows
end Go.Proofs.YtlbabiemgageaaaGreatDoor
