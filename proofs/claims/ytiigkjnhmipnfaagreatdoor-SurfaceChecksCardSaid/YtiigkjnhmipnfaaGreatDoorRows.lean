/-
  NARROWER THAN 'FOR EVERY INPUT', by the rows' own cells (each row's printed sentence says how): SurfaceChecks: laid · SurfaceParams: laid · SurfaceSags: laid · SurfaceSlopes: laid · SurfaceConic: laid · SurfaceSteep: laid · SurfaceEven: laid · SurfaceWithin: laid · SurfaceRound: laid · SurfaceSets: laid · SurfaceKnown: laid.
  DERIVED. THE GIVEN ROWS OF THIS SEAT. 11 by the template 'for every input the law returns true; each argument reads behind the call as it read before'; 0 by the template 'total and deterministic' (their statements: YtiigkjnhmipnfaaGreatDoorTotals.lean).
  GIVEN WITH THE SEED: the statements are not yours to turn. If you find one false, say at which input.
  Laid BY PROGRAM, IN A SANDBOX (cutbox-rows.mjs): the forced cells as the released guide's own fill.sh prints them over the translation 3836e5115f3abc4b… (all of the seat's roots in one cut). By AI agents, Wed Nov 11 2026. No macro, syntax, notation, axiom, sorry.
-/
import Derived.Test.YtiigkjnhmipnfaaGreatDoorChecked
import GoSem.Claim
import GoSem.ClaimJoined
import GoSem.ClaimMapViews
import Derived.JoinedTies
import Derived.KernelRfl
namespace Go.Proofs.YtiigkjnhmipnfaaGreatDoor
/- THE CELL 'sum', in the pinned program and in every row, IS THE sha256 OF THE DUMP (.gsa) THAT YtiigkjnhmipnfaaGreatDoorProg.lean LOADS. Nothing in Lean hashes anything: it is a label: what it is worth is what the hold of that sum in a sandbox is worth. -/
noncomputable def Tryz.pinned : Pinned := { name := "ytiigkjnhmipnfaagreatdoor", sum := "3836e5115f3abc4bf2e638b0baf530d9d13fdf0a6e1fe683a4c6baa8d2a94b60", checked := Tryz.checked }
namespace Rows
def none {H : Type} : Left H := { results := [], args := [] }

/- WHAT THE LISTED PACKAGE-LEVEL VARIABLES READ AS WHEN THE CALL BEGINS. Each datum BY PROGRAM (the guide's laid-datum.mjs) off the statement by which the dump's own 'gosem.cut.vars' lays the variable. In a bare row this is a premise. The card (YtiigkjnhmipnfaaGreatDoorCards.lean) ties it to the program's text. -/
def laid_monocle_surface_one {H : Type} : DataW H := .agg [.lit (.int .i64 4294967296), .lit (.int .i64 4294967296)]
def laid_monocle_surface_places {H : Type} : DataW H := .map [(.int .i64 1, .slice [.lit (.int .i64 1), .lit (.int .i64 2), .lit (.int .i64 5), .lit (.int .i64 6), .lit (.int .i64 7), .lit (.int .i64 8), .lit (.int .i64 10)] []), (.int .i64 2, .slice [.lit (.int .i64 1), .lit (.int .i64 2), .lit (.int .i64 3), .lit (.int .i64 4), .lit (.int .i64 10)] []), (.int .i64 3, .slice [.lit (.int .i64 11), .lit (.int .i64 12), .lit (.int .i64 13), .lit (.int .i64 14), .lit (.int .i64 15)] []), (.int .i64 4, .slice [.lit (.int .i64 1), .lit (.int .i64 10)] [])]
def laid_monocle_monocleref11_bad {H : Type} : DataW H := .agg [.lit (.int .i64 1), .lit (.int .i64 0)]

/-- 'monoclelaw11.SurfaceChecks': WHATEVER THE INPUT: true; the input reads as it did. -/
def surfaceChecksSpec : ChangeSpec := { name := "surfaceChecks", fn := fun _ => fun
  | [d1, d2, d3] => { results := [.lit (.bool true)], args := [d1, d2, d3] }
  | _ => none }
def surfaceChecksRow : OpenClaim := { program := "ytiigkjnhmipnfaagreatdoor", sum := "3836e5115f3abc4bf2e638b0baf530d9d13fdf0a6e1fe683a4c6baa8d2a94b60", func := "monocle/monoclelaw11.SurfaceChecks", spec := "surfaceChecks", inPlace := ["math/bits.Add64"], unfollowed := true, recurses := true, named := ["monocle/surface.one", "math/bits.divideError", "math/bits.overflowError", "monocle/surface.places"], apart := false, laid := [("monocle/surface.one", laid_monocle_surface_one), ("monocle/surface.places", laid_monocle_surface_places)] }
def SurfaceChecksSaid : Prop := surfaceChecksRow.holds Tryz.pinned (OpenSpec.ofChange surfaceChecksSpec)

/-- ITS FALSE NEIGHBOUR: 'it returns false'. Refute it at one input. -/
def surfaceChecksWrong : ChangeSpec := { name := "surfaceChecks", fn := fun _ => fun
  | [d1, d2, d3] => { results := [.lit (.bool false)], args := [d1, d2, d3] }
  | _ => none }
def SurfaceChecksWrongFalsely : Prop := surfaceChecksRow.holds Tryz.pinned (OpenSpec.ofChange surfaceChecksWrong)

/-- 'monoclelaw11.SurfaceParams': WHATEVER THE INPUT: true; the input reads as it did. -/
def surfaceParamsSpec : ChangeSpec := { name := "surfaceParams", fn := fun _ => fun
  | [d1, d2, d3, d4] => { results := [.lit (.bool true)], args := [d1, d2, d3, d4] }
  | _ => none }
def surfaceParamsRow : OpenClaim := { program := "ytiigkjnhmipnfaagreatdoor", sum := "3836e5115f3abc4bf2e638b0baf530d9d13fdf0a6e1fe683a4c6baa8d2a94b60", func := "monocle/monoclelaw11.SurfaceParams", spec := "surfaceParams", inPlace := ["math/bits.Add64"], unfollowed := true, recurses := true, named := ["monocle/surface.one", "math/bits.divideError", "math/bits.overflowError", "monocle/surface.places"], apart := false, laid := [("monocle/surface.one", laid_monocle_surface_one), ("monocle/surface.places", laid_monocle_surface_places)] }
def SurfaceParamsSaid : Prop := surfaceParamsRow.holds Tryz.pinned (OpenSpec.ofChange surfaceParamsSpec)

/-- ITS FALSE NEIGHBOUR: 'it returns false'. Refute it at one input. -/
def surfaceParamsWrong : ChangeSpec := { name := "surfaceParams", fn := fun _ => fun
  | [d1, d2, d3, d4] => { results := [.lit (.bool false)], args := [d1, d2, d3, d4] }
  | _ => none }
def SurfaceParamsWrongFalsely : Prop := surfaceParamsRow.holds Tryz.pinned (OpenSpec.ofChange surfaceParamsWrong)

/-- 'monoclelaw11.SurfaceSags': WHATEVER THE INPUT: true; the input reads as it did. -/
def surfaceSagsSpec : ChangeSpec := { name := "surfaceSags", fn := fun _ => fun
  | [d1, d2, d3, d4, d5] => { results := [.lit (.bool true)], args := [d1, d2, d3, d4, d5] }
  | _ => none }
def surfaceSagsRow : OpenClaim := { program := "ytiigkjnhmipnfaagreatdoor", sum := "3836e5115f3abc4bf2e638b0baf530d9d13fdf0a6e1fe683a4c6baa8d2a94b60", func := "monocle/monoclelaw11.SurfaceSags", spec := "surfaceSags", inPlace := ["math/bits.Add64"], unfollowed := true, recurses := true, named := ["monocle/surface.one", "math/bits.divideError", "math/bits.overflowError", "monocle/surface.places", "monocle/monocleref11.bad"], apart := false, laid := [("monocle/monocleref11.bad", laid_monocle_monocleref11_bad), ("monocle/surface.one", laid_monocle_surface_one), ("monocle/surface.places", laid_monocle_surface_places)] }
def SurfaceSagsSaid : Prop := surfaceSagsRow.holds Tryz.pinned (OpenSpec.ofChange surfaceSagsSpec)

/-- ITS FALSE NEIGHBOUR: 'it returns false'. Refute it at one input. -/
def surfaceSagsWrong : ChangeSpec := { name := "surfaceSags", fn := fun _ => fun
  | [d1, d2, d3, d4, d5] => { results := [.lit (.bool false)], args := [d1, d2, d3, d4, d5] }
  | _ => none }
def SurfaceSagsWrongFalsely : Prop := surfaceSagsRow.holds Tryz.pinned (OpenSpec.ofChange surfaceSagsWrong)

/-- 'monoclelaw11.SurfaceSlopes': WHATEVER THE INPUT: true; the input reads as it did. -/
def surfaceSlopesSpec : ChangeSpec := { name := "surfaceSlopes", fn := fun _ => fun
  | [d1, d2, d3, d4, d5] => { results := [.lit (.bool true)], args := [d1, d2, d3, d4, d5] }
  | _ => none }
def surfaceSlopesRow : OpenClaim := { program := "ytiigkjnhmipnfaagreatdoor", sum := "3836e5115f3abc4bf2e638b0baf530d9d13fdf0a6e1fe683a4c6baa8d2a94b60", func := "monocle/monoclelaw11.SurfaceSlopes", spec := "surfaceSlopes", inPlace := ["math/bits.Add64"], unfollowed := true, recurses := true, named := ["monocle/surface.one", "math/bits.divideError", "math/bits.overflowError", "monocle/surface.places", "monocle/monocleref11.bad"], apart := false, laid := [("monocle/monocleref11.bad", laid_monocle_monocleref11_bad), ("monocle/surface.one", laid_monocle_surface_one), ("monocle/surface.places", laid_monocle_surface_places)] }
def SurfaceSlopesSaid : Prop := surfaceSlopesRow.holds Tryz.pinned (OpenSpec.ofChange surfaceSlopesSpec)

/-- ITS FALSE NEIGHBOUR: 'it returns false'. Refute it at one input. -/
def surfaceSlopesWrong : ChangeSpec := { name := "surfaceSlopes", fn := fun _ => fun
  | [d1, d2, d3, d4, d5] => { results := [.lit (.bool false)], args := [d1, d2, d3, d4, d5] }
  | _ => none }
def SurfaceSlopesWrongFalsely : Prop := surfaceSlopesRow.holds Tryz.pinned (OpenSpec.ofChange surfaceSlopesWrong)

/-- 'monoclelaw11.SurfaceConic': WHATEVER THE INPUT: true; the input reads as it did. -/
def surfaceConicSpec : ChangeSpec := { name := "surfaceConic", fn := fun _ => fun
  | [d1, d2] => { results := [.lit (.bool true)], args := [d1, d2] }
  | _ => none }
def surfaceConicRow : OpenClaim := { program := "ytiigkjnhmipnfaagreatdoor", sum := "3836e5115f3abc4bf2e638b0baf530d9d13fdf0a6e1fe683a4c6baa8d2a94b60", func := "monocle/monoclelaw11.SurfaceConic", spec := "surfaceConic", inPlace := ["math/bits.Add64"], unfollowed := true, recurses := true, named := ["monocle/surface.one", "math/bits.divideError", "math/bits.overflowError", "monocle/surface.places"], apart := false, laid := [("monocle/surface.one", laid_monocle_surface_one), ("monocle/surface.places", laid_monocle_surface_places)] }
def SurfaceConicSaid : Prop := surfaceConicRow.holds Tryz.pinned (OpenSpec.ofChange surfaceConicSpec)

/-- ITS FALSE NEIGHBOUR: 'it returns false'. Refute it at one input. -/
def surfaceConicWrong : ChangeSpec := { name := "surfaceConic", fn := fun _ => fun
  | [d1, d2] => { results := [.lit (.bool false)], args := [d1, d2] }
  | _ => none }
def SurfaceConicWrongFalsely : Prop := surfaceConicRow.holds Tryz.pinned (OpenSpec.ofChange surfaceConicWrong)

/-- 'monoclelaw11.SurfaceSteep': WHATEVER THE INPUT: true; the input reads as it did. -/
def surfaceSteepSpec : ChangeSpec := { name := "surfaceSteep", fn := fun _ => fun
  | [d1, d2] => { results := [.lit (.bool true)], args := [d1, d2] }
  | _ => none }
def surfaceSteepRow : OpenClaim := { program := "ytiigkjnhmipnfaagreatdoor", sum := "3836e5115f3abc4bf2e638b0baf530d9d13fdf0a6e1fe683a4c6baa8d2a94b60", func := "monocle/monoclelaw11.SurfaceSteep", spec := "surfaceSteep", inPlace := ["math/bits.Add64"], unfollowed := true, recurses := true, named := ["monocle/surface.one", "math/bits.divideError", "math/bits.overflowError", "monocle/surface.places"], apart := false, laid := [("monocle/surface.one", laid_monocle_surface_one), ("monocle/surface.places", laid_monocle_surface_places)] }
def SurfaceSteepSaid : Prop := surfaceSteepRow.holds Tryz.pinned (OpenSpec.ofChange surfaceSteepSpec)

/-- ITS FALSE NEIGHBOUR: 'it returns false'. Refute it at one input. -/
def surfaceSteepWrong : ChangeSpec := { name := "surfaceSteep", fn := fun _ => fun
  | [d1, d2] => { results := [.lit (.bool false)], args := [d1, d2] }
  | _ => none }
def SurfaceSteepWrongFalsely : Prop := surfaceSteepRow.holds Tryz.pinned (OpenSpec.ofChange surfaceSteepWrong)

/-- 'monoclelaw11.SurfaceEven': WHATEVER THE INPUT: true; the input reads as it did. -/
def surfaceEvenSpec : ChangeSpec := { name := "surfaceEven", fn := fun _ => fun
  | [d1, d2, d3, d4] => { results := [.lit (.bool true)], args := [d1, d2, d3, d4] }
  | _ => none }
def surfaceEvenRow : OpenClaim := { program := "ytiigkjnhmipnfaagreatdoor", sum := "3836e5115f3abc4bf2e638b0baf530d9d13fdf0a6e1fe683a4c6baa8d2a94b60", func := "monocle/monoclelaw11.SurfaceEven", spec := "surfaceEven", inPlace := ["math/bits.Add64"], unfollowed := true, recurses := true, named := ["monocle/surface.one", "math/bits.divideError", "math/bits.overflowError", "monocle/surface.places"], apart := false, laid := [("monocle/surface.one", laid_monocle_surface_one), ("monocle/surface.places", laid_monocle_surface_places)] }
def SurfaceEvenSaid : Prop := surfaceEvenRow.holds Tryz.pinned (OpenSpec.ofChange surfaceEvenSpec)

/-- ITS FALSE NEIGHBOUR: 'it returns false'. Refute it at one input. -/
def surfaceEvenWrong : ChangeSpec := { name := "surfaceEven", fn := fun _ => fun
  | [d1, d2, d3, d4] => { results := [.lit (.bool false)], args := [d1, d2, d3, d4] }
  | _ => none }
def SurfaceEvenWrongFalsely : Prop := surfaceEvenRow.holds Tryz.pinned (OpenSpec.ofChange surfaceEvenWrong)

/-- 'monoclelaw11.SurfaceWithin': WHATEVER THE INPUT: true; the input reads as it did. -/
def surfaceWithinSpec : ChangeSpec := { name := "surfaceWithin", fn := fun _ => fun
  | [d1, d2] => { results := [.lit (.bool true)], args := [d1, d2] }
  | _ => none }
def surfaceWithinRow : OpenClaim := { program := "ytiigkjnhmipnfaagreatdoor", sum := "3836e5115f3abc4bf2e638b0baf530d9d13fdf0a6e1fe683a4c6baa8d2a94b60", func := "monocle/monoclelaw11.SurfaceWithin", spec := "surfaceWithin", inPlace := ["math/bits.Add64"], unfollowed := true, recurses := true, named := ["monocle/surface.one", "math/bits.divideError", "math/bits.overflowError", "monocle/surface.places"], apart := false, laid := [("monocle/surface.one", laid_monocle_surface_one), ("monocle/surface.places", laid_monocle_surface_places)] }
def SurfaceWithinSaid : Prop := surfaceWithinRow.holds Tryz.pinned (OpenSpec.ofChange surfaceWithinSpec)

/-- ITS FALSE NEIGHBOUR: 'it returns false'. Refute it at one input. -/
def surfaceWithinWrong : ChangeSpec := { name := "surfaceWithin", fn := fun _ => fun
  | [d1, d2] => { results := [.lit (.bool false)], args := [d1, d2] }
  | _ => none }
def SurfaceWithinWrongFalsely : Prop := surfaceWithinRow.holds Tryz.pinned (OpenSpec.ofChange surfaceWithinWrong)

/-- 'monoclelaw11.SurfaceRound': WHATEVER THE INPUT: true; the input reads as it did. -/
def surfaceRoundSpec : ChangeSpec := { name := "surfaceRound", fn := fun _ => fun
  | [d1, d2] => { results := [.lit (.bool true)], args := [d1, d2] }
  | _ => none }
def surfaceRoundRow : OpenClaim := { program := "ytiigkjnhmipnfaagreatdoor", sum := "3836e5115f3abc4bf2e638b0baf530d9d13fdf0a6e1fe683a4c6baa8d2a94b60", func := "monocle/monoclelaw11.SurfaceRound", spec := "surfaceRound", inPlace := ["math/bits.Add64"], unfollowed := true, recurses := true, named := ["monocle/surface.one", "math/bits.divideError", "math/bits.overflowError", "monocle/surface.places"], apart := false, laid := [("monocle/surface.one", laid_monocle_surface_one), ("monocle/surface.places", laid_monocle_surface_places)] }
def SurfaceRoundSaid : Prop := surfaceRoundRow.holds Tryz.pinned (OpenSpec.ofChange surfaceRoundSpec)

/-- ITS FALSE NEIGHBOUR: 'it returns false'. Refute it at one input. -/
def surfaceRoundWrong : ChangeSpec := { name := "surfaceRound", fn := fun _ => fun
  | [d1, d2] => { results := [.lit (.bool false)], args := [d1, d2] }
  | _ => none }
def SurfaceRoundWrongFalsely : Prop := surfaceRoundRow.holds Tryz.pinned (OpenSpec.ofChange surfaceRoundWrong)

/-- 'monoclelaw11.SurfaceSets': WHATEVER THE INPUT: true; the input reads as it did. -/
def surfaceSetsSpec : ChangeSpec := { name := "surfaceSets", fn := fun _ => fun
  | [d1, d2, d3] => { results := [.lit (.bool true)], args := [d1, d2, d3] }
  | _ => none }
def surfaceSetsRow : OpenClaim := { program := "ytiigkjnhmipnfaagreatdoor", sum := "3836e5115f3abc4bf2e638b0baf530d9d13fdf0a6e1fe683a4c6baa8d2a94b60", func := "monocle/monoclelaw11.SurfaceSets", spec := "surfaceSets", inPlace := ["math/bits.Add64"], unfollowed := true, recurses := true, named := ["monocle/surface.one", "math/bits.divideError", "math/bits.overflowError", "monocle/surface.places"], apart := false, laid := [("monocle/surface.one", laid_monocle_surface_one), ("monocle/surface.places", laid_monocle_surface_places)] }
def SurfaceSetsSaid : Prop := surfaceSetsRow.holds Tryz.pinned (OpenSpec.ofChange surfaceSetsSpec)

/-- ITS FALSE NEIGHBOUR: 'it returns false'. Refute it at one input. -/
def surfaceSetsWrong : ChangeSpec := { name := "surfaceSets", fn := fun _ => fun
  | [d1, d2, d3] => { results := [.lit (.bool false)], args := [d1, d2, d3] }
  | _ => none }
def SurfaceSetsWrongFalsely : Prop := surfaceSetsRow.holds Tryz.pinned (OpenSpec.ofChange surfaceSetsWrong)

/-- 'monoclelaw11.SurfaceKnown': WHATEVER THE INPUT: true; the input reads as it did. -/
def surfaceKnownSpec : ChangeSpec := { name := "surfaceKnown", fn := fun _ => fun
  | [] => { results := [.lit (.bool true)], args := [] }
  | _ => none }
def surfaceKnownRow : OpenClaim := { program := "ytiigkjnhmipnfaagreatdoor", sum := "3836e5115f3abc4bf2e638b0baf530d9d13fdf0a6e1fe683a4c6baa8d2a94b60", func := "monocle/monoclelaw11.SurfaceKnown", spec := "surfaceKnown", inPlace := ["math/bits.Add64"], unfollowed := true, recurses := true, named := ["monocle/surface.one", "math/bits.divideError", "math/bits.overflowError", "monocle/surface.places"], apart := false, laid := [("monocle/surface.one", laid_monocle_surface_one), ("monocle/surface.places", laid_monocle_surface_places)] }
def SurfaceKnownSaid : Prop := surfaceKnownRow.holds Tryz.pinned (OpenSpec.ofChange surfaceKnownSpec)

/-- ITS FALSE NEIGHBOUR: 'it returns false'. Refute it at one input. -/
def surfaceKnownWrong : ChangeSpec := { name := "surfaceKnown", fn := fun _ => fun
  | [] => { results := [.lit (.bool false)], args := [] }
  | _ => none }
def SurfaceKnownWrongFalsely : Prop := surfaceKnownRow.holds Tryz.pinned (OpenSpec.ofChange surfaceKnownWrong)

/- THE SECOND FORM. 'bulk': how many values and letters a reading holds, each counted each time it is reached (what is shared counts as often as it is met; a slice's spare places count too). A statement '..UptoSaid' is the law's where the arguments, and the package variables that the reading takes, are together of bulk at most 1048576: NARROWER than '..Said'. Prove '..Said' where nothing that the law and all that it calls make is longer than what came in: it says more and counts as full. Else prove '..UptoSaid'. A law counts once. -/
mutual
def uptoBulk {H : Type} : DataW H → Nat
  | .lit (.string bytes) => bytes.length + 1
  | .lit _ => 1
  | .nil => 1
  | .ptr d => uptoBulk d + 1
  | .slice elems spare => uptoBulkAll elems + uptoBulkAll spare + 1
  | .agg parts => uptoBulkAll parts + 1
  | .iface _ d => uptoBulk d + 1
  | .map entries => uptoBulkEntries entries + 1
  | .held _ => 1
def uptoBulkAll {H : Type} : List (DataW H) → Nat
  | [] => 0
  | d :: r => uptoBulk d + uptoBulkAll r
def uptoBulkEntries {H : Type} : List (Lit × DataW H) → Nat
  | [] => 0
  | x :: r => uptoBulkEntry x + uptoBulkEntries r
def uptoBulkEntry {H : Type} : Lit × DataW H → Nat
  | (.string bytes, d) => bytes.length + uptoBulk d + 1
  | (_, d) => uptoBulk d + 1
 end
def uptoSmall : (H : Type) → List (DataW H) → Bool := fun _ ds => decide (uptoBulkAll ds ≤ 1048576)
def OpenSpec.upto (s : _root_.Go.ChangeSpec) : _root_.Go.OpenSpec := { _root_.Go.OpenSpec.ofChange s with cond := some uptoSmall }

/-- 'monoclelaw11.SurfaceChecks', WHERE WHAT IT READS IS OF BULK AT MOST 1048576: true; the input reads as it did. -/
def surfaceChecksUptoRow : OpenClaim := { program := "ytiigkjnhmipnfaagreatdoor", sum := "3836e5115f3abc4bf2e638b0baf530d9d13fdf0a6e1fe683a4c6baa8d2a94b60", func := "monocle/monoclelaw11.SurfaceChecks", spec := "surfaceChecks", inPlace := ["math/bits.Add64"], unfollowed := true, recurses := true, named := ["monocle/surface.one", "math/bits.divideError", "math/bits.overflowError", "monocle/surface.places"], apart := false, laid := [("monocle/surface.one", laid_monocle_surface_one), ("monocle/surface.places", laid_monocle_surface_places)], narrowed := true }
def SurfaceChecksUptoSaid : Prop := surfaceChecksUptoRow.holds Tryz.pinned (OpenSpec.upto surfaceChecksSpec)

/-- 'monoclelaw11.SurfaceParams', WHERE WHAT IT READS IS OF BULK AT MOST 1048576: true; the input reads as it did. -/
def surfaceParamsUptoRow : OpenClaim := { program := "ytiigkjnhmipnfaagreatdoor", sum := "3836e5115f3abc4bf2e638b0baf530d9d13fdf0a6e1fe683a4c6baa8d2a94b60", func := "monocle/monoclelaw11.SurfaceParams", spec := "surfaceParams", inPlace := ["math/bits.Add64"], unfollowed := true, recurses := true, named := ["monocle/surface.one", "math/bits.divideError", "math/bits.overflowError", "monocle/surface.places"], apart := false, laid := [("monocle/surface.one", laid_monocle_surface_one), ("monocle/surface.places", laid_monocle_surface_places)], narrowed := true }
def SurfaceParamsUptoSaid : Prop := surfaceParamsUptoRow.holds Tryz.pinned (OpenSpec.upto surfaceParamsSpec)

/-- 'monoclelaw11.SurfaceSags', WHERE WHAT IT READS IS OF BULK AT MOST 1048576: true; the input reads as it did. -/
def surfaceSagsUptoRow : OpenClaim := { program := "ytiigkjnhmipnfaagreatdoor", sum := "3836e5115f3abc4bf2e638b0baf530d9d13fdf0a6e1fe683a4c6baa8d2a94b60", func := "monocle/monoclelaw11.SurfaceSags", spec := "surfaceSags", inPlace := ["math/bits.Add64"], unfollowed := true, recurses := true, named := ["monocle/surface.one", "math/bits.divideError", "math/bits.overflowError", "monocle/surface.places", "monocle/monocleref11.bad"], apart := false, laid := [("monocle/monocleref11.bad", laid_monocle_monocleref11_bad), ("monocle/surface.one", laid_monocle_surface_one), ("monocle/surface.places", laid_monocle_surface_places)], narrowed := true }
def SurfaceSagsUptoSaid : Prop := surfaceSagsUptoRow.holds Tryz.pinned (OpenSpec.upto surfaceSagsSpec)

/-- 'monoclelaw11.SurfaceSlopes', WHERE WHAT IT READS IS OF BULK AT MOST 1048576: true; the input reads as it did. -/
def surfaceSlopesUptoRow : OpenClaim := { program := "ytiigkjnhmipnfaagreatdoor", sum := "3836e5115f3abc4bf2e638b0baf530d9d13fdf0a6e1fe683a4c6baa8d2a94b60", func := "monocle/monoclelaw11.SurfaceSlopes", spec := "surfaceSlopes", inPlace := ["math/bits.Add64"], unfollowed := true, recurses := true, named := ["monocle/surface.one", "math/bits.divideError", "math/bits.overflowError", "monocle/surface.places", "monocle/monocleref11.bad"], apart := false, laid := [("monocle/monocleref11.bad", laid_monocle_monocleref11_bad), ("monocle/surface.one", laid_monocle_surface_one), ("monocle/surface.places", laid_monocle_surface_places)], narrowed := true }
def SurfaceSlopesUptoSaid : Prop := surfaceSlopesUptoRow.holds Tryz.pinned (OpenSpec.upto surfaceSlopesSpec)

/-- 'monoclelaw11.SurfaceConic', WHERE WHAT IT READS IS OF BULK AT MOST 1048576: true; the input reads as it did. -/
def surfaceConicUptoRow : OpenClaim := { program := "ytiigkjnhmipnfaagreatdoor", sum := "3836e5115f3abc4bf2e638b0baf530d9d13fdf0a6e1fe683a4c6baa8d2a94b60", func := "monocle/monoclelaw11.SurfaceConic", spec := "surfaceConic", inPlace := ["math/bits.Add64"], unfollowed := true, recurses := true, named := ["monocle/surface.one", "math/bits.divideError", "math/bits.overflowError", "monocle/surface.places"], apart := false, laid := [("monocle/surface.one", laid_monocle_surface_one), ("monocle/surface.places", laid_monocle_surface_places)], narrowed := true }
def SurfaceConicUptoSaid : Prop := surfaceConicUptoRow.holds Tryz.pinned (OpenSpec.upto surfaceConicSpec)

/-- 'monoclelaw11.SurfaceSteep', WHERE WHAT IT READS IS OF BULK AT MOST 1048576: true; the input reads as it did. -/
def surfaceSteepUptoRow : OpenClaim := { program := "ytiigkjnhmipnfaagreatdoor", sum := "3836e5115f3abc4bf2e638b0baf530d9d13fdf0a6e1fe683a4c6baa8d2a94b60", func := "monocle/monoclelaw11.SurfaceSteep", spec := "surfaceSteep", inPlace := ["math/bits.Add64"], unfollowed := true, recurses := true, named := ["monocle/surface.one", "math/bits.divideError", "math/bits.overflowError", "monocle/surface.places"], apart := false, laid := [("monocle/surface.one", laid_monocle_surface_one), ("monocle/surface.places", laid_monocle_surface_places)], narrowed := true }
def SurfaceSteepUptoSaid : Prop := surfaceSteepUptoRow.holds Tryz.pinned (OpenSpec.upto surfaceSteepSpec)

/-- 'monoclelaw11.SurfaceEven', WHERE WHAT IT READS IS OF BULK AT MOST 1048576: true; the input reads as it did. -/
def surfaceEvenUptoRow : OpenClaim := { program := "ytiigkjnhmipnfaagreatdoor", sum := "3836e5115f3abc4bf2e638b0baf530d9d13fdf0a6e1fe683a4c6baa8d2a94b60", func := "monocle/monoclelaw11.SurfaceEven", spec := "surfaceEven", inPlace := ["math/bits.Add64"], unfollowed := true, recurses := true, named := ["monocle/surface.one", "math/bits.divideError", "math/bits.overflowError", "monocle/surface.places"], apart := false, laid := [("monocle/surface.one", laid_monocle_surface_one), ("monocle/surface.places", laid_monocle_surface_places)], narrowed := true }
def SurfaceEvenUptoSaid : Prop := surfaceEvenUptoRow.holds Tryz.pinned (OpenSpec.upto surfaceEvenSpec)

/-- 'monoclelaw11.SurfaceWithin', WHERE WHAT IT READS IS OF BULK AT MOST 1048576: true; the input reads as it did. -/
def surfaceWithinUptoRow : OpenClaim := { program := "ytiigkjnhmipnfaagreatdoor", sum := "3836e5115f3abc4bf2e638b0baf530d9d13fdf0a6e1fe683a4c6baa8d2a94b60", func := "monocle/monoclelaw11.SurfaceWithin", spec := "surfaceWithin", inPlace := ["math/bits.Add64"], unfollowed := true, recurses := true, named := ["monocle/surface.one", "math/bits.divideError", "math/bits.overflowError", "monocle/surface.places"], apart := false, laid := [("monocle/surface.one", laid_monocle_surface_one), ("monocle/surface.places", laid_monocle_surface_places)], narrowed := true }
def SurfaceWithinUptoSaid : Prop := surfaceWithinUptoRow.holds Tryz.pinned (OpenSpec.upto surfaceWithinSpec)

/-- 'monoclelaw11.SurfaceRound', WHERE WHAT IT READS IS OF BULK AT MOST 1048576: true; the input reads as it did. -/
def surfaceRoundUptoRow : OpenClaim := { program := "ytiigkjnhmipnfaagreatdoor", sum := "3836e5115f3abc4bf2e638b0baf530d9d13fdf0a6e1fe683a4c6baa8d2a94b60", func := "monocle/monoclelaw11.SurfaceRound", spec := "surfaceRound", inPlace := ["math/bits.Add64"], unfollowed := true, recurses := true, named := ["monocle/surface.one", "math/bits.divideError", "math/bits.overflowError", "monocle/surface.places"], apart := false, laid := [("monocle/surface.one", laid_monocle_surface_one), ("monocle/surface.places", laid_monocle_surface_places)], narrowed := true }
def SurfaceRoundUptoSaid : Prop := surfaceRoundUptoRow.holds Tryz.pinned (OpenSpec.upto surfaceRoundSpec)

/-- 'monoclelaw11.SurfaceSets', WHERE WHAT IT READS IS OF BULK AT MOST 1048576: true; the input reads as it did. -/
def surfaceSetsUptoRow : OpenClaim := { program := "ytiigkjnhmipnfaagreatdoor", sum := "3836e5115f3abc4bf2e638b0baf530d9d13fdf0a6e1fe683a4c6baa8d2a94b60", func := "monocle/monoclelaw11.SurfaceSets", spec := "surfaceSets", inPlace := ["math/bits.Add64"], unfollowed := true, recurses := true, named := ["monocle/surface.one", "math/bits.divideError", "math/bits.overflowError", "monocle/surface.places"], apart := false, laid := [("monocle/surface.one", laid_monocle_surface_one), ("monocle/surface.places", laid_monocle_surface_places)], narrowed := true }
def SurfaceSetsUptoSaid : Prop := surfaceSetsUptoRow.holds Tryz.pinned (OpenSpec.upto surfaceSetsSpec)

/-- 'monoclelaw11.SurfaceKnown', WHERE WHAT IT READS IS OF BULK AT MOST 1048576: true; the input reads as it did. -/
def surfaceKnownUptoRow : OpenClaim := { program := "ytiigkjnhmipnfaagreatdoor", sum := "3836e5115f3abc4bf2e638b0baf530d9d13fdf0a6e1fe683a4c6baa8d2a94b60", func := "monocle/monoclelaw11.SurfaceKnown", spec := "surfaceKnown", inPlace := ["math/bits.Add64"], unfollowed := true, recurses := true, named := ["monocle/surface.one", "math/bits.divideError", "math/bits.overflowError", "monocle/surface.places"], apart := false, laid := [("monocle/surface.one", laid_monocle_surface_one), ("monocle/surface.places", laid_monocle_surface_places)], narrowed := true }
def SurfaceKnownUptoSaid : Prop := surfaceKnownUptoRow.holds Tryz.pinned (OpenSpec.upto surfaceKnownSpec)

end Rows
end Go.Proofs.YtiigkjnhmipnfaaGreatDoor
