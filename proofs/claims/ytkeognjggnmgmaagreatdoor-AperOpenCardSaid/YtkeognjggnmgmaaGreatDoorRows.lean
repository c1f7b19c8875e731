/-
  NARROWER THAN 'FOR EVERY INPUT', by the rows' own cells (each row's printed sentence says how): AperInside: laid · AperClear: laid · AperEdges: laid · AperExact: laid · AperWithin: laid · AperOpen: laid · AperKnown: laid.
  DERIVED. THE GIVEN ROWS OF THIS SEAT. 7 by the template 'for every input the law returns true; each argument reads behind the call as it read before'; 0 by the template 'total and deterministic' (their statements: YtkeognjggnmgmaaGreatDoorTotals.lean).
  GIVEN WITH THE SEED: the statements are not yours to turn. If you find one false, say at which input.
  Laid BY PROGRAM, IN A SANDBOX (cutbox-rows.mjs): the forced cells as the released guide's own fill.sh prints them over the translation 91a13452f8d19441… (all of the seat's roots in one cut). By AI agents, Wed Nov 11 2026. No macro, syntax, notation, axiom, sorry.
-/
import Derived.Test.YtkeognjggnmgmaaGreatDoorChecked
import GoSem.Claim
import GoSem.ClaimJoined
import GoSem.ClaimMapViews
import Derived.JoinedTies
import Derived.KernelRfl
namespace Go.Proofs.YtkeognjggnmgmaaGreatDoor
/- THE CELL 'sum', in the pinned program and in every row, IS THE sha256 OF THE DUMP (.gsa) THAT YtkeognjggnmgmaaGreatDoorProg.lean LOADS. Nothing in Lean hashes anything: it is a label: what it is worth is what the hold of that sum in a sandbox is worth. -/
noncomputable def Tryz.pinned : Pinned := { name := "ytkeognjggnmgmaagreatdoor", sum := "91a13452f8d19441f34994588a4585664b4069e54bd17133b24ca726d9d46c3d", checked := Tryz.checked }
namespace Rows
def none {H : Type} : Left H := { results := [], args := [] }

/- WHAT THE LISTED PACKAGE-LEVEL VARIABLES READ AS WHEN THE CALL BEGINS. Each datum BY PROGRAM (the guide's laid-datum.mjs) off the statement by which the dump's own 'gosem.cut.vars' lays the variable. In a bare row this is a premise. The card (YtkeognjggnmgmaaGreatDoorCards.lean) ties it to the program's text. -/
def laid_monocle_fix_powers {H : Type} : DataW H := .agg [.lit (.int .u64 1), .lit (.int .u64 10), .lit (.int .u64 100), .lit (.int .u64 1000), .lit (.int .u64 10000), .lit (.int .u64 100000), .lit (.int .u64 1000000), .lit (.int .u64 10000000), .lit (.int .u64 100000000), .lit (.int .u64 1000000000), .lit (.int .u64 10000000000), .lit (.int .u64 100000000000), .lit (.int .u64 1000000000000)]
def laid_monocle_monocleref11_bad {H : Type} : DataW H := .agg [.lit (.int .i64 1), .lit (.int .i64 0)]
def laid_monocle_surface_one {H : Type} : DataW H := .agg [.lit (.int .i64 4294967296), .lit (.int .i64 4294967296)]
def laid_monocle_surface_places {H : Type} : DataW H := .map [(.int .i64 1, .slice [.lit (.int .i64 1), .lit (.int .i64 2), .lit (.int .i64 5), .lit (.int .i64 6), .lit (.int .i64 7), .lit (.int .i64 8), .lit (.int .i64 10)] []), (.int .i64 2, .slice [.lit (.int .i64 1), .lit (.int .i64 2), .lit (.int .i64 3), .lit (.int .i64 4), .lit (.int .i64 10)] []), (.int .i64 3, .slice [.lit (.int .i64 11), .lit (.int .i64 12), .lit (.int .i64 13), .lit (.int .i64 14), .lit (.int .i64 15)] []), (.int .i64 4, .slice [.lit (.int .i64 1), .lit (.int .i64 10)] [])]
def laid_monocle_aper_units {H : Type} : DataW H := .agg [.lit (.int .i64 1000000000000), .lit (.int .i64 4294967296)]

/-- 'monoclelaw15.AperInside': WHATEVER THE INPUT: true; the input reads as it did. -/
def aperInsideSpec : ChangeSpec := { name := "aperInside", fn := fun _ => fun
  | [d1, d2, d3, d4, d5, d6] => { results := [.lit (.bool true)], args := [d1, d2, d3, d4, d5, d6] }
  | _ => none }
def aperInsideRow : OpenClaim := { program := "ytkeognjggnmgmaagreatdoor", sum := "91a13452f8d19441f34994588a4585664b4069e54bd17133b24ca726d9d46c3d", func := "monocle/monoclelaw15.AperInside", spec := "aperInside", inPlace := ["math/bits.Add64"], unfollowed := true, recurses := true, named := ["monocle/aper.units", "monocle/surface.places", "monocle/fix.powers", "math/bits.divideError", "math/bits.overflowError", "monocle/surface.one", "monocle/monocleref11.bad"], plainKeys := false, apart := false, laid := [("monocle/fix.powers", laid_monocle_fix_powers), ("monocle/monocleref11.bad", laid_monocle_monocleref11_bad), ("monocle/surface.one", laid_monocle_surface_one), ("monocle/surface.places", laid_monocle_surface_places), ("monocle/aper.units", laid_monocle_aper_units)] }
def AperInsideSaid : Prop := aperInsideRow.holds Tryz.pinned (OpenSpec.ofChange aperInsideSpec)

/-- ITS FALSE NEIGHBOUR: 'it returns false'. Refute it at one input. -/
def aperInsideWrong : ChangeSpec := { name := "aperInside", fn := fun _ => fun
  | [d1, d2, d3, d4, d5, d6] => { results := [.lit (.bool false)], args := [d1, d2, d3, d4, d5, d6] }
  | _ => none }
def AperInsideWrongFalsely : Prop := aperInsideRow.holds Tryz.pinned (OpenSpec.ofChange aperInsideWrong)

/-- 'monoclelaw15.AperClear': WHATEVER THE INPUT: true; the input reads as it did. -/
def aperClearSpec : ChangeSpec := { name := "aperClear", fn := fun _ => fun
  | [d1, d2, d3, d4, d5] => { results := [.lit (.bool true)], args := [d1, d2, d3, d4, d5] }
  | _ => none }
def aperClearRow : OpenClaim := { program := "ytkeognjggnmgmaagreatdoor", sum := "91a13452f8d19441f34994588a4585664b4069e54bd17133b24ca726d9d46c3d", func := "monocle/monoclelaw15.AperClear", spec := "aperClear", inPlace := ["math/bits.Add64"], unfollowed := true, recurses := true, named := ["monocle/aper.units", "monocle/surface.places", "monocle/fix.powers", "math/bits.divideError", "math/bits.overflowError", "monocle/surface.one", "monocle/monocleref11.bad"], plainKeys := false, apart := false, laid := [("monocle/fix.powers", laid_monocle_fix_powers), ("monocle/monocleref11.bad", laid_monocle_monocleref11_bad), ("monocle/surface.one", laid_monocle_surface_one), ("monocle/surface.places", laid_monocle_surface_places), ("monocle/aper.units", laid_monocle_aper_units)] }
def AperClearSaid : Prop := aperClearRow.holds Tryz.pinned (OpenSpec.ofChange aperClearSpec)

/-- ITS FALSE NEIGHBOUR: 'it returns false'. Refute it at one input. -/
def aperClearWrong : ChangeSpec := { name := "aperClear", fn := fun _ => fun
  | [d1, d2, d3, d4, d5] => { results := [.lit (.bool false)], args := [d1, d2, d3, d4, d5] }
  | _ => none }
def AperClearWrongFalsely : Prop := aperClearRow.holds Tryz.pinned (OpenSpec.ofChange aperClearWrong)

/-- 'monoclelaw15.AperEdges': WHATEVER THE INPUT: true; the input reads as it did. -/
def aperEdgesSpec : ChangeSpec := { name := "aperEdges", fn := fun _ => fun
  | [d1, d2, d3, d4] => { results := [.lit (.bool true)], args := [d1, d2, d3, d4] }
  | _ => none }
def aperEdgesRow : OpenClaim := { program := "ytkeognjggnmgmaagreatdoor", sum := "91a13452f8d19441f34994588a4585664b4069e54bd17133b24ca726d9d46c3d", func := "monocle/monoclelaw15.AperEdges", spec := "aperEdges", inPlace := ["math/bits.Add64"], unfollowed := true, recurses := true, named := ["monocle/aper.units", "monocle/surface.places", "monocle/fix.powers", "math/bits.divideError", "math/bits.overflowError", "monocle/surface.one", "monocle/monocleref11.bad"], plainKeys := false, apart := false, laid := [("monocle/fix.powers", laid_monocle_fix_powers), ("monocle/monocleref11.bad", laid_monocle_monocleref11_bad), ("monocle/surface.one", laid_monocle_surface_one), ("monocle/surface.places", laid_monocle_surface_places), ("monocle/aper.units", laid_monocle_aper_units)] }
def AperEdgesSaid : Prop := aperEdgesRow.holds Tryz.pinned (OpenSpec.ofChange aperEdgesSpec)

/-- ITS FALSE NEIGHBOUR: 'it returns false'. Refute it at one input. -/
def aperEdgesWrong : ChangeSpec := { name := "aperEdges", fn := fun _ => fun
  | [d1, d2, d3, d4] => { results := [.lit (.bool false)], args := [d1, d2, d3, d4] }
  | _ => none }
def AperEdgesWrongFalsely : Prop := aperEdgesRow.holds Tryz.pinned (OpenSpec.ofChange aperEdgesWrong)

/-- 'monoclelaw15.AperExact': WHATEVER THE INPUT: true; the input reads as it did. -/
def aperExactSpec : ChangeSpec := { name := "aperExact", fn := fun _ => fun
  | [d1, d2, d3] => { results := [.lit (.bool true)], args := [d1, d2, d3] }
  | _ => none }
def aperExactRow : OpenClaim := { program := "ytkeognjggnmgmaagreatdoor", sum := "91a13452f8d19441f34994588a4585664b4069e54bd17133b24ca726d9d46c3d", func := "monocle/monoclelaw15.AperExact", spec := "aperExact", inPlace := ["math/bits.Add64"], unfollowed := true, recurses := true, named := ["monocle/aper.units", "monocle/surface.places", "monocle/fix.powers", "math/bits.divideError", "math/bits.overflowError", "monocle/surface.one"], plainKeys := false, apart := false, laid := [("monocle/fix.powers", laid_monocle_fix_powers), ("monocle/surface.one", laid_monocle_surface_one), ("monocle/surface.places", laid_monocle_surface_places), ("monocle/aper.units", laid_monocle_aper_units)] }
def AperExactSaid : Prop := aperExactRow.holds Tryz.pinned (OpenSpec.ofChange aperExactSpec)

/-- ITS FALSE NEIGHBOUR: 'it returns false'. Refute it at one input. -/
def aperExactWrong : ChangeSpec := { name := "aperExact", fn := fun _ => fun
  | [d1, d2, d3] => { results := [.lit (.bool false)], args := [d1, d2, d3] }
  | _ => none }
def AperExactWrongFalsely : Prop := aperExactRow.holds Tryz.pinned (OpenSpec.ofChange aperExactWrong)

/-- 'monoclelaw15.AperWithin': WHATEVER THE INPUT: true; the input reads as it did. -/
def aperWithinSpec : ChangeSpec := { name := "aperWithin", fn := fun _ => fun
  | [d1, d2] => { results := [.lit (.bool true)], args := [d1, d2] }
  | _ => none }
def aperWithinRow : OpenClaim := { program := "ytkeognjggnmgmaagreatdoor", sum := "91a13452f8d19441f34994588a4585664b4069e54bd17133b24ca726d9d46c3d", func := "monocle/monoclelaw15.AperWithin", spec := "aperWithin", inPlace := ["math/bits.Add64"], unfollowed := true, recurses := true, named := ["monocle/aper.units", "monocle/surface.places", "monocle/fix.powers", "math/bits.divideError", "math/bits.overflowError", "monocle/surface.one"], plainKeys := false, apart := false, laid := [("monocle/fix.powers", laid_monocle_fix_powers), ("monocle/surface.one", laid_monocle_surface_one), ("monocle/surface.places", laid_monocle_surface_places), ("monocle/aper.units", laid_monocle_aper_units)] }
def AperWithinSaid : Prop := aperWithinRow.holds Tryz.pinned (OpenSpec.ofChange aperWithinSpec)

/-- ITS FALSE NEIGHBOUR: 'it returns false'. Refute it at one input. -/
def aperWithinWrong : ChangeSpec := { name := "aperWithin", fn := fun _ => fun
  | [d1, d2] => { results := [.lit (.bool false)], args := [d1, d2] }
  | _ => none }
def AperWithinWrongFalsely : Prop := aperWithinRow.holds Tryz.pinned (OpenSpec.ofChange aperWithinWrong)

/-- 'monoclelaw15.AperOpen': WHATEVER THE INPUT: true; the input reads as it did. -/
def aperOpenSpec : ChangeSpec := { name := "aperOpen", fn := fun _ => fun
  | [d1, d2, d3] => { results := [.lit (.bool true)], args := [d1, d2, d3] }
  | _ => none }
def aperOpenRow : OpenClaim := { program := "ytkeognjggnmgmaagreatdoor", sum := "91a13452f8d19441f34994588a4585664b4069e54bd17133b24ca726d9d46c3d", func := "monocle/monoclelaw15.AperOpen", spec := "aperOpen", inPlace := ["math/bits.Add64"], unfollowed := true, recurses := true, named := ["monocle/aper.units", "monocle/surface.places", "monocle/fix.powers", "math/bits.divideError", "math/bits.overflowError", "monocle/surface.one"], plainKeys := false, apart := false, laid := [("monocle/fix.powers", laid_monocle_fix_powers), ("monocle/surface.one", laid_monocle_surface_one), ("monocle/surface.places", laid_monocle_surface_places), ("monocle/aper.units", laid_monocle_aper_units)] }
def AperOpenSaid : Prop := aperOpenRow.holds Tryz.pinned (OpenSpec.ofChange aperOpenSpec)

/-- ITS FALSE NEIGHBOUR: 'it returns false'. Refute it at one input. -/
def aperOpenWrong : ChangeSpec := { name := "aperOpen", fn := fun _ => fun
  | [d1, d2, d3] => { results := [.lit (.bool false)], args := [d1, d2, d3] }
  | _ => none }
def AperOpenWrongFalsely : Prop := aperOpenRow.holds Tryz.pinned (OpenSpec.ofChange aperOpenWrong)

/-- 'monoclelaw15.AperKnown': WHATEVER THE INPUT: true; the input reads as it did. -/
def aperKnownSpec : ChangeSpec := { name := "aperKnown", fn := fun _ => fun
  | [] => { results := [.lit (.bool true)], args := [] }
  | _ => none }
def aperKnownRow : OpenClaim := { program := "ytkeognjggnmgmaagreatdoor", sum := "91a13452f8d19441f34994588a4585664b4069e54bd17133b24ca726d9d46c3d", func := "monocle/monoclelaw15.AperKnown", spec := "aperKnown", inPlace := ["math/bits.Add64"], unfollowed := true, recurses := true, named := ["monocle/aper.units", "monocle/surface.places", "monocle/fix.powers", "math/bits.divideError", "math/bits.overflowError", "monocle/surface.one"], plainKeys := false, apart := false, laid := [("monocle/fix.powers", laid_monocle_fix_powers), ("monocle/surface.one", laid_monocle_surface_one), ("monocle/surface.places", laid_monocle_surface_places), ("monocle/aper.units", laid_monocle_aper_units)] }
def AperKnownSaid : Prop := aperKnownRow.holds Tryz.pinned (OpenSpec.ofChange aperKnownSpec)

/-- ITS FALSE NEIGHBOUR: 'it returns false'. Refute it at one input. -/
def aperKnownWrong : ChangeSpec := { name := "aperKnown", fn := fun _ => fun
  | [] => { results := [.lit (.bool false)], args := [] }
  | _ => none }
def AperKnownWrongFalsely : Prop := aperKnownRow.holds Tryz.pinned (OpenSpec.ofChange aperKnownWrong)

/- THE SECOND FORM. 'bulk': how many values and letters a reading holds, each counted each time it is reached (what is shared counts as often as it is met; a slice's spare places count too). A statement '..UptoSaid' is the law's where the arguments, and the package variables that the reading takes, are together of bulk at most 1048576: NARROWER than '..Said'. Prove '..Said' where nothing that the law and all that it calls make is longer than what came in: it says more and counts as full. Else prove '..UptoSaid'. A law counts once. -/
mutual
def uptoBulk {H : Type} : DataW H → Nat
  | .lit (.string bytes) => bytes.length + 1
  | .lit _ => 1
  | .nil => 1
  | .ptr d => uptoBulk d + 1
  | .slice elems spare => uptoBulkAll elems + uptoBulkAll spare + 1
  | .agg parts => uptoBulkAll parts + 1
  | .iface _ d => uptoBulk d + 1
  | .map entries => uptoBulkEntries entries + 1
  | .held _ => 1
def uptoBulkAll {H : Type} : List (DataW H) → Nat
  | [] => 0
  | d :: r => uptoBulk d + uptoBulkAll r
def uptoBulkEntries {H : Type} : List (Lit × DataW H) → Nat
  | [] => 0
  | x :: r => uptoBulkEntry x + uptoBulkEntries r
def uptoBulkEntry {H : Type} : Lit × DataW H → Nat
  | (.string bytes, d) => bytes.length + uptoBulk d + 1
  | (_, d) => uptoBulk d + 1
 end
def uptoSmall : (H : Type) → List (DataW H) → Bool := fun _ ds => decide (uptoBulkAll ds ≤ 1048576)
def OpenSpec.upto (s : _root_.Go.ChangeSpec) : _root_.Go.OpenSpec := { _root_.Go.OpenSpec.ofChange s with cond := some uptoSmall }

/-- 'monoclelaw15.AperInside', WHERE WHAT IT READS IS OF BULK AT MOST 1048576: true; the input reads as it did. -/
def aperInsideUptoRow : OpenClaim := { program := "ytkeognjggnmgmaagreatdoor", sum := "91a13452f8d19441f34994588a4585664b4069e54bd17133b24ca726d9d46c3d", func := "monocle/monoclelaw15.AperInside", spec := "aperInside", inPlace := ["math/bits.Add64"], unfollowed := true, recurses := true, named := ["monocle/aper.units", "monocle/surface.places", "monocle/fix.powers", "math/bits.divideError", "math/bits.overflowError", "monocle/surface.one", "monocle/monocleref11.bad"], plainKeys := false, apart := false, laid := [("monocle/fix.powers", laid_monocle_fix_powers), ("monocle/monocleref11.bad", laid_monocle_monocleref11_bad), ("monocle/surface.one", laid_monocle_surface_one), ("monocle/surface.places", laid_monocle_surface_places), ("monocle/aper.units", laid_monocle_aper_units)], narrowed := true }
def AperInsideUptoSaid : Prop := aperInsideUptoRow.holds Tryz.pinned (OpenSpec.upto aperInsideSpec)

/-- 'monoclelaw15.AperClear', WHERE WHAT IT READS IS OF BULK AT MOST 1048576: true; the input reads as it did. -/
def aperClearUptoRow : OpenClaim := { program := "ytkeognjggnmgmaagreatdoor", sum := "91a13452f8d19441f34994588a4585664b4069e54bd17133b24ca726d9d46c3d", func := "monocle/monoclelaw15.AperClear", spec := "aperClear", inPlace := ["math/bits.Add64"], unfollowed := true, recurses := true, named := ["monocle/aper.units", "monocle/surface.places", "monocle/fix.powers", "math/bits.divideError", "math/bits.overflowError", "monocle/surface.one", "monocle/monocleref11.bad"], plainKeys := false, apart := false, laid := [("monocle/fix.powers", laid_monocle_fix_powers), ("monocle/monocleref11.bad", laid_monocle_monocleref11_bad), ("monocle/surface.one", laid_monocle_surface_one), ("monocle/surface.places", laid_monocle_surface_places), ("monocle/aper.units", laid_monocle_aper_units)], narrowed := true }
def AperClearUptoSaid : Prop := aperClearUptoRow.holds Tryz.pinned (OpenSpec.upto aperClearSpec)

/-- 'monoclelaw15.AperEdges', WHERE WHAT IT READS IS OF BULK AT MOST 1048576: true; the input reads as it did. -/
def aperEdgesUptoRow : OpenClaim := { program := "ytkeognjggnmgmaagreatdoor", sum := "91a13452f8d19441f34994588a4585664b4069e54bd17133b24ca726d9d46c3d", func := "monocle/monoclelaw15.AperEdges", spec := "aperEdges", inPlace := ["math/bits.Add64"], unfollowed := true, recurses := true, named := ["monocle/aper.units", "monocle/surface.places", "monocle/fix.powers", "math/bits.divideError", "math/bits.overflowError", "monocle/surface.one", "monocle/monocleref11.bad"], plainKeys := false, apart := false, laid := [("monocle/fix.powers", laid_monocle_fix_powers), ("monocle/monocleref11.bad", laid_monocle_monocleref11_bad), ("monocle/surface.one", laid_monocle_surface_one), ("monocle/surface.places", laid_monocle_surface_places), ("monocle/aper.units", laid_monocle_aper_units)], narrowed := true }
def AperEdgesUptoSaid : Prop := aperEdgesUptoRow.holds Tryz.pinned (OpenSpec.upto aperEdgesSpec)

/-- 'monoclelaw15.AperExact', WHERE WHAT IT READS IS OF BULK AT MOST 1048576: true; the input reads as it did. -/
def aperExactUptoRow : OpenClaim := { program := "ytkeognjggnmgmaagreatdoor", sum := "91a13452f8d19441f34994588a4585664b4069e54bd17133b24ca726d9d46c3d", func := "monocle/monoclelaw15.AperExact", spec := "aperExact", inPlace := ["math/bits.Add64"], unfollowed := true, recurses := true, named := ["monocle/aper.units", "monocle/surface.places", "monocle/fix.powers", "math/bits.divideError", "math/bits.overflowError", "monocle/surface.one"], plainKeys := false, apart := false, laid := [("monocle/fix.powers", laid_monocle_fix_powers), ("monocle/surface.one", laid_monocle_surface_one), ("monocle/surface.places", laid_monocle_surface_places), ("monocle/aper.units", laid_monocle_aper_units)], narrowed := true }
def AperExactUptoSaid : Prop := aperExactUptoRow.holds Tryz.pinned (OpenSpec.upto aperExactSpec)

/-- 'monoclelaw15.AperWithin', WHERE WHAT IT READS IS OF BULK AT MOST 1048576: true; the input reads as it did. -/
def aperWithinUptoRow : OpenClaim := { program := "ytkeognjggnmgmaagreatdoor", sum := "91a13452f8d19441f34994588a4585664b4069e54bd17133b24ca726d9d46c3d", func := "monocle/monoclelaw15.AperWithin", spec := "aperWithin", inPlace := ["math/bits.Add64"], unfollowed := true, recurses := true, named := ["monocle/aper.units", "monocle/surface.places", "monocle/fix.powers", "math/bits.divideError", "math/bits.overflowError", "monocle/surface.one"], plainKeys := false, apart := false, laid := [("monocle/fix.powers", laid_monocle_fix_powers), ("monocle/surface.one", laid_monocle_surface_one), ("monocle/surface.places", laid_monocle_surface_places), ("monocle/aper.units", laid_monocle_aper_units)], narrowed := true }
def AperWithinUptoSaid : Prop := aperWithinUptoRow.holds Tryz.pinned (OpenSpec.upto aperWithinSpec)

/-- 'monoclelaw15.AperOpen', WHERE WHAT IT READS IS OF BULK AT MOST 1048576: true; the input reads as it did. -/
def aperOpenUptoRow : OpenClaim := { program := "ytkeognjggnmgmaagreatdoor", sum := "91a13452f8d19441f34994588a4585664b4069e54bd17133b24ca726d9d46c3d", func := "monocle/monoclelaw15.AperOpen", spec := "aperOpen", inPlace := ["math/bits.Add64"], unfollowed := true, recurses := true, named := ["monocle/aper.units", "monocle/surface.places", "monocle/fix.powers", "math/bits.divideError", "math/bits.overflowError", "monocle/surface.one"], plainKeys := false, apart := false, laid := [("monocle/fix.powers", laid_monocle_fix_powers), ("monocle/surface.one", laid_monocle_surface_one), ("monocle/surface.places", laid_monocle_surface_places), ("monocle/aper.units", laid_monocle_aper_units)], narrowed := true }
def AperOpenUptoSaid : Prop := aperOpenUptoRow.holds Tryz.pinned (OpenSpec.upto aperOpenSpec)

/-- 'monoclelaw15.AperKnown', WHERE WHAT IT READS IS OF BULK AT MOST 1048576: true; the input reads as it did. -/
def aperKnownUptoRow : OpenClaim := { program := "ytkeognjggnmgmaagreatdoor", sum := "91a13452f8d19441f34994588a4585664b4069e54bd17133b24ca726d9d46c3d", func := "monocle/monoclelaw15.AperKnown", spec := "aperKnown", inPlace := ["math/bits.Add64"], unfollowed := true, recurses := true, named := ["monocle/aper.units", "monocle/surface.places", "monocle/fix.powers", "math/bits.divideError", "math/bits.overflowError", "monocle/surface.one"], plainKeys := false, apart := false, laid := [("monocle/fix.powers", laid_monocle_fix_powers), ("monocle/surface.one", laid_monocle_surface_one), ("monocle/surface.places", laid_monocle_surface_places), ("monocle/aper.units", laid_monocle_aper_units)], narrowed := true }
def AperKnownUptoSaid : Prop := aperKnownUptoRow.holds Tryz.pinned (OpenSpec.upto aperKnownSpec)

end Rows
end Go.Proofs.YtkeognjggnmgmaaGreatDoor
