/-
  NARROWER THAN 'FOR EVERY INPUT', by the rows' own cells (each row's printed sentence says how): AperInside: laid.
  DERIVED. THE GIVEN ROWS OF THIS SEAT. 1 by the template 'for every input the law returns true; each argument reads behind the call as it read before'; 0 by the template 'total and deterministic' (their statements: YtjcicegihechmaaGreatDoorTotals.lean).
  GIVEN WITH THE SEED: the statements are not yours to turn. If you find one false, say at which input.
  Laid BY PROGRAM, IN A SANDBOX (cutbox-rows.mjs): the forced cells as the released guide's own fill.sh prints them over the translation bf7fbe5f368cdf37… (all of the seat's roots in one cut). By AI agents, Wed Nov 11 2026. No macro, syntax, notation, axiom, sorry.
-/
import Derived.Test.YtjcicegihechmaaGreatDoorChecked
import GoSem.Claim
import GoSem.ClaimJoined
import GoSem.ClaimMapViews
import Derived.JoinedTies
import Derived.KernelRfl
namespace Go.Proofs.YtjcicegihechmaaGreatDoor
/- THE CELL 'sum', in the pinned program and in every row, IS THE sha256 OF THE DUMP (.gsa) THAT YtjcicegihechmaaGreatDoorProg.lean LOADS. Nothing in Lean hashes anything: it is a label: what it is worth is what the hold of that sum in a sandbox is worth. -/
noncomputable def Tryz.pinned : Pinned := { name := "ytjcicegihechmaagreatdoor", sum := "bf7fbe5f368cdf378e859c7c8b0d7345d7a255a1ce9ebc468bbbd15b999a5b5a", checked := Tryz.checked }
namespace Rows
def none {H : Type} : Left H := { results := [], args := [] }

/- WHAT THE LISTED PACKAGE-LEVEL VARIABLES READ AS WHEN THE CALL BEGINS. Each datum BY PROGRAM (the guide's laid-datum.mjs) off the statement by which the dump's own 'gosem.cut.vars' lays the variable. In a bare row this is a premise. The card (YtjcicegihechmaaGreatDoorCards.lean) ties it to the program's text. -/
def laid_monocle_fix_powers {H : Type} : DataW H := .agg [.lit (.int .u64 1), .lit (.int .u64 10), .lit (.int .u64 100), .lit (.int .u64 1000), .lit (.int .u64 10000), .lit (.int .u64 100000), .lit (.int .u64 1000000), .lit (.int .u64 10000000), .lit (.int .u64 100000000), .lit (.int .u64 1000000000), .lit (.int .u64 10000000000), .lit (.int .u64 100000000000), .lit (.int .u64 1000000000000)]
def laid_monocle_monocleref11_bad {H : Type} : DataW H := .agg [.lit (.int .i64 1), .lit (.int .i64 0)]
def laid_monocle_surface_one {H : Type} : DataW H := .agg [.lit (.int .i64 4294967296), .lit (.int .i64 4294967296)]
def laid_monocle_surface_places {H : Type} : DataW H := .map [(.int .i64 1, .slice [.lit (.int .i64 1), .lit (.int .i64 2), .lit (.int .i64 5), .lit (.int .i64 6), .lit (.int .i64 7), .lit (.int .i64 8), .lit (.int .i64 10)] []), (.int .i64 2, .slice [.lit (.int .i64 1), .lit (.int .i64 2), .lit (.int .i64 3), .lit (.int .i64 4), .lit (.int .i64 10)] []), (.int .i64 3, .slice [.lit (.int .i64 11), .lit (.int .i64 12), .lit (.int .i64 13), .lit (.int .i64 14), .lit (.int .i64 15)] []), (.int .i64 4, .slice [.lit (.int .i64 1), .lit (.int .i64 10)] [])]
def laid_monocle_aper_units {H : Type} : DataW H := .agg [.lit (.int .i64 1000000000000), .lit (.int .i64 4294967296)]

/-- 'monoclelaw15.AperInside': WHATEVER THE INPUT: true; the input reads as it did. -/
def aperInsideSpec : ChangeSpec := { name := "aperInside", fn := fun _ => fun
  | [d1, d2, d3, d4, d5, d6] => { results := [.lit (.bool true)], args := [d1, d2, d3, d4, d5, d6] }
  | _ => none }
def aperInsideRow : OpenClaim := { program := "ytjcicegihechmaagreatdoor", sum := "bf7fbe5f368cdf378e859c7c8b0d7345d7a255a1ce9ebc468bbbd15b999a5b5a", func := "monocle/monoclelaw15.AperInside", spec := "aperInside", inPlace := ["math/bits.Add64"], unfollowed := true, recurses := true, named := ["monocle/aper.units", "monocle/surface.places", "monocle/fix.powers", "math/bits.divideError", "math/bits.overflowError", "monocle/surface.one", "monocle/monocleref11.bad"], plainKeys := false, apart := false, laid := [("monocle/fix.powers", laid_monocle_fix_powers), ("monocle/monocleref11.bad", laid_monocle_monocleref11_bad), ("monocle/surface.one", laid_monocle_surface_one), ("monocle/surface.places", laid_monocle_surface_places), ("monocle/aper.units", laid_monocle_aper_units)] }
def AperInsideSaid : Prop := aperInsideRow.holds Tryz.pinned (OpenSpec.ofChange aperInsideSpec)

/-- ITS FALSE NEIGHBOUR: 'it returns false'. Refute it at one input. -/
def aperInsideWrong : ChangeSpec := { name := "aperInside", fn := fun _ => fun
  | [d1, d2, d3, d4, d5, d6] => { results := [.lit (.bool false)], args := [d1, d2, d3, d4, d5, d6] }
  | _ => none }
def AperInsideWrongFalsely : Prop := aperInsideRow.holds Tryz.pinned (OpenSpec.ofChange aperInsideWrong)

/- THE SECOND FORM. 'bulk': how many values and letters a reading holds, each counted each time it is reached (what is shared counts as often as it is met; a slice's spare places count too). A statement '..UptoSaid' is the law's where the arguments, and the package variables that the reading takes, are together of bulk at most 1048576: NARROWER than '..Said'. Prove '..Said' where nothing that the law and all that it calls make is longer than what came in: it says more and counts as full. Else prove '..UptoSaid'. A law counts once. -/
mutual
def uptoBulk {H : Type} : DataW H → Nat
  | .lit (.string bytes) => bytes.length + 1
  | .lit _ => 1
  | .nil => 1
  | .ptr d => uptoBulk d + 1
  | .slice elems spare => uptoBulkAll elems + uptoBulkAll spare + 1
  | .agg parts => uptoBulkAll parts + 1
  | .iface _ d => uptoBulk d + 1
  | .map entries => uptoBulkEntries entries + 1
  | .held _ => 1
def uptoBulkAll {H : Type} : List (DataW H) → Nat
  | [] => 0
  | d :: r => uptoBulk d + uptoBulkAll r
def uptoBulkEntries {H : Type} : List (Lit × DataW H) → Nat
  | [] => 0
  | x :: r => uptoBulkEntry x + uptoBulkEntries r
def uptoBulkEntry {H : Type} : Lit × DataW H → Nat
  | (.string bytes, d) => bytes.length + uptoBulk d + 1
  | (_, d) => uptoBulk d + 1
 end
def uptoSmall : (H : Type) → List (DataW H) → Bool := fun _ ds => decide (uptoBulkAll ds ≤ 1048576)
def OpenSpec.upto (s : _root_.Go.ChangeSpec) : _root_.Go.OpenSpec := { _root_.Go.OpenSpec.ofChange s with cond := some uptoSmall }

/-- 'monoclelaw15.AperInside', WHERE WHAT IT READS IS OF BULK AT MOST 1048576: true; the input reads as it did. -/
def aperInsideUptoRow : OpenClaim := { program := "ytjcicegihechmaagreatdoor", sum := "bf7fbe5f368cdf378e859c7c8b0d7345d7a255a1ce9ebc468bbbd15b999a5b5a", func := "monocle/monoclelaw15.AperInside", spec := "aperInside", inPlace := ["math/bits.Add64"], unfollowed := true, recurses := true, named := ["monocle/aper.units", "monocle/surface.places", "monocle/fix.powers", "math/bits.divideError", "math/bits.overflowError", "monocle/surface.one", "monocle/monocleref11.bad"], plainKeys := false, apart := false, laid := [("monocle/fix.powers", laid_monocle_fix_powers), ("monocle/monocleref11.bad", laid_monocle_monocleref11_bad), ("monocle/surface.one", laid_monocle_surface_one), ("monocle/surface.places", laid_monocle_surface_places), ("monocle/aper.units", laid_monocle_aper_units)], narrowed := true }
def AperInsideUptoSaid : Prop := aperInsideUptoRow.holds Tryz.pinned (OpenSpec.upto aperInsideSpec)

end Rows
end Go.Proofs.YtjcicegihechmaaGreatDoor
