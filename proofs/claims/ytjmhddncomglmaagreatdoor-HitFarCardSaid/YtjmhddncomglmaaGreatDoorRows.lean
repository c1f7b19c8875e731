/-
  NARROWER THAN 'FOR EVERY INPUT', by the rows' own cells (each row's printed sentence says how): HitFar: laid · HitMirrors: laid.
  DERIVED. THE GIVEN ROWS OF THIS SEAT. 2 by the template 'for every input the law returns true; each argument reads behind the call as it read before'; 0 by the template 'total and deterministic' (their statements: YtjmhddncomglmaaGreatDoorTotals.lean).
  GIVEN WITH THE SEED: the statements are not yours to turn. If you find one false, say at which input.
  Laid BY PROGRAM, IN A SANDBOX (cutbox-rows.mjs): the forced cells as the released guide's own fill.sh prints them over the translation 5fb694a014edf8d6… (all of the seat's roots in one cut). By AI agents, Wed Nov 11 2026. No macro, syntax, notation, axiom, sorry.
-/
import Derived.Test.YtjmhddncomglmaaGreatDoorChecked
import GoSem.Claim
import GoSem.ClaimJoined
import GoSem.ClaimMapViews
import Derived.JoinedTies
import Derived.KernelRfl
namespace Go.Proofs.YtjmhddncomglmaaGreatDoor
/- THE CELL 'sum', in the pinned program and in every row, IS THE sha256 OF THE DUMP (.gsa) THAT YtjmhddncomglmaaGreatDoorProg.lean LOADS. Nothing in Lean hashes anything: it is a label: what it is worth is what the hold of that sum in a sandbox is worth. -/
noncomputable def Tryz.pinned : Pinned := { name := "ytjmhddncomglmaagreatdoor", sum := "5fb694a014edf8d6d30816aa1d29abe891c8ec3931c26963e89a5b83565a05eb", checked := Tryz.checked }
namespace Rows
def none {H : Type} : Left H := { results := [], args := [] }

/- WHAT THE LISTED PACKAGE-LEVEL VARIABLES READ AS WHEN THE CALL BEGINS. Each datum BY PROGRAM (the guide's laid-datum.mjs) off the statement by which the dump's own 'gosem.cut.vars' lays the variable. In a bare row this is a premise. The card (YtjmhddncomglmaaGreatDoorCards.lean) ties it to the program's text. -/
def laid_monocle_monocleref11_bad {H : Type} : DataW H := .agg [.lit (.int .i64 1), .lit (.int .i64 0)]
def laid_monocle_surface_one {H : Type} : DataW H := .agg [.lit (.int .i64 4294967296), .lit (.int .i64 4294967296)]
def laid_monocle_hit_widths {H : Type} : DataW H := .agg [.lit (.int .i64 1048576), .lit (.int .i64 67108864), .lit (.int .i64 2147483648), .lit (.int .i64 34359738368)]

/-- 'monoclelaw25.HitFar': WHATEVER THE INPUT: true; the input reads as it did. -/
def hitFarSpec : ChangeSpec := { name := "hitFar", fn := fun _ => fun
  | [d1, d2, d3, d4, d5, d6] => { results := [.lit (.bool true)], args := [d1, d2, d3, d4, d5, d6] }
  | _ => none }
def hitFarRow : OpenClaim := { program := "ytjmhddncomglmaagreatdoor", sum := "5fb694a014edf8d6d30816aa1d29abe891c8ec3931c26963e89a5b83565a05eb", func := "monocle/monoclelaw25.HitFar", spec := "hitFar", inPlace := ["math/bits.Add64"], unfollowed := true, recurses := true, named := ["math/bits.divideError", "math/bits.overflowError", "monocle/hit.widths", "monocle/surface.one", "monocle/monocleref11.bad"], apart := false, laid := [("monocle/monocleref11.bad", laid_monocle_monocleref11_bad), ("monocle/surface.one", laid_monocle_surface_one), ("monocle/hit.widths", laid_monocle_hit_widths)] }
def HitFarSaid : Prop := hitFarRow.holds Tryz.pinned (OpenSpec.ofChange hitFarSpec)

/-- ITS FALSE NEIGHBOUR: 'it returns false'. Refute it at one input. -/
def hitFarWrong : ChangeSpec := { name := "hitFar", fn := fun _ => fun
  | [d1, d2, d3, d4, d5, d6] => { results := [.lit (.bool false)], args := [d1, d2, d3, d4, d5, d6] }
  | _ => none }
def HitFarWrongFalsely : Prop := hitFarRow.holds Tryz.pinned (OpenSpec.ofChange hitFarWrong)

/-- 'monoclelaw25.HitMirrors': WHATEVER THE INPUT: true; the input reads as it did. -/
def hitMirrorsSpec : ChangeSpec := { name := "hitMirrors", fn := fun _ => fun
  | [d1, d2, d3] => { results := [.lit (.bool true)], args := [d1, d2, d3] }
  | _ => none }
def hitMirrorsRow : OpenClaim := { program := "ytjmhddncomglmaagreatdoor", sum := "5fb694a014edf8d6d30816aa1d29abe891c8ec3931c26963e89a5b83565a05eb", func := "monocle/monoclelaw25.HitMirrors", spec := "hitMirrors", inPlace := ["math/bits.Add64"], unfollowed := true, recurses := true, named := ["math/bits.divideError", "math/bits.overflowError", "monocle/hit.widths", "monocle/surface.one"], apart := false, laid := [("monocle/surface.one", laid_monocle_surface_one), ("monocle/hit.widths", laid_monocle_hit_widths)] }
def HitMirrorsSaid : Prop := hitMirrorsRow.holds Tryz.pinned (OpenSpec.ofChange hitMirrorsSpec)

/-- ITS FALSE NEIGHBOUR: 'it returns false'. Refute it at one input. -/
def hitMirrorsWrong : ChangeSpec := { name := "hitMirrors", fn := fun _ => fun
  | [d1, d2, d3] => { results := [.lit (.bool false)], args := [d1, d2, d3] }
  | _ => none }
def HitMirrorsWrongFalsely : Prop := hitMirrorsRow.holds Tryz.pinned (OpenSpec.ofChange hitMirrorsWrong)

/- THE SECOND FORM. 'bulk': how many values and letters a reading holds, each counted each time it is reached (what is shared counts as often as it is met; a slice's spare places count too). A statement '..UptoSaid' is the law's where the arguments, and the package variables that the reading takes, are together of bulk at most 1048576: NARROWER than '..Said'. Prove '..Said' where nothing that the law and all that it calls make is longer than what came in: it says more and counts as full. Else prove '..UptoSaid'. A law counts once. -/
mutual
def uptoBulk {H : Type} : DataW H → Nat
  | .lit (.string bytes) => bytes.length + 1
  | .lit _ => 1
  | .nil => 1
  | .ptr d => uptoBulk d + 1
  | .slice elems spare => uptoBulkAll elems + uptoBulkAll spare + 1
  | .agg parts => uptoBulkAll parts + 1
  | .iface _ d => uptoBulk d + 1
  | .map entries => uptoBulkEntries entries + 1
  | .held _ => 1
def uptoBulkAll {H : Type} : List (DataW H) → Nat
  | [] => 0
  | d :: r => uptoBulk d + uptoBulkAll r
def uptoBulkEntries {H : Type} : List (Lit × DataW H) → Nat
  | [] => 0
  | x :: r => uptoBulkEntry x + uptoBulkEntries r
def uptoBulkEntry {H : Type} : Lit × DataW H → Nat
  | (.string bytes, d) => bytes.length + uptoBulk d + 1
  | (_, d) => uptoBulk d + 1
 end
def uptoSmall : (H : Type) → List (DataW H) → Bool := fun _ ds => decide (uptoBulkAll ds ≤ 1048576)
def OpenSpec.upto (s : _root_.Go.ChangeSpec) : _root_.Go.OpenSpec := { _root_.Go.OpenSpec.ofChange s with cond := some uptoSmall }

/-- 'monoclelaw25.HitFar', WHERE WHAT IT READS IS OF BULK AT MOST 1048576: true; the input reads as it did. -/
def hitFarUptoRow : OpenClaim := { program := "ytjmhddncomglmaagreatdoor", sum := "5fb694a014edf8d6d30816aa1d29abe891c8ec3931c26963e89a5b83565a05eb", func := "monocle/monoclelaw25.HitFar", spec := "hitFar", inPlace := ["math/bits.Add64"], unfollowed := true, recurses := true, named := ["math/bits.divideError", "math/bits.overflowError", "monocle/hit.widths", "monocle/surface.one", "monocle/monocleref11.bad"], apart := false, laid := [("monocle/monocleref11.bad", laid_monocle_monocleref11_bad), ("monocle/surface.one", laid_monocle_surface_one), ("monocle/hit.widths", laid_monocle_hit_widths)], narrowed := true }
def HitFarUptoSaid : Prop := hitFarUptoRow.holds Tryz.pinned (OpenSpec.upto hitFarSpec)

/-- 'monoclelaw25.HitMirrors', WHERE WHAT IT READS IS OF BULK AT MOST 1048576: true; the input reads as it did. -/
def hitMirrorsUptoRow : OpenClaim := { program := "ytjmhddncomglmaagreatdoor", sum := "5fb694a014edf8d6d30816aa1d29abe891c8ec3931c26963e89a5b83565a05eb", func := "monocle/monoclelaw25.HitMirrors", spec := "hitMirrors", inPlace := ["math/bits.Add64"], unfollowed := true, recurses := true, named := ["math/bits.divideError", "math/bits.overflowError", "monocle/hit.widths", "monocle/surface.one"], apart := false, laid := [("monocle/surface.one", laid_monocle_surface_one), ("monocle/hit.widths", laid_monocle_hit_widths)], narrowed := true }
def HitMirrorsUptoSaid : Prop := hitMirrorsUptoRow.holds Tryz.pinned (OpenSpec.upto hitMirrorsSpec)

end Rows
end Go.Proofs.YtjmhddncomglmaaGreatDoor
