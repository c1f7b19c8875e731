/- What is proved: FrameKnown returns true (part 11 of 14). No conditions beyond those of the row. -/
import Derived.Test.YtlbabiemgageaaaGreatDoorPJ
set_option linter.unusedVariables false
set_option linter.unusedSimpArgs false
set_option linter.unusedSectionVars false
/- What is proved: calls of the law FrameKnown, of which the answers are known (level 7). No conditions. -/
namespace Go.Proofs.YtlbabiemgageaaaGreatDoor
open Go Go.Eng

/-- monocle/monoclelaw14.FrameKnown (3160 steps) -/
theorem call154 : MemoOk Tryz.prog glob hG (11, [], (.bool false true)) := known table6_ok (by kernel_rfl) (by kernel_rfl) (by kernel_rfl)

def table7 : List (FuncId × List AV × AV) :=
  (11, [], (.bool false true)) ::
  table6
theorem table7_ok : ∀ x ∈ table7, MemoOk Tryz.prog glob hG x :=
  more call154 (table6_ok)

end Go.Proofs.YtlbabiemgageaaaGreatDoor
