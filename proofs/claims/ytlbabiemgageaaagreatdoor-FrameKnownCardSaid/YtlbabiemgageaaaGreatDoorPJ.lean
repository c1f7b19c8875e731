/- What is proved: FrameKnown returns true (part 10 of 14). No conditions beyond those of the row. -/
import Derived.Test.YtlbabiemgageaaaGreatDoorPI
set_option linter.unusedVariables false
set_option linter.unusedSimpArgs false
set_option linter.unusedSectionVars false
/- What is proved: calls of the law FrameKnown, of which the answers are known (level 6). No conditions. -/
namespace Go.Proofs.YtlbabiemgageaaaGreatDoor
open Go Go.Eng

/-- monocle/monoclelaw14.wakes (2743 steps) -/
theorem call153 : MemoOk Tryz.prog glob hG (12, [], (.bool false true)) := known table5_ok (by kernel_rfl) (by kernel_rfl) (by kernel_rfl)

def table6 : List (FuncId × List AV × AV) :=
  (12, [], (.bool false true)) ::
  table5
theorem table6_ok : ∀ x ∈ table6, MemoOk Tryz.prog glob hG x :=
  more call153 (table5_ok)

end Go.Proofs.YtlbabiemgageaaaGreatDoor
