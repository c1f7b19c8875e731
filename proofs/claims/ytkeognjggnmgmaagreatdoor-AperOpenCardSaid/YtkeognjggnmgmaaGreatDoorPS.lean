/- What is proved: AperOpen returns true, whatever the input (part 19 of 22). No conditions beyond those of the row. -/
import Derived.Test.YtkeognjggnmgmaaGreatDoorPR
set_option linter.unusedVariables false
set_option linter.unusedSimpArgs false
set_option linter.unusedSectionVars false
/- What is proved: calls of the law AperKnown, of which the answers are known (level 6). No conditions. -/
namespace Go.Proofs.YtkeognjggnmgmaaGreatDoor
open Go Go.Eng

/-- monocle/monoclelaw15.wakes (3570 steps) -/
theorem call85 : MemoOk Tryz.prog glob hG (10, [], (.bool false true)) := known table5_ok (by kernel_rfl) (by kernel_rfl) (by kernel_rfl)

def table6 : List (FuncId × List AV × AV) :=
  (10, [], (.bool false true)) ::
  table5
theorem table6_ok : ∀ x ∈ table6, MemoOk Tryz.prog glob hG x :=
  more call85 (table5_ok)

end Go.Proofs.YtkeognjggnmgmaaGreatDoor
