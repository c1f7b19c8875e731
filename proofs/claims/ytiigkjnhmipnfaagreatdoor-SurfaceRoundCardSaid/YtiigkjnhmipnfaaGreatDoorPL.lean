/- What is proved: that SurfaceRound returns true: a part of the proof (part 12 of 13). No conditions beyond those of the row. -/
import Derived.Test.YtiigkjnhmipnfaaGreatDoorPK
set_option linter.unusedVariables false
set_option linter.unusedSimpArgs false
set_option linter.unusedSectionVars false
/- What is proved: a part of the proof that SurfaceKnown returns true. No conditions beyond those of the row. -/
namespace Go.Proofs.YtiigkjnhmipnfaaGreatDoor
open Go Go.Eng

/-- monocle/monoclelaw11.wakes (208 steps) -/
theorem call164 : MemoOk Tryz.prog glob hG (14, [], (.bool false true)) := known table5_ok (by kernel_rfl) (by kernel_rfl) (by kernel_rfl)

def table6 : List (FuncId × List AV × AV) :=
  (14, [], (.bool false true)) ::
  table5
theorem table6_ok : ∀ x ∈ table6, MemoOk Tryz.prog glob hG x :=
  more call164 (table5_ok)

end Go.Proofs.YtiigkjnhmipnfaaGreatDoor
