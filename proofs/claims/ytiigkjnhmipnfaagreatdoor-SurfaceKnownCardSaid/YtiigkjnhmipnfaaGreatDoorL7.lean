/- What is proved: a part of the proof that SurfaceKnown returns true. No conditions beyond those of the row. -/
import Derived.Test.YtiigkjnhmipnfaaGreatDoorL6
set_option linter.unusedVariables false
set_option linter.unusedSimpArgs false
namespace Go.Proofs.YtiigkjnhmipnfaaGreatDoor
open Go Go.Eng

/-- monocle/monoclelaw11.SurfaceKnown (6167 steps) -/
theorem call165 : MemoOk Tryz.prog glob hG (13, [], (.bool false true)) := known table6_ok (by kernel_rfl) (by kernel_rfl) (by kernel_rfl)

def table7 : List (FuncId × List AV × AV) :=
  (13, [], (.bool false true)) ::
  table6
theorem table7_ok : ∀ x ∈ table7, MemoOk Tryz.prog glob hG x :=
  more call165 (table6_ok)

end Go.Proofs.YtiigkjnhmipnfaaGreatDoor
