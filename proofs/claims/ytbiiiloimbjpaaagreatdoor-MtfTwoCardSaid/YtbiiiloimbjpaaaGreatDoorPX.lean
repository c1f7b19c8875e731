/- What is proved: MtfTwo returns true, whatever the input (part 24). No conditions beyond those of the row. -/
import Derived.Test.YtbiiiloimbjpaaaGreatDoorPM
set_option linter.unusedVariables false
set_option linter.unusedSimpArgs false
set_option linter.unusedSectionVars false
namespace Go.Ln
open Go.Sn
theorem alD:gJ 50=true:=by decide +kernel
theorem alE:gJ 51=true:=by decide +kernel
theorem alF:gJ 52=true:=by decide +kernel
theorem alG:gJ 53=true:=by decide +kernel
theorem alH:gJ 54=true:=by decide +kernel
end Go.Ln
