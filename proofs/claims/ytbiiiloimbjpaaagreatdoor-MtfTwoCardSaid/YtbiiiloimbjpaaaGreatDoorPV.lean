/- What is proved: MtfTwo returns true, whatever the input (part 22). No conditions beyond those of the row. -/
import Derived.Test.YtbiiiloimbjpaaaGreatDoorPM
set_option linter.unusedVariables false
set_option linter.unusedSimpArgs false
set_option linter.unusedSectionVars false
namespace Go.Ln
open Go.Sn
theorem alr:gJ 40=true:=by decide +kernel
theorem als:gJ 41=true:=by decide +kernel
theorem alu:gJ 42=true:=by decide +kernel
theorem alv:gJ 43=true:=by decide +kernel
theorem alx:gJ 44=true:=by decide +kernel
end Go.Ln
