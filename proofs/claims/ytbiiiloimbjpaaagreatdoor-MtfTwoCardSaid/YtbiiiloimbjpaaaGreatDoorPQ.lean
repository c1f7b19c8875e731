/- What is proved: MtfTwo returns true, whatever the input (part 17). No conditions beyond those of the row. -/
import Derived.Test.YtbiiiloimbjpaaaGreatDoorPM
set_option linter.unusedVariables false
set_option linter.unusedSimpArgs false
set_option linter.unusedSectionVars false
namespace Go.Ln
open Go.Sn
theorem ak1:gJ 15=true:=by decide +kernel
theorem ak2:gJ 16=true:=by decide +kernel
theorem ak3:gJ 17=true:=by decide +kernel
theorem ak4:gJ 18=true:=by decide +kernel
theorem ak5:gJ 19=true:=by decide +kernel
end Go.Ln
