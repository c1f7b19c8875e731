/- What is proved: MtfTwo returns true, whatever the input (part 16). No conditions beyond those of the row. -/
import Derived.Test.YtbiiiloimbjpaaaGreatDoorPM
set_option linter.unusedVariables false
set_option linter.unusedSimpArgs false
set_option linter.unusedSectionVars false
namespace Go.Ln
open Go.Sn
theorem akW:gJ 10=true:=by decide +kernel
theorem akX:gJ 11=true:=by decide +kernel
theorem akY:gJ 12=true:=by decide +kernel
theorem akZ:gJ 13=true:=by decide +kernel
theorem ak0:gJ 14=true:=by decide +kernel
end Go.Ln
