/- What is proved: MtfTwo returns true, whatever the input (part 23). No conditions beyond those of the row. -/
import Derived.Test.YtbiiiloimbjpaaaGreatDoorPM
set_option linter.unusedVariables false
set_option linter.unusedSimpArgs false
set_option linter.unusedSectionVars false
namespace Go.Ln
open Go.Sn
theorem aly:gJ 45=true:=by decide +kernel
theorem alz:gJ 46=true:=by decide +kernel
theorem alA:gJ 47=true:=by decide +kernel
theorem alB:gJ 48=true:=by decide +kernel
theorem alC:gJ 49=true:=by decide +kernel
end Go.Ln
