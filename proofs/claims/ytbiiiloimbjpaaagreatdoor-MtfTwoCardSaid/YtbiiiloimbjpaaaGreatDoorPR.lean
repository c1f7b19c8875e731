/- What is proved: MtfTwo returns true, whatever the input (part 18). No conditions beyond those of the row. -/
import Derived.Test.YtbiiiloimbjpaaaGreatDoorPM
set_option linter.unusedVariables false
set_option linter.unusedSimpArgs false
set_option linter.unusedSectionVars false
namespace Go.Ln
open Go.Sn
theorem ak6:gJ 20=true:=by decide +kernel
theorem ak7:gJ 21=true:=by decide +kernel
theorem ak8:gJ 22=true:=by decide +kernel
theorem ak9:gJ 23=true:=by decide +kernel
theorem ala:gJ 24=true:=by decide +kernel
end Go.Ln
