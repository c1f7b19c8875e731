/- What is proved: MtfTwo returns true, whatever the input (part 14). No conditions beyond those of the row. -/
import Derived.Test.YtbiiiloimbjpaaaGreatDoorPM
set_option linter.unusedVariables false
set_option linter.unusedSimpArgs false
set_option linter.unusedSectionVars false
namespace Go.Ln
open Go.Sn
theorem ao2:gJ 0=true:=by decide +kernel
theorem ao3:gJ 1=true:=by decide +kernel
theorem ao4:gJ 2=true:=by decide +kernel
theorem ao5:gJ 3=true:=by decide +kernel
theorem ao6:gJ 4=true:=by decide +kernel
end Go.Ln
