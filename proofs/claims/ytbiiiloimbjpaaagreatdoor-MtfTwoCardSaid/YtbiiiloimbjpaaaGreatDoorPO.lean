/- What is proved: MtfTwo returns true, whatever the input (part 15). No conditions beyond those of the row. -/
import Derived.Test.YtbiiiloimbjpaaaGreatDoorPM
set_option linter.unusedVariables false
set_option linter.unusedSimpArgs false
set_option linter.unusedSectionVars false
namespace Go.Ln
open Go.Sn
theorem ao7:gJ 5=true:=by decide +kernel
theorem ao8:gJ 6=true:=by decide +kernel
theorem ao9:gJ 7=true:=by decide +kernel
theorem apa:gJ 8=true:=by decide +kernel
theorem apb:gJ 9=true:=by decide +kernel
end Go.Ln
