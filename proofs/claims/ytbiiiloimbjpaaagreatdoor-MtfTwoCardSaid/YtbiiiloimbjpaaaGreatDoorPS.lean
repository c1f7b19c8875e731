/- What is proved: MtfTwo returns true, whatever the input (part 19). No conditions beyond those of the row. -/
import Derived.Test.YtbiiiloimbjpaaaGreatDoorPM
set_option linter.unusedVariables false
set_option linter.unusedSimpArgs false
set_option linter.unusedSectionVars false
namespace Go.Ln
open Go.Sn
theorem alb:gJ 25=true:=by decide +kernel
theorem alc:gJ 26=true:=by decide +kernel
theorem ald:gJ 27=true:=by decide +kernel
theorem ale:gJ 28=true:=by decide +kernel
theorem alf:gJ 29=true:=by decide +kernel
end Go.Ln
