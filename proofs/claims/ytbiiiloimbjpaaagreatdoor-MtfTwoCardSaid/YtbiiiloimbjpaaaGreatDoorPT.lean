/- What is proved: MtfTwo returns true, whatever the input (part 20). No conditions beyond those of the row. -/
import Derived.Test.YtbiiiloimbjpaaaGreatDoorPM
set_option linter.unusedVariables false
set_option linter.unusedSimpArgs false
set_option linter.unusedSectionVars false
namespace Go.Ln
open Go.Sn
theorem alg:gJ 30=true:=by decide +kernel
theorem alh:gJ 31=true:=by decide +kernel
theorem ali:gJ 32=true:=by decide +kernel
theorem alj:gJ 33=true:=by decide +kernel
theorem alk:gJ 34=true:=by decide +kernel
end Go.Ln
