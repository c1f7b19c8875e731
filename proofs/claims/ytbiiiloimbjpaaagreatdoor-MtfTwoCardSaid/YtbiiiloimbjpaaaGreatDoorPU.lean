/- What is proved: MtfTwo returns true, whatever the input (part 21). No conditions beyond those of the row. -/
import Derived.Test.YtbiiiloimbjpaaaGreatDoorPM
set_option linter.unusedVariables false
set_option linter.unusedSimpArgs false
set_option linter.unusedSectionVars false
namespace Go.Ln
open Go.Sn
theorem alm:gJ 35=true:=by decide +kernel
theorem aln:gJ 36=true:=by decide +kernel
theorem alo:gJ 37=true:=by decide +kernel
theorem alp:gJ 38=true:=by decide +kernel
theorem alq:gJ 39=true:=by decide +kernel
end Go.Ln
