/- What is proved: MtfKnown returns true, whatever the input (part 29). No conditions beyond those of the row. -/
import Derived.Test.YtbiiiloimbjpaaaDoorPF
import Derived.Test.YtbiiiloimbjpaaaDoorPB1
set_option linter.unusedVariables false
set_option linter.unusedSimpArgs false
set_option linter.unusedSectionVars false
namespace Go.Proofs.YtbiiiloimbjpaaaDoor.K
open Go Go.Eng Go.Dg Go.Ar Go.Vc
noncomputable section
theorem JP:Dv hG.size hG.clock ((run cMk 3000).call 5 [] hG)=some (.tt,.bool false true):=by kernel_rfl
def Ph:List Sh:=[]
theorem Gl:∀ xs,xs.map Nu.isN=Sh.kindsL Ph->aG (Sh.leavesL Ph) xs->G5 Tryd.prog glob hG 5 (Sh.mkL Ph xs).1:=by
 intro xs hk hr
 obtain rfl:=k0 hk
 exact ⟨cMk,3000,_,_,_,X4,rfl,rfl,JP,trivial,rfl⟩
end
end Go.Proofs.YtbiiiloimbjpaaaDoor.K
