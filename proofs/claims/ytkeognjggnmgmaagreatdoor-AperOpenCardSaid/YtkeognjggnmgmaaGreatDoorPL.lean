/- What is proved: AperOpen returns true, whatever the input (part 12 of 22). No conditions beyond those of the row. -/
import Derived.Test.YtkeognjggnmgmaaGreatDoorPK
set_option linter.unusedVariables false
set_option linter.unusedSimpArgs false
set_option linter.unusedSectionVars false
/- What is proved: the context of aper.Inside, at this seat. No conditions. -/
namespace Go.Proofs.YtkeognjggnmgmaaGreatDoor.K
open Go Go.Eng Go.Ar Go.Rd
noncomputable section

def tblI : List (FuncId × HSpec) := (27, chkH) :: (159, gH mulSpec) :: tblGood.map fun x => (x.1, gH x.2)
theorem tblI_g : ∀ x ∈ tblI, HOk Tryz.prog glob hG x.1 x.2 := by
  intro x hx
  simp only [tblI, List.mem_cons, List.mem_map] at hx
  rcases hx with rfl | rfl | ⟨y, hy, rfl⟩
  · exact chkH_ok
  · exact (mul_ok.g glob hG).h
  · exact (tblGood_g y hy).h
def cI : Ctx := mkH Tryz.prog glob hG tblI ext
theorem cI_ok : CtxOk cI := mkH_ok prog_ok ext_ok tblI_g
def sS : Sh := .a [nI, nI]
end
end Go.Proofs.YtkeognjggnmgmaaGreatDoor.K
