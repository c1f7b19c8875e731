/- What is proved: SurfaceEven returns true, whatever the input (part 13 of 24). No conditions beyond those of the row. -/
import Derived.Test.YtiigkjnhmipnfaaGreatDoorPL
set_option linter.unusedVariables false
set_option linter.unusedSimpArgs false
set_option linter.unusedSectionVars false
namespace Go.Proofs.YtiigkjnhmipnfaaGreatDoor.K
open Go Go.Eng Go.Ar Go.Rd
noncomputable section
def tblU : List (FuncId × HSpec) := [(29, sagH), (88, gH chkSpec), (131, gH (good2 [shS] sqrS)), (122, gH (good4 [shS, shS] subS)), (124, gH (good2 [shS] sqrtS)), (143, gH (good4 [shS, .i .i64, .i .i64] xScaleS))]
theorem tblU_g : ∀ x ∈ tblU, HOk Tryz.prog glob hG x.1 x.2 := by
  intro x hx
  simp only [tblU, List.mem_cons, List.not_mem_nil, or_false] at hx
  rcases hx with rfl | rfl | rfl | rfl | rfl | rfl
  · exact sagH_ok
  · exact chk0.h
  · exact (good_un ssqr_ok).h
  · exact (good_bin ssub_ok).h
  · exact (good_un ssqrt_ok).h
  · exact (good_sc sscale_ok).h
def hDom (q : Bool) (_ d : Nat) : Option AV := match Nat.beq d 102 with
  | true => some (.bool false false)
  | false => match Nat.beq d 62 with
    | true => (match q with | true => some (.bool false true) | false => some (.bool false false))
    | false => none
def cU (q : Bool) : Ctx := hinting (mkT Tryz.prog glob hG tblU tblTe ext) (hDom q)
theorem cU_ok (q : Bool) : CtxOk (cU q) := hinting_ok (mkT_ok prog_ok ext_ok tblU_g tblTe_g) (hDom q)
end
end Go.Proofs.YtiigkjnhmipnfaaGreatDoor.K
