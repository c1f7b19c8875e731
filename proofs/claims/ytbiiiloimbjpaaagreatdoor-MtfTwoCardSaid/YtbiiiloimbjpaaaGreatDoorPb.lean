/- What is proved: MtfTwo returns true, whatever the input (part 28). No conditions beyond those of the row. -/
import Derived.Test.YtbiiiloimbjpaaaGreatDoorPF
import Derived.Test.YtbiiiloimbjpaaaGreatDoorPH
import Derived.Test.YtbiiiloimbjpaaaGreatDoorPa
set_option linter.unusedVariables false
set_option linter.unusedSimpArgs false
set_option linter.unusedSectionVars false
namespace Go.Proofs.YtbiiiloimbjpaaaGreatDoor.K
open Go Go.Eng Go.Dg Go.Ar Go.Vc
noncomputable section
theorem acY:lZ hG.size hG.blks=true:=by kernel_rfl
theorem arl:hG.ok:=rfl
def acZ:List (FuncId×ku):=[(30,hN (gH (FW (snN 0) (j6 0) (kg 0) snE))),(29,hN (gH (FW (snN 1) (j6 1) (kg 1) snE))),
 (67,hN (gH aeA)),(32,hN (gH (Zr qP))),(33,hN (gH (sUn oh))),(35,hN (gH (sUn uk))),(34,hN (gH (sSc p9)))]
theorem ac0:∀ x∈acZ,NOk Tryz.prog glob hG x.1 x.2:=by
 intro x a;simp only [acZ,aN,eX,eY] at a;rcases a with rfl|rfl|rfl|rfl|rfl|rfl|rfl
 .exact (U6.g glob hG).h.n
 .exact (La.g glob hG).h.n
 .exact (UD.g glob hG).h.n
 .exact (UE.g glob hG).h.n
 .exact (UF.g glob hG).h.n
 .exact (PO.g glob hG).h.n
 .exact (KR.g glob hG).h.n
def cMo:Ctx:=mkN Tryz.prog glob hG acZ [] ext
theorem anB:CtxOk cMo:=mf prog_ok ext_ok ac0 (fun _ h=>by cases h)
theorem XC:Pb hG.size hG.clock ((run cMo 3000).call 10 [] hG)=some (.tt,.bool false true):=by kernel_rfl
theorem ac1:NOk Tryz.prog glob hG 10 (Uk (.bool false true)):=
 YM arl acY ahM anB rfl rfl ⟨_,Tryz.func10,rfl⟩ XC trivial rfl rfl
end
end Go.Proofs.YtbiiiloimbjpaaaGreatDoor.K
