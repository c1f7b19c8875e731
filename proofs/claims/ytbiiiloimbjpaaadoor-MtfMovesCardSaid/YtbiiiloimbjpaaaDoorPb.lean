/- What is proved: MtfMoves returns true, whatever the input (part 28). No conditions beyond those of the row. -/
import Derived.Test.YtbiiiloimbjpaaaDoorPF
import Derived.Test.YtbiiiloimbjpaaaDoorPH
import Derived.Test.YtbiiiloimbjpaaaDoorPa
set_option linter.unusedVariables false
set_option linter.unusedSimpArgs false
set_option linter.unusedSectionVars false
namespace Go.Proofs.YtbiiiloimbjpaaaDoor.K
open Go Go.Eng Go.Dg Go.Ar Go.Vc
noncomputable section
theorem uH:fe hG.size hG.blks=true:=by kernel_rfl
theorem Kr:hG.ok:=rfl
def RN:List (FuncId×fO):=[(23,hN (gH (zV (snN 0) (bD 0) (bE 0) snE))),(22,hN (gH (zV (snN 1) (bD 1) (bE 1) snE))),
 (40,hN (gH Un)),(25,hN (gH (OC eU))),(26,hN (gH (sUn jv))),(28,hN (gH (sUn kW))),(27,hN (gH (sSc jQ)))]
theorem RO:∀ x∈RN,NOk Tryd.prog glob hG x.1 x.2:=by
 intro x hx
 simp only [RN,List.mem_cons,List.not_mem_nil,or_false] at hx
 rcases hx with rfl|rfl|rfl|rfl|rfl|rfl|rfl
 .exact (Kq.g glob hG).h.n
 .exact (BO.g glob hG).h.n
 .exact (JY.g glob hG).h.n
 .exact (JZ.g glob hG).h.n
 .exact (J2.g glob hG).h.n
 .exact (FZ.g glob hG).h.n
 .exact (Bv.g glob hG).h.n
noncomputable def cMo:Ctx:=mkN Tryd.prog glob hG RN [] ext
theorem abn:CtxOk cMo:=oO prog_ok ext_ok RO (fun _ h=>by cases h)
theorem Ml:dK hG.size hG.clock ((run cMo 3000).call 6 [] hG)=some (.tt,.bool false true):=by kernel_rfl
theorem RP:NOk Tryd.prog glob hG 6 (JO (.bool false true)):=
 NQ Kr uH xA abn rfl rfl ⟨_,Tryd.func6,rfl⟩ Ml trivial rfl rfl
end
end Go.Proofs.YtbiiiloimbjpaaaDoor.K
