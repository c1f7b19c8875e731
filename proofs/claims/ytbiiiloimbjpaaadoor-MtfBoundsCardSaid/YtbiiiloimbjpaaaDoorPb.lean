/- What is proved: MtfBounds returns true, whatever the input (part 28). No conditions beyond those of the row. -/
import Derived.Test.YtbiiiloimbjpaaaDoorPF
import Derived.Test.YtbiiiloimbjpaaaDoorPH
import Derived.Test.YtbiiiloimbjpaaaDoorPa
set_option linter.unusedVariables false
set_option linter.unusedSimpArgs false
set_option linter.unusedSectionVars false
namespace Go.Proofs.YtbiiiloimbjpaaaDoor.K
open Go Go.Eng Go.Dg Go.Ar Go.Vc
noncomputable section
theorem uz:eX hG.size hG.blks=true:=by kernel_rfl
theorem J2:hG.ok:=rfl
def Rf:List (FuncId×fI):=[(23,hN (gH (zz (snN 0) (iB 0) (iC 0) snE))),(22,hN (gH (zz (snN 1) (iB 1) (iC 1) snE))),
 (40,hN (gH TC)),(25,hN (gH (NY gW))),(26,hN (gH (sUn nC))),(28,hN (gH (sUn kU))),(27,hN (gH (sSc jN)))]
theorem Rh:∀ x∈Rf,NOk Tryd.prog glob hG x.1 x.2:=by
 intro x hx
 simp only [Rf,List.mem_cons,List.not_mem_nil,or_false] at hx
 rcases hx with rfl|rfl|rfl|rfl|rfl|rfl|rfl
 .exact (JZ.g glob hG).h.n
 .exact (Bz.g glob hG).h.n
 .exact (Jy.g glob hG).h.n
 .exact (Jz.g glob hG).h.n
 .exact (JA.g glob hG).h.n
 .exact (FD.g glob hG).h.n
 .exact (Bc.g glob hG).h.n
noncomputable def cMo:Ctx:=mkN Tryd.prog glob hG Rf [] ext
theorem aaF:CtxOk cMo:=oN prog_ok ext_ok Rh (fun _ h=>by cases h)
theorem LF:dF hG.size hG.clock ((run cMo 3000).call 6 [] hG)=some (.tt,.bool false true):=by kernel_rfl
theorem Rj:NOk Tryd.prog glob hG 6 (Jo (.bool false true)):=
 Nk J2 uz xg aaF rfl rfl ⟨_,Tryd.func6,rfl⟩ LF trivial rfl rfl
end
end Go.Proofs.YtbiiiloimbjpaaaDoor.K
