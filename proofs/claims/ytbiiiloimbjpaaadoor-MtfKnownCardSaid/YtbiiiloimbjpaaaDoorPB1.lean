/- What is proved: MtfKnown returns true, whatever the input (part 28). No conditions beyond those of the row. -/
import Derived.Test.YtbiiiloimbjpaaaDoorPF
import Derived.Test.YtbiiiloimbjpaaaDoorPH
import Derived.Test.YtbiiiloimbjpaaaDoorPA1
set_option linter.unusedVariables false
set_option linter.unusedSimpArgs false
set_option linter.unusedSectionVars false
namespace Go.Proofs.YtbiiiloimbjpaaaDoor.K
open Go Go.Eng Go.Dg Go.Ar Go.Vc
noncomputable section
theorem Pf:eO hG.size hG.blks=true:=by kernel_rfl
theorem ZN:hG.ok:=rfl
def Ih:List (FuncId×jO):=[(23,hN (gH (EM (snN 0) (yg 0) (yh 0) snE))),(22,hN (gH (EM (snN 1) (yg 1) (yh 1) snE))),
 (40,hN (gH Yl)),(25,hN (gH (Yk Qn))),(26,hN (gH (sUn Qo))),(28,hN (gH (sUn Hl))),(27,hN (gH (sSc Bo)))]
theorem EO:∀ x∈Ih,NOk Tryd.prog glob hG x.1 x.2:=by
 intro x hx
 simp only [Ih,List.mem_cons,List.not_mem_nil,or_false] at hx
 rcases hx with rfl|rfl|rfl|rfl|rfl|rfl|rfl
 .exact (Sd.g glob hG).h.n
 .exact (JM.g glob hG).h.n
 .exact (QC.g glob hG).h.n
 .exact (QD.g glob hG).h.n
 .exact (QE.g glob hG).h.n
 .exact (LP.g glob hG).h.n
 .exact (Ji.g glob hG).h.n
def cMo:Ctx:=mkN Tryd.prog glob hG Ih [] ext
theorem X3:CtxOk cMo:=tV prog_ok ext_ok EO (fun _ h=>by cases h)
theorem JO:Dv hG.size hG.clock ((run cMo 3000).call 6 [] hG)=some (.tt,.bool false true):=by kernel_rfl
theorem Pg:NOk Tryd.prog glob hG 6 (G7 (.bool false true)):=
 K5 ZN Pf Si X3 rfl rfl ⟨_,Tryd.func6,rfl⟩ JO trivial rfl rfl
def cMk:Ctx:=mkN Tryd.prog glob hG ((6,G7 (.bool false true)) :: Ih) [] ext
theorem X4:CtxOk cMk:=tV prog_ok ext_ok (fun x hx=>by
 rcases List.mem_cons.1 hx with rfl|hx
 .exact Pg
 .exact EO x hx) (fun _ h=>by cases h)
end
end Go.Proofs.YtbiiiloimbjpaaaDoor.K
