/- What is proved: TurnKnown returns true, whatever the input (part 14). No conditions beyond those of the row. -/
import Derived.Test.YtmnhhlnbfkfkaaaPF
import Derived.Test.YtmnhhlnbfkfkaaaPM
set_option linter.unusedVariables false
set_option linter.unusedSimpArgs false
set_option linter.unusedSectionVars false
namespace Go.Proofs.Ytmnhhlnbfkfkaaa.K
open Go Go.Eng Go.Dg Go.Ar Go.Vc
noncomputable section
def tblKn:List (FuncId×PSpec):=[(11,sSine (snN 0) (snLo 0) (snHi 0) snE),(13,sSine (snN 1) (snLo 1) (snHi 1) snE),(19,sRot rotV rotO),(16,sMM (mulV mf0) (mulO mf0)),(17,sMV (tuV mf0) (tuO mf0)),(18,sMV (fun m=>tuV mf0 (flip m)) (fun m=>tuO mf0 (flip m))),(20,sMC (ckM mf0))]
theorem tblKn_ok:TblOk Try.prog tblKn:=by
 intro x hx
 simp only [tblKn,List.mem_cons,List.not_mem_nil,or_false] at hx
 rcases hx with rfl|rfl|rfl|rfl|rfl|rfl|rfl
 .exact sine_ok
 .exact cosine_ok
 .exact rot_ok
 .exact pmul_ok
 .exact pturn_ok
 .exact pback_ok
 .exact pcheck_ok
def cKn:Ctx:=mkC Try.prog tblKn ext
theorem cKn_ok:CtxOk cKn:=mkC_ok prog_ok tblKn_ok ext_ok
theorem known_run:oneG hG0.size hG0.clock ((run cKn 3000).call 5 [] hG0)=some (.tt,.bool false true):=by kernel_rfl
def shK:List Sh:=[]
theorem known_true:∀ xs,xs.map Nu.isN=Sh.kindsL shK->inRange (Sh.leavesL shK) xs->LawTrue Try.prog (fun _=>none) hG0 5 (Sh.mkL shK xs).1:=
 fun xs _ _=>⟨cKn,3000,_,_,_,cKn_ok,rfl,rfl,known_run,trivial,rfl⟩
end
end Go.Proofs.Ytmnhhlnbfkfkaaa.K
