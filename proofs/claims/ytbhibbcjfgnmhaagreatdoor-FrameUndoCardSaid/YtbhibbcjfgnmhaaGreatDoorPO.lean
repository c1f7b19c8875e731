/- What is proved: FrameUndo returns true, whatever the input (part 15). No conditions beyond those of the row. -/
import Derived.Test.YtbhibbcjfgnmhaaGreatDoorPF
import Derived.Test.YtbhibbcjfgnmhaaGreatDoorPN
set_option linter.unusedVariables false
set_option linter.unusedSimpArgs false
set_option linter.unusedSectionVars false
namespace Go.Proofs.YtbhibbcjfgnmhaaGreatDoor.K
open Go Go.Eng Go.Dg Go.Ar Go.Vc Go.Sn
noncomputable section
def SF (V:Int->Int->Int->Mat) (O:Int->Int->Int->Int):aF:=fun args=>match Sh.readL abo args with
 | some (s,[.n x,.n y,.n z])=>match s with
  | true=>some (.p (O x y z=0),outMa' (V x y z) (.int false .i64 0))
  | false=>some (.tt,(vv (kY x y z) (kv x y z)).av false)
 | _=>none
def Z6 (V:Mat->Mat->Mat) (E:Mat->Mat->Int):aF:=fun args=>match Sh.readL [shM,shM] args with
 | some (s,xs)=>match s with
  | true=>some (.p (E (gMa xs).1 (gMa (gMa xs).2).1=0),outMa' (V (gMa xs).1 (gMa (gMa xs).2).1) (.int false .i64 0))
  | false=>some (.tt,(vv (mulV mf0 (gMa xs).1 (gMa (gMa xs).2).1) (qa mf0 (gMa xs).1 (gMa (gMa xs).2).1)).av false)
 | _=>none
theorem Wo:GOk Tryz.prog glob hG 47 (SF kY kv):=by
 refine (ZN.g glob hG).weaken fun args nd v h=>?_
 unfold SF at h
 split at h
 .rename_i s x y z hr
  cases s with
  | true=>
   cases h
   refine ⟨.tt,(vv (kY x y z) (kv x y z)).av true,?_,fun hv=>⟨trivial,fun σ W hW=>?_⟩⟩
   .unfold ZM aJ
    rw [hr]
   .have hv:kv x y z=0:=hv
    rw [hv] at hW
    exact hW
  | false=>
   cases h
   refine ⟨.tt,_,?_,fun hv=>⟨trivial,fun σ W hW=>hW⟩⟩
   unfold ZM aJ
   rw [hr]
 .cases h
theorem Wp:GOk Tryz.prog glob hG 48 (Z6 (mulV mf0) (qa mf0)):=by
 refine (KU.g glob hG).weaken fun args nd v h=>?_
 unfold Z6 at h
 split at h
 .rename_i s xs hr
  cases s with
  | true=>
   cases h
   refine ⟨.tt,(vv (mulV mf0 (gMa xs).1 (gMa (gMa xs).2).1) (qa mf0 (gMa xs).1 (gMa (gMa xs).2).1)).av true,?_,fun hv=>⟨trivial,fun σ W hW=>?_⟩⟩
   .unfold sMM aJ
    rw [hr]
   .have hv:qa mf0 (gMa xs).1 (gMa (gMa xs).2).1=0:=hv
    rw [hv] at hW
    exact hW
  | false=>
   cases h
   refine ⟨.tt,_,?_,fun hv=>⟨trivial,fun σ W hW=>hW⟩⟩
   unfold sMM aJ
   rw [hr]
 .cases h
structure UnF where
 rv:Int->Int->Int->Mat
 ro:Int->Int->Int->Int
 mv:Mat->Mat->Mat
 mo:Mat->Mat->Int
def unF:UnF:=⟨kY,kv,mulV mf0,qa mf0⟩
def Ik (F:UnF):List (FuncId×kU):=[(74,hN (gH (orG Z0 Z4))),(47,hN (gH (SF F.rv F.ro))),(48,hN (gH (Z6 F.mv F.mo))),(17,hN (gH (sMV (tuV mf0) (tuO mf0)))),(20,hN (gH (sMV (fun m=>tuV mf0 (flip m)) (fun m=>tuO mf0 (flip m)))))]
theorem Il:∀ x∈Ik unF,NOk Tryz.prog glob hG x.1 x.2:=by
 intro x hx
 simp only [Ik,List.mem_cons,List.not_mem_nil,or_false] at hx
 rcases hx with rfl|rfl|rfl|rfl|rfl
 .exact (Xr Wm Wn).h.n
 .exact Wo.h.n
 .exact Wp.h.n
 .exact (GR.g glob hG).h.n
 .exact (PX.g glob hG).h.n
def cWk:Ctx:=mkN Tryz.prog glob hG (Ik unF) [] ext
theorem Z7:CtxOk cWk:=wM prog_ok ext_ok Il (fun _ h=>by cases h)
theorem ND:uW hG.size hG.clock ((run cWk 3000).call 4 [] hG)=some (.tt,.bool false true):=by kernel_rfl
theorem SG:NOk Tryz.prog glob hG 4 (Gw (.bool false true)):=
 O5 SA AX ER Z7 rfl rfl ⟨_,Tryz.func4,rfl⟩ ND trivial rfl rfl
def hUn (k:Int):Nat->Option (Nat×AV):=fun c=>match Nat.beq c 30 with
 | true=>some (34,.int false .u8 k)
 | false=>match Nat.beq c 34 with
  | true=>some (38,.int false .u8 k)
  | false=>none
def cUn (F:UnF) (k:Int):Ctx:={ mkN Tryz.prog glob hG ((4,Gw (.bool false true)) :: Ik F) [] ext with hintT:=hUn k }
theorem JX (k:Int):CtxOk (cUn unF k):=
 have co:=wM (tbl:=(4,Gw (.bool false true)) :: Ik unF) (tt:=[]) (hG:=hG) (glob:=glob) prog_ok ext_ok (fun x hx=>by
  rcases List.mem_cons.1 hx with rfl|hx
  .exact SG
  .exact Il x hx) (fun _ h=>by cases h)
 ⟨co.prog,co.con,co.ext,fun fr a s q e=>co.loop fr a s q e,co.two⟩
end
end Go.Proofs.YtbhibbcjfgnmhaaGreatDoor.K
