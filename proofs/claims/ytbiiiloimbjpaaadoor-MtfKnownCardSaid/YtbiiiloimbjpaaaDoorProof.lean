/- What is proved: MtfKnown returns true, whatever the input (part 30). No conditions beyond those of the row. -/
import Derived.Test.YtbiiiloimbjpaaaDoorPF
import Derived.Test.YtbiiiloimbjpaaaDoorPC1
import Derived.Test.YtbiiiloimbjpaaaDoorCards
import Derived.Test.YtbiiiloimbjpaaaDoorTie
import Derived.LaidMore
import Derived.OpenShut
import Derived.Stop.Joined
import Derived.WideKeyArgs
set_option linter.unusedVariables false
set_option linter.unusedSimpArgs false
set_option linter.unusedSectionVars false
namespace Go.Proofs.YtbiiiloimbjpaaaDoor.mtfKnown
open Go.ChangeShapes Go.WideShapes Go.ChangeAt Go.WideMaps Go.WideElems Go.RowKit
open Go.Proofs.YtbiiiloimbjpaaaDoor.K
theorem own:ownKnob Tryd.prog.godebug=none:=by kernel_rfl
theorem shapes:Eng.shapesT Tryd.prog []=some Ph:=by kernel_rfl
theorem old_ok:Eng.allOld hG.clock hG.blks=true:=by kernel_rfl
set_option maxRecDepth 100000 in
theorem walk (W:World) {base:Nat} {A:Array Value} (hl:A.toList.length=([]:List TypeId).length) (hv:∀ (j:Nat) t v,([]:List TypeId)[j]?=some t->A.toList[j]?=some v->Value.okWide Tryd.prog W .any base t v) (h:laidMetH Tryd.prog zV W):
  Calls Tryd.prog 5 A W fun e w'=>e=.returned (.bool true)/\Grown W w'/\∀ B,B<W.heap.size->w'.heap[B]?=W.heap[B]?:=by
 obtain ⟨σ,g,r⟩:=Sj h
 exact @Eng.law_walk Tryd.prog glob hG old_ok 5 [] Ph shapes Gl W base σ A g r hl hv
theorem door_met (os:Os) (args:Array Value):laidMetH Tryd.prog zV ((World.doorLaid Tryd.prog 400 os).forCall (fun _ _=>0) ⟨#[],args,[]⟩).memory:=
 laidMetH_of_parts3 (fuel:=8) (laidMet_of_run' 8 (by kernel_rfl) (by kernel_rfl)) (by kernel_rfl) (by kernel_rfl)
def wArgs:Array Value:=#[]
theorem laidOut:laidOutB Tryd.prog=true:=by kernel_rfl
theorem recs:(([]:List TypeId).all fun t=>Tryd.prog.readableRec t&&decide (t<Tryd.prog.types.size))=true:=by kernel_rfl
set_option maxRecDepth 100000 in
theorem lifted (os:Os) (started:os.Started) (H:Type) (enc:TypeId×Value->H):
  ReturnsInHanded {} Tryd.checked os 5 .any (fun w args=>(Rows.mtfKnownSpec.pre enc Tryd.prog Tryd.f5 [] false w args/\laidMetH Tryd.prog zV w)/\sizedMet enc Tryd.prog Tryd.f5 (OpenSpec.ofChange Rows.mtfKnownSpec) false w args)
   (Rows.mtfKnownSpec.post enc Tryd.prog Tryd.f5 false true false false):=by
 refine returnsInHanded_of_change_and (C:=Tryd.checked) (X:=fun w _=>laidMetH Tryd.prog zV w) (fun _ _ _ hh h=>h.of_heap hh) own started (by kernel_rfl) Tryd.func5
  (ChangeSpec.witness_shaped (enc:=enc) (C:=Tryd.checked) (os:=os) (X:=fun w _=>laidMetH Tryd.prog zV w) false (World.doorLaid Tryd.prog 400 os) wArgs 8 rfl (World.shaped_of_RefB (by kernel_rfl) (by kernel_rfl)) (by kernel_rfl) (by kernel_rfl) (by kernel_rfl) (door_met os _)) ?_
 intro W base args ds gs before hval0 hW _ _ hL _
 have hval:∀ (j:Nat) t v,Tryd.f5.params[j]?=some t->args[j]?=some v->Value.okWide Tryd.prog W .any base t v:=hval0
 have hW':=hW
 obtain ⟨p,q,hA0,hV,rfl,hfz,hnd⟩:=hW
 have hA:DataW.TrodAll enc Tryd.prog W 0 (fun _=>true) true Tryd.f5.params.toList args.toList ds p:=hA0
 rw [Tryd.params5] at hA hval
 obtain ⟨l1,l2⟩:=Eng.trod_lens hA
 obtain rfl:ds=[]:=by
  match ds,l2 with
  | [],_=>rfl
 obtain ⟨rfl,rfl⟩:=trodVars_none hV
 clear hA0 hval0
 simp only [List.append_nil] at hW'
 refine (walk W l1 (fun j t v h1 h2=>hval j t v (by rw [<- h1]; exact (Array.getElem?_toList ..).symm) (by rw [<- h2]; exact (Array.getElem?_toList ..).symm)) hL).mono fun e W' ⟨he,hg,hk⟩=>?_
 subst he
 have lt:∀ x∈p,x.block<W.heap.size:=fun x hx=>hW'.lt x hx
 exact ⟨_,rfl,post_of_same (pa:=p) (pv:=[]) hW' (fun _ _ _=>(trodAll_cons_mk (shut_bool Tryd.underlying4 _) trodAll_mk0))
  (fun sp hs=>Eng.trodAll_stays laidOut recs hA (fun x hx=>Eng.same_at hk (lt x hx)) (fun x hx=>hs x hx)) (fun _ _=>rfl) (by simp)
  (hg.frame _) hg.2.1 (ok_one (by kernel_rfl) rfl (okWide_bool_mk Tryd.underlying4 _))⟩
theorem over:Rows.MtfKnownSaid:=
 OpenClaim.holds_of_wide 5 Tryd.f5 rfl rfl rfl rfl rfl rfl rfl ⟨rfl,rfl,rfl,rfl,rfl⟩ rfl rfl rfl rfl rfl (by kernel_rfl) Tryd.func5 (by kernel_rfl)
  (of_decide_eq_true (by kernel_rfl)) (by unfold Func.isWrapper; first|(rw [if_pos (by decide +kernel)]; kernel_rfl)|(rw [if_neg (by decide +kernel)]; exact ⟨rfl,rfl⟩))
  (fun os started H enc _=>lifted os started H enc)
theorem card_holds:Rows.MtfKnownCardSaid:=
 Claim7.holds_tied_plain_at .later [] [.funcs,.data,.data] true (true,"b41dfae6d5decf68d7e767a3ac351276760d135d04d778d98ecbb6880026f14f") true
  over (fun _ h=>by cases h) (by kernel_rfl) (fun _ h=>by cases h) mtfKnown_row_tie rfl ⟨rfl,rfl⟩ (by kernel_rfl) rfl
  (fun f fn hf hfn=>by
   obtain rfl:f=5:=Option.some.inj ((show Tryd.prog.funcNamed "monocle/monoclelaw31.MtfKnown" = some 5 by kernel_rfl).symm.trans hf) |>.symm
   obtain rfl:fn=Tryd.f5:=(Option.some.inj (Tryd.func5.symm.trans hfn)).symm
   exact ⟨by kernel_rfl,fun j t ht=>by
    rw [Tryd.params5] at ht
    simp at ht⟩)
  (by kernel_rfl)
end Go.Proofs.YtbiiiloimbjpaaaDoor.mtfKnown
