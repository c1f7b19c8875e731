/- What is proved: MtfTwo returns true, whatever the input (part 32). No conditions beyond those of the row. -/
import Derived.Test.YtbiiiloimbjpaaaGreatDoorPF
import Derived.Test.YtbiiiloimbjpaaaGreatDoorPe
import Derived.Test.YtbiiiloimbjpaaaGreatDoorCards
import Derived.Test.YtbiiiloimbjpaaaGreatDoorTie
import Derived.LaidMore
import Derived.OpenShut
import Derived.Stop.Joined
import Derived.WideKeyArgs
set_option linter.unusedVariables false
set_option linter.unusedSimpArgs false
set_option linter.unusedSectionVars false
namespace Go.Proofs.YtbiiiloimbjpaaaGreatDoor.mtfTwo
open Go.ChangeShapes Go.WideShapes Go.ChangeAt Go.WideMaps Go.WideElems Go.RowKit
open Go.Proofs.YtbiiiloimbjpaaaGreatDoor.K
theorem own:ownKnob Tryz.prog.godebug=none:=by kernel_rfl
theorem shapes:Eng.shapesT Tryz.prog [46,29]=some adt:=by kernel_rfl
theorem old_ok:Eng.allOld hG.clock hG.blks=true:=by kernel_rfl
set_option maxRecDepth 100000 in
theorem walk (W:World) {base:Nat} {A:Array Value} (hl:A.toList.length=([46,29]:List TypeId).length) (hv:∀ (j:Nat) t v,([46,29]:List TypeId)[j]?=some t->A.toList[j]?=some v->Value.okWide Tryz.prog W .any base t v) (h:laidMetH Tryz.prog Ld W):
  Calls Tryz.prog 5 A W fun e w'=>e=.returned (.bool true)/\Grown W w'/\∀ B,B<W.heap.size->w'.heap[B]?=W.heap[B]?:=by
 obtain ⟨σ,g,r⟩:=ahN h;exact @Eng.law_walk Tryz.prog glob hG old_ok 5 [46,29] adt shapes adu W base σ A g r hl hv
theorem door_met (os:Os) (args:Array Value):laidMetH Tryz.prog Ld ((World.doorLaid Tryz.prog 400 os).forCall (fun _ _=>0) ⟨#[],args,[]⟩).memory:=
 laidMetH_of_parts3 (fuel:=8) (laidMet_of_run' 8 (by kernel_rfl) (by kernel_rfl)) (by kernel_rfl) (by kernel_rfl)
def wArgs:Array Value:=#[.agg #[.int .i32 0,.int .i32 0],.int .u16 0]
theorem laidOut:laidOutB Tryz.prog=true:=by kernel_rfl
theorem recs:(([46,29]:List TypeId).all fun t=>Tryz.prog.readableRec t&&decide (t<Tryz.prog.types.size))=true:=by kernel_rfl
set_option maxRecDepth 100000 in
theorem lifted (os:Os) (started:os.Started) (H:Type) (enc:TypeId×Value->H):
  ReturnsInHanded {} Tryz.checked os 5 .any (fun w args=>(Rows.mtfTwoSpec.pre enc Tryz.prog Tryz.f5 [] false w args/\laidMetH Tryz.prog Ld w)/\sizedMet enc Tryz.prog Tryz.f5 (OpenSpec.ofChange Rows.mtfTwoSpec) false w args)
   (Rows.mtfTwoSpec.post enc Tryz.prog Tryz.f5 false true false false):=by
 refine returnsInHanded_of_change_and (C:=Tryz.checked) (X:=fun w _=>laidMetH Tryz.prog Ld w) (fun _ _ _ hh h=>h.of_heap hh) own started (by kernel_rfl) Tryz.func5
  (ChangeSpec.witness_shaped (enc:=enc) (C:=Tryz.checked) (os:=os) (X:=fun w _=>laidMetH Tryz.prog Ld w) false (World.doorLaid Tryz.prog 400 os) wArgs 8 rfl (World.shaped_of_RefB (by kernel_rfl) (by kernel_rfl)) (by kernel_rfl) (by kernel_rfl) (by kernel_rfl) (door_met os _)) ?_
 intro W base args ds gs before hval0 hW _ _ hL _;have hval:∀ (j:Nat) t v,Tryz.f5.params[j]?=some t->args[j]?=some v->Value.okWide Tryz.prog W .any base t v:=hval0;have hW':=hW;obtain ⟨p,q,hA0,hV,rfl,hfz,hnd⟩:=hW;have hA:DataW.TrodAll enc Tryz.prog W 0 (fun _=>true) true Tryz.f5.params.toList args.toList ds p:=hA0;rw [Tryz.params5] at hA hval;obtain ⟨l1,l2⟩:=Eng.trod_lens hA;obtain ⟨d0,d1,rfl⟩:∃ d0 d1,ds=[d0,d1]:=by
  match ds,l2 with
  | [d0,d1],_=>exact ⟨d0,d1,rfl⟩
 obtain ⟨rfl,rfl⟩:=trodVars_none hV;clear hA0 hval0;simp only [List.append_nil] at hW';refine (walk W l1 (fun j t v h1 h2=>hval j t v (by rw [<- h1];exact (Array.getElem?_toList ..).symm) (by rw [<- h2];exact (Array.getElem?_toList ..).symm)) hL).mono fun e W' ⟨he,hg,hk⟩=>?_;subst he;have lt:∀ x∈p,x.block<W.heap.size:=fun x hx=>hW'.lt x hx;exact ⟨_,rfl,post_of_same (pa:=p) (pv:=[]) hW' (fun _ _ _=>(trodAll_cons_mk (shut_bool Tryz.underlying4 _) trodAll_mk0))
  (fun sp hs=>Eng.trodAll_stays laidOut recs hA (fun x hx=>Eng.same_at hk (lt x hx)) (fun x hx=>hs x hx)) (fun _ _=>rfl) (by simp)
  (hg.frame _) hg.2.1 (ok_one (by kernel_rfl) rfl (okWide_bool_mk Tryz.underlying4 _))⟩
theorem over:Rows.MtfTwoSaid:=
 OpenClaim.holds_of_wide 5 Tryz.f5 rfl rfl rfl rfl rfl rfl rfl ⟨rfl,rfl,rfl,rfl,rfl⟩ rfl rfl rfl rfl rfl (by kernel_rfl) Tryz.func5 (by kernel_rfl)
  (of_decide_eq_true (by kernel_rfl)) (by unfold Func.isWrapper;first|(rw [if_pos (by decide +kernel)];kernel_rfl)|(rw [if_neg (by decide +kernel)];exact ⟨rfl,rfl⟩))
  (fun os started H enc _=>lifted os started H enc)
theorem want29:Tryz.prog.wantsStandIn 29=false:=by kernel_rfl
theorem want46:Tryz.prog.wantsStandIn 46=false:=by kernel_rfl
theorem card_holds:Rows.MtfTwoCardSaid:=
 Claim7.holds_tied_plain_at .later [] [.funcs,.data,.data] true (true,"a82d1f1440ea33cc5e75019dc8621bc2b2023d813e0c7c3999182a711df8db29") true
  over (fun _ h=>by cases h) (by kernel_rfl) (fun _ h=>by cases h) mtfTwo_row_tie rfl ⟨rfl,rfl⟩ (by kernel_rfl) rfl
  (fun f fn hf hfn=>by
   obtain rfl:f=5:=Option.some.inj ((show Tryz.prog.funcNamed "monocle/monoclelaw31.MtfTwo" = some 5 by kernel_rfl).symm.trans hf) |>.symm;obtain rfl:fn=Tryz.f5:=(Option.some.inj (Tryz.func5.symm.trans hfn)).symm;exact ⟨by kernel_rfl,fun j t ht=>by
    rw [Tryz.params5] at ht
    match j,ht with
    | 0,ht=>obtain rfl:46=t:=Option.some.inj ht;exact want46
    | 1,ht=>obtain rfl:29=t:=Option.some.inj ht;exact want29
    | n+2,ht=>simp at ht⟩)
  (by kernel_rfl)
end Go.Proofs.YtbiiiloimbjpaaaGreatDoor.mtfTwo
