/- What is proved: MtfBounds returns true, whatever the input (part 36). No conditions beyond those of the row. -/
import Derived.Test.YtbiiiloimbjpaaaDoorPF
import Derived.Test.YtbiiiloimbjpaaaDoorPc
import Derived.Test.YtbiiiloimbjpaaaDoorPi
import Derived.Test.YtbiiiloimbjpaaaDoorCards
import Derived.Test.YtbiiiloimbjpaaaDoorTie
import Derived.LaidMore
import Derived.OpenShut
import Derived.Stop.Joined
import Derived.WideKeyArgs
set_option linter.unusedVariables false
set_option linter.unusedSimpArgs false
set_option linter.unusedSectionVars false
namespace Go.Proofs.YtbiiiloimbjpaaaDoor.mtfBounds
open Go.ChangeShapes Go.WideShapes Go.ChangeAt Go.WideMaps Go.WideElems Go.RowKit
open Go.Proofs.YtbiiiloimbjpaaaDoor.K
theorem own:ownKnob Tryd.prog.godebug=none:=by kernel_rfl
theorem shapes:Eng.shapeT Tryd.prog 24=some (.a (.c (.any true) :: shD)):=by kernel_rfl
theorem shapes1:Eng.shapesT Tryd.prog []=some Gv:=by kernel_rfl
theorem shapes2:Eng.shapesT Tryd.prog [25,4]=some zJ:=by kernel_rfl
theorem old_ok:Eng.allOld hG.clock hG.blks=true:=by kernel_rfl
theorem noM_ok:(hG.blks.all fun b=>Eng.noM .i16 2 b.body)=true:=by kernel_rfl
set_option maxRecDepth 100000 in
theorem walk (W:World) {base:Nat} {A:Array Value} {us vs:List Value} {v:Value} {cs:List Value} {last:Value} (hA:A.toList=us++v :: vs) (hu:us.length=([]:List TypeId).length) (hl:vs.length=([25,4]:List TypeId).length) (hc:v=.agg (last :: cs).toArray) (hlast:∃ k qs,Eng.Lst W .i16 2 last k qs/\∀ z∈qs,IntKind.i16.min<=z/\z<=IntKind.i16.max) (hv:∀ (j:Nat) t v,([]++24 :: [25,4]:List TypeId)[j]?=some t->A.toList[j]?=some v->Value.okWide Tryd.prog W .any base t v) (h:laidMetH Tryd.prog BA W):
  Calls Tryd.prog 3 A W fun e w'=>e=.returned (.bool true)/\Grown W w'/\∀ B,B<W.heap.size->w'.heap[B]?=W.heap[B]?:=by
 obtain ⟨σ,g,r⟩:=Vh h
 exact @Eng.law_walkG Tryd.prog glob hG .i16 2 (by decide) noM_ok old_ok (by decide) 3 [] [25,4] 24 shD Gv zJ shapes1 shapes shapes2 Vx W base σ A g r us vs v hA hu hl cs last hc hlast hv
theorem door_met (os:Os) (args:Array Value):laidMetH Tryd.prog BA ((World.doorLaid Tryd.prog 400 os).forCall (fun _ _=>0) ⟨#[],args,[]⟩).memory:=
 laidMetH_of_parts3 (fuel:=8) (laidMet_of_run' 8 (by kernel_rfl) (by kernel_rfl)) (by kernel_rfl) (by kernel_rfl)
def wArgs:Array Value:=#[.agg #[.slice none 0 0,.int .u8 0],.int .u16 0,.bool false]
theorem laidOut:laidOutB Tryd.prog=true:=by kernel_rfl
theorem recs:(([24,25,4]:List TypeId).all fun t=>Tryd.prog.readableRec t&&decide (t<Tryd.prog.types.size))=true:=by kernel_rfl
set_option maxRecDepth 100000 in
theorem lifted (os:Os) (started:os.Started) (H:Type) (enc:TypeId×Value->H):
  ReturnsInHanded {} Tryd.checked os 3 .any (fun w args=>(Rows.mtfBoundsSpec.pre enc Tryd.prog Tryd.f3 [] false w args/\laidMetH Tryd.prog BA w)/\sizedMet enc Tryd.prog Tryd.f3 (OpenSpec.ofChange Rows.mtfBoundsSpec) false w args)
   (Rows.mtfBoundsSpec.post enc Tryd.prog Tryd.f3 false true false false):=by
 refine returnsInHanded_of_change_and (C:=Tryd.checked) (X:=fun w _=>laidMetH Tryd.prog BA w) (fun _ _ _ hh h=>h.of_heap hh) own started (by kernel_rfl) Tryd.func3
  (ChangeSpec.witness_shaped (enc:=enc) (C:=Tryd.checked) (os:=os) (X:=fun w _=>laidMetH Tryd.prog BA w) false (World.doorLaid Tryd.prog 400 os) wArgs 8 rfl (World.shaped_of_RefB (by kernel_rfl) (by kernel_rfl)) (by kernel_rfl) (by kernel_rfl) (by kernel_rfl) (door_met os _)) ?_
 intro W base args ds gs before hval0 hW _ _ hL _
 have hval:∀ (j:Nat) t v,Tryd.f3.params[j]?=some t->args[j]?=some v->Value.okWide Tryd.prog W .any base t v:=hval0
 have hW':=hW
 obtain ⟨p,q,hA0,hV,rfl,hfz,hnd⟩:=hW
 have hA:DataW.TrodAll enc Tryd.prog W 0 (fun _=>true) true Tryd.f3.params.toList args.toList ds p:=hA0
 rw [Tryd.params3] at hA hval
 obtain ⟨l1,l2⟩:=Eng.trod_lens hA
 have hA0':=hA
 obtain ⟨d0,d1,d2,rfl⟩:∃ d0 d1 d2,ds=[d0,d1,d2]:=by
  match ds,l2 with
  | [d0,d1,d2],_=>exact ⟨d0,d1,d2,rfl⟩
 obtain ⟨rfl,rfl⟩:=trodVars_none hV
 clear hA0 hval0
 simp only [List.append_nil] at hW'
 obtain ⟨v0,v1,v2,hvs⟩:∃ v0 v1 v2,args.toList=[]++v0 :: [v1,v2]:=by
  match he:args.toList,l1 with
  | [v0,v1,v2],_=>exact ⟨v0,v1,v2,rfl⟩
 rw [hvs] at hA
 obtain ⟨ds',p',hA1⟩:=Eng.trod_drop (us:=[]) (ps:=[]) (ts:=24 :: [25,4]) (vs:=v0 :: [v1,v2]) rfl hA
 obtain ⟨cs,last,hc,hlast⟩:∃ cs last,v0=.agg (last :: cs).toArray/\∃ k qs,Eng.Lst W .i16 2 last k qs/\∀ z∈qs,IntKind.i16.min<=z/\z<=IntKind.i16.max:=Eng.raw_dots (P:=Tryd.prog) Tryd.underlying24 rfl Tryd.underlying22 Tryd.underlying46 (by kernel_rfl) Tryd.underlying45 (by kernel_rfl) rfl (of_decide_eq_true (by kernel_rfl)) (by kernel_rfl) hA1
 refine (walk W hvs rfl rfl hc hlast (fun j t v h1 h2=>hval j t v (by rw [<- Array.getElem?_toList]; exact h1) (by rw [<- h2]; exact (Array.getElem?_toList ..).symm)) hL).mono fun e W' ⟨he,hg,hk⟩=>?_
 subst he
 have lt:∀ x∈p,x.block<W.heap.size:=fun x hx=>hW'.lt x hx
 exact ⟨_,rfl,post_of_same (pa:=p) (pv:=[]) hW' (fun _ _ _=>(trodAll_cons_mk (shut_bool Tryd.underlying4 _) trodAll_mk0))
  (fun sp hs=>Eng.trodAll_stays laidOut recs hA0' (fun x hx=>Eng.same_at hk (lt x hx)) (fun x hx=>hs x hx)) (fun _ _=>rfl) (by simp)
  (hg.frame _) hg.2.1 (ok_one (by kernel_rfl) rfl (okWide_bool_mk Tryd.underlying4 _))⟩
theorem over:Rows.MtfBoundsSaid:=
 OpenClaim.holds_of_wide 3 Tryd.f3 rfl rfl rfl rfl rfl rfl rfl ⟨rfl,rfl,rfl,rfl,rfl⟩ rfl rfl rfl rfl rfl (by kernel_rfl) Tryd.func3 (by kernel_rfl)
  (of_decide_eq_true (by kernel_rfl)) (by unfold Func.isWrapper; first|(rw [if_pos (by decide +kernel)]; kernel_rfl)|(rw [if_neg (by decide +kernel)]; exact ⟨rfl,rfl⟩))
  (fun os started H enc _=>lifted os started H enc)
theorem want4:Tryd.prog.wantsStandIn 4=false:=by kernel_rfl
theorem want24:Tryd.prog.wantsStandIn 24=false:=by kernel_rfl
theorem want25:Tryd.prog.wantsStandIn 25=false:=by kernel_rfl
theorem card_holds:Rows.MtfBoundsCardSaid:=
 Claim7.holds_tied_plain_at .later [] [.funcs,.data,.data] true (true,"b41dfae6d5decf68d7e767a3ac351276760d135d04d778d98ecbb6880026f14f") true
  over (fun _ h=>by cases h) (by kernel_rfl) (fun _ h=>by cases h) mtfBounds_row_tie rfl ⟨rfl,rfl⟩ (by kernel_rfl) rfl
  (fun f fn hf hfn=>by
   obtain rfl:f=3:=Option.some.inj ((show Tryd.prog.funcNamed "monocle/monoclelaw31.MtfBounds" = some 3 by kernel_rfl).symm.trans hf) |>.symm
   obtain rfl:fn=Tryd.f3:=(Option.some.inj (Tryd.func3.symm.trans hfn)).symm
   exact ⟨by kernel_rfl,fun j t ht=>by
    rw [Tryd.params3] at ht
    match j,ht with
    | 0,ht=>obtain rfl:24=t:=Option.some.inj ht; exact want24
    | 1,ht=>obtain rfl:25=t:=Option.some.inj ht; exact want25
    | 2,ht=>obtain rfl:4=t:=Option.some.inj ht; exact want4
    | n+3,ht=>simp at ht⟩)
  (by kernel_rfl)
end Go.Proofs.YtbiiiloimbjpaaaDoor.mtfBounds
