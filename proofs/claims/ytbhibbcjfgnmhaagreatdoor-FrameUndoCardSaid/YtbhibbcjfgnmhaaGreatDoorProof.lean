/- What is proved: FrameUndo returns true, whatever the input (part 18). No conditions beyond those of the row. -/
import Derived.Test.YtbhibbcjfgnmhaaGreatDoorPF
import Derived.Test.YtbhibbcjfgnmhaaGreatDoorPQ
import Derived.Test.YtbhibbcjfgnmhaaGreatDoorCards
import Derived.Test.YtbhibbcjfgnmhaaGreatDoorTie
import Derived.LaidMore
import Derived.OpenShut
import Derived.Stop.Joined
import Derived.WideKeyArgs
set_option linter.unusedVariables false
set_option linter.unusedSimpArgs false
set_option linter.unusedSectionVars false
namespace Go.Proofs.YtbhibbcjfgnmhaaGreatDoor.frameUndo
open Go.ChangeShapes Go.WideShapes Go.ChangeAt Go.WideMaps Go.WideElems Go.RowKit
open Go.Proofs.YtbhibbcjfgnmhaaGreatDoor.K
theorem own:ownKnob Tryz.prog.godebug=none:=by kernel_rfl
theorem shapes:Eng.shapesT Tryz.prog [5,21]=some SI:=by kernel_rfl
theorem old_ok:Eng.allOld hG.clock hG.blks=true:=by kernel_rfl
set_option maxRecDepth 100000 in
theorem walk (W:World) {base:Nat} {A:Array Value} (hl:A.toList.length=([5,21]:List TypeId).length) (hv:∀ (j:Nat) t v,([5,21]:List TypeId)[j]?=some t->A.toList[j]?=some v->Value.okWide Tryz.prog W .any base t v) (h:laidMetH Tryz.prog AU W):
  Calls Tryz.prog 3 A W fun e w'=>e=.returned (.bool true)/\Grown W w'/\∀ B,B<W.heap.size->w'.heap[B]?=W.heap[B]?:=by
 obtain ⟨σ,g,r⟩:=Wd h
 exact @Eng.law_walk Tryz.prog glob hG old_ok 3 [5,21] SI shapes NE W base σ A g r hl hv
theorem door_met (os:Os) (args:Array Value):laidMetH Tryz.prog AU ((World.doorLaid Tryz.prog 400 os).forCall (fun _ _=>0) ⟨#[],args,[]⟩).memory:=
 laidMetH_of_parts3 (fuel:=8) (laidMet_of_run' 8 (by kernel_rfl) (by kernel_rfl)) (by kernel_rfl) (by kernel_rfl)
def wArgs:Array Value:=#[.int .u8 0,.int .i32 0]
theorem laidOut:laidOutB Tryz.prog=true:=by kernel_rfl
theorem recs:(([5,21]:List TypeId).all fun t=>Tryz.prog.readableRec t&&decide (t<Tryz.prog.types.size))=true:=by kernel_rfl
set_option maxRecDepth 100000 in
theorem lifted (os:Os) (started:os.Started) (H:Type) (enc:TypeId×Value->H):
  ReturnsInHanded {} Tryz.checked os 3 .any (fun w args=>(Rows.frameUndoSpec.pre enc Tryz.prog Tryz.f3 [] false w args/\laidMetH Tryz.prog AU w)/\sizedMet enc Tryz.prog Tryz.f3 (OpenSpec.ofChange Rows.frameUndoSpec) false w args)
   (Rows.frameUndoSpec.post enc Tryz.prog Tryz.f3 false true false false):=by
 refine returnsInHanded_of_change_and (C:=Tryz.checked) (X:=fun w _=>laidMetH Tryz.prog AU w) (fun _ _ _ hh h=>h.of_heap hh) own started (by kernel_rfl) Tryz.func3
  (ChangeSpec.witness_shaped (enc:=enc) (C:=Tryz.checked) (os:=os) (X:=fun w _=>laidMetH Tryz.prog AU w) false (World.doorLaid Tryz.prog 400 os) wArgs 8 rfl (World.shaped_of_RefB (by kernel_rfl) (by kernel_rfl)) (by kernel_rfl) (by kernel_rfl) (by kernel_rfl) (door_met os _)) ?_
 intro W base args ds gs before hval0 hW _ _ hL _
 have hval:∀ (j:Nat) t v,Tryz.f3.params[j]?=some t->args[j]?=some v->Value.okWide Tryz.prog W .any base t v:=hval0
 have hW':=hW
 obtain ⟨p,q,hA0,hV,rfl,hfz,hnd⟩:=hW
 have hA:DataW.TrodAll enc Tryz.prog W 0 (fun _=>true) true Tryz.f3.params.toList args.toList ds p:=hA0
 rw [Tryz.params3] at hA hval
 obtain ⟨l1,l2⟩:=Eng.trod_lens hA
 obtain ⟨d0,d1,rfl⟩:∃ d0 d1,ds=[d0,d1]:=by
  match ds,l2 with
  | [d0,d1],_=>exact ⟨d0,d1,rfl⟩
 obtain ⟨rfl,rfl⟩:=trodVars_none hV
 clear hA0 hval0
 simp only [List.append_nil] at hW'
 refine (walk W l1 (fun j t v h1 h2=>hval j t v (by rw [<- h1]; exact (Array.getElem?_toList ..).symm) (by rw [<- h2]; exact (Array.getElem?_toList ..).symm)) hL).mono fun e W' ⟨he,hg,hk⟩=>?_
 subst he
 have lt:∀ x∈p,x.block<W.heap.size:=fun x hx=>hW'.lt x hx
 exact ⟨_,rfl,post_of_same (pa:=p) (pv:=[]) hW' (fun _ _ _=>(trodAll_cons_mk (shut_bool Tryz.underlying4 _) trodAll_mk0))
  (fun sp hs=>Eng.trodAll_stays laidOut recs hA (fun x hx=>Eng.same_at hk (lt x hx)) (fun x hx=>hs x hx)) (fun _ _=>rfl) (by simp)
  (hg.frame _) hg.2.1 (ok_one (by kernel_rfl) rfl (okWide_bool_mk Tryz.underlying4 _))⟩
theorem over:Rows.FrameUndoSaid:=
 OpenClaim.holds_of_wide 3 Tryz.f3 rfl rfl rfl rfl rfl rfl rfl ⟨rfl,rfl,rfl,rfl,rfl⟩ rfl rfl rfl rfl rfl (by kernel_rfl) Tryz.func3 (by kernel_rfl)
  (of_decide_eq_true (by kernel_rfl)) (by unfold Func.isWrapper; first|(rw [if_pos (by decide +kernel)]; kernel_rfl)|(rw [if_neg (by decide +kernel)]; exact ⟨rfl,rfl⟩))
  (fun os started H enc _=>lifted os started H enc)
theorem want5:Tryz.prog.wantsStandIn 5=false:=by kernel_rfl
theorem want21:Tryz.prog.wantsStandIn 21=false:=by kernel_rfl
theorem card_holds:Rows.FrameUndoCardSaid:=
 Claim7.holds_tied_plain_at .later [] [.data,.mappedDeep,.data] true (true,"b608695479a966f4a6cfac9bcd92ab976d14f1850c6b26633a8a446f31ac8d89") false
  over (fun _ h=>by cases h) (by kernel_rfl) (fun _ h=>by cases h) frameUndo_row_tie rfl ⟨rfl,rfl⟩ (by kernel_rfl) rfl
  (fun f fn hf hfn=>by
   obtain rfl:f=3:=Option.some.inj ((show Tryz.prog.funcNamed "monocle/monoclelaw14.FrameUndo" = some 3 by kernel_rfl).symm.trans hf) |>.symm
   obtain rfl:fn=Tryz.f3:=(Option.some.inj (Tryz.func3.symm.trans hfn)).symm
   exact ⟨by kernel_rfl,fun j t ht=>by
    rw [Tryz.params3] at ht
    match j,ht with
    | 0,ht=>obtain rfl:5=t:=Option.some.inj ht; exact want5
    | 1,ht=>obtain rfl:21=t:=Option.some.inj ht; exact want21
    | n+2,ht=>simp at ht⟩)
  (by kernel_rfl)
end Go.Proofs.YtbhibbcjfgnmhaaGreatDoor.frameUndo
