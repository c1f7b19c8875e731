/- What is proved: AperInside returns true, whatever the input (part 23). No conditions beyond those of the row. -/
import Derived.Test.YtjcicegihechmaaGreatDoorPV
import Derived.Test.YtjcicegihechmaaGreatDoorCards
import Derived.Test.YtjcicegihechmaaGreatDoorTie
import Derived.LaidMore
import Derived.OpenShut
import Derived.Stop.Joined
import Derived.WideKeyArgs
set_option linter.unusedVariables false
set_option linter.unusedSimpArgs false
set_option linter.unusedSectionVars false
namespace Go.Proofs.YtjcicegihechmaaGreatDoor.aperInside
open Go.ChangeShapes Go.WideShapes Go.ChangeAt Go.WideMaps Go.WideElems Go.RowKit
open Go.Proofs.YtjcicegihechmaaGreatDoor.K
theorem own:ownKnob Tryz.prog.godebug=none:=by kernel_rfl
theorem shapes:Eng.shapesT Tryz.prog [30,3,3,32,32,33]=some (.a (Go.Rd.drI++[.c (.any true)]) :: dai):=by kernel_rfl
theorem old_ok:Eng.allOld hG.clock hG.blks=true:=by kernel_rfl
theorem noK_ok:(hG.blks.all fun b=>Eng.noK .u8 b.body)=true:=by kernel_rfl
set_option maxRecDepth 100000 in
theorem walk (W:World) {base:Nat} {A:Array Value} {v:Value} {vs:List Value} {cs:List Value} {last:Value} (hA:A.toList=v :: vs) (hl:vs.length=([3,3,32,32,33]:List TypeId).length) (hc:v=.agg (cs++[last]).toArray) (hlast:∃ n zs,Eng.Bytes W last n zs) (hv:∀ (j:Nat) t v,([30,3,3,32,32,33]:List TypeId)[j]?=some t->A.toList[j]?=some v->Value.okWide Tryz.prog W .any base t v) (h:laidMetH Tryz.prog laidL W):
  Calls Tryz.prog 3 A W fun e w'=>e=.returned (.bool true)/\Grown W w'/\∀ B,B<W.heap.size->w'.heap[B]?=W.heap[B]?:=by
 obtain ⟨σ,g,r⟩:=of_laid h
 exact @Eng.law_walkL Tryz.prog glob hG noK_ok old_ok (by decide) 3 30 [3,3,32,32,33] Go.Rd.drI dai shapes ai_true W base σ A g r v vs hA hl cs last hc hlast hv
theorem door_met (os:Os) (args:Array Value):laidMetH Tryz.prog laidL ((World.doorLaid Tryz.prog 400 os).forCall (fun _ _=>0) ⟨#[],args,[]⟩).memory:=
 laidMetH_of_parts3 (fuel:=8) (laidMet_of_run' 8 (by kernel_rfl) (by kernel_rfl)) (by kernel_rfl) (by kernel_rfl)
def wArgs:Array Value:=#[.agg #[.int .u8 0,.int .i16 0,.int .i16 0,.int .i16 0,.int .i16 0,.int .i8 0,.int .i8 0,.int .i8 0,.int .i8 0,.int .i8 0,.int .i8 0,.int .i8 0,.int .i16 0,.int .u8 0,.int .u8 0,.int .u8 0,.int .i8 0,.int .i8 0,.int .i8 0,.int .i8 0,.int .i8 0,.slice none 0 0],.int .i64 0,.int .i64 0,.agg #[.int .i64 0,.int .i64 0],.agg #[.int .i64 0,.int .i64 0],.agg #[.int .i16 0,.int .i16 0,.int .i16 0,.int .i16 0]]
theorem laidOut:laidOutB Tryz.prog=true:=by kernel_rfl
theorem recs:(([30,3,3,32,32,33]:List TypeId).all fun t=>Tryz.prog.readableRec t&&decide (t<Tryz.prog.types.size))=true:=by kernel_rfl
set_option maxRecDepth 100000 in
theorem lifted (os:Os) (started:os.Started) (H:Type) (enc:TypeId×Value->H):
  ReturnsInHanded {} Tryz.checked os 3 .any (fun w args=>(Rows.aperInsideSpec.pre enc Tryz.prog Tryz.f3 [] false w args/\laidMetH Tryz.prog laidL w)/\sizedMet enc Tryz.prog Tryz.f3 (OpenSpec.ofChange Rows.aperInsideSpec) false w args)
   (Rows.aperInsideSpec.post enc Tryz.prog Tryz.f3 false true false false):=by
 refine returnsInHanded_of_change_and (C:=Tryz.checked) (X:=fun w _=>laidMetH Tryz.prog laidL w) (fun _ _ _ hh h=>h.of_heap hh) own started (by kernel_rfl) Tryz.func3
  (ChangeSpec.witness_shaped (enc:=enc) (C:=Tryz.checked) (os:=os) (X:=fun w _=>laidMetH Tryz.prog laidL w) false (World.doorLaid Tryz.prog 400 os) wArgs 8 rfl (World.shaped_of_RefB (by kernel_rfl) (by kernel_rfl)) (by kernel_rfl) (by kernel_rfl) (by kernel_rfl) (door_met os _)) ?_
 intro W base args ds gs before hval0 hW _ _ hL _
 have hval:∀ (j:Nat) t v,Tryz.f3.params[j]?=some t->args[j]?=some v->Value.okWide Tryz.prog W .any base t v:=hval0
 have hW':=hW
 obtain ⟨p,q,hA0,hV,rfl,hfz,hnd⟩:=hW
 have hA:DataW.TrodAll enc Tryz.prog W 0 (fun _=>true) true Tryz.f3.params.toList args.toList ds p:=hA0
 rw [Tryz.params3] at hA hval
 obtain ⟨l1,l2⟩:=Eng.trod_lens hA
 have hA0':=hA
 obtain ⟨d0,d1,d2,d3,d4,d5,rfl⟩:∃ d0 d1 d2 d3 d4 d5,ds=[d0,d1,d2,d3,d4,d5]:=by
  match ds,l2 with
  | [d0,d1,d2,d3,d4,d5],_=>exact ⟨d0,d1,d2,d3,d4,d5,rfl⟩
 obtain ⟨rfl,rfl⟩:=trodVars_none hV
 clear hA0 hval0
 simp only [List.append_nil] at hW'
 obtain ⟨v0,vs,hvs⟩:∃ v0 vs,args.toList=v0 :: vs:=by
  cases he:args.toList with
  | nil=>rw [he] at l1; cases l1
  | cons a l=>exact ⟨a,l,rfl⟩
 rw [hvs] at hA l1
 have hd:∃ cs last,v0=.agg (cs++[last]).toArray/\∃ n zs,Eng.Bytes W last n zs:=Eng.draft_films (P:=Tryz.prog) Tryz.underlying30 (i:=11) rfl Tryz.underlying28 Tryz.underlying5 (by kernel_rfl) (by decide) (by kernel_rfl) (by kernel_rfl) hA
 obtain ⟨cs,last,hc,hlast⟩:=hd
 refine (walk W hvs (by simpa using l1) hc hlast (fun j t v h1 h2=>hval j t v (by rw [<- h1]; exact (Array.getElem?_toList ..).symm) (by rw [<- h2]; exact (Array.getElem?_toList ..).symm)) hL).mono fun e W' ⟨he,hg,hk⟩=>?_
 subst he
 have lt:∀ x∈p,x.block<W.heap.size:=fun x hx=>hW'.lt x hx
 exact ⟨_,rfl,post_of_same (pa:=p) (pv:=[]) hW' (fun _ _ _=>(trodAll_cons_mk (shut_bool Tryz.underlying4 _) trodAll_mk0))
  (fun sp hs=>Eng.trodAll_stays laidOut recs hA0' (fun x hx=>Eng.same_at hk (lt x hx)) (fun x hx=>hs x hx)) (fun _ _=>rfl) (by simp)
  (hg.frame _) hg.2.1 (ok_one (by kernel_rfl) rfl (okWide_bool_mk Tryz.underlying4 _))⟩
theorem over:Rows.AperInsideSaid:=
 OpenClaim.holds_of_wide 3 Tryz.f3 rfl rfl rfl rfl rfl rfl rfl ⟨rfl,rfl,rfl,rfl,rfl⟩ rfl rfl rfl rfl rfl (by kernel_rfl) Tryz.func3 (by kernel_rfl)
  (of_decide_eq_true (by kernel_rfl)) (by unfold Func.isWrapper; first|(rw [if_pos (by decide +kernel)]; kernel_rfl)|(rw [if_neg (by decide +kernel)]; exact ⟨rfl,rfl⟩))
  (fun os started H enc _=>lifted os started H enc)
theorem want3:Tryz.prog.wantsStandIn 3=false:=by kernel_rfl
theorem want30:Tryz.prog.wantsStandIn 30=false:=by kernel_rfl
theorem want32:Tryz.prog.wantsStandIn 32=false:=by kernel_rfl
theorem want33:Tryz.prog.wantsStandIn 33=false:=by kernel_rfl
theorem card_holds:Rows.AperInsideCardSaid:=
 Claim7.holds_tied_plain_at .later [] [.data,.data,.data,.mappedDeep,.data] true (true,"fc75bdd88bf1b99e1e87a1536846c2e199946dcde839b67ffb8fae84c3e26e60") false
  over (fun _ h=>by cases h) (by kernel_rfl) (fun _ h=>by cases h) aperInside_row_tie rfl ⟨rfl,rfl⟩ (by kernel_rfl) rfl
  (fun f fn hf hfn=>by
   obtain rfl:f=3:=Option.some.inj ((show Tryz.prog.funcNamed "monocle/monoclelaw15.AperInside" = some 3 by kernel_rfl).symm.trans hf) |>.symm
   obtain rfl:fn=Tryz.f3:=(Option.some.inj (Tryz.func3.symm.trans hfn)).symm
   exact ⟨by kernel_rfl,fun j t ht=>by
    rw [Tryz.params3] at ht
    match j,ht with
    | 0,ht=>obtain rfl:30=t:=Option.some.inj ht; exact want30
    | 1,ht=>obtain rfl:3=t:=Option.some.inj ht; exact want3
    | 2,ht=>obtain rfl:3=t:=Option.some.inj ht; exact want3
    | 3,ht=>obtain rfl:32=t:=Option.some.inj ht; exact want32
    | 4,ht=>obtain rfl:32=t:=Option.some.inj ht; exact want32
    | 5,ht=>obtain rfl:33=t:=Option.some.inj ht; exact want33
    | n+6,ht=>simp at ht⟩)
  (by kernel_rfl)
end Go.Proofs.YtjcicegihechmaaGreatDoor.aperInside
