/- What is proved: a law of conics returns true, whatever the input (part 18). No conditions beyond those of the row. -/
import Derived.Test.YtkbndjnibcjchaaGreatDoorPQ
import Derived.Test.YtkbndjnibcjchaaGreatDoorCards
import Derived.Test.YtkbndjnibcjchaaGreatDoorTie
import Derived.LaidMore
import Derived.OpenShut
import Derived.Stop.Joined
import Derived.WideKeyArgs
set_option linter.unusedVariables false
set_option linter.unusedSimpArgs false
set_option linter.unusedSectionVars false
namespace Go.Proofs.YtkbndjnibcjchaaGreatDoor.surfaceSteep
open Go.ChangeShapes Go.WideShapes Go.ChangeAt Go.WideMaps Go.WideElems Go.RowKit
open Go.Proofs.YtkbndjnibcjchaaGreatDoor.K
def laid2:List (String×DataW Unit):=[("monocle/surface.one",Rows.laid_monocle_surface_one),("monocle/surface.places",Rows.laid_monocle_surface_places)]
theorem own:ownKnob Tryz.prog.godebug=none:=by kernel_rfl
noncomputable def ts30:List TypeId:=(Tryz.prog.cellTypes Tryz.prog.depth 30).getD []
noncomputable def ts23:List TypeId:=(Tryz.prog.cellTypes Tryz.prog.depth 23).getD []
theorem ts30_ok:Tryz.prog.cellTypes Tryz.prog.depth 30=some ts30:=by kernel_rfl
theorem ts23_ok:Tryz.prog.cellTypes Tryz.prog.depth 23=some ts23:=by kernel_rfl
theorem agg30:Eng.isAggT Tryz.prog 30=some true:=by kernel_rfl
theorem agg23:Eng.isAggT Tryz.prog 23=some true:=by kernel_rfl
theorem len30:ts30.length=22:=by kernel_rfl
theorem len23:ts23.length=2:=by kernel_rfl
theorem sz30:Tryz.prog.cellsOf 30=22:=by kernel_rfl
theorem sz23:Tryz.prog.cellsOf 23=2:=by kernel_rfl
theorem of30:Eng.Sh.ofL Tryz.prog ts30=drSh:=by kernel_rfl
theorem of23:Eng.Sh.ofL Tryz.prog ts23=[.i .i16,.i .i16]:=by kernel_rfl
theorem old_ok:Eng.allOld hG.clock hG.blks=true:=by kernel_rfl
set_option maxRecDepth 100000 in
theorem arg_d {W:World} {base:Nat} {σ:Eng.Sg} {v:Value} (h:Value.okWide Tryz.prog W .any base 30 v):
  ∃ z0 c c2 k k2 z5 z6 z7 z8 z9 z10 z11 z12 z13 z14 z15 z16 z17 z18 z19 z20,(-32768<=c/\c<=32767)/\(-32768<=k/\k<=32767)/\Eng.VRel σ (dArg z0 c c2 k k2 z5 z6 z7 z8 z9 z10 z11 z12 z13 z14 z15 z16 z17 z18 z19 z20) v:=by
 obtain ⟨xs,h1,h2,h3⟩:=@Eng.law_arg Tryz.prog W base σ 30 v h agg30 ts30 ts30_ok (sz30.trans len30.symm) (Nat.lt_of_lt_of_eq (by decide) len30.symm)
 rw [of30] at h1 h2 h3
 obtain ⟨z0,_,rfl,q2⟩:=Eng.kn h1
 obtain ⟨c,_,rfl,q3⟩:=Eng.kn q2
 obtain ⟨c2,_,rfl,q4⟩:=Eng.kn q3
 obtain ⟨k,_,rfl,q5⟩:=Eng.kn q4
 obtain ⟨k2,_,rfl,q6⟩:=Eng.kn q5
 obtain ⟨z5,_,rfl,q7⟩:=Eng.kn q6
 obtain ⟨z6,_,rfl,q8⟩:=Eng.kn q7
 obtain ⟨z7,_,rfl,q9⟩:=Eng.kn q8
 obtain ⟨z8,_,rfl,q10⟩:=Eng.kn q9
 obtain ⟨z9,_,rfl,q11⟩:=Eng.kn q10
 obtain ⟨z10,_,rfl,q12⟩:=Eng.kn q11
 obtain ⟨z11,_,rfl,q13⟩:=Eng.kn q12
 obtain ⟨z12,_,rfl,q14⟩:=Eng.kn q13
 obtain ⟨z13,_,rfl,q15⟩:=Eng.kn q14
 obtain ⟨z14,_,rfl,q16⟩:=Eng.kn q15
 obtain ⟨z15,_,rfl,q17⟩:=Eng.kn q16
 obtain ⟨z16,_,rfl,q18⟩:=Eng.kn q17
 obtain ⟨z17,_,rfl,q19⟩:=Eng.kn q18
 obtain ⟨z18,_,rfl,q20⟩:=Eng.kn q19
 obtain ⟨z19,_,rfl,q21⟩:=Eng.kn q20
 obtain ⟨z20,_,rfl,q22⟩:=Eng.kn q21
 obtain rfl:=Eng.k0 q22
 obtain ⟨_,r1,_,r3,_⟩:=h2
 exact ⟨z0,c,c2,k,k2,z5,z6,z7,z8,z9,z10,z11,z12,z13,z14,z15,z16,z17,z18,z19,z20,r1,r3,h3⟩
set_option maxRecDepth 100000 in
theorem arg_at {W:World} {base:Nat} {σ:Eng.Sg} {v:Value} (h:Value.okWide Tryz.prog W .any base 23 v):
  ∃ x y,(-32768<=x/\x<=32767)/\(-32768<=y/\y<=32767)/\Eng.VRel σ (aArg x y) v:=by
 obtain ⟨xs,h1,h2,h3⟩:=@Eng.law_arg Tryz.prog W base σ 23 v h agg23 ts23 ts23_ok (sz23.trans len23.symm) (Nat.lt_of_lt_of_eq (by decide) len23.symm)
 rw [of23] at h1 h2 h3
 obtain ⟨x,_,rfl,q2⟩:=Eng.kn h1
 obtain ⟨y,_,rfl,q3⟩:=Eng.kn q2
 obtain rfl:=Eng.k0 q3
 obtain ⟨r1,r2,_⟩:=h2
 exact ⟨x,y,r1,r2,h3⟩
set_option maxRecDepth 100000 in
theorem walk (W:World) {base:Nat} {v w:Value} (hv:Value.okWide Tryz.prog W .any base 30 v) (hw:Value.okWide Tryz.prog W .any base 23 w) (h:laidMetH Tryz.prog laid2 W):
  Calls Tryz.prog 4 #[v,w] W fun e w'=>e=.returned (.bool true)/\Grown W w'/\∀ B,B<W.heap.size->w'.heap[B]?=W.heap[B]?:=by
 obtain ⟨σ,g,r⟩:=of_laid h
 obtain ⟨z0,c,c2,k,k2,z5,z6,z7,z8,z9,z10,z11,z12,z13,z14,z15,z16,z17,z18,z19,z20,hc,hk,h1⟩:=arg_d (σ:=σ) hv
 obtain ⟨x,y,hx,hy,h2⟩:=arg_at (σ:=σ) hw
 have hA:Eng.VRels σ [dArg z0 c c2 k k2 z5 z6 z7 z8 z9 z10 z11 z12 z13 z14 z15 z16 z17 z18 z19 z20,aArg x y] (#[v,w]:Array Value).toList:=⟨v,[w],rfl,h1,w,[],rfl,h2,rfl⟩
 have old:=old_ok
 rcases Go.Co.st_law (c:=c) (k:=k) (x:=x) (y:=y) ⟨hc.1,hc.2,hx.1,hx.2,hy.1,hy.2⟩ with h1|⟨p,q,p',q',h1,h2⟩
 .exact Eng.law_calls (cSC_ok false) old (st_f ..) h1 rfl g r hA
 .exact Eng.law_calls (cST_ok 600 p q p' q') old (st_g p q p' q' ..) h1 h2 g r hA
theorem door_met (os:Os) (args:Array Value):laidMetH Tryz.prog laid2 ((World.doorLaid Tryz.prog 400 os).forCall (fun _ _=>0) ⟨#[],args,[]⟩).memory:=
 laidMetH_of_parts3 (fuel:=8) (laidMet_of_run' 8 (by kernel_rfl) (by kernel_rfl)) (by kernel_rfl) (by kernel_rfl)
def wArgs:Array Value:=#[.agg #[.int .u8 0,.int .i16 0,.int .i16 0,.int .i16 0,.int .i16 0,.int .i8 0,.int .i8 0,.int .i8 0,.int .i8 0,.int .i8 0,.int .i8 0,.int .i8 0,.int .i16 0,.int .u8 0,.int .u8 0,.int .u8 0,.int .i8 0,.int .i8 0,.int .i8 0,.int .i8 0,.int .i8 0,.slice none 0 0],.agg #[.int .i16 0,.int .i16 0]]
theorem laidOut:laidOutB Tryz.prog=true:=by kernel_rfl
theorem rec30:Tryz.prog.readableRec 30=true:=by kernel_rfl
theorem rec23:Tryz.prog.readableRec 23=true:=by kernel_rfl
theorem row30:30<Tryz.prog.types.size:=of_decide_eq_true (by kernel_rfl)
theorem row23:23<Tryz.prog.types.size:=of_decide_eq_true (by kernel_rfl)
theorem same_at {W W':World} (h:∀ B,B<W.heap.size->W'.heap[B]?=W.heap[B]?) {p:MemPlace} (hp:p.block<W.heap.size):W.sameAt W' p:=by
 cases p with
 | cell b off=>
  show W'.cell? _=W.cell? _
  unfold World.cell?
  rw [h b hp]
 | map b=>exact h b hp
set_option maxRecDepth 100000 in
theorem lifted (os:Os) (started:os.Started) (H:Type) (enc:TypeId×Value->H):
  ReturnsInHanded {} Tryz.checked os 4 .any (fun w args=>(Rows.surfaceSteepSpec.pre enc Tryz.prog Tryz.f4 [] false w args/\laidMetH Tryz.prog laid2 w)/\sizedMet enc Tryz.prog Tryz.f4 (OpenSpec.ofChange Rows.surfaceSteepSpec) false w args)
   (Rows.surfaceSteepSpec.post enc Tryz.prog Tryz.f4 false true false false):=by
 refine returnsInHanded_of_change_and (C:=Tryz.checked) (X:=fun w _=>laidMetH Tryz.prog laid2 w) (fun _ _ _ hh h=>h.of_heap hh) own started (by kernel_rfl) Tryz.func4
  (ChangeSpec.witness_shaped (enc:=enc) (C:=Tryz.checked) (os:=os) (X:=fun w _=>laidMetH Tryz.prog laid2 w) false (World.doorLaid Tryz.prog 400 os) wArgs 8 rfl (World.shaped_of_RefB (by kernel_rfl) (by kernel_rfl)) (by kernel_rfl) (by kernel_rfl) (by kernel_rfl) (door_met os _)) ?_
 intro W base args ds gs before hval0 hW _ _ hL _
 have hval:∀ (j:Nat) t v,Tryz.f4.params[j]?=some t->args[j]?=some v->Value.okWide Tryz.prog W .any base t v:=hval0
 have hW':=hW
 obtain ⟨p,q,hA0,hV,rfl,hfz,hnd⟩:=hW
 have hA:DataW.TrodAll enc Tryz.prog W 0 (fun _=>true) true Tryz.f4.params.toList args.toList ds p:=hA0
 rw [Tryz.params4] at hA hval
 obtain ⟨v,v',d,d',p1,p2,rfl,rfl,rfl,t1,t2⟩:=trodAll_two hA
 obtain ⟨rfl,rfl⟩:=trodVars_none hV
 clear hA0 hval0
 simp only [List.append_nil] at hW'
 refine (walk W (hval 0 30 v rfl rfl) (hval 1 23 v' rfl rfl) hL).mono fun e W' ⟨he,hg,hk⟩=>?_
 subst he
 have lt:∀ x∈p1++p2,x.block<W.heap.size:=fun x hx=>hW'.lt x hx
 exact ⟨_,rfl,post_of_same (pa:=p1++p2) (pv:=[]) hW' (fun _ _ _=>(trodAll_cons_mk (shut_bool Tryz.underlying4 _) trodAll_mk0))
  (fun sp hs=>trodAll_mk2 (Trod_stays laidOut rec30 row30 t1 (fun x hx=>same_at hk (lt x (List.mem_append_left _ hx))) (fun x hx=>hs x (List.mem_append_left _ hx)))
   (Trod_stays laidOut rec23 row23 t2 (fun x hx=>same_at hk (lt x (List.mem_append_right _ hx))) (fun x hx=>hs x (List.mem_append_right _ hx)))) (fun _ _=>rfl) (by simp)
  (hg.frame _) hg.2.1 (ok_one (by kernel_rfl) rfl (okWide_bool_mk Tryz.underlying4 _))⟩
theorem over:Rows.SurfaceSteepSaid:=
 OpenClaim.holds_of_wide 4 Tryz.f4 rfl rfl rfl rfl rfl rfl rfl ⟨rfl,rfl,rfl,rfl,rfl⟩ rfl rfl rfl rfl rfl (by kernel_rfl) Tryz.func4 (by kernel_rfl)
  (of_decide_eq_true (by kernel_rfl)) (by unfold Func.isWrapper; first|(rw [if_pos (by decide +kernel)]; kernel_rfl)|(rw [if_neg (by decide +kernel)]; exact ⟨rfl,rfl⟩))
  (fun os started H enc _=>lifted os started H enc)
theorem want30:Tryz.prog.wantsStandIn 30=false:=by kernel_rfl
theorem want23:Tryz.prog.wantsStandIn 23=false:=by kernel_rfl
theorem card_holds:Rows.SurfaceSteepCardSaid:=
 Claim7.holds_tied_plain_at .later [] [.data,.mappedDeep] true (true,"1e3d677c9d1dfe40f3c514e9c83e0f8201bc69f073d7222d69ac65c003b36067") false
  over (fun _ h=>by cases h) (by kernel_rfl) (fun _ h=>by cases h) surfaceSteep_row_tie rfl ⟨rfl,rfl⟩ (by kernel_rfl) rfl
  (fun f fn hf hfn=>by
   obtain rfl:f=4:=Option.some.inj ((show Tryz.prog.funcNamed "monocle/monoclelaw11.SurfaceSteep" = some 4 by kernel_rfl).symm.trans hf) |>.symm
   obtain rfl:fn=Tryz.f4:=(Option.some.inj (Tryz.func4.symm.trans hfn)).symm
   exact ⟨by kernel_rfl,fun j t ht=>by
    rw [Tryz.params4] at ht
    match j,ht with
    | 0,ht=>obtain rfl:30=t:=Option.some.inj ht; exact want30
    | 1,ht=>obtain rfl:23=t:=Option.some.inj ht; exact want23
    | n+2,ht=>simp at ht⟩)
  (by kernel_rfl)
end Go.Proofs.YtkbndjnibcjchaaGreatDoor.surfaceSteep
