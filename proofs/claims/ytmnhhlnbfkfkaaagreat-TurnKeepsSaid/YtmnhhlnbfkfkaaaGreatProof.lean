/- What is proved: TurnKeeps returns true, whatever the input (part 17). No conditions beyond those of the row. -/
import Derived.Test.YtmnhhlnbfkfkaaaGreatPF
import Derived.Test.YtmnhhlnbfkfkaaaGreatPP
import Derived.Test.YtmnhhlnbfkfkaaaGreatRows
import Derived.ProofKit
set_option linter.unusedVariables false
set_option linter.unusedSimpArgs false
set_option linter.unusedSectionVars false
namespace Go.Proofs.YtmnhhlnbfkfkaaaGreat.turnKeeps
open Go.ChangeShapes Go.WideShapes Go.ChangeAt Go.WideMaps Go.WideElems Go.RowKit
open Go.Proofs.YtmnhhlnbfkfkaaaGreat.K
theorem own:ownKnob Tryz.prog.godebug=none:=by kernel_rfl
theorem shapes:Eng.shapesT Tryz.prog [33,48]=some UI:=by kernel_rfl
theorem hrel (W:World):Eng.HRel (fun _=>none) Eng.hG0 W:=⟨rfl,fun i b h=>(by rw [Eng.Hp.get_eq] at h; simp [Eng.hG0] at h),fun i B N h=>(by cases h),fun i j b c B N M h=>(by rw [Eng.Hp.get_eq] at h; simp [Eng.hG0] at h)⟩
set_option maxRecDepth 100000 in
theorem walk (W:World) {base:Nat} {A:Array Value} (hl:A.toList.length=([33,48]:List TypeId).length) (hv:∀ (j:Nat) t v,([33,48]:List TypeId)[j]?=some t->A.toList[j]?=some v->Value.okWide Tryz.prog W .any base t v):
  Calls Tryz.prog 6 A W fun e w'=>e=.returned (.bool true)/\Grown W w'/\∀ B,B<W.heap.size->w'.heap[B]?=W.heap[B]?:=
 @Eng.law_walk Tryz.prog (fun _=>none) Eng.hG0 rfl 6 [33,48] UI shapes Ld W base (fun _=>none) A (fun _ _ h=>by cases h) (hrel W) hl hv
theorem laidOut:laidOutB Tryz.prog=true:=by kernel_rfl
theorem recs:(([33,48]:List TypeId).all fun t=>Tryz.prog.readableRec t&&decide (t<Tryz.prog.types.size))=true:=by kernel_rfl
set_option maxRecDepth 100000 in
theorem lifted (os:Os) (started:os.Started) (H:Type) (enc:TypeId×Value->H):
  ReturnsInHanded {} Tryz.checked os 6 .any (Rows.turnKeepsSpec.pre6 enc Tryz.prog Tryz.f6 Rows.turnKeepsRow.domain false) (Rows.turnKeepsSpec.post enc Tryz.prog Tryz.f6 false true false false):=by
 refine returnsInHanded_of_change (C:=Tryz.checked) own started (by kernel_rfl) Tryz.func6
  (ChangeSpec.witness6 (enc:=enc) (C:=Tryz.checked) false ⟨#[],#[.agg #[.int .i64 0,.int .i64 0,.int .i64 0],.agg #[.int .i64 0,.int .u8 0,.int .u32 0,.int .i64 0,.int .u8 0,.int .u32 0,.int .i64 0,.int .u8 0,.int .u32 0]],[]⟩ 8 (by kernel_rfl) (by kernel_rfl) (by kernel_rfl) (by kernel_rfl)) ?_
 intro W base args ds gs before hval0 hW hcnd _
 have hval:∀ (j:Nat) t v,Tryz.f6.params[j]?=some t->args[j]?=some v->Value.okWide Tryz.prog W .any base t v:=hval0
 have hW':=hW
 obtain ⟨p,q,hA0,hV,rfl,hfz,hnd⟩:=hW
 have hA:DataW.TrodAll enc Tryz.prog W 0 (fun _=>true) true Tryz.f6.params.toList args.toList ds p:=hA0
 rw [Tryz.params6] at hA hval
 obtain ⟨l1,l2⟩:=Eng.trod_lens hA
 obtain ⟨d0,d1,rfl⟩:∃ d0 d1,ds=[d0,d1]:=by
  match ds,l2 with
  | [d0,d1],_=>exact ⟨d0,d1,rfl⟩
 obtain ⟨rfl,rfl⟩:=trodVars_none hV
 clear hA0 hval0
 simp only [List.append_nil] at hW'
 refine (walk W l1 (fun j t v h1 h2=>hval j t v (by rw [<- h1]; exact (Array.getElem?_toList ..).symm) (by rw [<- h2]; exact (Array.getElem?_toList ..).symm))).mono fun e W' ⟨he,hg,hk⟩=>?_
 subst he
 have lt:∀ x∈p,x.block<W.heap.size:=fun x hx=>hW'.lt x hx
 exact ⟨_,rfl,post_of_same (pa:=p) (pv:=[]) hW' (fun _ _ _=>(trodAll_cons_mk (shut_bool Tryz.underlying4 _) trodAll_mk0))
  (fun sp hs=>Eng.trodAll_stays laidOut recs hA (fun x hx=>Eng.same_at hk (lt x hx)) (fun x hx=>hs x hx)) (fun _ _=>rfl) (by simp)
  (hg.frame _) hg.2.1 (ok_one (by kernel_rfl) rfl (okWide_bool_mk Tryz.underlying4 _))⟩
theorem holds:Rows.TurnKeepsSaid:=
 OpenClaim.holds_of_wide 6 Tryz.f6 rfl rfl rfl rfl rfl rfl rfl ⟨rfl,rfl,rfl,rfl,rfl⟩ rfl rfl rfl rfl rfl (by kernel_rfl) Tryz.func6 (by kernel_rfl)
  (of_decide_eq_true (by kernel_rfl)) (by unfold Func.isWrapper; first|(rw [if_pos (by decide +kernel)]; kernel_rfl)|(rw [if_neg (by decide +kernel)]; exact ⟨rfl,rfl⟩))
  (fun os started H enc _=>lifted os started H enc)
end Go.Proofs.YtmnhhlnbfkfkaaaGreat.turnKeeps
