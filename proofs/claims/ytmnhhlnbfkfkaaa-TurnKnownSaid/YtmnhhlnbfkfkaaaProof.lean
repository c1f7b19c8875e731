/- What is proved: TurnKnown returns true, whatever the input (part 15). No conditions beyond those of the row. -/
import Derived.Test.YtmnhhlnbfkfkaaaPF
import Derived.Test.YtmnhhlnbfkfkaaaPN
import Derived.Test.YtmnhhlnbfkfkaaaRows
import Derived.ProofKit
set_option linter.unusedVariables false
set_option linter.unusedSimpArgs false
set_option linter.unusedSectionVars false
namespace Go.Proofs.Ytmnhhlnbfkfkaaa.turnKnown
open Go.ChangeShapes Go.WideShapes Go.ChangeAt Go.WideMaps Go.WideElems Go.RowKit
open Go.Proofs.Ytmnhhlnbfkfkaaa.K
theorem own:ownKnob Try.prog.godebug=none:=by kernel_rfl
theorem shapes:Eng.shapesT Try.prog []=some shK:=by kernel_rfl
theorem hrel (W:World):Eng.HRel (fun _=>none) Eng.hG0 W:=⟨rfl,fun i b h=>(by rw [Eng.Hp.get_eq] at h; simp [Eng.hG0] at h),fun i B N h=>(by cases h),fun i j b c B N M h=>(by rw [Eng.Hp.get_eq] at h; simp [Eng.hG0] at h)⟩
set_option maxRecDepth 100000 in
theorem walk (W:World) {base:Nat} {A:Array Value} (hl:A.toList.length=([]:List TypeId).length) (hv:∀ (j:Nat) t v,([]:List TypeId)[j]?=some t->A.toList[j]?=some v->Value.okWide Try.prog W .any base t v):
  Calls Try.prog 5 A W fun e w'=>e=.returned (.bool true)/\Grown W w'/\∀ B,B<W.heap.size->w'.heap[B]?=W.heap[B]?:=
 @Eng.law_walk Try.prog (fun _=>none) Eng.hG0 rfl 5 [] shK shapes known_true W base (fun _=>none) A (fun _ _ h=>by cases h) (hrel W) hl hv
theorem laidOut:laidOutB Try.prog=true:=by kernel_rfl
theorem recs:(([]:List TypeId).all fun t=>Try.prog.readableRec t&&decide (t<Try.prog.types.size))=true:=by kernel_rfl
set_option maxRecDepth 100000 in
theorem lifted (os:Os) (started:os.Started) (H:Type) (enc:TypeId×Value->H):
  ReturnsInHanded {} Try.checked os 5 .any (Rows.turnKnownSpec.pre6 enc Try.prog Try.f5 Rows.turnKnownRow.domain false) (Rows.turnKnownSpec.post enc Try.prog Try.f5 false true false false):=by
 refine returnsInHanded_of_change (C:=Try.checked) own started (by kernel_rfl) Try.func5
  (ChangeSpec.witness6 (enc:=enc) (C:=Try.checked) false ⟨#[],#[],[]⟩ 8 (by kernel_rfl) (by kernel_rfl) (by kernel_rfl) (by kernel_rfl)) ?_
 intro W base args ds gs before hval0 hW hcnd _
 have hval:∀ (j:Nat) t v,Try.f5.params[j]?=some t->args[j]?=some v->Value.okWide Try.prog W .any base t v:=hval0
 have hW':=hW
 obtain ⟨p,q,hA0,hV,rfl,hfz,hnd⟩:=hW
 have hA:DataW.TrodAll enc Try.prog W 0 (fun _=>true) true Try.f5.params.toList args.toList ds p:=hA0
 rw [Try.params5] at hA hval
 obtain ⟨l1,l2⟩:=Eng.trod_lens hA
 obtain rfl:ds=[]:=by
  match ds,l2 with
  | [],_=>rfl
 obtain ⟨rfl,rfl⟩:=trodVars_none hV
 clear hA0 hval0
 simp only [List.append_nil] at hW'
 refine (walk W l1 (fun j t v h1 h2=>hval j t v (by rw [<- h1]; exact (Array.getElem?_toList ..).symm) (by rw [<- h2]; exact (Array.getElem?_toList ..).symm))).mono fun e W' ⟨he,hg,hk⟩=>?_
 subst he
 have lt:∀ x∈p,x.block<W.heap.size:=fun x hx=>hW'.lt x hx
 exact ⟨_,rfl,post_of_same (pa:=p) (pv:=[]) hW' (fun _ _ _=>(trodAll_cons_mk (shut_bool Try.underlying4 _) trodAll_mk0))
  (fun sp hs=>Eng.trodAll_stays laidOut recs hA (fun x hx=>Eng.same_at hk (lt x hx)) (fun x hx=>hs x hx)) (fun _ _=>rfl) (by simp)
  (hg.frame _) hg.2.1 (ok_one (by kernel_rfl) rfl (okWide_bool_mk Try.underlying4 _))⟩
theorem holds:Rows.TurnKnownSaid:=
 OpenClaim.holds_of_wide 5 Try.f5 rfl rfl rfl rfl rfl rfl rfl ⟨rfl,rfl,rfl,rfl,rfl⟩ rfl rfl rfl rfl rfl (by kernel_rfl) Try.func5 (by kernel_rfl)
  (of_decide_eq_true (by kernel_rfl)) (by unfold Func.isWrapper; first|(rw [if_pos (by decide +kernel)]; kernel_rfl)|(rw [if_neg (by decide +kernel)]; exact ⟨rfl,rfl⟩))
  (fun os started H enc _=>lifted os started H enc)
end Go.Proofs.Ytmnhhlnbfkfkaaa.turnKnown
