/- What is proved: MtfBounds returns true, whatever the input (part 2). No conditions beyond those of the row. -/
import Derived.Test.YtbiiiloimbjpaaaDoorPA
set_option linter.unusedVariables false
set_option linter.unusedSimpArgs false
set_option linter.unusedSectionVars false
namespace Go.Eng
theorem I5:∀ (l m:List UInt8),Gx l m=true ↔ l=m
 | [],[]=>by simp [Gx]
 | [],_ :: _=>by simp [Gx]
 | _ :: _,[]=>by simp [Gx]
 | a :: l,b :: m=>by
  simp only [Gx,Bool.and_eq_true,I5 l m,List.cons.injEq]
  constructor
  .rintro ⟨h1,h2⟩
   exact ⟨UInt8.toNat_inj.1 (Nat.eq_of_beq_eq_true h1),h2⟩
  .rintro ⟨rfl,h2⟩
   exact ⟨Nat.beq_refl _,h2⟩
theorem fq (x y:ByteArray):jF x y=true ↔ x=y:=by
 unfold jF
 rw [I5]
 constructor
 .intro h
  obtain ⟨⟨a⟩⟩:=x; obtain ⟨⟨b⟩⟩:=y
  rw [show a=b from h]
 .rintro rfl; rfl
theorem mJ (x y:ByteArray):jF x y=(x==y):=by
 rw [Bool.eq_iff_iff,fq]
 obtain ⟨⟨a⟩⟩:=x; obtain ⟨⟨b⟩⟩:=y
 show _ ↔ ((⟨a⟩:Array UInt8)==⟨b⟩)=true
 simp
mutual
theorem lJ:∀ (a b:AV),eZ a b=true->a=b
 | .bool false a,.bool false b,h=>by simp [eZ] at h; rw [h]
 | .int false k a,.int false k' b,h=>by simp [eZ] at h; rw [h.1,h.2]
 | .nil,.nil,_=>rfl
 | .ptr i o,.ptr j q,h=>by simp [eZ] at h; rw [h.1,h.2]
 | .nilslice,.nilslice,_=>rfl
 | .eslice a,.eslice b,h=>by simp [eZ] at h; rw [h]
 | .slice i o l c,.slice j q m d,h=>by simp [eZ] at h; rw [h.1.1.1,h.1.1.2,h.1.2,h.2]
 | .gslice i o l c,.gslice j q m d,h=>by simp [eZ] at h; rw [h.1.1.1,h.1.1.2,h.1.2,h.2]
 | .func f fs cs,.func g gs ds,h=>by
  simp [eZ] at h
  rw [h.1.1,d9 fs gs h.1.2,d9 cs ds h.2]
 | .yield l,.yield m,h=>by simp [eZ] at h; rw [h]
 | .nilfunc,.nilfunc,_=>rfl
 | .niliface,.niliface,_=>rfl
 | .nilmap,.nilmap,_=>rfl
 | .agg l,.agg m,h=>by simp only [eZ] at h; rw [d9 l m h]
 | .tuple l,.tuple m,h=>by simp only [eZ] at h; rw [d9 l m h]
 | .str false a,.str false b,h=>by
  simp only [eZ] at h
  rw [(fq a b).1 h]
 | .map i,.map j,h=>by simp [eZ] at h; rw [h]
 | .vslice i l,.vslice j m,h=>by simp [eZ] at h; rw [h.1,h.2]
 | .pslice i l false n,.pslice j m false k,h=>by simp [eZ] at h; rw [h.1.1,h.1.2,h.2]
 | .vptr i o,.vptr j q,h=>by simp [eZ] at h; rw [h.1,h.2]
 | .iface t a,.iface u b,h=>by
  simp only [eZ,Bool.and_eq_true] at h
  rw [Nat.eq_of_beq_eq_true h.1,lJ a b h.2]
 | .panic a,.panic b,h=>by
  simp only [eZ] at h
  rw [lJ a b h]
theorem d9:∀ (a b:List AV),je a b=true->a=b
 | [],[],_=>rfl
 | a :: l,b :: m,h=>by
  simp [je] at h
  rw [lJ a b h.1,d9 l m h.2]
 | [],_ :: _,h=>by simp [je] at h
 | _ :: _,[],h=>by simp [je] at h
end
theorem aN {σ:Sg} {v:Value} (h:v.oneCell'=true):VRel σ (.any true) v:=by
 refine ⟨fun c e=>?_,fun c e=>?_⟩ <;> (subst e; cases h)
theorem wO {σ:Sg} {p:Bool} {a b:AV} {v:Value} (ha:p=true->VRel σ a v) (hb:p=false->VRel σ b v):VRel σ (.any (a.isCell&&b.isCell)) v:=by
 cases h:a.isCell&&b.isCell with
 | false=>trivial
 | true=>
  simp at h
  cases p with
  | true=>exact aN (aR (ha rfl) h.1)
  | false=>exact aN (aR (hb rfl) h.2)
mutual
theorem mK {σ:Sg} (p:Bool) (a b:AV) (v:Value) (ha:p=true->VRel σ a v) (hb:p=false->VRel σ b v):VRel σ (uB p a b) v:=by
 unfold uB
 split
 .rename_i s k x s' k' y
  split
  .rename_i hk; subst hk
   have hv:v=.int k (bif p then x else y):=by
    cases p
    .exact hb rfl
    .exact ha rfl
   split
   .exact hv
   .split
    .rename_i hxy; subst hxy
     rw [hv]; cases p <;> rfl
    .exact hv
  .exact wO (a:=.int s k x) (b:=.int s' k' y) ha hb
 .rename_i s x s' y
  have hv:v=.bool (bif p then x else y):=by
   cases p
   .exact hb rfl
   .exact ha rfl
  split
  .exact hv
  .split
   .rename_i hxy; subst hxy
    rw [hv]; cases p <;> rfl
   .exact hv
 .rename_i _ x _ y
  show v=.string (bif p then x else y)
  cases p
  .exact hb rfl
  .exact ha rfl
 .rename_i i x j y
  split
  .rename_i hij
   have:=Nat.eq_of_beq_eq_true hij
   subst this
   cases p
   .exact hb rfl
   .exact ha rfl
  .exact wO (a:=.lslice i x) (b:=.lslice j y) ha hb
 .rename_i w i o x w' j o' y
  split
  .rename_i hij
   simp only [Bool.and_eq_true,beq_iff_eq] at hij
   have h1:=Nat.eq_of_beq_eq_true hij.1
   have h2:=hij.2
   subst h1 h2
   cases p
   .exact hb rfl
   .exact ha rfl
  .exact wO (a:=.islice w i o x) (b:=.islice w' j o' y) ha hb
 .rename_i l m
  split
  .trivial
  .rename_i r hr
   cases p
   .obtain ⟨K,rfl,hK⟩:=hb rfl
    exact ⟨K,rfl,dD false l m r K.toList hr (fun h=>by cases h) (fun _=>hK)⟩
   .obtain ⟨K,rfl,hK⟩:=ha rfl
    exact ⟨K,rfl,dD true l m r K.toList hr (fun _=>hK) (fun h=>by cases h)⟩
 .rename_i l m
  split
  .trivial
  .rename_i r hr
   cases p
   .obtain ⟨K,rfl,hK⟩:=hb rfl
    exact ⟨K,rfl,dD false l m r K.toList hr (fun h=>by cases h) (fun _=>hK)⟩
   .obtain ⟨K,rfl,hK⟩:=ha rfl
    exact ⟨K,rfl,dD true l m r K.toList hr (fun _=>hK) (fun h=>by cases h)⟩
 .split
  .rename_i h
   have:=lJ _ _ h
   cases p
   .rw [this]; exact hb rfl
   .exact ha rfl
  .exact wO ha hb
termination_by SizeOf.sizeOf a
theorem dD {σ:Sg} (p:Bool) (l m r:List AV) (L:List Value) (e:qI p l m=some r) (ha:p=true->VRels σ l L) (hb:p=false->VRels σ m L):VRels σ r L:=by
 unfold qI at e
 split at e
 .cases e
  cases p
  .exact hb rfl
  .exact ha rfl
 .rename_i a l b m
  split at e
  .cases e
  .rename_i q hq
   cases e
   cases p
   .obtain ⟨v,vs,rfl,h1,h2⟩:=hb rfl
    exact ⟨v,vs,rfl,mK false a b v (fun h=>by cases h) (fun _=>h1),dD false l m q vs hq (fun h=>by cases h) (fun _=>h2)⟩
   .obtain ⟨v,vs,rfl,h1,h2⟩:=ha rfl
    exact ⟨v,vs,rfl,mK true a b v (fun _=>h1) (fun h=>by cases h),dD true l m q vs hq (fun _=>h2) (fun h=>by cases h)⟩
 .cases e
termination_by SizeOf.sizeOf l
end
theorem Ki {P:Program} {σ:Sg} {h:Hp} {W:World} (r:HRel σ h W) {c a b:AV} {u v w:Value} (hc:VRel σ c u) (ha:VRel σ a v) (hb:VRel σ b w) {q:S1} (e:uE h c a b=some q):
  OpOk P (do pure (.value (if<-asBool u then v else w))) σ h W q:=by
 unfold uE at e
 split at e <;> cases e
 .rename_i p
  obtain rfl:=hc
  refine OpOk.pure r fun _=>?_
  cases p
  .exact ⟨w,by simp [asBool],hb⟩
  .exact ⟨v,by simp [asBool],ha⟩
 .rename_i p
  obtain rfl:=hc
  refine OpOk.pure r fun _=>⟨if p then v else w,by simp [asBool],mK p a b _ (fun h=>?_) (fun h=>?_)⟩
  .subst h; exact ha
  .subst h; exact hb
theorem part_ok {P:Program} {σ:Sg} {t:TypeId} {l:List AV} {L:List Value} {off:Nat} {v:AV} (h:VRels σ l L) (e:j5 P t l off=some v) (W:World):
  ∃ V,(part t L.toArray off).run P W=.ok V W/\VRel σ v V:=by
 unfold j5 at e
 split at e
 .cases e
 .rename_i hag
  split at e
  .cases e
  .rename_i n hn
   cases h1:bP n (aP off l) with
   | none=>rw [h1] at e; cases e
   | some m=>
    rw [h1] at e; cases e
    obtain ⟨h2,h3⟩:=VRels.take n (VRels.drop off h) h1
    refine ⟨.agg (L.toArray.extract off (off+n)),by simp [part,bT hag,au hn],_,rfl,?_⟩
    have:(L.toArray.extract off (off+n)).toList=(L.drop off).take n:=by
     simp [List.extract]
    rw [this]; exact h2
 .rename_i hag
  obtain ⟨V,h1,h2⟩:=VRels.nth h e
  exact ⟨V,by simp [part,bT hag,h1],h2⟩
theorem iM {P:Program} {W:World} {B N:Nat} {σ:Sg} {l:List AV} {A:List Value} (hget:∀ j u,A[j]?=some u->W.cell? ⟨B,N+j,none⟩=some u)
  (hl:VRels σ l A) {t:TypeId} {off:Nat} {v:AV} (ev:j5 P t l off=some v):∃ V,(loadVar t ⟨B,N+off,none⟩).run P W=.ok V W/\VRel σ v V:=by
 unfold j5 at ev
 split at ev
 .cases ev
 .rename_i hag
  split at ev
  .cases ev
  .rename_i n hn
   cases h1:bP n (aP off l) with
   | none=>rw [h1] at ev; cases ev
   | some m=>
    rw [h1] at ev; cases ev
    obtain ⟨h2,h3⟩:=VRels.take n (VRels.drop off hl) h1
    have hlen:((A.drop off).take n).length=n:=by rw [VRels.length h2,h3]
    have:=run_loadCells_list (P:=P) W ⟨B,N+off,none⟩ ((A.drop off).take n) (fun j u hu=>by
     have hadd:(⟨B,N+off,none⟩:Addr).add j=⟨B,N+(off+j),none⟩:=by unfold Addr.add; split <;> simp_all [Nat.add_assoc]
     rw [hadd]
     apply hget
     rw [List.getElem?_take] at hu
     split at hu
     .simpa using hu
     .cases hu)
    rw [hlen] at this
    refine ⟨.agg ((A.drop off).take n).toArray,by simp [loadVar,bT hag,au hn,this],_,rfl,by simpa using h2⟩
 .rename_i hag
  obtain ⟨V,h1,h2⟩:=VRels.nth hl ev
  exact ⟨V,by simp [loadVar,bT hag,hget _ _ h1],h2⟩
theorem og {P:Program} {W:World} {B:Nat} {K:Array Value} {e:TypeId} {fz:Nat×Nat} (hB:W.heap[B]?=some (.cells K e fz)) {σ:Sg} {l:List AV} {A Z:List Value}
  (hK:K.toList=A++Z) (hl:VRels σ l A) {t:TypeId} {off:Nat} {v:AV} (ev:j5 P t l off=some v):∃ V,(loadVar t ⟨B,off,none⟩).run P W=.ok V W/\VRel σ v V:=by
 have:=iM (P:=P) (W:=W) (B:=B) (N:=0) (A:=A) (fun j u hu=>by
  rw [Nat.zero_add,cell_of_row W B j K e fz hB]
  rw [<- Array.getElem?_toList,hK,List.getElem?_append_left (by rcases Nat.lt_or_ge j A.length with h|h; exact h; simp [List.getElem?_eq_none h] at hu)]
  exact hu) hl ev
 rwa [Nat.zero_add] at this
theorem I6 {P:Program} {σ:Sg} {h:Hp} {W:World} (r:HRel σ h W) {t:TypeId} {a v:AV} {A:Value} (ha:VRel σ a A) {nd:Nd} (e:jC P h t a=some (nd,v)) (hn:nd.val):
  ∃ B off V,A=.pointer (some ⟨B,off,none⟩)/\(loadVar t ⟨B,off,none⟩).run P W=.ok V W/\VRel σ v V:=by
 unfold jC at e
 split at e
 .rename_i i off
  obtain ⟨B,N,hσ,rfl⟩:=ha
  split at e
  .rename_i w l hg
   cases hp:j5 P t l off with
   | none=>rw [hp] at e; cases e
   | some u=>
    rw [hp] at e; cases e
    obtain ⟨B',N',o,h1,h2,K,el,rfl,h3,_⟩:=r.blk i _ hg rfl
    rw [hσ] at h1; cases h1
    obtain ⟨V,h4,h5⟩:=og (P:=P) h2 (A:=K.toList) (Z:=[]) (by simp) h3 hp
    exact ⟨B,off,V,rfl,h4,h5⟩
  .rename_i w l hg
   cases hp:j5 P t l off with
   | none=>rw [hp] at e; cases e
   | some u=>
    rw [hp] at e; cases e
    obtain ⟨B',N',o,h1,h2,K,el,X,Y,rfl,h3,h6,_⟩:=r.blk i _ hg rfl
    rw [hσ] at h1; cases h1
    obtain ⟨V,h4,h5⟩:=og (P:=P) h2 h3 h6 hp
    exact ⟨B,off,V,rfl,h4,h5⟩
  .rename_i w l hg
   cases hp:j5 P t l off with
   | none=>rw [hp] at e; cases e
   | some u=>
    rw [hp] at e; cases e
    obtain ⟨B',N',o,h1,h2,K,el,fr,rfl,h3⟩:=r.blk i _ hg rfl
    rw [hσ] at h1; cases h1
    obtain ⟨V,h4,h5⟩:=iM (P:=P) (W:=W) (B:=B) (N:=0) (fun j u hu=>by
     rw [cell_of_row W B (0+j) K el fr h2,<- Array.getElem?_toList,Nat.zero_add]
     exact hu) h3 hp
    rw [Nat.zero_add] at h4
    exact ⟨B,off,V,rfl,h4,h5⟩
  .rename_i w k xs hg
   split at e
   .rename_i k' hu
    split at e
    .rename_i hk; subst hk
     cases e
     obtain ⟨B',N',o,h1,h2,K,el,Y,rfl,h3,_⟩:=r.blk i _ hg (gJ (Nat.lt_of_le_of_lt (Nat.zero_le off) (show off<xs.length from hn)))
     rw [hσ] at h1; cases h1
     have hc:W.cell? ⟨B,off,none⟩=some (.int k (xs.getD off 0)):=by
      rw [cell_of_row W B off K el (0,0) h2,<- Array.getElem?_toList,h3,List.getElem?_append_left (by simpa using hn)]
      simp [List.getD_eq_getElem?_getD,hn]
     refine ⟨B,off,_,rfl,?_,rfl⟩
     have hag:aQ P t=some false:=by unfold aQ; rw [hu]
     simp [loadVar,bT hag,hc]
    .cases e
   .cases e
  .cases e
 .rename_i i off
  obtain ⟨B,N,hσ,rfl⟩:=ha
  split at e
  .rename_i w l hg
   cases hp:j5 P t l off with
   | none=>rw [hp] at e; cases e
   | some u=>
    rw [hp] at e; cases e
    obtain ⟨B',N',o,h1,h2,K,el,fr,rfl,h3⟩:=r.blk i _ hg rfl
    rw [hσ] at h1; cases h1
    obtain ⟨V,h4,h5⟩:=iM (P:=P) (W:=W) (B:=B) (N:=N) (fun j u hu=>by
     rw [cell_of_row W B (N+j) K el fr h2,<- Array.getElem?_toList]
     rw [List.getElem?_take] at hu
     split at hu
     .rw [List.getElem?_drop] at hu; exact hu
     .cases hu) h3 hp
    exact ⟨B,N+off,V,rfl,h4,h5⟩
  .rename_i w k xs hg
   split at e
   .rename_i k' hu
    split at e
    .rename_i hk; subst hk
     cases e
     have hn:off<xs.length:=hn
     obtain ⟨B',N',o,h1,h2,K,el,fr,rfl,h3⟩:=r.blk i _ hg (by cases xs with|nil=>simp at hn|cons y ys=>rfl)
     rw [hσ] at h1; cases h1
     have hc:W.cell? ⟨B,N+off,none⟩=some (.int k (xs.getD off 0)):=by
      rw [cell_of_row W B (N+off) K el fr h2,<- Array.getElem?_toList]
      have h5:((K.toList.drop N).take xs.length)[off]?=(xs.map (Value.int k))[off]?:=by rw [h3]
      rw [List.getElem?_take,if_pos hn,List.getElem?_drop] at h5
      rw [h5]
      simp [List.getD_eq_getElem?_getD,hn]
     refine ⟨B,N+off,_,rfl,?_,rfl⟩
     have hag:aQ P t=some false:=by unfold aQ; rw [hu]
     simp [loadVar,bT hag,hc]
    .cases e
   .cases e
  .cases e
 .cases e
end Go.Eng
namespace Go.Eng
theorem bZ {σ:Sg}:∀ (l:List AV) (off:Nat) (vs l':List AV) {L Vs:List Value},VRels σ l L->VRels σ vs Vs->bU l off vs=some l' ->
  VRels σ l' (L.take off++Vs++L.drop (off+Vs.length))/\off+Vs.length<=L.length
 | l,0,[],l',L,Vs,h,hv,e=>by
  rw [show Vs=[] from hv]
  unfold bU at e
  cases e
  simpa using h
 | [],0,v :: vs,l',L,Vs,h,hv,e=>by simp [bU] at e
 | a :: l,0,v :: vs,l',L,Vs,⟨u,us,e1,h1,h2⟩,⟨w,ws,e2,h3,h4⟩,e=>by
  simp only [bU] at e
  cases e3:bU l 0 vs with
  | none=>rw [e3] at e; cases e
  | some r=>
   rw [e3] at e; cases e
   obtain ⟨h5,h6⟩:=bZ l 0 vs r h2 h4 e3
   subst e1; subst e2
   simp only [Nat.zero_add,List.take_zero,List.nil_append,List.length_cons] at h5 h6 ⊢
   exact ⟨⟨w,_,rfl,h3,by simpa using h5⟩,by omega⟩
 | [],n+1,vs,l',L,Vs,h,hv,e=>by cases vs <;> simp [bU] at e
 | a :: l,n+1,vs,l',L,Vs,⟨u,us,e1,h1,h2⟩,hv,e=>by
  simp only [bU] at e
  cases e3:bU l n vs with
  | none=>rw [e3] at e; cases vs <;> simp at e
  | some r=>
   rw [e3] at e
   obtain ⟨h5,h6⟩:=bZ l n vs r h2 hv e3
   have e':l'=a :: r:=by cases vs <;> simpa using e.symm
   subst e'; subst e1
   refine ⟨⟨u,_,by simp [Nat.add_right_comm],h1,h5⟩,by simp; omega⟩
theorem HRel.row {σ:Sg} {h:Hp} {W:World} (r:HRel σ h W) {i B N:Nat} {b:ABlk} (hg:h.get i=some b) (hl:b.body.isDead=false) (hnl:∀ c,b.body≠.loop c) (hσ:σ i=some (B,N)) {K K':Array Value} {e:TypeId}
  (hB:W.heap[B]?=some (.cells K e (0,0))) (d:ABody) (hb:BRel σ N d (.cells K' e (0,0))) (hnv:b.body.isView=false:=by rfl):HRel σ (h.put i d) (W.setRow B K')/\Good σ h W σ (h.put i d) (W.setRow B K'):=
 r.write hg hl hσ d (jm hnl) _ (setRow_heap W B K K' e (0,0) hB) hb (setRow_size W B K') (fun k hk=>setRow_other W B k K' hk) rfl rfl rfl (hnv:=hnv)
theorem Mg {P:Program} {σ:Sg} {h:Hp} {W:World} (r:HRel σ h W) {t:TypeId} {a v:AV} {A V:Value} (ha:VRel σ a A) (hv:VRel σ v V) {q:S1} (e:BQ P h t a v=some q):
  OpOk P (do Instr.storeAt t A V; pure .skip) σ h W q:=by
 intro hn
 unfold BQ LQ at e
 split at e
 .rename_i i off
  obtain ⟨B,N,hσ,rfl⟩:=ha
  split at e
  .rename_i w l hg
   split at e
   .cases e
   .rename_i n hsz
    simp only at e
    split at e
    .rename_i hc
     simp only [Bool.and_eq_true,decide_eq_true_eq] at hc
     split at e
     .cases e
     .rename_i l' hp
      rw [Hp.set_eq] at e
      cases e
      obtain ⟨B',N',o,h1,h2,K,el,rfl,h3,h4⟩:=r.blk i _ hg rfl
      rw [hσ] at h1; cases h1
      have hcs:=pM hv hc.2
      obtain ⟨h5,h6⟩:=bZ l off _ l' h3 hcs hp
      have hlen:V.cells.size=n:=by have:=VRels.length hcs; simp at this; omega
      have hst:=run_storeCells_at P B off el V.cells.toList 0 K W h2 (by simpa using h6) (jo hcs hc.2)
      simp only [Nat.add_zero] at hst
      obtain ⟨h7,h8⟩:=r.row hg rfl (fun _ h=>by cases h) hσ (K':=(K.toList.take off++V.cells.toList++K.toList.drop (off+V.cells.toList.length)).toArray) h2 (.cells l') ⟨_,el,rfl,by simpa using h5,by
       subst h4; simp at h6 ⊢; omega⟩
      refine ⟨σ,undef,_,_,?_,.inr ⟨rfl,rfl⟩,⟨#[],rfl,rfl⟩,h7,h8⟩
      simp [Instr.storeAt,Instr.sureAddr,storeVar,au hsz,hlen,hst]
    .cases e
  .rename_i w l hg
   split at e
   .cases e
   .rename_i n hsz
    simp only at e
    split at e
    .rename_i hc
     simp only [Bool.and_eq_true,decide_eq_true_eq] at hc
     split at e
     .cases e
     .rename_i l' hp
      rw [Hp.set_eq] at e
      cases e
      obtain ⟨B',N',o,h1,h2,K,el,X,Y,rfl,hXY,h3,h4⟩:=r.blk i _ hg rfl
      rw [hσ] at h1; cases h1
      have hcs:=pM hv hc.2
      obtain ⟨h5,h6⟩:=bZ l off _ l' h3 hcs hp
      have hlen:V.cells.size=n:=by have:=VRels.length hcs; simp at this; omega
      have hXK:X.length<=K.size:=by have:=congrArg List.length hXY; simp at this; omega
      have hst:=run_storeCells_at P B off el V.cells.toList 0 K W h2 (by simp at h6 ⊢; omega) (jo hcs hc.2)
      simp only [Nat.add_zero] at hst
      obtain ⟨h7,h8⟩:=r.row hg rfl (fun _ h=>by cases h) hσ (K':=(K.toList.take off++V.cells.toList++K.toList.drop (off+V.cells.toList.length)).toArray) h2 (.grown l') ⟨_,el,X.take off++V.cells.toList++X.drop (off+V.cells.toList.length),Y,rfl,by
       simp only [hXY]
       rw [List.take_append_of_le_length (by omega),List.drop_append_of_le_length (by omega)]
       simp,h5,by
       subst h4; simp at h6 ⊢; omega⟩
      refine ⟨σ,undef,_,_,?_,.inr ⟨rfl,rfl⟩,⟨#[],rfl,rfl⟩,h7,h8⟩
      simp [Instr.storeAt,Instr.sureAddr,storeVar,au hsz,hlen,hst]
    .cases e
  .rename_i w k xs hg
   split at e
   .rename_i s k' x
    obtain rfl:=hv
    split at e
    .rename_i hsz
     split at e
     .rename_i hk; subst hk
      rw [Hp.set_eq] at e
      cases e
      have hn':off<xs.length:=hn
      have hlv:=gJ (k:=k) (xs:=xs) (by omega)
      obtain ⟨B',N',o,h1,h2,K,el,Y,rfl,h3,h4⟩:=r.blk i _ hg hlv
      rw [hσ] at h1; cases h1
      have hXK:xs.length<=K.size:=by have:=congrArg List.length h3; simp at this; omega
      have hst:=run_storeCells_at P B off el [.int k x] 0 K W h2 (by simp; omega) (by simp [Value.oneCell'])
      simp only [Nat.add_zero] at hst
      obtain ⟨h7,h8⟩:=r.row hg hlv (fun _ h=>by cases h) hσ (K':=(K.toList.take off++[Value.int k x]++K.toList.drop (off+1)).toArray) h2 (.ints k (xs.set off x)) ⟨_,el,Y,rfl,by
       simp only [h3]
       rw [List.take_append_of_le_length (by simp; omega),List.drop_append_of_le_length (by simp; omega)]
       simp only [List.map_set,<- List.append_assoc]
       rw [List.set_eq_take_append_cons_drop,if_pos (by simpa using hn')]
       simp,by subst h4; simp; omega⟩
      refine ⟨σ,undef,_,_,?_,.inr ⟨rfl,rfl⟩,⟨#[],rfl,rfl⟩,h7,h8⟩
      have hst':(storeCells ⟨B,off,none⟩ (Value.int k x).cells.toList).run P W=.ok () (W.setRow B (K.toList.take off++[Value.int k x]++K.toList.drop (off+1)).toArray):=hst
      simp [Instr.storeAt,Instr.sureAddr,storeVar,au hsz,Value.cells] at hst' ⊢
      simp [hst']
     .cases e
    .cases e
   .cases e
  .cases e
 .cases e
theorem D9 (off:Nat):∀ (vs:List Value) (j:Nat) (cs:Array Value),off+j+vs.length<=cs.size ->
  (vs.zipIdx j).foldl (fun (cs:Array Value) (x:Value×Nat)=>cs.setIfInBounds (off+x.2) x.1) cs=(cs.toList.take (off+j)++vs++cs.toList.drop (off+j+vs.length)).toArray
 | [],j,cs,_=>by simp
 | v :: vs,j,cs,h=>by
  simp only [List.zipIdx_cons,List.foldl_cons]
  rw [D9 off vs (j+1) (cs.setIfInBounds (off+j) v) (by simp at h ⊢; omega)]
  have e:=list_seg_step cs.toList (off+j) v vs (by simp at h ⊢; omega)
  congr 1
  simpa [Array.toList_setIfInBounds,Nat.add_assoc] using e
theorem wP {σ:Sg} (qy:Nat->Option (Nat×Nat)):∀ (parts:List (Nat×AV)) (Ps:List (Nat×Value)) (l l':List AV) (L:Array Value),
  Ps.map (·.1)=parts.map (·.1)->VRels σ (parts.map (·.2)) (Ps.map (·.2))->VRels σ l L.toList->jU qy l parts=some l'->∃ L',Instr.fill qy L Ps=some L'/\VRels σ l' L'.toList
 | [],Ps,l,l',L,hi,hv,hl,e=>by
  have:Ps=[]:=by simpa using hi
  subst this; cases e
  exact ⟨L,rfl,hl⟩
 | (i,v) :: parts,Ps,l,l',L,hi,hv,hl,e=>by
  cases Ps with
  | nil=>simp at hi
  | cons p Ps=>
   obtain ⟨i',V⟩:=p
   simp only [List.map_cons,List.cons.injEq] at hi
   obtain ⟨rfl,hi⟩:=hi
   obtain ⟨u,us,e1,h1,h2⟩:=hv
   simp only [List.map_cons,List.cons.injEq] at e1
   obtain ⟨rfl,rfl⟩:=e1
   simp only [jU] at e
   split at e
   .cases e
   .rename_i off n hp
    split at e
    .rename_i hc
     simp only [Bool.and_eq_true,decide_eq_true_eq] at hc
     split at e
     .cases e
     .rename_i l2 hput
      have hcs:=pM h1 hc.2
      obtain ⟨h5,h6⟩:=bZ l off _ l2 hl hcs hput
      have hlen:V.cells.size=n:=by have:=VRels.length hcs; simp at this; omega
      obtain ⟨L',h7,h8⟩:=wP qy parts Ps l2 l' (L.toList.take off++V.cells.toList++L.toList.drop (off+V.cells.toList.length)).toArray hi h2 (by simpa using h5) e
      refine ⟨L',?_,h8⟩
      simp only [Instr.fill,hp]
      rw [if_neg (by simp at h6 ⊢; omega)]
      rw [<- h7]
      congr 1
      have:=D9 off V.cells.toList 0 L (by simpa using h6)
      simp only [Nat.add_zero] at this
      rw [<- this,<- Array.foldl_toList,Array.toList_zipIdx]
    .cases e
theorem ja {C:Ctx} {σ:Sg} {s:St} {T:Array Value} (g:GRel C σ) (h:TRel σ s.tmps T):∀ l:List (Nat×Operand),
  (l.map fun (i,x)=>(i,ev T x)).map (·.1)=(eO C s l).map (·.1)/\VRels σ ((eO C s l).map (·.2)) ((l.map fun (i,x)=>(i,ev T x)).map (·.2))
 | []=>⟨rfl,rfl⟩
 | (i,x) :: l=>⟨by simp [eO,(ja g h l).1],⟨_,_,rfl,cB g h x,by simpa using (ja g h l).2⟩⟩
theorem sj {P:Program}:∀ {fs:List Field} {ps:List (Nat×Nat)},wM P fs=some ps->fs.mapM (fun f=>(P.info? f.type).map fun i=>(f.offset,i.size))=some ps
 | [],ps,h=>by cases h; rfl
 | f :: fs,ps,h=>by
  simp only [wM] at h
  split at h
  .cases h
  .rename_i n hn
   split at h
   .cases h
   .rename_i r hr
    cases h
    obtain ⟨i,hi,rfl⟩:=gB hn
    simp [List.mapM_cons,hi,sj hr]
theorem build_ok {P:Program} {σ:Sg} {t:TypeId} {parts:List (Nat×AV)} {Ps:Array (Nat×Value)} (hi:Ps.toList.map (·.1)=parts.map (·.1)) (hv:VRels σ (parts.map (·.2)) (Ps.toList.map (·.2)))
  {v:AV} (e:BN P t parts=some v) (W:World):∃ V,(Instr.build t Ps).run P W=.ok V W/\VRel σ v V:=by
 unfold BN at e
 split at e
 .cases e
 .rename_i z hz
  obtain ⟨i,zv,hi',hz',h1,_⟩:=bv (σ:=σ) hz
  split at e
  .rename_i fs hu
   split at e
   .cases e
   .rename_i ps hps
    split at e
    .cases e
    .rename_i l hl
     cases e
     obtain ⟨L',h2,h3⟩:=wP (nth ps) parts Ps.toList z l zv.cells hi hv h1 hl
     refine ⟨.agg L',?_,L',rfl,h3⟩
     apply run_build
     unfold Program.built
     rw [hi',hu]
     simp only [hz',sj hps]
     rw [<- h2]
     congr 1
     funext j
     simp [bV]
  .rename_i n el hu
   split at e
   .cases e
   .rename_i m hm
    split at e
    .cases e
    .rename_i l hl
     cases e
     obtain ⟨L',h2,h3⟩:=wP _ parts Ps.toList z l zv.cells hi hv h1 hl
     obtain ⟨ie,hie,rfl⟩:=gB hm
     refine ⟨.agg L',?_,L',rfl,h3⟩
     apply run_build
     unfold Program.built
     rw [hi',hu]
     simp only [hz',hie]
     exact h2
  .cases e
theorem Ea {α:Type} (l:List α):∀ (k i:Nat),(qh l k)[i]?=if i<k*l.length then l[i % l.length]? else none
 | 0,i=>by simp [qh]
 | k+1,i=>by
  simp only [qh]
  by_cases h:i<l.length
  .rw [List.getElem?_append_left h,if_pos (by rw [Nat.add_mul]; omega),Nat.mod_eq_of_lt h]
  .rw [List.getElem?_append_right (by omega),Ea l k]
   by_cases hl:l.length=0
   .simp [hl]
   .have:(i - l.length) % l.length=i % l.length:=by
     conv=>rhs; rw [show i=(i - l.length)+l.length by omega]
     simp
    rw [this]
    by_cases h2:i - l.length<k*l.length
    .rw [if_pos h2,if_pos (by rw [Nat.add_mul]; omega)]
    .rw [if_neg h2,if_neg (by rw [Nat.add_mul]; omega)]
theorem qO (z:Array Value) (k:Nat):((Array.range (k*z.size)).map (fun i=>z[i % z.size]!)).toList=qh z.toList k:=by
 apply List.ext_getElem?
 intro i
 rw [Ea]
 simp only [Array.toList_map,Array.toList_range,List.getElem?_map,Array.length_toList]
 by_cases h:i<k*z.size
 .rw [List.getElem?_range h,if_pos h]
  have hz:0<z.size:=by
   rcases Nat.eq_zero_or_pos z.size with h0|h0
   .rw [h0] at h; simp at h
   .exact h0
  have hm:i % z.size<z.size:=Nat.mod_lt _ hz
  simp [hm]
 .rw [if_neg h]
  simp
  omega
theorem VRels.rep {σ:Sg} {l:List AV} {L:List Value} (h:VRels σ l L):∀ k,VRels σ (qh l k) (qh L k)
 | 0=>rfl
 | k+1=>VRels.append h (VRels.rep h k)
theorem zL {P:Program} {σ:Sg} {h:Hp} {W:World} (r:HRel σ h W) {t:TypeId} {len:Nat} {parts:List (Nat×AV)} {Ps:Array (Nat×Value)} (hi:Ps.toList.map (·.1)=parts.map (·.1))
  (hv:VRels σ (parts.map (·.2)) (Ps.toList.map (·.2))) {q:S1} (e:mq P h t len parts=some q):OpOk P (do pure (.value (<- Instr.buildSlice t len Ps))) σ h W q:=by
 unfold mq at e
 split at e
 .rename_i el hu
  split at e
  .cases e
  .rename_i n hn
   split at e
   .cases e
   .rename_i z hz
    split at e
    .cases e
    .rename_i hc
     simp only [Bool.and_eq_true,Nat.ble_eq,Nat.beq_eq] at hc
     split at e
     .cases e
     .rename_i l hl
      cases e
      obtain ⟨i,zv,hi',hz',h1,_⟩:=bv (σ:=σ) hz
      have hzs:zv.cells.size=n:=by have:=VRels.length h1; simp at this; omega
      obtain ⟨L',h2,h3⟩:=wP _ parts Ps.toList (qh z len) l ((Array.range (len*zv.cells.size)).map (fun i=>zv.cells[i % zv.cells.size]!)) hi hv (by rw [qO]; exact VRels.rep h1 len) hl
      refine si r el h3 _ _ (.slice (some ⟨W.heap.size,0,none⟩) len len) ?_ ⟨W.heap.size,L'.size,aM,rfl⟩
      have hb:¬ (16777216<len*n):=by omega
      by_cases h0:len*n=0
      .have h2':Instr.fill (fun i=>some (i*n,n)) #[] Ps.toList=some L':=by
        rw [<- h2,hzs,h0,Array.range_zero']; simp
       simp [Instr.buildSlice,run_underlying hu,au hn,h0,Array.range_zero',h2',newRow]
      .have h2':Instr.fill (fun i=>some (i*n,n)) ((Array.range (len*n)).map (fun i=>zv.cells[i % zv.cells.size]!)) Ps.toList=some L':=by
        rw [<- h2,hzs]
       simp [Instr.buildSlice,run_underlying hu,au hn,hb,h0,ku hi' hz',h2',newRow]
 .cases e
theorem kw:∀ (k1 k2:List LK) (l m:List AV) (s p:Bool),bn (k1++k2) l m=some (s,p) ->
  ∃ l1 l2 m1 m2 s1 p1 s2 p2,l=l1++l2/\m=m1++m2/\l1.length=k1.length/\m1.length=k1.length/\bn k1 l1 m1=some (s1,p1)/\bn k2 l2 m2=some (s2,p2)/\p=(p1&&p2)
 | [],k2,l,m,s,p,h=>⟨[],l,[],m,false,true,s,p,rfl,rfl,rfl,rfl,rfl,h,by simp⟩
 | k :: k1,k2,l,m,s,p,h=>by
  cases l with
  | nil=>simp [bn] at h
  | cons a l=>
   cases m with
   | nil=>simp [bn] at h
   | cons b m=>
    simp only [List.cons_append,bn] at h
    split at h
    .cases h
    .rename_i sa pa ha
     split at h
     .cases h
     .rename_i sb pb hb
      cases h
      obtain ⟨l1,l2,m1,m2,s1,p1,s2,p2,rfl,rfl,h1,h2,h3,h4,rfl⟩:=kw k1 k2 l m sb pb hb
      exact ⟨a :: l1,l2,b :: m1,m2,sa||s1,pa&&p1,s2,p2,rfl,rfl,by simp [h1],by simp [h2],by simp [bn,ha,h3],h4,by simp [Bool.and_assoc]⟩
theorem vP:∀ (ks:List LK) (l m:List AV) (s p:Bool),bn ks l m=some (s,p)->l.length=ks.length/\m.length=ks.length
 | [],[],[],_,_,_=>⟨rfl,rfl⟩
 | k :: ks,a :: l,b :: m,s,p,h=>by
  simp only [bn] at h
  split at h
  .cases h
  .split at h
   .cases h
   .rename_i sb pb hb
    have:=vP ks l m sb pb hb
    simp [this.1,this.2]
 | [],[],_ :: _,_,_,h=>by simp [bn] at h
 | [],_ :: _,_,_,_,h=>by simp [bn] at h
 | _ :: _,[],_,_,_,h=>by simp [bn] at h
 | _ :: _,_ :: _,[],_,_,h=>by simp [bn] at h
def IsV (P:Program) (t:TypeId) (L:List Value) (X:Value):Prop:=(aQ P t=some true/\X=.agg L.toArray)\/(aQ P t=some false/\L=[X])
theorem dE {P:Program} {t:TypeId} {l ks:List LK} (h:xm P t l=some ks):ks=l/\bY P t=some ks.length:=by
 unfold xm at h
 split at h
 .cases h
 .rename_i n hn
  split at h
  .rename_i hb; cases h
   exact ⟨rfl,by rw [hn,Nat.eq_of_beq_eq_true hb]⟩
  .cases h
theorem gD {P:Program} {d:Nat} {t:TypeId} {ks:List LK} (h:rP P d t=some ks):bY P t=some ks.length/\(aQ P t=some true\/(aQ P t=some false/\ks.length=1)):=by
 cases d with
 | zero=>cases h
 | succ d=>
  simp only [rP] at h
  split at h
  .rename_i hu
   obtain ⟨rfl,hs⟩:=dE h
   exact ⟨hs,.inr ⟨by unfold aQ; rw [hu],rfl⟩⟩
  .rename_i k hu
   obtain ⟨rfl,hs⟩:=dE h
   exact ⟨hs,.inr ⟨by unfold aQ; rw [hu],rfl⟩⟩
  .rename_i hu
   obtain ⟨rfl,hs⟩:=dE h
   exact ⟨hs,.inr ⟨by unfold aQ; rw [hu],rfl⟩⟩
  .rename_i fs hu
   split at h
   .cases h
   .split at h
    .cases h
    .obtain ⟨rfl,hs⟩:=dE h
     exact ⟨hs,.inl (by unfold aQ; rw [hu])⟩
  .rename_i n e hu
   split at h
   .cases h
   .obtain ⟨rfl,hs⟩:=dE h
    exact ⟨hs,.inl (by unfold aQ; rw [hu])⟩
  .cases h
theorem sw {P:Program} {d:Nat} {t:TypeId} {ks:List LK} (h:rP P d t=some ks) (L:List Value) (off:Nat) (hl:off+ks.length<=L.length) (W:World):
  ∃ X,(part t L.toArray off).run P W=.ok X W/\IsV P t ((L.drop off).take ks.length) X:=by
 obtain ⟨hs,hk⟩:=gD h
 rcases hk with ha|⟨ha,h1⟩
 .refine ⟨.agg (L.toArray.extract off (off+ks.length)),by simp [part,bT ha,au hs],.inl ⟨ha,?_⟩⟩
  congr 1
  apply Array.toList_inj.1
  simp [List.extract]
 .have hlt:off<L.length:=by omega
  refine ⟨L[off],by simp [part,bT ha,hlt],.inr ⟨ha,?_⟩⟩
  rw [h1,List.drop_eq_getElem_cons hlt,List.take_succ_cons,List.take_zero]
theorem VRels.split {σ:Sg}:∀ (l m:List AV) {L:List Value},VRels σ (l++m) L->VRels σ l (L.take l.length)/\VRels σ m (L.drop l.length)
 | [],m,L,h=>⟨rfl,h⟩
 | a :: l,m,_,⟨v,vs,e,r,s⟩=>by
  obtain ⟨h1,h2⟩:=VRels.split l m s
  subst e
  exact ⟨⟨v,_,rfl,r,h1⟩,h2⟩
theorem sD {P:Program} {σ:Sg}:∀ (d:Nat) (t:TypeId) (ks:List LK),rP P d t=some ks->∀ (D:Nat),d<=D->∀ (l m:List AV) (L M:List Value) (X Y:Value) (s p:Bool),
  bn ks l m=some (s,p)->VRels σ l L->VRels σ m M->IsV P t L X->IsV P t M Y->∀ W,(Op.equalIn D t X Y).run P W=.ok p W
 | 0,_,_,h,_,_,_,_,_,_,_,_,_,_,_,_,_,_,_,_=>by cases h
 | d+1,t,ks,h,D,hD,l,m,L,M,X,Y,s,p,he,hl,hm,hX,hY,W=>by
  obtain ⟨D,rfl⟩:∃ E,D=E+1:=⟨D - 1,by omega⟩
  have hsz:=gD h
  simp only [rP] at h
  have leaf:∀ k:LK,ks=[k]->aQ P t=some false->∃ a b,l=[a]/\m=[b]/\VRel σ a X/\VRel σ b Y/\BD k a b=some (s,p):=by
   intro k hk ha
   subst hk
   have hlen:=vP _ _ _ _ _ he
   obtain ⟨a,rfl⟩:∃ a,l=[a]:=List.length_eq_one_iff.1 hlen.1
   obtain ⟨b,rfl⟩:∃ b,m=[b]:=List.length_eq_one_iff.1 hlen.2
   refine ⟨a,b,rfl,rfl,?_,?_,?_⟩
   .rcases hX with ⟨h1,_⟩|⟨_,rfl⟩
    .rw [ha] at h1; cases h1
    .obtain ⟨v,vs,e1,r1,_⟩:=hl; cases e1; exact r1
   .rcases hY with ⟨h1,_⟩|⟨_,rfl⟩
    .rw [ha] at h1; cases h1
    .obtain ⟨v,vs,e1,r1,_⟩:=hm; cases e1; exact r1
   .simp only [bn] at he
    split at he
    .cases he
    .rename_i s1 p1 h1
     simp at he
     rw [h1,he.1,he.2]
  split at h
  .rename_i hu
   obtain ⟨rfl,_⟩:=dE h
   obtain ⟨a,b,rfl,rfl,ra,rb,hf⟩:=leaf _ rfl (by unfold aQ; rw [hu])
   simp only [BD] at hf
   split at hf
   .cases hf
    obtain rfl:=ra; obtain rfl:=rb
    exact run_equalIn_bool W D t _ _ hu
   .cases hf
  .rename_i k hu
   obtain ⟨rfl,_⟩:=dE h
   obtain ⟨a,b,rfl,rfl,ra,rb,hf⟩:=leaf _ rfl (by unfold aQ; rw [hu])
   simp only [BD] at hf
   split at hf
   .split at hf
    .rename_i hk
     obtain ⟨rfl,rfl⟩:=hk
     cases hf
     obtain rfl:=ra; obtain rfl:=rb
     exact run_equalIn_int W D t _ _ _ _ hu
    .cases hf
   .cases hf
  .rename_i hu
   obtain ⟨rfl,_⟩:=dE h
   obtain ⟨a,b,rfl,rfl,ra,rb,hf⟩:=leaf _ rfl (by unfold aQ; rw [hu])
   simp only [BD] at hf
   split at hf
   .cases hf
    obtain rfl:=ra; obtain rfl:=rb
    rw [run_equalIn_string W D t _ _ hu,mJ,beq_toListBytes]
   .cases hf
  .rename_i fs hu
   split at h
   .cases h
   .rename_i hst
    split at h
    .cases h
    .rename_i l' hfs
     obtain ⟨rfl,_⟩:=dE h
     have hagg:aQ P t=some true:=by unfold aQ; rw [hu]
     obtain rfl:X=.agg L.toArray:=by
      rcases hX with ⟨_,e⟩|⟨e,_⟩
      .exact e
      .rw [hagg] at e; cases e
     obtain rfl:Y=.agg M.toArray:=by
      rcases hY with ⟨_,e⟩|⟨e,_⟩
      .exact e
      .rw [hagg] at e; cases e
     have hF:P.fieldsOf t=fs:=by unfold Program.fieldsOf; rw [hu]
     rw [run_equalIn_struct W D t _ _ (by rw [hF]; exact hu) hst,hF]
     have key:∀ (gs:List Field) (off:Nat) (ks:List LK),BC (rP P d) off gs=some ks->∀ (l m:List AV) (s p:Bool),bn ks l m=some (s,p)->VRels σ l (L.drop off)->VRels σ m (M.drop off) ->
       (Op.eqFields D L.toArray M.toArray gs).run P W=.ok p W:=by
      intro gs
      induction gs with
      | nil=>
       intro off ks hk l m s p he _ _
       cases hk
       cases l <;> cases m <;> simp [bn] at he
       simp [Op.eqFields,he]
      | cons f gs ih=>
       intro off ks hk l m s p he hl hm
       simp only [BC] at hk
       split at hk
       .cases hk
       .rename_i hname
        split at hk
        .cases hk
        .rename_i hoff
         split at hk
         .cases hk
         .rename_i k1 hk1
          split at hk
          .cases hk
          .rename_i k2 hk2
           cases hk
           obtain rfl:=Nat.eq_of_beq_eq_true hoff
           obtain ⟨l1,l2,m1,m2,s1,p1,s2,p2,rfl,rfl,n1,n2,e1,e2,rfl⟩:=kw k1 k2 l m s p he
           obtain ⟨a1,a2⟩:=VRels.split l1 l2 hl
           obtain ⟨b1,b2⟩:=VRels.split m1 m2 hm
           have lenL:=VRels.length a1
           have lenM:=VRels.length b1
           simp only [List.length_take,List.length_drop] at lenL lenM
           by_cases hz:k1.length=0
           .-- a field without cells
            obtain rfl:k1=[]:=List.length_eq_zero_iff.1 hz
            obtain rfl:l1=[]:=List.length_eq_zero_iff.1 n1
            obtain rfl:m1=[]:=List.length_eq_zero_iff.1 n2
            simp [bn] at e1
            obtain ⟨rfl,rfl⟩:=e1
            have hag:aQ P f.type=some true:=by
             rcases (gD hk1).2 with h1|⟨_,h1⟩
             .exact h1
             .simp at h1
            have hs0:=(gD hk1).1
            have hp1:(part f.type L.toArray f.offset).run P W=.ok (.agg #[]) W:=by
             simp [part,bT hag,au hs0]
            have hp2:(part f.type M.toArray f.offset).run P W=.ok (.agg #[]) W:=by
             simp [part,bT hag,au hs0]
            have hq:=sD (σ:=σ) d f.type [] hk1 D (by omega) [] [] [] [] (.agg #[]) (.agg #[]) false true rfl rfl rfl (.inl ⟨hag,rfl⟩) (.inl ⟨hag,rfl⟩) W
            have hr:=ih f.offset k2 (by simpa using hk2) l2 m2 s2 p2 e2 (by simpa using a2) (by simpa using b2)
            have hne:f.name≠"_" :=by simpa using hname
            simp [Op.eqFields,hne,hp1,hp2,hq,hr]
           .obtain ⟨X1,x1,x2⟩:=sw hk1 L f.offset (by omega) W
            obtain ⟨Y1,y1,y2⟩:=sw hk1 M f.offset (by omega) W
            have hq:=sD (σ:=σ) d f.type k1 hk1 D (by omega) l1 m1 _ _ X1 Y1 s1 p1 e1 (by rw [<- n1]; exact a1) (by rw [<- n2]; exact b1) x2 y2 W
            have hr:=ih (f.offset+k1.length) k2 hk2 l2 m2 s2 p2 e2 (by rw [<- n1,<- List.drop_drop]; exact a2) (by rw [<- n2,<- List.drop_drop]; exact b2)
            have hne:f.name≠"_" :=by simpa using hname
            cases p1 <;> simp [Op.eqFields,hne,x1,y1,hq,hr]
     exact key fs.toList 0 _ hfs l m s p he (by simpa using hl) (by simpa using hm)
  .rename_i n e hu
   split at h
   .cases h
   .rename_i k1 hk1
    obtain ⟨rfl,_⟩:=dE h
    have hagg:aQ P t=some true:=by unfold aQ; rw [hu]
    obtain rfl:X=.agg L.toArray:=by
     rcases hX with ⟨_,e⟩|⟨e,_⟩
     .exact e
     .rw [hagg] at e; cases e
    obtain rfl:Y=.agg M.toArray:=by
     rcases hY with ⟨_,e⟩|⟨e,_⟩
     .exact e
     .rw [hagg] at e; cases e
    obtain ⟨i,hi,hsi⟩:=gB (gD hk1).1
    have hc:P.cellsOf e=k1.length:=by simp [Program.cellsOf,hi,hsi]
    rw [run_equalIn_array W D _ _ hu hi,hc]
    have key:∀ (k j:Nat) (l m:List AV) (s p:Bool),bn (qh k1 k) l m=some (s,p)->VRels σ l (L.drop (j*k1.length))->VRels σ m (M.drop (j*k1.length)) ->
      (Op.eqItems D e k1.length L.toArray M.toArray (List.range' j k)).run P W=.ok p W:=by
     intro k
     induction k with
     | zero=>
      intro j l m s p he _ _
      cases l <;> cases m <;> simp [bn,qh] at he
      simp [Op.eqItems,he]
     | succ k ih=>
      intro j l m s p he hl hm
      simp only [qh] at he
      obtain ⟨l1,l2,m1,m2,s1,p1,s2,p2,rfl,rfl,n1,n2,e1,e2,rfl⟩:=kw k1 _ l m s p he
      obtain ⟨a1,a2⟩:=VRels.split l1 l2 hl
      obtain ⟨b1,b2⟩:=VRels.split m1 m2 hm
      have lenL:=VRels.length a1
      have lenM:=VRels.length b1
      simp only [List.length_take,List.length_drop] at lenL lenM
      have hr:=ih (j+1) l2 m2 s2 p2 e2 (by rw [Nat.add_mul,Nat.one_mul,<- n1,<- List.drop_drop,n1]; rw [n1] at a2; exact a2) (by rw [Nat.add_mul,Nat.one_mul,<- n2,<- List.drop_drop,n2]; rw [n2] at b2; exact b2)
      by_cases hz:k1.length=0
      .obtain rfl:k1=[]:=List.length_eq_zero_iff.1 hz
       obtain rfl:l1=[]:=List.length_eq_zero_iff.1 n1
       obtain rfl:m1=[]:=List.length_eq_zero_iff.1 n2
       simp [bn] at e1
       obtain ⟨rfl,rfl⟩:=e1
       have hag:aQ P e=some true:=by
        rcases (gD hk1).2 with h1|⟨_,h1⟩
        .exact h1
        .simp at h1
       have hs0:=(gD hk1).1
       have hp1:(part e L.toArray (j*0)).run P W=.ok (.agg #[]) W:=by
        simp [part,bT hag,au hs0]
       have hp2:(part e M.toArray (j*0)).run P W=.ok (.agg #[]) W:=by
        simp [part,bT hag,au hs0]
       have hq:=sD (σ:=σ) d e [] hk1 D (by omega) [] [] [] [] (.agg #[]) (.agg #[]) false true rfl rfl rfl (.inl ⟨hag,rfl⟩) (.inl ⟨hag,rfl⟩) W
       simp only [List.range'_succ,Op.eqItems,List.length_nil,Sem.run_bind,hp1,hp2,hq,Result.andThen_ok]
       simpa using hr
      .obtain ⟨X1,x1,x2⟩:=sw hk1 L (j*k1.length) (by omega) W
       obtain ⟨Y1,y1,y2⟩:=sw hk1 M (j*k1.length) (by omega) W
       have hq:=sD (σ:=σ) d e k1 hk1 D (by omega) l1 m1 _ _ X1 Y1 s1 p1 e1 (by rw [n1] at a1; exact a1) (by rw [n2] at b1; exact b1) x2 y2 W
       simp only [List.range'_succ,Op.eqItems,Sem.run_bind,x1,y1,hq,Result.andThen_ok]
       cases p1
       .simp
       .simpa using hr
    rw [List.range_eq_range']
    exact key n 0 l m s p he (by simpa using hl) (by simpa using hm)
  .cases h
theorem iE {P:Program} {t:TypeId} {A B:Value} {p:Bool} {W:World} (hE:∀ d,(Op.equalIn (d+1) t A B).run P W=.ok p W) (h1:binOp .eql t A B=(do pure (.bool (<- Op.equal t A B)))) (h2:binOp .neq t A B=(do pure (.bool (!(<- Op.equal t A B))))):
  (binOp .eql t A B).run P W=.ok (.bool p) W/\(binOp .neq t A B).run P W=.ok (.bool !p) W:=by
 have h3:(Op.equal t A B).run P W=.ok p W:=hE 9999
 rw [h1,h2]
 simp [h3]
def Kj (P:Program) (t:TypeId) (A B:Value) (p:Bool) (x y:Operand) (W:World):Prop:=
 (eqGuard .eql t x y A B).run P W=.ok () W/\(eqGuard .neq t x y A B).run P W=.ok () W/\(binOp .eql t A B).run P W=.ok (.bool p) W/\(binOp .neq t A B).run P W=.ok (.bool !p) W
theorem Mh {P:Program} {σ:Sg} {t el:TypeId} (hu:P.underlying t=some (.pointer el)) {a b:AV} {A B:Value} (ha:VRel σ a A) (hb:VRel σ b B) {s p:Bool} (e:LU a b=some (s,p)) (x y:Operand) (W:World):Kj P t A B p x y W:=by
 unfold LU at e
 split at e <;> cases e
 .obtain rfl:=ha; obtain rfl:=hb
  exact ⟨rfl,rfl,iE (fun d=>by simp [Op.equalIn,run_underlying hu]) rfl rfl⟩
 .obtain rfl:=ha; obtain ⟨_,_,_,rfl⟩:=hb
  exact ⟨rfl,rfl,iE (fun d=>by simp [Op.equalIn,run_underlying hu]) rfl rfl⟩
 .obtain ⟨_,_,_,rfl⟩:=ha; obtain rfl:=hb
  exact ⟨rfl,rfl,iE (fun d=>by simp [Op.equalIn,run_underlying hu]) rfl rfl⟩
theorem qP {P:Program} {σ:Sg} {t el:TypeId} (hu:P.underlying t=some (.slice el)) {a b:AV} {A B:Value} (ha:VRel σ a A) (hb:VRel σ b B) {s p:Bool} (e:BF a b=some (s,p)) (x y:Operand) (W:World):Kj P t A B p x y W:=by
 unfold BF at e
 split at e <;> cases e
 .obtain rfl:=ha; obtain rfl:=hb
  exact ⟨rfl,rfl,iE (fun d=>by simp [Op.equalIn,run_underlying hu]) rfl rfl⟩
 .obtain rfl:=ha; obtain ⟨_,_,_,rfl⟩:=hb
  exact ⟨rfl,rfl,iE (fun d=>by simp [Op.equalIn,run_underlying hu]) rfl rfl⟩
 .obtain ⟨_,_,_,rfl⟩:=ha; obtain rfl:=hb
  exact ⟨rfl,rfl,iE (fun d=>by simp [Op.equalIn,run_underlying hu]) rfl rfl⟩
 .obtain rfl:=ha; obtain ⟨_,_,_,_,_,rfl,_⟩:=hb
  exact ⟨rfl,rfl,iE (fun d=>by simp [Op.equalIn,run_underlying hu]) rfl rfl⟩
 .obtain ⟨_,_,_,_,_,rfl,_⟩:=ha; obtain rfl:=hb
  exact ⟨rfl,rfl,iE (fun d=>by simp [Op.equalIn,run_underlying hu]) rfl rfl⟩
 .obtain rfl:=ha; obtain ⟨a,_,rfl,rfl⟩:=hb
  cases a <;> exact ⟨rfl,rfl,iE (fun d=>by simp [Op.equalIn,run_underlying hu]) rfl rfl⟩
 .obtain ⟨a,_,rfl,rfl⟩:=ha; obtain rfl:=hb
  cases a <;> exact ⟨rfl,rfl,iE (fun d=>by simp [Op.equalIn,run_underlying hu]) rfl rfl⟩
 .obtain rfl:=ha; obtain ⟨p,len,c,rfl,_,h3,h4⟩:=hb
  rcases h4 with h4|⟨_,_,_,rfl⟩
  .omega
  .exact ⟨rfl,rfl,iE (fun d=>by simp [Op.equalIn,run_underlying hu]) rfl rfl⟩
 .obtain ⟨p,len,c,rfl,_,h3,h4⟩:=ha; obtain rfl:=hb
  rcases h4 with h4|⟨_,_,_,rfl⟩
  .omega
  .exact ⟨rfl,rfl,iE (fun d=>by simp [Op.equalIn,run_underlying hu]) rfl rfl⟩
theorem Kk {P:Program} {σ:Sg} {t:TypeId} {ps rs:Array TypeId} {va:Bool} (hu:P.underlying t=some (.func ps rs va)) {a b:AV} {A B:Value} (ha:VRel σ a A) (hb:VRel σ b B) {s p:Bool} (e:Gy a b=some (s,p)) (x y:Operand) (W:World):Kj P t A B p x y W:=by
 unfold Gy at e
 split at e <;> cases e
 .obtain rfl:=ha; obtain rfl:=hb
  exact ⟨rfl,rfl,iE (fun d=>by simp [Op.equalIn,run_underlying hu]) rfl rfl⟩
 .obtain rfl:=ha; obtain ⟨_,_,rfl,_⟩:=hb
  exact ⟨rfl,rfl,iE (fun d=>by simp [Op.equalIn,run_underlying hu]) rfl rfl⟩
 .obtain ⟨_,_,rfl,_⟩:=ha; obtain rfl:=hb
  exact ⟨rfl,rfl,iE (fun d=>by simp [Op.equalIn,run_underlying hu]) rfl rfl⟩
theorem GQ {P:Program} {σ:Sg} {t:TypeId} {ms:Array (String×TypeId)} (hu:P.underlying t=some (.interface ms)) {a b:AV} {A B:Value} (ha:VRel σ a A) (hb:VRel σ b B) {s p:Bool} (e:BG ms.isEmpty a b=some (s,p)) (x y:Operand) (W:World):Kj P t A B p x y W:=by
 unfold BG at e
 split at e
 .cases hm:ms.isEmpty with
  | false=>rw [hm] at e; cases e
  | true=>
   rw [hm] at e; cases e
   obtain rfl:=ha; obtain rfl:=hb
   have g0:∀ d,(Op.eqGuardIn (d+1) t .nilIface .nilIface).run P W=.ok false W:=fun d=>by
    simp [Op.eqGuardIn,run_underlying hu,hm]
   have g:(Op.eqGuardIn Op.maxDepth t .nilIface .nilIface).run P W=.ok false W:=g0 9999
   have g2:∀ op,op=.eql\/op=.neq->(eqGuard op t x y .nilIface .nilIface).run P W=.ok () W:=by
    intro op ho
    rcases ho with rfl|rfl <;>
    .simp only [eqGuard]
     split
     .rfl
     .simp [g]
   refine ⟨g2 _ (.inl rfl),g2 _ (.inr rfl),iE (fun d=>by simp [Op.equalIn,run_underlying hu]) rfl rfl⟩
 .cases e
  obtain rfl:=ha; obtain ⟨_,rfl,_⟩:=hb
  exact ⟨rfl,rfl,iE (fun d=>by simp [Op.equalIn,run_underlying hu]) rfl rfl⟩
 .cases e
  obtain ⟨_,rfl,_⟩:=ha; obtain rfl:=hb
  exact ⟨rfl,rfl,iE (fun d=>by simp [Op.equalIn,run_underlying hu]) rfl rfl⟩
 .cases e
theorem Eb {P:Program} {σ:Sg} {t:TypeId} (hag:aQ P t=some true) {a b:AV} {A B:Value} (ha:VRel σ a A) (hb:VRel σ b B) {s p:Bool} (e:IP P t a b=some (s,p)) (x y:Operand) (W:World):Kj P t A B p x y W:=by
 unfold IP at e
 split at e
 .split at e
  .cases e
  .rename_i hg
   split at e
   .cases e
   .rename_i ks hk
    obtain ⟨K,rfl,hK⟩:=ha
    obtain ⟨M,rfl,hM⟩:=hb
    have hq:=sD (σ:=σ) 20 t ks hk 10000 (by omega) _ _ K.toList M.toList (.agg K) (.agg M) s p e hK hM (.inl ⟨hag,by simp⟩) (.inl ⟨hag,by simp⟩) W
    have hq':(Op.equal t (.agg K) (.agg M)).run P W=.ok p W:=hq
    refine ⟨run_eqGuard_agg W .eql t x y K M hg,run_eqGuard_agg W .neq t x y K M hg,?_,?_⟩
    .rw [run_eql_struct,hq]; rfl
    .have:binOp .neq t (.agg K) (.agg M)=(do pure (.bool (!(<- Op.equal t (.agg K) (.agg M))))):=rfl
     rw [this]
     simp [hq']
 .cases e
theorem Mi {P:Program} {σ:Sg} {t:TypeId} {a b:AV} {A B:Value} (ha:VRel σ a A) (hb:VRel σ b B) {s p:Bool} (e:eqV P t a b=some (s,p)) (x y:Operand) (W:World):Kj P t A B p x y W:=by
 unfold eqV at e
 split at e
 .rename_i hu
  simp only [BD] at e
  split at e
  .cases e
   obtain rfl:=ha; obtain rfl:=hb
   exact ⟨rfl,rfl,run_eql_bool W t _ _ hu,run_neq_bool W t _ _ hu⟩
  .cases e
 .rename_i hu
  simp only [BD] at e
  split at e
  .cases e
   obtain rfl:=ha; obtain rfl:=hb
   refine ⟨rfl,rfl,?_,?_⟩ <;> simp [binOp,Op.stringOp,mJ,beq_toListBytes]
  .cases e
 .rename_i el hu; exact Mh hu ha hb e x y W
 .rename_i el hu; exact qP hu ha hb e x y W
 .rename_i hu; exact Kk hu ha hb e x y W
 .rename_i fs hu; exact Eb (by unfold aQ; rw [hu]) ha hb e x y W
 .rename_i n el hu; exact Eb (by unfold aQ; rw [hu]) ha hb e x y W
 .rename_i ms hu; exact GQ hu ha hb e x y W
 .cases e
def vQ (P:Program) (σ:Sg) (op:BinOp) (t:TypeId) (x y:Operand) (A B:Value) (v:AV) (W:World):Prop:=
 ∃ V,(eqGuard op t x y A B).run P W=.ok () W/\(binOp op t A B).run P W=.ok V W/\VRel σ v V
theorem Sl {P:Program} {σ:Sg} {op:BinOp} {t:TypeId} {a b:AV} {A B:Value} (ha:VRel σ a A) (hb:VRel σ b B) {nd:Nd} {v:AV} (e:cmpV P op t a b=some (nd,v)) (x y:Operand) (W:World):vQ P σ op t x y A B v W:=by
 unfold cmpV at e
 split at e
 .split at e
  .cases e
  .rename_i s p h; cases e
   obtain ⟨h1,h2,h3,h4⟩:=Mi ha hb h x y W
   exact ⟨_,h1,h3,by simp⟩
 .split at e
  .cases e
  .rename_i s p h; cases e
   obtain ⟨h1,h2,h3,h4⟩:=Mi ha hb h x y W
   exact ⟨_,h2,h4,by simp⟩
 .cases e
theorem Sq {P:Program} {σ:Sg} {op:BinOp} {t:TypeId} {a b:AV} {A B:Value} (ha:VRel σ a A) (hb:VRel σ b B) {nd:Nd} {v:AV} (e:WP P op t a b=some (nd,v)) (hn:nd.val) (x y:Operand) (W:World):vQ P σ op t x y A B v W:=by
 unfold WP at e
 split at e
 .rename_i i n
  split at e
  .rename_i el hu
   split at e
   .cases e
    have hn:0<n:=hn
    obtain ⟨p,len,c,rfl,hl,hp⟩:=ha
    have hA:VRel σ (.pslice i (len - 1+1) false n) (.slice p len c):=⟨p,len,c,rfl,hl,by omega,hp.imp (fun h=>by omega) id⟩
    obtain ⟨h1,h2,h3,h4⟩:=qP hu hA hb (s:=false) (p:=false) rfl x y W
    exact ⟨_,h1,h3,rfl⟩
   .cases e
    have hn:0<n:=hn
    obtain ⟨p,len,c,rfl,hl,hp⟩:=ha
    have hA:VRel σ (.pslice i (len - 1+1) false n) (.slice p len c):=⟨p,len,c,rfl,hl,by omega,hp.imp (fun h=>by omega) id⟩
    obtain ⟨h1,h2,h3,h4⟩:=qP hu hA hb (s:=false) (p:=false) rfl x y W
    exact ⟨_,h2,h4,rfl⟩
   .cases e
  .cases e
 .cases e
theorem Aa {P:Program} {σ:Sg} {op:BinOp} {s:Bool} {k:IntKind} {m n:Int} {v:AV} (e:BB op s k m n=some v) (t:TypeId) (x y:Operand) (W:World):vQ P σ op t x y (.int k m) (.int k n) v W:=by
 unfold BB at e
 split at e <;> first|cases e; done|skip
 all_goals
  cases e
  refine ⟨_,by simp [eqGuard_at_int],by simp [binOp,Op.intArith,Op.intBits,Op.intCmp]; rfl,by simp⟩
theorem Ab {P:Program} {σ:Sg} {op:BinOp} (hop:op=.shl\/op=.shr) {t:TypeId} {a b:AV} {A B:Value} (ha:VRel σ a A) (hb:VRel σ b B) {nd:Nd} {v:AV} (e:BH op a b=some (nd,v)) (hn:nd.val) (x y:Operand) (W:World):
  vQ P σ op t x y A B v W:=by
 unfold BH at e
 split at e
 .rename_i s k m s' k' n
  obtain rfl:=ha; obtain rfl:=hb
  have main:∀ (s:Bool) (v:AV),0<=n->rO op s k m (min n.toNat k.bits)=some v->vQ P σ op t x y (.int k m) (.int k' n) v W:=by
   intro s v hnn h
   have hnn':¬ n<0:=by omega
   unfold rO at h
   split at h
   .cases h; exact ⟨_,by simp [eqGuard_at_int],by simp [binOp,Op.shift,hnn']; rfl,by simp⟩
   .cases h; exact ⟨_,by simp [eqGuard_at_int],by simp [binOp,Op.shift,hnn']; rfl,by simp⟩
   .cases h
  split at e
  .split at e
   .cases e
   .rename_i hlt
    split at e
    .cases e
    .rename_i w hw; cases e
     exact main s v (by simpa using hlt) hw
  .split at e
   .cases e
   .rename_i w hw; cases e
    exact main true v hn hw
 .cases e
theorem I7 {P:Program} {σ:Sg} {op:BinOp} (hop:op=.quo\/op=.rem) {t:TypeId} {a b:AV} {A B:Value} (ha:VRel σ a A) (hb:VRel σ b B) {nd:Nd} {v:AV} (e:R7 op a b=some (nd,v)) (hn:nd.val) (x y:Operand) (W:World):
  vQ P σ op t x y A B v W:=by
 unfold R7 at e
 split at e
 .rename_i s k m s' k' n
  obtain rfl:=ha; obtain rfl:=hb
  split at e
  .rename_i hk; subst hk
   have main:∀ (s:Bool) (v:AV),n≠0->BI op s k m n=some v->vQ P σ op t x y (.int k m) (.int k n) v W:=by
    intro s v hnn h
    unfold BI at h
    split at h
    .cases h; exact ⟨_,by simp [eqGuard_at_int],by simp [binOp,Op.intDiv,hnn]; rfl,by simp⟩
    .cases h; exact ⟨_,by simp [eqGuard_at_int],by simp [binOp,Op.intDiv,hnn]; rfl,by simp⟩
    .cases h
   split at e
   .split at e
    .cases e
    .rename_i hz
     split at e
     .cases e
     .rename_i w hw; cases e
      exact main s v (by simpa using hz) hw
   .split at e
    .cases e
    .rename_i w hw; cases e
     exact main true v hn hw
  .cases e
 .cases e
theorem Sr {P:Program} {σ:Sg} {op:BinOp} {t:TypeId} {a b:AV} {A B:Value} (ha:VRel σ a A) (hb:VRel σ b B) {nd:Nd} {v:AV} (e:R8 P op t a b=some (nd,v)) (hn:nd.val) (x y:Operand) (W:World):
  vQ P σ op t x y A B v W:=by
 unfold R8 at e
 split at e
 .exact Ab (.inl rfl) ha hb e hn x y W
 .exact Ab (.inr rfl) ha hb e hn x y W
 .exact I7 (.inl rfl) ha hb e hn x y W
 .exact I7 (.inr rfl) ha hb e hn x y W
 .unfold LV at e
  split at e
  .rename_i s k m s' k' n
   obtain rfl:=ha; obtain rfl:=hb
   split at e
   .rename_i hk; subst hk
    split at e
    .cases e
    .rename_i w hw; cases e
     exact Aa hw t x y W
   .cases e
  .split at e
   .rename_i r h
    cases e
    exact Sq ha hb h hn x y W
   .exact Sl ha hb e x y W
theorem WS {P:Program} {σ:Sg} {op:UnOp} {a v:AV} {A:Value} (ha:VRel σ a A) (e:unV op a=some v) (W:World):∃ V,(Op.unary op A).run P W=.ok V W/\VRel σ v V:=by
 unfold unV at e
 split at e
 .rename_i s k n
  obtain rfl:=ha
  split at e
  .cases e
   exact ⟨.int k (k.wrap (0 - n)),by simp [Op.unary,Op.intArith],by simp⟩
  .obtain ⟨V,_,h2,h3⟩:=Aa (P:=P) (σ:=σ) e 0 (.const undef) (.const undef) W
   refine ⟨V,?_,h3⟩
   simp only [binOp] at h2
   simpa [Op.unary] using h2
  .cases e
 .rename_i s b
  obtain rfl:=ha
  split at e
  .cases e
   exact ⟨.bool !b,by simp [Op.unary],by simp⟩
  .cases e
 .cases e
theorem Mj {P:Program} {σ:Sg} {src dst:TypeId} {a v:AV} {A:Value} (ha:VRel σ a A) (e:IQ P src dst a=some v) (W:World):∃ V,(convert src dst A).run P W=.ok V W/\VRel σ v V:=by
 unfold IQ at e
 split at e
 .rename_i s k n
  obtain rfl:=ha
  split at e
  .cases e
  .rename_i d hd'
   split at e
   .rename_i k' hd
    cases e
    refine ⟨.int k' (k'.wrap n),?_,by simp⟩
    simp [convert,run_underlying hd',run_underlying hd,Conv.intToInt]
   .cases e
 .cases e
theorem bS (B o n:Nat):(⟨B,o,none⟩:Addr).add n=⟨B,o+n,none⟩:=by unfold Addr.add; split <;> simp_all
theorem lK {len:Nat} {s:Bool} {i:Int} {nd:Nd} {j:Nat} (e:nR len s i=some (nd,j)) (hn:nd.val):(0<=i/\i<len)/\j=i.toNat:=by
 unfold nR at e
 split at e
 .split at e
  .rename_i h; cases e; exact ⟨h,rfl⟩
  .cases e
 .cases e; exact ⟨hn,rfl⟩
theorem Ch {P:Program} {σ:Sg} {t:TypeId} {x ix v:AV} {X I:Value} (hx:VRel σ x X) (hi:VRel σ ix I) {nd:Nd} (e:mh P t x ix=some (nd,v)) (hn:nd.val) (W:World):
  ∃ V,(Instr.indexAt t X I).run P W=.ok V W/\VRel σ v V:=by
 unfold mh at e
 split at e
 .rename_i s k i
  obtain rfl:=hi
  split at e
  .rename_i len elem id off hu
   obtain ⟨B,N,hσ,rfl⟩:=hx
   split at e
   .rename_i n q j hsz hb
    have main:∀ nd',nd'=nd->q=nd->∃ V,(Instr.indexAt t (.pointer (some ⟨B,off,none⟩)) (.int k i)).run P W=.ok V W/\V=.pointer (some ⟨B,off+j*n,none⟩):=by
     intro _ _ hq
     subst hq
     obtain ⟨h1,rfl⟩:=lK hb hn
     exact ⟨_,by simp [Instr.indexAt,asIntOf,run_underlying hu,Instr.sureAddr,h1.1,h1.2,au hsz,bS]; rfl,by rfl⟩
    split at e <;> cases e
    .obtain ⟨V,h1,rfl⟩:=main _ rfl rfl
     exact ⟨_,h1,by simp only [nS,aF]; exact ⟨B,N,hσ,rfl⟩⟩
    .obtain ⟨V,h1,rfl⟩:=main _ rfl rfl
     exact ⟨_,h1,B,N,hσ,rfl⟩
   .cases e
  .rename_i elem id off len cap hu
   obtain ⟨B,N,hσ,rfl⟩:=hx
   split at e
   .rename_i n q j hsz hb
    have main:∀ nd',nd'=nd->q=nd->∃ V,(Instr.indexAt t (.slice (some ⟨B,off,none⟩) len cap) (.int k i)).run P W=.ok V W/\V=.pointer (some ⟨B,off+j*n,none⟩):=by
     intro _ _ hq
     subst hq
     obtain ⟨h1,rfl⟩:=lK hb hn
     exact ⟨_,by simp [Instr.indexAt,asIntOf,run_underlying hu,h1.1,h1.2,au hsz,bS]; rfl,by rfl⟩
    split at e <;> cases e
    .obtain ⟨V,h1,rfl⟩:=main _ rfl rfl
     exact ⟨_,h1,by simp only [nS,aF]; exact ⟨B,N,hσ,rfl⟩⟩
    .obtain ⟨V,h1,rfl⟩:=main _ rfl rfl
     exact ⟨_,h1,B,N,hσ,rfl⟩
   .cases e
  .rename_i elem id len hu
   obtain ⟨B,N,c,hσ,rfl⟩:=hx
   split at e
   .rename_i n q j hsz hb
    have main:∀ nd',nd'=nd->q=nd->∃ V,(Instr.indexAt t (.slice (some ⟨B,N,none⟩) len c) (.int k i)).run P W=.ok V W/\V=.pointer (some ⟨B,N+j*n,none⟩):=by
     intro _ _ hq
     subst hq
     obtain ⟨h1,rfl⟩:=lK hb hn
     exact ⟨_,by simp [Instr.indexAt,asIntOf,run_underlying hu,h1.1,h1.2,au hsz,bS]; rfl,by rfl⟩
    split at e <;> cases e
    .obtain ⟨V,h1,rfl⟩:=main _ rfl rfl
     exact ⟨_,h1,by simp only [aF]; exact ⟨B,N,hσ,rfl⟩⟩
    .obtain ⟨V,h1,rfl⟩:=main _ rfl rfl
     exact ⟨_,h1,B,N,hσ,rfl⟩
   .cases e
  .rename_i elem id l sn n' hu
   obtain ⟨p,len,c,rfl,hn',hle,hp⟩:=hx
   split at e
   .split at e
    .rename_i n q j hsz hb
     cases e
     obtain ⟨h1,rfl⟩:=lK hb hn
     have hl0:l≠0:=by omega
     rcases hp with hp|⟨B,N,hσ,rfl⟩
     .exact absurd hp hl0
     .have h2:i<(len:Int):=by omega
      exact ⟨.pointer (some ⟨B,N+i.toNat*n,none⟩),by simp [Instr.indexAt,asIntOf,run_underlying hu,h1.1,h2,au hsz,bS],by simp only [aF]; exact ⟨B,N,hσ,rfl⟩⟩
    .cases e
   .cases e
  .rename_i elem id off len ee hu
   obtain ⟨B,N,qo,c,hσ,rfl,hq,hc⟩:=hx
   split at e
   .rename_i n q j hsz hb
    split at e
    .rename_i hne; subst hne
     have main:∀ nd',nd'=nd->q=nd->∃ V,(Instr.indexAt t (.slice (some ⟨B,qo,none⟩) len c) (.int k i)).run P W=.ok V W/\V=.pointer (some ⟨B,off+j*n,none⟩):=by
      intro _ _ hq'
      subst hq'
      obtain ⟨h1,rfl⟩:=lK hb hn
      obtain ⟨rfl,_⟩:=hq (by omega)
      exact ⟨_,by simp [Instr.indexAt,asIntOf,run_underlying hu,h1.1,h1.2,au hsz,bS]; rfl,by rfl⟩
     split at e <;> cases e
     .obtain ⟨V,h1,rfl⟩:=main _ rfl rfl
      exact ⟨_,h1,by simp only [nS,aF]; exact ⟨B,N,hσ,rfl⟩⟩
     .obtain ⟨V,h1,rfl⟩:=main _ rfl rfl
      exact ⟨_,h1,B,N,hσ,rfl⟩
    .cases e
   .cases e
  .rename_i elem id n hu
   obtain ⟨p,len,c,rfl,⟨hl,hcl⟩,hp⟩:=hx
   split at e
   .rename_i hsz
    cases e
    obtain ⟨h0,h1⟩:=hn
    have h2:i<(len:Int):=by omega
    rcases hp with hp|⟨B,N,hσ,rfl⟩
    .omega
    .exact ⟨.pointer (some ⟨B,N+i.toNat*1,none⟩),by simp [Instr.indexAt,asIntOf,run_underlying hu,h0,h2,au hsz,bS],B,N,hσ,by rw [Nat.mul_one]⟩
   .cases e
  .rename_i elem w id o n hu
   obtain ⟨p,len,c,rfl,⟨hl,hcl⟩,hp⟩:=hx
   split at e
   .rename_i hsz
    have main:0<=i->i<n->∃ B N q:Nat,σ id=some (B,N)/\(q:Int)=(bif w then 0 else (N:Int))+o/\(Instr.indexAt t (.slice p len c) (.int k i)).run P W=.ok (.pointer (some ⟨B,q+i.toNat,none⟩)) W:=by
     intro h0 h1
     have h2:i<(len:Int):=by omega
     rcases hp with hp|⟨B,N,hσ,q,rfl,hq,_⟩
     .omega
     .exact ⟨B,N,q,hσ,hq,by simp [Instr.indexAt,asIntOf,run_underlying hu,h0,h2,au hsz,bS]⟩
    split at e
    .cases e
     obtain ⟨h0,h1⟩:=hn
     obtain ⟨B,N,q,hσ,hq,hr⟩:=main h0 h1
     refine ⟨_,hr,B,N,hσ,?_⟩
     rw [show (o+i).toNat=q+i.toNat by simp only [cond_true] at hq; omega]
    .cases e
     obtain ⟨ho,h0,h1⟩:=hn
     obtain ⟨B,N,q,hσ,hq,hr⟩:=main h0 h1
     refine ⟨_,hr,B,N,hσ,?_⟩
     rw [show q+i.toNat=N+(o+i).toNat by simp only [cond_false] at hq; omega]
   .cases e
  .rename_i len elem id off hu
   obtain ⟨B,N,hσ,rfl⟩:=hx
   split at e
   .split at e
    .rename_i n q j hsz hb
     cases e
     obtain ⟨h1,rfl⟩:=lK hb hn
     exact ⟨.pointer (some ⟨B,N+off+i.toNat*n,none⟩),by simp [Instr.indexAt,asIntOf,run_underlying hu,Instr.sureAddr,h1.1,h1.2,au hsz,bS],by simp only [aF]; exact ⟨B,N,hσ,by rw [Nat.add_assoc]⟩⟩
    .cases e
   .cases e
  .cases e
 .cases e
theorem Ec {P:Program} {σ:Sg} {t:TypeId} {x ix v:AV} {X I:Value} (hx:VRel σ x X) (hi:VRel σ ix I) (e:xu P t x ix=some v) (W:World):
  ∃ V,(Instr.index t X I).run P W=.ok V W/\VRel σ v V:=by
 unfold xu at e
 split at e
 .rename_i k i cs
  obtain rfl:=hi
  obtain ⟨K,rfl,hK⟩:=hx
  split at e
  .rename_i len elem hu
   split at e
   .cases e
   .rename_i n hsz
    split at e
    .rename_i hb
     obtain ⟨V,h1,h2⟩:=part_ok (P:=P) hK e W
     have:K.toList.toArray=K:=by simp
     rw [this] at h1
     exact ⟨V,by simp [Instr.index,asIntOf,run_underlying hu,hb.1,hb.2,au hsz,h1],h2⟩
    .cases e
  .cases e
 .rename_i k i b
  obtain rfl:=hi
  obtain rfl:=hx
  split at e
  .rename_i hu
   split at e
   .rename_i hb
    split at e
    .rename_i c hc
     cases e
     have hs:b[i.toNat]?=some c:=by
      have hl:i.toNat<b.size:=by
       rcases Nat.lt_or_ge i.toNat b.size with h|h
       .exact h
       .have:b.data.toList.length<=i.toNat:=h
        rw [List.getElem?_eq_none this] at hc; cases hc
      rw [getElem?_pos b i.toNat hl]
      have:b.data.toList[i.toNat]?=some b[i.toNat]:=by
       rw [List.getElem?_eq_getElem (by exact hl)]; rfl
      rw [this] at hc; exact hc
     exact ⟨.int .u8 c.toNat,by simp [Instr.index,asIntOf,run_underlying hu,hb,hs],rfl⟩
    .cases e
   .cases e
  .cases e
 .cases e
theorem Mk {P:Program} {σ:Sg} {t:TypeId} {x v:AV} {X:Value} {f:Nat} (hx:VRel σ x X) (e:BK P t x f=some v) (W:World):
  ∃ V,(Instr.field t X f).run P W=.ok V W/\VRel σ v V:=by
 unfold BK at e
 split at e
 .rename_i fs cs hu
  obtain ⟨K,rfl,hK⟩:=hx
  split at e
  .cases e
  .rename_i fd hf
   obtain ⟨V,h1,h2⟩:=part_ok (P:=P) hK e W
   have:K.toList.toArray=K:=by simp
   rw [this] at h1
   exact ⟨V,by simp [Instr.field,run_underlying hu,hf,asAgg,h1],h2⟩
 .cases e
theorem Ci {P:Program} {σ:Sg} {t:TypeId} {x v:AV} {X:Value} {f:Nat} (hx:VRel σ x X) (e:mi P t x f=some v) (W:World):
  ∃ V,(Instr.fieldAt t X f).run P W=.ok V W/\VRel σ v V:=by
 unfold mi at e
 split at e
 .rename_i fs id off hu
  obtain ⟨B,N,hσ,rfl⟩:=hx
  split at e
  .cases e
  .rename_i fd hf
   split at e
   .rename_i m hsz
    cases e
    refine ⟨.pointer (some ⟨B,off+fd.offset,none⟩),by simp [Instr.fieldAt,run_underlying hu,hf,Instr.sureAddr,fieldPlace,au hsz,bS],?_⟩
    simp only [nS,aF]; exact ⟨B,N,hσ,rfl⟩
   .cases e
 .cases e
theorem Ed {P:Program} {σ:Sg} {h:Hp} {W:World} (r:HRel σ h W) {a:AV} {A:Value} (ha:VRel σ a A) {q:S1} (e:iJ h a=some q) {T:Array Value} {x:Operand} (hx:ev T x=A) {o:Oper} (ho:o.op=.nilCheck x):
  OpOk P (execOp (ev T) o) σ h W q:=by
 unfold iJ at e
 split at e
 .cases e
  obtain ⟨B,N,hσ,rfl⟩:=ha
  exact OpOk.pure r fun _=>⟨_,by simp [execOp,ho,hx],B,N,hσ,rfl⟩
 .cases e
  obtain ⟨F,K,rfl,h1,h2⟩:=ha
  exact OpOk.pure r fun _=>⟨_,by simp [execOp,ho,hx],F,K,rfl,h1,h2⟩
 .cases e
theorem GR {P:Program} {σ:Sg} {h:Hp} {W:World} (r:HRel σ h W) {a:AV} {A:Value} (ha:VRel σ a A) {i:Nat} {q:S1} (e:jV h a i=some q):
  OpOk P (do pure (.value (<- Instr.extract A i))) σ h W q:=by
 unfold jV at e
 split at e
 .rename_i l
  obtain ⟨v,h1,rfl⟩:=dA e
  obtain ⟨K,rfl,hK⟩:=ha
  obtain ⟨V,h2,h3⟩:=VRels.nth hK h1
  have h2':K[i]?=some V:=by simpa using h2
  exact OpOk.pure r fun _=>⟨V,by simp [Instr.extract,h2'],h3⟩
 .cases e
def qi (σ:Sg) (a:Option AV) (A:Option Value):Prop:=match a,A with
 | none,none=>True
 | some a,some A=>VRel σ a A
 | _,_=>False
theorem uL {C:Ctx} {σ:Sg} {s:St} {T:Array Value} (g:GRel C σ) (h:TRel σ s.tmps T) (x:Option Operand):qi σ (jh C s x) (x.map (ev T)):=by
 cases x with
 | none=>trivial
 | some x=>exact cB g h x
theorem jW {P:Program} {σ:Sg} {y n:Nat} {a:AV} {A:Value} (e:dB y a=some n) (h:VRel σ a A) (code:BoundsCode) (W:World):
  (Instr.sliceBound A y code).run P W=.ok n W/\n<=y:=by
 unfold dB at e
 split at e
 .rename_i k i
  obtain rfl:=h
  split at e
  .rename_i hb
   cases e
   have hb:=of_decide_eq_true hb
   exact ⟨by simp [Instr.sliceBound,asIntOf,hb.1,hb.2],by omega⟩
  .cases e
 .cases e
theorem eP {P:Program} {σ:Sg} {len cap l h m:Nat} {lo hi mx:Option AV} {L H M:Option Value} (hl:qi σ lo L) (hh:qi σ hi H) (hm:qi σ mx M) (e:bQ len cap lo hi mx=some (l,h,m)) (q:Bool) (W:World):
  (Instr.sliceBounds q len cap L H M).run P W=.ok (l,h,m) W/\l<=h/\(h=len\/h<=m)/\m<=cap:=by
 unfold bQ at e
 split at e
 .cases e
 .rename_i m' hm1
  split at e
  .cases e
  .rename_i h' hh1
   split at e
   .cases e
   .rename_i l' hl1
    simp only [Option.some.injEq,Prod.mk.injEq] at e
    obtain ⟨rfl,rfl,rfl⟩:=e
    unfold Instr.sliceBounds
    cases mx with
    | none=>
     cases M with
     | some M=>exact hm.elim
     | none=>
      simp only [jH,Option.some.injEq] at hm1
      subst hm1
      cases hi with
      | none=>
       cases H with
       | some H=>exact hh.elim
       | none=>
        simp only [gX,Option.some.injEq] at hh1
        subst hh1
        cases lo with
        | none=>
         cases L with
         | some L=>exact hl.elim
         | none=>
          simp only [gu,Option.some.injEq] at hl1
          subst hl1
          exact ⟨by simp,Nat.zero_le _,.inl rfl,Nat.le_refl _⟩
        | some lo=>
         cases L with
         | none=>exact hl.elim
         | some L=>
          obtain ⟨h1,h2⟩:=jW (P:=P) hl1 hl .sliceB W
          exact ⟨by simp [h1],h2,.inl rfl,Nat.le_refl _⟩
      | some hi=>
       cases H with
       | none=>exact hh.elim
       | some H=>
        have hq:=fun c=>jW (P:=P) hh1 hh c W
        cases lo with
        | none=>
         cases L with
         | some L=>exact hl.elim
         | none=>
          simp only [gu,Option.some.injEq] at hl1
          subst hl1
          exact ⟨by simp [(hq _).1],Nat.zero_le _,.inr (hq .index).2,Nat.le_refl _⟩
        | some lo=>
         cases L with
         | none=>exact hl.elim
         | some L=>
          obtain ⟨h1,h2⟩:=jW (P:=P) hl1 hl .sliceB W
          exact ⟨by simp [(hq _).1,h1],h2,.inr (hq .index).2,Nat.le_refl _⟩
    | some mx=>
     cases M with
     | none=>exact hm.elim
     | some M=>
      have hq1:=fun c=>jW (P:=P) (show dB cap mx=some m' from hm1) hm c W
      cases hi with
      | none=>simp [gX] at hh1
      | some hi=>
       cases H with
       | none=>exact hh.elim
       | some H=>
        have hq:=fun c=>jW (P:=P) hh1 hh c W
        cases lo with
        | none=>
         cases L with
         | some L=>exact hl.elim
         | none=>
          simp only [gu,Option.some.injEq] at hl1
          subst hl1
          exact ⟨by simp [(hq1 _).1,(hq _).1],Nat.zero_le _,.inr (hq .index).2,(hq1 .index).2⟩
        | some lo=>
         cases L with
         | none=>exact hl.elim
         | some L=>
          have hq2:=fun c=>jW (P:=P) hl1 hl c W
          exact ⟨by simp [(hq1 _).1,(hq _).1,(hq2 _).1],(hq2 .index).2,.inr (hq .index).2,(hq1 .index).2⟩
theorem Cj {α:Type} (m l:Nat) (x y:α):(bif Nat.beq m l then x else y)=if m=l then x else y:=by
 by_cases h:m=l
 .subst h; simp
 .have:Nat.beq m l=false:=by rw [Bool.eq_false_iff]; intro e; exact h (Nat.eq_of_beq_eq_true e)
  rw [this,if_neg h]; rfl
theorem Ee {P:Program} {σ:Sg} {t:TypeId} {x v:AV} {X:Value} {lo hi mx:Option AV} {L H M:Option Value} (hx:VRel σ x X) (hl:qi σ lo L) (hh:qi σ hi H) (hm:qi σ mx M) (e:xy P t x lo hi mx=some v) (W:World):
  ∃ V,(Instr.sliceAt t X L H M).run P W=.ok V W/\VRel σ v V:=by
 unfold xy at e
 split at e
 .rename_i elem hu
  split at e
  .cases e
  .rename_i n hsz
   split at e
   .rename_i id off len cap
    obtain ⟨B,N,hσ,rfl⟩:=hx
    split at e
    .cases e
    .rename_i l h m hb
     cases e
     obtain ⟨h1,_⟩:=eP (P:=P) hl hh hm hb true W
     refine ⟨.slice (some (if m=l then ⟨B,off,none⟩ else ⟨B,off+l*n,none⟩)) (h - l) (m - l),by simp [Instr.sliceAt,Instr.slice,run_underlying hu,h1,au hsz,bS]; split <;> rfl,?_⟩
     simp only [aF,Cj]
     refine ⟨B,N,hσ,?_⟩
     split <;> rfl
   .rename_i id off len ee
    obtain ⟨B,N,qo,c,hσ,rfl,hq,hc⟩:=hx
    split at e
    .rename_i mxv
     split at e
     .cases e
     .rename_i l h m hb
      split at e
      .rename_i hne
       rw [Bool.and_eq_true] at hne
       obtain rfl:=Nat.eq_of_beq_eq_true hne.1
       have h0:0<len:=Nat.le_of_ble_eq_true hne.2
       cases e
       obtain ⟨rfl,_⟩:=hq (by omega)
       have hb':bQ len c lo hi (some mxv)=some (l,h,m):=by
        have:dB c mxv=dB len mxv\/dB len mxv=none:=by
         unfold dB
         split
         .rename_i k i
          by_cases h1:0<=i/\i<=len
          .left
           have h2:0<=i/\i<=c:=⟨h1.1,by omega⟩
           simp [h1,h2]
          .right
           simp only [h1,decide_false]
         .right; rfl
        simp only [bQ,jH] at hb ⊢
        rcases this with h1|h1
        .rw [h1]; exact hb
        .rw [h1] at hb; cases hb
       obtain ⟨h1,_⟩:=eP (P:=P) hl hh hm hb' true W
       refine ⟨.slice (some (if m=l then ⟨B,qo,none⟩ else ⟨B,qo+l*n,none⟩)) (h - l) (m - l),by simp [Instr.sliceAt,Instr.slice,run_underlying hu,h1,au hsz,bS]; split <;> rfl,?_⟩
       simp only [aF,Cj]
       refine ⟨B,N,hσ,?_⟩
       split <;> rfl
      .cases e
    .split at e
     .cases e
     .rename_i l h m hb
      split at e
      .rename_i hne
       obtain rfl:=Nat.eq_of_beq_eq_true hne
       cases e
       obtain ⟨_,hlh,hhm,hmc⟩:=eP (P:=P) hl hh hm hb true W
       cases M with
       | some M=>exact hm.elim
       | none=>
        have hb':bQ len c lo hi none=some (l,h,c):=by
         simp only [bQ,jH] at hb ⊢
         cases hi with
         | none=>
          simp only [gX] at hb ⊢
          cases hlo:gu len lo with
          | none=>rw [hlo] at hb; cases hb
          | some l'=>rw [hlo] at hb; simp at hb ⊢; exact ⟨hb.1,hb.2.1⟩
         | some hi=>
          simp only [gX] at hb ⊢
          have:dB c hi=dB len hi\/dB len hi=none:=by
           unfold dB
           split
           .rename_i k i
            by_cases h1:0<=i/\i<=len
            .left
             have h2:0<=i/\i<=c:=⟨h1.1,by omega⟩
             simp [h1,h2]
            .right
             simp only [h1,decide_false]
           .right; rfl
          rcases this with h1|h1
          .rw [h1]
           cases hq1:dB len hi with
           | none=>rw [hq1] at hb; cases hb
           | some h'=>
            rw [hq1] at hb
            simp only at hb ⊢
            cases hlo:gu h' lo with
            | none=>rw [hlo] at hb; cases hb
            | some l'=>rw [hlo] at hb; simp at hb ⊢; exact ⟨hb.1,hb.2.1⟩
          .rw [h1] at hb; cases hb
        obtain ⟨h1,_⟩:=eP (P:=P) hl hh hm hb' true W
        refine ⟨.slice (some (if c=l then ⟨B,qo,none⟩ else ⟨B,qo+l*n,none⟩)) (h - l) (c - l),by simp [Instr.sliceAt,Instr.slice,run_underlying hu,h1,au hsz,bS]; split <;> rfl,?_⟩
        simp only [aF]
        have hm':m=len:=by
         simp only [bQ,jH] at hb
         split at hb
         .cases hb
         .split at hb
          .cases hb
          .simp at hb; exact hb.2.2.symm
        by_cases hcl:c=l
        .rw [if_pos hcl]
         refine ⟨B,N,qo,c - l,hσ,rfl,fun h0=>by omega,by omega⟩
        .rw [if_neg hcl]
         refine ⟨B,N,qo+l*n,c - l,hσ,rfl,fun h0=>?_,by omega⟩
         obtain ⟨rfl,h4⟩:=hq (by omega)
         refine ⟨rfl,?_⟩
         have:(c - l)*n=c*n - l*n:=Nat.sub_mul c l n
         have:l*n<=c*n:=Nat.mul_le_mul_right n (by omega)
         omega
      .cases e
   .obtain rfl:=hx
    split at e
    .cases e
    .rename_i w hb
     obtain ⟨l,h,m⟩:=w
     cases e
     obtain ⟨h1,h2,h3,h4⟩:=eP (P:=P) hl hh hm hb true W
     obtain rfl:m=0:=by omega
     obtain rfl:h=0:=by omega
     obtain rfl:l=0:=by omega
     exact ⟨.slice none 0 0,by simp [Instr.sliceAt,Instr.slice,run_underlying hu,h1,au hsz],rfl⟩
   .cases e
 .rename_i len elem hu
  split at e
  .cases e
  .rename_i n hsz
   split at e
   .rename_i id off
    obtain ⟨B,N,hσ,rfl⟩:=hx
    split at e
    .cases e
    .rename_i l h m hb
     cases e
     obtain ⟨h1,_⟩:=eP (P:=P) hl hh hm hb false W
     refine ⟨.slice (some (if m=l then ⟨B,off,none⟩ else ⟨B,off+l*n,none⟩)) (h - l) (m - l),by simp [Instr.sliceAt,Instr.sureAddr,run_underlying hu,h1,au hsz,bS],?_⟩
     simp only [aF,Cj]
     refine ⟨B,N,hσ,?_⟩
     split <;> rfl
   .cases e
 .rename_i hu
  split at e
  .obtain rfl:=hx
   split at e
   .cases e
   .split at e
    .cases e
    .rename_i l h m hb
     cases e
     cases M with
     | some M=>exact hm.elim
     | none=>
      obtain ⟨h1,_⟩:=eP (P:=P) hl hh hm hb false W
      exact ⟨_,by simp [Instr.sliceAt,Instr.slice,run_underlying hu,h1],rfl⟩
  .cases e
 .cases e
def ib:Option AV->Option AV
 | some (.int _ k i)=>some (.int false k i)
 | x=>x
theorem mM {σ:Sg} {a:Option AV} {A:Option Value} (h:qi σ a A):qi σ (ib a) A:=by
 unfold ib
 split
 .cases A with
  | none=>exact h
  | some A=>exact h
 .exact h
theorem jK {y:Nat} {k:IntKind} {i:Int} (h0:0<=i) (h1:i<=y):dB y (.int false k i)=some i.toNat:=by
 simp only [dB,h0,h1,and_self,decide_true]
theorem Kl {P:Program} {σ:Sg} {t:TypeId} {x ix v:AV} {nd:Nd} {X I:Value} (hx:VRel σ x X) (hi:VRel σ ix I) (e:BL P t x ix=some (nd,v)) (hn:nd.val) (W:World):
  ∃ V,(Instr.index t X I).run P W=.ok V W/\VRel σ v V:=by
 unfold BL at e
 split at e
 .rename_i v' h
  cases e
  exact Ec hx hi h W
 .split at e
  .rename_i s k i _
   split at e
   .rename_i s' b _
    split at e
    .rename_i hu
     cases e
     obtain ⟨h0,h1⟩:=hn
     have hl:i.toNat<b.data.toList.length:=by
      have:b.data.toList.length=b.size:=rfl
      omega
     have e2:xu P t (.str false b) (.int false k i)=some (.int false .u8 (b.data.toList.getD i.toNat 0).toNat):=by
      have e3:b.data.toList[i.toNat]?=some (b.data.toList.getD i.toNat 0):=by
       rw [List.getD_eq_getElem?_getD,List.getElem?_eq_getElem hl]; rfl
      simp only [xu,hu,h0,if_true,e3]
     exact Ec (σ:=σ) (x:=.str false b) (ix:=.int false k i) hx hi e2 W
    .cases e
   .cases e
  .cases e
theorem Ef {P:Program} {σ:Sg} {t elem:TypeId} {lo hi:Option AV} {L H M:Option Value} {len c:Nat} (hu:P.underlying t=some (.slice elem)) (hsz:bY P elem=some 1)
  (hl:qi σ lo L) (hh:qi σ hi H) (hm:qi σ none M) {l h:Int} (e1:xz 0 lo=some l) (e2:xz len hi=some h) (h0:0<=l) (h1:l<=h) (h2:h<=len) (hc:len<=c) (p:Option Addr) (W:World):
  ∃ V,V=Value.slice (if c - l.toNat=0 then p else p.map (·.add (l.toNat*1))) (h.toNat - l.toNat) (c - l.toNat)/\(Instr.sliceAt t (.slice p len c) L H M).run P W=.ok V W:=by
 have q1:gX len c none (ib hi)=some h.toNat:=by
  unfold xz at e2
  split at e2
  .cases e2; rfl
  .cases e2
   simp only [ib,gX]
   exact jK (by omega) (by omega)
  .cases e2
 have q2:gu h.toNat (ib lo)=some l.toNat:=by
  unfold xz at e1
  split at e1
  .cases e1; rfl
  .cases e1
   simp only [ib,gu]
   exact jK h0 (by omega)
  .cases e1
 have hb:bQ len c (ib lo) (ib hi) none=some (l.toNat,h.toNat,c):=by
  simp only [bQ,jH,q1,q2]
 obtain ⟨h3,_⟩:=eP (P:=P) (mM hl) (mM hh) hm hb true W
 refine ⟨_,rfl,?_⟩
 simp [Instr.sliceAt,Instr.slice,run_underlying hu,h3,au hsz]
 split <;> split <;> first|rfl|omega
theorem Km {P:Program} {σ:Sg} {t:TypeId} {x v:AV} {nd:Nd} {X:Value} {lo hi mx:Option AV} {L H M:Option Value} (hx:VRel σ x X) (hl:qi σ lo L) (hh:qi σ hi H) (hm:qi σ mx M) (e:BM P t x lo hi mx=some (nd,v)) (hn:nd.val) (W:World):
  ∃ V,(Instr.sliceAt t X L H M).run P W=.ok V W/\VRel σ v V:=by
 unfold BM at e
 split at e
 .rename_i v' h
  cases e
  exact Ee hx hl hh hm h W
 .split at e
  .cases e
  .split at e
   .rename_i s b _
    split at e
    .rename_i hu
     split at e
     .cases e
     .rename_i l hlo
      split at e
      .cases e
      .rename_i h hhi
       cases e
       obtain ⟨h0,h1,h2⟩:=hn
       have e2:xy P t (.str false b) (ib lo) (ib hi) none=some (.str false (b.extract l.toNat h.toNat)):=by
        have q1:gX b.size b.size none (ib hi)=some h.toNat:=by
         unfold xz at hhi
         split at hhi
         .cases hhi; rfl
         .cases hhi
          simp only [ib,gX]
          exact jK (by omega) h2
         .cases hhi
        have q2:gu h.toNat (ib lo)=some l.toNat:=by
         unfold xz at hlo
         split at hlo
         .cases hlo; rfl
         .cases hlo
          simp only [ib,gu]
          exact jK h0 (by omega)
         .cases hlo
        simp only [xy,hu,bQ,jH,q1,q2]
       exact Ee (σ:=σ) (x:=.str false b) hx (mM hl) (mM hh) hm e2 W
    .cases e
   .rename_i id l s' n hq0
    clear hq0
    split at e
    .rename_i elem hu
     split at e
     .cases e
     .rename_i k hsz
      split at e
      .cases e
      .split at e
       .cases e
       .rename_i v0
        split at e
        .cases e
        .rename_i h hb
         cases e
         obtain ⟨p,len,c,rfl,⟨hn1,hcap⟩,hle,hp⟩:=hx
         have hh':h<=l/\dB c v0=some h:=by
          unfold dB at hb ⊢
          split at hb
          .rename_i k' i
           split at hb
           .rename_i hd
            cases hb
            have hd:=of_decide_eq_true hd
            have h2:0<=i/\i<=c:=⟨hd.1,by omega⟩
            refine ⟨by omega,?_⟩
            simp [h2]
           .cases hb
          .cases hb
         have hb':bQ len c none (some v0) none=some (0,h,c):=by
          simp only [bQ,jH,gX,hh'.2,gu]
         obtain ⟨h1,_⟩:=eP (P:=P) hl hh hm hb' true W
         refine ⟨.slice (if c=0 then p else p.map (·.add (0*k))) (h - 0) (c - 0),by simp [Instr.sliceAt,Instr.slice,run_underlying hu,h1,au hsz],?_⟩
         rw [aF]
         refine ⟨_,_,_,rfl,⟨rfl,by omega⟩,Nat.le_refl _,?_⟩
         by_cases hz:h=0
         .exact .inl hz
         .rcases hp with hp|⟨B,N,q1,rfl⟩
          .omega
          .refine .inr ⟨B,N,q1,?_⟩
           split
           .rfl
           .simp [bS]
    .cases e
   .rename_i id n hq0
    clear hq0
    split at e
    .rename_i elem hu
     split at e
     .cases e
     .rename_i k hsz
      split at e
      .rename_i s0 k0 l
       split at e
       .cases e
       .rename_i hk1
        have hk1:=Nat.eq_of_beq_eq_true hk1
        subst hk1
        split at e
        .cases e
        .rename_i h hhi
         cases e
         obtain ⟨p,len,c,rfl,⟨hn1,hcap⟩,hp⟩:=hx
         obtain ⟨h0,h1,h2⟩:=hn
         obtain ⟨V,hV,hrun⟩:=Ef (c:=c) (len:=len) hu hsz hl hh hm (l:=l) rfl (by rw [hn1]; exact hhi) h0 h1 (by omega) (by omega) p W
         refine ⟨_,hrun,_,_,_,hV,⟨by omega,by omega⟩,?_⟩
         by_cases hz:h.toNat - l.toNat=0
         .exact .inl hz
         .rcases hp with hp|⟨B,N,q1,rfl⟩
          .omega
          .refine .inr ⟨B,N,q1,N+l.toNat,?_,by simp only [cond_false]; omega,fun hw=>by cases hw⟩
           rw [if_neg (by omega)]
           simp [bS]
      .cases e
      .split at e
       .rename_i s0 k0 h
        cases e
        obtain ⟨p,len,c,rfl,⟨hn1,hcap⟩,hp⟩:=hx
        obtain ⟨h0,h1⟩:=hn
        have hb':bQ len c none (some (.int false k0 h)) none=some (0,h.toNat,c):=by
         have h2:0<=h/\h<=c:=⟨h0,by omega⟩
         simp only [bQ,jH,gX,dB,gu,h2,and_self,decide_true]
        have hh':qi σ (some (.int false k0 h)) H:=by
         cases H with
         | none=>exact hh.elim
         | some H=>exact hh
        obtain ⟨h3,_⟩:=eP (P:=P) hl hh' hm hb' true W
        refine ⟨.slice (if c=0 then p else p.map (·.add (0*k))) (h.toNat - 0) (c - 0),by simp [Instr.sliceAt,Instr.slice,run_underlying hu,h3,au hsz],?_⟩
        refine ⟨_,_,_,rfl,⟨by omega,by omega⟩,?_⟩
        by_cases hz:h.toNat=0
        .exact .inl (by omega)
        .rcases hp with hp|⟨B,N,q1,rfl⟩
         .omega
         .refine .inr ⟨B,N,q1,?_⟩
          split
          .rfl
          .simp [bS]
       .cases e
    .cases e
   .rename_i w id o n hq0
    clear hq0
    split at e
    .rename_i elem hu
     split at e
     .rename_i hsz
      split at e
      .cases e
      .rename_i l hlo
       split at e
       .cases e
       .rename_i h hhi
        cases e
        obtain ⟨p,len,c,rfl,⟨hn1,hcap⟩,hp⟩:=hx
        obtain ⟨h0,h1,h2⟩:=hn
        obtain ⟨V,hV,hrun⟩:=Ef (c:=c) (len:=len) hu hsz hl hh hm hlo (by rw [hn1]; exact hhi) h0 h1 (by omega) (by omega) p W
        refine ⟨_,hrun,_,_,_,hV,⟨by omega,by omega⟩,?_⟩
        by_cases hz:h.toNat - l.toNat=0
        .exact .inl hz
        .rcases hp with hp|⟨B,N,q1,q,rfl,hq,hqN⟩
         .omega
         .refine .inr ⟨B,N,q1,q+l.toNat,?_,by omega,fun hw=>by have:=hqN hw; omega⟩
          rw [if_neg (by omega)]
          simp [bS]
     .cases e
    .cases e
   .cases e
theorem HRel.world {σ:Sg} {h:Hp} {W V:World} (r:HRel σ h W) (e:V.heap=W.heap):HRel σ h V:=
 ⟨r.ok,fun i b hg hd=>let ⟨B,N,o,h1,h2,h3⟩:=r.blk i b hg hd; ⟨B,N,o,h1,by rw [e]; exact h2,h3⟩,fun i B N h=>by rw [e]; exact r.dom i B N h,r.inj⟩
theorem Good.drew {σ:Sg} {h:Hp} {W:World} (r:HRel σ h W):Good σ h W σ h W.drew:=
 ⟨Sub.refl _,fun _ _ e _=>e,⟨rfl,rfl,rfl,Nat.le_refl _,fun _=>rfl⟩,Mon.refl _,fun i B N e hi _=>absurd (r.dom i B N e).1 (Nat.not_lt.2 hi),fun _ _ _ _=>rfl⟩
theorem HRel.kill {σ:Sg} {h:Hp} {W:World} (r:HRel σ h W) {i:Nat} {b:ABlk} (hg:h.get i=some b) (hnl:∀ c,b.body≠.loop c):HRel σ (h.put i .dead) W/\Good σ h W σ (h.put i .dead) W:=by
 have hi:=Hp.get_lt hg
 refine ⟨⟨Hp.ok_put r.ok i _,?_,fun j B M e=>r.dom j B M e,?_⟩,⟨Sub.refl _,fun _ _ e _=>e,Ext.refl _,Mon.put r.ok hg _ (jm hnl),fun j B M e hj _=>absurd (r.dom j B M e).1 (Nat.not_lt.2 hj),fun _ _ _ _=>rfl⟩⟩
 .intro j c e hd
  rw [Hp.get_put r.ok i j hi] at e
  by_cases hj:j=i
  .simp only [hj,if_true,Option.some.injEq] at e
   subst e; cases hd
  .simp only [hj,if_false] at e
   exact r.blk j c e hd
 .intro j k c e B' M K q1 q2 q3 q4 q5 q6
  rw [Hp.get_put r.ok i j hi] at q1
  rw [Hp.get_put r.ok i k hi] at q2
  by_cases hj:j=i
  .simp only [hj,if_true,Option.some.injEq] at q1
   subst q1; cases q3
  .by_cases hk:k=i
   .simp only [hk,if_true,Option.some.injEq] at q2
    subst q2; cases q4
   .simp only [hj,hk,if_false] at q1 q2
    exact r.inj j k c e B' M K q1 q2 q3 q4 q5 q6
theorem HRel.move {σ:Sg} {h:Hp} {W V:World} (r:HRel σ h W) {i B N:Nat} {b:ABlk} (hg:h.get i=some b) (hl:b.body.isDead=false) (hnl:∀ c,b.body≠.loop c) (hσ:σ i=some (B,N)) (d:ABody) (o:Obj)
  (ho:V.heap[B]?=some o) (hb:BRel (σ.add h.size (B,N)) N d o) (hsz:V.heap.size=W.heap.size) (hold:∀ k,k≠B->V.heap[k]?=W.heap[k]?) (h1:V.os=W.os) (h2:V.tape=W.tape) (h3:V.output=W.output) (hc:vO o:=by intro _ _ _ h; first|(cases h; rfl)|cases h) (hnv:b.body.isView=false:=by rfl):
  HRel (σ.add h.size (B,N)) ((h.put i .dead).push d) V/\Good σ h W (σ.add h.size (B,N)) ((h.put i .dead).push d) V:=by
 have hi:=Hp.get_lt hg
 have hfz:∀ a,V.frozen? a=W.frozen? a:=fun a=>by
  by_cases h:a.block=B
  .obtain ⟨B',N',o',q1,q2,q3⟩:=r.blk i b hg hl
   rw [hσ] at q1; cases q1
   rw [jl (by rw [h]; exact ho) hc,jl (by rw [h]; exact q2) (D7 q3 hl hnv)]
  .unfold World.frozen?
   rw [hold _ h]
 have hs:=Sub.add (x:=(B,N)) r.fresh
 have hB:=(r.dom _ _ _ hσ).2
 have hget:∀ j,((h.put i .dead).push d).get j=if j=h.size then some ⟨h.clock,d⟩ else if j=i then some ⟨h.clock,.dead⟩ else h.get j:=by
  intro j
  rw [Hp.get_push,Hp.get_put r.ok i j hi]; rfl
 refine ⟨⟨Hp.ok_push (Hp.ok_put r.ok i _) d,?_,?_,?_⟩,⟨hs,?_,⟨h1,h2,h3,by omega,hfz⟩,⟨Nat.le_refl _,by simp [Hp.push,Hp.put],?_,?_⟩,?_,?_⟩⟩
 .intro j c e hd
  rw [hget] at e
  by_cases hj:j=h.size
  .simp only [hj,if_true,Option.some.injEq] at e
   subst e
   exact ⟨B,N,o,by simp [Sg.add,hj],ho,hb⟩
  .by_cases hji:j=i
   .simp only [hji,if_true] at e
    rw [if_neg (by omega)] at e
    cases e; cases hd
   .simp only [hj,hji,if_false] at e
    obtain ⟨B',M,p,q1,q2,q3⟩:=r.blk j c e hd
    refine ⟨B',M,p,hs _ _ q1,?_,BRel.mono hs q3⟩
    rw [hold]; exact q2
    intro eB; subst eB
    exact hji ((r.inj j i c b B' M N e hg hd hl q1 hσ).resolve_right fun h=>by rw [hnv] at h; cases h.2)
 .intro j B' M e
  unfold Sg.add at e
  by_cases hj:j=h.size
  .simp only [hj,if_true,Option.some.injEq,Prod.mk.injEq] at e
   obtain ⟨rfl,rfl⟩:=e
   exact ⟨by simp [Hp.push,Hp.put,hj],by omega⟩
  .simp only [hj,if_false] at e
   have:=r.dom _ _ _ e
   exact ⟨by simp [Hp.push,Hp.put]; omega,by omega⟩
 .intro j k c e B' M K q1 q2 q3 q4 q5 q6
  rw [hget] at q1 q2
  unfold Sg.add at q5 q6
  by_cases hj:j=h.size <;> by_cases hk:k=h.size
  .omega
  .simp only [hj,if_true,Option.some.injEq,Prod.mk.injEq] at q5
   simp only [hk,if_false] at q2 q6
   obtain ⟨rfl,rfl⟩:=q5
   by_cases hki:k=i
   .simp only [hki,if_true,Option.some.injEq] at q2
    subst q2; cases q4
   .simp only [hki,if_false] at q2
    exact absurd ((r.inj k i e b B K N q2 hg q4 hl q6 hσ).resolve_right fun h=>by rw [hnv] at h; cases h.2) hki
  .simp only [hk,if_true,Option.some.injEq,Prod.mk.injEq] at q6
   simp only [hj,if_false] at q1 q5
   obtain ⟨rfl,rfl⟩:=q6
   by_cases hji:j=i
   .simp only [hji,if_true,Option.some.injEq] at q1
    subst q1; cases q3
   .simp only [hji,if_false] at q1
    exact absurd ((r.inj j i c b B M N q1 hg q3 hl q5 hσ).resolve_right fun h=>by rw [hnv] at h; cases h.2) hji
  .simp only [hj,hk,if_false] at q1 q2 q5 q6
   by_cases hji:j=i
   .simp only [hji,if_true,Option.some.injEq] at q1
    subst q1; cases q3
   .by_cases hki:k=i
    .simp only [hki,if_true,Option.some.injEq] at q2
     subst q2; cases q4
    .simp only [hji,hki,if_false] at q1 q2
     exact r.inj j k c e B' M K q1 q2 q3 q4 q5 q6
 .intro j x e hj
  unfold Sg.add at e
  rw [if_neg (by omega)] at e
  exact e
 .intro j c e q1 q2
  rw [hget] at q2
  have:=Hp.get_lt q1
  rw [if_neg (by omega)] at q2
  by_cases hj:j=i
  .simp only [hj,if_true,Option.some.injEq] at q2
   subst q2; exact .inr (Nat.le_refl _)
  .simp only [hj,if_false,q1,Option.some.injEq] at q2
   subst q2; exact .inl rfl
 .intro j w c e
  have:=Hp.get_lt e
  rw [hget,if_neg (by omega)]
  by_cases hj:j=i
  .subst hj; rw [hg] at e; cases e
   exact absurd rfl (hnl c)
  .rw [if_neg hj]; exact ⟨w,c.state,c.pending,e⟩
 .intro j B' M e hj hB'
  unfold Sg.add at e
  by_cases h1:j=h.size
  .simp only [h1,if_true,Option.some.injEq,Prod.mk.injEq] at e
   obtain ⟨rfl,rfl⟩:=e
   exact .inr ⟨i,N,⟨h.clock,.dead⟩,hi,hσ,by rw [hget,if_neg (by omega),if_pos rfl],Nat.le_refl _⟩
  .simp only [h1,if_false] at e
   have:=(r.dom _ _ _ e).1; omega
 .intro B' hB' _ hw
  apply hold
  intro e; subst e
  have:=hw i N ⟨h.clock,.dead⟩ hσ (by rw [hget,if_neg (by omega),if_pos rfl])
  exact absurd this (Nat.lt_irrefl _)
theorem dV {P:Program} {W:World} {B:Nat} {K:Array Value} {e:TypeId} {fz:Nat×Nat} (hB:W.heap[B]?=some (.cells K e fz)) {σ:Sg} {l m:List AV} {A Z:List Value} (hK:K.toList=A++Z) (hl:VRels σ l A) {n off:Nat}
  (h:bP n (aP off l)=some m):∃ M,(loadCells ⟨B,off,none⟩ n).run P W=.ok M.toArray W/\VRels σ m M/\M.length=n/\(n≠0->off+n<=K.size)/\∀ j v,M[j]?=some v->W.cell? ((⟨B,off,none⟩:Addr).add j)=some v:=by
 obtain ⟨h2,h3⟩:=VRels.take n (VRels.drop off hl) h
 have hlen:((A.drop off).take n).length=n:=by rw [VRels.length h2,h3]
 have hget:∀ j v,((A.drop off).take n)[j]?=some v->W.cell? ((⟨B,off,none⟩:Addr).add j)=some v:=by
  intro j u hu
  rw [bS,cell_of_row W B _ K e fz hB,<- Array.getElem?_toList,hK]
  rw [List.getElem?_take] at hu
  split at hu
  .rw [List.getElem?_drop] at hu
   rw [List.getElem?_append_left (by rcases Nat.lt_or_ge (off+j) A.length with h|h; exact h; simp [List.getElem?_eq_none h] at hu)]
   exact hu
  .cases hu
 have:=run_loadCells_list (P:=P) W ⟨B,off,none⟩ ((A.drop off).take n) hget
 rw [hlen] at this
 refine ⟨_,this,h2,hlen,fun hn=>?_,hget⟩
 have h5:=congrArg List.length hK
 simp at h5 hlen
 omega
theorem mO {P:Program} {σ:Sg} {h:Hp} {W:World} (r:HRel σ h W) {size n:Nat} {x:AV} {X:Value} {m:List AV} (hx:VRel σ x X) (e:ji h size x=some (n,m)):
  ∃ M,(∀ V:World,V.heap=W.heap->(Builtin.lenOf X).run P V=.ok n V/\(Builtin.firstCells size n X).run P V=.ok M.toArray V)/\VRels σ m M/\M.length=n*size:=by
 unfold ji at e
 split at e
 .cases e
  obtain rfl:=hx
  exact ⟨[],fun V _=>⟨by simp [Builtin.lenOf],by simp [Builtin.firstCells]⟩,rfl,by simp⟩
 .cases e
  obtain ⟨a,c,rfl,_⟩:=hx
  refine ⟨[],fun V _=>⟨by simp [Builtin.lenOf],?_⟩,rfl,by simp⟩
  cases a with
  | none=>simp [Builtin.firstCells]
  | some a=>
   have:=run_loadCells_list (P:=P) V a [] (fun j v h=>by simp at h)
   simpa [Builtin.firstCells] using this
 .rename_i i off len cap
  obtain ⟨B,N,hσ,rfl⟩:=hx
  split at e
  .rename_i w l hg
   obtain ⟨B',N',o,h1,h2,K,el,rfl,h3,h4⟩:=r.blk i _ hg rfl
   rw [hσ] at h1; cases h1
   cases ht:bP (len*size) (aP off l) with
   | none=>rw [ht] at e; cases e
   | some q=>
    rw [ht] at e; cases e
    obtain ⟨M,q1,q2,q3,q4,q5⟩:=dV (P:=P) h2 (A:=K.toList) (Z:=[]) (by simp) h3 ht
    refine ⟨M,fun V hV=>⟨by simp [Builtin.lenOf],?_⟩,q2,q3⟩
    obtain ⟨M',p1,p2,p3,p4,p5⟩:=dV (P:=P) (W:=V) (by rw [hV]; exact h2) (A:=K.toList) (Z:=[]) (by simp) h3 ht
    have:M'=M:=by
     apply List.ext_getElem?
     intro j
     rcases Nat.lt_or_ge j (n*size) with hj|hj
     .have a1:=p5 j M'[j] (by rw [List.getElem?_eq_getElem])
      have a2:=q5 j M[j] (by rw [List.getElem?_eq_getElem])
      have a3:V.cell? ((⟨B,off,none⟩:Addr).add j)=W.cell? ((⟨B,off,none⟩:Addr).add j):=by simp [World.cell?,hV]
      rw [a3,a2] at a1
      rw [List.getElem?_eq_getElem (by omega),List.getElem?_eq_getElem (by omega)]
      exact a1.symm
     .rw [List.getElem?_eq_none (by omega),List.getElem?_eq_none (by omega)]
    subst this
    simp [Builtin.firstCells,p1]
  .rename_i w l hg
   obtain ⟨B',N',o,h1,h2,K,el,A,Z,rfl,hA,h3,h4⟩:=r.blk i _ hg rfl
   rw [hσ] at h1; cases h1
   cases ht:bP (len*size) (aP off l) with
   | none=>rw [ht] at e; cases e
   | some q=>
    rw [ht] at e; cases e
    obtain ⟨M,q1,q2,q3,q4,q5⟩:=dV (P:=P) h2 hA h3 ht
    refine ⟨M,fun V hV=>⟨by simp [Builtin.lenOf],?_⟩,q2,q3⟩
    have:=run_loadCells_list (P:=P) V ⟨B,off,none⟩ M (fun j v hv=>by
     have a3:V.cell? ((⟨B,off,none⟩:Addr).add j)=W.cell? ((⟨B,off,none⟩:Addr).add j):=by simp [World.cell?,hV]
     rw [a3]; exact q5 j v hv)
    rw [q3] at this
    simp [Builtin.firstCells,this]
  .cases e
 .rename_i i off len ee
  obtain ⟨B,N,qo,c,hσ,rfl,hq,hc⟩:=hx
  split at e
  .rename_i w l hg
   obtain ⟨B',N',o,h1,h2,K,el,A,Z,rfl,hA,h3,h4⟩:=r.blk i _ hg rfl
   rw [hσ] at h1; cases h1
   cases ht:bP (len*size) (aP off l) with
   | none=>rw [ht] at e; cases e
   | some q=>
    rw [ht] at e; cases e
    by_cases hz:n=0
    .subst hz
     simp [bP] at ht
     subst ht
     exact ⟨[],fun V _=>⟨by simp [Builtin.lenOf],by simp [Builtin.firstCells,loadCells,loadCellsFrom]⟩,rfl,by simp⟩
    .obtain ⟨rfl,_⟩:=hq hz
     obtain ⟨M,q1,q2,q3,q4,q5⟩:=dV (P:=P) h2 hA h3 ht
     refine ⟨M,fun V hV=>⟨by simp [Builtin.lenOf],?_⟩,q2,q3⟩
     have:=run_loadCells_list (P:=P) V ⟨B,qo,none⟩ M (fun j v hv=>by
      have a3:V.cell? ((⟨B,qo,none⟩:Addr).add j)=W.cell? ((⟨B,qo,none⟩:Addr).add j):=by simp [World.cell?,hV]
      rw [a3]; exact q5 j v hv)
     rw [q3] at this
     simp [Builtin.firstCells,this]
  .cases e
 .rename_i i l n'
  obtain ⟨p,len,c,rfl,⟨hn',hcap⟩,hle,hp⟩:=hx
  split at e
  .cases e
  .cases e
   obtain rfl:len=0:=by simpa using hn'
   refine ⟨[],fun V _=>⟨by simp [Builtin.lenOf],?_⟩,rfl,by simp⟩
   cases p <;> simp [Builtin.firstCells,loadCells,loadCellsFrom]
  .rename_i m'
   obtain rfl:len=m'+1:=by have:(len:Int)=(m'+1:Nat):=hn'; omega
   split at e
   .rename_i w cs hg
    split at e
    .rename_i hb
     have hb:=Nat.le_of_ble_eq_true hb
     rcases hp with hp|⟨B,N,hσ,rfl⟩
     .omega
     obtain ⟨B',N',o,h1,h2,K,el,fr,rfl,h3⟩:=r.blk i _ hg rfl
     rw [hσ] at h1; cases h1
     cases ht:bP ((m'+1)*size) cs with
     | none=>rw [ht] at e; cases e
     | some q=>
      rw [ht] at e; cases e
      obtain ⟨k1,k2⟩:=VRels.take _ h3 ht
      have k3:(List.take ((m'+1)*size) ((K.toList.drop N).take cs.length)).length=(m'+1)*size:=by rw [VRels.length k1,k2]
      refine ⟨_,fun V hV=>⟨by simp [Builtin.lenOf],?_⟩,k1,k3⟩
      have:=run_loadCells_list (P:=P) V ⟨B,N,none⟩ (List.take ((m'+1)*size) ((K.toList.drop N).take cs.length)) (fun j v hv=>by
       have hj:j<(m'+1)*size:=by
        rcases Nat.lt_or_ge j ((m'+1)*size) with h|h
        .exact h
        .rw [List.getElem?_eq_none (by rw [k3]; exact h)] at hv; cases hv
       have hj2:j<cs.length:=by
        have:=VRels.length h3
        rw [List.length_take] at k3
        omega
       rw [List.getElem?_take,if_pos hj,List.getElem?_take,if_pos hj2,List.getElem?_drop,Array.getElem?_toList] at hv
       unfold World.cell? Addr.add
       by_cases h0:j=0
       .subst h0; simp [hV,h2]; simpa using hv
       .simp [h0,hV,h2]; simpa using hv)
      rw [k3] at this
      simp [Builtin.firstCells,this]
    .cases e
   .cases e
 .cases e
theorem dL {P:Program} {W:World} {t u ty e eu:TypeId} {i:TypeInfo} {z:Value} (ht:P.underlying t=some (.slice e)) (hu:P.underlying u=some (.slice eu)) (hi:P.info? e=some i) (hz:i.zero=some z)
  {base:Option Addr} {len cap n:Nat} {X:Value} {O M:List Value}
  (hO:∀ V:World,V.heap=W.heap->(Builtin.firstCells i.size len (.slice base len cap)).run P V=.ok O.toArray V)
  (hX:∀ V:World,V.heap=W.heap->(Builtin.lenOf X).run P V=.ok n V/\(Builtin.firstCells i.size n X).run P V=.ok M.toArray V)
  (hg:cap<len+n) (hmax:len+n<=1048576) (hby:i.bytes<=65536):
  (Builtin.append_ #[t,u] ty #[.slice base len cap,X]).run P W =
   .ok (.slice (some ⟨W.heap.size,0,none⟩) (len+n) (grownCap W (len+n) cap e))
    (W.drew.alloc (.cells (O.toArray++M.toArray++Builtin.zeroCells z.cells (grownCap W (len+n) cap e - (len+n))) e)):=by
 have hn:¬ (len+n<=cap):=by omega
 have h63':¬ (9223372036854775807<((len:Int)+(n:Int))):=by omega
 have hfit:=growslice_fits hg (show (len+n)*i.bytes<=140737488355328 from Nat.le_trans (Nat.mul_le_mul hmax hby) (by decide))
 have h48':¬ (281474976710656<Builtin.nextslicecap (len+n) cap*i.bytes):=by omega
 have hf:=(hX W.drew rfl).2
 have hfo:=hO W.drew rfl
 have hl:=(hX W rfl).1
 simp [Builtin.append_,run_underlying ht,run_underlying hu,sizeOf,typeInfo,zeroValue,hi,hz,hl,hn,h63',h48',Question.forced,hf,hfo,newRow,grownCap]
 congr 2
 apply Array.toList_inj.1
 simp
theorem kY {P:Program} {W:World} {t u ty e eu:TypeId} {i:TypeInfo} (ht:P.underlying t=some (.slice e)) (hu:P.underlying u=some (.slice eu)) (hi:P.info? e=some i)
  {B off len cap n:Nat} {X:Value} {M:List Value} {K:Array Value} {el:TypeId} (hB:W.heap[B]?=some (.cells K el (0,0)))
  (hX:∀ V:World,V.heap=W.heap->(Builtin.lenOf X).run P V=.ok n V/\(Builtin.firstCells i.size n X).run P V=.ok M.toArray V)
  (h1:∀ v∈M,v.oneCell'=true) (hg:len+n<=cap) (hfit:off+len*i.size+M.length<=K.size):
  (Builtin.append_ #[t,u] ty #[.slice (some ⟨B,off,none⟩) len cap,X]).run P W =
   .ok (.slice (some ⟨B,off,none⟩) (len+n) cap) (W.setRow B (K.toList.take (off+len*i.size)++M++K.toList.drop (off+len*i.size+M.length)).toArray):=by
 have hf:=(hX W rfl).2
 have hl:=(hX W rfl).1
 have hst:=run_storeCells_at P B (off+len*i.size) el M 0 K W hB (by simpa using hfit) h1
 simp only [Nat.add_zero] at hst
 simp [Builtin.append_,run_underlying ht,run_underlying hu,sizeOf,typeInfo,hi,hl,hg,hf,bS,hst]
theorem uM {P:Program} {σ:Sg} {h:Hp} {W:World} (r:HRel σ h W) {l:List AV} {A Z:List Value} {K:Array Value} (e:TypeId) (hK:K.toList=A++Z) (hl:VRels σ l A) {n c esz:Nat} (hc:n<=c) (hcap:c*esz<=K.size) (m:Sem Value)
  (hm:m.run P W=.ok (.slice (some ⟨W.heap.size,0,none⟩) n c) (W.drew.alloc (.cells K e))):OpOk P (do pure (.value (<- m))) σ h W ⟨.tt,.gslice h.size 0 n esz,h.push (.grown l)⟩:=fun _=>by
 have r':=r.world (V:=W.drew) rfl
 obtain ⟨h1,h2⟩:=r'.alloc (.grown l) (.cells K e) K.size ⟨K,e,A,Z,rfl,hK,VRels.mono (Sub.add r.fresh) _ _ hl,rfl⟩
 refine ⟨_,.slice (some ⟨W.heap.size,0,none⟩) n c,_,_,by simp [hm],.inl rfl,⟨W.heap.size,K.size,0,c,aM,rfl,fun _=>⟨rfl,by omega⟩,hc⟩,h1,?_⟩
 exact (Good.drew r).trans r.ok h1.ok h2
theorem eU {W:World} {len n cap:Nat} {e:TypeId} {z:Value} {size:Nat} (hz:z.cells.size=size) {O M:List Value} (hO:O.length=len*size) (hM:M.length=n*size):
  (grownCap W (len+n) cap e)*size<=(O.toArray++M.toArray++Builtin.zeroCells z.cells (grownCap W (len+n) cap e - (len+n))).size:=by
 have hge:=grownCap_ge W (len+n) cap e
 simp only [Array.size_append,List.size_toArray,hO,hM,size_zeroCells,hz]
 rw [<- Nat.add_mul,<- Nat.add_mul]
 apply Nat.mul_le_mul_right
 omega
theorem GU {P:Program} {σ:Sg} {h:Hp} {W:World} (r:HRel σ h W) {t u ty:TypeId} {a b:AV} {A B:Value} (ha:VRel σ a A) (hb:VRel σ b B) {q:S1} (e:uG P h t u a b=some q):
  OpOk P (do pure (.value (<- Builtin.append_ #[t,u] ty #[A,B]))) σ h W q:=by
 unfold uG at e
 split at e
 .rename_i eu hu
  split at e
  .cases e
  .rename_i v h' he
   cases e
   unfold IX at he
   split at he
   .rename_i el ht
    split at he
    .cases he
    .rename_i i hi
     split at he
     .cases he
     .rename_i z hz
      obtain ⟨i',zv,hi',hz',hzr,_⟩:=bv (σ:=σ) hz
      rw [hi] at hi'; cases hi'
      split at he
      .cases he
      .rename_i hc
       simp only [Bool.and_eq_true,Nat.ble_eq,Nat.beq_eq] at hc
       have hzs:zv.cells.size=i.size:=by have:=VRels.length hzr; simp at this; omega
       split at he
       .cases he
       .rename_i n new hnew
        obtain ⟨M,hX,hM,hMl⟩:=mO (P:=P) r hb hnew
        split at he
        .cases he
        .rename_i hall
         have h1:=jo hM hall
         split at he
         .-- a nil slice
          obtain rfl:=ha
          unfold LW at he
          split at he
          .cases he
           have hM0:M=[]:=List.length_eq_zero_iff.1 (by rw [hMl]; simp)
           subst hM0
           refine OpOk.pure r fun _=>⟨.slice none 0 0,?_,rfl⟩
           have hl:=(hX W rfl).1
           have hf:=(hX W rfl).2
           simp [Builtin.append_,run_underlying ht,run_underlying hu,sizeOf,typeInfo,hi,hl,hf]
          .rename_i m
           split at he
           .rename_i hmax
            cases he
            have hmax:=Nat.le_of_ble_eq_true hmax
            have hrun:=dL (P:=P) (W:=W) (ty:=ty) ht hu hi hz' (base:=none) (len:=0) (cap:=0) (O:=[]) (fun V _=>by simp [Builtin.firstCells]) hX (by omega) (by unfold pz at hmax; omega) hc.2
            have:=uM r el (l:=new) (A:=M) (Z:=(Builtin.zeroCells zv.cells (grownCap W (0+(m+1)) 0 el - (0+(m+1)))).toList) (K:=([]:List Value).toArray++M.toArray++Builtin.zeroCells zv.cells (grownCap W (0+(m+1)) 0 el - (0+(m+1)))) (by simp) hM (n:=0+(m+1)) (c:=grownCap W (0+(m+1)) 0 el) (esz:=i.size) (grownCap_ge _ _ _ _) (eU hzs (by simp) hMl) _ hrun
            rw [Nat.zero_add] at this
            exact this
           .cases he
         .rename_i id off len cap
          obtain ⟨Bl,N,hσ,rfl⟩:=ha
          split at he
          .-- room
           rename_i hroom
           have hroom:=Nat.le_of_ble_eq_true hroom
           unfold IV at he
           split at he
           .rename_i w l hg
            split at he
            .cases he
            .rename_i l' hp
             rw [Hp.set_eq] at he
             cases he
             obtain ⟨B',N',o,q1,q2,K,ek,rfl,q3,q4⟩:=r.blk id _ hg rfl
             rw [hσ] at q1; cases q1
             obtain ⟨q5,q6⟩:=bZ l _ _ l' q3 hM hp
             have hrun:=kY (P:=P) (ty:=ty) ht hu hi q2 hX h1 hroom (by simpa using q6)
             obtain ⟨q7,q8⟩:=r.row hg rfl (fun _ h=>by cases h) hσ (K':=(K.toList.take (off+len*i.size)++M++K.toList.drop (off+len*i.size+M.length)).toArray) q2 (.cells l') ⟨_,ek,rfl,by simpa using q5,by
              subst q4; simp at q6 ⊢; omega⟩
             exact fun _=>⟨σ,_,_,_,by simp [hrun]; rfl,.inl rfl,by simp only [aF]; exact ⟨Bl,N,hσ,rfl⟩,q7,q8⟩
           .cases he
          .-- no room
           rename_i hroom
           have hroom:cap<len+n:=by
            rcases Nat.lt_or_ge cap (len+n) with h|h
            .exact h
            .rw [Nat.ble_eq_true_of_le h] at hroom; cases hroom
           unfold IW at he
           split at he
           .cases he
           .rename_i n' old hold
            split at he
            .rename_i hmax
             have hmax:=Nat.le_of_ble_eq_true hmax
             rw [Cg] at he
             cases he
             obtain ⟨O,hOr,hO,hOl⟩:=mO (P:=P) r (x:=.slice id off len cap) (X:=.slice (some ⟨Bl,off,none⟩) len cap) ⟨Bl,N,hσ,rfl⟩ hold
             have hn':n'=len:=by
              have:=(hOr W rfl).1
              simp [Builtin.lenOf] at this; omega
             subst hn'
             have hrun:=dL (P:=P) (W:=W) (ty:=ty) ht hu hi hz' (base:=some ⟨Bl,off,none⟩) (O:=O) (fun V hV=>(hOr V hV).2) hX hroom (by unfold pz at hmax; omega) hc.2
             have:=uM r el (l:=old++new) (A:=O++M) (Z:=(Builtin.zeroCells zv.cells (grownCap W (n'+n) cap el - (n'+n))).toList) (K:=O.toArray++M.toArray++Builtin.zeroCells zv.cells (grownCap W (n'+n) cap el - (n'+n))) (by simp) (VRels.append hO hM) (n:=n'+n) (c:=grownCap W (n'+n) cap el) (esz:=i.size) (grownCap_ge _ _ _ _) (eU hzs hOl hMl) _ hrun
             simpa using this
            .cases he
         .rename_i id off len esz
          unfold Vz at he
          split at he
          .cases he
           have hM0:M=[]:=List.length_eq_zero_iff.1 (by rw [hMl]; simp)
           subst hM0
           obtain ⟨Bl,N,qo,c,hσ,rfl,hq,hcl⟩:=ha
           refine OpOk.pure r fun _=>⟨.slice (some ⟨Bl,qo,none⟩) len c,?_,Bl,N,qo,c,hσ,rfl,hq,hcl⟩
           have hl:=(hX W rfl).1
           have hf:=(hX W rfl).2
           have hst:∀ a:Addr,(storeCells a []).run P W=.ok () W:=fun _=>rfl
           simp [Builtin.append_,run_underlying ht,run_underlying hu,sizeOf,typeInfo,hi,hl,hf,hcl,hst]
          .rename_i m
           split at he
           .rename_i w l hg
            split at he
            .rename_i hk
             simp only [Bool.and_eq_true,Nat.beq_eq,Nat.blt_eq,Nat.ble_eq] at hk
             obtain ⟨⟨⟨⟨rfl,rfl⟩,hlen⟩,hll⟩,hmax⟩:=hk
             rw [Hp.set_eq,Cg] at he
             cases he
             have hA:VRel σ (.gslice id 0 len i.size) A:=ha
             obtain ⟨Bl,N,qo,c,hσ,rfl,hq,hcl⟩:=ha
             obtain ⟨rfl,hcN⟩:=hq (by omega)
             obtain ⟨B',N',o,q1,q2,K,ek,X,Z,rfl,hXZ,q3,q4⟩:=r.blk id _ hg rfl
             rw [hσ] at q1; cases q1
             have hXl:X.length=len*i.size:=by rw [VRels.length q3,hll]
             by_cases hroom:len+(m+1)<=c
             .have hmul:(len+(m+1))*i.size<=c*i.size:=Nat.mul_le_mul_right _ hroom
              rw [Nat.add_mul] at hmul
              have hMK:len*i.size+M.length<=K.size:=by
               rw [hMl,<- q4]
               exact Nat.le_trans hmul (by simpa using hcN)
              have hrun:=kY (P:=P) (ty:=ty) ht hu hi q2 (off:=0) hX h1 hroom (by omega)
              obtain ⟨q7,q8⟩:=r.move (V:=W.setRow Bl (K.toList.take (0+len*i.size)++M++K.toList.drop (0+len*i.size+M.length)).toArray) hg rfl (fun _ h=>by cases h) hσ (.grown (l++new)) _ (setRow_heap W Bl K _ ek (0,0) q2)
               ⟨_,ek,X++M,Z.drop M.length,rfl,by
                simp only [Nat.zero_add,hXZ]
                rw [<- hXl,List.take_left,<- List.drop_drop,List.drop_left],VRels.append (VRels.mono (Sub.add r.fresh) _ _ q3) (VRels.mono (Sub.add r.fresh) _ _ hM),by
                subst q4; simp; omega⟩
               (setRow_size W Bl _) (fun k hk=>setRow_other W Bl k _ hk) rfl rfl rfl
              refine fun _=>⟨_,_,_,_,by simp [hrun]; rfl,.inl rfl,?_,q7,q8⟩
              simp only [aF]
              exact ⟨Bl,N,0,c,aM,rfl,fun _=>⟨rfl,hcN⟩,hroom⟩
             .obtain ⟨k1,k2⟩:=r.kill hg (fun _ h=>by cases h)
              have hold:ji h i.size (.gslice id 0 len i.size)=some (len,l):=by
               simp only [ji,hg,aP]
               have:bP (len*i.size) l=some l:=by
                rw [<- hll]
                clear hll q3 hg hXl
                induction l with
                | nil=>rfl
                | cons a l ih=>simp [bP,ih]
               rw [this]; rfl
              obtain ⟨O,hOr,hO,hOl⟩:=mO (P:=P) r hA hold
              have hrun:=dL (P:=P) (W:=W) (ty:=ty) ht hu hi hz' (base:=some ⟨Bl,0,none⟩) (cap:=c) (O:=O) (fun V hV=>(hOr V hV).2) hX (by omega) (by unfold pz at hmax; omega) hc.2
              have:=uM k1 el (l:=l++new) (A:=O++M) (Z:=(Builtin.zeroCells zv.cells (grownCap W (len+(m+1)) c el - (len+(m+1)))).toList) (K:=O.toArray++M.toArray++Builtin.zeroCells zv.cells (grownCap W (len+(m+1)) c el - (len+(m+1)))) (by simp) (VRels.append hO hM) (n:=len+(m+1)) (c:=grownCap W (len+(m+1)) c el) (esz:=i.size) (grownCap_ge _ _ _ _) (eU hzs hOl hMl) _ hrun
              intro _
              obtain ⟨τ,V,X',rr,p1,p2,p3,p4,p5⟩:=this trivial
              exact ⟨τ,V,X',rr,p1,p2,by simpa using p3,p4,k2.trans k1.ok p4.ok p5⟩
            .cases he
           .cases he
         .cases he
   .cases he
 .cases e
end Go.Eng
