/- What is proved: MtfMoves returns true, whatever the input (part 29). No conditions beyond those of the row. -/
import Derived.Test.YtbiiiloimbjpaaaDoorPF
import Derived.Test.YtbiiiloimbjpaaaDoorPH
import Derived.Test.YtbiiiloimbjpaaaDoorPL
import Derived.Test.YtbiiiloimbjpaaaDoorPa
import Derived.Test.YtbiiiloimbjpaaaDoorPb
set_option linter.unusedVariables false
set_option linter.unusedSimpArgs false
set_option linter.unusedSectionVars false
namespace Go.Eng
open Go
theorem D6 {v:Value} (h:1<v.cells.toList.length):v=.agg v.cells.toList.toArray:=by
 cases v <;> simp_all [Value.cells]
end Go.Eng
namespace Go.Eng
open Go
noncomputable section
theorem Mm {σ:Sg} {h:Hp} {W:World} (r:HRel σ h W) {k:IntKind} {B N:Nat} {fs:List Int} (hne:fs≠[]) (hc:∀ i,i<fs.length->W.cell? ⟨B,N+i,none⟩=some (.int k (fs.getD i 0)))
  (apart:∀ i b M,h.get i=some b->b.body.isDead=false->σ i=some (B,M)->b.body.isView=true):
  HRel (σ.add h.size (B,N)) (h.push0 (.view (fs.map fun n=>.int true k n))) W:=by
 have hpos:0<fs.length:=List.length_pos_iff.2 hne
 have row:∃ K e fr,W.heap[B]?=some (.cells K e fr)/\∀ i,i<fs.length->K[N+i]?=some (.int k (fs.getD i 0)):=by
  have h0:=hc 0 hpos
  unfold World.cell? at h0
  split at h0
  .rename_i K e fr hh
   refine ⟨K,e,fr,hh,fun i hi=>?_⟩
   have:=hc i hi
   unfold World.cell? at this
   rw [hh] at this
   simpa using this
  .cases h0
 obtain ⟨K,e,fr,hB,hK⟩:=row
 have hs:=Sub.add (x:=(B,N)) r.fresh
 have main:BRel (σ.add h.size (B,N)) N (.view (fs.map fun n=>.int true k n)) (.cells K e fr):=by
  refine ⟨K,e,fr,rfl,?_⟩
  have:(K.toList.drop N).take (fs.map fun n=>AV.int true k n).length=fs.map (Value.int k):=by
   apply List.ext_getElem?
   intro i
   rw [List.getElem?_take,List.length_map]
   by_cases hi:i<fs.length
   .rw [if_pos hi,List.getElem?_drop,Array.getElem?_toList,hK i hi]
    simp [List.getD_eq_getElem?_getD,hi]
   .rw [if_neg hi,List.getElem?_eq_none (by simpa using hi)]
  rw [this]
  have rels:∀ l:List Int,VRels (σ.add h.size (B,N)) (l.map fun n=>.int true k n) (l.map (Value.int k)):=by
   intro l
   induction l with
   | nil=>exact rfl
   | cons a l ih=>exact ⟨_,_,rfl,rfl,ih⟩
  exact rels fs
 refine ⟨by have:=r.ok; simp only [Hp.ok,Hp.push0,List.length_cons] at this ⊢; omega,fun i b hg hd=>?_,fun i B' M hσ=>?_,fun i j b c B' M M' hg hg' hd hd' e1 e2=>?_⟩
 .rw [Hp.get_push0] at hg
  split at hg
  .rename_i hi; subst hi; cases hg
   exact ⟨B,N,_,aM,hB,main⟩
  .obtain ⟨B',M,o,h1,h2,h3⟩:=r.blk i b hg hd
   exact ⟨B',M,o,hs _ _ h1,h2,h3.mono hs⟩
 .unfold Sg.add at hσ
  split at hσ
  .rename_i hi; subst hi; cases hσ
   exact ⟨Nat.lt_succ_self _,(Array.getElem?_eq_some_iff.1 hB).1⟩
  .have:=r.dom i B' M hσ
   exact ⟨Nat.lt_succ_of_lt this.1,this.2⟩
 .rw [Hp.get_push0] at hg hg'
  unfold Sg.add at e1 e2
  by_cases hi:i=h.size <;> by_cases hj:j=h.size
  .exact .inl (hi.trans hj.symm)
  .right
   rw [if_pos hi] at e1 hg
   rw [if_neg hj] at e2 hg'
   cases e1; cases hg
   exact ⟨rfl,apart j c M' hg' hd' e2⟩
  .right
   rw [if_neg hi] at e1 hg
   rw [if_pos hj] at e2 hg'
   cases e2; cases hg'
   exact ⟨apart i b M hg hd e1,rfl⟩
  .rw [if_neg hi] at e1 hg
   rw [if_neg hj] at e2 hg'
   exact r.inj i j b c B' M M' hg hg' hd hd' e1 e2
def noM (k:IntKind) (m:Nat):ABody->Bool
 | .cells l=>Nat.blt l.length m||noK k (.cells l)
 | .rows _ _=>true
 | b=>noK k b
theorem RQ {σ:Sg} {h:Hp} {W:World} (r:HRel σ h W) {k:IntKind} {m:Nat} (hb:(h.blks.all fun b=>noM k m b.body)=true) {B N:Nat} {fs:List Int} (hm:0<m) (hf:m<=fs.length) (hc:∀ i,i<fs.length->W.cell? ⟨B,N+i,none⟩=some (.int k (fs.getD i 0))):
  ∀ i b M,h.get i=some b->b.body.isDead=false->σ i=some (B,M)->b.body.isView=true:=by
 have hpos:0<fs.length:=by omega
 have row:∃ K e fr,W.heap[B]?=some (.cells K e fr)/\∀ i,i<fs.length->K[N+i]?=some (.int k (fs.getD i 0)):=by
  have h0:=hc 0 hpos
  unfold World.cell? at h0
  split at h0
  .rename_i K e fr hh
   refine ⟨K,e,fr,hh,fun i hi=>?_⟩
   have:=hc i hi
   unfold World.cell? at this
   rw [hh] at this
   simpa using this
  .cases h0
 obtain ⟨K,e,fr,hB,hK⟩:=row
 intro i b M hg hd hσ
 obtain ⟨B',M',o,h1,h2,h3⟩:=r.blk i b hg hd
 rw [hσ] at h1; cases h1
 rw [hB] at h2; cases h2
 have hbb:=List.all_eq_true.1 hb b (by
  have hlt:=Hp.get_lt hg
  rw [Hp.get_eq,if_pos hlt] at hg
  exact List.mem_of_getElem? hg)
 cases hbody:b.body with
 | cells l=>
  rw [hbody] at h3 hbb
  obtain ⟨K',e',h4,h5,h6⟩:=h3
  cases h4
  have hlen:l.length=K.size:=by have:=VRels.length h5; simpa using this.symm
  simp only [noM,Bool.or_eq_true] at hbb
  rcases hbb with hbb|hbb
  .exfalso
   have hlt:l.length<m:=Nat.le_of_ble_eq_true hbb
   have h0:=hK (m - 1) (by omega)
   have hN:N+(m - 1)<K.size:=(Array.getElem?_eq_some_iff.1 h0).1
   omega
  .have h0:=hK 0 hpos
   have hN:N+0<K.size:=(Array.getElem?_eq_some_iff.1 h0).1
   obtain ⟨a,ha⟩:∃ a,l[N+0]?=some a:=⟨_,List.getElem?_eq_getElem (by omega)⟩
   obtain ⟨v,hv,hav⟩:=VRels.nth h5 (by rw [bX]; exact ha)
   rw [Array.getElem?_toList,h0] at hv
   cases hv
   have:=List.all_eq_true.1 hbb a (List.mem_of_getElem? ha)
   split at this
   .rename_i s' k' n'
    have h8:Value.int k (fs.getD 0 0)=Value.int k' n':=hav
    cases h8
    simp at this
   .obtain ⟨_,_,_,h8⟩:=hav; cases h8
   .cases this
 | view l=>rfl
 | hold l=>rfl
 | rows ik xs=>rfl
 | map es=>
  rw [hbody] at h3
  obtain ⟨_,_,_,h4,_⟩:=h3
  cases h4
 | _=>rw [hbody] at hbb; cases hbb
structure Lst (W:World) (ik:IntKind) (m:Nat) (v:Value) (n:Int) (zs:List Int):Prop where
 val:∃ p len c,v=.slice p len c/\len<=c/\n=len/\zs.length=m*len/\(zs≠[]->∃ B N,p=some ⟨B,N,none⟩/\∀ i,i<zs.length->W.cell? ⟨B,N+i,none⟩=some (.int ik (zs.getD i 0)))
theorem VU {σ:Sg} {h:Hp} {W:World} (r:HRel σ h W) {ik:IntKind} {m:Nat} (hm:0<m) (hb:(h.blks.all fun b=>noM ik m b.body)=true) {v:Value} {n:Int} {zs:List Int} (b:Lst W ik m v n zs):
  ∃ τ,Sub σ τ/\HRel τ (h.push0 (.rows ik zs)) W/\VRel τ (.lslice h.size n) v:=by
 obtain ⟨p,len,c,rfl,hcap,hn,hl,hp⟩:=b
 cases zs with
 | nil=>
  have h0:len=0:=by
   rcases Nat.eq_zero_or_pos len with h|h
   .exact h
   .have:=Nat.mul_pos hm h
    simp only [List.length_nil] at hl
    omega
  subst h0
  exact ⟨σ,Sub.refl _,Bj r rfl,p,0,c,rfl,⟨hn.symm,hcap⟩,.inl rfl⟩
 | cons f fs=>
  obtain ⟨B,N,rfl,hc⟩:=hp (by simp)
  have h1:0<len:=by
   rcases Nat.eq_zero_or_pos len with h|h
   .rw [h,Nat.mul_zero] at hl; cases hl
   .exact h
  have hf:m<=(f :: fs).length:=by rw [hl]; exact Nat.le_mul_of_pos_right m h1
  exact ⟨_,Sub.add r.fresh,NN (Mm r (B:=B) (N:=N) (k:=ik) (fs:=f :: fs) (by simp) hc (RQ r hb hm hf hc)) rfl rfl rfl (fun N o h=>Li h),some ⟨B,N,none⟩,len,c,rfl,⟨hn.symm,hcap⟩,.inr ⟨B,N,aM,rfl⟩⟩
theorem I6 {W:World} {a:Addr} {v:Value} (h:W.cell? a=some v):a.spot=none:=by
 obtain ⟨B,N,s⟩:=a
 unfold World.cell? at h
 split at h
 .cases s with
  | none=>rfl
  | some s=>simp at h
 .cases h
theorem Mo {H:Type} {enc:TypeId×Value->H} {P:Program} {W:World} {base:Nat} {spare:Nat->Bool} {held:Bool} {t:Nat} {ts:List TypeId} {v:Value} {vs:List Value} {ds:List (DataW H)} {p:List MemPlace} (hA:DataW.TrodAll enc P W base spare held (t :: ts) (v :: vs) ds p):∃ ds p,DataW.TrodAll enc P W base spare held ts vs ds p:=by
 cases ds with
 | nil=>simp [DataW.TrodAll] at hA
 | cons d ds=>
  obtain ⟨_,_,_,h,_⟩:=hA
  exact ⟨_,_,h⟩
theorem trod_drop {H:Type} {enc:TypeId×Value->H} {P:Program} {W:World} {base:Nat} {spare:Nat->Bool} {held:Bool}:∀ {us:List Value} {ps ts:List TypeId} {vs:List Value} {ds:List (DataW H)} {p:List MemPlace},us.length=ps.length->DataW.TrodAll enc P W base spare held (ps++ts) (us++vs) ds p->∃ ds p,DataW.TrodAll enc P W base spare held ts vs ds p
 | [],[],_,_,_,_,_,h=>⟨_,_,h⟩
 | _ :: us,_ :: ps,_,_,_,_,hl,h=>by
  obtain ⟨ds',p',h'⟩:=Mo h
  exact trod_drop (us:=us) (ps:=ps) (by simpa using hl) h'
 | [],_ :: _,_,_,_,_,hl,_=>by cases hl
 | _ :: _,[],_,_,_,_,hl,_=>by cases hl
end
end Go.Eng
namespace Go.Eng
noncomputable section
end
end Go.Eng
namespace Go.Eng
open Go
noncomputable section
def abo (hG h:Hp) (ik:IntKind) (m:Nat):AV->Option (Nat×Nat×List Int)
 | .gslice id off n e=>match Nat.ble hG.size id&&(Nat.beq off 0&&(Nat.beq e m&&Nat.blt 0 n)) with
  | true=>match h.get id with
   | some ⟨_,.grown l⟩=>match bR (n*m) l with
    | some cs=>match oN ik cs with
     | some ys=>some (id,n,ys)
     | none=>none
    | none=>none
   | _=>none
  | false=>none
 | .slice id off n cap=>match Nat.ble hG.size id&&(Nat.beq off 0&&(Nat.ble n cap&&Nat.blt 0 n)) with
  | true=>match h.get id with
   | some ⟨_,.cells l⟩=>match Nat.ble (cap*m) l.length with
    | true=>match bR (n*m) l with
     | some cs=>match oN ik cs with
      | some ys=>some (id,n,ys)
      | none=>none
     | none=>none
    | false=>none
   | _=>none
  | false=>none
 | _=>none
def bO (ik:IntKind) (ys:List Int):List AV:=ys.map fun n=>.int true ik n
theorem vU (τ:Sg) (ik:IntKind):∀ ys:List Int,VRels τ (bO ik ys) (ys.map (Value.int ik))
 | []=>rfl
 | _ :: l=>⟨_,_,rfl,rfl,vU τ ik l⟩
theorem RS {hG h:Hp} {ik:IntKind} {m:Nat} {x:AV} {id n:Nat} {ys:List Int} (e:abo hG h ik m x=some (id,n,ys)) {σ:Sg} {W:World} (r:HRel σ h W) {V:Value} (hV:VRel σ x V):
  hG.size<=id/\∃ B N o w b,h.get id=some ⟨w,b⟩/\b.isView=false/\b.isDead=false/\σ id=some (B,N)/\W.heap[B]?=some o/\(∀ τ,BRel τ N (.grown (bO ik ys)) o)/\∀ τ j,τ j=some (B,N)->VRel τ (.gslice j 0 n m) V:=by
 unfold abo at e
 split at e
 .rename_i id' off n' e'
  split at e
  .rename_i hb
   simp only [Bool.and_eq_true] at hb
   obtain ⟨h1,h2,h3,h4⟩:=hb
   obtain rfl:=Nat.eq_of_beq_eq_true h2
   obtain rfl:=Nat.eq_of_beq_eq_true h3
   have h4:0<n':=Nat.le_of_ble_eq_true h4
   split at e
   .rename_i w l hg
    split at e
    .rename_i cs ht
     split at e
     .rename_i ys' hi
      cases e
      obtain ⟨B,N,q,c,hσ,rfl,hq,hc⟩:=hV
      obtain ⟨B',N',o,k1,k2,K,el,A,Z,rfl,hA,h5,h6⟩:=r.blk id _ hg rfl
      rw [hσ] at k1; cases k1
      obtain ⟨t1,t2⟩:=VRels.take _ h5 ht
      have t3:=uj t1 hi
      obtain ⟨rfl,hN⟩:=hq (by omega)
      refine ⟨Nat.le_of_ble_eq_true h1,B,N,_,w,_,hg,rfl,rfl,hσ,k2,fun τ=>⟨K,el,A.take (n*e'),A.drop (n*e')++Z,rfl,by rw [<- List.append_assoc,List.take_append_drop]; exact hA,by rw [t3]; exact vU τ ik ys,h6⟩,fun τ j hj=>⟨B,N,0,c,hj,rfl,fun _=>⟨rfl,hN⟩,hc⟩⟩
     .cases e
    .cases e
   .cases e
  .cases e
 .rename_i id' off n' cap
  split at e
  .rename_i hb
   simp only [Bool.and_eq_true] at hb
   obtain ⟨h1,h2,h3,h4⟩:=hb
   obtain rfl:=Nat.eq_of_beq_eq_true h2
   have h3:=Nat.le_of_ble_eq_true h3
   have h4:0<n':=Nat.le_of_ble_eq_true h4
   split at e
   .rename_i w l hg
    split at e
    .rename_i hcap
     have hcap:=Nat.le_of_ble_eq_true hcap
     split at e
     .rename_i cs ht
      split at e
      .rename_i ys' hi
       cases e
       obtain ⟨B,N,hσ,rfl⟩:=hV
       obtain ⟨B',N',o,k1,k2,K,el,rfl,h5,h6⟩:=r.blk id _ hg rfl
       rw [hσ] at k1; cases k1
       obtain ⟨t1,t2⟩:=VRels.take _ h5 ht
       have t3:=uj t1 hi
       have hl:=VRels.length h5
       refine ⟨Nat.le_of_ble_eq_true h1,B,N,_,w,_,hg,rfl,rfl,hσ,k2,fun τ=>⟨K,el,K.toList.take (n*m),K.toList.drop (n*m),rfl,(List.take_append_drop _ _).symm,by rw [t3]; exact vU τ ik ys,h6⟩,fun τ j hj=>⟨B,N,0,cap,hj,rfl,fun _=>⟨rfl,?_⟩,h3⟩⟩
       rw [h6,Nat.zero_add,<- Array.length_toList,hl]
       exact hcap
      .cases e
     .cases e
    .cases e
   .cases e
  .cases e
 .cases e
def GN (hG:Hp) (ik:IntKind) (m:Nat) (shs:List Sh) (V:Nat->List Int->List Nu->Option (Prop×AV)):fO:=fun args h=>match args with
 | x :: rest=>match abo hG h ik m x with
  | some (_,n,ys)=>match Sh.readL shs rest with
   | some (_,xs)=>match V n ys xs with
    | some (p,v)=>some (.p p,v,[])
    | none=>none
   | none=>none
  | none=>none
 | []=>none
theorem zW {P:Program} {glob:Nat->Option Nat} {hG:Hp} (ok:hG.ok) (pl:fe hG.size hG.blks=true) (hgl:∀ g i,glob g=some i->i<hG.size) {f:FuncId} {ik:IntKind} {m:Nat} {shs:List Sh} {V:Nat->List Int->List Nu->Option (Prop×AV)}
  (h:∀ n ys xs p v,V n ys xs=some (p,v)->p->AV.underL hG.size (Sh.mkL shs xs).1=true/\∃ (C:Ctx) (k:Nat) (ar:List AV) (nd0:Nd) (v0:AV),CtxOk C/\C.P=P/\C.glob=glob/\uk (Sh.mkL shs xs).1 ar /\
   dK (hG.push0 (.grown (bO ik ys))).size hG.clock ((run C k).call f (.gslice hG.size 0 n m :: ar) (hG.push0 (.grown (bO ik ys))))=some (nd0,v0)/\nd0.val/\v0.num=true/\tell v0 v)
  (fn:∃ fn:Func,P.funcs[f]?=some fn/\fn.body.isSome=true):NOk P glob hG f (GN hG ik m shs V):=by
 refine ⟨fun args nd v bs h' e same=>?_,fn⟩
 unfold GN at e
 split at e
 .rename_i x rest
  split at e
  .rename_i id n ys ho
   split at e
   .rename_i s xs hr
    split at e
    .rename_i p v' hV
     cases e
     refine zh fun σ A W g r hA hn=>?_
     obtain ⟨b1,C,k,ar,nd0,v0,co,rfl,rfl,hta,hrun,hn0,hnum,ht⟩:=h _ _ _ _ _ hV hn
     obtain ⟨hp,r1,r2,r3⟩:=vo hrun
     have gs:=gz same
     obtain ⟨X,L,hL,hX,hrest⟩:=hA
     obtain ⟨c1,B,N,o,w,b,d1,d2,d3,d4,d5,d6,d7⟩:=RS ho r hX
     have r0:=vR (B:=B) (N:=N) (oP ok pl same r) d5 (d6 _) (fun i c' M hg hd e1=>by
      have hi:=Hp.get_lt hg
      obtain ⟨b',c'',hb',hc',hbc⟩:=gs i hi
      rw [hg] at hc'; cases hc'
      rcases r.inj i id b' _ B M N hb' d1 (by rw [hbc]; exact hd) d3 (Sg.low_sub σ _ _ _ e1) d4 with h8|⟨_,h8⟩
      .omega
      .exact absurd (h8.symm.trans d2) (by decide))
     have k5:=(Sh.readL_mk shs rest s xs [] hr).2 σ L hrest
     rw [List.append_nil] at k5
     refine ⟨C,k,_,.gslice hG.size 0 n m :: ar,_,nd0,v0,hp,co,rfl,rfl,r0,fun gl i hgi=>?_,⟨X,L,hL,d7 _ _ aM,iY _ _ _ hta (VRels.mono (Sub.add (oP ok pl same r).fresh) _ _ (VRels.low _ _ k5 b1))⟩,r1,r3,hn0,r2,Bf fun τ σ V hV=>zk _ _ _ ht (xn _ _ hnum hV)⟩
     obtain ⟨N',hN⟩:=g gl i hgi
     exact ⟨N',Sub.add (oP ok pl same r).fresh _ _ (by simp [Sg.low,hgl gl i hgi,hN])⟩
    .cases e
   .cases e
  .cases e
 .cases e
theorem GQ {τ:Sg} {h:Hp} {W:World} {b b':ABody} (h1:b'.isDead=false->b.isDead=false) (h2:∀ N o,b'.isDead=false->BRel τ N b o->BRel τ N b' o) (h3:b.isView=true->b'.isDead=false->b'.isView=true) (r:HRel τ (h.push0 b) W):HRel τ (h.push0 b') W:=by
 have old:∀ i c,i≠h.size->(h.push0 b').get i=some c->(h.push0 b).get i=some c:=fun i c hi e=>by
  rw [Hp.get_push0,if_neg hi] at e ⊢; exact e
 have here:∀ c,(h.push0 b').get h.size=some c->c.body=b':=fun c e=>by
  rw [Hp.get_push0,if_pos rfl] at e; cases e; rfl
 have hereb:∃ c,(h.push0 b).get h.size=some c/\c.body=b:=⟨_,by rw [Hp.get_push0,if_pos rfl],rfl⟩
 obtain ⟨d,hd0,hdb⟩:=hereb
 refine ⟨by have:=r.ok; simp only [Hp.ok,Hp.push0,List.length_cons] at this ⊢; omega,fun i c hg hd=>?_,fun i B N e=>r.dom i B N e,fun i j c d' B N M hg hg' hd hd' e1 e2=>?_⟩
 .by_cases hi:i=h.size
  .subst hi
   have hc:=here c hg
   rw [hc] at hd ⊢
   obtain ⟨B,N,o,q1,q2,q3⟩:=r.blk _ d hd0 (by rw [hdb]; exact h1 hd)
   rw [hdb] at q3
   exact ⟨B,N,o,q1,q2,h2 N o hd q3⟩
  .exact r.blk i c (old i c hi hg) hd
 .by_cases hi:i=h.size <;> by_cases hj:j=h.size
  .exact .inl (hi.trans hj.symm)
  .subst hi
   have hc:=here c hg
   rw [hc] at hd ⊢
   rcases r.inj _ j d d' B N M hd0 (old j d' hj hg') (by rw [hdb]; exact h1 hd) hd' e1 e2 with h8|⟨h8,h9⟩
   .exact .inl h8
   .rw [hdb] at h8; exact .inr ⟨h3 h8 hd,h9⟩
  .subst hj
   have hc:=here d' hg'
   rw [hc] at hd' ⊢
   rcases r.inj i _ c d B N M (old i c hi hg) hd0 hd (by rw [hdb]; exact h1 hd') e1 e2 with h8|⟨h8,h9⟩
   .exact .inl h8
   .rw [hdb] at h9; exact .inr ⟨h8,h3 h9 hd'⟩
  .exact r.inj i j c d' B N M (old i c hi hg) (old j d' hj hg') hd hd' e1 e2
theorem GR {P:Program} {W:World} {base:Nat} {σ:Sg} {t:TypeId} {sh:List Sh} (h2:shapeT P t=some (.a (.c (.any true) :: sh))) {v:Value} (hok:Value.okWide P W .any base t v) {cs:List Value} {last:Value} (hv:v=.agg (last :: cs).toArray):
  ∃ xs,xs.map Nu.isN=Sh.kindsL sh/\ay (Sh.leavesL sh) xs/\∀ (τ:Sg) (a:AV),Sub σ τ->VRel τ a last->VRel τ (.agg (a :: (Sh.mkL sh xs).1)) v:=by
 obtain ⟨xs,a1,a2,a3⟩:=JN (σ:=σ) h2 hok
 obtain ⟨_,a4⟩:=a3 []
 rw [List.append_nil] at a4
 have a1':xs.map Nu.isN=Sh.kindsL sh:=by
  have:xs.map Nu.isN=Sh.kindsL (.c (.any true) :: sh):=a1
  simpa [Sh.kindsL,Sh.kinds] using this
 have a2':ay (Sh.leavesL sh) xs:=by
  have:ay (Sh.leavesL (.c (.any true) :: sh)) xs:=a2
  simp only [Sh.leavesL,Sh.leaves,List.cons_append,List.nil_append] at this
  cases xs <;> simpa [ay] using this
 refine ⟨xs,a1',a2',fun τ a sub hfv=>?_⟩
 subst hv
 obtain ⟨K,hK,h5⟩:=a4
 have h6:=VRels.mono sub _ _ h5
 injection hK with hK
 subst hK
 rw [List.toList_toArray] at h6
 obtain ⟨V,L,hL,_,h7⟩:=h6
 cases hL
 exact ⟨_,rfl,last,cs,by rw [List.toList_toArray],hfv,h7⟩
theorem law_walkG {P:Program} {glob:Nat->Option Nat} {hG:Hp} {ik:IntKind} {m:Nat} (hm:0<m) (hb:(hG.blks.all fun b=>noM ik m b.body)=true) (old:allOld hG.clock hG.blks=true) (h1:0<hG.clock) {f:FuncId} {ps qs:List TypeId} {t:TypeId} {sh pshs qshs:List Sh}
  (hs1:shapesT P ps=some pshs) (hs:shapeT P t=some (.a (.c (.any true) :: sh))) (hs2:shapesT P qs=some qshs)
  (hT:∀ xs ws ys,xs.map Nu.isN=Sh.kindsL pshs->ay (Sh.leavesL pshs) xs->ws.map Nu.isN=Sh.kindsL sh->ay (Sh.leavesL sh) ws->ys.map Nu.isN=Sh.kindsL qshs->ay (Sh.leavesL qshs) ys->∀ (k:Nat) (zs:List Int),zs.length=m*k->(∀ z∈zs,ik.min<=z/\z<=ik.max) ->
   ∃ (l:Nat) (s:Bool),l<=k/\FI P glob (hG.push0 (wK ik (zs.take (m*l)))) f ((Sh.mkL pshs xs).1++.agg (.pslice hG.size l s k :: (Sh.mkL sh ws).1) :: (Sh.mkL qshs ys).1))
  {W:World} {base:Nat} {σ:Sg} {A:Array Value} (g:∀ gl i,glob gl=some i->∃ N,σ i=some (gl,N)) (r:HRel σ hG W) {us vs:List Value} {v:Value} (hA:A.toList=us++v :: vs) (hu:us.length=ps.length) (hl:vs.length=qs.length)
  {cs:List Value} {last:Value} (hv:v=.agg (last :: cs).toArray) (hlast:∃ k zs,Lst W ik m last k zs/\∀ z∈zs,ik.min<=z/\z<=ik.max)
  (hok:∀ (j:Nat) t' v,(ps++t :: qs)[j]?=some t'->A.toList[j]?=some v->Value.okWide P W .any base t' v):
  Calls P f A W fun e w'=>e=.returned (.bool true)/\RowKit.Grown W w'/\∀ B,B<W.heap.size->w'.heap[B]?=W.heap[B]?:=by
 obtain ⟨k,zs,bq,hz⟩:=hlast
 obtain ⟨xs,b1,b2,b3⟩:=zf (P:=P) (W:=W) (base:=base) (σ:=σ) (ts:=ps) (vs:=us) hs1 hu fun j t' v' k1 k2=>by
  have h1:=(List.getElem?_eq_some_iff.1 k1).1
  have h2:=(List.getElem?_eq_some_iff.1 k2).1
  exact hok j t' v' (by rw [List.getElem?_append_left h1]; exact k1) (by rw [hA,List.getElem?_append_left h2]; exact k2)
 obtain ⟨_,b4⟩:=b3 []
 rw [List.append_nil] at b4
 obtain ⟨ws,a1,a2,a3⟩:=GR (σ:=σ) hs (hok ps.length t v (by rw [List.getElem?_append_right (Nat.le_refl _),Nat.sub_self]; rfl) (by rw [hA,<- hu,List.getElem?_append_right (Nat.le_refl _),Nat.sub_self]; rfl)) hv
 obtain ⟨ys,c1,c2,c3⟩:=zf (P:=P) (W:=W) (base:=base) (σ:=σ) (ts:=qs) (vs:=vs) hs2 hl fun j t' v' k1 k2=>
  hok (ps.length+1+j) t' v' (by rw [List.getElem?_append_right (by omega),show ps.length+1+j - ps.length=j+1 by omega]; exact k1) (by rw [hA,<- hu,List.getElem?_append_right (by omega),show us.length+1+j - us.length=j+1 by omega]; exact k2)
 obtain ⟨_,c4⟩:=c3 []
 rw [List.append_nil] at c4
 obtain ⟨τ,sub,hr,hfv⟩:=VU r hm hb bq
 obtain ⟨p,len,c,rfl,hcap,hn,h8,hp⟩:=bq
 subst hn
 obtain ⟨l,s,hle,C,fuel,nd,s',p',co,rfl,rfl,e1,e2,e3⟩:=hT xs ws ys b1 b2 a1 a2 c1 c2 len zs h8 hz
 have hfv':VRel τ (.pslice hG.size l s len) (.slice p len c):=by
  obtain ⟨p',len',c',hv',q1,q2⟩:=hfv
  cases hv'
  refine ⟨p,len,c,rfl,⟨rfl,hcap⟩,hle,?_⟩
  by_cases h0:l=0
  .exact .inl h0
  .rcases q2 with h9|h9
   .omega
   .exact .inr h9
 have h9:=a3 τ _ sub hfv'
 have hr':HRel τ (hG.push0 (wK ik (zs.take (m*l)))) W:=by
  refine GQ (fun hd=>?_) (fun N o hd hb=>?_) (fun _ hd=>?_) hr
  .cases zs with
   | nil=>rw [List.take_nil] at hd; cases hd
   | cons y ys=>rfl
  .cases hz:zs.take (m*l) with
   | nil=>rw [hz] at hd; cases hd
   | cons y ys=>
    have:=Bi (Lj (m*l) hb)
    rw [hz] at this
    exact this
  .cases hz:zs.take (m*l) with
   | nil=>rw [hz] at hd; cases hd
   | cons y ys=>rfl
 have old':allOld (hG.push0 (wK ik (zs.take (m*l)))).clock (hG.push0 (wK ik (zs.take (m*l)))).blks=true:=by
  show (Nat.blt 0 hG.clock&&allOld hG.clock hG.blks)=true
  have:Nat.blt 0 hG.clock=true:=Nat.ble_eq_true_of_le h1
  rw [old,this]; rfl
 exact Lh co old' e1 e2 e3 (fun gl i hi=>by obtain ⟨N,hN⟩:=g gl i hi; exact ⟨N,sub _ _ hN⟩) hr' (by rw [hA]; exact VRels.append (VRels.mono sub _ _ b4) ⟨v,vs,rfl,h9,VRels.mono sub _ _ c4⟩)
end
end Go.Eng
namespace Go.Proofs.YtbiiiloimbjpaaaDoor.K
open Go Go.Eng Go.Dg Go.Ar Go.Vc
noncomputable section
def gdV (s:Sp):AV:=.tuple [.agg [.int true .i64 s.lo,.int true .i64 s.hi],.int false .i64 0]
theorem D7 {σ:Sg} {s:Bool} {x:Sp} {W:Value} (h:VRel σ ((qA x).av s) W) (he:x.e=0):VRel σ (gdV x) W:=by
 obtain ⟨K,rfl,h1⟩:=h
 obtain ⟨V1,L1,e1,h2,h3⟩:=h1
 obtain ⟨V2,L2,e2,h4,h5⟩:=h3
 obtain ⟨K1,rfl,h6⟩:=h2
 obtain ⟨V3,L3,e3,h7,h8⟩:=h6
 obtain ⟨V4,L4,e4,h9,h10⟩:=h8
 have h4:=(Go.Eng.mkInt_rel _ _ _ _).1 h4
 have h7:=(Go.Eng.mkInt_rel _ _ _ _).1 h7
 have h9:=(Go.Eng.mkInt_rel _ _ _ _).1 h9
 rw [he] at h4
 exact ⟨K,rfl,_,L1,e1,⟨K1,rfl,V3,L3,e3,h7,V4,L4,e4,h9,h10⟩,V2,L2,e2,h4,h5⟩
def k4 (ss:List Sh) (F G:Int->Int->Int->Int->Sp):bC:=fun args=>match Sh.readL ss args with
 | some (s,[.n a,.n b,.n c,.n d])=>match s with
  | true=>some (.p ((F a b c d).e=0),gdV (F a b c d))
  | false=>some (.tt,(qA (G a b c d)).av false)
 | _=>none
def k2 (F G:Int->Int->Sp):bC:=fun args=>match Sh.readL [shS] args with
 | some (s,[.n a,.n b])=>match s with
  | true=>some (.p ((F a b).e=0),gdV (F a b))
  | false=>some (.tt,(qA (G a b)).av false)
 | _=>none
theorem abp {f:FuncId} {F:Int->Int->Int->Int->Sp} (g:PureOk Tryd.prog f (OC F)):GOk Tryd.prog glob hG f (k4 [shS,shS] F F):=by
 refine (g.g glob hG).weaken fun args nd v e=>?_
 unfold k4 at e
 split at e
 .rename_i s a b c d hr
  cases s <;> cases e
  .exact ⟨.tt,(qA (F a b c d)).av false,by unfold OC bG; rw [hr],fun hn=>⟨trivial,fun σ W hW=>hW⟩⟩
  .exact ⟨.tt,(qA (F a b c d)).av true,by unfold OC bG; rw [hr],fun hn=>⟨trivial,fun σ W hW=>D7 hW hn⟩⟩
 .cases e
theorem adt {f:FuncId} {F:Int->Int->Int->Int->Sp} (g:PureOk Tryd.prog f (sSc F)):GOk Tryd.prog glob hG f (k4 [shS,.i .i64,.i .i64] F F):=by
 refine (g.g glob hG).weaken fun args nd v e=>?_
 unfold k4 at e
 split at e
 .rename_i s a b c d hr
  cases s <;> cases e
  .exact ⟨.tt,(qA (F a b c d)).av false,by unfold sSc bG; rw [hr],fun hn=>⟨trivial,fun σ W hW=>hW⟩⟩
  .exact ⟨.tt,(qA (F a b c d)).av true,by unfold sSc bG; rw [hr],fun hn=>⟨trivial,fun σ W hW=>D7 hW hn⟩⟩
 .cases e
theorem Xn {f:FuncId} {F:Int->Int->Sp} (g:PureOk Tryd.prog f (sUn F)):GOk Tryd.prog glob hG f (k2 F F):=by
 refine (g.g glob hG).weaken fun args nd v e=>?_
 unfold k2 at e
 split at e
 .rename_i s a b hr
  cases s <;> cases e
  .exact ⟨.tt,(qA (F a b)).av false,by unfold sUn bG; rw [hr],fun hn=>⟨trivial,fun σ W hW=>hW⟩⟩
  .exact ⟨.tt,(qA (F a b)).av true,by unfold sUn bG; rw [hr],fun hn=>⟨trivial,fun σ W hW=>D7 hW hn⟩⟩
 .cases e
def kSn (N:Int->Int->Bool) (L H:Int->Int->Int):bC:=fun args=>match Sh.readL abd args with
 | some (true,[.n n,.n d])=>match decide (d=4294967296) with
  | true=>some (.p (N n d=true),.tuple [.agg [.int true .i64 (L n d),.int true .i64 (H n d)],.int false .i64 0])
  | false=>none
 | _=>none
theorem RU {f:FuncId} {N:Int->Int->Bool} {L H:Int->Int->Int} (g:PureOk Tryd.prog f (zV N L H snE)):GOk Tryd.prog glob hG f (kSn N L H):=by
 refine (g.g glob hG).weaken fun args nd v e=>?_
 unfold kSn at e
 split at e
 .rename_i n d hr
  split at e
  .rename_i hd
   cases e
   have hd:=of_decide_eq_true hd
   subst hd
   exact ⟨.p (N n 4294967296=true),(Tm.u [.a [.n .i64 (L n 4294967296),.n .i64 (H n 4294967296)],.n .i64 (snE 4294967296)]).av true,by unfold zV bG; rw [hr],fun hn=>⟨hn,fun σ W hW=>hW⟩⟩
  .cases e
 .cases e
def kCk (O:Int->Int->Bool):bC:=fun args=>match Sh.readL [shS] args with
 | some (s,[.n a,.n b])=>match s with
  | true=>some (.p (O a b=true),.int false .i64 0)
  | false=>match aS a b with
   | true=>some (.tt,.int false .i64 0)
   | false=>none
 | _=>none
structure MtF where
 ad:Int->Int->Int->Int->Sp
 sc:Int->Int->Int->Int->Sp
 sq:Int->Int->Sp
 rt:Int->Int->Sp
 ok:Int->Int->Bool
 lo:Int->Int->Int->Int
 hi:Int->Int->Int->Int
 n:Int->Int->Int->Bool
def mtF:MtF:=⟨eU,jQ,jv,kW,aS,bD,bE,snN⟩
theorem abq:GOk Tryd.prog glob hG 40 (kCk aS):=by
 refine (JY.g glob hG).weaken fun args nd v e=>?_
 unfold kCk at e
 split at e
 .rename_i s a b hr
  split at e
  .cases e
   refine ⟨.tt,bB true .i64 (OD a b),by unfold Un bG; rw [hr]; rfl,fun hn=>⟨trivial,fun σ W hW=>?_⟩⟩
   have hn:aS a b=true:=hn
   have:=(Go.Eng.mkInt_rel _ _ _ _).1 hW
   unfold OD at this
   rw [hn] at this
   exact this
  .split at e
   .rename_i ho
    cases e
    refine ⟨.tt,bB false .i64 (OD a b),by unfold Un bG; rw [hr]; rfl,fun hn=>⟨trivial,fun σ W hW=>?_⟩⟩
    have:=(Go.Eng.mkInt_rel _ _ _ _).1 hW
    unfold OD at this
    rw [ho] at this
    exact this
   .cases e
 .cases e
def RV (F:MtF):List (FuncId×fO):=[(23,hN (gH (kSn (F.n 0) (F.lo 0) (F.hi 0)))),(22,hN (gH (kSn (F.n 1) (F.lo 1) (F.hi 1)))),
 (40,hN (gH (kCk F.ok))),(25,hN (gH (k4 [shS,shS] F.ad eU))),(26,hN (gH (k2 F.sq jv))),(28,hN (gH (k2 F.rt kW))),(27,hN (gH (k4 [shS,.i .i64,.i .i64] F.sc jQ)))]
theorem RX:∀ x∈RV mtF,NOk Tryd.prog glob hG x.1 x.2:=by
 intro x hx
 simp only [RV,List.mem_cons,List.not_mem_nil,or_false] at hx
 rcases hx with rfl|rfl|rfl|rfl|rfl|rfl|rfl
 .exact (RU Kq).h.n
 .exact (RU BO).h.n
 .exact abq.h.n
 .exact (abp JZ).h.n
 .exact (Xn J2).h.n
 .exact (Xn FZ).h.n
 .exact (adt Bv).h.n
noncomputable def cAt (F:MtF):Ctx:=mkN Tryd.prog glob hG (RV F) [] ext
theorem bZ:CtxOk (cAt mtF):=oO prog_ok ext_ok RX (fun _ h=>by cases h)
end
end Go.Proofs.YtbiiiloimbjpaaaDoor.K
namespace Go.Sn
open Go
def sg (n:Nat):Rat:=if n % 2=0 then 1 else -1
theorem VV (n:Nat):sg (n+1)=-sg n:=by
 unfold sg
 rcases Nat.mod_two_eq_zero_or_one n with h|h
 .rw [if_neg (by omega),if_pos h]
 .rw [if_pos (by omega),if_neg (by omega)]; grind
theorem adu (x:Rat):∀ n,e (-x) n=sg n*e x n:=by
 intro n
 induction n with
 | zero=>show (1:Rat)=sg 0*1; rw [show sg 0=1 from if_pos rfl]; grind
 | succ n ih=>
  have h1:=gM (-x) n
  have h2:=gM x n
  have hp:=mf n
  rw [ih] at h1
  have h3:((n+1:Nat):Rat)*(e (-x) (n+1) - sg (n+1)*e x (n+1))=0:=by
   rw [VV]
   have:((n+1:Nat):Rat)*(e (-x) (n+1) - -sg n*e x (n+1))=((n+1:Nat):Rat)*e (-x) (n+1)+sg n*(((n+1:Nat):Rat)*e x (n+1)):=by grind
   rw [this,h1,h2]; grind
  rcases Rat.mul_eq_zero.mp h3 with h|h
  .grind
  .grind
def Rd (d:Nat->Nat->Rat) (a b:Rat) (N:Nat):Rat:=sum (fun p=>e a p*sum (fun q=>d p q*e b q) N) N
def Td (d:Nat->Nat->Rat) (a b:Rat) (N:Nat):Rat:=sum (fun p=>e a p*sum (fun q=>d p q*e b q) (N - p)) N
theorem VW {d:Nat->Nat->Rat} (hd:∀ p q,-1<=d p q/\d p q<=1) {a b:Rat} (ha:0<=a) (hb:0<=b) (N:Nat):-tail N (a+b)<=Rd d a b N - Td d a b N/\Rd d a b N - Td d a b N<=tail N (a+b):=by
 have hT:-(Rc one a b N - T one a b N)<=Rd d a b N - Td d a b N/\Rd d a b N - Td d a b N<=Rc one a b N - T one a b N:=by
  have key:∀ p,p<N->-(e a p*sum (fun q=>one (p+q)*e b q) N - e a p*sum (fun q=>one (p+q)*e b q) (N - p))<=e a p*sum (fun q=>d p q*e b q) N - e a p*sum (fun q=>d p q*e b q) (N - p) /\
    e a p*sum (fun q=>d p q*e b q) N - e a p*sum (fun q=>d p q*e b q) (N - p)<=e a p*sum (fun q=>one (p+q)*e b q) N - e a p*sum (fun q=>one (p+q)*e b q) (N - p):=by
   intro p hp
   have hb2:∀ i,i<N->-(one (p+i)*e b i)<=d p i*e b i/\d p i*e b i<=one (p+i)*e b i:=by
    intro i _
    have h1:=o9 hb i
    have h2:=hd p i
    have h3:=Rat.mul_nonneg (a:=d p i+1) (by grind) h1
    have h4:=Rat.mul_nonneg (a:=1 - d p i) (by grind) h1
    simp only [one]; grind
   obtain ⟨h1,h2⟩:=zR (f:=fun q=>d p q*e b q) (g:=fun q=>one (p+q)*e b q) (Nat.sub_le N p) hb2
   have h3:=o9 ha p
   have h4:=Rat.mul_le_mul_of_nonneg_left h1 h3
   have h5:=Rat.mul_le_mul_of_nonneg_left h2 h3
   grind
  have f1:Rc one a b N - T one a b N=sum (fun p=>e a p*sum (fun q=>one (p+q)*e b q) N - e a p*sum (fun q=>one (p+q)*e b q) (N - p)) N:=by
   unfold Rc T
   rw [<- DW]
  have f2:Rd d a b N - Td d a b N=sum (fun p=>e a p*sum (fun q=>d p q*e b q) N - e a p*sum (fun q=>d p q*e b q) (N - p)) N:=by
   unfold Rd Td
   rw [<- DW]
  rw [f1,f2]
  constructor
  .have:=vP (f:=fun p=>-1*(e a p*sum (fun q=>one (p+q)*e b q) N - e a p*sum (fun q=>one (p+q)*e b q) (N - p))) (g:=fun p=>e a p*sum (fun q=>d p q*e b q) N - e a p*sum (fun q=>d p q*e b q) (N - p)) (n:=N) (fun p hp=>by have:=(key p hp).1; grind)
   rw [dx] at this
   grind
  .exact vP fun p hp=>(key p hp).2
 rw [QA] at hT
 have:=QB ha hb N
 unfold tail
 grind
def dC (p q:Nat):Rat:=cF p*cF q+sF p*sF q
theorem Xo (p q:Nat):dC p q=cF (p+q)*sg q:=by
 unfold dC
 rw [QE]
 unfold cF sF sg
 rcases rP q with h|h|h|h <;> simp only [h] <;> first|(rw [if_pos (by omega)]; grind)|(rw [if_neg (by omega)]; grind)
theorem adv (p q:Nat):-1<=dC p q/\dC p q<=1:=by
 rw [Xo]
 have:=QD (p+q)
 unfold sg
 split <;> grind
theorem adw (a:Rat) (N:Nat):Rd dC a a N=C N a*C N a+S N a*S N a:=by
 unfold Rd
 have h:∀ p,e a p*sum (fun q=>dC p q*e a q) N=C N a*(cF p*e a p)+S N a*(sF p*e a p):=by
  intro p
  have h1:sum (fun q=>dC p q*e a q) N=cF p*C N a+sF p*S N a:=by
   unfold C S Z
   rw [<- dx,<- dx,<- kY]
   exact dB fun q _=>by unfold dC; grind
  rw [h1]; grind
 rw [dB (fun p _=>h p),kY,dx,dx]
 unfold S C Z
 grind
theorem abr (a:Rat) (N:Nat):Td dC a a N=Z cF N 0:=by
 have h:Td dC a a N=T cF a (-a) N:=by
  unfold Td T
  refine dB fun p _=>?_
  congr 1
  refine dB fun q _=>?_
  rw [Xo,adu]; grind
 rw [h,QA]
 congr 1; grind
theorem abt:Z cF 64 0=1:=by decide +kernel
theorem abu {a:Rat} (ha:0<=a):-tail 64 (a+a)<=C 64 a*C 64 a+S 64 a*S 64 a - 1/\C 64 a*C 64 a+S 64 a*S 64 a - 1<=tail 64 (a+a):=by
 have h:=VW adv ha ha 64
 rw [adw,abr,abt] at h
 exact h
def ta:Rat:=1 / 1532495540865888858358347027150309183618739122183602176
theorem I7:tail 64 (16 / 5)<=ta:=by decide +kernel
theorem VX:1 - ta<=S 64 hp/\S 64 hp<=1+ta:=by decide +kernel
theorem abv:-ta<=C 64 hp/\C 64 hp<=ta:=by decide +kernel
theorem pb {x y X Y:Rat} (h1:-X<=x) (h2:x<=X) (h3:-Y<=y) (h4:y<=Y):-(X*Y)<=x*y/\x*y<=X*Y:=by
 have a1:=Rat.mul_nonneg (a:=X - x) (b:=Y - y) (by grind) (by grind)
 have a2:=Rat.mul_nonneg (a:=X+x) (b:=Y+y) (by grind) (by grind)
 have a3:=Rat.mul_nonneg (a:=X - x) (b:=Y+y) (by grind) (by grind)
 have a4:=Rat.mul_nonneg (a:=X+x) (b:=Y - y) (by grind) (by grind)
 constructor <;> grind
theorem RY {x:Rat} (h:x*x<=4):-2<=x/\x<=2:=by
 constructor
 .by_cases h1:-2<=x
  .exact h1
  .have:=Rat.mul_pos (a:=-2 - x) (b:=2 - x) (by grind) (by grind)
   grind
 .by_cases h1:x<=2
  .exact h1
  .have:=Rat.mul_pos (a:=x - 2) (b:=x+2) (by grind) (by grind)
   grind
theorem Xp (x:Rat):0<=x*x:=by
 rcases Rat.le_total (a:=0) (b:=x) with h|h
 .exact Rat.mul_nonneg h h
 .have:=Rat.mul_nonneg (a:=-x) (b:=-x) (by grind) (by grind); grind
theorem fK:0<=ta/\ta<=1 / 1000:=by decide +kernel
theorem circle' {a:Rat} (h0:0<=a) (h1:a<=8 / 5):-ta<=C 64 a*C 64 a+S 64 a*S 64 a - 1/\C 64 a*C 64 a+S 64 a*S 64 a - 1<=ta:=by
 have h:=abu h0
 have:=(mg (x:=a+a) (y:=16 / 5) (by grind) (by grind) 64).2
 have:=I7
 grind
theorem two_of {c s t:Rat} (t1:t<=1 / 1000) (h:c*c+s*s - 1<=t):(-2<=c/\c<=2)/\(-2<=s/\s<=2):=by
 have:=Xp c
 have:=Xp s
 exact ⟨RY (by grind),RY (by grind)⟩
theorem RZ {sa ca sb cb t u1 u2 ε:Rat} (t0:0<=t) (t1:t<=1 / 1000) (hε:ca*ca+sa*sa - 1=ε) (e1:-t<=ε) (e2:ε<=t)
  (hb:cb*cb+sb*sb - 1<=t) (h1:sa*cb+ca*sb - 1=u1) (h2:ca*cb - sa*sb=u2) (u1a:-(2*t)<=u1) (u1b:u1<=2*t) (u2a:-(2*t)<=u2) (u2b:u2<=2*t):
  -(10*t)<=ca - sb/\ca - sb<=10*t/\-(41*t)<=sa*sa+sb*sb - 1/\sa*sa+sb*sb - 1<=41*t:=by
 obtain ⟨⟨ca0,ca1⟩,sa0,sa1⟩:=two_of (c:=ca) (s:=sa) t1 (by grind)
 obtain ⟨_,sb0,sb1⟩:=two_of (c:=cb) (s:=sb) t1 hb
 have hD:ca - sb=sb*ε+sa*u2 - ca*u1:=by rw [<- hε,<- h1,<- h2]; grind
 have p1:=pb sb0 sb1 e1 e2
 have p2:=pb sa0 sa1 u2a u2b
 have p3:=pb ca0 ca1 u1a u1b
 have d1:-(10*t)<=ca - sb:=by rw [hD]; grind
 have d2:ca - sb<=10*t:=by rw [hD]; grind
 have p4:=pb (x:=ca - sb) (y:=ca+sb) (X:=10*t) (Y:=4) d1 d2 (by grind) (by grind)
 have hQ:sa*sa+sb*sb - 1=ε - (ca - sb)*(ca+sb):=by rw [<- hε]; grind
 refine ⟨d1,d2,?_,?_⟩ <;> rw [hQ] <;> grind
theorem R3 {q:Rat} (h0:0<=q) (h1:q<=1):-(41*ta)<=tru q*tru q+tru (1 - q)*tru (1 - q) - 1/\tru q*tru q+tru (1 - q)*tru (1 - q) - 1<=41*ta:=by
 obtain ⟨a0,a1⟩:=rQ h0 h1
 obtain ⟨b0,b1⟩:=rQ (q:=1 - q) (by grind) (by grind)
 have hab:hp*q+hp*(1 - q)=hp:=by grind
 have ca:=circle' a0 a1
 have cb:=circle' b0 b1
 have s:=qi a0 b0 64
 have c:=uF a0 b0 64
 rw [hab] at s c
 have tl:tail 64 hp<=ta:=by
  have h:=(mg (x:=hp) (y:=16 / 5) zS.1 (by have:=zS.2.1; grind) 64).2
  have:=I7
  grind
 have sh:=VX
 have ch:=abv
 have t:=fK
 have r:=RZ (sa:=S 64 (hp*q)) (ca:=C 64 (hp*q)) (sb:=S 64 (hp*(1 - q))) (cb:=C 64 (hp*(1 - q))) t.1 t.2 rfl ca.1 ca.2 cb.2 rfl rfl (by grind) (by grind) (by grind) (by grind)
 exact r.2.2
end Go.Sn
namespace Go.Rd
open Go Go.Eng Go.Ar
structure Bd (s:Sp) (M:Int):Prop where
 e:s.e=0
 lo:-M<=s.lo
 le:s.lo<=s.hi
 hi:s.hi<=M
structure En (s:Sp) (N D:Int):Prop where
 lo:s.lo*D<=N
 hi:N<=s.hi*D
theorem abw {n d:Int} (hd:0<d):rd n d false*d<=n/\n<rd n d false*d+d:=by
 have h1:=Int.mul_ediv_add_emod n d
 have h2:=Int.emod_nonneg n (show d≠0 by omega)
 have h3:=Int.emod_lt_of_pos n hd
 show n / d*d<=n/\n<n / d*d+d
 rw [Int.mul_comm] at h1
 omega
theorem adx {n d:Int} (hd:0<d):n<=rd n d true*d/\rd n d true*d<n+d:=by
 have:=abw (n:=-n) hd
 have e:rd n d true=-(rd (-n) d false):=rfl
 rw [e,Int.neg_mul]
 omega
theorem R4 {n d M:Int} (hd:0<d) (h:n<=M*d):rd n d true<=M:=by
 have:=(adx (n:=n) hd).2
 rcases Int.lt_or_le M (rd n d true) with c|c
 .have:(M+1)*d<=rd n d true*d:=Int.mul_le_mul_of_nonneg_right (by omega) (by omega)
  rw [Int.add_mul] at this
  omega
 .exact c
theorem R5 {n d M:Int} (hd:0<d) (h:M*d<=n):M<=rd n d false:=by
 have:=(abw (n:=n) hd).2
 rcases Int.lt_or_le (rd n d false) M with c|c
 .have:(rd n d false+1)*d<=M*d:=Int.mul_le_mul_of_nonneg_right (by omega) (by omega)
  rw [Int.add_mul] at this
  omega
 .exact c
theorem mul_bd {a n M L:Int} (h1:-M<=a) (h2:a<=M) (h3:-L<=n) (h4:n<=L):-(M*L)<=a*n/\a*n<=M*L:=by
 have k1:=Int.mul_nonneg (show 0<=M - a by omega) (show 0<=L - n by omega)
 have k2:=Int.mul_nonneg (show 0<=M+a by omega) (show 0<=L+n by omega)
 have k3:=Int.mul_nonneg (show 0<=M - a by omega) (show 0<=L+n by omega)
 have k4:=Int.mul_nonneg (show 0<=M+a by omega) (show 0<=L - n by omega)
 constructor <;> grind
structure Wi (s t:Sp):Prop where
 lo:t.lo<=s.lo
 le:s.lo<=s.hi
 hi:s.hi<=t.hi
structure Ri (s:Sp):Prop where
 lo:-4503599627370496<=s.lo
 le:s.lo<=s.hi
 hi:s.hi<=4503599627370496
theorem Ri.ok {s:Sp} (h:Ri s):aS s.lo s.hi=true:=aF.2 ⟨h.lo,h.le,h.hi⟩
theorem Ri.of {s:Sp} (h:aS s.lo s.hi=true):Ri s:=let k:=aF.1 h; ⟨k.1,k.2.1,k.2.2⟩
theorem xB {lo hi:Int} (h:(fw lo hi).e=0):fw lo hi=⟨lo,hi,0⟩/\-4503599627370496<=lo/\lo<=4503599627370496/\-4503599627370496<=hi/\hi<=4503599627370496:=by
 unfold fw at h ⊢
 cases h1:okF lo <;> cases h2:okF hi <;> rw [h1,h2] at h
 .cases h
 .cases h
 .cases h
 .have:=dw.1 h1
  have:=dw.1 h2
  exact ⟨rfl,by omega,by omega,by omega,by omega⟩
theorem D8 {lo hi:Int} (h1:-4503599627370496<=lo) (h2:lo<=4503599627370496) (h3:-4503599627370496<=hi) (h4:hi<=4503599627370496):fw lo hi=⟨lo,hi,0⟩:=by
 unfold fw
 rw [dw.2 (by omega),dw.2 (by omega)]
 rfl
theorem Kt {a b c d:Int} {r:Sp} (h:(Dl a b c d r).e=0):aS a b=true/\aS c d=true/\Dl a b c d r=r:=by
 unfold Dl at h ⊢
 cases h1:aS a b <;> cases h2:aS c d <;> rw [h1,h2] at h
 .cases h
 .cases h
 .cases h
 .exact ⟨rfl,rfl,rfl⟩
theorem VY {a b c d:Int} {r:Sp} (h1:aS a b=true) (h2:aS c d=true):Dl a b c d r=r:=by
 unfold Dl
 rw [h1,h2]
 rfl
theorem vV {n d m:Int} (hd:0<d):m<=rd n d false ↔ m*d<=n:=by
 constructor
 .intro h
  have:=(abw (n:=n) hd).1
  have:=Int.mul_le_mul_of_nonneg_right h (Int.le_of_lt hd)
  omega
 .exact R5 hd
theorem vW {n d m:Int} (hd:0<d):rd n d true<=m ↔ n<=m*d:=by
 constructor
 .intro h
  have:=(adx (n:=n) hd).1
  have:=Int.mul_le_mul_of_nonneg_right h (Int.le_of_lt hd)
  omega
 .exact R4 hd
theorem Wi.at {s t:Sp} (w:Wi s t) {x:Int} (h:x=s.lo\/x=s.hi):t.lo<=x/\x<=t.hi:=by
 obtain ⟨w1,w2,w3⟩:=w
 omega
theorem sq_le {a b:Int} (h:0<=a) (k:a<=b):a*a<=b*b:=Int.mul_le_mul k k h (Int.le_trans h k)
def ng (s:Sp):Sp:=⟨-s.hi,-s.lo,s.e⟩
def gt:List Sp->Nat->Sp
 | [],_=>⟨0,0,0⟩
 | a :: _,0=>a
 | _ :: l,i+1=>gt l i
inductive Wis:List Sp->List Sp->Prop where
 | nil:Wis [] []
 | cons {a b:Sp} {l m:List Sp}:Wi a b->Wis l m->Wis (a :: l) (b :: m)
theorem Wis.gt {l m:List Sp} (h:Wis l m):∀ i,Wi (gt l i) (gt m i):=by
 induction h with
 | nil=>exact fun _=>⟨Int.le_refl _,Int.le_refl _,Int.le_refl _⟩
 | cons w _ ih=>
  intro i
  cases i with
  | zero=>exact w
  | succ i=>exact ih i
def okSc (n d:Int):Prop:=okR n d=true->4503599627370496*sg n n<18446744073709551615*d
theorem abx {a b:Int} (h:aS a b=true):0<=abH a b/\abH a b<=4503599627370496:=by
 have:=aF.1 h
 unfold abH
 have:=kI b (-a)
 omega
theorem sc_eq {a b n d:Int} (k:okSc n d):jQ a b n d=fV a b n d:=by
 refine Iq a b n d fun h1 h2=>?_
 have:=k h2
 have p:=abx h1
 have q:0<=sg n n:=by
  unfold sg
  cases h:decide (n<0) with
  | true=>have:=of_decide_eq_true h; show 0<=-n; omega
  | false=>have:=of_decide_eq_false h; show 0<=n; omega
 have:=Int.mul_le_mul_of_nonneg_right p.2 q
 omega
theorem Wis.len {l m:List Sp} (h:Wis l m):l.length=m.length:=by
 induction h with
 | nil=>rfl
 | cons _ _ ih=>simp [ih]
def tn (b:Bool) (s:Sp):Sp:=bif b then ng s else s
inductive Tns:List Bool->List Sp->List Sp->Prop where
 | nil:Tns [] [] []
 | cons {b:Bool} {a c:Sp} {bs:List Bool} {l m:List Sp}:a=tn b c->Tns bs l m->Tns (b :: bs) (a :: l) (c :: m)
def bt:List Bool->Nat->Bool
 | [],_=>false
 | a :: _,0=>a
 | _ :: l,i+1=>bt l i
theorem Tns.gt {bs:List Bool} {l m:List Sp} (h:Tns bs l m):∀ i,gt l i=tn (bt bs i) (gt m i):=by
 induction h with
 | nil=>exact fun _=>rfl
 | cons e _ ih=>intro i; cases i with
  | zero=>exact e
  | succ i=>exact ih i
theorem Tns.e {bs:List Bool} {l m:List Sp} (h:Tns bs l m) (i:Nat):(Go.Rd.gt l i).e=(Go.Rd.gt m i).e:=by
 rw [h.gt i]; cases bt bs i <;> rfl
end Go.Rd
namespace Go.Iv
open Go Go.Ar Go.Rd
def cn (a b:Int) (x:Rat):Prop:=(a:Rat)<=x*4294967296/\x*4294967296<=(b:Rat)
theorem gI {a b:Int} (h:a<=b):(a:Rat)<=(b:Rat):=by exact_mod_cast h
theorem I8 {a b:Int} (h:(a:Rat)<=(b:Rat)):a<=b:=by exact_mod_cast h
theorem Ku {a b:Int} {x:Rat} (h:cn a b x):a<=b:=I8 (Rat.le_trans h.1 h.2)
theorem aeG:cn 0 0 0:=by
 unfold cn
 push_cast
 grind
theorem aeH:cn 4294967296 4294967296 1:=by
 unfold cn
 push_cast
 grind
theorem I9 {a b c d:Int} {x y:Rat} (h:cn a b x) (k:cn c d y) (n1:(x - y)*4294967296<1) (n2:(y - x)*4294967296<1):a<=d/\c<=b:=by
 obtain ⟨h1,h2⟩:=h
 obtain ⟨k1,k2⟩:=k
 have p:(a:Rat)<((d+1:Int):Rat):=by
  have:((d+1:Int):Rat)=(d:Rat)+1:=by push_cast; rfl
  rw [this]; grind
 have q:(c:Rat)<((b+1:Int):Rat):=by
  have:((b+1:Int):Rat)=(b:Rat)+1:=by push_cast; rfl
  rw [this]; grind
 have p:a<d+1:=by exact_mod_cast p
 have q:c<b+1:=by exact_mod_cast q
 omega
theorem ady {a b c d:Int} (e:(eU a b c d).e=0):eU a b c d=⟨a+c,b+d,0⟩:=by
 unfold eU at e ⊢
 have h:=(Kt e).2.2
 rw [h] at e ⊢
 exact (xB e).1
theorem R6 {a b c d:Int} {x y:Rat} (e:(eU a b c d).e=0) (h:cn a b x) (k:cn c d y):cn (eU a b c d).lo (eU a b c d).hi (x+y):=by
 rw [ady e]
 obtain ⟨h1,h2⟩:=h
 obtain ⟨k1,k2⟩:=k
 unfold cn
 push_cast
 grind
theorem rR (a b:Rat):a<=b\/b<=a:=Rat.le_total
theorem rT {a b c:Rat} (h:a<=b) (hc:0<=c):a*c<=b*c:=Rat.mul_le_mul_of_nonneg_right h hc
theorem Mq {a b c:Rat} (h:a<=b) (hc:0<=c):c*a<=c*b:=Rat.mul_le_mul_of_nonneg_left h hc
theorem R7 {a b c:Rat} (h:a<=b) (hc:c<=0):b*c<=a*c:=by
 have:=rT h (c:=-c) (by grind)
 grind
theorem rdf {n d:Int} (hd:0<d):((rd n d false:Int):Rat)*(d:Rat)<=(n:Rat):=by exact_mod_cast (vV hd).1 (Int.le_refl _)
theorem rdt {n d:Int} (hd:0<d):(n:Rat)<=((rd n d true:Int):Rat)*(d:Rat):=by exact_mod_cast (vW hd).1 (Int.le_refl _)
theorem wQ:(0:Int)<4294967296:=by decide
theorem Xq {l f:Int} {n D z:Rat} (hD:0<D) (h:l<=f) (hf:(f:Rat)*D<=n) (hz:n<=z*D):(l:Rat)<=z:=by
 have h:=gI h
 exact Rat.le_trans h (Rat.le_of_mul_le_mul_right (Rat.le_trans hf hz) hD)
theorem Xr {l f:Int} {n D z:Rat} (hD:0<D) (h:f<=l) (hf:n<=(f:Rat)*D) (hz:z*D<=n):z<=(l:Rat):=by
 have h:=gI h
 exact Rat.le_trans (Rat.le_of_mul_le_mul_right (Rat.le_trans hz hf) hD) h
theorem Ja {l X:Rat} (h0:0<=l) (h:l<=X\/l<=-X):l*l<=X*X:=by
 rcases h with h|h
 .exact Rat.le_trans (Mq h h0) (rT h (by grind))
 .have:=Rat.le_trans (Mq h h0) (rT h (c:=-X) (by grind))
  grind
theorem sq_le {l X:Rat} (h:X<=l) (k:-X<=l):X*X<=l*l:=by
 rcases rR 0 X with h0|h0
 .exact Rat.le_trans (Mq h h0) (rT h (by grind))
 .have:=Rat.le_trans (Mq k (c:=-X) (by grind)) (rT k (c:=l) (by grind))
  grind
theorem adz {a b:Int} (e:(jv a b).e=0):aS a b=true/\jv a b=⟨rd (abL a b*abL a b) 4294967296 false,rd (abH a b*abH a b) 4294967296 true,0⟩:=by
 unfold jv at e ⊢
 cases h:aS a b with
 | false=>rw [h] at e; cases e
 | true=>rw [h] at e; exact ⟨rfl,(xB e).1⟩
theorem aby {a b:Int} {x:Rat} (e:(jv a b).e=0) (h:cn a b x):cn (jv a b).lo (jv a b).hi (x*x):=by
 obtain ⟨ho,e0⟩:=adz e
 rw [e0]
 obtain ⟨h1,h2⟩:=h
 have hL0:0<=abL a b:=(kI _ 0).2.1
 have hL:abL a b=a\/abL a b=-b\/abL a b=0:=by
  unfold abL
  have p:=kI a (-b)
  have q:=kI (mx a (-b)) 0
  omega
 have hH:=kI b (-a)
 have D:(0:Rat)<4294967296:=by decide
 have ez:x*x*4294967296*4294967296=x*4294967296*(x*4294967296):=by grind
 have f1:=rdf (n:=abL a b*abL a b) wQ
 have f2:=rdt (n:=abH a b*abH a b) wQ
 push_cast at f1 f2
 constructor
 .refine Xq D (Int.le_refl _) f1 ?_
  rw [ez]
  have c0:(0:Rat)<=(abL a b:Rat):=by exact_mod_cast hL0
  rcases hL with p|p|p
  .refine Ja c0 (.inl ?_)
   rw [p]; exact h1
  .refine Ja c0 (.inr ?_)
   rw [p]; push_cast; grind
  .rw [p]
   have:=Ja (l:=0) (X:=x*4294967296) Rat.le_refl (by rcases rR 0 (x*4294967296) with h|h <;> grind)
   exact this
 .refine Xr D (Int.le_refl _) f2 ?_
  rw [ez]
  have p:(b:Rat)<=(abH a b:Rat):=by exact_mod_cast hH.1
  have q:((-a:Int):Rat)<=(abH a b:Rat):=gI hH.2.1
  push_cast at q
  exact sq_le (Rat.le_trans h2 p) (by grind)
theorem VZ {a b n d:Int} (e:(fV a b n d).e=0):0<d/\fV a b n d=⟨rd (mn (a*n) (b*n)) d false,rd (mx (a*n) (b*n)) d true,0⟩:=by
 unfold fV at e ⊢
 cases h:aS a b with
 | false=>rw [h] at e; cases e
 | true=>
  cases k:okR n d with
  | false=>rw [h,k] at e; cases e
  | true=>
   rw [h,k] at e
   refine ⟨?_,(xB e).1⟩
   unfold okR at k
   simp only [Bool.and_eq_true,decide_eq_true_eq] at k
   omega
theorem R8 {a b n d:Int} {x:Rat} (e:(fV a b n d).e=0) (h:cn a b x):cn (fV a b n d).lo (fV a b n d).hi (x*(n:Rat) / (d:Rat)):=by
 obtain ⟨hd,e0⟩:=VZ e
 rw [e0]
 obtain ⟨h1,h2⟩:=h
 have D:(0:Rat)<(d:Rat):=by exact_mod_cast hd
 have ez:x*(n:Rat) / (d:Rat)*4294967296*(d:Rat)=x*4294967296*(n:Rat):=by grind
 have m:=ab2 (a*n) (b*n)
 have M:=kI (a*n) (b*n)
 have lm:∀ z:Rat,((a*n:Int):Rat)<=z\/((b*n:Int):Rat)<=z->((mn (a*n) (b*n):Int):Rat)<=z:=fun z hz=>by
  rcases hz with hz|hz
  .exact Rat.le_trans (gI m.1) hz
  .exact Rat.le_trans (gI m.2.1) hz
 have lM:∀ z:Rat,z<=((a*n:Int):Rat)\/z<=((b*n:Int):Rat)->z<=((mx (a*n) (b*n):Int):Rat):=fun z hz=>by
  rcases hz with hz|hz
  .exact Rat.le_trans hz (gI M.1)
  .exact Rat.le_trans hz (gI M.2.1)
 constructor
 .refine Xq D (Int.le_refl _) (rdf hd) ?_
  rw [ez]
  refine lm _ ?_
  push_cast
  rcases rR 0 (n:Rat) with hn|hn
  .exact .inl (rT h1 hn)
  .exact .inr (R7 h2 hn)
 .refine Xr D (Int.le_refl _) (rdt hd) ?_
  rw [ez]
  refine lM _ ?_
  push_cast
  rcases rR 0 (n:Rat) with hn|hn
  .exact .inr (rT h2 hn)
  .exact .inl (R7 h1 hn)
theorem Kv {P:Nat->Prop} (h0:P 0):∀ n,¬ P n->∃ k,P k/\¬ P (k+1)
 | 0,h=>absurd h0 h
 | n+1,h=>by
  classical
  by_cases hn:P n
  .exact ⟨n,hn,h⟩
  .exact Kv h0 n hn
theorem adA {u v:Rat} (hv:0<=v) (h:u*u<=v*v):u<=v:=by
 rcases rR u v with k|k
 .exact k
 .rcases Rat.le_iff_lt_or_eq.1 k with k|k
  .exfalso
   have hu:0<u:=by grind
   have:=Rat.mul_lt_mul_of_pos_right k hu
   have:=Mq (Rat.le_of_lt k) hv
   grind
  .rw [k]; exact Rat.le_refl
theorem abz {a b:Int} (e:(kW a b).e=0):aS a b=true/\0<=a/\kW a b=⟨rtV a false,rtV b true,0⟩:=by
 unfold kW at e ⊢
 cases h:aS a b with
 | false=>rw [h] at e; cases e
 | true=>
  cases k:decide (a<0) with
  | true=>rw [h,k] at e; cases e
  | false=>exact ⟨rfl,by have:=of_decide_eq_false k; omega,rfl⟩
theorem V5 {a b:Int} {x:Rat} (e:(kW a b).e=0) (h:cn a b x) (K:Nat) (hK:0<K):∃ s:Rat,0<=s/\cn (kW a b).lo (kW a b).hi s/\s*s<=x/\(x - s*s)*(K:Rat)<=1:=by
 obtain ⟨ho,h0,e0⟩:=abz e
 have hb:=aF.1 ho
 have oa:kP a=true:=by unfold kP okF; simp only [Bool.and_eq_true,decide_eq_true_eq]; omega
 have ob:kP b=true:=by unfold kP okF; simp only [Bool.and_eq_true,decide_eq_true_eq]; omega
 obtain ⟨p0,p1,_,_⟩:=kH oa
 obtain ⟨q0,q1,q2,q3⟩:=kH ob
 have H:0<=rtV b true/\b*4294967296<=rtV b true*rtV b true/\rtV b true<=8796093022208:=by
  unfold rtV
  cases k:sqR b*sqR b==b*4294967296 with
  | true=>exact ⟨q0,by have:=beq_iff_eq.1 k; show _<=sqR b*sqR b; omega,by show sqR b<=_; omega⟩
  | false=>exact ⟨by show 0<=sqR b+1; omega,by show _<=(sqR b+1)*(sqR b+1); omega,by show sqR b+1<=_; omega⟩
 rw [e0]
 obtain ⟨h1,h2⟩:=h
 have hL:rtV a false=sqR a:=rfl
 rw [hL]
 generalize rtV b true=hi at H ⊢
 generalize sqR a=lo at p0 p1 ⊢
 obtain ⟨H0,H1,H2⟩:=H
 have p0:(0:Rat)<=(lo:Rat):=by exact_mod_cast p0
 have p1:(lo:Rat)*(lo:Rat)<=(a:Rat)*4294967296:=by have:=gI p1; push_cast at this; exact this
 have H0:(0:Rat)<=(hi:Rat):=by exact_mod_cast H0
 have H1:(b:Rat)*4294967296<=(hi:Rat)*(hi:Rat):=by have:=gI H1; push_cast at this; exact this
 have H2:(hi:Rat)<=8796093022208:=by have:=gI H2; push_cast at this; exact this
 have kq:(0:Rat)<(K:Rat):=by exact_mod_cast hK
 have f0:((0:Nat):Rat)*((0:Nat):Rat)<=x*4294967296*4294967296*((K:Rat)*(K:Rat)):=by
  have:(0:Rat)<=(a:Rat):=by exact_mod_cast h0
  have:=Rat.mul_nonneg (a:=x*4294967296) (b:=4294967296) (by grind) (by decide)
  have:=Rat.mul_nonneg this (Rat.mul_nonneg (Rat.le_of_lt kq) (Rat.le_of_lt kq))
  push_cast
  grind
 obtain ⟨n,hn⟩:∃ n:Nat,(n:Rat)=(hi:Rat)*(K:Rat)+1:=by
  have:0<=hi:=by exact_mod_cast H0
  refine ⟨(hi*K+1).toNat,?_⟩
  have e:(((hi*K+1).toNat:Nat):Int)=hi*K+1:=Int.toNat_of_nonneg (by have:=Int.mul_nonneg this (Int.natCast_nonneg K); omega)
  have:=congrArg (fun z:Int=>(z:Rat)) e
  push_cast at this
  exact this
 have f1:¬ ((n:Rat)*(n:Rat)<=x*4294967296*4294967296*((K:Rat)*(K:Rat))):=by
  intro hc
  have t1:=rT h2 (c:=4294967296) (by decide)
  have t2:=Rat.le_trans t1 H1
  have t3:=rT t2 (Rat.mul_nonneg (Rat.le_of_lt kq) (Rat.le_of_lt kq))
  rw [hn] at hc
  have t4:=Rat.mul_nonneg H0 (Rat.le_of_lt kq)
  grind
 obtain ⟨k,g1,g2⟩:=Kv (P:=fun k=>(k:Rat)*(k:Rat)<=x*4294967296*4294967296*((K:Rat)*(K:Rat))) f0 n f1
 have g2:=Rat.not_le.1 g2
 push_cast at g2
 obtain ⟨S,hS⟩:∃ S:Rat,S*(K:Rat)=(k:Rat):=⟨(k:Rat) / (K:Rat),by grind⟩
 have hk:(0:Rat)<=(k:Rat):=by exact_mod_cast Nat.zero_le k
 have S0:0<=S:=Rat.le_of_mul_le_mul_right (c:=(K:Rat)) (by rw [hS]; grind) kq
 have kk:0<(K:Rat)*(K:Rat):=Rat.mul_pos kq kq
 have S1:S*S<=x*4294967296*4294967296:=Rat.le_of_mul_le_mul_right (c:=(K:Rat)*(K:Rat)) (by rw [<- hS] at g1; grind) kk
 have Shi:S<=(hi:Rat):=adA H0 (Rat.le_trans S1 (Rat.le_trans (rT h2 (by decide)) H1))
 have Slo:(lo:Rat)<=S:=by
  rcases rR (lo:Rat) S with h|h
  .exact h
  .-- lo K is a whole number at most k
   have q:(lo:Rat)*(K:Rat)*((lo:Rat)*(K:Rat))<=x*4294967296*4294967296*((K:Rat)*(K:Rat)):=by
    have t1:=Rat.le_trans p1 (rT h1 (c:=4294967296) (by decide))
    have t2:=rT t1 (Rat.le_of_lt kk)
    grind
   have t:(lo:Rat)*(K:Rat)<(k:Rat)+1:=by
    rcases rR ((k:Rat)+1) ((lo:Rat)*(K:Rat)) with h|h
    .exfalso
     have:=Rat.le_trans (Mq h (c:=(k:Rat)+1) (by grind)) (rT h (Rat.mul_nonneg p0 (Rat.le_of_lt kq)))
     grind
    .rcases Rat.le_iff_lt_or_eq.1 h with h|e
     .exact h
     .exfalso
      rw [e] at q
      grind
   have t:lo*(K:Int)<(k:Int)+1:=by exact_mod_cast t
   have t:lo*(K:Int)<=(k:Int):=by omega
   have t:(lo:Rat)*(K:Rat)<=(k:Rat):=by exact_mod_cast t
   rw [<- hS] at t
   exact Rat.le_of_mul_le_mul_right t kq
 have gap:(x*4294967296*4294967296 - S*S)*(K:Rat)<=18446744073709551616:=by
  have kge:(1:Rat)<=(K:Rat):=by exact_mod_cast hK
  have t1:x*4294967296*4294967296*((K:Rat)*(K:Rat)) - S*S*((K:Rat)*(K:Rat))<=2*(k:Rat)+1:=by
   rw [<- hS] at g2 ⊢
   grind
  have t2:2*(k:Rat)+1<=18446744073709551616*(K:Rat):=by
   rw [<- hS]
   have:=rT (Rat.le_trans Shi H2) (Rat.le_of_lt kq)
   grind
  refine Rat.le_of_mul_le_mul_right (c:=(K:Rat)) ?_ kq
  grind
 have es:S / 4294967296*4294967296=S:=by grind
 refine ⟨S / 4294967296,by refine Rat.le_of_mul_le_mul_right (c:=4294967296) ?_ (by decide); rw [es]; grind,⟨by rw [es]; exact Slo,by rw [es]; exact Shi⟩,?_,?_⟩
 .refine Rat.le_of_mul_le_mul_right (c:=4294967296*4294967296) ?_ (by grind)
  grind
 .refine Rat.le_of_mul_le_mul_right (c:=4294967296*4294967296) ?_ (by grind)
  grind
theorem abA {l h:Int} {r:Sp} (hr:r=fw l h) (e:r.e=0) (hl:r.lo<=r.hi):aS r.lo r.hi=true:=by
 subst hr
 have:=xB e
 rw [this.1] at hl ⊢
 exact aF.2 ⟨this.2.1,hl,this.2.2.2.2⟩
theorem Xt {a b c d:Int} {z:Rat} (e:(eU a b c d).e=0) (h:cn (eU a b c d).lo (eU a b c d).hi z):aS (eU a b c d).lo (eU a b c d).hi=true:=
 abA (Kt e).2.2 e (Ku h)
theorem abB {lo hi:Int} (h:-4503599627370496<=lo/\lo<=4503599627370496) (k:-4503599627370496<=hi/\hi<=4503599627370496):(fw lo hi).e=0:=by
 rw [D8 (by omega) (by omega) (by omega) (by omega)]
theorem Mr {a b M m:Int} (ho:aS a b=true) (ha:-M<=a) (hb:b<=M) (hm:M*M<=m*4294967296) (h0:0<=m) (h1:m<=4503599627370496):(jv a b).e=0/\0<=(jv a b).lo/\(jv a b).lo<=m/\0<=(jv a b).hi/\(jv a b).hi<=m:=by
 have hab:=(aF.1 ho).2.1
 have L0:0<=abL a b:=(kI (mx a (-b)) 0).2.1
 have L1:abL a b<=M:=by unfold abL; have p:=kI a (-b); have q:=kI (mx a (-b)) 0; omega
 have H0:0<=abH a b:=by unfold abH; have p:=kI b (-a); omega
 have H1:abH a b<=M:=by unfold abH; have p:=kI b (-a); omega
 have LL:abL a b*abL a b<=m*4294967296:=Int.le_trans (Int.mul_le_mul L1 L1 L0 (by omega)) hm
 have HH:abH a b*abH a b<=m*4294967296:=Int.le_trans (Int.mul_le_mul H1 H1 H0 (by omega)) hm
 have l0:0<=rd (abL a b*abL a b) 4294967296 false:=(vV wQ).2 (by have:=Int.mul_nonneg L0 L0; omega)
 have l1:rd (abL a b*abL a b) 4294967296 false<=m:=Int.le_trans (WC _ _ wQ) ((vW wQ).2 LL)
 have h2:0<=rd (abH a b*abH a b) 4294967296 true:=Int.le_trans ((vV wQ).2 (by have:=Int.mul_nonneg H0 H0; omega)) (WC _ _ wQ)
 have h3:rd (abH a b*abH a b) 4294967296 true<=m:=(vW wQ).2 HH
 unfold jv
 rw [ho]
 show (fw _ _).e=0/\0<=(fw _ _).lo/\(fw _ _).lo<=m/\0<=(fw _ _).hi/\(fw _ _).hi<=m
 rw [D8 (by omega) (by omega) (by omega) (by omega)]
 exact ⟨rfl,l0,l1,h2,h3⟩
theorem add_small {a b c d:Int} (h1:aS a b=true) (h2:aS c d=true) (k1:-4503599627370496<=a+c) (k2:b+d<=4503599627370496):eU a b c d=⟨a+c,b+d,0⟩:=by
 have p:=aF.1 h1
 have q:=aF.1 h2
 unfold eU
 rw [VY h1 h2,D8 (by omega) (by omega) (by omega) (by omega)]
end Go.Iv
namespace Go.Vc
open Go Go.Eng Go.Ar Go.Dg Go.Sn Go.Iv
def qv (m d:Int):Rat:=if m=0 then 0 else if m=d then 1 else if 3*m=d then 1 / 2 else tru ((m:Rat) / (d:Rat))
theorem V6:cn 2147483648 2147483648 (1 / 2):=by unfold cn; decide +kernel
theorem abC {q:Rat} {k:Int} (h:IZ q k):cn k (k+1) (tru q):=by
 unfold IZ dl at h
 have e:((k+1:Int):Rat)=(k:Rat)+1:=by rw [Rat.intCast_add]; rfl
 unfold cn
 rw [e]
 constructor <;> grind
theorem adB {m:Int} (h0:0<=m) (h1:m<=4294967296) (h4:m % 4=0):cn (jy m 4294967296) (jA m 4294967296) (qv m 4294967296):=by
 unfold jy jA qv
 by_cases z:m=0
 .rw [if_pos z,if_pos z,if_pos z]; exact aeG
 by_cases z1:m=4294967296
 .rw [if_neg z,if_neg z,if_neg z,if_pos z1,if_pos z1,if_pos z1]; exact aeH
 by_cases z3:3*m=4294967296
 .rw [if_neg z,if_neg z,if_neg z,if_neg z1,if_neg z1,if_neg z1,if_pos z3,if_pos z3,if_pos z3]; exact V6
 rw [if_neg z,if_neg z,if_neg z,if_neg z1,if_neg z1,if_neg z1,if_neg z3,if_neg z3,if_neg z3]
 obtain ⟨k,hk⟩:=RB (m:=m) (by omega) (by omega) h4
 have e:=(I1 (m:=m) (d:=4294967296) (by omega) (by omega) (by decide) hk).2
 rw [e]
 exact abC hk
theorem V7:1 / 2 - ta<=S 64 (hp*(1 / 3))/\S 64 (hp*(1 / 3))<=1 / 2+ta:=by decide +kernel
theorem abD:S 64 0=0:=by decide +kernel
theorem xD {m d:Int} (hd:0<d):-ta<=qv m d - tru ((m:Rat) / (d:Rat))/\qv m d - tru ((m:Rat) / (d:Rat))<=ta:=by
 have t:=fK.1
 have hd0:(d:Rat)≠0:=by
  intro h
  have:d=0:=by exact_mod_cast h
  omega
 unfold qv
 by_cases z:m=0
 .rw [if_pos z,z]
  have:hp*(((0:Int):Rat) / (d:Rat))=0:=by
   have:((0:Int):Rat)=0:=rfl
   rw [this,Rat.div_def,Rat.zero_mul,Rat.mul_zero]
  unfold tru
  rw [this,abD]; constructor <;> grind
 by_cases z1:m=d
 .rw [if_neg z,if_pos z1,z1]
  have:hp*((d:Rat) / (d:Rat))=hp:=by
   rw [Rat.div_def,Rat.mul_inv_cancel _ hd0,Rat.mul_one]
  have s:=VX
  unfold tru
  rw [this]; constructor <;> grind
 by_cases z3:3*m=d
 .rw [if_neg z,if_neg z1,if_pos z3]
  have:(m:Rat) / (d:Rat)=1 / 3:=by
   have e:(d:Rat)=3*(m:Rat):=by rw [<- z3]; exact_mod_cast rfl
   grind
  have s:=V7
  unfold tru
  rw [this]; constructor <;> grind
 rw [if_neg z,if_neg z1,if_neg z3]
 constructor <;> grind
theorem Kw {q:Rat} (h0:0<=q) (h1:q<=1):-2<=tru q/\tru q<=2:=by
 obtain ⟨a0,a1⟩:=rQ h0 h1
 exact (two_of fK.2 (circle' a0 a1).2).2
theorem R9 {x y a b t:Rat} (t0:0<=t) (t1:t<=1 / 1000) (h1:-t<=x - a) (h2:x - a<=t) (k1:-t<=y - b) (k2:y - b<=t) (a0:-2<=a) (a1:a<=2) (b0:-2<=b) (b1:b<=2)
  (p1:-(41*t)<=a*a+b*b - 1) (p2:a*a+b*b - 1<=41*t):-(60*t)<=x*x+y*y - 1/\x*x+y*y - 1<=60*t:=by
 have e1:=pb (x:=x - a) (y:=x+a) (X:=t) (Y:=5) h1 h2 (by grind) (by grind)
 have e2:=pb (x:=y - b) (y:=y+b) (X:=t) (Y:=5) k1 k2 (by grind) (by grind)
 constructor <;> grind
theorem Ky {m d:Int} (h0:0<=m) (h1:m<=d) (hd:0<d):-(60*ta)<=qv m d*qv m d+qv (d - m) d*qv (d - m) d - 1/\qv m d*qv m d+qv (d - m) d*qv (d - m) d - 1<=60*ta:=by
 obtain ⟨q0,q1,_⟩:=VO h0 h1 hd
 have hd0:(d:Rat)≠0:=by
  intro h
  have:d=0:=by exact_mod_cast h
  omega
 have e:((d - m:Int):Rat) / (d:Rat)=1 - (m:Rat) / (d:Rat):=by
  rw [Rat.intCast_sub]; grind
 have n1:=xD (m:=m) hd
 have n2:=xD (m:=d - m) hd
 rw [e] at n2
 have p:=R3 q0 q1
 have b1:=Kw q0 q1
 have b2:=Kw (q:=1 - (m:Rat) / (d:Rat)) (by grind) (by grind)
 exact R9 fK.1 fK.2 n1.1 n1.2 n2.1 n2.2 b1.1 b1.2 b2.1 b2.2 p.1 p.2
def D32:Int:=4294967296
def rs2 (more n:Int):Rat:=if (snK n D32 more==0||snK n D32 more==1)=true then qv (snA more n D32) D32 else -qv (snA more n D32) D32
theorem D9 (more n:Int):0<=snA more n D32/\snA more n D32<=D32/\snA more n D32 % 4=0:=by
 obtain ⟨_,_,_,_,_,m0,m1⟩:=zU (n:=n) (d:=D32) (by decide) (by decide)
 have e4:snM n D32 % 4=0:=by
  unfold snM D32
  omega
 have:D32 % 4=0:=by decide
 unfold snA
 cases snK n D32 more==0||snK n D32 more==2 with
 | true=>simp only [cond_true]; omega
 | false=>simp only [cond_false]; omega
theorem abE {a b:Int} {x:Rat} (h:cn a b x):cn (-b) (-a) (-x):=by
 unfold cn at *
 rw [Rat.intCast_neg,Rat.intCast_neg]
 constructor <;> grind
theorem Jb (more n:Int):cn (bD more n 4294967296) (bE more n 4294967296) (rs2 more n):=by
 obtain ⟨a0,a1,a4⟩:=D9 more n
 have h:=adB a0 a1 a4
 have hb:pq 4294967296=false:=by decide
 unfold bD bE rs2
 rw [hb]
 show cn (bif snK n D32 more==0||snK n D32 more==1 then jy (snA more n D32) D32 else -jA (snA more n D32) D32) (bif snK n D32 more==0||snK n D32 more==1 then jA (snA more n D32) D32 else -jy (snA more n D32) D32) _
 cases snK n D32 more==0||snK n D32 more==1 with
 | true=>exact h
 | false=>exact abE h
theorem Sa (n:Int):snA 1 n D32=D32 - snA 0 n D32:=by
 obtain ⟨_,_,_,q0,q3,_,_⟩:=zU (n:=n) (d:=D32) (by decide) (by decide)
 have e0:snK n D32 0=snQ n D32:=by unfold snK; omega
 have e1:snK n D32 1=(snQ n D32+1) % 4:=rfl
 have hq:snQ n D32=0\/snQ n D32=1\/snQ n D32=2\/snQ n D32=3:=by omega
 unfold snA
 rw [e0,e1]
 rcases hq with h|h|h|h <;> rw [h]
 .show D32 - snM n D32=D32 - snM n D32; rfl
 .show snM n D32=D32 - (D32 - snM n D32); omega
 .show D32 - snM n D32=D32 - snM n D32; rfl
 .show snM n D32=D32 - (D32 - snM n D32); omega
theorem Sb (more n:Int):rs2 more n*rs2 more n=qv (snA more n D32) D32*qv (snA more n D32) D32:=by
 unfold rs2
 split <;> grind
theorem GU (n:Int):-(60*ta)<=rs2 0 n*rs2 0 n+rs2 1 n*rs2 1 n - 1/\rs2 0 n*rs2 0 n+rs2 1 n*rs2 1 n - 1<=60*ta:=by
 obtain ⟨a0,a1,_⟩:=D9 0 n
 have h:=Ky a0 a1 (by decide)
 rw [Sb,Sb,Sa]
 exact h
theorem xG (n:Int):(-2<=rs2 0 n/\rs2 0 n<=2)/\(-2<=rs2 1 n/\rs2 1 n<=2):=by
 have h:=(GU n).2
 have:60*ta<=1 / 1000:=by decide +kernel
 exact two_of this h
theorem qj {x y a b s:Rat} (h1:-s<=x - a) (h2:x - a<=s) (k1:-s<=y - b) (k2:y - b<=s) (x0:-2<=x) (x1:x<=2) (b0:-2<=b) (b1:b<=2):-(4*s)<=x*y - a*b/\x*y - a*b<=4*s:=by
 have p:=pb x0 x1 k1 k2
 have q:=pb h1 h2 b0 b1
 grind
theorem Ea {x:Rat} (h0:0<=x) (h1:x<=16 / 5):0<=tail 64 x/\tail 64 x<=ta:=by
 obtain ⟨a,b⟩:=mg h0 h1 64
 have:=I7
 grind
theorem Eb {x:Rat} (h0:0<=x) (h1:x<=8 / 5):(-2<=C 64 x/\C 64 x<=2)/\(-2<=S 64 x/\S 64 x<=2):=two_of fK.2 (circle' h0 h1).2
theorem Sc {q:Rat} (h0:0<=q) (h1:q<=1):-(10*ta)<=tru (1 - q) - C 64 (hp*q)/\tru (1 - q) - C 64 (hp*q)<=10*ta:=by
 obtain ⟨a0,a1⟩:=rQ h0 h1
 obtain ⟨b0,b1⟩:=rQ (q:=1 - q) (by grind) (by grind)
 have e:hp*q+hp*(1 - q)=hp:=by grind
 have s:=qi a0 b0 64
 have c:=uF a0 b0 64
 rw [e] at s c
 have t:=Ea (x:=hp) (by have:=zS; grind) (by have:=zS; grind)
 obtain ⟨⟨p0,p1⟩,p2,p3⟩:=Eb a0 a1
 obtain ⟨_,p6,p7⟩:=Eb b0 b1
 have k:=circle' a0 a1
 have sh:=VX
 have ch:=abv
 unfold tru
 generalize S 64 (hp*q)=sa at *
 generalize C 64 (hp*q)=ca at *
 generalize S 64 (hp*(1 - q))=sb at *
 generalize C 64 (hp*(1 - q))=cb at *
 have u1:-(2*ta)<=sa*cb+ca*sb - 1/\sa*cb+ca*sb - 1<=2*ta:=by grind
 have u2:-(2*ta)<=ca*cb - sa*sb/\ca*cb - sa*sb<=2*ta:=by grind
 have w1:=pb p0 p1 u1.1 u1.2
 have w2:=pb p2 p3 u2.1 u2.2
 have w3:=pb p6 p7 k.1 k.2
 have id:sb - ca=ca*(sa*cb+ca*sb - 1) - sa*(ca*cb - sa*sb) - sb*(ca*ca+sa*sa - 1):=by grind
 grind
def qa (m:Int):Rat:=qv m D32
def qb (m:Int):Rat:=qv (D32 - m) D32
def qx (m:Int):Rat:=hp*((m:Rat) / ((D32:Int):Rat))
theorem Sd {m:Int} (h0:0<=m) (h1:m<=D32):0<=qx m/\qx m<=8 / 5:=by
 obtain ⟨a,b,_⟩:=VO h0 h1 (by decide)
 exact rQ a b
theorem xH {m:Int}:-(20*ta)<=qa m - S 64 (qx m)/\qa m - S 64 (qx m)<=20*ta:=by
 have:=xD (m:=m) (d:=D32) (by decide)
 have t:=fK.1
 unfold tru at this
 unfold qa qx
 grind
theorem xI {m:Int} (h0:0<=m) (h1:m<=D32):-(20*ta)<=qb m - C 64 (qx m)/\qb m - C 64 (qx m)<=20*ta:=by
 obtain ⟨a,b,_⟩:=VO h0 h1 (by decide)
 have k:=xD (m:=D32 - m) (d:=D32) (by decide)
 have e:(((D32 - m:Int):Rat) / ((D32:Int):Rat))=1 - (m:Rat) / ((D32:Int):Rat):=by
  rw [Rat.intCast_sub]
  have:((D32:Int):Rat)≠0:=by decide +kernel
  grind
 rw [e] at k
 have c:=Sc a b
 have t:=fK.1
 unfold qb qx
 grind
theorem V8 {m:Int} (h0:0<=m) (h1:m<=D32):(-2<=qa m/\qa m<=2)/\(-2<=qb m/\qb m<=2):=by
 have h:=Ky h0 h1 (by decide)
 have:60*ta<=1 / 1000:=by decide +kernel
 exact two_of this h.2
def TT:Rat:=400*ta
theorem Xu {m k:Int} (m0:0<=m) (m1:m<=D32) (k0:0<=k) (k1:k<=D32):
  (-(200*ta)<=qa m*qb k+qb m*qa k - S 64 (qx m+qx k)/\qa m*qb k+qb m*qa k - S 64 (qx m+qx k)<=200*ta)/\(-(200*ta)<=qb m*qb k - qa m*qa k - C 64 (qx m+qx k)/\qb m*qb k - qa m*qa k - C 64 (qx m+qx k)<=200*ta):=by
 obtain ⟨a0,a1⟩:=Sd m0 m1
 obtain ⟨b0,b1⟩:=Sd k0 k1
 have s:=qi a0 b0 64
 have c:=uF a0 b0 64
 have t:=Ea (x:=qx m+qx k) (by grind) (by grind)
 have n1:=xH (m:=m); have n2:=xI m0 m1; have n3:=xH (m:=k); have n4:=xI k0 k1
 obtain ⟨x1,x2⟩:=V8 m0 m1
 obtain ⟨y2,y1⟩:=Eb b0 b1
 have p1:=qj n1.1 n1.2 n4.1 n4.2 x1.1 x1.2 y2.1 y2.2
 have p2:=qj n2.1 n2.2 n3.1 n3.2 x2.1 x2.2 y1.1 y1.2
 have p3:=qj n2.1 n2.2 n4.1 n4.2 x2.1 x2.2 y2.1 y2.2
 have p4:=qj n1.1 n1.2 n3.1 n3.2 x1.1 x1.2 y1.1 y1.2
 have ta0:=fK.1
 grind
theorem Jc (m k:Int):qx (m+k)=qx m+qx k:=by
 unfold qx
 rw [Rat.intCast_add]
 have:((D32:Int):Rat)≠0:=by decide +kernel
 grind
theorem abF:qx D32=hp:=by
 unfold qx
 have:((D32:Int):Rat)≠0:=by decide +kernel
 grind
theorem abG {m k:Int} (m0:0<=m) (k0:0<=k) (h:m+k<=D32):
  (-TT<=qa m*qb k+qb m*qa k - qa (m+k)/\qa m*qb k+qb m*qa k - qa (m+k)<=TT)/\(-TT<=qb m*qb k - qa m*qa k - qb (m+k)/\qb m*qb k - qa m*qa k - qb (m+k)<=TT):=by
 obtain ⟨s,c⟩:=Xu m0 (by omega) k0 (by omega)
 have n1:=xH (m:=m+k)
 have n2:=xI (m:=m+k) (by omega) h
 rw [Jc] at n1 n2
 have ta0:=fK.1
 unfold TT
 grind
theorem abI {m k:Int} (m1:m<=D32) (k1:k<=D32) (h:D32<=m+k):
  (-TT<=qa m*qb k+qb m*qa k - qb (m+k - D32)/\qa m*qb k+qb m*qa k - qb (m+k - D32)<=TT)/\(-TT<=qb m*qb k - qa m*qa k+qa (m+k - D32)/\qb m*qb k - qa m*qa k+qa (m+k - D32)<=TT):=by
 obtain ⟨s,c⟩:=Xu (m:=m) (k:=k) (by omega) m1 (by omega) k1
 have n1:=xH (m:=m+k - D32)
 have n2:=xI (m:=m+k - D32) (by omega) (by omega)
 have e:qx m+qx k=hp+qx (m+k - D32):=by
  have:=Jc D32 (m+k - D32)
  rw [show D32+(m+k - D32)=m+k by omega,Jc,abF] at this
  exact this
 rw [e] at s c
 obtain ⟨g0,g1⟩:=Sd (m:=m+k - D32) (by omega) (by omega)
 have hb:=zS
 have s2:=qi (a:=hp) (b:=qx (m+k - D32)) (by grind) g0 64
 have c2:=uF (a:=hp) (b:=qx (m+k - D32)) (by grind) g0 64
 have t:=Ea (x:=hp+qx (m+k - D32)) (by grind) (by grind)
 obtain ⟨y2,y1⟩:=Eb g0 g1
 have sh:=VX
 have ch:=abv
 have ta0:=fK.1
 generalize C 64 (qx (m+k - D32))=cg at *
 generalize S 64 (qx (m+k - D32))=sg at *
 generalize S 64 (hp+qx (m+k - D32))=sH at *
 generalize C 64 (hp+qx (m+k - D32))=cH at *
 generalize S 64 hp=S1 at *
 generalize C 64 hp=C1 at *
 have w1:=pb (x:=S1 - 1) (y:=cg) (X:=ta) (Y:=2) (by grind) (by grind) y2.1 y2.2
 have w2:=pb (x:=C1) (y:=sg) (X:=ta) (Y:=2) ch.1 ch.2 y1.1 y1.2
 have w3:=pb (x:=C1) (y:=cg) (X:=ta) (Y:=2) ch.1 ch.2 y2.1 y2.2
 have w4:=pb (x:=S1 - 1) (y:=sg) (X:=ta) (Y:=2) (by grind) (by grind) y1.1 y1.2
 unfold TT
 grind
def coQ (q:Int) (a b:Rat):Rat:=if q=0 then b else if q=1 then -a else if q=2 then -b else a
def siQ' (q:Int) (a b:Rat):Rat:=if q=0 then a else if q=1 then b else if q=2 then -a else -b
theorem Ec {q:Int} (h0:0<=q) (h1:q<=3):q=0\/q=1\/q=2\/q=3:=by omega
theorem qm (n:Int):rs2 1 n=coQ (snQ n D32) (qa (snM n D32)) (qb (snM n D32))/\rs2 0 n=siQ' (snQ n D32) (qa (snM n D32)) (qb (snM n D32)):=by
 obtain ⟨_,_,_,q0,q3,_,_⟩:=zU (n:=n) (d:=D32) (by decide) (by decide)
 have e0:snK n D32 0=snQ n D32:=by unfold snK; omega
 have e1:snK n D32 1=(snQ n D32+1) % 4:=rfl
 unfold rs2 snA qa qb
 rw [e0,e1]
 generalize snQ n D32=Q at *
 generalize snM n D32=M
 generalize D32 - M=L
 clear e0 e1
 generalize D32=D
 rcases Ec q0 q3 with h|h|h|h <;> rw [h] <;> constructor <;> simp [coQ,siQ']
theorem V9 {q1 q2:Int} (h0:0<=q1) (h1:q1<=3) (k0:0<=q2) (k1:q2<=3) (a1 b1 a2 b2:Rat):
  coQ q1 a1 b1*coQ q2 a2 b2 - siQ' q1 a1 b1*siQ' q2 a2 b2=coQ ((q1+q2) % 4) (a1*b2+b1*a2) (b1*b2 - a1*a2) /\
  siQ' q1 a1 b1*coQ q2 a2 b2+coQ q1 a1 b1*siQ' q2 a2 b2=siQ' ((q1+q2) % 4) (a1*b2+b1*a2) (b1*b2 - a1*a2):=by
 rcases Ec h0 h1 with h|h|h|h <;> rcases Ec k0 k1 with k|k|k|k <;> subst h <;> subst k <;> (simp only [coQ,siQ',Int.reduceAdd,Int.reduceMod,Int.reduceEq,if_true,if_false]; constructor <;> grind)
theorem Si {q:Int} (h0:0<=q) (h1:q<=3) (a b:Rat):coQ q b (-a)=coQ ((q+1) % 4) a b/\siQ' q b (-a)=siQ' ((q+1) % 4) a b:=by
 rcases Ec h0 h1 with h|h|h|h <;> subst h <;> (simp only [coQ,siQ',Int.reduceAdd,Int.reduceMod,Int.reduceEq,if_true,if_false]; constructor <;> grind)
theorem GV {q:Int} {a b a' b' t:Rat} (h1:-t<=a - a') (h2:a - a'<=t) (k1:-t<=b - b') (k2:b - b'<=t):
  (-t<=coQ q a b - coQ q a' b'/\coQ q a b - coQ q a' b'<=t)/\(-t<=siQ' q a b - siQ' q a' b'/\siQ' q a b - siQ' q a' b'<=t):=by
 unfold coQ siQ'
 refine ⟨?_,?_⟩
 .repeat' split
  all_goals (constructor <;> grind)
 .repeat' split
  all_goals (constructor <;> grind)
theorem abJ (n m:Int):(snM n D32+snM m D32<D32/\snQ (n+m) D32=(snQ n D32+snQ m D32) % 4/\snM (n+m) D32=snM n D32+snM m D32) ∨
  (D32<=snM n D32+snM m D32/\snQ (n+m) D32=((snQ n D32+snQ m D32) % 4+1) % 4/\snM (n+m) D32=snM n D32+snM m D32 - D32):=by
 unfold snQ snM snR D32
 omega
theorem abK (n m:Int):(-TT<=rs2 1 n*rs2 1 m - rs2 0 n*rs2 0 m - rs2 1 (n+m)/\rs2 1 n*rs2 1 m - rs2 0 n*rs2 0 m - rs2 1 (n+m)<=TT)/\(-TT<=rs2 0 n*rs2 1 m+rs2 1 n*rs2 0 m - rs2 0 (n+m)/\rs2 0 n*rs2 1 m+rs2 1 n*rs2 0 m - rs2 0 (n+m)<=TT):=by
 obtain ⟨_,_,_,a0,a3,b0,b1⟩:=zU (n:=n) (d:=D32) (by decide) (by decide)
 obtain ⟨_,_,_,c0,c3,d0,d1⟩:=zU (n:=m) (d:=D32) (by decide) (by decide)
 rw [(qm n).1,(qm n).2,(qm m).1,(qm m).2,(qm (n+m)).1,(qm (n+m)).2]
 obtain ⟨r1,r2⟩:=V9 a0 a3 c0 c3 (qa (snM n D32)) (qb (snM n D32)) (qa (snM m D32)) (qb (snM m D32))
 rw [r1,r2]
 rcases abJ n m with ⟨h,e1,e2⟩|⟨h,e1,e2⟩
 .rw [e1,e2]
  obtain ⟨⟨s1,s2⟩,t1,t2⟩:=abG b0 d0 (by omega)
  exact GV s1 s2 t1 t2
 .rw [e1,e2]
  obtain ⟨⟨s1,s2⟩,t1,t2⟩:=abI (m:=snM n D32) (k:=snM m D32) (by omega) (by omega) h
  obtain ⟨f1,f2⟩:=Si (q:=(snQ n D32+snQ m D32) % 4) (by omega) (by omega) (qa (snM n D32+snM m D32 - D32)) (qb (snM n D32+snM m D32 - D32))
  rw [<- f1,<- f2]
  exact GV s1 s2 (by grind) (by grind)
theorem Sj {n m:Int} (more:Int) (h:n % D32=m % D32):rs2 more n=rs2 more m:=by
 have e:snR n D32=snR m D32:=h
 have e1:snQ n D32=snQ m D32:=by unfold snQ; rw [e]
 have e2:snM n D32=snM m D32:=by unfold snM; rw [e]
 unfold rs2 snA snK
 rw [e1,e2]
theorem BQ {s r A B d:Rat} (s0:0<=s) (r0:0<=r) (d0:0<=d) (h:s*s<=r*r+d) (hd:d*4294967296*4294967296<1):(s - r)*4294967296<1:=by
 by_cases g:(s - r)*4294967296<1
 .exact g
 .have h1:1<=(s - r)*4294967296:=by grind
  have h2:r<=s:=by
   by_cases k:r<=s
   .exact k
   .grind
  have h3:=Rat.mul_nonneg (a:=(s - r)*4294967296 - 1) (b:=(s - r)*4294967296+1) (by grind) (by grind)
  have h4:=Rat.mul_nonneg (a:=r) (b:=s - r) r0 (by grind)
  grind
theorem Sk {m:Int} (h0:0<=m) (h1:m<=D32) (h4:m % 4=0):quN m D32=true:=by
 have e:m.tmod 4=0:=by rw [Int.tmod_eq_emod_of_nonneg h0]; exact h4
 have h1:m<=4294967296:=h1
 unfold quN D32
 rw [decide_eq_true h0,decide_eq_true h1,e]
 cases ovB m 4294967296 <;> cases (m==0) <;> cases (m==4294967296) <;> cases (3*m==4294967296) <;> cases VB m 4294967296 <;> rfl
theorem xJ (more n:Int):aS (bD more n D32) (bE more n D32)=true/\-13000000000<=bD more n D32/\bE more n D32<=13000000000:=by
 obtain ⟨a0,a1,a4⟩:=D9 more n
 obtain ⟨b0,b1,b2,b3⟩:=Xm (Sk a0 a1 a4)
 have h:=Ku (Jb more n)
 have hb:pq D32=false:=by decide
 have e:-13000000000<=bD more n D32/\bE more n D32<=13000000000:=by
  unfold bD bE
  rw [hb]
  cases snK n D32 more==0||snK n D32 more==1 <;> simp only [cond_true,cond_false] <;> omega
 exact ⟨aF.2 ⟨by omega,h,by omega⟩,e⟩
def mdW (a:Int):Int:=(wr (a.tmod 4294967296+4294967296)).tmod 4294967296
theorem Sl (a:Int):mdW a=a % D32:=by
 obtain ⟨t1,t2,t3⟩:=GL (n:=a) (d:=4294967296) (by decide)
 unfold mdW
 rw [gZ (by omega) (by omega)]
 exact t1
theorem Ed (more n:Int):snN more n 4294967296=true:=by
 obtain ⟨a0,a1,a4⟩:=D9 more n
 unfold snN
 rw [show quN (snA more n 4294967296) 4294967296=true from Sk a0 a1 a4]
 cases pq 4294967296 <;> rfl
end Go.Vc
