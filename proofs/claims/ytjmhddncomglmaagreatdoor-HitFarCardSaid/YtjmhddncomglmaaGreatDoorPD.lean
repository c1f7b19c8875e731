/- What is proved: a law of hits returns true, whatever the input (part 4). No conditions beyond those of the row. -/
import Derived.Test.YtjmhddncomglmaaGreatDoorPC
import Derived.Recover
import Derived.Orders
set_option linter.unusedVariables false
set_option linter.unusedSimpArgs false
set_option linter.unusedSectionVars false
namespace Go.Eng
def Base.back (b:Base) (T:Array Value) (D:List Deferred) (todo:List Item):Frame:=
 { fn:=b.fn,tmps:=T,todo,defers:=D,mode:=.returning,kind:=b.kind,roundOf:=b.round }
section leaving
variable {P:Program} {b:Base} {T:Array Value} {D:List Deferred} {k:List Item} {cs:List Frame} {W:World}
theorem st_over (hb:b.round=none):step P (lone (b.fr T D []) cs W)=.next (lone (b.back T D []) cs W):=
 step_lone_go (by simp [stepG,stepG.exec,Base.fr,Base.back,hb])
theorem st_ret (hb:b.round=none):step P (lone (b.fr T D (.code .ret :: k)) cs W)=.next (lone (b.back T D (.code .ret :: k)) cs W):=
 step_lone_go (by simp [stepG,stepG.exec,Base.fr,Base.back,hb])
theorem st_taken {B:Nat} {E:List Deferred} (h:W.heap[B]?=some (.deferred (some []))):
  step P (lone (b.back T ({ target:=.collected B,args:=#[] } :: E) k) cs W)=.next (lone (b.back T E k) cs { W with heap:=W.heap.setIfInBounds B (.deferred none) }):=by
 have hr:(Instr.takeDeferred B).run P W=.ok [] { W with heap:=W.heap.setIfInBounds B (.deferred none) }:=by
  have hget:(getObj B).run P W=.ok (.deferred (some [])) W:=by simp only [getObj,Sem.run,h]
  have hset:(setObj B (.deferred none)).run P W=.ok () { W with heap:=W.heap.setIfInBounds B (.deferred none) }:=by simp only [setObj,Sem.run,h,Option.isSome_some,if_true]
  simp only [Instr.takeDeferred,Sem.run_bind,hget,Result.andThen_ok,hset,Sem.run_pure]
 exact step_lone_go (by simp [stepG,unwind,Base.back,hr])
end leaving
theorem runDefs_ok {P:Program} {b:Base} {T:Array Value} {k:List Item} {cs:List Frame}:∀ {ds:List ADef} {h h':Hp},runDefs ds h=some h'->∀ {σ:Sg} {D:List Deferred} {W:World},DRel σ ds D->HRel σ h W ->
  ∃ X,Steps P (lone (b.back T D k) cs W) (lone (b.back T [] k) cs X)/\HRel σ h' X/\Good σ h W σ h' X
 | [],h,h',e,σ,D,W,hd,hr=>by
  cases e
  rw [show D=[] from hd]
  exact ⟨W,.refl _ _,hr,Good.refl σ h W fun i B N h=>(hr.dom i B N h).1⟩
 | .call _ _ :: _,_,_,e,_,_,_,_,_=>by cases e
 | .collected i :: ds,h,h',e,σ,D,W,⟨B,N,E,h1,h2,h3⟩,hr=>by
  simp only [runDefs] at e
  split at e
  .rename_i w hg
   rw [Hp.set_eq] at e
   obtain ⟨B',N',o,q1,q2,q3⟩:=hr.blk i _ hg rfl
   rw [h1] at q1; cases q1
   have ho:o=.deferred (some []):=by simpa [BRel] using q3
   subst ho
   have hlt:B<W.heap.size:=(Array.getElem?_eq_some_iff.1 q2).1
   obtain ⟨r1,g1⟩:=hr.write (V:={ W with heap:=W.heap.setIfInBounds B (.deferred none) }) hg rfl h1 (.defers true) (loopKept_of fun c h=>by cases h) (.deferred none)
    (by simp [hlt]) (by simp [BRel]) (by simp) (fun k hk=>by simp [Array.getElem?_setIfInBounds,Ne.symm hk]) rfl rfl rfl
   obtain ⟨X,p1,p2,p3⟩:=runDefs_ok (P:=P) (b:=b) (T:=T) (k:=k) (cs:=cs) e h3 r1
   exact ⟨X,.head (by rw [h2]; exact st_taken q2) p1,p2,g1.trans r1.ok p2.ok p3⟩
  .cases e
def rdVar (T:Array Value):ResultVar->Sem Value
 | .tmp t=>pure (T.getD t undef)
 | .cell a t=>do loadVar t (<- asAddr (T.getD a undef))
theorem resV_ok {P:Program} {σ:Sg} {tm:List AT} {h:Hp} {T:Array Value} {W:World} (ht:TRel σ tm T) (hr:HRel σ h W):∀ {l:List ResultVar} {nd:Nd} {vs:List AV},resV P tm h l=some (nd,vs)->nd.val ->
  ∃ VS:List Value,(l.mapM (rdVar T)).run P W=.ok VS W/\VRels σ vs VS
 | [],nd,vs,e,hn=>by cases e; exact ⟨[],by simp,rfl⟩
 | .tmp t :: l,nd,vs,e,hn=>by
  simp only [resV] at e
  split at e
  .cases e
  .rename_i a ha
   split at e
   .cases e
   .rename_i m r hm
    cases e
    obtain ⟨VS,h1,h2⟩:=resV_ok ht hr hm hn
    obtain ⟨V,h3,h4⟩:=ht.nth ha
    have:T.getD t undef=V:=by
     simp only [Array.getD_eq_getD_getElem?,h3,Option.getD_some]
    exact ⟨V :: VS,by simp only [List.mapM_cons,rdVar,this,Sem.run_bind,Sem.run_pure,Result.andThen_ok,h1],V,VS,rfl,h4,h2⟩
 | .cell a t :: l,nd,vs,e,hn=>by
  simp only [resV] at e
  split at e
  .cases e
  .rename_i x ha
   split at e
   .cases e
   .rename_i m y hl
    split at e
    .cases e
    .rename_i nd' r hm
     cases e
     obtain ⟨VS,h1,h2⟩:=resV_ok ht hr hm (Nd.rv hn)
     obtain ⟨V,h3,h4⟩:=ht.nth ha
     have hT:T.getD a undef=V:=by
      simp only [Array.getD_eq_getD_getElem?,h3,Option.getD_some]
     obtain ⟨B,off,Y,rfl,h5,h6⟩:=load_ok hr h4 hl (Nd.lv hn)
     refine ⟨Y :: VS,?_,Y,VS,rfl,h6,h2⟩
     simp only [List.mapM_cons,rdVar,hT,asAddr,Sem.run_bind,Sem.run_pure,Result.andThen_ok,h5,h1]
theorem tup_rel {σ:Sg} {vs:List AV} {VS:List Value} (h:VRels σ vs VS):VRel σ (tup vs) (if h:VS.toArray.size=1 then VS.toArray[0] else .tuple VS.toArray):=by
 unfold tup
 split
 .obtain ⟨v,_,rfl,h1,rfl⟩:=h
  simpa using h1
 .rename_i hne
  have:VS.toArray.size≠1:=by
   intro e
   have:=h.length
   simp only [List.size_toArray] at e
   rw [e] at this
   match vs,this with
   | [v],_=>exact hne v rfl
  rw [dif_neg this]
  exact ⟨_,rfl,by simpa using h⟩
theorem results_ok {P:Program} {σ:Sg} {s:St} {T:Array Value} {W:World} {h:Hp} (ht:TRel σ s.tmps T) (hr:HRel σ h W) {fn:Func} {nd:Nd} {vs:List AV} (e:resV P s.tmps h fn.results.toList=some (nd,vs)) (hn:nd.val):
  ∃ V,(results fn T).run P W=.ok V W/\VRel σ (tup vs) V:=by
 obtain ⟨VS,h1,h2⟩:=resV_ok ht hr e hn
 refine ⟨_,?_,tup_rel h2⟩
 have hf:results fn T=(do let vs<-fn.results.mapM (rdVar T); pure (if h:vs.size=1 then vs[0] else .tuple vs)):=by
  unfold results
  congr 1
 rw [hf,Array.mapM_eq_mapM_toList]
 simp only [bind_assoc,map_eq_pure_bind,Sem.run_bind,h1,Result.andThen_ok,pure_bind,Sem.run_pure]
end Go.Eng
namespace Go.Eng
theorem argT_map:∀ (l:List AV),(argT l).map (·.v)=l
 | []=>rfl
 | a :: l=>by simp [argT,argT_map l]
theorem undefT_rel {σ:Sg}:∀ (n:Nat),VRels σ ((undefT n).map (·.v)) (List.replicate n undef)
 | 0=>rfl
 | n+1=>⟨undef,List.replicate n undef,rfl,⟨#[],rfl,rfl⟩,undefT_rel n⟩
def Base.out (b:Base) (m:FrameMode) (T:Array Value) (D:List Deferred) (todo:List Item):Frame:=
 { fn:=b.fn,tmps:=T,todo,defers:=D,mode:=m,kind:=b.kind,roundOf:=b.round }
def panM:Option Value->FrameMode
 | none=>.returning
 | some V=>.panicking [{ v:=V,recovered:=false }]
def recM:Option Value->FrameMode
 | none=>.returning
 | some V=>.panicking [{ v:=V,recovered:=true }]
theorem settle_recM (p:Option Value):settle (recM p)=.returning:=by cases p <;> rfl
def PanRel:Option AV->Option Value->Prop
 | none,none=>True
 | some a,some V=>VRel noSg a V
 | _,_=>False
def OutsB (P:Program) (f:FuncId) (fr:Frame) (pn:Bool) (V:Value) (W:World):Prop:=
 match pn with
 | false=>Leaves P f .normal fr V W
 | true=>fr.mode=.panicking [{ v:=V,recovered:=false }]/\fr.defers=[]/\∃ fn,P.funcs[fr.fn]?=some fn
section outs
variable {P:Program} {b:Base} {T:Array Value} {D:List Deferred} {k:List Item} {cs:List Frame} {W:World}
theorem st_takenM {p:Option Value} {B:Nat} {E:List Deferred} (h:W.heap[B]?=some (.deferred (some []))):
  step P (lone (b.out (panM p) T ({ target:=.collected B,args:=#[] } :: E) k) cs W)=.next (lone (b.out (panM p) T E k) cs { W with heap:=W.heap.setIfInBounds B (.deferred none) }):=by
 have hr:(Instr.takeDeferred B).run P W=.ok [] { W with heap:=W.heap.setIfInBounds B (.deferred none) }:=by
  have hget:(getObj B).run P W=.ok (.deferred (some [])) W:=by simp only [getObj,Sem.run,h]
  have hset:(setObj B (.deferred none)).run P W=.ok () { W with heap:=W.heap.setIfInBounds B (.deferred none) }:=by simp only [setObj,Sem.run,h,Option.isSome_some,if_true]
  simp only [Instr.takeDeferred,Sem.run_bind,hget,Result.andThen_ok,hset,Sem.run_pure]
 cases p with
 | none=>exact step_lone_go (by simp [stepG,unwind,Base.out,panM,hr])
 | some V=>exact step_lone_go (by simp [stepG,unwind,Base.out,panM,hr])
end outs
section recs
variable {C:Ctx} {r:Rec}
theorem recOps_ok (co:CtxOk C) (ro:RecOk C r) {ops:Array Oper} (b:Base) (hk:b.kind=.deferred) (hb:b.round=none) (k:List Item) (cs:List Frame) (c0:Frame) {p:Option AV} {PV:Option Value} (hp:PanRel p PV) (hm:c0.mode=panM PV):
  ∀ {is:List Nat} {l:List Oper},Idx ops is l->∀ (s:St) (q:R),recOps C r ops p l s=some q->∀ (σ:Sg) (T:Array Value) (D:List Deferred) (W:World),GRel C σ->SRel σ s T D W ->
  Fits (Post σ s W (Arr C.P (lone (b.fr T D (.inRegion ops is :: k)) (c0 :: cs) W) b k ({ c0 with mode:=recM PV } :: cs))) q:=by
 intro is l hl
 induction hl with
 | nil=>intro s q e; cases e
 | @cons i o is l ho hrest ih=>
  intro s q e σ T D W g sr
  simp only [recOps] at e
  split at e
  .cases e
  rename_i hgd
  have hw:Region.wanted o (yielded ops T)=true:=by simp [Region.wanted,hgd]
  split at e
  .rename_i args ts hop
   have hex:(execOp (ev T) o).run C.P W=.ok .recover W:=by
    simp only [execOp,hop,resolve,Sem.run_bind,Sem.run_pure,Result.andThen_ok,invoke,builtin]
   have hd:∀ c,o.op≠.defer c:=by intro c hc; rw [hc] at hop; cases hop
   have hv:∃ V,VRel noSg (recV p) V/\step C.P (lone (b.fr T D (.inRegion ops (i :: is) :: k)) (c0 :: cs) W)=.next (lone (b.fr (putT T o.dst V) D (.inRegion ops is :: k)) ({ c0 with mode:=recM PV } :: cs) W):=by
    have hto:∀ fr:Frame,fr.kind=.deferred->tryRecover fr (c0 :: cs)=recoverD (c0 :: cs):=fun fr h=>tryRecover_deferred h _
    have hg:=stepG_oper (P:=C.P) (b:=b) (k:=k) (cs:=c0 :: cs) (W:=W) (rest:=is) (D:=D) ho hw hd
    have hto1:=hto (b.fr T D (.inRegion ops (i :: is) :: k)) hk
    cases p with
    | none=>
     cases PV with
     | some V=>exact hp.elim
     | none=>
      refine ⟨.nilIface,rfl,?_⟩
      have hrec:recoverD (c0 :: cs)=none:=by simp [recoverD,hm,panM]
      have hc:({ c0 with mode:=recM none }:Frame)=c0:=by rw [show recM none=c0.mode from hm.symm]
      rw [<- finish_fr ho,hc]
      refine step_lone_go ?_
      rw [hg]
      rw [hrec] at hto1
      have hro:(b.fr T D (.inRegion ops (i :: is) :: k)).roundOf=none:=hb
      simp [stepG.apply,hex,hro,hto1]
    | some a=>
     cases PV with
     | none=>exact hp.elim
     | some V=>
      refine ⟨V,hp,?_⟩
      have hrec:recoverD (c0 :: cs)=some (V,{ c0 with mode:=recM (some V) } :: cs):=by simp [recoverD,hm,panM,recM]
      rw [<- finish_fr ho]
      refine step_lone_go ?_
      rw [hg]
      rw [hrec] at hto1
      have hro:(b.fr T D (.inRegion ops (i :: is) :: k)).roundOf=none:=hb
      simp [stepG.apply,hex,hro,hto1]
   obtain ⟨V,hV,hst⟩:=hv
   refine put_fits sr (VRel.anywhere hV) o.dst e fun s1 e1 r1=>?_
   have:=opsF_ok co ro b k ({ c0 with mode:=recM PV } :: cs) hrest (.inl hb) s1 q e1 σ _ D W g r1
   intro hn
   obtain ⟨en,h1,h2⟩:=this hn
   refine ⟨en,h1,h2.imp ?_⟩
   rintro T1 D1 X ⟨_,h⟩
   exact .of_steps (.one hst) h
  .split at e
   .rename_i nd s1 hs1
    split at e
    .cases e
    .rename_i q' hq'
     cases e
     intro hn
     replace hn:(nd.and q'.nd).val:=hn
     obtain ⟨en,h1,τ,T1,D1,V,r1,st1,hx,arr⟩:=simpleOp_ok hs1 g sr ho hw b k (c0 :: cs) (rest:=is) (Nd.lv hn)
     have:en=⟨.tt,.normal,s1⟩:=by
      unfold One at h1
      simp [G.val] at h1
      exact h1.symm
     subst this
     have:=ih s1 q' hq' τ T1 D1 V (g.mono st1.good.sub) r1
     obtain ⟨e2,k1,k2⟩:=fits_back (A:=Arr C.P (lone (b.fr T D (.inRegion ops (i :: is) :: k)) (c0 :: cs) W) b k ({ c0 with mode:=recM PV } :: cs)) r1.ko st1 this (fun x T2 D2 X h=>.of_steps arr h) (Nd.rv hn)
     exact ⟨e2,k1,k2⟩
   .cases e
theorem recF_ok (co:CtxOk C) (ro:RecOk C r) {fr:AFr} (b:Base) (hk:b.kind=.deferred) (cs:List Frame) (c0:Frame) {p:Option AV} {PV:Option Value} (hp:PanRel p PV) (hm:c0.mode=panM PV):
  ∀ (c:Code) (s:St) (q:R),recF C r fr p c s=some q->∀ (σ:Sg) (T:Array Value) (D:List Deferred) (W:World) (k:List Item),GRel C σ->SRel σ s T D W->FrRel σ fr b ->
  Fits (Post σ s W (Arr C.P (lone (b.fr T D (.code c :: k)) (c0 :: cs) W) b k ({ c0 with mode:=recM PV } :: cs))) q
 | .seq a c,s,q,e,σ,T,D,W,k,g,sr,fb=>by
  simp only [recF] at e
  refine seqR_fits (Q1:=Post σ s W (Arr C.P (lone (b.fr T D (.code (.seq a c) :: k)) (c0 :: cs) W) b (.code c :: k) ({ c0 with mode:=recM PV } :: cs))) (post_closed sr _) ?_ ?_ e ?_
  .rintro s1 q1 e1 ⟨τ,T1,D1,V,r1,st1,hs⟩
   have:=ro.code _ _ _ _ e1 τ T1 D1 V (g.mono st1.good.sub) r1 b k _ ({ c0 with mode:=recM PV } :: cs) (.inl rfl) (fb.mono st1.good.sub)
   exact fits_back r1.ko st1 this fun x T2 D2 X h=>.of_steps hs h
  .rintro x s1 hx ⟨τ,T1,D1,V,r1,st1,h⟩
   exact ⟨τ,T1,D1,V,r1,st1,h.pass (y:=.code c) rfl hx⟩
  .intro q1 e1
   have:=recF_ok co ro b hk cs c0 hp hm a s q1 e1 σ T D W (.code c :: k) g sr fb
   intro hn
   obtain ⟨en,h1,h2⟩:=this hn
   exact ⟨en,h1,h2.imp fun T1 D1 V h=>.of_steps (.one st_seq) h⟩
 | .block i a,s,q,e,σ,T,D,W,k,g,sr0,fb=>by
  simp only [recF,tickC_eq] at e
  obtain ⟨sr,st0⟩:=tick_step sr0
  refine fits_back sr.ko st0 (B:=Arr C.P (lone (b.fr T D (.code (.block i a) :: k)) (c0 :: cs) W) b k ({ c0 with mode:=recM PV } :: cs)) ?_ fun _ _ _ _ h=>h
  generalize (⟨s.tmps,s.defs,⟨s.hp.blks,s.hp.size,s.hp.clock+1⟩⟩:St)=s1 at e sr st0
  split at e
  .cases e
  .rename_i nd l hl
   cases e
   refine lone_fits fun hn=>?_
   obtain ⟨en,h1,h2⟩:=recF_ok co ro b hk cs c0 hp hm a s1 ⟨nd,l⟩ hl σ T D W (.inBlock i :: k) g sr fb hn
   have hq:Post σ s1 W (Arr C.P (lone (b.fr T D (.code (.block i a) :: k)) (c0 :: cs) W) b k ({ c0 with mode:=recM PV } :: cs)) (blockE i en).x en.s:=by
    obtain ⟨τ,T1,D1,V,r1,st1,h⟩:=h2
    refine ⟨τ,T1,D1,V,r1,st1,.of_steps (.one st_block) ?_⟩
    unfold blockE
    cases hx:en.x with
    | normal=>rw [hx] at h; simp only [hx]; exact h.trans (.one st_inBlock)
    | ret=>rw [hx] at h; simp only [hx]; exact h
    | raise a=>rw [hx] at h; simp only [hx]; exact h
    | goto j=>
     rw [hx] at h
     obtain ⟨k1,q1,q2⟩:=h
     simp only [hx]
     exact ⟨k1,q1,q2⟩
    | exit j=>
     rw [hx] at h
     obtain ⟨k1,q1,q2⟩:=h
     simp only
     cases hj:Nat.beq j i with
     | true=>
      have:=Nat.eq_of_beq_eq_true hj
      subst this
      exact q2.trans (.one (st_exit (by rw [q1]; simp [exitTo])))
     | false=>
      have:¬ i=j:=fun h=>by subst h; simp at hj
      simp only [cond_false,hx]
      exact ⟨k1,by rw [q1]; simp [exitTo,this],q2⟩
   exact (post_closed sr _).got hq (blockL_got.1 en h1)
 | .scope a,s,q,e,σ,T,D,W,k,g,sr,fb=>by
  simp only [recF] at e
  unfold scopeF at e
  split at e
  .cases e
  .rename_i q' hq
   split at e
   .rename_i hok
    cases e
    intro hn
    obtain ⟨en,h1,h2⟩:=recF_ok co ro b hk cs c0 hp hm a s _ hq σ T D W (.inScope a :: k) g sr fb hn
    refine ⟨en,h1,?_⟩
    obtain ⟨τ,T1,D1,V,r1,st1,h⟩:=h2
    refine ⟨τ,T1,D1,V,r1,st1,.of_steps (.one st_scope) ?_⟩
    have hsc:=scopeOk_one hok h1
    cases hx:en.x with
    | normal=>rw [hx] at h; exact h.trans (.one st_inScope)
    | ret=>rw [hx] at h; exact h
    | raise a=>rw [hx] at h; exact h
    | goto j=>
     rw [hx] at h
     obtain ⟨k1,q1,q2⟩:=h
     exact ⟨k1,by rw [q1]; simp [gotoIn,hsc j hx],q2⟩
    | exit j=>
     rw [hx] at h
     obtain ⟨k1,q1,q2⟩:=h
     exact ⟨k1,by rw [q1]; simp [exitTo],q2⟩
   .cases e
 | .region i ops false,s,q,e,σ,T,D,W,k,g,sr,fb=>by
  simp only [recF] at e
  have h2:=fb.2
  split at e
  .rename_i hr
   rw [hr] at h2
   have:=recOps_ok co ro b hk h2 k cs c0 hp hm (idx_all ops) s q e σ T D W g sr
   intro hn
   obtain ⟨en,h1,h2⟩:=this hn
   exact ⟨en,h1,h2.imp fun T1 D1 V h=>.of_steps (.one st_region) h⟩
  .cases e
 | .region _ _ true,s,q,e,_,_,_,_,_,_,_,_=>by cases e
 | .skip,s,q,e,_,_,_,_,_,_,_,_=>by cases e
 | .label _,s,q,e,_,_,_,_,_,_,_,_=>by cases e
 | .ret,s,q,e,_,_,_,_,_,_,_,_=>by cases e
 | .exit _,s,q,e,_,_,_,_,_,_,_,_=>by cases e
 | .goto _,s,q,e,_,_,_,_,_,_,_,_=>by cases e
 | .cond _ _ _,s,q,e,_,_,_,_,_,_,_,_=>by cases e
 | .loop _,s,q,e,_,_,_,_,_,_,_,_=>by cases e
 | .rangeFunc _ _ _ _,s,q,e,_,_,_,_,_,_,_,_=>by cases e
 | .refuse _,s,q,e,_,_,_,_,_,_,_,_=>by cases e
theorem endD_spec {n c:Nat} {fn:Func} {e:Ent} {nd:Nd} {x:CEnt} (h:endD C n c fn e=some (nd,x)):(e.x=.normal\/e.x=.ret)/\∃ h2 vs,runDefs e.s.defs e.s.hp=some h2/\resV C.P e.s.tmps h2 fn.results.toList=some (nd,vs)/\x=⟨e.g,.nil,(gc n c .nil h2).2⟩:=by
 have key:endD.endR C n c fn e=some (nd,x)->∃ h2 vs,runDefs e.s.defs e.s.hp=some h2/\resV C.P e.s.tmps h2 fn.results.toList=some (nd,vs)/\x=⟨e.g,.nil,(gc n c .nil h2).2⟩:=by
  intro h
  unfold endD.endR at h
  split at h
  .cases h
  .rename_i h2 hd
   split at h
   .cases h
   .rename_i nd' vs hv
    cases h
    exact ⟨h2,vs,hd,hv,rfl⟩
 unfold endD at h
 split at h
 .rename_i hx; exact ⟨.inl hx,key h⟩
 .rename_i hx; exact ⟨.inr hx,key h⟩
 .cases h
theorem endsD_one {n c:Nat} {fn:Func}:∀ {l:List Ent} {nd:Nd} {m:List CEnt},endsD C n c fn l=some (nd,m)->(Non l->NonC m)/\∀ e,One l e->∃ nd0 x,endD C n c fn e=some (nd0,x)/\OneC m x/\(nd.val->nd0.val)
 | [],nd,m,e=>by cases e; exact ⟨fun _=>rfl,fun e h=>by simp [One] at h⟩
 | a :: l,nd,m,e=>by
  simp only [endsD] at e
  split at e
  .rename_i nd0 ce nd1 m1 he hl
   cases e
   obtain ⟨i1,i2⟩:=endsD_one hl
   have hg:ce.g=a.g:=by
    obtain ⟨_,_,_,_,_,rfl⟩:=endD_spec he
    rfl
   refine ⟨fun h=>?_,fun e h=>?_⟩
   .obtain ⟨h1,h2⟩:=non_cases h
    exact nonC_cons (by rw [hg]; exact h1) (i1 h2)
   .rcases one_cases h with ⟨h1,rfl,h3⟩|⟨h1,h2⟩
    .exact ⟨nd0,ce,he,oneC_true (by rw [hg]; exact h1) (i1 h3),fun hn=>Nd.iv (by have:=Nd.lv hn; rw [G.on_eq] at this; exact this) h1⟩
    .obtain ⟨nd2,x,q1,q2,q3⟩:=i2 e h2
     exact ⟨nd2,x,q1,oneC_false (by rw [hg]; exact h1) q2,fun hn=>q3 (Nd.rv hn)⟩
  .cases e
theorem deferF_ok (co:CtxOk C) (ro:RecOk C r) {f:FuncId} {args:List AV} {p:Option AV} {h k:Hp} {nd:Nd} (e:deferF C r f args p h=some (nd,k)) (hn:nd.val) {σ:Sg} {A:Array Value} {W:World} (g:GRel C σ) (hr:HRel σ h W) (ha:VRels σ args A.toList)
  {PV:Option Value} (hp:PanRel p PV) (c0:Frame) (hm:c0.mode=panM PV) (cs:List Frame):
  (∃ fn:Func,C.P.funcs[f]?=some fn/\fn.body.isSome=true)/\∃ τ X fr v,HRel τ k X/\Good σ h W τ k X/\Steps C.P (lone (Frame.enter C.P f A .deferred) (c0 :: cs) W) (lone fr ({ c0 with mode:=recM PV } :: cs) X)/\fr.kind=.deferred/\fr.going C.P X (.returned v):=by
 unfold deferF at e
 split at e
 .cases e
 rename_i fn hfn
 split at e
 .cases e
 rename_i c hbody
 refine ⟨⟨fn,hfn,by simp [hbody]⟩,?_⟩
 simp only [forceNat_eq] at e
 split at e
 .cases e
 rename_i q hq
 split at e
 .cases e
 rename_i nd1 l hl
 split at e
 case h_2=>cases e
 rename_i v' k' hlo
 cases e
 have hlen:A.size=args.length:=by simpa using ha.length
 have sr0:SRel σ ⟨argT args++undefT (fn.ntmps - args.length),[],h⟩ (A++Array.replicate (fn.ntmps - A.size) undef) [] W:=by
  refine ⟨?_,rfl,hr⟩
  unfold TRel
  simp only [List.map_append,argT_map,Array.toList_append,Array.toList_replicate,hlen]
  exact VRels.append ha (undefT_rel _)
 obtain ⟨sr,st0⟩:=tick_step sr0
 have hfr:Frame.enter C.P f A .deferred=(Base.mk f .deferred none).fr (A++Array.replicate (fn.ntmps - A.size) undef) [] [.code c]:=by
  simp [Frame.enter,Base.fr,hfn,hbody]
 obtain ⟨e0,h1,τ,T,D,V,r1,st1,ar⟩:=recF_ok co ro (fr:=⟨f,none⟩) (Base.mk f .deferred none) rfl cs c0 hp hm c _ q hq σ _ [] W [] g sr ⟨rfl,rfl⟩ (Nd.lv hn)
 obtain ⟨nd0,x,q1,q2,q3⟩:=(endsD_one hl).2 e0 h1
 have hnd:=q3 (Nd.rv hn)
 obtain ⟨hx,h2,vs,hd,hv,rfl⟩:=endD_spec q1
 have left:∃ todo,Steps C.P (lone (Frame.enter C.P f A .deferred) (c0 :: cs) W) (lone ((Base.mk f .deferred none).back T D todo) ({ c0 with mode:=recM PV } :: cs) V):=by
  rw [hfr]
  rcases hx with hx|hx
  .rw [hx] at ar; exact ⟨[],ar.trans (.one (st_over rfl))⟩
  .rw [hx] at ar; obtain ⟨k1,ar⟩:=ar; exact ⟨_,ar.trans (.one (st_ret rfl))⟩
 obtain ⟨todo,hsteps⟩:=left
 obtain ⟨X,p1,p2,p3⟩:=runDefs_ok (P:=C.P) (b:=Base.mk f .deferred none) (T:=T) (k:=todo) (cs:={ c0 with mode:=recM PV } :: cs) hd r1.d r1.h
 obtain ⟨Y,p4,p5⟩:=results_ok r1.t p2 hv hnd
 obtain ⟨υ,s1,s2,s3⟩:=gc_rel sr.h p2 (st1.good.trans r1.h.ok p2.ok p3) (v:=.nil) (V:=.pointer none) rfl
 have fin:GotC (PostP σ ⟨h.blks,h.size,h.clock+1⟩ W fun _ _ X=>∃ fr v,Steps C.P (lone (Frame.enter C.P f A .deferred) (c0 :: cs) W) (lone fr ({ c0 with mode:=recM PV } :: cs) X)/\fr.kind=.deferred/\fr.going C.P X (.returned v)) l:=
  ⟨_,q2,υ,.pointer none,X,(by
   have:(gc h.size (h.clock+1) .nil h2).1=.nil:=by
    unfold gc
    split
    .rfl
    .simp only
     split
     .rfl
     .rfl
   rw [this] at s1; exact s1),s2,s3,_,Y,hsteps.trans p1,rfl,rfl,rfl,fn,hfn,p4⟩
 obtain ⟨en,t1,τ',V',X',t2,t3,t4,fr,v,t5,t6,t7⟩:=lone2_got ((joinC_got (postP_closed sr.h _)).1 fin)
 rw [hlo] at t1
 have:en=⟨.tt,v',k⟩:=by
  unfold OneC at t1
  simp [G.val] at t1
  exact t1.symm
 subst this
 exact ⟨τ',X',fr,v,t3,st0.good.trans sr.h.ok t3.ok t4,t5,t6,t7⟩
theorem runPut_ok (co:CtxOk C) (ro:RecOk C r) {b:Base} {T:Array Value} {k:List Item} {cs:List Frame}:∀ {ds:List ADef} {p:Option AV} {h:Hp} {nd:Nd} {p':Option AV} {h':Hp},runPut C r ds p h=some (nd,p',h')->nd.val ->
  ∀ {σ:Sg} {D:List Deferred} {W:World} {PV:Option Value},GRel C σ->DRel σ ds D->HRel σ h W->PanRel p PV ->
  ∃ τ X PV',PanRel p' PV'/\Steps C.P (lone (b.out (panM PV) T D k) cs W) (lone (b.out (panM PV') T [] k) cs X)/\HRel τ h' X/\Good σ h W τ h' X
 | [],p,h,nd,p',h',e,hn,σ,D,W,PV,g,hd,hr,hp=>by
  cases e
  rw [show D=[] from hd]
  exact ⟨σ,W,PV,hp,.refl _ _,hr,Good.refl σ h W fun i B N h=>(hr.dom i B N h).1⟩
 | .collected i :: ds,p,h,nd,p',h',e,hn,σ,D,W,PV,g,⟨B,N,E,h1,h2,h3⟩,hr,hp=>by
  simp only [runPut] at e
  split at e
  .rename_i w hg
   rw [Hp.set_eq] at e
   obtain ⟨B',N',o,q1,q2,q3⟩:=hr.blk i _ hg rfl
   rw [h1] at q1; cases q1
   have ho:o=.deferred (some []):=by simpa [BRel] using q3
   subst ho
   have hlt:B<W.heap.size:=(Array.getElem?_eq_some_iff.1 q2).1
   obtain ⟨r1,g1⟩:=hr.write (V:={ W with heap:=W.heap.setIfInBounds B (.deferred none) }) hg rfl h1 (.defers true) (loopKept_of fun c h=>by cases h) (.deferred none)
    (by simp [hlt]) (by simp [BRel]) (by simp) (fun k hk=>by simp [Array.getElem?_setIfInBounds,Ne.symm hk]) rfl rfl rfl
   obtain ⟨τ,X,PV',k1,k2,k3,k4⟩:=runPut_ok co ro (b:=b) (T:=T) (k:=k) (cs:=cs) e hn g h3 r1 hp
   exact ⟨τ,X,PV',k1,.head (by rw [h2]; exact st_takenM q2) k2,k3,g1.trans r1.ok k3.ok k4⟩
  .cases e
 | .call f as :: ds,p,h,nd,p',h',e,hn,σ,D,W,PV,g,⟨F,K,E,h1,h2,h3⟩,hr,hp=>by
  simp only [runPut] at e
  split at e
  .cases e
  rename_i nd1 k1 hdf
  split at e
  .cases e
  rename_i m p2 k2 hrest
  cases e
  obtain ⟨⟨fn,hfn,hbody⟩,τ,X,fr,v,r1,g1,s1,hk,hgo⟩:=deferF_ok co ro hdf (Nd.lv hn) g hr h1 hp (b.out (panM PV) T E k) rfl cs
  have hinv:(invoke (.fn (.func f) K) F).run C.P W=.ok (.enter f (F++K)) W:=by
   simp only [invoke]
   exact run_callFunc co.prog hfn hbody _ W
  have st1:step C.P (lone (b.out (panM PV) T D k) cs W)=.next (lone (Frame.enter C.P f (F++K) .deferred) (b.out (panM PV) T E k :: cs) W):=by
   rw [h2]
   exact step_defer (fr:=b.out (panM PV) T ({ target:=.fn (.func f) K,args:=F } :: E) k) (ds:=E) (by cases PV <;> simp [Base.out,panM]) rfl rfl hinv
  have st2:=step_going_returned (P:=C.P) (c:={ b.out (panM PV) T E k with mode:=recM PV }) (cs:=cs) hk hgo
  have hset:({ ({ b.out (panM PV) T E k with mode:=recM PV }:Frame) with mode:=settle (recM PV) }:Frame)=b.out (panM none) T E k:=by
   rw [settle_recM]; rfl
  simp only at st2
  rw [hset] at st2
  obtain ⟨υ,Y,PV',l1,l2,l3,l4⟩:=runPut_ok co ro (b:=b) (T:=T) (k:=k) (cs:=cs) hrest (Nd.rv hn) (PV:=none) (g.mono g1.sub) (DRel.mono g1.sub h3) r1 trivial
  exact ⟨υ,Y,PV',l1,.head st1 ((s1.trans (.one st2)).trans l2),l3,g1.trans r1.ok l3.ok l4⟩
end recs
end Go.Eng
namespace Go.Eng
theorem retL_one {C:Ctx} {r:Rec} {n c:Nat} {fn:Func}:∀ {l:List Ent} {nd:Nd} {m:List CEnt},retL C r n c fn l=some (nd,m)->(Non l->NonC m)/\∀ e,One l e->∃ nd0 v h,retE C r n c fn e=some (nd0,⟨e.g,v,h⟩)/\OneC m ⟨e.g,v,h⟩/\(nd.val->nd0.val)
 | [],nd,m,e=>by cases e; exact ⟨fun _=>rfl,fun e h=>by simp [One] at h⟩
 | a :: l,nd,m,e=>by
  simp only [retL] at e
  split at e
  .rename_i nd0 ce nd1 m1 he hl
   cases e
   obtain ⟨i1,i2⟩:=retL_one hl
   have hg:ce.g=a.g:=by
    unfold retE at he
    split at he
    .cases he
    .split at he
     .cases he
     .cases he; rfl
     .split at he
      .cases he
      .simp only at he
       split at he
       .cases he
       .cases he; rfl
   obtain ⟨cg,cv,ch⟩:=ce
   simp only at hg
   subst hg
   refine ⟨fun h=>?_,fun e h=>?_⟩
   .obtain ⟨h1,h2⟩:=non_cases h
    exact nonC_cons h1 (i1 h2)
   .rcases one_cases h with ⟨h1,rfl,h3⟩|⟨h1,h2⟩
    .exact ⟨nd0,cv,ch,he,oneC_true h1 (i1 h3),fun hn=>Nd.iv (by have:=Nd.lv hn; rw [G.on_eq] at this; exact this) h1⟩
    .obtain ⟨nd2,v,hh,q1,q2,q3⟩:=i2 e h2
     exact ⟨nd2,v,hh,q1,oneC_false h1 q2,fun hn=>q3 (Nd.rv hn)⟩
  .cases e
theorem ren_panic (ρ:Nat->Nat) (v:AV):(v.ren ρ).isPanic=v.isPanic:=by cases v <;> rfl
theorem gc_panic (n c:Nat) (v:AV) (h:Hp):(gc n c v h).1.isPanic=v.isPanic:=by
 unfold gc
 split
 .rfl
 .simp only
  split
  .split
   .rfl
   .split
    .exact ren_panic _ v
    .rfl
  .rfl
theorem callF_ok {C:Ctx} {r:Rec} (co:CtxOk C) (ro:RecOk C r) {f:FuncId} {args:List AV} {h:Hp} {q:CR} (e:callF C r f args h=some q):CallOut C f args h q/\∃ fn:Func,C.P.funcs[f]?=some fn/\fn.body.isSome=true:=by
 unfold callF at e
 split at e
 .cases e
 .rename_i fn hfn
  split at e
  .cases e
  .rename_i c hbody
   refine ⟨?_,fn,hfn,by simp [hbody]⟩
   simp only [forceNat_eq] at e
   split at e
   .cases e
   .rename_i q' hq'
    split at e
    .cases e
    .rename_i nd l hl
     cases e
     intro σ A W g hr ha hn cs
     have hlen:A.size=args.length:=by simpa using ha.length
     have sr0:SRel σ ⟨argT args++undefT (fn.ntmps - args.length),[],h⟩ (A++Array.replicate (fn.ntmps - A.size) undef) [] W:=by
      refine ⟨?_,rfl,hr⟩
      unfold TRel
      simp only [List.map_append,argT_map,Array.toList_append,Array.toList_replicate,hlen]
      exact VRels.append ha (undefT_rel _)
     obtain ⟨sr,st0⟩:=tick_step sr0
     have hfr:Frame.enter C.P f A .normal=(Base.mk f .normal none).fr (A++Array.replicate (fn.ntmps - A.size) undef) [] [.code c]:=by
      simp [Frame.enter,Base.fr,hfn,hbody]
     obtain ⟨e0,h1,τ,T,D,V,r1,st1,ar⟩:=ro.code _ _ _ _ hq' σ _ [] W g sr (Base.mk f .normal none) [] _ cs (.inl rfl) ⟨rfl,rfl⟩ (Nd.lv hn)
     obtain ⟨nd0,v,hh,q1,q2,q3⟩:=(retL_one hl).2 e0 h1
     have hnd:=q3 (Nd.rv hn)
     unfold retE at q1
     split at q1
     .cases q1
     rename_i p hp
     have left:∃ PV todo,PanRel p PV/\Steps C.P (lone (Frame.enter C.P f A .normal) cs W) (lone ((Base.mk f .normal none).out (panM PV) T D todo) cs V):=by
      rw [hfr]
      cases hx:e0.x with
      | exit i=>rw [hx] at hp; cases hp
      | goto i=>rw [hx] at hp; cases hp
      | normal=>rw [hx] at hp ar; cases hp; exact ⟨none,[],trivial,ar.trans (.one (st_over rfl))⟩
      | ret=>rw [hx] at hp ar; cases hp; obtain ⟨k1,ar⟩:=ar; exact ⟨none,_,trivial,ar.trans (.one (st_ret rfl))⟩
      | raise a=>rw [hx] at hp ar; cases hp; obtain ⟨k1,V1,hV1,ar⟩:=ar; exact ⟨some V1,k1,hV1,ar⟩
     obtain ⟨PV,todo,hpr,hsteps⟩:=left
     have fin:GotC (PostP σ ⟨h.blks,h.size,h.clock+1⟩ W fun pn V X=>∃ fr,Steps C.P (lone (Frame.enter C.P f A .normal) cs W) (lone fr cs X)/\OutsB C.P f fr pn V X) l:=by
      split at q1
      .cases q1
      .rename_i nd1 a h2 hd
       simp only [Option.some.injEq,Prod.mk.injEq,CEnt.mk.injEq] at q1
       obtain ⟨rfl,-,rfl,rfl⟩:=q1
       obtain ⟨τ',X,PV',k1,k2,k3,k4⟩:=runPut_ok co ro hd hnd (b:=Base.mk f .normal none) (T:=T) (k:=todo) (cs:=cs) (g.mono st1.good.sub) r1.d r1.h hpr
       cases PV' with
       | none=>exact k1.elim
       | some V'=>
        obtain ⟨υ,s1,s2,s3⟩:=gc_rel sr.h k3 (st1.good.trans r1.h.ok k3.ok k4) (v:=.panic a) (V:=V') (VRel.anywhere k1)
        refine ⟨_,q2,υ,V',X,s1,s2,s3,_,hsteps.trans k2,?_⟩
        rw [gc_panic]
        exact ⟨rfl,rfl,fn,hfn⟩
      .rename_i nd1 h2 hd
       split at q1
       .cases q1
       .rename_i m vs hv
        simp only at q1
        split at q1
        .cases q1
        .rename_i hpan
         simp only [Option.some.injEq,Prod.mk.injEq,CEnt.mk.injEq] at q1
         obtain ⟨rfl,-,rfl,rfl⟩:=q1
         obtain ⟨τ',X,PV',k1,k2,k3,k4⟩:=runPut_ok co ro hd (Nd.lv hnd) (b:=Base.mk f .normal none) (T:=T) (k:=todo) (cs:=cs) (g.mono st1.good.sub) r1.d r1.h hpr
         cases PV' with
         | some V'=>exact k1.elim
         | none=>
          obtain ⟨Y,p4,p5⟩:=results_ok (TRel.mono k4.sub r1.t) k3 hv (Nd.rv hnd)
          obtain ⟨υ,s1,s2,s3⟩:=gc_rel sr.h k3 (st1.good.trans r1.h.ok k3.ok k4) p5
          refine ⟨_,q2,υ,Y,X,s1,s2,s3,_,hsteps.trans k2,?_⟩
          rw [gc_panic,hpan]
          exact ⟨rfl,rfl,rfl,rfl,fn,hfn,p4⟩
     obtain ⟨en,t1,τ',V',X',t2,t3,t4,fr,t5,t6⟩:=lone2_got ((joinC_got (postP_closed sr.h _)).1 fin)
     exact ⟨en,t1,τ',V',X',fr,t2,t3,st0.good.trans sr.h.ok t3.ok t4,t5,t6⟩
end Go.Eng
namespace Go.Eng
theorem run_getObj {P:Program} {B:Nat} {L:Loop} {W:World} (h:W.heap[B]?=some (.loop L)):(getObj B).run P W=.ok (.loop L) W:=by simp only [getObj,Sem.run,h]
theorem run_setObj {P:Program} {B:Nat} {L:Loop} {o':Obj} {W:World} (h:W.heap[B]?=some (.loop L)):(setObj B o').run P W=.ok () { W with heap:=W.heap.setIfInBounds B o' }:=by
 simp only [setObj,Sem.run,h]
theorem run_getLoop {P:Program} {B:Nat} {L:Loop} {W:World} (h:W.heap[B]?=some (.loop L)):(Instr.getLoop B).run P W=.ok L W:=by
 simp only [Instr.getLoop,Sem.run_bind,run_getObj h,Result.andThen_ok,Sem.run_pure]
theorem setPar_rel {σ:Sg}:∀ {ps:List Tmp} {as:List AV} {t t':List AT} {T:Array Value} {As:List Value},setPar ps as t=some t'->TRel σ t T->VRels σ as As ->
  TRel σ t' ((ps.zip As).foldl (fun T p=>T.setIfInBounds p.1 p.2) T)/\ps.length=As.length
 | [],[],t,t',T,As,e,ht,ha=>by
  cases e
  rw [show As=[] from ha]
  exact ⟨ht,rfl⟩
 | [],a :: as,t,t',T,As,e,ht,ha=>by cases e
 | p :: ps,[],t,t',T,As,e,ht,ha=>by cases e
 | p :: ps,a :: as,t,t',T,As,e,ht,⟨v,vs,h1,h2,h3⟩=>by
  subst h1
  simp only [setPar,setC_eq] at e
  have h4:TRel σ (t.set p ⟨0,a⟩) (T.setIfInBounds p v):=by
   unfold TRel
   have:=VRels.set p ht h2
   simpa [List.map_set] using this
  obtain ⟨h5,h6⟩:=setPar_rel e h4 h3
  exact ⟨by simpa using h5,by simp [h6]⟩
theorem run_yield {P:Program} {B:Nat} {L:Loop} {W:World} (h:W.heap[B]?=some (.loop L)) {A:Array Value} (hs:L.params.toList.length=A.toList.length):
  (Instr.yield B A).run P W=.ok (.round B L.fn ((L.params.toList.zip A.toList).foldl (fun T p=>T.setIfInBounds p.1 p.2) L.tmps) L.assign L.body) W:=by
 have hs':A.size=L.params.size:=by simpa using hs.symm
 have:(L.params.zip A).foldl (fun tmps (x:Tmp×Value)=>tmps.setIfInBounds x.1 x.2) L.tmps=(L.params.toList.zip A.toList).foldl (fun T p=>T.setIfInBounds p.1 p.2) L.tmps:=by
  rw [<- Array.foldl_toList,Array.toList_zip]
 simp only [Instr.yield,Sem.run_bind,run_getLoop h,Result.andThen_ok,hs',ne_eq,not_true_eq_false,if_false,Sem.run_pure]
 rw [<- this]
section rounds
variable {P:Program} {b:Base} {T:Array Value} {D:List Deferred} {k:List Item} {cs:List Frame} {W:World} {B:Nat} {L:Loop}
theorem st_begin (hb:b.round=some B) (h:W.heap[B]?=some (.loop L)) (hl:L.state=.ready):
  step P (lone (b.fr T D (.beginRound :: k)) cs W)=.next (lone (b.fr T D k) cs { W with heap:=W.heap.setIfInBounds B (.loop { L with state:=.busy }) }):=by
 have hr:(Instr.beginRound B).run P W=.ok () { W with heap:=W.heap.setIfInBounds B (.loop { L with state:=.busy }) }:=by
  simp only [Instr.beginRound,Sem.run_bind,run_getLoop h,Result.andThen_ok,run_setObj h,hl,Sem.run_pure]
 refine step_lone_go ?_
 simp [stepG,stepG.exec,stepG.apply,Base.fr,hb,hr,Frame.finish]
def roundEnd (L:Loop) (j:Option Code):Loop:={ L with state:=if j.isNone then .ready else .done,pending:=j }
theorem run_endRound (h:W.heap[B]?=some (.loop L)) (j:Option Code):(Instr.endRound B j).run P W=.ok (.bool j.isNone) { W with heap:=W.heap.setIfInBounds B (.loop (roundEnd L j)) }:=by
 simp only [Instr.endRound,Sem.run_bind,run_getLoop h,Result.andThen_ok,run_setObj h,Sem.run_pure]; rfl
theorem st_end_normal {c:Frame} (hb:b.round=some B) (hk:b.kind=.normal) (h:W.heap[B]?=some (.loop L)):
  step P (lone (b.fr T D []) (c :: cs) W)=.next (lone (c.finish (.bool true)) cs { W with heap:=W.heap.setIfInBounds B (.loop (roundEnd L none)) }):=by
 have hr:=run_endRound (P:=P) h none
 refine step_lone_go ?_
 simp [stepG,stepG.exec,Base.fr,hb,hr,hk,doReturn]
theorem st_end_jump {c:Frame} (hb:b.round=some B) (hk:b.kind=.normal) (h:W.heap[B]?=some (.loop L)) {j:Code} (hj:j=.ret\/(∃ i,j=.exit i/\exitTo i k=none)\/(∃ i,j=.goto i/\gotoIn i k=none)):
  step P (lone (b.fr T D (.code j :: k)) (c :: cs) W)=.next (lone (c.finish (.bool false)) cs { W with heap:=W.heap.setIfInBounds B (.loop (roundEnd L (some j))) }):=by
 have hr:=run_endRound (P:=P) h (some j)
 refine step_lone_go ?_
 rcases hj with rfl|⟨i,rfl,h1⟩|⟨i,rfl,h1⟩
 .simp [stepG,stepG.exec,Base.fr,hb,hr,hk,doReturn]
 .simp [stepG,stepG.exec,Base.fr,hb,hr,hk,doReturn,h1]
 .simp [stepG,stepG.exec,Base.fr,hb,hr,hk,doReturn,h1]
end rounds
theorem loop_write {σ:Sg} {h:Hp} {W:World} (r:HRel σ h W) {l B N w:Nat} {a:ALoop} (hg:h.get l=some ⟨w,.loop a⟩) (hσ:σ l=some (B,N)):
  ∃ L,W.heap[B]?=some (.loop L)/\BRel σ N (.loop a) (.loop L)/\∀ (st:LoopState) (pd:Option Code),
   HRel σ (h.put l (.loop { a with state:=st,pending:=pd })) { W with heap:=W.heap.setIfInBounds B (.loop { L with state:=st,pending:=pd }) } /\
   Good σ h W σ (h.put l (.loop { a with state:=st,pending:=pd })) { W with heap:=W.heap.setIfInBounds B (.loop { L with state:=st,pending:=pd }) }:=by
 obtain ⟨B',N',o,q1,q2,q3⟩:=r.blk l _ hg rfl
 rw [hσ] at q1; cases q1
 obtain ⟨L,rfl,h1,h2,h3,h4,h5,h6,h7,h8⟩:=q3
 refine ⟨L,q2,⟨L,rfl,h1,h2,h3,h4,h5,h6,h7,h8⟩,fun st pd=>?_⟩
 have hlt:B<W.heap.size:=(Array.getElem?_eq_some_iff.1 q2).1
 exact r.write hg rfl hσ (.loop { a with state:=st,pending:=pd }) (fun c e=>by cases e; exact ⟨st,pd,rfl⟩) (.loop { L with state:=st,pending:=pd })
  (by simp [hlt]) ⟨_,rfl,rfl,rfl,h3,h4,h5,h6,h7,h8⟩ (by simp) (fun k hk=>by simp [Array.getElem?_setIfInBounds,Ne.symm hk]) rfl rfl rfl
end Go.Eng
namespace Go.Eng
theorem endRoundL_one {n c l:Nat}:∀ {es:List Ent} {m:List CEnt},endRoundL n c l es=some m->(Non es->NonC m)/\∀ e,One es e->∃ v h,endRoundE n c l e=some ⟨e.g,v,h⟩/\OneC m ⟨e.g,v,h⟩
 | [],m,e=>by cases e; exact ⟨fun _=>rfl,fun e h=>by simp [One] at h⟩
 | a :: es,m,e=>by
  simp only [endRoundL] at e
  split at e
  .rename_i ce m1 he hl
   cases e
   obtain ⟨i1,i2⟩:=endRoundL_one hl
   have hg:ce.g=a.g:=by
    unfold endRoundE at he
    split at he
    .split at he
     .rw [Hp.set_eq] at he; cases he; rfl
     .cases he
     .rw [Hp.set_eq] at he; cases he; rfl
    .cases he
   obtain ⟨cg,cv,ch⟩:=ce
   simp only at hg
   subst hg
   refine ⟨fun h=>?_,fun e h=>?_⟩
   .obtain ⟨h1,h2⟩:=non_cases h
    exact nonC_cons h1 (i1 h2)
   .rcases one_cases h with ⟨h1,rfl,h3⟩|⟨h1,h2⟩
    .exact ⟨cv,ch,he,oneC_true h1 (i1 h3)⟩
    .obtain ⟨v,hh,q1,q2⟩:=i2 e h2
     exact ⟨v,hh,q1,oneC_false h1 q2⟩
  .cases e
theorem Good.dom {σ:Sg} {h:Hp} {W:World} (r:HRel σ h W):Good σ h W σ h W:=Good.refl σ h W fun i B N h=>(r.dom i B N h).1
theorem yieldF_ok {C:Ctx} {r:Rec} (ro:RecOk C r) {l:Nat} {args:List AV} {h:Hp} {q:CR} (e:yieldF r l args h=some q):YieldOk C l args h q:=by
 unfold yieldF at e
 split at e
 .rename_i w a hg
  split at e
  .cases e
  .rename_i t ht
   simp only [forceNat_eq] at e
   split at e
   .rename_i nd s hcode
    split at e
    .rename_i w2 b2 hg2
     split at e
     .rename_i hst
      rw [Hp.set_eq] at e
      split at e
      .cases e
      .rename_i q' hbody
       split at e
       .cases e
       .rename_i m hm
        cases e
        intro σ A W B N g hr hσ ha hn c cs
        obtain ⟨L,hL,⟨L',e1,f1,f2,f3,f4,f5,f6,f7,f8⟩,-⟩:=loop_write hr hg hσ
        cases e1
        obtain ⟨tr,hlen⟩:=setPar_rel ht f4 ha
        rw [<- f5] at tr hlen
        have hy:=run_yield (P:=C.P) hL hlen
        generalize hTT:(L.params.toList.zip A.toList).foldl (fun (T:Array Value) (p:Tmp×Value)=>T.setIfInBounds p.1 p.2) L.tmps=TT at hy tr
        have sr0:SRel σ ⟨t,[],h⟩ TT [] W:=⟨tr,rfl,hr⟩
        obtain ⟨sr,st0⟩:=tick_step sr0
        let b:Base:=⟨L.fn,.normal,some B⟩
        have hfb:FrRel σ ⟨a.fn,some l⟩ b:=⟨f3,B,N,hσ,rfl⟩
        obtain ⟨e0,h1,τ,T1,D1,V1,r1,st1,ar⟩:=ro.code _ _ _ _ hcode σ TT [] W g sr b [.beginRound,.code L.body] _ (c :: cs) (.inl rfl) hfb (Nd.lv hn)
        rcases one_cases h1 with ⟨_,rfl,_⟩|⟨_,h3⟩
        .rw [<- f6] at ar
         have ar:Steps C.P (lone (b.fr TT [] [.code L.assign,.beginRound,.code L.body]) (c :: cs) W) (lone (b.fr T1 D1 [.beginRound,.code L.body]) (c :: cs) V1):=ar
         have hσ1:=st1.good.sub _ _ hσ
         obtain ⟨L1,k1,⟨_,e2,k2,k3,k4,k5,k6,k7,k8,k9⟩,wr⟩:=loop_write r1.h hg2 hσ1
         cases e2
         obtain ⟨r2,g2⟩:=wr .busy b2.pending
         have hput:(ABody.loop { b2 with state:=.busy,pending:=b2.pending })=.loop { b2 with state:=.busy }:=rfl
         have hw:({ L1 with state:=LoopState.busy,pending:=b2.pending }:Loop)={ L1 with state:=LoopState.busy }:=by rw [<- k3]
         rw [hw] at r2 g2
         have hbeg:=st_begin (P:=C.P) (b:=b) (T:=T1) (D:=D1) (k:=[.code L.body]) (cs:=c :: cs) rfl k1 (k2.trans hst)
         have r2':SRel τ ⟨s.tmps,s.defs,s.hp.put l (.loop { b2 with state:=.busy })⟩ T1 D1 { V1 with heap:=V1.heap.setIfInBounds B (.loop { L1 with state:=.busy }) }:=⟨r1.t,r1.d,r2⟩
         have hmon:=st1.good.mon.loop l w a (by
          have:(⟨h.blks,h.size,h.clock+1⟩:Hp).get l=h.get l:=by rw [Hp.get_eq,Hp.get_eq]
          simp only; rw [this]; exact hg)
         obtain ⟨w',st',pd',hgl⟩:=hmon
         simp only at hgl
         rw [hg2] at hgl
         have hb2:b2={ a with state:=st',pending:=pd' }:=by cases hgl; rfl
         have hbd:b2.body=L.body:=by rw [hb2]; exact f7.symm
         obtain ⟨e3,h3,υ,T3,D3,V3,r3,st3,ar3⟩:=ro.code _ _ _ _ hbody τ T1 D1 _ (g.mono st1.good.sub) r2' b [] _ (c :: cs) (.inl rfl) (hfb.mono st1.good.sub) (Nd.rv hn)
         rw [hbd] at ar3
         obtain ⟨v,hh,q1,q2⟩:=(endRoundL_one hm).2 e3 h3
         have hσ3:=st3.good.sub _ _ hσ1
         have good3:Good σ ⟨h.blks,h.size,h.clock+1⟩ W υ e3.s.hp V3:=(st1.good.trans r1.h.ok r2.ok g2).trans r2.ok r3.h.ok st3.good
         have begun:=ar.trans (.one hbeg)
         have fin:GotC (PostP σ ⟨h.blks,h.size,h.clock+1⟩ W fun pn V X=>pn=false/\Steps C.P (lone (b.fr TT [] [.code L.assign,.beginRound,.code L.body]) (c :: cs) W) (lone (c.finish V) cs X)) m:=by
          refine ⟨_,q2,?_⟩
          unfold endRoundE at q1
          split at q1
          .rename_i w4 a4 hg4
           obtain ⟨L4,m1,_,wr4⟩:=loop_write r3.h hg4 hσ3
           split at q1
           .rename_i hx
            rw [Hp.set_eq] at q1
            simp only [Option.some.injEq,CEnt.mk.injEq] at q1
            obtain ⟨-,rfl,rfl⟩:=q1
            obtain ⟨r5,g5⟩:=wr4 .ready none
            obtain ⟨φ,s1,s2,s3⟩:=gc_rel (v:=.bool false true) (V:=.bool true) sr.h r5 (good3.trans r3.h.ok r5.ok g5) rfl
            rw [hx] at ar3
            exact ⟨φ,.bool true,_,rfl,s2,s3,rfl,(begun.trans ar3).trans (.one (st_end_normal rfl rfl m1))⟩
           .cases q1
           .rename_i x hxr hx
            rw [Hp.set_eq] at q1
            simp only [Option.some.injEq,CEnt.mk.injEq] at q1
            obtain ⟨-,rfl,rfl⟩:=q1
            obtain ⟨r5,g5⟩:=wr4 .done (exJump e3.x)
            obtain ⟨φ,s1,s2,s3⟩:=gc_rel (v:=.bool false false) (V:=.bool false) sr.h r5 (good3.trans r3.h.ok r5.ok g5) rfl
            refine ⟨φ,.bool false,_,rfl,s2,s3,rfl,?_⟩
            cases hx2:e3.x with
            | normal=>exact absurd hx2 hxr
            | raise a=>exact absurd hx2 (hx a)
            | ret=>
             rw [hx2] at ar3
             obtain ⟨k1,ar3⟩:=ar3
             exact (begun.trans ar3).trans (.one (st_end_jump rfl rfl m1 (.inl rfl)))
            | exit i=>
             rw [hx2] at ar3
             obtain ⟨k1,p1,ar3⟩:=ar3
             exact (begun.trans ar3).trans (.one (st_end_jump rfl rfl m1 (.inr (.inl ⟨i,rfl,p1⟩))))
            | goto i=>
             rw [hx2] at ar3
             obtain ⟨k1,p1,ar3⟩:=ar3
             exact (begun.trans ar3).trans (.one (st_end_jump rfl rfl m1 (.inr (.inr ⟨i,rfl,p1⟩))))
          .cases q1
         obtain ⟨en,t1,τ',V',X',t2,t3,t4,tp,t5⟩:=lone2_got ((joinC_got (postP_closed sr.h _)).1 fin)
         refine ⟨en,t1,tp,τ',V',X',L.fn,TT,L.assign,L.body,t2,t3,st0.good.trans sr.h.ok t3.ok t4,hy,t5⟩
        .simp [One] at h3
     .cases e
    .cases e
   .cases e
 .cases e
end Go.Eng
namespace Go.Eng
theorem endLoopL_one {s:St} {l:Nat}:∀ {es:List CEnt} {m:List Ent},endLoopL s l es=some m->(NonC es->Non m)/\∀ e,OneC es e->∃ x s',endLoopE s l e=some ⟨e.g,x,s'⟩/\One m ⟨e.g,x,s'⟩
 | [],m,e=>by cases e; exact ⟨fun _=>rfl,fun e h=>by simp [OneC] at h⟩
 | a :: es,m,e=>by
  simp only [endLoopL] at e
  split at e
  .rename_i ce m1 he hl
   cases e
   obtain ⟨i1,i2⟩:=endLoopL_one hl
   have hg:ce.g=a.g:=by
    unfold endLoopE at he
    split at he
    .cases he
    split at he
    .split at he
     .cases he
     .split at he
      .cases he
      .rw [Hp.set_eq] at he; cases he; rfl
    .cases he
   obtain ⟨cg,cx,cs⟩:=ce
   simp only at hg
   subst hg
   refine ⟨fun h=>?_,fun e h=>?_⟩
   .obtain ⟨h1,h2⟩:=nonC_cases h
    exact non_cons h1 (i1 h2)
   .rcases oneC_cases h with ⟨h1,rfl,h3⟩|⟨h1,h2⟩
    .exact ⟨cx,cs,he,one_cons_true h1 (i1 h3)⟩
    .obtain ⟨v,hh,q1,q2⟩:=i2 e h2
     exact ⟨v,hh,q1,one_cons_false h1 q2⟩
  .cases e
theorem run_new {P:Program} {o:Obj} {W:World}:(newObj o).run P W=.ok W.heap.size (W.alloc o):=rfl
section ranges
variable {P:Program} {b:Base} {T:Array Value} {D:List Deferred} {k:List Item} {cs:List Frame} {W:World}
theorem st_range {f:Operand} {params:Array Tmp} {assign body:Code} {B:Nat} {mark:List Deferred} {X:World} (h:(Instr.enterLoop b.fn T params assign body b.round).run P W=.ok (B,mark) X)
  {g:FuncId} {F K:Array Value} (hf:ev T f=.func (.func g) F K) {fn:Func} (hfn:P.funcs[g]?=some fn) (hb:fn.body.isSome=true) (hp:ProgOk P):
  step P (lone (b.fr T D (.code (.rangeFunc f params assign body) :: k)) cs W)=.next (lone (Frame.enter P g (F++#[.func (.yield B) #[] #[]]++K) .normal) (b.fr T (mark++D) (.inRangeFunc B :: k) :: cs) X):=by
 refine step_lone_go ?_
 have he:=eval_fr' (b:=b) (T:=T) (D:=mark++D) (.inRangeFunc B :: k)
 have hc:=run_callFunc hp hfn hb (F++#[.func (.yield B) #[] #[]]++K) X
 have hex:(do let d<-resolve (b.fr T (mark++D) (.inRangeFunc B :: k)).eval { callee:=.value f,args:=#[.const (.func (.yield B) #[] #[])],argTypes:=#[] } 0; invoke d.target d.args:Sem Next).run P X=.ok (.enter g (F++#[.func (.yield B) #[] #[]]++K)) X:=by
  rw [he]
  have:ev T (.const (.func (.yield B) #[] #[]))=.func (.yield B) #[] #[]:=rfl
  simp only [resolve,hf,Deferred.ofValue,Sem.run_bind,Sem.run_pure,Result.andThen_ok,invoke,List.map_toArray,List.map_cons,List.map_nil,this]
  exact hc
 simp only [Base.fr] at hex
 simp [stepG,stepG.exec,Base.fr,h,stepG.apply,hex]
theorem run_endLoop {B:Nat} {L:Loop} (h:W.heap[B]?=some (.loop L)) (hs:L.state≠.busy):(Instr.endLoop B).run P W=.ok L.pending { W with heap:=W.heap.setIfInBounds B (.loop { L with state:=.exhausted }) }:=by
 have:(L.state==LoopState.busy)=false:=by cases e:L.state <;> simp_all <;> rfl
 simp only [Instr.endLoop,Sem.run_bind,run_getLoop h,Result.andThen_ok,this,Bool.false_eq_true,if_false,Sem.run_pure,run_setObj h]
theorem st_endRange {B:Nat} {L:Loop} (h:W.heap[B]?=some (.loop L)) (hs:L.state≠.busy):
  step P (lone (b.fr T D (.endRangeFunc B :: k)) cs W)=.next (lone (b.fr T D ((L.pending.map Item.code).toList++k)) cs { W with heap:=W.heap.setIfInBounds B (.loop { L with state:=.exhausted }) }):=by
 have hr:=run_endLoop (P:=P) h hs
 exact step_lone_go (by simp [stepG,stepG.exec,Base.fr,hr])
end ranges
theorem enter_ok {P:Program} {fr:AFr} {s:St} {d:Nat} {mark:List ADef} {h:Hp} (e:around fr s=some (d,mark,h)) {σ:Sg} {T:Array Value} {D:List Deferred} {W:World} (sr:SRel σ s T D W) {b:Base} (fb:FrRel σ fr b)
  (params:Array Tmp) (assign body:Code):
  ∃ τ X B M,(Instr.enterLoop b.fn T params assign body b.round).run P W=.ok (B,M) X/\τ h.size=some (B,0)/\DRel τ (mark++s.defs) (M++D) /\
   HRel τ (h.push (.loop { state:=.ready,pending:=none,fn:=fr.fn,tmps:=s.tmps,params:=params.toList,assign,body,defers:=d })) X /\
   Good σ s.hp W τ (h.push (.loop { state:=.ready,pending:=none,fn:=fr.fn,tmps:=s.tmps,params:=params.toList,assign,body,defers:=d })) X:=by
 have made:∀ (σ':Sg) (h:Hp) (W':World) (R:Nat) (M:Nat),Sub σ σ'->HRel σ' h W'->σ' d=some (R,M) ->
   HRel (σ'.add h.size (W'.heap.size,0)) (h.push (.loop { state:=.ready,pending:=none,fn:=fr.fn,tmps:=s.tmps,params:=params.toList,assign,body,defers:=d })) (W'.alloc (.loop { state:=.ready,pending:=none,fn:=b.fn,tmps:=T,params,assign,body,defers:=R })) /\
   Good σ' h W' (σ'.add h.size (W'.heap.size,0)) (h.push (.loop { state:=.ready,pending:=none,fn:=fr.fn,tmps:=s.tmps,params:=params.toList,assign,body,defers:=d })) (W'.alloc (.loop { state:=.ready,pending:=none,fn:=b.fn,tmps:=T,params,assign,body,defers:=R })):=by
  intro σ' h W' R M hs hr hd
  have hsub:=Sub.add (x:=(W'.heap.size,0)) hr.fresh
  exact hr.alloc _ _ 0 ⟨_,rfl,rfl,rfl,fb.1,TRel.mono (hs.trans hsub) sr.t,rfl,rfl,rfl,M,hsub _ _ hd⟩
 unfold around at e
 split at e
 .rename_i l hl
  split at e
  .rename_i w a hg
   simp only [Option.some.injEq,Prod.mk.injEq] at e
   obtain ⟨rfl,rfl,rfl⟩:=e
   have h2:=fb.2
   rw [hl] at h2
   obtain ⟨B0,N0,h3,h4⟩:=h2
   obtain ⟨L,hL,⟨_,e1,_,_,_,_,_,_,_,M,hM⟩,_⟩:=loop_write sr.h hg h3
   cases e1
   obtain ⟨r1,g1⟩:=made σ s.hp W L.defers M (Sub.refl _) sr.h hM
   refine ⟨_,_,W.heap.size,[],?_,add_here,DRel.mono g1.sub sr.d,r1,g1⟩
   simp only [Instr.enterLoop,h4,Sem.run_bind,run_getLoop hL,Result.andThen_ok,Sem.run_pure,run_new]
  .cases e
 .rename_i hl
  simp only [Option.some.injEq,Prod.mk.injEq] at e
  obtain ⟨rfl,rfl,rfl⟩:=e
  have h2:=fb.2
  rw [hl] at h2
  obtain ⟨r0,g0⟩:=sr.h.alloc (.defers false) (.deferred (some [])) 0 (by simp [BRel])
  obtain ⟨r1,g1⟩:=made _ _ _ W.heap.size 0 g0.sub r0 add_here
  refine ⟨_,_,(W.alloc (.deferred (some []))).heap.size,[{ target:=.collected W.heap.size,args:=#[] }],?_,add_here,⟨W.heap.size,0,D,g1.sub _ _ add_here,rfl,DRel.mono (g0.sub.trans g1.sub) sr.d⟩,r1,g0.trans r0.ok r1.ok g1⟩
  simp only [Instr.enterLoop,h2,Sem.run_bind,Result.andThen_ok,Sem.run_pure,run_new]
section whole
variable {C:Ctx} {r:Rec}
theorem rangeF_ok (co:CtxOk C) (ro:RecOk C r) {fr:AFr} {f:Operand} {params:Array Tmp} {assign body:Code} {s:St} {q:R} (e:rangeF C r fr (evalA C s f) params.toList assign body s=some q):CodeOk C fr (.rangeFunc f params assign body) s q:=by
 unfold rangeF at e
 split at e
 .cases e
 .rename_i d mark h har
  split at e
  .rename_i g first cap hf
   simp only at e
   split at e
   .cases e
   .rename_i q' hq
    split at e
    .cases e
    .rename_i m hm
     cases e
     intro σ T D W gr sr b k todo cs hst fb
     rcases hst with rfl|⟨_,h,_⟩
     .intro hn
      have hfv:=evalA_rel (s:=s) gr sr.t f
      rw [hf] at hfv
      obtain ⟨F,K,hF,hf1,hf2⟩:=hfv
      obtain ⟨τ,X,B,M,hen,hτ,hdr,r1,g1⟩:=enter_ok (P:=C.P) har sr fb params assign body
      obtain ⟨hcall,fn,hfn,hbody⟩:=callR_ok co ro hq
      have hA:VRels τ (first++[.yield h.size]++cap) (F++#[Value.func (.yield B) #[] #[]]++K).toList:=by
       simp only [Array.toList_append]
       exact VRels.append (VRels.append (VRels.mono g1.sub _ _ hf1) ⟨_,[],rfl,⟨B,0,hτ,rfl⟩,rfl⟩) (VRels.mono g1.sub _ _ hf2)
      obtain ⟨e,h1,υ,V,Y,fr',h2,h3,h4,h5,h6⟩:=hcall τ _ X (gr.mono g1.sub) r1 hA hn (b.fr T (M++D) (.inRangeFunc B :: k) :: cs)
      obtain ⟨x,s',q1,q2⟩:=(endLoopL_one hm).2 e h1
      refine ⟨_,q2,?_⟩
      unfold endLoopE at q1
      split at q1
      .cases q1
      rename_i hpa
      replace h6:=h6.ret hpa
      split at q1
      .rename_i w a hg
       obtain ⟨L,p1,⟨_,e1,f1,f2,_⟩,wr⟩:=loop_write h3 hg (h4.sub _ _ hτ)
       cases e1
       have hstate:∀ (y:Option Ent),(match a.state with|.busy=>none|_=>y)=some ⟨e.g,x,s'⟩->L.state≠.busy/\y=some ⟨e.g,x,s'⟩:=by
        intro y hy
        rw [f1]
        split at hy
        .cases hy
        .rename_i hb; exact ⟨hb,hy⟩
       obtain ⟨hnb,q1⟩:=hstate _ q1
       split at q1
       .cases q1
       .rename_i x' hj
        rw [Hp.set_eq] at q1
        simp only [Option.some.injEq,Ent.mk.injEq] at q1
        obtain ⟨-,rfl,rfl⟩:=q1
        obtain ⟨r5,g5⟩:=wr .exhausted a.pending
        have hw:({ L with state:=LoopState.exhausted,pending:=a.pending }:Loop)={ L with state:=LoopState.exhausted }:=by rw [<- f2]
        rw [hw] at r5 g5
        have gg:=(g1.trans r1.ok h3.ok h4).trans h3.ok r5.ok g5
        refine ⟨υ,T,M++D,_,⟨TRel.mono gg.sub sr.t,DRel.mono h4.sub hdr,r5⟩,⟨gg,⟨rfl,fun _ _ h=>.inl h⟩⟩,?_⟩
        have hsteps:∀ pd,L.pending=pd->Steps C.P (lone (b.fr T D (.code (.rangeFunc f params assign body) :: k)) cs W) (lone (b.fr T (M++D) ((pd.map Item.code).toList++k)) cs { Y with heap:=Y.heap.setIfInBounds B (.loop { L with state:=.exhausted }) }):=by
         rintro _ rfl
         refine .head (st_range hen hF hfn hbody co.prog) (h5.trans (.head (st_leave h6) (.one ?_)))
         have hfin:(b.fr T (M++D) (.inRangeFunc B :: k)).finish V=b.fr T (M++D) (.endRangeFunc B :: k):=by simp [Frame.finish,Base.fr]
         rw [hfin]
         exact st_endRange p1 hnb
        replace hsteps:=hsteps _ f2
        generalize ({ Y with heap:=Y.heap.setIfInBounds B (.loop { L with state:=.exhausted }) }:World)=Z at hsteps
        unfold jumpEx at hj
        split at hj
        .cases hj; rename_i hp; rw [hp] at hsteps; exact hsteps
        .cases hj; rename_i hp; rw [hp] at hsteps; exact ⟨k,hsteps⟩
        .cases hj; rename_i hp; rw [hp] at hsteps; exact ⟨k,rfl,hsteps⟩
        .cases hj; rename_i hp; rw [hp] at hsteps; exact ⟨k,rfl,hsteps⟩
        .cases hj
      .cases q1
     .cases h
  .cases e
theorem run_ok (co:CtxOk C) (dr:∀ r,RecOk C r->DrawOk C r):∀ n,RecOk C (run C n)
 | 0=>⟨fun _ _ _ _ e=>(by cases e),fun _ _ _ _ e=>(by cases e),fun _ _ _ _ e=>(by cases e)⟩
 | n+1=>by
  have ro:=run_ok co dr n
  exact ⟨fun fr c s q e=>codeF_ok co ro (dr _ ro) (fun _ _ _ _ _ _ _ e=>rangeF_ok co ro e) e,fun f args h q e=>callF_ok co ro e,fun l args h q e=>yieldF_ok ro e⟩
end whole
end Go.Eng
namespace Go.Eng
inductive Sch (ops:Array Oper):Array Bool->List Nat->Prop where
 | nil {L:Array Bool}:Region.ready .any ops L=[]->Sch ops L []
 | cons {L:Array Bool} {i:Nat} {is:List Nat}:i∈Region.ready .any ops L->Sch ops (L.setIfInBounds i true) is->Sch ops L (i :: is)
def unlisted (L:Array Bool):Nat:=L.toList.countP (fun b=>!b)
theorem ready_lt {ops:Array Oper} {L:Array Bool} {i:Nat} (h:i∈Region.ready .any ops L):i<ops.size/\L.getD i true=false:=by
 rw [mem_ready] at h
 obtain ⟨h0,o,ho,_⟩:=h
 exact ⟨(Array.getElem?_eq_some_iff.1 ho).1,h0⟩
theorem unlisted_set {L:Array Bool} {i:Nat} (h:L.getD i true=false):unlisted (L.setIfInBounds i true)+1=unlisted L:=by
 have hi:i<L.size:=by
  rcases Nat.lt_or_ge i L.size with h'|h'
  .exact h'
  .simp [Array.getElem?_eq_none h'] at h
 have hv:L[i]=false:=by simpa [hi] using h
 unfold unlisted
 rw [Array.toList_setIfInBounds]
 have hs:=List.countP_set (p:=fun b:Bool=>!b) (l:=L.toList) (i:=i) (a:=true) (by simpa using hi)
 have hv':L.toList[i]'(by simpa using hi)=false:=by simpa using hv
 have hp:0<L.toList.countP (fun b=>!b):=List.countP_pos_iff.2 ⟨L[i],by simp,by simp [hv]⟩
 simp only [hv',Bool.not_false,if_true,Bool.not_true,Bool.false_eq_true,if_false,Nat.add_zero] at hs
 omega
theorem sch_go {ops:Array Oper}:∀ (fuel t:Nat) (L:Array Bool),unlisted L<=fuel->Sch ops L (Region.linearise.go .any ops fuel t L [])
 | 0,t,L,h=>by
  refine .nil ?_
  rw [List.eq_nil_iff_forall_not_mem]
  intro i hi
  have:=unlisted_set (ready_lt hi).2
  omega
 | fuel+1,t,L,h=>by
  simp only [Region.linearise.go]
  change Sch ops L (match (Region.ready .any ops L)[t % (Region.ready .any ops L).length]? with
   | some i=>Region.linearise.go .any ops fuel (t / (Region.ready .any ops L).length) (L.setIfInBounds i true) [i]
   | none=>[].reverse)
  cases hi:(Region.ready .any ops L)[t % (Region.ready .any ops L).length]? with
  | none=>
   refine .nil ?_
   cases hr:Region.ready .any ops L with
   | nil=>rfl
   | cons x xs=>
    rw [hr] at hi
    have hlt:t % (x :: xs).length<(x :: xs).length:=Nat.mod_lt _ (by simp)
    rw [List.getElem?_eq_none_iff] at hi
    omega
  | some i=>
   simp only []
   rw [linearise_go_acc,List.reverse_singleton,List.singleton_append]
   have hm:=List.mem_of_getElem? hi
   have:=unlisted_set (ready_lt hm).2
   exact .cons hm (sch_go fuel _ _ (by omega))
theorem sch_all {ops:Array Oper} (t:Nat):Sch ops (Array.replicate ops.size false) (Region.linearise .any ops t):=by
 refine sch_go _ _ _ ?_
 unfold unlisted
 simp [List.countP_replicate]
def bfold (acc:Array Nat) (o:Oper):Nat:=o.after.foldl (fun s e=>if Region.binds .any e then s ||| 2 ^ e.on ||| acc.getD e.on 0 else s) 0
theorem bfold_bit {acc:Array Nat} {o:Oper} {p:Nat} (h:(bfold acc o).testBit p=true):∃ e∈o.after,Region.binds .any e=true/\(e.on=p\/(acc.getD e.on 0).testBit p=true):=by
 unfold bfold at h
 rw [<- Array.foldl_toList] at h
 have key:∀ (l:List Edge) (s:Nat),(l.foldl (fun s e=>if Region.binds .any e then s ||| 2 ^ e.on ||| acc.getD e.on 0 else s) s).testBit p=true->s.testBit p=true\/∃ e∈l,Region.binds .any e=true/\(e.on=p\/(acc.getD e.on 0).testBit p=true):=by
  intro l
  induction l with
  | nil=>intro s h; exact .inl h
  | cons e l ih=>
   intro s h
   simp only [List.foldl_cons] at h
   rcases ih _ h with h1|⟨e',h1,h2⟩
   .cases hb:Region.binds .any e with
    | false=>rw [hb] at h1; exact .inl (by simpa using h1)
    | true=>
     rw [hb] at h1
     simp only [if_true,Nat.testBit_or,Bool.or_eq_true] at h1
     rcases h1 with (h1|h1)|h1
     .exact .inl h1
     .refine .inr ⟨e,by simp,hb,.inl ?_⟩
      rw [Nat.testBit_two_pow] at h1
      simpa using h1
     .exact .inr ⟨e,by simp,hb,.inr h1⟩
   .exact .inr ⟨e',by simp [h1],h2⟩
 rcases key _ _ h with h1|⟨e,h1,h2⟩
 .simp at h1
 .exact ⟨e,by simpa using h1,h2⟩
theorem before_eq (ops:Array Oper):Region.before ops=ops.foldl (fun acc o=>acc.push (bfold acc o)) #[]:=rfl
theorem before_bit (ops:Array Oper) {q p:Nat} (h:((Region.before ops).getD q 0).testBit p=true):∃ o,ops[q]?=some o/\∃ e∈o.after,Region.binds .any e=true/\(e.on=p\/((Region.before ops).getD e.on 0).testBit p=true):=by
 rw [before_eq] at h ⊢
 rw [<- Array.foldl_toList] at h ⊢
 have key:∀ (l:List Oper) (acc:Array Nat) (q:Nat),(((l.foldl (fun acc o=>acc.push (bfold acc o)) acc)).getD q 0).testBit p=true ->
   (q<acc.size/\(acc.getD q 0).testBit p=true)\/(acc.size<=q/\∃ o,l[q - acc.size]?=some o/\∃ e∈o.after,Region.binds .any e=true/\(e.on=p\/((l.foldl (fun acc o=>acc.push (bfold acc o)) acc).getD e.on 0).testBit p=true)):=by
  intro l
  induction l with
  | nil=>
   intro acc q h
   by_cases hq:q<acc.size
   .exact .inl ⟨hq,h⟩
   .simp [Array.getElem?_eq_none (Nat.not_lt.1 hq)] at h
  | cons o l ih=>
   intro acc q h
   have pre:∀ (l:List Oper) (acc:Array Nat) (j:Nat),j<acc.size->(l.foldl (fun acc o=>acc.push (bfold acc o)) acc).getD j 0=acc.getD j 0:=by
    intro l
    induction l with
    | nil=>intro acc j _; rfl
    | cons o l ih=>
     intro acc j hj
     simp only [List.foldl_cons]
     rw [ih _ _ (by simp; omega)]
     simp [Array.getElem?_push,Nat.ne_of_lt hj]
   simp only [List.foldl_cons] at h ⊢
   rcases ih _ _ h with ⟨h1,h2⟩|⟨h1,o',h2,h3⟩
   .by_cases hq:q<acc.size
    .refine .inl ⟨hq,?_⟩
     simpa [Array.getElem?_push,Nat.ne_of_lt hq] using h2
    .have hq':q=acc.size:=by simp at h1; omega
     subst hq'
     refine .inr ⟨Nat.le_refl _,o,by simp,?_⟩
     have h2:(bfold acc o).testBit p=true:=by simpa using h2
     obtain ⟨e,e1,e2,e3⟩:=bfold_bit h2
     refine ⟨e,e1,e2,e3.imp id fun h3=>?_⟩
     by_cases hj:e.on<acc.size
     .rw [pre _ _ _ (by simp; omega)]
      simpa [Array.getElem?_push,Nat.ne_of_lt hj] using h3
     .simp [Array.getElem?_eq_none (Nat.not_lt.1 hj)] at h3
   .refine .inr ⟨by simp at h1; omega,o',?_,h3⟩
    simp only [Array.size_push] at h1 h2
    rw [show q - acc.size=(q - (acc.size+1))+1 by omega]
    simpa using h2
 rcases key _ _ _ h with ⟨h1,_⟩|⟨_,o,h2,h3⟩
 .simp at h1
 .exact ⟨o,by simpa using h2,h3⟩
end Go.Eng
namespace Go.Eng
def AtOp2 (P:Program) (ops:Array Oper) (i:Nat) (rest:List Nat) (b:Base) (k:List Item) (cs:List Frame) (dst:Option Tmp) (T U:Array Value) (D:List Deferred) (W:World):Ex->Array Value->List Deferred->World->Prop:=
 fun x U' D' W'=>x=.normal/\D'=D/\∃ V,U'=putT U dst V/\Steps P (lone (b.fr T D (.inRegion ops (i :: rest) :: k)) cs W) (lone (b.fr (putT T dst V) D (.inRegion ops rest :: k)) cs W')
def Shape (s:St) (dst:Option Tmp) (s':St):Prop:=s'.defs=s.defs/\∃ c v,s'.tmps=match dst with
 | none=>s.tmps
 | some d=>s.tmps.set d ⟨c,v⟩
theorem shape_put (s:St) (h:Hp) (dst:Option Tmp) (v:AV):Shape s dst (match dst with|none=>⟨s.tmps,s.defs,h⟩|some d=>⟨s.tmps.set d ⟨h.clock,v⟩,s.defs,h⟩):=by
 cases dst with
 | none=>exact ⟨rfl,0,v,rfl⟩
 | some d=>exact ⟨rfl,h.clock,v,rfl⟩
def Op2 (P:Program) (ops:Array Oper) (i:Nat) (rest:List Nat) (b:Base) (k:List Item) (cs:List Frame) (dst:Option Tmp) (T U:Array Value) (D:List Deferred) (W:World) (σ:Sg) (s:St):Ex->St->Prop:=
 fun x s'=>(x=.normal/\Post σ s W (AtOp2 P ops i rest b k cs dst T U D W) x s'/\Shape s dst s') ∨
  ∃ a,x=.raise a/\s'.tmps=s.tmps/\s'.defs=s.defs/\∃ τ X V k1,HRel τ s'.hp X/\Good σ s.hp W τ s'.hp X/\VRel noSg a V/\Steps P (lone (b.fr T D (.inRegion ops (i :: rest) :: k)) cs W) (lone (b.pan T D k1 V) cs X)
section opers2
variable {C:Ctx} {r:Rec}
theorem simpleOp_ok2 {s:St} {o:Oper} {q:R} (e:simpleOp C s o=some q) {σ:Sg} {T U:Array Value} {D:List Deferred} {W:World} (g:GRel C σ) (sr:SRel σ s U D W) (he:execOp (ev T) o=execOp (ev U) o) {ops:Array Oper} {i:Nat} {rest:List Nat} (ho:ops[i]?=some o)
  (hw:Region.wanted o (yielded ops T)=true) (b:Base) (k:List Item) (cs:List Frame):Fits (Op2 C.P ops i rest b k cs o.dst T U D W σ s) q:=by
 unfold simpleOp at e
 split at e
 .cases e
 .rename_i nd v h hs
  rw [put_eq] at e
  cases e
  intro hn
  obtain ⟨τ,V,X,rr,h1,h2,h3,h4,h5⟩:=simple_ok g sr.t sr.h hs hn
  have hd:∀ c,o.op≠.defer c:=by
   intro c hc; rw [hc] at hs; simp [simple] at hs
  obtain ⟨p1,p2⟩:=put_step (D:=D) sr h4 h5 h3 o.dst
  exact ⟨_,rfl,.inl ⟨rfl,⟨τ,_,D,X,p1,p2,rfl,rfl,V,rfl,.one (st_value ho hw hd (he ▸ h1) h2)⟩,shape_put s h o.dst v⟩⟩
theorem callOp_ok2 (co:CtxOk C) (ro:RecOk C r) {s:St} {o:Oper} {f:Operand} {args:Array Operand} {ts:Array TypeId} (hop:o.op=.call ⟨.value f,args,ts⟩) {q:R} (e:callOp C r s o.dst f args.toList=some q) {σ:Sg} {T U:Array Value} {D:List Deferred} {W:World}
  (g:GRel C σ) (sr:SRel σ s U D W) (he:execOp (ev T) o=execOp (ev U) o) {ops:Array Oper} {i:Nat} {rest:List Nat} (ho:ops[i]?=some o) (hw:Region.wanted o (yielded ops T)=true) (b:Base) (k:List Item) (cs:List Frame):
  Fits (Op2 C.P ops i rest b k cs o.dst T U D W σ s) q:=by
 unfold callOp at e
 split at e
 .cases e
 .rename_i ce hce
  split at e
  .rename_i nd v hx
   rw [put_eq] at e
   cases e
   intro hn
   have hd:∀ c,o.op≠.defer c:=by intro c hc; rw [hc] at hop; cases hop
   have hargs:=vals (s:=s) g sr.t args
   have hfv:=evalA_rel (s:=s) g sr.t f
   unfold callee at hce
   split at hce
   .rename_i gf first cap hfe
    cases hce
    rw [hfe] at hfv
    obtain ⟨F,K,hF,hf1,hf2⟩:=hfv
    have hA:VRels σ (first++evalL C s args.toList++cap) (F++args.map (ev U)++K).toList:=by
     simp only [Array.toList_append]
     exact VRels.append (VRels.append hf1 hargs) hf2
    obtain ⟨V,h1,h2⟩:=co.ext _ _ _ _ hx hn σ _ W hA
    have hex:(execOp (ev T) o).run C.P W=.ok (.value V) W:=by
     rw [he]
     simp only [execOp,hop,resolve,hF,Deferred.ofValue,Sem.run_bind,Sem.run_pure,Result.andThen_ok,invoke]
     exact h2
    obtain ⟨p1,p2⟩:=put_step (h:=s.hp) (X:=W) (D:=D) sr sr.h (Good.refl σ s.hp W fun i B N h=>(sr.h.dom i B N h).1) h1 o.dst
    exact ⟨_,rfl,.inl ⟨rfl,⟨σ,_,D,W,p1,p2,rfl,rfl,V,rfl,.one (st_value ho hw hd hex (.inl rfl))⟩,shape_put s s.hp o.dst v⟩⟩
   .cases hce; cases hx
   .cases hce
  .rename_i hx
   split at e
   .cases e
   .rename_i cr hcr
    split at e
    case h_2=>cases e
    rename_i hpo
    cases e
    intro hn
    have hd:∀ c,o.op≠.defer c:=by intro c hc; rw [hc] at hop; cases hop
    have hargs:=vals (s:=s) g sr.t args
    have hfv:=evalA_rel (s:=s) g sr.t f
    unfold callee at hce
    split at hce
    .rename_i gf first cap hfe
     cases hce
     rw [hfe] at hfv
     obtain ⟨F,K,hF,hf1,hf2⟩:=hfv
     have hA:VRels σ (first++evalL C s args.toList++cap) (F++args.map (ev U)++K).toList:=by
      simp only [Array.toList_append]
      exact VRels.append (VRels.append hf1 hargs) hf2
     obtain ⟨hcall,fn,hfn,hbody⟩:=callR_ok co ro hcr
     have hex:(execOp (ev T) o).run C.P W=.ok (.enter gf (F++args.map (ev U)++K)) W:=by
      rw [he]
      simp only [execOp,hop,resolve,hF,Deferred.ofValue,Sem.run_bind,Sem.run_pure,Result.andThen_ok,invoke]
      exact run_callFunc co.prog hfn hbody _ W
     obtain ⟨e,h1,τ,V,X,fr,h2,h3,h4,h5,h6⟩:=hcall σ _ W g sr.h hA hn (b.fr T D (.inRegion ops (i :: rest) :: k) :: cs)
     refine ⟨_,one_after h1 o.dst s,?_⟩
     cases hpa:e.v.isPanic with
     | false=>
      rw [afterE_tame hpa,put_eq]
      obtain ⟨p1,p2⟩:=put_step (D:=D) sr h3 h4 h2 o.dst
      refine .inl ⟨rfl,⟨τ,_,D,X,p1,p2,rfl,rfl,V,rfl,?_⟩,shape_put s e.hp o.dst e.v⟩
      rw [<- finish_fr ho]
      exact .head (st_enter ho hw hd hex) (h5.trans (.one (st_leave (h6.ret hpa))))
     | true=>
      obtain ⟨a,ha⟩:=isPanic_of hpa
      rw [afterE_panic ha]
      have hlow:=panicsOk_one hpo e (oneC_mem h1) a ha
      rw [ha] at h2
      refine .inr ⟨a,rfl,rfl,rfl,τ,X,V,.inRegion ops (i :: rest) :: k,h3,h4,low_none h2 hlow,?_⟩
      rw [<- Base.raise_fr]
      unfold Outs at h6
      rw [hpa] at h6
      exact .head (st_enter ho hw hd hex) (h5.trans (.one (st_panics h6)))
    .rename_i l hfe
     cases hce
     rw [hfe] at hfv
     obtain ⟨B,N,hσ,hF⟩:=hfv
     have hy:YieldOk C l (evalL C s args.toList) s.hp cr:=ro.yield _ _ _ _ hcr
     obtain ⟨e,h1,hpa,τ,V,X,ff,TT,xx,yy,h2,h3,h4,h5,h6⟩:=hy σ _ W B N g sr.h hσ hargs hn (b.fr T D (.inRegion ops (i :: rest) :: k)) cs
     have hex:(execOp (ev T) o).run C.P W=.ok (.round B ff TT xx yy) W:=by
      rw [he]
      simp only [execOp,hop,resolve,hF,Deferred.ofValue,Sem.run_bind,Sem.run_pure,Result.andThen_ok,invoke]
      simpa using h5
     refine ⟨_,one_after h1 o.dst s,?_⟩
     rw [afterE_tame hpa,put_eq]
     obtain ⟨p1,p2⟩:=put_step (D:=D) sr h3 h4 h2 o.dst
     refine .inl ⟨rfl,⟨τ,_,D,X,p1,p2,rfl,rfl,V,rfl,?_⟩,shape_put s e.hp o.dst e.v⟩
     rw [<- finish_fr ho]
     exact .head (st_round ho hw hd hex) h6
    .cases hce
theorem panicOp_ok2 {s:St} {o:Oper} {x:Operand} (hop:o.op=.panic x) {q:R} (e:panicOp s (evalA C s x)=some q) {σ:Sg} {T U:Array Value} {D:List Deferred} {W:World}
  (g:GRel C σ) (sr:SRel σ s U D W) (he:execOp (ev T) o=execOp (ev U) o) {ops:Array Oper} {i:Nat} {rest:List Nat} (ho:ops[i]?=some o) (hw:Region.wanted o (yielded ops T)=true) (b:Base) (k:List Item) (cs:List Frame):
  Fits (Op2 C.P ops i rest b k cs o.dst T U D W σ s) q:=by
 have hx:=evalA_rel (s:=s) g sr.t x
 unfold panicOp at e
 split at e
 .rename_i t v hv
  split at e
  .rename_i hu
   cases e
   rw [hv] at hx
   obtain ⟨y,hy,hr⟩:=hx
   have hex:(execOp (ev T) o).run C.P W=.halt (.panic (.iface t y)) W:=by
    rw [he]
    simp only [execOp,hop,hy,Instr.panic,goPanic]
    rfl
   have hst:step C.P (lone (b.fr T D (.inRegion ops (i :: rest) :: k)) cs W)=.next (lone (b.pan T D (.inRegion ops (i :: rest) :: k) (.iface t y)) cs W):=by
    rw [<- Base.raise_fr]
    refine step_lone_go ?_
    have hd:∀ c,o.op≠.defer c:=by intro c hc; rw [hc] at hop; cases hop
    rw [stepG_oper ho hw hd]
    simp [stepG.apply,hex]
   intro hn
   exact ⟨_,rfl,.inr ⟨_,rfl,rfl,rfl,σ,W,.iface t y,_,sr.h,Good.refl σ s.hp W fun i B N h=>(sr.h.dom i B N h).1,low_none (σ:=σ) ⟨y,rfl,hr⟩ (by simpa [AV.under] using hu),.one hst⟩⟩
  .cases e
 .cases e
theorem oper1_ok2 (co:CtxOk C) (ro:RecOk C r) {s:St} {o:Oper} {q:R} (e:oper1 C r s o=some q) {σ:Sg} {T U:Array Value} {D:List Deferred} {W:World}
  (g:GRel C σ) (sr:SRel σ s U D W) (he:execOp (ev T) o=execOp (ev U) o) {ops:Array Oper} {i:Nat} {rest:List Nat} (ho:ops[i]?=some o) (hw:Region.wanted o (yielded ops T)=true) (b:Base) (k:List Item) (cs:List Frame):
  Fits (Op2 C.P ops i rest b k cs o.dst T U D W σ s) q:=by
 unfold oper1 at e
 split at e
 .rename_i f args ts hop
  exact callOp_ok2 co ro hop e g sr he ho hw b k cs
 .rename_i x hop
  exact panicOp_ok2 hop e g sr he ho hw b k cs
 .exact simpleOp_ok2 e g sr he ho hw b k cs
end opers2
theorem mem_tmpsOf:∀ {l:List Operand} {t:Tmp},.tmp t∈l->t∈tmpsOf l
 | [],t,h=>by cases h
 | x :: l,t,h=>by
  rcases List.mem_cons.1 h with rfl|h'
  .simp [tmpsOf]
  .have:=mem_tmpsOf h'
   cases x <;> simp [tmpsOf,this]
theorem ev_agree {T U:Array Value} {l:List Tmp} (h:∀ t∈l,T[t]?=U[t]?) {x:Operand} (hx:∀ t,x=.tmp t->t∈l):ev T x=ev U x:=by
 cases x with
 | tmp t=>simp only [ev,Array.getD_eq_getD_getElem?]; rw [h t (hx t rfl)]
 | const v=>rfl
 | global g=>rfl
 | func f=>rfl
theorem exec_agree {T U:Array Value} {o:Oper} (hs:∀ cs b,o.op≠.select cs b) (h:∀ t∈tmpsOf o.op.operands.toList,T[t]?=U[t]?):execOp (ev T) o=execOp (ev U) o:=
 execOp_congr o hs fun x hx=>ev_agree h fun t ht=>mem_tmpsOf (by subst ht; simpa using hx)
theorem wanted_agree {ops:Array Oper} {T U:Array Value} {o:Oper} (h:∀ t∈guardT ops o,T[t]?=U[t]?):Region.wanted o (yielded ops T)=Region.wanted o (yielded ops U):=by
 unfold Region.wanted
 cases hg:o.guard with
 | none=>rfl
 | some gw=>
  obtain ⟨j,want⟩:=gw
  simp only
  congr 1
  unfold yielded
  cases ho:ops[j]? with
  | none=>rfl
  | some x=>
   cases hd:x.dst with
   | none=>simp [hd]
   | some t=>
    have:=h t (by simp [guardT,hg,ho,hd])
    simp only [Option.bind_some,hd,this]
end Go.Eng
namespace Go.Eng
def Uni (f:Hp->Simple):Prop:=∀ h q,f h=some q->q.h=h/\∀ h',f h'=some ⟨q.nd,q.v,h'⟩
theorem uni_some (nd:Nd) (v:AV):Uni fun h=>some ⟨nd,v,h⟩:=fun h q e=>by cases e; exact ⟨rfl,fun _=>rfl⟩
theorem uni_none:Uni fun _=>none:=fun h q e=>by cases e
theorem uni_pure (x:Option (Nd×AV)):Uni fun h=>pure1 h x:=fun h q e=>by
 cases x with
 | none=>cases e
 | some x=>cases e; exact ⟨rfl,fun _=>rfl⟩
theorem uni_plain (x:Option AV):Uni fun h=>plain1 h x:=fun h q e=>by
 cases x with
 | none=>cases e
 | some x=>cases e; exact ⟨rfl,fun _=>rfl⟩
theorem uni_pick (c a b:AV):Uni fun h=>opPick h c a b:=by
 unfold opPick
 cases c with
 | bool s p=>cases s <;> exact uni_some _ _
 | _=>exact uni_none
theorem uni_nil (v:AV):Uni fun h=>opNilCheck h v:=by
 unfold opNilCheck
 cases v with
 | ptr i o=>exact uni_some _ _
 | func f a b=>exact uni_some _ _
 | _=>exact uni_none
theorem uni_extract (v:AV) (i:Nat):Uni fun h=>opExtract h v i:=by
 unfold opExtract
 cases v with
 | tuple l=>exact uni_plain _
 | _=>exact uni_none
theorem uni_fold (f:AV->AV->Option AV) (l:List AV):Uni fun h=>opFold h f l:=by
 cases l with
 | nil=>exact uni_none
 | cons v l=>exact uni_plain _
theorem evalL_same {C:Ctx} {s s':St}:∀ {l:List Operand},(∀ x∈l,evalA C s' x=evalA C s x)->evalL C s' l=evalL C s l
 | [],_=>rfl
 | x :: l,h=>by simp [evalL,h x (by simp),evalL_same (l:=l) fun y hy=>h y (by simp [hy])]
theorem evalParts_same {C:Ctx} {s s':St}:∀ {l:List (Nat×Operand)},(∀ x∈l.map (·.2),evalA C s' x=evalA C s x)->evalParts C s' l=evalParts C s l
 | [],_=>rfl
 | (i,x) :: l,h=>by simp [evalParts,h x (by simp),evalParts_same (l:=l) fun y hy=>h y (List.mem_map.2 (by obtain ⟨z,h1,h2⟩:=List.mem_map.1 hy; exact ⟨z,by simp [h1],h2⟩))]
theorem loadV_same {P:Program} {h h':Hp} {t:TypeId} {a:AV} (e:∀ j off,a=.ptr j off->h'.get j=h.get j) (e2:∀ j off,a=.vptr j off->h'.get j=h.get j:=by intro _ _ h; cases h):loadV P h' t a=loadV P h t a:=by
 unfold loadV
 cases a with
 | ptr i o=>simp only [e i o rfl]
 | vptr i o=>simp only [e2 i o rfl]
 | _=>rfl
theorem simple_late {C:Ctx} {s s':St} {o:Oper} {q:S1} (hk:kindOf o=0) (e:simple C s o.op=some q) (hx:∀ x∈o.op.operands.toList,evalA C s' x=evalA C s x)
  (hl:∀ t a j,o.op=.load t a->s'.hp.get j=s.hp.get j):q.h=s.hp/\simple C s' o.op=some ⟨q.nd,q.v,s'.hp⟩:=by
 obtain ⟨dst,op,ty,pos,after,guard⟩:=o
 have use:∀ f:Hp->Simple,Uni f->simple C s op=f s.hp->simple C s' op=f s'.hp->q.h=s.hp/\simple C s' op=some ⟨q.nd,q.v,s'.hp⟩:=by
  intro f hf h1 h2
  simp only at e
  rw [h1] at e
  obtain ⟨h3,h4⟩:=hf _ _ e
  exact ⟨h3,by rw [h2]; exact h4 _⟩
 simp only at hx hl
 cases op <;> simp only [kindOf] at hk <;> try (cases hk)
 case move x=>exact use (fun h=>some ⟨.tt,evalA C s x,h⟩) (uni_some _ _) rfl (by simp [simple,hx x (by simp [Op.operands])])
 case pick c a b=>exact use (fun h=>opPick h (evalA C s c) (evalA C s a) (evalA C s b)) (uni_pick _ _ _) rfl (by simp [simple,hx c (by simp [Op.operands]),hx a (by simp [Op.operands]),hx b (by simp [Op.operands])])
 case alloc t=>cases guard <;> simp at hk
 case build t ps=>exact use (fun h=>plain1 h (buildV C.P t (evalParts C s ps.toList))) (uni_plain _) rfl (by simp only [simple]; rw [evalParts_same fun x hx'=>hx x (by simpa [Op.operands] using hx')])
 case load t x=>
  refine use (fun h=>pure1 h (loadV C.P s.hp t (evalA C s x))) (uni_pure _) rfl ?_
  simp only [simple,hx x (by simp [Op.operands])]
  rw [loadV_same (fun j _ _=>hl t x j rfl) (fun j _ _=>hl t x j rfl)]
 case nilCheck x=>exact use (fun h=>opNilCheck h (evalA C s x)) (uni_nil _) rfl (by simp [simple,hx x (by simp [Op.operands])])
 case binOp op t x y u=>exact use (fun h=>pure1 h (binV C.P op t (evalA C s x) (evalA C s y))) (uni_pure _) rfl (by simp [simple,hx x (by simp [Op.operands]),hx y (by simp [Op.operands])])
 case unOp op t x=>exact use (fun h=>plain1 h (unV op (evalA C s x))) (uni_plain _) rfl (by simp [simple,hx x (by simp [Op.operands])])
 case convert a b x=>exact use (fun h=>plain1 h (convV C.P a b (evalA C s x))) (uni_plain _) rfl (by simp [simple,hx x (by simp [Op.operands])])
 case makeFunc f first cap=>
  cases f with
  | func f=>
   refine use (fun h=>some ⟨.tt,.func f (evalL C s first.toList) (evalL C s cap.toList),h⟩) (uni_some _ _) rfl ?_
   simp only [simple,opMakeFunc]
   rw [evalL_same (l:=first.toList) fun x hx'=>hx x (by simp only [Op.operands,Array.toList_append,List.mem_append]; exact .inl hx'),evalL_same (l:=cap.toList) fun x hx'=>hx x (by simp only [Op.operands,Array.toList_append,List.mem_append]; exact .inr hx')]
  | _=>exact use (fun _=>none) uni_none rfl rfl
 case slice t x lo hi mx=>
  refine use (fun h=>pure1 h (sliceN C.P t (evalA C s x) (evalO C s lo) (evalO C s hi) (evalO C s mx))) (uni_pure _) rfl ?_
  have h0:=hx x (by simp [Op.operands])
  have h1:evalO C s' lo=evalO C s lo:=by cases lo with|none=>rfl|some y=>simp [evalO,hx y (by simp [Op.operands])]
  have h2:evalO C s' hi=evalO C s hi:=by cases hi with|none=>rfl|some y=>simp [evalO,hx y (by simp [Op.operands])]
  have h3:evalO C s' mx=evalO C s mx:=by cases mx with|none=>rfl|some y=>simp [evalO,hx y (by simp [Op.operands])]
  simp only [simple,h0,h1,h2,h3]
 case fieldAddr t x f=>exact use (fun h=>plain1 h (fieldAddrV C.P t (evalA C s x) f)) (uni_plain _) rfl (by simp [simple,hx x (by simp [Op.operands])])
 case field t x f=>exact use (fun h=>plain1 h (fieldV C.P t (evalA C s x) f)) (uni_plain _) rfl (by simp [simple,hx x (by simp [Op.operands])])
 case indexAddr t x i=>exact use (fun h=>pure1 h (indexAddrV C.P t (evalA C s x) (evalA C s i))) (uni_pure _) rfl (by simp [simple,hx x (by simp [Op.operands]),hx i (by simp [Op.operands])])
 case index t x i=>exact use (fun h=>pure1 h (indexN C.P t (evalA C s x) (evalA C s i))) (uni_pure _) rfl (by simp [simple,hx x (by simp [Op.operands]),hx i (by simp [Op.operands])])
 case extract t i=>exact use (fun h=>opExtract h (evalA C s t) i) (uni_extract _ _) rfl (by simp [simple,hx t (by simp [Op.operands])])
 case call c=>
  obtain ⟨callee,args,ts⟩:=c
  have ha:evalL C s' args.toList=evalL C s args.toList:=evalL_same fun x hx'=>hx x (by simp only [Op.operands,Call.operands]; cases callee <;> simp_all)
  cases callee with
  | builtin bt=>
   cases bt <;> first|(cases hk)|skip
   case builtin.len.refl=>
    have e':=e
    simp only [simple,opCall,opBuiltin] at e'
    split at e'
    .rename_i x t h1 h2
     refine use (fun h=>pure1 h (lenV C.P t (evalA C s x))) (uni_pure _) (by simp [simple,opCall,opBuiltin,h1,h2]) ?_
     have:evalA C s' x=evalA C s x:=by
      rw [h1] at ha; simp only [evalL] at ha; injection ha
     simp [simple,opCall,opBuiltin,h1,h2,this]
    .cases e'
   case builtin.min.refl=>exact use (fun h=>opFold h min2 (evalL C s args.toList)) (uni_fold _ _) rfl (by simp [simple,opCall,opBuiltin,ha])
   case builtin.max.refl=>exact use (fun h=>opFold h max2 (evalL C s args.toList)) (uni_fold _ _) rfl (by simp [simple,opCall,opBuiltin,ha])
  | _=>cases hk
end Go.Eng
namespace Go.Eng
def Means (a b:AV):Prop:=∀ σ V,VRel σ a V->VRel σ b V
theorem Means.refl (a:AV):Means a a:=fun _ _ h=>h
theorem Means.trans {a b c:AV} (h:Means a b) (k:Means b c):Means a c:=fun σ V x=>k σ V (h σ V x)
def GuardIs (ops:Array Oper) (s:St) (o:Oper) (w:Bool):Prop:=
 match o.guard with
 | none=>w=true
 | some (j,want)=>∃ x g a,ops[j]?=some x/\x.dst=some g/\s.tmps[g]?=some a/\∀ σ V,VRel σ a.v V->(∃ b,V=.bool b/\(b==want)=w)\/(w=false/\∀ b,V≠.bool b)
structure LateGo (C:Ctx) (s:St) (pend:Pend) (p:It) (sp:St) (q:S1):Prop where
 run:simple C sp p.o.op=some q
 need:q.need
 len:sp.tmps.length=s.tmps.length
 args:∀ t∈tmpsOf p.o.op.operands.toList,∀ a,sp.tmps[t]?=some a->∃ a',s.tmps[t]?=some a'/\Means a'.v a.v
 res:∀ d a',p.d=some d->s.tmps[d]?=some a'->Means q.v a'.v
 load:∀ t a,p.o.op=.load t a->∃ ad nd,evalA C sp a=ad/\(p.i,t,ad,q.v)∈pend/\loadV C.P s.hp t ad=some (nd,q.v)/\nd.val
def Late (C:Ctx) (ops:Array Oper) (s:St) (pend:Pend) (p:It):Prop:=
 (GuardIs ops s p.o true/\∃ sp q,LateGo C s pend p sp q)\/(GuardIs ops s p.o false/\∀ d a',p.d=some d->s.tmps[d]?=some a'->∀ σ,VRel σ a'.v undef)
structure ItOk (ops:Array Oper) (p:It):Prop where
 op:ops[p.i]?=some p.o
 k:p.k=kindOf p.o
 d:p.d=p.o.dst
 look:p.look=tmpsOf p.o.op.operands.toList++guardT ops p.o
 bm:p.bm=(Region.before ops).getD p.i 0
theorem guard_wanted {ops:Array Oper} {s:St} {o:Oper} {w:Bool} (h:GuardIs ops s o w) {σ:Sg} {T U:Array Value} (ht:TRel σ s.tmps U) (ha:∀ t∈guardT ops o,T[t]?=U[t]?):Region.wanted o (yielded ops T)=w:=by
 rw [wanted_agree ha]
 unfold GuardIs at h
 unfold Region.wanted
 cases hg:o.guard with
 | none=>rw [hg] at h; exact h.symm
 | some gw=>
  obtain ⟨j,want⟩:=gw
  rw [hg] at h
  obtain ⟨x,g,a,h1,h2,h3,h4⟩:=h
  obtain ⟨V,v1,v2⟩:=ht.nth (t:=g) (a:=a) (by rw [nth_eq]; exact h3)
  simp only [yielded,h1,Option.bind_some,h2,v1]
  rcases h4 σ V v2 with ⟨b,rfl,hb⟩|⟨rfl,hb⟩
  .simpa using hb
  .cases V <;> first|rfl|(rename_i b; exact absurd rfl (hb b))
theorem trel_of {σ:Sg}:∀ {l:List AT} {L:List Value},l.length=L.length->(∀ (j:Nat) (c:AT) (V:Value),l[j]?=some c->L[j]?=some V->VRel σ c.v V)->VRels σ (l.map (·.v)) L
 | [],[],_,_=>rfl
 | [],_ :: _,h,_=>by simp at h
 | _ :: _,[],h,_=>by simp at h
 | c :: l,V :: L,h,k=>⟨V,L,rfl,k 0 c V rfl rfl,trel_of (by simpa using h) fun j c V h1 h2=>k (j+1) c V (by simpa using h1) (by simpa using h2)⟩
def seen (look:List Tmp) (l:List AT):List AT:=l.mapIdx fun t a=>if t∈look then a else ⟨a.st,.any false⟩
theorem seen_get {look:List Tmp} {l:List AT} {t:Nat} {c:AT} (h:(seen look l)[t]?=some c):(t∈look/\l[t]?=some c)\/(t ∉ look/\c.v=.any false):=by
 unfold seen at h
 rw [List.getElem?_mapIdx] at h
 cases hl:l[t]? with
 | none=>rw [hl] at h; cases h
 | some a=>
  rw [hl] at h
  simp only [Option.map_some,Option.some.injEq] at h
  by_cases ht:t∈look
  .rw [if_pos ht] at h; exact .inl ⟨ht,by rw [h]⟩
  .rw [if_neg ht] at h; subst h; exact .inr ⟨ht,rfl⟩
theorem evalA_seen {C:Ctx} {look:List Tmp} {s:St} {h:Hp} {x:Operand} (hx:∀ t,x=.tmp t->t∈look):evalA C ⟨seen look s.tmps,[],h⟩ x=evalA C s x:=by
 cases x with
 | tmp t=>
  have ht:=hx t rfl
  simp only [evalA,nth_eq]
  have:(seen look s.tmps)[t]?=s.tmps[t]?:=by
   unfold seen
   rw [List.getElem?_mapIdx]
   cases s.tmps[t]? with
   | none=>rfl
   | some a=>simp [ht]
  rw [this]
 | const v=>rfl
 | global g=>rfl
 | func f=>rfl
theorem same_sigma {σ τ:Sg} {h:Hp} {W X:World} (g:Good σ h W τ h X) (r:HRel τ h X):τ=σ:=by
 funext i
 cases e:τ i with
 | some x=>exact (g.only i x e (r.dom i _ _ e).1).symm
 | none=>
  cases f:σ i with
  | none=>rfl
  | some y=>rw [g.sub _ _ f] at e; cases e
theorem late_run {C:Ctx} {ops:Array Oper} {s:St} {pend:Pend} {p:It} (ip:ItOk ops p) (hk:p.k=0) (lt:Late C ops s pend p) {σ:Sg} {T U:Array Value} {D:List Deferred} {W:World} (g:GRel C σ) (sr:SRel σ s U D W)
  (ha:∀ t∈p.look,T[t]?=U[t]?) (b:Base) (k:List Item) (cs:List Frame) (rest:List Nat):
  ∃ V X,Steps C.P (lone (b.fr T D (.inRegion ops (p.i :: rest) :: k)) cs W) (lone (b.fr (putT T p.d V) D (.inRegion ops rest :: k)) cs X)/\SRel σ s (putT U p.d V) D X/\Good σ s.hp W σ s.hp X:=by
 have hlook:=ip.look
 have ha1:∀ t∈tmpsOf p.o.op.operands.toList,T[t]?=U[t]?:=fun t ht=>ha t (by rw [hlook]; exact List.mem_append_left _ ht)
 have ha2:∀ t∈guardT ops p.o,T[t]?=U[t]?:=fun t ht=>ha t (by rw [hlook]; exact List.mem_append_right _ ht)
 have putrel:∀ (V:Value) (τ:Sg),TRel τ s.tmps U->(∀ d a',p.d=some d->s.tmps[d]?=some a'->VRel τ a'.v V)->TRel τ s.tmps (putT U p.d V):=by
  intro V τ ht hv
  cases hd:p.d with
  | none=>exact ht
  | some d=>
   refine trel_of ?_ fun j c V' h1 h2=>?_
   .have:=ht.length; simp [putT] at this ⊢; omega
   .simp only [putT,Array.toList_setIfInBounds] at h2
    by_cases hj:j=d
    .subst hj
     have hlt:j<U.toList.length:=by
      rcases Nat.lt_or_ge j U.toList.length with h'|h'
      .exact h'
      .rw [List.getElem?_eq_none (by simpa using h')] at h2; cases h2
     rw [List.getElem?_set_self hlt] at h2
     cases h2
     exact hv j c hd h1
    .rw [List.getElem?_set_ne (Ne.symm hj)] at h2
     obtain ⟨V2,v1,v2⟩:=ht.nth (t:=j) (a:=c) (by rw [nth_eq]; exact h1)
     have:U.toList[j]?=some V2:=by simpa using v1
     rw [h2] at this; cases this; exact v2
 rcases lt with ⟨hg,sp,q,lg⟩|⟨hg,hres⟩
 .have hw:=guard_wanted hg sr.t (T:=T) ha2
  let st:St:=⟨seen (tmpsOf p.o.op.operands.toList) sp.tmps,[],s.hp⟩
  have hops:∀ x∈p.o.op.operands.toList,evalA C st x=evalA C sp x:=fun x hx=>evalA_seen fun t ht=>mem_tmpsOf (by subst ht; exact hx)
  have hst:∃ nd,simple C st p.o.op=some ⟨nd,q.v,s.hp⟩/\nd.val:=by
   by_cases hl:∃ t a,p.o.op=.load t a
   .obtain ⟨t,a,hl⟩:=hl
    obtain ⟨ad,nd,h1,_,h2,h3⟩:=lg.load t a hl
    refine ⟨nd,?_,h3⟩
    have hs':simple C st p.o.op=pure1 s.hp (loadV C.P s.hp t (evalA C st a)):=by rw [hl]; rfl
    rw [hs',hops a (by rw [hl]; simp [Op.operands]),h1,h2]
    rfl
   .exact ⟨q.nd,(simple_late (s':=st) (ip.k ▸ hk) lg.run hops (fun t a j h1=>absurd ⟨t,a,h1⟩ hl)).2,lg.need⟩
  obtain ⟨nd,hst,hnd⟩:=hst
  have htr:TRel σ st.tmps U:=by
   refine trel_of ?_ fun j c V h1 h2=>?_
   .have:=sr.t.length
    have:=lg.len
    simp [st,seen] at *; omega
   .rcases seen_get h1 with ⟨hj,h3⟩|⟨_,h3⟩
    .obtain ⟨a',h4,h5⟩:=lg.args j hj c h3
     obtain ⟨V2,v1,v2⟩:=sr.t.nth (t:=j) (a:=a') (by rw [nth_eq]; exact h4)
     have:U.toList[j]?=some V2:=by simpa using v1
     rw [h2] at this; cases this
     exact h5 _ _ v2
    .rw [h3]; trivial
  obtain ⟨τ,V,X,rr,h1,h2,h3,h4,h5⟩:=simple_ok g htr sr.h hst hnd
  have hτ:=same_sigma h5 h4
  subst hτ
  have hns:∀ cs b,p.o.op≠.select cs b:=fun cs b h=>by rw [h] at hst; cases hst
  have hnd:∀ c,p.o.op≠.defer c:=fun c h=>by rw [h] at hst; cases hst
  refine ⟨V,X,.one ?_,⟨putrel V _ sr.t fun d a' hd hs=>lg.res d a' hd hs _ _ h3,sr.d,h4⟩,h5⟩
  rw [ip.d]
  exact st_value ip.op hw hnd (exec_agree hns ha1 ▸ h1) h2
 .have hw:=guard_wanted hg sr.t (T:=T) ha2
  refine ⟨undef,W,.one ?_,⟨putrel undef _ sr.t fun d a' hd hs=>hres d a' hd hs _,sr.d,sr.h⟩,Good.dom sr.h⟩
  rw [ip.d]
  exact st_opskip ip.op hw
end Go.Eng
namespace Go.Eng
structure PlanOk (ops:Array Oper) (all:List It):Prop where
 it:∀ x∈all,ItOk ops x
 pair:all.Pairwise fun p q=>pairOk p q=true
 self:∀ p∈all,p.k≠2->∀ t,p.d=some t->t ∉ p.look
 nodup:(all.map (·.i)).Nodup
 full:∀ i,i<ops.size->∃ x∈all,x.i=i
 back:∀ (i:Nat) (o:Oper),ops[i]?=some o->∀ e∈o.after,Region.binds .any e=true->e.on<i
theorem takeIt_perm {k done:Nat}:∀ {l:List It} {x:It} {m:List It},takeIt k done l=some (x,m)->l.Perm (x :: m)
 | [],x,m,h=>by cases h
 | y :: l,x,m,h=>by
  simp only [takeIt] at h
  split at h
  .cases h; exact List.Perm.refl _
  .split at h
   .cases h
   .rename_i z m' hz
    cases h
    exact ((takeIt_perm hz).cons y).trans (List.Perm.swap _ _ _)
theorem planGo_perm:∀ {n done:Nat} {l r:List It},planGo n done l=some r->l.Perm r
 | 0,done,l,r,h=>by
  simp only [planGo] at h
  split at h
  .cases h; exact List.Perm.refl _
  .cases h
 | n+1,done,l,r,h=>by
  simp only [planGo] at h
  split at h
  .cases h
  .rename_i x m hx
   split at h
   .cases h
   .rename_i r' hr
    cases h
    have:l.Perm (x :: m):=by
     split at hx
     .rename_i y hy; cases hx; exact takeIt_perm hy
     .split at hx
      .rename_i y hy; cases hx; exact takeIt_perm hy
      .exact takeIt_perm hx
    exact this.trans ((planGo_perm hr).cons x)
theorem itemsOf_mem {ops:Array Oper} {b:Array Nat}:∀ {i:Nat} {l:List Oper} {x:It},x∈itemsOf ops b i l->∃ j,l[j]?=some x.o/\x=⟨i+j,x.o,kindOf x.o,x.o.dst,tmpsOf x.o.op.operands.toList++guardT ops x.o,b.getD (i+j) 0⟩
 | i,[],x,h=>by cases h
 | i,o :: l,x,h=>by
  simp only [itemsOf,List.mem_cons] at h
  rcases h with rfl|h
  .exact ⟨0,rfl,rfl⟩
  .obtain ⟨j,h1,h2⟩:=itemsOf_mem h
   exact ⟨j+1,by simpa using h1,by rw [show i+(j+1)=i+1+j by omega]; exact h2⟩
theorem itemsOf_i {ops:Array Oper} {b:Array Nat}:∀ {i:Nat} {l:List Oper},(itemsOf ops b i l).map (·.i)=List.range' i l.length
 | i,[]=>rfl
 | i,o :: l=>by simp [itemsOf,itemsOf_i (i:=i+1) (l:=l),List.range'_succ]
theorem backOk_spec {i:Nat}:∀ {l:List Edge},backOk i l=true->∀ e∈l,Region.binds .any e=true->e.on<i
 | [],_,e,he,_=>by cases he
 | a :: l,h,e,he,hb=>by
  simp only [backOk,Bool.and_eq_true,Bool.or_eq_true] at h
  rcases List.mem_cons.1 he with rfl|he
  .rcases h.1 with h1|h1
   .rw [hb] at h1; cases h1
   .exact of_blt h1
  .exact backOk_spec h.2 e he hb
theorem backsOk_spec:∀ {i:Nat} {l:List Oper},backsOk i l=true->∀ (j:Nat) (o:Oper),l[j]?=some o->∀ e∈o.after,Region.binds .any e=true->e.on<i+j
 | i,[],_,j,o,ho=>by simp at ho
 | i,a :: l,h,0,o,ho=>by
  simp only [backsOk,Bool.and_eq_true] at h
  simp only [List.getElem?_cons_zero,Option.some.injEq] at ho
  subst ho
  intro e he hb
  exact backOk_spec h.1 e (by simpa using he) hb
 | i,a :: l,h,j+1,o,ho=>by
  simp only [backsOk,Bool.and_eq_true] at h
  intro e he hb
  have:=backsOk_spec h.2 j o (by simpa using ho) e he hb
  omega
theorem pairsOk_spec:∀ {l:List It},pairsOk l=true->l.Pairwise fun p q=>pairOk p q=true
 | [],_=>.nil
 | p :: l,h=>by
  simp only [pairsOk,Bool.and_eq_true,List.all_eq_true] at h
  exact .cons h.1.2 (pairsOk_spec h.2)
theorem pairsOk_self:∀ {l:List It},pairsOk l=true->∀ p∈l,p.k≠2->∀ t,p.d=some t->t ∉ p.look
 | [],_,p,hp=>by cases hp
 | a :: l,h,p,hp=>by
  simp only [pairsOk,Bool.and_eq_true,Bool.or_eq_true,Bool.not_eq_true'] at h
  rcases List.mem_cons.1 hp with rfl|hp
  .intro hk t ht
   rcases h.1.1 with h1|h1
   .exact absurd (Nat.eq_of_beq_eq_true h1) hk
   .rw [ht] at h1; simpa [memT] using h1
  .exact pairsOk_self h.2 p hp
theorem planOf_ok {ops:Array Oper} {l:List It} (h:planOf ops=some l):PlanOk ops l:=by
 unfold planOf at h
 split at h
 .cases h
 .rename_i r hr
  split at h
  .rename_i hc
   cases h
   simp only [Bool.and_eq_true] at hc
   have hp:=planGo_perm hr
   refine ⟨fun x hx=>?_,pairsOk_spec hc.1,pairsOk_self hc.1,?_,fun i hi=>?_,fun i o ho e he hb=>?_⟩
   .obtain ⟨j,h1,h2⟩:=itemsOf_mem (hp.mem_iff.2 hx)
    have hi:x.i=j:=by rw [h2]; simp
    refine ⟨?_,?_,?_,?_,?_⟩
    .rw [hi]; simpa using h1
    .rw [h2]
    .rw [h2]
    .rw [h2]
    .rw [hi]
     have:x.bm=(Region.before ops).getD (0+j) 0:=by rw [h2]
     simpa using this
   .have h1:=(hp.map (·.i)).nodup_iff.1
    refine h1 ?_
    rw [itemsOf_i]
    exact List.nodup_range'
   .have h1:i∈(itemsOf ops (Region.before ops) 0 ops.toList).map (·.i):=by
     rw [itemsOf_i,List.mem_range'_1]; simp; exact hi
    obtain ⟨x,h2,h3⟩:=List.mem_map.1 h1
    exact ⟨x,hp.mem_iff.1 h2,h3⟩
   .have:=backsOk_spec hc.2 i o (by simpa using ho) e he hb
    omega
  .cases h
theorem before_listed {ops:Array Oper} {all:List It} (po:PlanOk ops all) {L:Array Bool} (hd:∀ (i:Nat) (o:Oper),ops[i]?=some o->L.getD i false=true->∀ e∈o.after,Region.binds .any e=true->L.getD e.on false=true):
  ∀ (q:Nat) (p:Nat),(∃ o,ops[q]?=some o/\∀ e∈o.after,Region.binds .any e=true->L.getD e.on false=true)->((Region.before ops).getD q 0).testBit p=true->L.getD p false=true:=by
 intro q
 induction q using Nat.strongRecOn with
 | _ q ih=>
  intro p ⟨o,ho,hall⟩ hb
  obtain ⟨o',ho',e,he,hbd,h1⟩:=before_bit ops hb
  rw [ho] at ho'; cases ho'
  have hon:=hall e he hbd
  rcases h1 with rfl|h1
  .exact hon
  .have hlt:=po.back q o ho e he hbd
   obtain ⟨o2,ho2,_⟩:=before_bit ops h1
   exact ih e.on hlt p ⟨o2,ho2,hd e.on o2 ho2 hon⟩ h1
end Go.Eng
namespace Go.Eng
theorem getD_set {L:Array Bool} {i j:Nat} (hi:i<L.size):(L.setIfInBounds i true).getD j false=if j=i then true else L.getD j false:=by
 simp only [Array.getD_eq_getD_getElem?,Array.getElem?_setIfInBounds]
 by_cases h:i=j
 .subst h; simp [hi]
 .have:¬ j=i:=fun e=>h e.symm
  simp [h,this]
structure Made (P:Program) (σ:Sg) (W:World) (T:Array Value) (a:It) (B:Nat):Prop where
 k:a.k=1
 obj:∃ t z K,a.o.op=.alloc t/\zeroCells P t=some z/\allCell z=true/\W.heap[B]?=some (.cells K t (0,0))/\(∀ σ',VRels σ' z K.toList)
 ptr:∀ d,a.d=some d->d<T.size->T[d]?=some (.pointer (some ⟨B,0,none⟩))
 free:∀ i N,σ i≠some (B,N)
structure Inv (C:Ctx) (ops:Array Oper) (prev l:List It) (L:Array Bool) (is:List Nat) (own:Nat->Nat) (pend:Pend) (σ:Sg) (s:St) (T U:Array Value) (D:List Deferred) (W:World):Prop where
 sr:SRel σ s U D W
 sch:Sch ops L is
 lsz:L.size=ops.size
 down:∀ (i:Nat) (o:Oper),ops[i]?=some o->L.getD i false=true->∀ e∈o.after,Region.binds .any e=true->L.getD e.on false=true
 late:∀ p∈prev,L.getD p.i false=false->p.k=0/\Late C ops s pend p
 early:∀ a∈l,L.getD a.i false=true->Made C.P σ W T a (own a.i)
 inj:∀ a∈l,∀ a'∈l,L.getD a.i false=true->L.getD a'.i false=true->own a.i=own a'.i->a.i=a'.i
 agree:∀ t,(∀ p∈prev,L.getD p.i false=false->p.d≠some t)->(∀ a∈l,L.getD a.i false=true->a.d≠some t)->T[t]?=U[t]?
 siz:T.size=U.size
def Hid (l:List It) (L:Array Bool) (own:Nat->Nat):Nat->Prop:=fun B=>∃ a∈l,L.getD a.i false=true/\own a.i=B
theorem ready_of {ops:Array Oper} {L:Array Bool} (hl:L.size=ops.size) {i:Nat} (h:i∈Region.ready .any ops L):i<L.size/\L.getD i false=false/\∃ o,ops[i]?=some o/\∀ e∈o.after,Region.binds .any e=true->L.getD e.on false=true:=by
 obtain ⟨h1,h2⟩:=ready_lt h
 rw [mem_ready] at h
 have hi:i<L.size:=by omega
 refine ⟨hi,by simpa [hi] using h2,h.2⟩
theorem memT_false {d:Option Tmp} {l:List Tmp} (h:memT d l=false) {t:Tmp} (ht:d=some t):t ∉ l:=by
 subst ht
 simpa [memT] using h
theorem sameD_false {a b:Option Tmp} (h:sameD a b=false) {t:Tmp} (ht:a=some t):b≠some t:=by
 subst ht
 intro hb; subst hb
 simp [sameD] at h
structure PairOk (p q:It):Prop where
 apart:q.bm.testBit p.i=false->(∀ t,p.d=some t->t ∉ q.look/\q.d≠some t)/\(∀ t,q.d=some t->t ∉ p.look)
 fresh:q.k≠2->∀ t,q.d=some t->t ∉ p.look/\p.d≠some t
 dep:p.k≠0->q.k≠1->q.bm.testBit p.i=true
theorem pairOk_spec {p q:It} (h:pairOk p q=true):PairOk p q:=by
 unfold pairOk at h
 simp only [Bool.and_eq_true,Bool.or_eq_true,Bool.not_eq_true'] at h
 obtain ⟨⟨h1,h2⟩,h3⟩:=h
 refine ⟨fun hb=>?_,fun hk=>?_,fun hp hq=>?_⟩
 .rw [hb] at h1
  simp only [Bool.false_eq_true,false_or] at h1
  exact ⟨fun t ht=>⟨memT_false h1.1.1 ht,sameD_false h1.1.2 ht⟩,fun t ht=>memT_false h1.2 ht⟩
 .rcases h2 with h2|h2
  .exact absurd (Nat.eq_of_beq_eq_true h2) hk
  .exact fun t ht=>⟨memT_false h2.1 ht,sameD_false h2.2 ht⟩
 .rcases h3 with (h3|h3)|h3
  .exact absurd (Nat.eq_of_beq_eq_true h3) hp
  .exact absurd (Nat.eq_of_beq_eq_true h3) hq
  .exact h3
theorem nodup_inj {l:List It} (h:(l.map (·.i)).Nodup):∀ {x y:It},x∈l->y∈l->x.i=y.i->x=y:=by
 induction l with
 | nil=>intro x y hx; cases hx
 | cons a l ih=>
  intro x y hx hy he
  simp only [List.map_cons,List.nodup_cons] at h
  rcases List.mem_cons.1 hx with hx1|hx1 <;> rcases List.mem_cons.1 hy with hy1|hy1
  .rw [hx1,hy1]
  .subst hx1; exact absurd (List.mem_map.2 ⟨y,hy1,he.symm⟩) h.1
  .subst hy1; exact absurd (List.mem_map.2 ⟨x,hx1,he⟩) h.1
  .exact ih h.2 hx1 hy1 he
theorem nodup_apart {l m:List It} (h:((l++m).map (·.i)).Nodup) {x y:It} (hx:x∈l) (hy:y∈m):x.i≠y.i:=by
 rw [List.map_append,List.nodup_append] at h
 exact h.2.2 _ (List.mem_map.2 ⟨x,hx,rfl⟩) _ (List.mem_map.2 ⟨y,hy,rfl⟩)
theorem pair_two {l:List It} {R:It->It->Prop} (h:l.Pairwise R):∀ {x y:It},x∈l->y∈l->x=y\/R x y\/R y x:=by
 induction h with
 | nil=>intro x y hx; cases hx
 | cons ha _ ih=>
  intro x y hx hy
  rcases List.mem_cons.1 hx with hx1|hx1 <;> rcases List.mem_cons.1 hy with hy1|hy1
  .exact .inl (hx1.trans hy1.symm)
  .subst hx1; exact .inr (.inl (ha _ hy1))
  .subst hy1; exact .inr (.inr (ha _ hx1))
  .exact ih hx1 hy1
theorem pair_apart {l m:List It} {R:It->It->Prop} (h:(l++m).Pairwise R) {x y:It} (hx:x∈l) (hy:y∈m):R x y:=(List.pairwise_append.1 h).2.2 x hx y hy
theorem putT_get {T:Array Value} {d:Option Tmp} {V:Value} {t:Tmp} (h:d≠some t):(putT T d V)[t]?=T[t]?:=by
 cases d with
 | none=>rfl
 | some d=>
  have:d≠t:=fun e=>h (by rw [e])
  simp [putT,Array.getElem?_setIfInBounds,this]
@[simp] theorem putT_size {T:Array Value} {d:Option Tmp} {V:Value}:(putT T d V).size=T.size:=by cases d <;> simp [putT]
theorem Made.keep {P:Program} {σ:Sg} {h k:Hp} {W X:World} {T T':Array Value} {a:It} {B:Nat} {τ:Sg} (m:Made P σ W T a B) (g:Good σ h W τ k X) (hT:∀ d,a.d=some d->T'[d]?=T[d]?) (hs:T'.size=T.size):Made P τ X T' a B:=by
 obtain ⟨t,z,K,h1,h2,h3,h4,h5⟩:=m.obj
 have hlt:B<W.heap.size:=(Array.getElem?_eq_some_iff.1 h4).1
 refine ⟨m.k,⟨t,z,K,h1,h2,h3,?_,h5⟩,fun d hd hl=>by rw [hT d hd]; exact m.ptr d hd (hs ▸ hl),fun i N e=>?_⟩
 .rw [g.keep B hlt id fun i N c e=>absurd e (m.free i N)]; exact h4
 .by_cases hi:i<h.size
  .exact m.free i N (g.only i _ e hi)
  .rcases g.old i B N e (Nat.not_lt.1 hi) hlt with h0|⟨j,M,c,_,h7,_⟩
   .exact h0
   .exact m.free j M h7
theorem inv_late {C:Ctx} {ops:Array Oper} {prev l:List It} {L:Array Bool} {is:List Nat} {own:Nat->Nat} {pend:Pend} {σ:Sg} {s:St} {T U:Array Value} {D:List Deferred} {W:World} (po:PlanOk ops (prev++l))
  {p:It} (hp:p∈prev) (iv:Inv C ops prev l L (p.i :: is) own pend σ s T U D W) (g:GRel C σ) (b:Base) (k:List Item) (cs:List Frame):
  ∃ T' U' W',Inv C ops prev l (L.setIfInBounds p.i true) is own pend σ s T' U' D W'/\Good σ s.hp W σ s.hp W' /\
   Steps C.P (lone (b.fr T D (.inRegion ops (p.i :: is) :: k)) cs W) (lone (b.fr T' D (.inRegion ops is :: k)) cs W'):=by
 have hsch:=iv.sch
 cases hsch with
 | cons hr hs=>
  obtain ⟨hi,hun,o,ho,hall⟩:=ready_of iv.lsz hr
  obtain ⟨hk,hlate⟩:=iv.late p hp hun
  have ip:=po.it p (List.mem_append_left _ hp)
  rw [ip.op] at ho; cases ho
  have hbef:∀ j,p.bm.testBit j=true->L.getD j false=true:=fun j hj=>before_listed po iv.down p.i j ⟨_,ip.op,hall⟩ (by rw [<- ip.bm]; exact hj)
  have hlook:∀ t∈p.look,T[t]?=U[t]?:=by
   intro t ht
   refine iv.agree t (fun p' hp' hu hd=>?_) (fun a ha hl hd=>?_)
   .rcases pair_two po.pair (List.mem_append_left _ hp') (List.mem_append_left _ hp) with rfl|h1|h1
    .exact po.self _ (List.mem_append_left _ hp) (by rw [hk]; decide) t hd ht
    .have q:=pairOk_spec h1
     cases hb:p.bm.testBit p'.i with
     | true=>rw [hbef _ hb] at hu; cases hu
     | false=>exact ((q.apart hb).1 t hd).1 ht
    .have q:=pairOk_spec h1
     exact (q.fresh (by rw [(iv.late p' hp' hu).1]; decide) t hd).1 ht
   .have q:=pairOk_spec (pair_apart po.pair hp ha)
    exact (q.fresh (by rw [(iv.early a ha hl).k]; decide) t hd).1 ht
  obtain ⟨V,X,st,sr',gd⟩:=late_run ip hk hlate g iv.sr hlook b k cs is
  refine ⟨putT T p.d V,putT U p.d V,X,⟨sr',hs,by simp [iv.lsz],fun i o ho hl e he hb=>?_,fun p' hp' hu=>?_,fun a ha hl=>?_,fun a ha a' ha' h1 h2=>?_,fun t h1 h2=>?_,by simp [iv.siz]⟩,gd,st⟩
  .rw [getD_set hi]
   split
   .rfl
   .rw [getD_set hi] at hl
    split at hl
    .rename_i he'; subst he'
     rw [ip.op] at ho; cases ho
     exact hall e he hb
    .exact iv.down i o ho hl e he hb
  .rw [getD_set hi] at hu
   split at hu
   .cases hu
   .exact iv.late p' hp' hu
  .have hne:=nodup_apart po.nodup hp ha
   rw [getD_set hi,if_neg (Ne.symm hne)] at hl
   have m:=iv.early a ha hl
   have q:=pairOk_spec (pair_apart po.pair hp ha)
   refine m.keep gd (fun d hd=>putT_get ?_) (by simp)
   exact (q.fresh (by rw [m.k]; decide) d hd).2
  .have hne:=nodup_apart po.nodup hp ha
   have hne':=nodup_apart po.nodup hp ha'
   rw [getD_set hi,if_neg (Ne.symm hne)] at h1
   rw [getD_set hi,if_neg (Ne.symm hne')] at h2
   exact iv.inj a ha a' ha' h1 h2
  .by_cases hd:p.d=some t
   .rw [hd]
    simp only [putT,Array.getElem?_setIfInBounds,iv.siz,if_true]
   .rw [putT_get hd,putT_get hd]
    refine iv.agree t (fun p' hp' hu=>?_) (fun a ha hl=>?_)
    .by_cases he:p'=p
     .rw [he]; exact hd
     .refine h1 p' hp' ?_
      rw [getD_set hi,if_neg (fun h=>he (nodup_inj po.nodup (List.mem_append_left _ hp') (List.mem_append_left _ hp) h))]
      exact hu
    .refine h2 a ha ?_
     rw [getD_set hi]
     split
     .rfl
     .exact hl
end Go.Eng
namespace Go.Eng
theorem zero_cells {P:Program} {t:TypeId} {z:List AV} (h:zeroCells P t=some z):∃ i v,P.info? t=some i/\i.zero=some v/\allCell z=true/\∀ σ,VRels σ z v.cells.toList:=by
 obtain ⟨i,v,h1,h2,_,h4⟩:=zeroCells_spec (σ:=fun _=>none) h
 refine ⟨i,v,h1,h2,h4,fun σ=>?_⟩
 obtain ⟨i',v',h1',h2',h3,_⟩:=zeroCells_spec (σ:=σ) h
 rw [h1] at h1'; cases h1'
 rw [h2] at h2'; cases h2'
 exact h3
theorem exec_alloc {P:Program} {T:Array Value} {o:Oper} {t:TypeId} (ho:o.op=.alloc t) {i:TypeInfo} {v:Value} (hi:P.info? t=some i) (hv:i.zero=some v) (W:World):
  (execOp (ev T) o).run P W=.ok (.value (.pointer (some ⟨W.heap.size,0,none⟩))) (W.alloc (.cells v.cells t)):=by
 simp [execOp,ho,Instr.alloc,run_zero hi hv,newVar,newRow]
theorem allocsOk_spec {P:Program}:∀ {l:List It},allocsOk P l=true->∀ x∈l,x.k=1->∃ t z,x.o.op=.alloc t/\zeroCells P t=some z
 | [],_,x,hx,_=>by cases hx
 | a :: l,h,x,hx,hk=>by
  simp only [allocsOk,Bool.and_eq_true] at h
  rcases List.mem_cons.1 hx with rfl|hx
  .have h1:=h.1
   rw [hk,show Nat.beq 1 1=true from rfl] at h1
   simp only at h1
   split at h1
   .rename_i t ht
    split at h1
    .rename_i z hz; exact ⟨t,z,ht,hz⟩
    .cases h1
   .cases h1
  .exact allocsOk_spec h.2 x hx hk
theorem HRel.grow {σ:Sg} {h:Hp} {W:World} (r:HRel σ h W) (o:Obj) (hc:coldO o):HRel σ h (W.alloc o)/\Good σ h W σ h (W.alloc o):=by
 have hh:∀ B,B<W.heap.size->(W.alloc o).heap[B]?=W.heap[B]?:=fun B hB=>by rw [heap_new,if_neg (by omega)]
 refine ⟨⟨r.ok,fun i b hb hd=>?_,fun i B N e=>?_,r.inj⟩,⟨Sub.refl _,fun _ _ e _=>e,⟨rfl,rfl,rfl,by simp,frozen_alloc hc⟩,Mon.refl _,fun i B N e hi _=>absurd (r.dom i B N e).1 (Nat.not_lt.2 hi),fun B hB _ _=>hh B hB⟩⟩
 .obtain ⟨B,N,o',h1,h2,h3⟩:=r.blk i b hb hd
  exact ⟨B,N,o',h1,by rw [hh B (r.dom _ _ _ h1).2]; exact h2,h3⟩
 .have:=r.dom i B N e
  exact ⟨this.1,by simp; omega⟩
theorem kind_alloc {o:Oper} (h:kindOf o=1):o.guard=none:=by
 obtain ⟨dst,op,ty,pos,after,guard⟩:=o
 cases op <;> simp only [kindOf] at h <;> try (cases h)
 case alloc t=>cases guard with
  | none=>rfl
  | some g=>cases h
 case call c=>
  obtain ⟨callee,args,ts⟩:=c
  cases callee with
  | builtin b=>cases b <;> cases h
  | _=>cases h
theorem inv_early {C:Ctx} {ops:Array Oper} {prev l:List It} {L:Array Bool} {is:List Nat} {own:Nat->Nat} {pend:Pend} {σ:Sg} {s:St} {T U:Array Value} {D:List Deferred} {W:World} (po:PlanOk ops (prev++l)) (al:allocsOk C.P l=true)
  {a:It} (ha:a∈l) (hk:a.k=1) (iv:Inv C ops prev l L (a.i :: is) own pend σ s T U D W) (b:Base) (k:List Item) (cs:List Frame):
  ∃ T' own' W',Inv C ops prev l (L.setIfInBounds a.i true) is own' pend σ s T' U D W'/\Good σ s.hp W σ s.hp W'/\(∀ B,Hid l (L.setIfInBounds a.i true) own' B->B<W.heap.size->Hid l L own B) /\
   Steps C.P (lone (b.fr T D (.inRegion ops (a.i :: is) :: k)) cs W) (lone (b.fr T' D (.inRegion ops is :: k)) cs W'):=by
 have hsch:=iv.sch
 cases hsch with
 | cons hr hs=>
  obtain ⟨hi,hun,o,ho,hall⟩:=ready_of iv.lsz hr
  have ip:=po.it a (List.mem_append_right _ ha)
  rw [ip.op] at ho; cases ho
  obtain ⟨t,z,hop,hz⟩:=allocsOk_spec al a ha hk
  obtain ⟨ti,v,h1,h2,h3,h4⟩:=zero_cells hz
  have hex:=exec_alloc (P:=C.P) (T:=T) hop h1 h2 W
  obtain ⟨hr',gd⟩:=iv.sr.h.grow (.cells v.cells t) (fun _ _ _ h=>by cases h; rfl)
  have hw:Region.wanted a.o (yielded ops T)=true:=by simp [Region.wanted,kind_alloc (ip.k ▸ hk)]
  have hnd:∀ c,a.o.op≠.defer c:=fun c h=>by rw [hop] at h; cases h
  have hst:=st_value (b:=b) (D:=D) (k:=k) (cs:=cs) (rest:=is) ip.op hw hnd hex (.inl rfl)
  have hlt:∀ a'∈l,L.getD a'.i false=true->own a'.i<W.heap.size:=fun a' h5 h6=>by
   obtain ⟨_,_,_,_,_,_,h7,_⟩:=(iv.early a' h5 h6).obj
   exact (Array.getElem?_eq_some_iff.1 h7).1
  refine ⟨putT T a.d (.pointer (some ⟨W.heap.size,0,none⟩)),fun j=>if j=a.i then W.heap.size else own j,W.alloc (.cells v.cells t),⟨⟨iv.sr.t,iv.sr.d,hr'⟩,hs,by simp [iv.lsz],fun i o ho hl e he hb=>?_,fun p hp hu=>?_,fun a' ha' hl=>?_,fun x hx y hy h5 h6 h7=>?_,fun t' h5 h6=>?_,by simp [iv.siz]⟩,gd,?_,.one (by rw [ip.d]; exact hst)⟩
  .rw [getD_set hi]
   split
   .rfl
   .rw [getD_set hi] at hl
    split at hl
    .rename_i he'; subst he'
     rw [ip.op] at ho; cases ho
     exact hall e he hb
    .exact iv.down i o ho hl e he hb
  .rw [getD_set hi] at hu
   split at hu
   .cases hu
   .exact iv.late p hp hu
  .by_cases he:a'.i=a.i
   .have:=nodup_inj po.nodup (List.mem_append_right _ ha') (List.mem_append_right _ ha) he
    subst this
    refine ⟨hk,⟨t,z,v.cells,hop,hz,h3,by simp only [if_true]; rw [heap_new]; simp,h4⟩,fun d hd hdl=>?_,fun i N e=>?_⟩
    .rw [hd]
     simp only [putT,if_true,Array.getElem?_setIfInBounds]
     simp only [hd,putT,Array.size_setIfInBounds] at hdl
     simp [hdl]
    .simp only [if_true] at e
     exact absurd (iv.sr.h.dom _ _ _ e).2 (Nat.lt_irrefl _)
   .rw [getD_set hi,if_neg he] at hl
    simp only [he,if_false]
    have m:=iv.early a' ha' hl
    refine m.keep gd (fun d hd=>putT_get ?_) (by simp)
    rcases pair_two po.pair (List.mem_append_right _ ha) (List.mem_append_right _ ha') with h5|h5|h5
    .exact absurd (by rw [h5]) he
    .exact ((pairOk_spec h5).fresh (by rw [m.k]; decide) d hd).2
    .intro h6
     exact ((pairOk_spec h5).fresh (by rw [hk]; decide) d h6).2 hd
  .rw [getD_set hi] at h5 h6
   by_cases hx1:x.i=a.i <;> by_cases hy1:y.i=a.i
   .rw [hx1,hy1]
   .rw [if_neg hy1] at h6
    rw [if_pos hx1,if_neg hy1] at h7
    exact absurd (hlt y hy h6) (by omega)
   .rw [if_neg hx1] at h5
    rw [if_neg hx1,if_pos hy1] at h7
    exact absurd (hlt x hx h5) (by omega)
   .rw [if_neg hx1] at h5 h7
    rw [if_neg hy1] at h6 h7
    exact iv.inj x hx y hy h5 h6 h7
  .have hne:a.d≠some t':=h6 a ha (by rw [getD_set hi,if_pos rfl])
   rw [putT_get hne]
   refine iv.agree t' (fun p hp hu=>?_) (fun a' ha' hl=>?_)
   .refine h5 p hp ?_
    rw [getD_set hi,if_neg (nodup_apart po.nodup hp ha)]
    exact hu
   .refine h6 a' ha' ?_
    rw [getD_set hi]
    split
    .rfl
    .exact hl
  .rintro B ⟨a',ha',hl,hB⟩ hlB
   by_cases he:a'.i=a.i
   .simp only [he,if_true] at hB
    omega
   .rw [getD_set hi,if_neg he] at hl
    simp only [he,if_false] at hB
    exact ⟨a',ha',hl,hB⟩
end Go.Eng
namespace Go.Eng
theorem ready_some {ops:Array Oper} {all:List It} (po:PlanOk ops all) {L:Array Bool} (hl:L.size=ops.size):∀ (i:Nat),i<ops.size->L.getD i false=false->Region.ready .any ops L≠[]:=by
 intro i
 induction i using Nat.strongRecOn with
 | _ i ih=>
  intro hi hu
  by_cases h:∀ e∈ops[i].after,Region.binds .any e=true->L.getD e.on false=true
  .intro hn
   have:i∈Region.ready .any ops L:=by
    rw [mem_ready]
    have hlt:i<L.size:=by omega
    exact ⟨by simpa [hlt] using hu,ops[i],by simp [hi],h⟩
   rw [hn] at this; cases this
  .simp only [Classical.not_forall] at h
   obtain ⟨e,he,hb,hne⟩:=h
   have hlt:=po.back i ops[i] (by simp [hi]) e he hb
   exact ih e.on hlt (by omega) (by simpa using hne)
theorem advance {C:Ctx} {ops:Array Oper} {prev l:List It} {x:It} (po:PlanOk ops (prev++x :: l)) (al:allocsOk C.P (x :: l)=true) (hk:x.k≠0) {pend:Pend} {σ:Sg} {s:St} {D:List Deferred} (g:GRel C σ) (b:Base) (k:List Item) (cs:List Frame):
  ∀ (is:List Nat) (L:Array Bool) (own:Nat->Nat) (T U:Array Value) (W:World),Inv C ops prev (x :: l) L is own pend σ s T U D W->L.getD x.i false=false ->
  ∃ is' L' own' T' U' W',Inv C ops prev (x :: l) L' (x.i :: is') own' pend σ s T' U' D W'/\L'.getD x.i false=false/\Good σ s.hp W σ s.hp W'/\(∀ B,Hid (x :: l) L' own' B->B<W.heap.size->Hid (x :: l) L own B) /\
   Steps C.P (lone (b.fr T D (.inRegion ops is :: k)) cs W) (lone (b.fr T' D (.inRegion ops (x.i :: is') :: k)) cs W'):=by
 intro is
 induction is with
 | nil=>
  intro L own T U W iv hu
  have hs:=iv.sch
  cases hs with
  | nil hr=>
   have hlt:x.i<ops.size:=(Array.getElem?_eq_some_iff.1 (po.it x (by simp)).op).1
   exact absurd hr (ready_some po iv.lsz x.i hlt hu)
 | cons i is ih=>
  intro L own T U W iv hu
  have hsch:=iv.sch
  cases hsch with
  | cons hr hs=>
   obtain ⟨hi,hun,o,ho,hall⟩:=ready_of iv.lsz hr
   obtain ⟨y,hy,hyi⟩:=po.full i (by rw [<- iv.lsz]; exact hi)
   by_cases hyx:y=x
   .subst hyx; subst hyi
    exact ⟨is,L,own,T,U,W,iv,hu,Good.dom iv.sr.h,fun _ h _=>h,.refl _ _⟩
   .subst hyi
    have hne:y.i≠x.i:=fun h=>hyx (nodup_inj po.nodup hy (by simp) h)
    have hu':(L.setIfInBounds y.i true).getD x.i false=false:=by rw [getD_set hi,if_neg (Ne.symm hne)]; exact hu
    rcases List.mem_append.1 hy with hp|hl
    .obtain ⟨T1,U1,W1,iv1,g1,st1⟩:=inv_late po hp iv g b k cs
     obtain ⟨is',L',own',T',U',W',iv',hu2,g2,hh,st2⟩:=ih _ _ _ _ _ iv1 hu'
     refine ⟨is',L',own',T',U',W',iv',hu2,g1.trans iv1.sr.h.ok iv'.sr.h.ok g2,fun B hB hlt=>?_,st1.trans st2⟩
     obtain ⟨a,ha,h1,h2⟩:=hh B hB (Nat.lt_of_lt_of_le hlt g1.ext.size)
     refine ⟨a,ha,?_,h2⟩
     rw [getD_set hi,if_neg (Ne.symm (nodup_apart po.nodup hp ha))] at h1
     exact h1
    .have hyl:y∈l:=by
      rcases List.mem_cons.1 hl with h|h
      .exact absurd h hyx
      .exact h
     by_cases hk1:y.k=1
     .obtain ⟨T1,own1,W1,iv1,g1,h1,st1⟩:=inv_early po al hl hk1 iv b k cs
      obtain ⟨is',L',own',T',U',W',iv',hu2,g2,hh,st2⟩:=ih _ _ _ _ _ iv1 hu'
      exact ⟨is',L',own',T',U',W',iv',hu2,g1.trans iv1.sr.h.ok iv'.sr.h.ok g2,fun B hB hlt=>h1 B (hh B hB (Nat.lt_of_lt_of_le hlt g1.ext.size)) hlt,st1.trans st2⟩
     .have hpair:=List.pairwise_append.1 po.pair
      have q:=pairOk_spec ((List.pairwise_cons.1 hpair.2.1).1 y hyl)
      have hb:=q.dep hk hk1
      have iy:=po.it y hy
      have:=before_listed po iv.down y.i x.i ⟨o,ho,hall⟩ (by rw [<- iy.bm]; exact hb)
      rw [hu] at this; cases this
end Go.Eng
namespace Go.Eng
theorem finish {C:Ctx} {ops:Array Oper} {prev:List It} (po:PlanOk ops (prev++[])) {pend:Pend} {σ:Sg} {s:St} {D:List Deferred} (g:GRel C σ) (b:Base) (k:List Item) (cs:List Frame):
  ∀ (is:List Nat) (L:Array Bool) (own:Nat->Nat) (T U:Array Value) (W:World),Inv C ops prev [] L is own pend σ s T U D W ->
  ∃ U' W',SRel σ s U' D W'/\Good σ s.hp W σ s.hp W'/\Steps C.P (lone (b.fr T D (.inRegion ops is :: k)) cs W) (lone (b.fr U' D k) cs W'):=by
 intro is
 induction is with
 | nil=>
  intro L own T U W iv
  have hs:=iv.sch
  cases hs with
  | nil hr=>
   have hT:T=U:=by
    refine Array.ext_getElem? fun t=>iv.agree t (fun p hp hu=>?_) (fun a ha=>by cases ha)
    have hlt:p.i<ops.size:=(Array.getElem?_eq_some_iff.1 (po.it p (by simp [hp])).op).1
    exact absurd hr (ready_some po iv.lsz p.i hlt hu)
   subst hT
   exact ⟨T,W,iv.sr,Good.dom iv.sr.h,.one st_end⟩
 | cons i is ih=>
  intro L own T U W iv
  have hsch:=iv.sch
  cases hsch with
  | cons hr hs=>
   obtain ⟨hi,hun,o,ho,hall⟩:=ready_of iv.lsz hr
   obtain ⟨y,hy,hyi⟩:=po.full i (by rw [<- iv.lsz]; exact hi)
   subst hyi
   have hp:y∈prev:=by simpa using hy
   obtain ⟨T1,U1,W1,iv1,g1,st1⟩:=inv_late po hp iv g b k cs
   obtain ⟨U',W',h1,h2,h3⟩:=ih _ _ _ _ _ iv1
   exact ⟨U',W',h1,g1.trans iv1.sr.h.ok h1.h.ok h2,st1.trans h3⟩
end Go.Eng
namespace Go.Eng
theorem GuardIs.next {ops:Array Oper} {s s':St} {o:Oper} {w:Bool} (h:GuardIs ops s o w) (ht:∀ t∈guardT ops o,∀ a,s.tmps[t]?=some a->∃ a',s'.tmps[t]?=some a'/\Means a'.v a.v):GuardIs ops s' o w:=by
 unfold GuardIs at *
 cases hg:o.guard with
 | none=>rw [hg] at h; exact h
 | some gw=>
  obtain ⟨j,want⟩:=gw
  rw [hg] at h
  obtain ⟨x,g,a,h1,h2,h3,h4⟩:=h
  obtain ⟨a',h5,h6⟩:=ht g (by simp [guardT,hg,h1,h2]) a h3
  exact ⟨x,g,a',h1,h2,h5,fun σ V hv=>h4 σ V (h6 σ V hv)⟩
theorem Late.next {C:Ctx} {ops:Array Oper} {s s':St} {pend pend':Pend} {p:It} (h:Late C ops s pend p) (ip:ItOk ops p) (len:s'.tmps.length=s.tmps.length)
  (ht:∀ t∈p.look,∀ a,s.tmps[t]?=some a->∃ a',s'.tmps[t]?=some a'/\Means a'.v a.v)
  (hd:∀ d,p.d=some d->∀ a',s'.tmps[d]?=some a'->∃ a,s.tmps[d]?=some a/\Means a.v a'.v)
  (hb:∀ t ad v nd,(p.i,t,ad,v)∈pend->loadV C.P s.hp t ad=some (nd,v)->nd.val->(p.i,t,ad,v)∈pend'/\∃ nd',loadV C.P s'.hp t ad=some (nd',v)/\nd'.val):Late C ops s' pend' p:=by
 have hg:∀ w,GuardIs ops s p.o w->GuardIs ops s' p.o w:=fun w h=>h.next fun t ht'=>ht t (by rw [ip.look]; exact List.mem_append_right _ ht')
 rcases h with ⟨h1,sp,q,lg⟩|⟨h1,h2⟩
 .refine .inl ⟨hg _ h1,sp,q,⟨lg.run,lg.need,lg.len.trans len.symm,fun t ht' a ha=>?_,fun d a' hd' ha'=>?_,fun t a h3=>?_⟩⟩
  .obtain ⟨a1,h3,h4⟩:=lg.args t ht' a ha
   obtain ⟨a2,h5,h6⟩:=ht t (by rw [ip.look]; exact List.mem_append_left _ ht') a1 h3
   exact ⟨a2,h5,h6.trans h4⟩
  .obtain ⟨a,h3,h4⟩:=hd d hd' a' ha'
   exact (lg.res d a hd' h3).trans h4
  .obtain ⟨ad,nd,h4,h5,h6,h7⟩:=lg.load t a h3
   obtain ⟨h8,nd',h9,h10⟩:=hb t ad q.v nd h5 h6 h7
   exact ⟨ad,nd',h4,h8,h9,h10⟩
 .refine .inr ⟨hg _ h1,fun d a' hd' ha' σ=>?_⟩
  obtain ⟨a,h3,h4⟩:=hd d hd' a' ha'
  exact h4 _ _ (h2 d a hd' h3 σ)
end Go.Eng
namespace Go.Eng
theorem PostH.back {H H':Nat->Prop} {σ τ:Sg} {s s1:St} {W V:World} {A:Ex->Array Value->List Deferred->World->Prop} (ko:s1.hp.ok) (h:Step σ s W τ s1 V) (hh:∀ B,H' B->B<W.heap.size->H B) {x:Ex} {s2:St} (p:PostH H' τ s1 V A x s2):PostH H σ s W A x s2:=by
 obtain ⟨υ,T,D,X,h1,h2,h3⟩:=p
 exact ⟨υ,T,D,X,h1,StepH.next ko h1.h.ok ⟨Good.hide h.good,h.tm⟩ h2 hh,h3⟩
structure Same (s s':St):Prop where
 len:s'.tmps.length=s.tmps.length
 to:∀ (t:Nat) (a:AT),s.tmps[t]?=some a->∃ a',s'.tmps[t]?=some a'/\Means a'.v a.v
 fro:∀ (t:Nat) (a':AT),s'.tmps[t]?=some a'->∃ a,s.tmps[t]?=some a/\Means a.v a'.v
 hp:∀ i,s'.hp.get i=s.hp.get i
 ck:s.hp.clock<=s'.hp.clock
theorem Inv.same {C:Ctx} {ops:Array Oper} {prev l:List It} {L:Array Bool} {is:List Nat} {own:Nat->Nat} {pend:Pend} {σ:Sg} {s s':St} {T U:Array Value} {D:List Deferred} {W:World} (po:PlanOk ops (prev++l))
  (iv:Inv C ops prev l L is own pend σ s T U D W) (sm:Same s s') (sr:SRel σ s' U D W):Inv C ops prev l L is own pend σ s' T U D W:=
 ⟨sr,iv.sch,iv.lsz,iv.down,fun p hp hu=>⟨(iv.late p hp hu).1,(iv.late p hp hu).2.next (po.it p (List.mem_append_left _ hp)) sm.len (fun t _ a h=>sm.to t a h) (fun d _ a h=>sm.fro d a h) (fun t ad v nd h h2 h3=>⟨h,nd,by rw [loadV_same (fun j' off' e=>sm.hp j') (fun j' off' e=>sm.hp j')]; exact h2,h3⟩)⟩,iv.early,iv.inj,iv.agree,iv.siz⟩
end Go.Eng
namespace Go.Eng
def tickSt (s:St):St:=⟨s.tmps,s.defs,⟨s.hp.blks,s.hp.size,s.hp.clock+1⟩⟩
theorem same_tick (s:St):Same s (tickSt s):=
 ⟨rfl,fun _ a h=>⟨a,h,Means.refl _⟩,fun _ a h=>⟨a,h,Means.refl _⟩,fun i=>by rw [Hp.get_eq,Hp.get_eq]; rfl,Nat.le_succ _⟩
theorem same_refl (s:St):Same s s:=⟨rfl,fun _ a h=>⟨a,h,Means.refl _⟩,fun _ a h=>⟨a,h,Means.refl _⟩,fun _=>rfl,Nat.le_refl _⟩
theorem same_refine {s:St} {d:Tmp} {st:Nat} {p:Bool} (h:s.tmps[d]?=some ⟨st,.bool true p⟩):Same s ⟨s.tmps.set d ⟨s.hp.clock,.bool false p⟩,s.defs,s.hp⟩:=by
 have hlt:=(List.getElem?_eq_some_iff.1 h).1
 refine ⟨by simp,fun t a ha=>?_,fun t a ha=>?_,fun _=>rfl,Nat.le_refl _⟩
 .by_cases he:d=t
  .subst he
   rw [h] at ha; cases ha
   exact ⟨_,List.getElem?_set_self hlt,fun _ _ h=>h⟩
  .exact ⟨a,by rw [List.getElem?_set_ne he]; exact ha,Means.refl _⟩
 .by_cases he:d=t
  .subst he
   simp only [List.getElem?_set_self hlt,Option.some.injEq] at ha
   subst ha
   exact ⟨_,h,fun _ _ h=>h⟩
  .rw [List.getElem?_set_ne he] at ha
   exact ⟨a,ha,Means.refl _⟩
theorem hintNd_back {σ:Sg} {a v:AV} {m:Nd} (e:hintNd a v=some m) (hm:m.val) {V:Value} (h:VRel σ v V):VRel σ a V:=by
 unfold hintNd at e
 split at e
 .split at e
  .rename_i hk; subst hk; cases e
   rw [<- show _=_ from hm] at h; exact h
  .cases e
 .cases e; rw [<- show _=_ from hm] at h; exact h
 .cases e; rw [<- show _=_ from hm] at h; exact h
 .cases e
theorem same_retell {s:St} {d:Tmp} {a:AT} {v:AV} {m:Nd} (h:s.tmps[d]?=some a) (e:hintNd a.v v=some m) (hm:m.val):Same s ⟨s.tmps.set d ⟨s.hp.clock,v⟩,s.defs,s.hp⟩:=by
 have hlt:=(List.getElem?_eq_some_iff.1 h).1
 refine ⟨by simp,fun t b hb=>?_,fun t b hb=>?_,fun _=>rfl,Nat.le_refl _⟩
 .by_cases he:d=t
  .subst he
   rw [h] at hb; cases hb
   exact ⟨_,List.getElem?_set_self hlt,fun _ _ k=>hintNd_back e hm k⟩
  .exact ⟨b,by rw [List.getElem?_set_ne he]; exact hb,Means.refl _⟩
 .by_cases he:d=t
  .subst he
   simp only [List.getElem?_set_self hlt,Option.some.injEq] at hb
   subst hb
   exact ⟨_,h,fun _ _ k=>hintNd_rel e hm k⟩
  .rw [List.getElem?_set_ne he] at hb
   exact ⟨b,hb,Means.refl _⟩
theorem retell_step {σ:Sg} {s:St} {T:Array Value} {D:List Deferred} {W:World} (r:SRel σ s T D W) {d:Tmp} {a:AT} {v:AV} {m:Nd} (h:nth s.tmps d=some a) (e:hintNd a.v v=some m) (hm:m.val):
  SRel σ ⟨s.tmps.set d ⟨s.hp.clock,v⟩,s.defs,s.hp⟩ T D W/\Step σ s W σ ⟨s.tmps.set d ⟨s.hp.clock,v⟩,s.defs,s.hp⟩ W:=by
 obtain ⟨V,h1,h2⟩:=r.t.nth h
 have h3:=hintNd_rel e hm h2
 obtain ⟨p1,p2⟩:=put_step (h:=s.hp) (X:=W) (D:=D) r r.h (Good.refl σ s.hp W fun i B N h=>(r.h.dom i B N h).1) (v:=v) (V:=V) h3 (some d)
 have:putT T (some d) V=T:=by
  simp only [putT]
  rw [Array.setIfInBounds_def]
  split
  .rename_i hd
   have:T[d]=V:=by rw [Array.getElem?_eq_getElem hd] at h1; exact Option.some.inj h1
   exact Array.ext_getElem? fun i=>by
    rw [Array.getElem?_set]
    split
    .rename_i e; subst e; exact h1.symm
    .rfl
  .rfl
 rw [this] at p1
 exact ⟨p1,p2⟩
theorem guardV_go {ops:Array Oper} {s:St} {o:Oper} (h:guardV ops s o=.go):GuardIs ops s o true:=by
 unfold guardV at h
 unfold GuardIs
 split at h
 .rename_i hg; rw [hg]
 .rename_i j want hg
  rw [hg]
  split at h
  .cases h
  .rename_i x hx
   split at h
   .cases h
   .rename_i d hd
    split at h
    .rename_i st p ht
     rw [nth_eq] at ht
     cases hpw:p==want with
     | true=>exact ⟨x,d,_,hx,hd,ht,fun σ V hv=>.inl ⟨p,hv,hpw⟩⟩
     | false=>rw [hpw] at h; cases h
    .cases h
    .cases h
    .cases h
theorem guardV_skip {ops:Array Oper} {s:St} {o:Oper} (h:guardV ops s o=.skip):GuardIs ops s o false:=by
 unfold guardV at h
 unfold GuardIs
 split at h
 .cases h
 .rename_i j want hg
  rw [hg]
  split at h
  .cases h
  .rename_i x hx
   split at h
   .cases h
   .rename_i d hd
    split at h
    .rename_i st p ht
     rw [nth_eq] at ht
     cases hpw:p==want with
     | true=>rw [hpw] at h; cases h
     | false=>exact ⟨x,d,_,hx,hd,ht,fun σ V hv=>.inl ⟨p,hv,hpw⟩⟩
    .cases h
    .rename_i st ht
     rw [nth_eq] at ht
     refine ⟨x,d,_,hx,hd,ht,fun σ V hv=>.inr ⟨rfl,fun b e=>?_⟩⟩
     obtain ⟨K,hK,_⟩:=hv
     rw [hK] at e; cases e
    .cases h
theorem guardV_fork {ops:Array Oper} {s:St} {o:Oper} {d:Tmp} {p want:Bool} (h:guardV ops s o=.fork d p want):(∃ st,s.tmps[d]?=some ⟨st,.bool true p⟩) /\
  ∀ (s':St) (a:AT),s'.tmps[d]?=some a->a.v=.bool false p->GuardIs ops s' o (p==want):=by
 unfold guardV at h
 split at h
 .cases h
 .rename_i j want' hg
  split at h
  .cases h
  .rename_i x hx
   split at h
   .cases h
   .rename_i d' hd
    split at h
    .rename_i st p' ht
     cases hpw:p'==want' <;> (rw [hpw] at h; cases h)
    .rename_i st p' ht
     cases h
     rw [nth_eq] at ht
     refine ⟨⟨st,ht⟩,fun s' a ha hv=>?_⟩
     unfold GuardIs
     rw [hg]
     exact ⟨x,d,a,hx,hd,ha,fun σ V h=>.inl ⟨p,by rw [hv] at h; exact h,rfl⟩⟩
    .cases h
    .cases h
theorem guarded_fits {ops:Array Oper} {s:St} {o:Oper} {go skip:St->Option R} {q:R} (e:guarded ops s o go skip=some q) {σ:Sg} {U:Array Value} {D:List Deferred} {W:World} (sr:SRel σ s U D W) {H:Nat->Prop} {A:Ex->Array Value->List Deferred->World->Prop}
  (hgo:∀ s' q',go s'=some q'->Same s s'->SRel σ s' U D W->GuardIs ops s' o true->Fits (PostH H σ s' W A) q')
  (hskip:∀ s' q',skip s'=some q'->Same s s'->SRel σ s' U D W->GuardIs ops s' o false->Fits (PostH H σ s' W A) q'):Fits (PostH H σ s W A) q:=by
 unfold guarded at e
 split at e
 .cases e
 .rename_i hgv
  exact hgo s q e (same_refl s) sr (guardV_go hgv)
 .rename_i hgv
  exact hskip s q e (same_refl s) sr (guardV_skip hgv)
 .rename_i d p want hgv
  obtain ⟨⟨st,hd⟩,hgi⟩:=guardV_fork hgv
  obtain ⟨r1,st1⟩:=refine_step sr (d:=d) (st:=st) (p:=p) (by rw [nth_eq]; exact hd)
  have sm:=same_refine hd
  have hlt:=(List.getElem?_eq_some_iff.1 hd).1
  have hgi:=hgi ⟨s.tmps.set d ⟨s.hp.clock,.bool false p⟩,s.defs,s.hp⟩ _ (List.getElem?_set_self hlt) rfl
  simp only [setC_eq] at e
  have back:∀ q',Fits (PostH H σ ⟨s.tmps.set d ⟨s.hp.clock,.bool false p⟩,s.defs,s.hp⟩ W A) q'->Fits (PostH H σ s W A) q':=fun q' h hn=>by
   obtain ⟨en,h1,h2⟩:=h hn
   exact ⟨en,h1,PostH.back r1.ko st1 (fun _ h _=>h) h2⟩
  split at e
  .cases e
  .rename_i u hu
   split at e
   .cases e
   .rename_i v hv
    cases e
    refine joinR_fits (postH_closed sr _) ?_ ?_
    .rintro rfl
     refine back _ ?_
     cases want with
     | true=>exact hgo _ _ hu sm r1 hgi
     | false=>exact hskip _ _ hu sm r1 hgi
    .rintro rfl
     refine back _ ?_
     cases want with
     | true=>exact hskip _ _ hv sm r1 hgi
     | false=>exact hgo _ _ hv sm r1 hgi
end Go.Eng
