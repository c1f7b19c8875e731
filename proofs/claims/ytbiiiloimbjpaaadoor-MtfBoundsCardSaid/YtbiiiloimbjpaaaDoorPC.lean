/- What is proved: MtfBounds returns true, whatever the input (part 3). No conditions beyond those of the row. -/
import Derived.Test.YtbiiiloimbjpaaaDoorPB
set_option linter.unusedVariables false
set_option linter.unusedSimpArgs false
set_option linter.unusedSectionVars false
namespace Go.Eng
theorem qQ {P:Program} {t:TypeId} {k:IntKind} (h:DX P t=some k):∃ e,P.underlying t=some (.slice e)/\P.underlying e=some (.int k)/\bY P e=some 1:=by
 unfold DX at h
 split at h
 .rename_i e he
  split at h
  .rename_i k' hk
   split at h
   .rename_i hs; cases h; exact ⟨e,he,hk,hs⟩
   .cases h
  .cases h
 .cases h
theorem gK {σ:Sg} {k:IntKind}:∀ {l:List AV} {L:List Value} {ns:List Int},VRels σ l L->nJ k l=some ns->L=ns.map (Value.int k)
 | [],_,ns,h,e=>by cases e; exact h
 | a :: l,_,ns,⟨v,vs,rfl,h1,h2⟩,e=>by
  cases a with
  | int s k' n=>
   simp only [nJ] at e
   split at e
   .rename_i hk
    obtain rfl:=of_decide_eq_true hk
    split at e
    .rename_i ms hm
     cases e
     obtain rfl:=h1
     rw [gK h2 hm]; rfl
    .cases e
   .cases e
  | _=>cases e
theorem qz {P:Program} {W:World} {B q:Nat} {K:Array Value} {el:TypeId} {fr:Nat×Nat} (hB:W.heap[B]?=some (.cells K el fr)) {L:List Value} (h:(K.toList.drop q).take L.length=L):(loadCells ⟨B,q,none⟩ L.length).run P W=.ok L.toArray W:=by
 refine run_loadCells_list (P:=P) W ⟨B,q,none⟩ L fun j v hj=>?_
 rw [bS,cell_of_row W B _ K el fr hB,<- Array.getElem?_toList]
 rw [<- h,List.getElem?_take] at hj
 split at hj
 .rwa [List.getElem?_drop] at hj
 .cases hj
theorem oh {P:Program} {σ:Sg} {h:Hp} {W:World} (r:HRel σ h W) {k:IntKind} {x:AV} {X:Value} (hx:VRel σ x X) {nd:Nd} {n:Int} {ns:List Int} (e:IY h k x=some (nd,n,ns)) (hn:nd.val):
  n=ns.length/\∀ V:World,V.heap=W.heap->(Builtin.lenOf X).run P V=.ok ns.length V/\(Builtin.firstCells 1 ns.length X).run P V=.ok (ns.map (Value.int k)).toArray V:=by
 have fin:∀ (p:Option Addr) (len c:Nat) (B q:Nat) (K:Array Value) (el:TypeId) (fr:Nat×Nat),X=.slice p len c->len=ns.length->p=some ⟨B,q,none⟩->W.heap[B]?=some (.cells K el fr)->(K.toList.drop q).take ns.length=ns.map (Value.int k) ->
   ∀ V:World,V.heap=W.heap->(Builtin.lenOf X).run P V=.ok ns.length V/\(Builtin.firstCells 1 ns.length X).run P V=.ok (ns.map (Value.int k)).toArray V:=by
  intro p len c B q K el fr hX hl hp hB hK V hV
  subst hX hp hl
  refine ⟨by simp [Builtin.lenOf],?_⟩
  have:=qz (P:=P) (W:=V) (B:=B) (q:=q) (by rw [hV]; exact hB) (L:=ns.map (Value.int k)) (by rw [List.length_map]; exact hK)
  rw [List.length_map] at this
  simp [Builtin.firstCells,this]
 have zero:∀ (p:Option Addr) (c:Nat),X=.slice p 0 c->ns=[]->∀ V:World,V.heap=W.heap->(Builtin.lenOf X).run P V=.ok ns.length V/\(Builtin.firstCells 1 ns.length X).run P V=.ok (ns.map (Value.int k)).toArray V:=by
  intro p c hX hns V _
  subst hX hns
  refine ⟨by simp [Builtin.lenOf],?_⟩
  cases p <;> simp [Builtin.firstCells,loadCells,loadCellsFrom]
 unfold IY at e
 split at e
 .rename_i i n'
  obtain ⟨p,len,c,rfl,⟨hl,hc⟩,hp⟩:=hx
  split at e
  .rename_i w k' xs hg
   split at e
   .rename_i hk
    obtain rfl:=of_decide_eq_true hk
    cases e
    have hn:n=(ns.length:Int):=hn
    refine ⟨hn,?_⟩
    have hlen:len=ns.length:=by omega
    by_cases h0:len=0
    .subst h0
     exact zero p c rfl (List.length_eq_zero_iff.1 hlen.symm)
    .rcases hp with hp|⟨B,N,hσ,rfl⟩
     .exact absurd hp h0
     .obtain ⟨B',N',o,h1,h2,K,el,fr,rfl,h3⟩:=r.blk i _ hg (by cases ns with|nil=>simp at hlen; omega|cons y ys=>rfl)
      rw [hσ] at h1; cases h1
      exact fin _ len c B N K el fr rfl hlen rfl h2 h3
   .cases e
  .cases e
 .rename_i w i o n'
  obtain ⟨p,len,c,rfl,⟨hl,hc⟩,hp⟩:=hx
  have tail:∀ (xs:List Int) (Q:List Value) (q:Nat),(0<=o/\0<=n'/\o+n'<=xs.length)->(Q.drop q).take xs.length=xs.map (Value.int k) ->
    ((xs.drop o.toNat).take n'.toNat).length=len/\(Q.drop (q+o.toNat)).take ((xs.drop o.toNat).take n'.toNat).length=((xs.drop o.toNat).take n'.toNat).map (Value.int k):=by
   intro xs Q q hh hQ
   have e1:((xs.drop o.toNat).take n'.toNat).length=n'.toNat:=by rw [List.length_take,List.length_drop]; omega
   refine ⟨by omega,?_⟩
   rw [e1,List.map_take,List.map_drop,<- hQ,List.drop_take,List.drop_drop,List.take_take]
   congr 1
   omega
  split at e
  .rename_i w' k' xs hg
   split at e
   .cases e
   .split at e
    .rename_i hk
     obtain rfl:=of_decide_eq_true hk
     cases e
     have hn:0<=o/\0<=n/\o+n<=xs.length:=hn
     have e1:((xs.drop o.toNat).take n.toNat).length=n.toNat:=by rw [List.length_take,List.length_drop]; omega
     refine ⟨by omega,?_⟩
     by_cases h0:len=0
     .subst h0
      exact zero p c rfl (List.length_eq_zero_iff.1 (by omega))
     .rcases hp with hp|⟨B,N,hσ,q,rfl,hq,_⟩
      .exact absurd hp h0
      .obtain ⟨B',N',ob,h1,h2,K,el,fr,rfl,h3⟩:=r.blk i _ hg (by cases xs with|nil=>simp at hn; omega|cons y ys=>rfl)
       rw [hσ] at h1; cases h1
       obtain ⟨t1,t2⟩:=tail xs K.toList N hn h3
       simp only [cond_false] at hq
       have hqq:q=N+o.toNat:=by omega
       subst hqq
       exact fin _ len c B _ K el fr rfl t1.symm rfl h2 t2
    .cases e
  .rename_i w' k' xs hg
   split at e
   .split at e
    .rename_i hk
     obtain rfl:=of_decide_eq_true hk
     cases e
     have hn:0<=o/\0<=n/\o+n<=xs.length:=hn
     have e1:((xs.drop o.toNat).take n.toNat).length=n.toNat:=by rw [List.length_take,List.length_drop]; omega
     refine ⟨by omega,?_⟩
     by_cases h0:len=0
     .subst h0
      exact zero p c rfl (List.length_eq_zero_iff.1 (by omega))
     .rcases hp with hp|⟨B,N,hσ,q,rfl,hq,_⟩
      .exact absurd hp h0
      .obtain ⟨B',N',ob,h1,h2,K,el,Z,rfl,h3,_⟩:=r.blk i _ hg (gJ (by omega))
       rw [hσ] at h1; cases h1
       obtain ⟨t1,t2⟩:=tail xs K.toList 0 hn (by rw [List.drop_zero,h3,List.take_append_of_le_length (by simp),List.take_of_length_le (by simp)])
       simp only [cond_true] at hq
       have hqq:q=0+o.toNat:=by omega
       subst hqq
       exact fin _ len c B _ K el (0,0) rfl t1.symm rfl h2 t2
    .cases e
   .cases e
  .cases e
 .split at e
  .rename_i m cs hc
   split at e
   .rename_i ms hm
    cases e
    obtain ⟨M,h1,h2,h3⟩:=mO (P:=P) r hx hc
    have h4:=gK h2 hm
    have h5:ns.length=m:=by rw [h4] at h3; simpa using h3
    refine ⟨by rw [h5],fun V hV=>?_⟩
    obtain ⟨h6,h7⟩:=h1 V hV
    rw [h5]
    exact ⟨h6,by rw [<- h4]; exact h7⟩
   .cases e
  .cases e
theorem xO {P:Program} {σ:Sg} {h:Hp} {W:World} (r:HRel σ h W) {k:IntKind} {xs:List Int} {Z:List Value} {K:Array Value} (e:TypeId) (hK:K.toList=xs.map (Value.int k)++Z) {n c:Nat} {m:Int} (hm':m=n) (hc:n<=c) (hcap:c<=K.size) (nd:Nd) (m':Sem Value)
  (hm:nd.val->m'.run P W=.ok (.slice (some ⟨W.heap.size,0,none⟩) n c) (W.drew.alloc (.cells K e))):OpOk P (do pure (.value (<- m'))) σ h W ⟨nd,.islice true h.size 0 m,h.push (.ints k xs)⟩:=fun hn=>by
 have r':=r.world (V:=W.drew) rfl
 obtain ⟨h1,h2⟩:=r'.alloc (.ints k xs) (.cells K e) K.size ⟨K,e,Z,rfl,hK,rfl⟩
 refine ⟨_,.slice (some ⟨W.heap.size,0,none⟩) n c,_,_,by simp [hm hn],.inl rfl,⟨_,n,c,rfl,⟨hm'.symm,hc⟩,.inr ⟨W.heap.size,K.size,aM,0,rfl,by simp,fun _=>by omega⟩⟩,h1,?_⟩
 exact (Good.drew r).trans r.ok h1.ok h2
theorem sG (k:IntKind) (ns:List Int):∀ v∈ns.map (Value.int k),v.oneCell'=true:=by
 intro v hv
 obtain ⟨n,_,rfl⟩:=List.mem_map.1 hv
 rfl
theorem I8 {P:Program} {σ:Sg} {h:Hp} {W:World} (r:HRel σ h W) {t u ty e eu:TypeId} (ht:P.underlying t=some (.slice e)) (hu:P.underlying u=some (.slice eu)) {i:TypeInfo} (hi:P.info? e=some i) {zv:Value} (hz:i.zero=some zv) (hzs:zv.cells.size=i.size)
  (hsz:i.size=1) (hby:i.bytes<=65536) {id w:Nat} {b:ABody} (hg:h.get id=some ⟨w,b⟩) (hd:b.isDead=false) (hnl:∀ c,b≠.loop c) (hnv:b.isView=false) {Bl N:Nat} (hσ:σ id=some (Bl,N)) {k:IntKind} {xs ys:List Int} {K:Array Value} {el:TypeId} {Z:List Value}
  (hB:W.heap[Bl]?=some (.cells K el (0,0))) (hK:K.toList=xs.map (Value.int k)++Z) (hN:N=K.size) {c:Nat} (hlc:xs.length<=c) (hcN:c<=N) (hmax:xs.length+ys.length<=1048576) {X:Value}
  (hX:∀ V:World,V.heap=W.heap->(Builtin.lenOf X).run P V=.ok ys.length V/\(Builtin.firstCells 1 ys.length X).run P V=.ok (ys.map (Value.int k)).toArray V) {m:Int} (hm:m=(xs.length+ys.length:Nat)) (nd:Nd):
  OpOk P (do pure (.value (<- Builtin.append_ #[t,u] ty #[.slice (some ⟨Bl,0,none⟩) xs.length c,X]))) σ h W ⟨nd,.islice true h.size 0 m,(h.put id .dead).push (.ints k (xs++ys))⟩:=by
 have hX':∀ V:World,V.heap=W.heap->(Builtin.lenOf X).run P V=.ok ys.length V/\(Builtin.firstCells i.size ys.length X).run P V=.ok (ys.map (Value.int k)).toArray V:=by rw [hsz]; exact hX
 by_cases hroom:xs.length+ys.length<=c
 .have hrun:=kY (P:=P) (ty:=ty) ht hu hi hB (off:=0) (len:=xs.length) hX' (sG k ys) hroom (by rw [hsz]; simp; omega)
  obtain ⟨q7,q8⟩:=r.move (V:=W.setRow Bl (K.toList.take (0+xs.length*i.size)++ys.map (Value.int k)++K.toList.drop (0+xs.length*i.size+(ys.map (Value.int k)).length)).toArray) hg hd hnl hσ (.ints k (xs++ys)) _ (setRow_heap W Bl K _ el (0,0) hB)
   ⟨_,el,Z.drop ys.length,rfl,by
    rw [hsz,hK]
    simp only [Nat.zero_add,Nat.mul_one,List.map_append,List.length_map]
    rw [show xs.length=(xs.map (Value.int k)).length from by simp,List.take_left,<- List.drop_drop,List.drop_left],by
    subst hN; rw [hsz]; simp; omega⟩
   (setRow_size W Bl _) (fun j hj=>setRow_other W Bl j _ hj) rfl rfl rfl (hnv:=hnv)
  refine fun _=>⟨_,_,_,_,by simp [hrun]; rfl,.inl rfl,?_,q7,q8⟩
  exact ⟨_,_,c,rfl,⟨by rw [hm],hroom⟩,.inr ⟨Bl,N,aM,0,rfl,by simp,fun _=>by omega⟩⟩
 .obtain ⟨k1,k2⟩:=r.kill hg hnl
  have hO:∀ V:World,V.heap=W.heap->(Builtin.firstCells i.size xs.length (.slice (some ⟨Bl,0,none⟩) xs.length c)).run P V=.ok (xs.map (Value.int k)).toArray V:=by
   intro V hV
   have:=qz (P:=P) (W:=V) (B:=Bl) (q:=0) (by rw [hV]; exact hB) (L:=xs.map (Value.int k)) (by rw [List.drop_zero,hK,List.take_left])
   rw [List.length_map] at this
   simp [Builtin.firstCells,hsz,this]
  have hrun:=dL (P:=P) (W:=W) (ty:=ty) ht hu hi hz (base:=some ⟨Bl,0,none⟩) (len:=xs.length) (cap:=c) hO hX' (by omega) hmax hby
  have:=xO k1 e (k:=k) (xs:=xs++ys) (Z:=(Builtin.zeroCells zv.cells (grownCap W (xs.length+ys.length) c e - (xs.length+ys.length))).toList)
   (K:=(xs.map (Value.int k)).toArray++(ys.map (Value.int k)).toArray++Builtin.zeroCells zv.cells (grownCap W (xs.length+ys.length) c e - (xs.length+ys.length))) (by simp) (n:=xs.length+ys.length) (c:=grownCap W (xs.length+ys.length) c e) hm (grownCap_ge _ _ _ _) (by
    have:=eU (W:=W) (len:=xs.length) (n:=ys.length) (cap:=c) (e:=e) hzs (O:=xs.map (Value.int k)) (M:=ys.map (Value.int k)) (by simp [hsz]) (by simp [hsz])
    rw [hsz,Nat.mul_one] at this
    exact this) nd _ (fun _=>hrun)
  intro hn
  obtain ⟨τ,V,X',rr,p1,p2,p3,p4,p5⟩:=this hn
  exact ⟨τ,V,X',rr,p1,p2,p3,p4,k2.trans k1.ok p4.ok p5⟩
theorem Su {P:Program} {σ:Sg} {h:Hp} {W:World} (r:HRel σ h W) {t u ty eu:TypeId} (hu:P.underlying u=some (.slice eu)) {a b:AV} {A B:Value} (ha:VRel σ a A) (hb:VRel σ b B) {q:S1} (e:WQ P h t a b=some q):
  OpOk P (do pure (.value (<- Builtin.append_ #[t,u] ty #[A,B]))) σ h W q:=by
 unfold WQ at e
 split at e
 .cases e
 .rename_i k hk
  obtain ⟨el0,he1,he2,he3⟩:=qQ hk
  split at e
  .rename_i el ht
   rw [he1] at ht; cases ht
   split at e
   .cases e
   .rename_i i hi
    split at e
    .cases e
    .rename_i z hz
     obtain ⟨i',zv,hi',hz',hzr,_⟩:=bv (σ:=σ) hz
     rw [hi] at hi'; cases hi'
     split at e
     .cases e
     .rename_i hc
      simp only [Bool.and_eq_true,Nat.ble_eq,Nat.beq_eq] at hc
      have hzs:zv.cells.size=i.size:=by have:=VRels.length hzr; simp at this; omega
      have hsz:i.size=1:=by
       obtain ⟨i2,e1,e2⟩:=gB he3
       rw [hi] at e1; cases e1; exact e2
      split at e
      .cases e
      .rename_i nd m ys hnum
       split at e
       .cases e
        obtain rfl:=ha
        intro hn
        obtain ⟨hm1,hm2⟩:=Nd.rv hn
        obtain ⟨hmy,hX⟩:=oh (P:=P) r hb hnum (Nd.lv hn)
        have hX':∀ V:World,V.heap=W.heap->(Builtin.lenOf B).run P V=.ok ys.length V/\(Builtin.firstCells i.size ys.length B).run P V=.ok (ys.map (Value.int k)).toArray V:=by rw [hsz]; exact hX
        have hrun:=dL (P:=P) (W:=W) (ty:=ty) he1 hu hi hz' (base:=none) (len:=0) (cap:=0) (O:=[]) (fun V _=>by simp [Builtin.firstCells]) hX' (by omega) (by omega) hc.2
        rw [Nat.zero_add] at hrun
        exact xO r el0 (k:=k) (xs:=ys) (Z:=(Builtin.zeroCells zv.cells (grownCap W ys.length 0 el0 - ys.length)).toList) (K:=([]:List Value).toArray++(ys.map (Value.int k)).toArray++Builtin.zeroCells zv.cells (grownCap W ys.length 0 el0 - ys.length)) (by simp) (n:=ys.length) (c:=grownCap W ys.length 0 el0) hmy (by simpa using grownCap_ge W ys.length 0 el0)
         (by
          have:=eU (W:=W) (len:=0) (n:=ys.length) (cap:=0) (e:=el0) hzs (O:=[]) (M:=ys.map (Value.int k)) (by simp) (by simp [hsz])
          rw [hsz,Nat.mul_one,Nat.zero_add] at this
          exact this) _ _ (fun _=>hrun) hn
       .rename_i id0 off0
        cases e
        obtain ⟨b0,N0,_,rfl⟩:=ha
        intro hn
        obtain ⟨hm1,hm2⟩:=Nd.rv hn
        obtain ⟨hmy,hX⟩:=oh (P:=P) r hb hnum (Nd.lv hn)
        have hX':∀ V:World,V.heap=W.heap->(Builtin.lenOf B).run P V=.ok ys.length V/\(Builtin.firstCells i.size ys.length B).run P V=.ok (ys.map (Value.int k)).toArray V:=by rw [hsz]; exact hX
        have hrun:=dL (P:=P) (W:=W) (ty:=ty) he1 hu hi hz' (base:=some ⟨b0,off0,none⟩) (len:=0) (cap:=0) (O:=[]) (fun V _=>by simp [Builtin.firstCells,loadCells,loadCellsFrom]) hX' (by omega) (by omega) hc.2
        rw [Nat.zero_add] at hrun
        exact xO r el0 (k:=k) (xs:=ys) (Z:=(Builtin.zeroCells zv.cells (grownCap W ys.length 0 el0 - ys.length)).toList) (K:=([]:List Value).toArray++(ys.map (Value.int k)).toArray++Builtin.zeroCells zv.cells (grownCap W ys.length 0 el0 - ys.length)) (by simp) (n:=ys.length) (c:=grownCap W ys.length 0 el0) hmy (by simpa using grownCap_ge W ys.length 0 el0)
         (by
          have:=eU (W:=W) (len:=0) (n:=ys.length) (cap:=0) (e:=el0) hzs (O:=[]) (M:=ys.map (Value.int k)) (by simp) (by simp [hsz])
          rw [hsz,Nat.mul_one,Nat.zero_add] at this
          exact this) _ _ (fun _=>hrun) hn
       .rename_i id o n
        split at e
        .rename_i w k' xs hg
         split at e
         .rename_i hkk
          obtain rfl:=of_decide_eq_true hkk
          rw [Hp.set_eq] at e
          cases e
          intro hn
          obtain ⟨rfl,hn0,hnx,hmax⟩:=Nd.rv hn
          obtain ⟨hmy,hX⟩:=oh (P:=P) r hb hnum (Nd.lv hn)
          obtain ⟨p,len,c,rfl,⟨hl,hcl⟩,hp⟩:=ha
          rcases hp with hp|⟨Bl,N,hσ,q0,rfl,hq,hqN⟩
          .omega
          .have hqN:=hqN rfl
           simp only [cond_true] at hq
           obtain rfl:q0=0:=by omega
           have hlv:=gJ (k:=k) (xs:=xs) (by omega)
           obtain ⟨B',N',ob,h1,h2,K,ek,Z,rfl,h3,h4⟩:=r.blk id _ hg hlv
           rw [hσ] at h1; cases h1
           obtain rfl:len=xs.length:=by omega
           have:=I8 r (ty:=ty) he1 hu hi hz' hzs hsz hc.2 hg hlv (fun _ h=>by cases h) rfl hσ h2 h3 h4 (c:=c) hcl (by omega) (by omega) hX (m:=n+m) (by omega) (nd.and (.p ((0:Int)=0/\0<n/\n=xs.length/\n+m<=1048576)))
           exact this hn
         .cases e
        .cases e
       .rename_i id off len cap _
        obtain ⟨Bl,N,hσ,rfl⟩:=ha
        split at e
        .rename_i w l hg
         split at e
         .rename_i hb4
          simp only [Bool.and_eq_true,Nat.beq_eq,Nat.blt_eq,Nat.ble_eq] at hb4
          obtain ⟨⟨⟨rfl,hl0⟩,hlc⟩,hcl⟩:=hb4
          split at e
          .cases e
          .rename_i q1 hq1
           split at e
           .cases e
           .rename_i xs hxs
            rw [Hp.set_eq] at e
            cases e
            intro hn
            have hmax:(len:Int)+m<=1048576:=Nd.rv hn
            obtain ⟨hmy,hX⟩:=oh (P:=P) r hb hnum (Nd.lv hn)
            obtain ⟨B',N',ob,h1,h2,K,ek,rfl,h3,h4⟩:=r.blk id _ hg rfl
            rw [hσ] at h1; cases h1
            obtain ⟨t1,t2⟩:=VRels.take _ h3 hq1
            have t3:=gK t1 hxs
            have hKl:K.toList.length=l.length:=VRels.length h3
            have t4:xs.length=len:=by
             have:=congrArg List.length t3
             simp at this hKl
             omega
            have hK:K.toList=xs.map (Value.int k)++K.toList.drop len:=by rw [<- t3,List.take_append_drop]
            have:=I8 r (ty:=ty) he1 hu hi hz' hzs hsz hc.2 hg rfl (fun _ h=>by cases h) rfl hσ h2 hK h4 (c:=cap) (by omega) (by rw [h4]; simp at hKl; omega) (by omega) hX (m:=(len:Int)+m) (by omega) (nd.and (.p ((len:Int)+m<=1048576)))
            rw [t4] at this
            exact this hn
         .cases e
        .cases e
       .cases e
  .cases e
theorem Ml {P:Program} {σ:Sg} {h:Hp} {W:World} (r:HRel σ h W) {t:TypeId} {l c:AV} {L C:Value} (hl:VRel σ l L) (hc:VRel σ c C) {q:S1} (e:BP P h t l c=some q):
  OpOk P (do pure (.value (<- Instr.makeSlice t L C))) σ h W q:=by
 unfold BP at e
 split at e
 .cases e
 .rename_i k hk
  obtain ⟨el0,he1,he2,he3⟩:=qQ hk
  split at e
  .rename_i s1 kk n
   obtain rfl:=hl
   split at e
   .rename_i s2 k2 m
    obtain rfl:=hc
    split at e
    .rename_i el hu
     rw [he1] at hu; cases hu
     split at e
     .cases e
     .rename_i i hi
      split at e
      .rename_i k' hz
       split at e
       .rename_i hb
        simp only [Bool.and_eq_true,decide_eq_true_eq,Nat.ble_eq] at hb
        obtain ⟨rfl,hby⟩:=hb
        cases e
        obtain ⟨i',zv,hi',hz',hzr,_⟩:=bv (σ:=σ) hz
        rw [hi] at hi'; cases hi'
        obtain ⟨i2,e1,hsz⟩:=gB he3
        rw [hi] at e1; cases e1
        obtain ⟨zv0,zl,hzc,z1,z2⟩:=hzr
        obtain rfl:zl=[]:=z2
        obtain rfl:zv0=.int k 0:=z1
        intro hn
        obtain ⟨rfl,k1,k4⟩:=(show n=m/\0<=n/\n<=1048576 from hn)
        have hzs:zv.cells.size=1:=by have:=congrArg List.length hzc; simpa using this
        have w1:IntKind.i64.wrap n=n:=by
         have:n % 18446744073709551616=n:=Int.emod_eq_of_lt k1 (by omega)
         simp [IntKind.wrap,IntKind.bits,IntKind.signed,this]; omega
        have hby2:(i.bytes:Int)*n<=65536*1048576:=Int.mul_le_mul (by omega) k4 k1 (by decide)
        have b1:¬ (281474976710656<(i.bytes:Int)*n):=by omega
        have hrep:((Array.range (n.toNat*zv.cells.size)).map (fun i=>zv.cells[i % zv.cells.size]!)).toList=(List.replicate n.toNat 0).map (Value.int k):=by
         rw [qO,hzc]
         generalize n.toNat=j
         induction j with
         | zero=>rfl
         | succ j ih=>simp only [qh,List.replicate_succ,List.map_cons,List.singleton_append,ih]
        have hs:(sizeOf el0).run P W=.ok i.size W:=by simp [sizeOf,typeInfo,hi]
        have c2:¬ n<0:=by omega
        have hkey:(Instr.makeSlice t (.int kk n) (.int k2 n)).run P W=.ok (.slice (some ⟨W.heap.size,0,none⟩) n.toNat n.toNat) (W.alloc (.cells ((Array.range (n.toNat*zv.cells.size)).map (fun i=>zv.cells[i % zv.cells.size]!)) el0)):=by
         by_cases h0:n.toNat=0
         .have hm0:n=0:=by omega
          subst hm0
          simp [Instr.makeSlice,run_underlying he1,asInt,asIntOf,typeInfo,hi,w1,b1,c2,hs,hsz,newRow,Array.range_zero']
         .simp only [hzs]
          simp [Instr.makeSlice,run_underlying he1,asInt,asIntOf,typeInfo,hi,w1,b1,c2,hs,hsz,h0,newRow,ku hi hz',hzs]
        obtain ⟨h1,h2⟩:=r.alloc (.ints k (List.replicate n.toNat 0)) (.cells ((Array.range (n.toNat*zv.cells.size)).map (fun i=>zv.cells[i % zv.cells.size]!)) el0) _ ⟨_,el0,[],rfl,by rw [hrep,List.append_nil],rfl⟩
        refine ⟨_,_,_,_,by simp [hkey],.inl rfl,⟨_,n.toNat,n.toNat,rfl,⟨by omega,Nat.le_refl _⟩,.inr ⟨W.heap.size,_,aM,0,rfl,by simp,fun _=>?_⟩⟩,h1,h2⟩
        simp [hzs]
       .cases e
      .cases e
    .cases e
   .cases e
  .cases e
theorem Mm {P:Program} {σ:Sg} {h:Hp} {W:World} (r:HRel σ h W) {t ty:TypeId} {ts:Array TypeId} (hts:ts[0]?=some t) {a b:AV} {A B:Value} (ha:VRel σ a A) (hb:VRel σ b B) {q:S1} (e:LZ P h t a b=some q):
  OpOk P (do pure (.value (<- Builtin.copy_ ts ty #[A,B]))) σ h W q:=by
 unfold LZ at e
 split at e
 .cases e
 .rename_i k hk
  obtain ⟨el0,he1,he2,he3⟩:=qQ hk
  split at e
  .cases e
  .rename_i nd m ys hnum
   split at e
   .rename_i id o n
    split at e
    .rename_i w k' xs hg
     split at e
     .rename_i hkk
      obtain rfl:=of_decide_eq_true hkk
      rw [Hp.set_eq] at e
      cases e
      intro hn
      obtain ⟨ho,hm0,hmn,hox⟩:=(show 0<=o/\0<m/\m<=n/\o+n<=xs.length from Nd.rv hn)
      obtain ⟨hmy,hX⟩:=oh (P:=P) r hb hnum (Nd.lv hn)
      obtain ⟨p,len,c,rfl,⟨hl,hcl⟩,hp⟩:=ha
      rcases hp with hp|⟨Bl,N,hσ,q0,rfl,hq,hqN⟩
      .omega
      .simp only [cond_true] at hq
       obtain rfl:q0=o.toNat:=by omega
       have hlv:=gJ (k:=k) (xs:=xs) (by omega)
       obtain ⟨B',N',ob,h1,h2,K,ek,Z,rfl,h3,h4⟩:=r.blk id _ hg hlv
       rw [hσ] at h1; cases h1
       obtain ⟨hl2,hf2⟩:=hX W rfl
       have hKl:K.toList.length=xs.length+Z.length:=by rw [h3]; simp
       have hst:=run_storeCells_at P Bl o.toNat ek (ys.map (Value.int k)) 0 K W h2 (by simp at hKl ⊢; omega) (sG k ys)
       simp only [Nat.add_zero] at hst
       obtain ⟨q7,q8⟩:=r.row hg hlv (fun _ h=>by cases h) hσ (K':=(K.toList.take o.toNat++ys.map (Value.int k)++K.toList.drop (o.toNat+(ys.map (Value.int k)).length)).toArray) h2 (.ints k (Kg xs o.toNat ys)) ⟨_,ek,Z,rfl,by
        simp only [Kg,h3,List.map_append,List.map_take,List.map_drop,List.length_map]
        rw [List.take_append_of_le_length (by simp; omega),List.drop_append_of_le_length (by simp; omega)]
        simp,by subst h4; simp at hKl ⊢; omega⟩
       have hmin:ys.length.min len=ys.length:=by show min ys.length len=ys.length; omega
       have hA:(Builtin.lenOf (.slice (some ⟨Bl,o.toNat,none⟩) len c)).run P W=.ok len W:=by simp [Builtin.lenOf]
       refine ⟨σ,.int .i64 ys.length,_,_,?_,.inl rfl,by rw [hmy]; rfl,q7,q8⟩
       simp [Builtin.copy_,hts,run_underlying he1,hl2,hA,hmin,au he3,hf2,hst,goInt]
     .cases e
    .cases e
   .cases e
theorem Ac {P:Program} {σ:Sg} {x:AV} {X:Value} {n:Nat} (hx:VRel σ x X) (e:uD x=some n) (W:World):(Builtin.lenOf X).run P W=.ok n W:=by
 unfold uD at e
 split at e <;> cases e
 .obtain rfl:=hx; rfl
 .obtain ⟨_,_,_,rfl⟩:=hx; rfl
 .obtain ⟨_,_,_,_,_,rfl,_⟩:=hx; rfl
theorem Kn {P:Program} {σ:Sg} {h:Hp} {W:World} (r:HRel σ h W) {x:AV} {X:Value} {n size ln:Nat} {m:List AV} (hx:VRel σ x X) (hl:uD x=some ln) (hpos:ln≠0) (e:GA h (n*size) x=some m):
  ∃ M,(Builtin.firstCells size n X).run P W=.ok M.toArray W/\VRels σ m M/\M.length=n*size:=by
 unfold GA at e
 split at e
 .rename_i i off len cap
  obtain ⟨B,N,hσ,rfl⟩:=hx
  split at e
  .rename_i w l hg
   obtain ⟨B',N',o,h1,h2,K,el,rfl,h3,h4⟩:=r.blk i _ hg rfl
   rw [hσ] at h1; cases h1
   obtain ⟨M,q1,q2,q3,_⟩:=dV (P:=P) h2 (A:=K.toList) (Z:=[]) (by simp) h3 e
   exact ⟨M,by simp [Builtin.firstCells,q1],q2,q3⟩
  .rename_i w l hg
   obtain ⟨B',N',o,h1,h2,K,el,A,Z,rfl,hA,h3,h4⟩:=r.blk i _ hg rfl
   rw [hσ] at h1; cases h1
   obtain ⟨M,q1,q2,q3,_⟩:=dV (P:=P) h2 hA h3 e
   exact ⟨M,by simp [Builtin.firstCells,q1],q2,q3⟩
  .cases e
 .rename_i i off len ee
  obtain ⟨B,N,qo,c,hσ,rfl,hq,hc⟩:=hx
  cases hl
  obtain ⟨rfl,_⟩:=hq hpos
  split at e
  .rename_i w l hg
   obtain ⟨B',N',o,h1,h2,K,el,A,Z,rfl,hA,h3,h4⟩:=r.blk i _ hg rfl
   rw [hσ] at h1; cases h1
   obtain ⟨M,q1,q2,q3,_⟩:=dV (P:=P) h2 hA h3 e
   exact ⟨M,by simp [Builtin.firstCells,q1],q2,q3⟩
  .cases e
 .rename_i hn1 hn2
  exfalso
  cases x with
  | slice a b c d=>exact hn1 a b c d rfl
  | gslice a b c d=>exact hn2 a b c d rfl
  | nilslice=>cases hl; exact hpos rfl
  | _=>cases hl
theorem Ko {P:Program} {σ:Sg} {h:Hp} {W:World} (r:HRel σ h W) {id off n B N:Nat} (hσ:σ id=some (B,N)) {cs:List AV} {M:List Value} (hM:VRels σ cs M) (h1:∀ v∈M,v.oneCell'=true) {q:S1}
  (e:xA h id off n cs none (fun v h=>some ⟨.tt,v,h⟩)=some q):
  ∃ V,(storeCells ⟨B,off,none⟩ M).run P W=.ok () V/\HRel σ q.h V/\Good σ h W σ q.h V/\q.v=bB false .i64 n/\q.nd=.tt:=by
 unfold xA at e
 split at e
 .rename_i w l hg
  split at e
  .cases e
  .rename_i l' hp
   rw [Hp.set_eq] at e
   cases e
   obtain ⟨B',N',o,q1,q2,K,ek,rfl,q3,q4⟩:=r.blk id _ hg rfl
   rw [hσ] at q1; cases q1
   obtain ⟨q5,q6⟩:=bZ l _ _ l' q3 hM hp
   have hst:=run_storeCells_at P B off ek M 0 K W q2 (by simpa using q6) h1
   simp only [Nat.add_zero] at hst
   obtain ⟨q7,q8⟩:=r.row hg rfl (fun _ h=>by cases h) hσ (K':=(K.toList.take off++M++K.toList.drop (off+M.length)).toArray) q2 (.cells l') ⟨_,ek,rfl,by simpa using q5,by
    subst q4; simp at q6 ⊢; omega⟩
   exact ⟨_,hst,q7,q8,rfl,rfl⟩
 .rename_i w l hg
  split at e
  .cases e
  .rename_i l' hp
   rw [Hp.set_eq] at e
   cases e
   obtain ⟨B',N',o,q1,q2,K,ek,X,Y,rfl,hXY,q3,q4⟩:=r.blk id _ hg rfl
   rw [hσ] at q1; cases q1
   obtain ⟨q5,q6⟩:=bZ l _ _ l' q3 hM hp
   have hXK:X.length<=K.size:=by have:=congrArg List.length hXY; simp at this; omega
   have hst:=run_storeCells_at P B off ek M 0 K W q2 (by omega) h1
   simp only [Nat.add_zero] at hst
   obtain ⟨q7,q8⟩:=r.row hg rfl (fun _ h=>by cases h) hσ (K':=(K.toList.take off++M++K.toList.drop (off+M.length)).toArray) q2 (.grown l') ⟨_,ek,X.take off++M++X.drop (off+M.length),Y,rfl,by
    simp only [hXY]
    rw [List.take_append_of_le_length (by omega),List.drop_append_of_le_length (by omega)]
    simp,q5,by
    subst q4; simp; omega⟩
   exact ⟨_,hst,q7,q8,rfl,rfl⟩
 .cases e
theorem Mo {P:Program} {σ:Sg} {h:Hp} {W:World} (r:HRel σ h W) {t ty:TypeId} {ts:Array TypeId} (hts:ts[0]?=some t) {a b:AV} {A B:Value} (ha:VRel σ a A) (hb:VRel σ b B) {q:S1} (e:LX P h t a b none (fun v h=>some ⟨.tt,v,h⟩)=some q):
  OpOk P (do pure (.value (<- Builtin.copy_ ts ty #[A,B]))) σ h W q:=by
 unfold LX at e
 split at e
 .rename_i el hu
  split at e
  .cases e
  .rename_i size hsz
   split at e
   .cases e
   .rename_i ld hld
    split at e
    .cases e
    .rename_i lx hlx
     obtain ⟨i,hi,hsi⟩:=gB hsz
     have r1:=Ac (P:=P) ha hld W
     have r2:=Ac (P:=P) hb hlx W
     split at e
     .rename_i hmin
      cases e
      refine OpOk.pure r fun _=>⟨.int .i64 0,?_,rfl⟩
      have hf:∀ X,(Builtin.lenOf X).run P W=.ok lx W->(Builtin.firstCells size 0 X).run P W=.ok #[] W:=by
       intro X hX
       cases X <;> simp [Builtin.lenOf] at hX
       case slice a l c=>cases a <;> simp [Builtin.firstCells,loadCells,loadCellsFrom]
       case string s=>simp [Builtin.firstCells]
      have hst:∀ a:Addr,(storeCells a []).run P W=.ok () W:=fun _=>rfl
      have hA:∃ base l c,A=.slice base l c/\l=ld:=by
       unfold uD at hld
       split at hld <;> cases hld
       .obtain rfl:=ha; exact ⟨_,_,_,rfl,rfl⟩
       .obtain ⟨_,_,_,rfl⟩:=ha; exact ⟨_,_,_,rfl,rfl⟩
       .obtain ⟨_,_,_,_,_,rfl,_⟩:=ha; exact ⟨_,_,_,rfl,rfl⟩
      obtain ⟨base,l,c,rfl,rfl⟩:=hA
      have hmin':lx.min l=0:=hmin
      cases base with
      | none=>simp [Builtin.copy_,hts,run_underlying hu,r2,hmin',au hsz,hf B r2,goInt]
      | some ad=>simp [Builtin.copy_,hts,run_underlying hu,r2,hmin',au hsz,hf B r2,goInt,hst]
     .rename_i n hmin
      have hmin':lx.min ld=n+1:=hmin
      split at e
      .cases e
      .rename_i cs hcs
       split at e
       .cases e
       .rename_i hall
        have hlx0:lx≠0:=by intro h0; subst h0; simp at hmin'
        have hld0:ld≠0:=by intro h0; subst h0; simp at hmin'
        obtain ⟨M,p1,p2,p3⟩:=Kn (P:=P) r hb hlx hlx0 hcs
        have h1:=jo p2 hall
        have fin:∀ id off l c Bl N,σ id=some (Bl,N)->A=.slice (some ⟨Bl,off,none⟩) l c->l=ld->xA h id off (n+1) cs none (fun v h=>some ⟨.tt,v,h⟩)=some q->OpOk P (do pure (.value (<- Builtin.copy_ ts ty #[A,B]))) σ h W q:=by
         intro id off l c Bl N hσ hA hl e
         subst hA; subst hl
         obtain ⟨V,v1,v2,v3,v4,v5⟩:=Ko (P:=P) r hσ p2 h1 e
         intro _
         refine ⟨σ,.int .i64 (n+1:Nat),V,_,?_,.inl rfl,by rw [v4]; simp,v2,v3⟩
         simp [Builtin.copy_,hts,run_underlying hu,r2,hmin',au hsz,p1,v1,goInt]
        split at e
        .cases hld
         obtain ⟨Bl,N,hσ,hA⟩:=ha
         exact fin _ _ _ _ _ _ hσ hA rfl e
        .cases hld
         obtain ⟨Bl,N,qo,c,hσ,hA,hq,hc⟩:=ha
         obtain ⟨rfl,_⟩:=hq hld0
         exact fin _ _ _ _ _ _ hσ hA rfl e
        .cases e
 .cases e
theorem zM {P:Program} {σ:Sg} {h:Hp} {W:World} (r:HRel σ h W) {t:TypeId} {l c:AV} {L C:Value} (hl:VRel σ l L) (hc:VRel σ c C) {q:S1} (e:mr P h t l c=some q):
  OpOk P (do pure (.value (<- Instr.makeSlice t L C))) σ h W q:=by
 unfold mr at e
 split at e
 .rename_i el hu
  split at e
  .rename_i k n
   obtain rfl:=hl
   split at e
   .rename_i k' m
    obtain rfl:=hc
    split at e
    .cases e
    .rename_i i hi
     split at e
     .cases e
     .rename_i z hz
      split at e
      .rename_i hk
       simp only [Bool.and_eq_true,decide_eq_true_eq,Nat.beq_eq] at hk
       obtain ⟨⟨⟨k1,k2,k3,k4⟩,k5⟩,k6⟩:=hk
       simp only [aF] at e
       cases e
       obtain ⟨i',zv,hi',hz',hzr,_⟩:=bv (σ:=σ) hz
       rw [hi] at hi'; cases hi'
       have hzs:zv.cells.size=i.size:=by have:=VRels.length hzr; simp at this; omega
       have w1:IntKind.i64.wrap n=n:=by
        have:n % 18446744073709551616=n:=Int.emod_eq_of_lt k1 (by omega)
        simp [IntKind.wrap,IntKind.bits,IntKind.signed,this]; omega
       have w2:IntKind.i64.wrap m=m:=by
        have:m % 18446744073709551616=m:=Int.emod_eq_of_lt (by omega) (by omega)
        simp [IntKind.wrap,IntKind.bits,IntKind.signed,this]; omega
       have hby:(i.bytes:Int)*m<=140737488355328:=by rw [Int.mul_comm]; exact k3
       have b1:¬ (281474976710656<(i.bytes:Int)*m):=by omega
       have hrep:VRels σ (qh z m.toNat) ((Array.range (m.toNat*zv.cells.size)).map (fun i=>zv.cells[i % zv.cells.size]!)).toList:=by
        rw [qO]; exact VRels.rep hzr _
       refine si r el hrep _ _ (.slice (some ⟨W.heap.size,0,none⟩) n.toNat m.toNat) ?_ ⟨W.heap.size,_,aM,rfl⟩
       have hs:(sizeOf el).run P W=.ok i.size W:=by simp [sizeOf,typeInfo,hi]
       have c1:¬ m<0:=by omega
       have c2:¬ n<0:=by omega
       have c3:¬ m<n:=by omega
       by_cases h0:m.toNat*i.size=0
       .have hm0:m=0\/i.size=0:=by rcases Nat.mul_eq_zero.1 h0 with h|h <;> omega
        have harr:((Array.range (m.toNat*zv.cells.size)).map (fun i=>zv.cells[i % zv.cells.size]!))=#[]:=by rw [hzs,h0,Array.range_zero']; simp
        rw [harr]
        simp [Instr.makeSlice,run_underlying hu,asInt,asIntOf,typeInfo,hi,w1,w2,b1,c1,c2,c3,hs,h0,newRow,Array.range_zero']
       .simp only [hzs]
        simp [Instr.makeSlice,run_underlying hu,asInt,asIntOf,typeInfo,hi,w1,w2,b1,c1,c2,c3,hs,h0,newRow,ku hi hz',hzs]
      .cases e
   .cases e
  .cases e
 .cases e
theorem Ck {P:Program} {σ:Sg} {h:Hp} {W:World} (r:HRel σ h W) {t:TypeId} {l c:AV} {L C:Value} (hl:VRel σ l L) (hc:VRel σ c C) {q:S1} (e:nT P h t l c=some q):
  OpOk P (do pure (.value (<- Instr.makeSlice t L C))) σ h W q:=by
 unfold nT at e
 split at e
 .rename_i q' hq; cases e
  exact zM r hl hc hq
 .exact Ml r hl hc e
theorem Kq {P:Program} {σ:Sg} {h:Hp} {W:World} (r:HRel σ h W) {t u ty:TypeId} {a b:AV} {A B:Value} (ha:VRel σ a A) (hb:VRel σ b B) {q:S1} (e:xB P h t u a b=some q):
  OpOk P (do pure (.value (<- Builtin.append_ #[t,u] ty #[A,B]))) σ h W q:=by
 unfold xB at e
 split at e
 .rename_i q' hq; cases e
  exact GU r ha hb hq
 .split at e
  .rename_i eu hu
   exact Su r hu ha hb e
  .cases e
theorem Sv {P:Program} {σ:Sg} {h:Hp} {W:World} (r:HRel σ h W) {t ty:TypeId} {ts:Array TypeId} (hts:ts[0]?=some t) {a b:AV} {A B:Value} (ha:VRel σ a A) (hb:VRel σ b B) {q:S1} (e:GD P h t a b=some q):
  OpOk P (do pure (.value (<- Builtin.copy_ ts ty #[A,B]))) σ h W q:=by
 unfold GD at e
 split at e
 .rename_i q' hq; cases e
  exact Mo r hts ha hb hq
 .exact Mm r hts ha hb e
theorem WT {P:Program} {σ:Sg} {t ty:TypeId} {ts:Array TypeId} (hts:ts[0]?=some t) {x v:AV} {X:Value} (hx:VRel σ x X) {nd:Nd} (e:Sb P t x=some (nd,v)) (W:World):∃ V,(Builtin.len_ ts ty #[X]).run P W=.ok V W/\VRel σ v V:=by
 unfold Sb at e
 split at e
 .split at e
  .rename_i el hu
   cases e
   obtain ⟨_,_,_,_,rfl⟩:=hx
   exact ⟨_,by simp [Builtin.len_,hts,run_underlying hu,goInt],rfl⟩
  .cases e
 .split at e
  .rename_i el hu
   cases e
   obtain ⟨p,len,c,rfl,h1,_⟩:=hx
   exact ⟨.int .i64 len,by simp [Builtin.len_,hts,run_underlying hu,goInt],by rw [mkInt_rel,h1.1]⟩
  .cases e
 .split at e
  .rename_i el hu
   cases e
   obtain ⟨p,len,c,rfl,h1,_⟩:=hx
   exact ⟨.int .i64 len,by simp [Builtin.len_,hts,run_underlying hu,goInt],by rw [<- h1.1]; rfl⟩
  .cases e
 .split at e
  .rename_i el hu
   cases e
   obtain ⟨p,len,c,rfl,h1,_⟩:=hx
   exact ⟨.int .i64 len,by simp [Builtin.len_,hts,run_underlying hu,goInt],by rw [<- h1.1]; rfl⟩
  .cases e
 .split at e
  .rename_i el hu
   cases e
   obtain ⟨_,_,_,rfl⟩:=hx
   exact ⟨_,by simp [Builtin.len_,hts,run_underlying hu,goInt],rfl⟩
  .cases e
 .split at e
  .rename_i el hu
   cases e
   obtain ⟨_,_,_,_,_,rfl,_⟩:=hx
   exact ⟨_,by simp [Builtin.len_,hts,run_underlying hu,goInt],rfl⟩
  .cases e
 .split at e
  .rename_i el hu
   cases e
   obtain rfl:=hx
   exact ⟨.int .i64 0,by simp [Builtin.len_,hts,run_underlying hu,goInt],rfl⟩
  .cases e
 .split at e
  .rename_i hu
   cases e
   obtain rfl:=hx
   exact ⟨_,by simp [Builtin.len_,hts,run_underlying hu,goInt]; rfl,by simp⟩
  .cases e
 .split at e
  .rename_i n el hu
   cases e
   exact ⟨.int .i64 n,by simp [Builtin.len_,hts,run_underlying hu,goInt],rfl⟩
  .cases e
theorem xP {P:Program} {σ:Sg} {f:AV->AV->Option AV} {F:Value->Value->Sem Value} (hF:∀ a b v A B (W:World),VRel σ a A->VRel σ b B->f a b=some v->∃ V,(F A B).run P W=.ok V W/\VRel σ v V) (W:World):
  ∀ (l:List AV) (a v:AV) (A:Value) (L:List Value),VRel σ a A->VRels σ l L->IU f a l=some v->∃ V,(L.foldlM F A).run P W=.ok V W/\VRel σ v V
 | [],a,v,A,L,ha,hl,e=>by
  rw [show L=[] from hl]; cases e
  exact ⟨A,rfl,ha⟩
 | b :: l,a,v,A,_,ha,⟨B,L,rfl,hb,hl⟩,e=>by
  simp only [IU] at e
  split at e
  .cases e
  .rename_i c hc
   obtain ⟨V,h1,h2⟩:=hF a b c A B W ha hb hc
   obtain ⟨U,h3,h4⟩:=xP hF W l c v V L h2 hl e
   exact ⟨U,by simp [List.foldlM_cons,h1,h3],h4⟩
theorem WU {P:Program} {σ:Sg} {ts:Array TypeId} {ty:TypeId} {h:Hp} {W:World} (r:HRel σ h W) {l:List AV} {L:Array Value} (hl:VRels σ l L.toList) {q:S1} (e:mE h min2 l=some q):
  OpOk P (do pure (.value (<- Builtin.min_ ts ty L))) σ h W q:=by
 unfold mE at e
 split at e
 .cases e
 .rename_i a l
  obtain ⟨v,h1,rfl⟩:=dA e
  obtain ⟨A,M,hLM,ha,hM⟩:=hl
  obtain ⟨V,h2,h3⟩:=xP (P:=P) (σ:=σ) (F:=Builtin.min2) (fun a b v A B W ha hb hv=>by
   unfold min2 at hv
   split at hv
   .cases hv
    obtain rfl:=ha; obtain rfl:=hb
    exact ⟨_,by simp [Builtin.min2]; rfl,by simp⟩
   .cases hv) W l a v A M ha hM h1
  exact OpOk.pure r fun _=>⟨V,by simp [Builtin.min_,hLM,h2],h3⟩
theorem WV {P:Program} {σ:Sg} {ts:Array TypeId} {ty:TypeId} {h:Hp} {W:World} (r:HRel σ h W) {l:List AV} {L:Array Value} (hl:VRels σ l L.toList) {q:S1} (e:mE h max2 l=some q):
  OpOk P (do pure (.value (<- Builtin.max_ ts ty L))) σ h W q:=by
 unfold mE at e
 split at e
 .cases e
 .rename_i a l
  obtain ⟨v,h1,rfl⟩:=dA e
  obtain ⟨A,M,hLM,ha,hM⟩:=hl
  obtain ⟨V,h2,h3⟩:=xP (P:=P) (σ:=σ) (F:=Builtin.max2) (fun a b v A B W ha hb hv=>by
   unfold max2 at hv
   split at hv
   .cases hv
    obtain rfl:=ha; obtain rfl:=hb
    exact ⟨_,by simp [Builtin.max2]; rfl,by simp⟩
   .cases hv) W l a v A M ha hM h1
  exact OpOk.pure r fun _=>⟨V,by simp [Builtin.max_,hLM,h2],h3⟩
theorem xQ {σ:Sg} {kd:TypeDesc} {a b:AV} {A B:Value} (ha:VRel σ a A) (hb:VRel σ b B) {p:Bool} (e:gI kd a b=some p):Instr.sameNow kd A B=some p:=by
 unfold gI at e
 split at e
 .split at e
  .rename_i k x k' y
   split at e
   .rename_i hk; subst hk
    cases e
    obtain rfl:=ha; obtain rfl:=hb
    simp [Instr.sameNow]
   .cases e
  .cases e
 .split at e
  .cases e
   obtain rfl:=ha; obtain rfl:=hb
   rfl
  .cases e
 .split at e
  .cases e
   obtain rfl:=ha; obtain rfl:=hb
   simp only [Instr.sameNow,mJ]
  .cases e
 .cases e
theorem om {σ:Sg} {kd:TypeDesc} {k:AV} {K:Value} (hk:VRel σ k K):∀ (es:List (AV×AV)) (E:List MapEntry) (j:Nat) (res:Option AV),VRels σ (es.map (·.1)) (E.map (·.key))->VRels σ (es.map (·.2)) (E.map (·.val))->vN kd k es=some res ->
  ∃ R,Instr.findNow kd K E j=some R/\(match res,R with|none,none=>True|some v,some (_,V)=>VRel σ v V|_,_=>False)
 | [],E,j,res,h1,_,e=>by
  cases e
  have:E=[]:=by have:=VRels.length h1; simpa using this
  subst this
  exact ⟨none,rfl,trivial⟩
 | (a,v) :: es,E,j,res,h1,h2,e=>by
  cases E with
  | nil=>obtain ⟨_,_,h,_⟩:=h1; cases h
  | cons m E=>
   obtain ⟨A,As,hA,ra,rs⟩:=h1
   obtain ⟨V,Vs,hV,rv,rvs⟩:=h2
   simp only [List.map_cons,List.cons.injEq] at hA hV
   obtain ⟨rfl,rfl⟩:=hA
   obtain ⟨rfl,rfl⟩:=hV
   simp only [vN] at e
   split at e
   .cases e
   .rename_i hq
    cases e
    exact ⟨some (j,m.val),by simp [Instr.findNow,xQ hk ra hq],rv⟩
   .rename_i hq
    obtain ⟨R,h3,h4⟩:=om hk es E (j+1) res rs rvs e
    exact ⟨R,by simp [Instr.findNow,xQ hk ra hq,h3],h4⟩
theorem mP {kd:TypeDesc} {a b:AV} (e:gI kd a b=some true):a=b:=by
 unfold gI at e
 split at e
 .split at e
  .split at e
   .rename_i hk; subst hk
    simp only [Option.some.injEq,beq_iff_eq] at e
    rw [e]
   .cases e
  .cases e
 .split at e
  .simp only [Option.some.injEq,beq_iff_eq] at e
   rw [e]
  .cases e
 .split at e
  .simp only [Option.some.injEq] at e
   rw [(fq _ _).1 e]
  .cases e
 .cases e
theorem mQ {kd:TypeDesc} {k:AV}:∀ {es:List (AV×AV)},fo kd k es=true->(∃ v,vN kd k es=some (some v)/\(k,v)∈es)\/(vN kd k es=some none/\∀ v,(k,v)∈es->gI kd k k=some false)
 | [],_=>.inr ⟨rfl,fun v h=>by cases h⟩
 | (a,v) :: es,h=>by
  simp only [fo] at h
  simp only [vN]
  cases hq:gI kd k a with
  | none=>rw [hq] at h; cases h
  | some p=>
   rw [hq] at h
   cases p with
   | true=>
    have:=mP hq
    subst this
    exact .inl ⟨v,rfl,by simp⟩
   | false=>
    rcases mQ h with ⟨w,h1,h2⟩|⟨h1,h2⟩
    .exact .inl ⟨w,h1,by simp [h2]⟩
    .refine .inr ⟨h1,fun w hw=>?_⟩
     rcases List.mem_cons.1 hw with hw|hw
     .cases hw; exact hq
     .exact h2 w hw
theorem ic {kd:TypeDesc} {k:AV}:∀ {es:List (AV×AV)},fo kd k es=true ↔ ∀ x∈es,gI kd k x.1≠none
 | []=>by simp [fo]
 | (a,v) :: es=>by
  simp only [fo,List.mem_cons,forall_eq_or_imp]
  cases hq:gI kd k a with
  | none=>simp
  | some p=>simp [ic (es:=es)]
theorem Ad:∀ {es:List (AV×AV)} {k v w:AV},(es.map (·.1)).Nodup->(k,v)∈es->(k,w)∈es->v=w
 | [],k,v,w,_,h,_=>by cases h
 | (a,x) :: es,k,v,w,hn,h1,h2=>by
  simp only [List.map_cons,List.nodup_cons] at hn
  rcases List.mem_cons.1 h1 with e1|e1 <;> rcases List.mem_cons.1 h2 with e2|e2
  .cases e1; cases e2; rfl
  .cases e1; exact absurd (List.mem_map.2 ⟨_,e2,rfl⟩) hn.1
  .cases e2; exact absurd (List.mem_map.2 ⟨_,e1,rfl⟩) hn.1
  .exact Ad hn.2 e1 e2
theorem Ae {kd:TypeDesc} {k:AV} (h:gI kd k k=some false):False:=by
 cases kd with
 | int q=>cases k with
  | int s kk n=>cases s with
   | false=>simp [gI] at h
   | true=>cases h
  | _=>cases h
 | bool=>cases k with
  | bool s b=>cases s with
   | false=>simp [gI] at h
   | true=>cases h
  | _=>cases h
 | string=>cases k with
  | str s b=>cases s with
   | false=>
    simp only [gI,Option.some.injEq] at h
    rw [(fq _ _).2 rfl] at h; cases h
   | true=>cases h
  | _=>cases h
 | _=>cases h
theorem mR {kd:TypeDesc} {k:AV} {es es':List (AV×AV)} (hp:es'.Perm es) (hn:(es.map (·.1)).Nodup) {res:Option AV} (e:zY kd k es=some res):vN kd k es'=some res:=by
 unfold zY at e
 split at e
 .rename_i hd
  have hd':fo kd k es'=true:=ic.2 fun x hx=>ic.1 hd x (hp.mem_iff.1 hx)
  rcases mQ hd with ⟨v,h1,h2⟩|⟨h1,h2⟩ <;> rcases mQ hd' with ⟨w,h3,h4⟩|⟨h3,h4⟩
  .rw [h1] at e; cases e
   rw [h3,Ad hn h2 (hp.mem_iff.1 h4)]
  .exact (Ae (h4 v (hp.mem_iff.2 h2))).elim
  .exact (Ae (h2 w (hp.mem_iff.1 h4))).elim
  .rw [h1] at e; cases e; exact h3
 .cases e
theorem xR {P:Program} {σ:Sg} {t:TypeId} {v:AV} (e:IM P t=some v) (W:World):∃ V,(zeroValue t).run P W=.ok V W/\VRel σ v V:=by
 unfold IM at e
 split at e
 .cases e
 .rename_i i hi
  split at e
  .cases e
  .rename_i cs hz
   cases hm:Kb mf cs.toList with
   | none=>rw [hm] at e; cases e
   | some l=>
    rw [hm] at e; cases e
    exact ⟨.agg cs,ku hi hz W,cs,rfl,(nZ hm).1⟩
  .rename_i z hn hz
   exact ⟨z,ku hi hz W,(qN e).1⟩
theorem oo {P:Program} {W:World} {b:Bool} {t:TypeId} {kd:TypeDesc} (hu:P.underlying t=some kd) (hk:BO kd=true) (v:Value) (n:Nat):(Instr.checkKey b (n+1) t v).run P W=.ok () W:=by
 cases kd <;> simp [BO] at hk <;> simp [Instr.checkKey,run_underlying hu]
theorem Kr {P:Program} {σ:Sg} {h:Hp} {W:World} (r:HRel σ h W) {t:TypeId} {x k v:AV} {X K:Value} (hx:VRel σ x X) (hk:VRel σ k K) {ok:Bool} (e:gy P h t x k ok=some v):
  ∃ V,(Instr.lookup t X K ok).run P W=.ok V W/\VRel σ v V:=by
 unfold gy at e
 split at e
 .rename_i kt el hu
  split at e
  .cases e
  .rename_i kd hkd
   split at e
   .cases e
   .rename_i hkey
    split at e
    .rename_i i
     obtain ⟨B,N,hσ,rfl⟩:=hx
     split at e
     .rename_i w es hg
      obtain ⟨B',N',o,q1,q2,E,cl,es',rfl,qp,qn,q3,q4⟩:=r.blk i _ hg rfl
      rw [hσ] at q1; cases q1
      have hget:(getObj B).run P W=.ok (.map E cl) W:=by
       simp only [getObj,Sem.run,q2]
      have hck:(Instr.checkKey E.isEmpty 10000 kt K).run P W=.ok () W:=oo hkd hkey K 9999
      split at e
      .cases e
      .rename_i u hf
       obtain ⟨R,h1,h2⟩:=om hk es' E.toList 0 _ q3 q4 (mR qp qn hf)
       cases R with
       | none=>exact h2.elim
       | some R=>
        obtain ⟨j,V⟩:=R
        have hfk:(Instr.findKey kt K E.toList).run P W=.ok (some (j,V)) W:=by
         simp [Instr.findKey,run_underlying hkd,h1]
        cases e
        refine ⟨if ok then .tuple #[V,.bool true] else V,?_,?_⟩
        .simp only [Instr.lookup,Sem.run_bind,run_underlying hu,Result.andThen_ok,hget,Sem.run_pure,hck,hfk]
        .cases ok
         .exact h2
         .exact ⟨_,rfl,_,_,rfl,h2,_,_,rfl,rfl,rfl⟩
      .rename_i hf
       obtain ⟨R,h1,h2⟩:=om hk es' E.toList 0 _ q3 q4 (mR qp qn hf)
       cases R with
       | some R=>exact h2.elim
       | none=>
        have hfk:(Instr.findKey kt K E.toList).run P W=.ok none W:=by
         simp [Instr.findKey,run_underlying hkd,h1]
        split at e
        .cases e
        .rename_i z hz
         cases e
         obtain ⟨Z,z1,z2⟩:=xR (P:=P) (σ:=σ) hz W
         refine ⟨if ok then .tuple #[Z,.bool false] else Z,?_,?_⟩
         .simp only [Instr.lookup,Sem.run_bind,run_underlying hu,Result.andThen_ok,hget,Sem.run_pure,hck,hfk,z1]
         .cases ok
          .exact z2
          .exact ⟨_,rfl,_,_,rfl,z2,_,_,rfl,rfl,rfl⟩
     .cases e
    .cases e
 .cases e
theorem Kt {σ:Sg} {kd:TypeDesc} {a b:AV} (h:gI kd a b=some true) {A B:Value} (ha:VRel σ a A) (hb:VRel σ b B):A=B/\∀ n,Instr.sameBits n A A=true:=by
 have hab:=mP h
 subst hab
 unfold gI at h
 split at h
 .split at h
  .obtain rfl:=ha; obtain rfl:=hb
   exact ⟨rfl,fun n=>by cases n <;> simp [Instr.sameBits]⟩
  .cases h
 .split at h
  .obtain rfl:=ha; obtain rfl:=hb
   exact ⟨rfl,fun n=>by cases n <;> simp [Instr.sameBits]⟩
  .cases h
 .split at h
  .obtain rfl:=ha; obtain rfl:=hb
   refine ⟨rfl,fun n=>?_⟩
   have:∀ b:ByteArray,(b==b)=true:=fun b=>by rw [<- mJ]; exact (fq _ _).2 rfl
   cases n <;> simp only [Instr.sameBits,this]
  .cases h
 .cases h
theorem Af {kd:TypeDesc} {k v:AV}:∀ {es:List (AV×AV)},k ∉ es.map (·.1)->uC kd k v es=es
 | [],_=>rfl
 | (a,x) :: es,h=>by
  simp only [List.map_cons,List.mem_cons,not_or] at h
  simp only [uC,Af h.2]
  split
  .rename_i hq
   exact absurd (mP hq) h.1
  .rfl
theorem uN {kd:TypeDesc} {k v:AV}:∀ (es:List (AV×AV)),(uC kd k v es).map (·.1)=es.map (·.1)
 | []=>rfl
 | (a,x) :: es=>by
  simp only [uC,List.map_cons,uN es]
  split <;> rfl
theorem xS (kd:TypeDesc) (k v:AV):∀ (es:List (AV×AV)),uC kd k v es=es.map fun e=>match gI kd k e.1 with
  | some true=>(e.1,v)
  | _=>e
 | []=>rfl
 | (a,x) :: es=>by rw [uC,List.map_cons,xS kd k v es]; rfl
theorem I9 {σ:Sg} {kd:TypeDesc} {k v:AV} {K V:Value} (hk:VRel σ k K) (hv:VRel σ v V):∀ (es:List (AV×AV)) (E:List MapEntry) (j0 j:Nat) (U:Value),VRels σ (es.map (·.1)) (E.map (·.key))->VRels σ (es.map (·.2)) (E.map (·.val))->(es.map (·.1)).Nodup->fo kd k es=true ->
  Instr.findNow kd K E j0=some (some (j,U))->∃ i m,j=j0+i/\E[i]?=some m/\m.key=K/\(∀ n,Instr.sameBits n K K=true)/\VRels σ ((uC kd k v es).map (·.2)) ((E.modify i fun e=>{ e with key:=K,val:=V }).map (·.val))/\VRels σ (es.map (·.1)) ((E.modify i fun e=>{ e with key:=K,val:=V }).map (·.key))
 | [],E,j0,j,U,h1,_,_,_,e=>by
  have:E=[]:=by have:=VRels.length h1; simpa using this
  subst this
  cases e
 | (a,x) :: es,E,j0,j,U,h1,h2,hn,hd,e=>by
  cases E with
  | nil=>obtain ⟨_,_,h,_⟩:=h1; cases h
  | cons m E=>
   obtain ⟨A,As,hA,ra,rs⟩:=h1
   obtain ⟨X,Xs,hX,rx,rxs⟩:=h2
   simp only [List.map_cons,List.cons.injEq] at hA hX
   obtain ⟨rfl,rfl⟩:=hA
   obtain ⟨rfl,rfl⟩:=hX
   simp only [List.map_cons,List.nodup_cons] at hn
   simp only [fo] at hd
   simp only [Instr.findNow] at e
   cases hq:gI kd k a with
   | none=>rw [hq] at hd; cases hd
   | some p=>
    rw [hq] at hd
    rw [xQ hk ra hq] at e
    cases p with
    | true=>
     cases e
     obtain ⟨hKA,hs⟩:=Kt hq hk ra
     have hka:=mP hq
     refine ⟨0,m,rfl,rfl,hKA.symm,hs,?_,?_⟩
     .simp only [uC,hq,List.map_cons,List.modify_zero_cons]
      rw [Af (by rw [hka]; exact hn.1)]
      exact ⟨V,_,rfl,hv,rxs⟩
     .simp only [List.map_cons,List.modify_zero_cons]
      exact ⟨K,_,rfl,by rw [hKA]; exact ra,rs⟩
    | false=>
     obtain ⟨i,m',h3,h4,h5,h6,h7,h8⟩:=I9 hk hv es E (j0+1) j U rs rxs hn.2 hd e
     refine ⟨i+1,m',by omega,by simpa using h4,h5,h6,?_,?_⟩
     .simp only [uC,hq,List.map_cons,List.modify_succ_cons]
      exact ⟨_,_,rfl,rx,h7⟩
     .simp only [List.map_cons,List.modify_succ_cons]
      exact ⟨_,_,rfl,ra,h8⟩
theorem GV {P:Program} {σ:Sg} {h:Hp} {W:World} (r:HRel σ h W) {t:TypeId} {x:Option AV} {X:Option Value} (hx:match x,X with|none,none=>True|some a,some A=>VRel σ a A|_,_=>False) {q:S1} (e:uF P h t x=some q):
  OpOk P (do pure (.value (<- Instr.makeMap t X))) σ h W q:=by
 have main:∀ m:Sem Value,m.run P W=.ok (.map (some W.heap.size)) (W.alloc (.map #[] 0))->OpOk P (do pure (.value (<- m))) σ h W ⟨.tt,.map h.size,h.push (.map [])⟩:=fun m hm _=>by
  obtain ⟨h1,h2⟩:=r.alloc (.map []) (.map #[] 0) 0 ⟨#[],0,[],rfl,.refl _,by simp,rfl,rfl⟩
  exact ⟨_,.map (some W.heap.size),_,_,by simp [hm],.inl rfl,⟨W.heap.size,0,aM,rfl⟩,h1,h2⟩
 unfold uF at e
 split at e
 .cases e
  cases X with
  | some _=>exact hx.elim
  | none=>exact main _ (by simp [Instr.makeMap,newObj,Sem.run])
 .split at e
  .rename_i hu
   cases e
   cases X with
   | none=>exact hx.elim
   | some A=>
    obtain rfl:=hx
    exact main _ (by simp [Instr.makeMap,newObj,Sem.run,run_underlying hu,asInt,asIntOf])
  .cases e
 .cases e
theorem sH {P:Program} {σ:Sg} {h:Hp} {W:World} (r:HRel σ h W) {t:TypeId} {x k v:AV} {X K V:Value} (hx:VRel σ x X) (hk:VRel σ k K) (hv:VRel σ v V) {q:S1} (e:kN P h t x k v=some q):
  OpOk P (do Instr.mapUpdate t X K V; pure .skip) σ h W q:=by
 intro hn
 unfold kN at e
 split at e
 .rename_i kt el hu
  split at e
  .cases e
  .rename_i kd hkd
   split at e
   .cases e
   .rename_i hkey
    split at e
    .rename_i i
     obtain ⟨B,N,hσ,rfl⟩:=hx
     split at e
     .rename_i w es hg
      obtain ⟨B',N',o,q1,q2,E,cl,es',rfl,qp,qn,q3,q4⟩:=r.blk i _ hg rfl
      rw [hσ] at q1; cases q1
      have hlt:B<W.heap.size:=(Array.getElem?_eq_some_iff.1 q2).1
      have hget:(getObj B).run P W=.ok (.map E cl) W:=by simp only [getObj,Sem.run,q2]
      have hset:∀ o',(setObj B o').run P W=.ok () { W with heap:=W.heap.setIfInBounds B o' }:=fun o'=>by simp only [setObj,Sem.run,q2,Option.isSome_some,if_true]
      have hck:(Instr.checkKey false 10000 kt K).run P W=.ok () W:=oo hkd hkey K 9999
      have qn':(es'.map (·.1)).Nodup:=(qp.map (·.1)).nodup_iff.2 qn
      have wr:∀ (o':Obj) (d:ABody),BRel σ N d o'->vO o'->HRel σ (h.put i d) { W with heap:=W.heap.setIfInBounds B o' }/\Good σ h W σ (h.put i d) { W with heap:=W.heap.setIfInBounds B o' }:=fun o' d hb hc=>
       r.write hg rfl hσ d (jm fun c h=>by cases h) o' (by simp [Array.getElem?_setIfInBounds,hlt]) hb (by simp) (fun j hj=>by simp [Array.getElem?_setIfInBounds,Ne.symm hj]) rfl rfl rfl hc
      split at e
      .rename_i hself
       split at e
       .cases e
       .rename_i u hf
        rw [Hp.set_eq] at e
        cases e
        have hdec:fo kd k es'=true:=by
         unfold zY at hf
         split at hf
         .rename_i hd
          exact ic.2 fun y hy=>ic.1 hd y (qp.mem_iff.1 hy)
         .cases hf
        obtain ⟨R,h1,h2⟩:=om hk es' E.toList 0 _ q3 q4 (mR qp qn hf)
        cases R with
        | none=>exact h2.elim
        | some R=>
         obtain ⟨j,U⟩:=R
         have hfk:(Instr.findKey kt K E.toList).run P W=.ok (some (j,U)) W:=by
          simp [Instr.findKey,run_underlying hkd,h1]
         obtain ⟨i',m,h3,h4,h5,h6,h7,h8⟩:=I9 (V:=V) hk hv es' E.toList 0 j U q3 q4 qn' hdec h1
         rw [Nat.zero_add] at h3
         subst h3
         have h4':E[j]?=some m:=by rw [<- Array.getElem?_toList]; exact h4
         have hst:(Instr.keyThatStays (((E[j]?).map (·.key)).getD K) K).run P W=.ok K W:=by
          rw [h4']
          simp only [Option.map_some,Option.getD_some,h5,Instr.keyThatStays,h6,if_true,Sem.run_pure]
         obtain ⟨w1,w2⟩:=wr (.map (E.modify j fun e=>{ e with key:=K,val:=V }) cl) (.map (uC kd k v es)) ⟨_,cl,uC kd k v es',rfl,by
           rw [xS,xS]; exact qp.map _,by rw [uN]; exact qn,by
           rw [uN,Array.toList_modify]; exact h8,by
           rw [Array.toList_modify]; exact h7⟩ (fun _ _ _ h=>by cases h)
         refine ⟨σ,undef,_,_,?_,.inr ⟨rfl,rfl⟩,⟨#[],rfl,rfl⟩,w1,w2⟩
         simp only [Instr.mapUpdate,Sem.run_bind,run_underlying hu,Result.andThen_ok,hget,hck,hfk,hst,hset,Sem.run_pure]
       .rename_i hf
        rw [Hp.set_eq] at e
        cases e
        obtain ⟨R,h1,h2⟩:=om hk es' E.toList 0 _ q3 q4 (mR qp qn hf)
        cases R with
        | some R=>exact h2.elim
        | none=>
         have hfk:(Instr.findKey kt K E.toList).run P W=.ok none W:=by
          simp [Instr.findKey,run_underlying hkd,h1]
         have hnot:k ∉ es.map (·.1):=fun hm=>by
          obtain ⟨y,hy,rfl⟩:=List.mem_map.1 hm
          unfold zY at hf
          split at hf
          .rename_i hd
           rcases mQ hd with ⟨v',h3,h4⟩|⟨h3,h4⟩
           .rw [h3] at hf; cases hf
           .have:=h4 y.2 hy
            rw [hself] at this; cases this
          .cases hf
         obtain ⟨w1,w2⟩:=wr (.map (E.push { key:=K,val:=V,born:=cl }) (cl+1)) (.map ((k,v) :: es)) ⟨_,cl+1,es'++[(k,v)],rfl,(List.perm_append_singleton _ _).trans (qp.cons _),by
           simp only [List.map_cons,List.nodup_cons]; exact ⟨hnot,qn⟩,by
           simp only [List.map_append,Array.toList_push]; exact VRels.append q3 ⟨_,_,rfl,hk,rfl⟩,by
           simp only [List.map_append,Array.toList_push]; exact VRels.append q4 ⟨_,_,rfl,hv,rfl⟩⟩ (fun _ _ _ h=>by cases h)
         refine ⟨σ,undef,_,_,?_,.inr ⟨rfl,rfl⟩,⟨#[],rfl,rfl⟩,w1,w2⟩
         simp only [Instr.mapUpdate,Sem.run_bind,run_underlying hu,Result.andThen_ok,hget,hck,hfk,hset,Sem.run_pure]
      .cases e
     .cases e
    .cases e
 .cases e
theorem Cm {P:Program} {σ:Sg} {h:Hp} {W:World} (r:HRel σ h W) {t:TypeId} {v:AV} {V:Value} (hv:VRel σ v V) {q:S1} (e:nU P h t v=some q):
  OpOk P (do pure (.value (<- Instr.makeInterface t V))) σ h W q:=by
 unfold nU at e
 split at e
 .cases e
 .cases e
 .rename_i d hno hd
  cases e
  refine OpOk.pure r fun _=>⟨.iface t V,?_,V,rfl,hv⟩
  simp only [Instr.makeInterface,Sem.run_bind,run_underlying hd,Result.andThen_ok]
  cases d <;> first|(exact absurd hd (hno _))|simp
theorem zO {P:Program} {σ:Sg} {h:Hp} {W:World} (r:HRel σ h W) {xt t:TypeId} {v:AV} {V:Value} {ok:Bool} (hv:VRel σ v V) {q:S1} (e:mD P h v t ok=some q):
  OpOk P (do pure (.value (<- Instr.typeAssert V xt t ok))) σ h W q:=by
 unfold mD at e
 split at e
 .cases e
 .cases e
 .rename_i d hno hd
  simp only at e
  have hfail:∀ (F:Option TypeId->Option TypeId->String->Sem Value) (a b:Option TypeId) (s:String),True:=fun _ _ _ _=>trivial
  split at e
  .rename_i t' a
   obtain ⟨x,rfl,hx⟩:=hv
   split at e
   .rename_i ht
    have:=Nat.eq_of_beq_eq_true ht
    subst this
    cases e
    cases ok with
    | true=>
     refine OpOk.pure r fun _=>⟨.tuple #[x,.bool true],?_,_,rfl,_,_,rfl,hx,_,_,rfl,rfl,rfl⟩
     simp only [Instr.typeAssert,Sem.run_bind,run_underlying hd,Result.andThen_ok]
     cases d <;> first|(exact absurd hd (hno _))|simp
    | false=>
     refine OpOk.pure r fun _=>⟨x,?_,hx⟩
     simp only [Instr.typeAssert,Sem.run_bind,run_underlying hd,Result.andThen_ok]
     cases d <;> first|(exact absurd hd (hno _))|simp
   .rename_i ht
    have hne:t'≠t:=fun h=>by subst h; rw [Nat.beq_refl] at ht; cases ht
    split at e
    .split at e
     .cases e
     .rename_i z hz
      cases e
      obtain ⟨Z,z1,z2⟩:=xR (P:=P) (σ:=σ) hz W
      refine OpOk.pure r fun _=>⟨.tuple #[Z,.bool false],?_,_,rfl,_,_,rfl,z2,_,_,rfl,rfl,rfl⟩
      simp only [Instr.typeAssert,Sem.run_bind,run_underlying hd,Result.andThen_ok]
      cases d <;> first|(exact absurd hd (hno _))|simp [hne,z1]
    .cases e
  .obtain rfl:=hv
   split at e
   .split at e
    .cases e
    .rename_i z hz
     cases e
     obtain ⟨Z,z1,z2⟩:=xR (P:=P) (σ:=σ) hz W
     refine OpOk.pure r fun _=>⟨.tuple #[Z,.bool false],?_,_,rfl,_,_,rfl,z2,_,_,rfl,rfl,rfl⟩
     simp only [Instr.typeAssert,Sem.run_bind,run_underlying hd,Result.andThen_ok]
     cases d <;> first|(exact absurd hd (hno _))|simp [z1]
   .cases e
  .cases e
theorem Cn {σ:Sg} {C:Ctx} {s:St} {T:Array Value} (g:GRel C σ) (h:TRel σ s.tmps T) (l:Array Operand):VRels σ (dI C s l.toList) (l.map (ev T)).toList:=by
 simpa using z8 g h l.toList
theorem pO {C:Ctx} {σ:Sg} {s:St} {T:Array Value} {W:World} (g:GRel C σ) (ht:TRel σ s.tmps T) (r:HRel σ s.hp W) {o:Oper} {q:S1} (e:aL C s o.op=some q):OpOk C.P (execOp (ev T) o) σ s.hp W q:=by
 have E:=fun x=>cB (C:=C) (s:=s) g ht x
 unfold aL at e
 split at e
 .rename_i x ho; cases e
  exact OpOk.pure r fun _=>⟨ev T x,by simp [execOp,ho],E x⟩
 .rename_i x ho; cases e
  exact OpOk.pure r fun _=>⟨ev T x,by simp [execOp,ho],E x⟩
 .rename_i c a b ho
  have:=Ki (P:=C.P) r (E c) (E a) (E b) e
  simpa [execOp,ho] using this
 .rename_i t ho
  have:=GN (P:=C.P) r e
  simpa [execOp,ho] using this
 .rename_i t x ho
  have:=Mf (P:=C.P) r (t:=t) (E x) e
  simpa [execOp,ho] using this
 .rename_i t parts ho
  obtain ⟨v,h1,rfl⟩:=dA e
  obtain ⟨p1,p2⟩:=ja (C:=C) (s:=s) g ht parts.toList
  obtain ⟨V,h2,h3⟩:=build_ok (P:=C.P) (σ:=σ) (Ps:=parts.map fun (i,x)=>(i,ev T x)) (by simpa using p1) (by simpa using p2) h1 W
  exact OpOk.pure r fun _=>⟨V,by simp [execOp,ho,h2],h3⟩
 .rename_i t len parts ho
  obtain ⟨p1,p2⟩:=ja (C:=C) (s:=s) g ht parts.toList
  have:=zL (P:=C.P) r (Ps:=parts.map fun (i,x)=>(i,ev T x)) (by simpa using p1) (by simpa using p2) e
  simpa [execOp,ho] using this
 .rename_i t x ho
  obtain ⟨nd,v,h1,rfl⟩:=iL e
  refine OpOk.pure r fun hn=>?_
  obtain ⟨B,off,V,h2,h3,h4⟩:=I6 r (E x) h1 hn
  exact ⟨V,by simp [execOp,ho,Instr.loadAt,h2,Instr.sureAddr,h3],h4⟩
 .rename_i t x y ho
  have:=Mg (P:=C.P) r (E x) (E y) e
  simpa [execOp,ho] using this
 .rename_i x ho
  exact Ed r (E x) e rfl ho
 .rename_i op t x y ty ho
  obtain ⟨nd,v,h1,rfl⟩:=iL e
  refine OpOk.pure r fun hn=>?_
  obtain ⟨V,h2,h3,h4⟩:=Sr (P:=C.P) (E x) (E y) h1 hn x y W
  exact ⟨V,by simp [execOp,ho,h2,h3],h4⟩
 .rename_i op t x ho
  obtain ⟨v,h1,rfl⟩:=dA e
  obtain ⟨V,h2,h3⟩:=WS (P:=C.P) (E x) h1 W
  exact OpOk.pure r fun _=>⟨V,by simp [execOp,ho,h2],h3⟩
 .rename_i src dst x ho
  obtain ⟨v,h1,rfl⟩:=dA e
  obtain ⟨V,h2,h3⟩:=Mj (P:=C.P) (E x) h1 W
  exact OpOk.pure r fun _=>⟨V,by simp [execOp,ho,h2],h3⟩
 .rename_i f first cap ho
  unfold qK at e
  split at e
  .rename_i f
   cases e
   exact OpOk.pure r fun _=>⟨.func (.func f) (first.map (ev T)) (cap.map (ev T)),by simp [execOp,ho,Instr.makeFunc],_,_,rfl,Cn g ht first,Cn g ht cap⟩
  .cases e
 .rename_i t x lo hi mx ho
  obtain ⟨nd,v,h1,rfl⟩:=iL e
  refine OpOk.pure r fun hn=>?_
  obtain ⟨V,h2,h3⟩:=Km (P:=C.P) (E x) (uL g ht lo) (uL g ht hi) (uL g ht mx) h1 hn W
  exact ⟨V,by simp [execOp,ho,h2],h3⟩
 .rename_i t x f ho
  obtain ⟨v,h1,rfl⟩:=dA e
  obtain ⟨V,h2,h3⟩:=Ci (P:=C.P) (E x) h1 W
  exact OpOk.pure r fun _=>⟨V,by simp [execOp,ho,h2],h3⟩
 .rename_i t x f ho
  obtain ⟨v,h1,rfl⟩:=dA e
  obtain ⟨V,h2,h3⟩:=Mk (P:=C.P) (E x) h1 W
  exact OpOk.pure r fun _=>⟨V,by simp [execOp,ho,h2],h3⟩
 .rename_i t x i ho
  obtain ⟨nd,v,h1,rfl⟩:=iL e
  refine OpOk.pure r fun hn=>?_
  obtain ⟨V,h2,h3⟩:=Ch (P:=C.P) (E x) (E i) h1 hn W
  exact ⟨V,by simp [execOp,ho,h2],h3⟩
 .rename_i t x i ho
  obtain ⟨nd,v,h1,rfl⟩:=iL e
  refine OpOk.pure r fun hn=>?_
  obtain ⟨V,h2,h3⟩:=Kl (P:=C.P) (E x) (E i) h1 hn W
  exact ⟨V,by simp [execOp,ho,h2],h3⟩
 .rename_i t x i ok ho
  obtain ⟨v,h1,rfl⟩:=dA e
  obtain ⟨V,h2,h3⟩:=Kr (P:=C.P) r (E x) (E i) h1
  exact OpOk.pure r fun _=>⟨V,by simp [execOp,ho,h2],h3⟩
 .rename_i t i ho
  have:=GR (P:=C.P) r (E t) e
  simpa [execOp,ho] using this
 .rename_i t l c ho
  have:=Ck (P:=C.P) r (E l) (E c) e
  simpa [execOp,ho] using this
 .rename_i t x ho
  have:=GV (P:=C.P) r (X:=x.map (ev T)) (by cases x with|none=>trivial|some y=>exact E y) e
  simpa [execOp,ho] using this
 .rename_i t m k v ho
  have:=sH (P:=C.P) r (E m) (E k) (E v) e
  simpa [execOp,ho] using this
 .rename_i t m k v ho
  have:=sH (P:=C.P) r (E m) (E k) (E v) e
  simpa [execOp,ho] using this
 .rename_i t x ho
  have:=Cm (P:=C.P) r (E x) e
  simpa [execOp,ho] using this
 .rename_i x xt t ok ho
  have:=zO (P:=C.P) r (xt:=xt) (E x) e
  simpa [execOp,ho] using this
 .rename_i c ho
  unfold qJ at e
  split at e
  .rename_i b hb
   have hex:execOp (ev T) o=builtin b c.argTypes o.type (c.args.map fun|.const _=>true|_=>false) (c.args.map (ev T)):=by
    simp only [execOp,ho,resolve,hb]
    rfl
   rw [hex]
   unfold iK at e
   split at e
   .split at e
    .rename_i x t ha htp
     obtain ⟨nd,v,h1,rfl⟩:=iL e
     have h0:c.argTypes[0]?=some t:=by rw [<- Array.getElem?_toList,htp]; rfl
     have hargs:c.args.map (ev T)=#[ev T x]:=by apply Array.toList_inj.1; simp [ha]
     obtain ⟨V,h2,h3⟩:=WT (P:=C.P) (ty:=o.type) h0 (E x) h1 W
     rw [hargs]
     exact OpOk.pure r fun _=>⟨V,by simp [builtin,h2],h3⟩
    .cases e
   .split at e
    .rename_i x y t ts ha htp
     have h0:c.argTypes[0]?=some t:=by rw [<- Array.getElem?_toList,htp]; rfl
     have hargs:c.args.map (ev T)=#[ev T x,ev T y]:=by apply Array.toList_inj.1; simp [ha]
     rw [hargs]
     have:=Sv (P:=C.P) r (ty:=o.type) h0 (E x) (E y) e
     simpa [builtin] using this
    .cases e
   .split at e
    .rename_i x y t u ha htp
     have h0:c.argTypes=#[t,u]:=by apply Array.toList_inj.1; simp [htp]
     have hargs:c.args.map (ev T)=#[ev T x,ev T y]:=by apply Array.toList_inj.1; simp [ha]
     rw [hargs,h0]
     have:=Kq (P:=C.P) r (ty:=o.type) (E x) (E y) e
     simpa [builtin] using this
    .cases e
   .have:=WU (P:=C.P) r (ts:=c.argTypes) (ty:=o.type) (Cn g ht c.args) e
    simpa [builtin] using this
   .have:=WV (P:=C.P) r (ts:=c.argTypes) (ty:=o.type) (Cn g ht c.args) e
    simpa [builtin] using this
   .cases e
  .cases e
 .cases e
def Sg.low (σ:Sg) (n:Nat):Sg:=fun i=>if i<n then σ i else none
theorem Sg.low_sub (σ:Sg) (n:Nat):Sub (σ.low n) σ:=fun i x e=>by
 unfold Sg.low at e; split at e
 .exact e
 .cases e
mutual
theorem VRel.low {σ:Sg} {n:Nat}:∀ (a:AV) (v:Value),VRel σ a v->a.under n=true->VRel (σ.low n) a v
 | .any false,_,_,_=>trivial
 | .any true,_,h,_=>h
 | .bool _ _,_,h,_=>h
 | .int _ _ _,_,h,_=>h
 | .str _ _,_,h,_=>h
 | .nil,_,h,_=>h
 | .nilslice,_,h,_=>h
 | .eslice _,_,h,_=>h
 | .nilfunc,_,h,_=>h
 | .niliface,_,h,_=>h
 | .nilmap,_,h,_=>h
 | .ptr i o,_,⟨b,N,e,r⟩,u=>⟨b,N,by simp [AV.under] at u; simp [Sg.low,u,e],r⟩
 | .slice i _ _ _,_,⟨b,N,e,r⟩,u=>⟨b,N,by simp [AV.under] at u; simp [Sg.low,u,e],r⟩
 | .gslice i _ _ _,_,⟨b,N,q,c,e,r⟩,u=>⟨b,N,q,c,by simp [AV.under] at u; simp [Sg.low,u,e],r⟩
 | .func _ fs cs,_,⟨F,K,e,r,s⟩,u=>by
  simp [AV.under] at u
  exact ⟨F,K,e,VRels.low fs _ r u.1,VRels.low cs _ s u.2⟩
 | .yield i,_,⟨b,N,e,r⟩,u=>⟨b,N,by simp [AV.under] at u; simp [Sg.low,u,e],r⟩
 | .iface _ a,_,⟨x,e,r⟩,u=>⟨x,e,VRel.low a _ r (by simpa [AV.under] using u)⟩
 | .map i,_,⟨b,N,e,r⟩,u=>⟨b,N,by simp [AV.under] at u; simp [Sg.low,u,e],r⟩
 | .vslice i _,_,⟨b,N,c,e,r⟩,u=>⟨b,N,c,by simp [AV.under] at u; simp [Sg.low,u,e],r⟩
 | .pslice i _ _ _,_,⟨p,len,c,e1,e2,e3,r⟩,u=>⟨p,len,c,e1,e2,e3,r.imp id fun ⟨b,N,h1,h2⟩=>⟨b,N,by simp [AV.under] at u; simp [Sg.low,u,h1],h2⟩⟩
 | .lslice i _,_,⟨p,len,c,e1,e2,r⟩,u=>⟨p,len,c,e1,e2,r.imp id fun ⟨b,N,h1,h2⟩=>⟨b,N,by simp [AV.under] at u; simp [Sg.low,u,h1],h2⟩⟩
 | .islice _ i _ _,_,⟨p,len,c,e1,e2,r⟩,u=>⟨p,len,c,e1,e2,r.imp id fun ⟨b,N,h1,h2⟩=>⟨b,N,by simp [AV.under] at u; simp [Sg.low,u,h1],h2⟩⟩
 | .panic a,v,h,u=>VRel.low a v h (by simpa [AV.under] using u)
 | .vptr i _,_,⟨b,N,e,r⟩,u=>⟨b,N,by simp [AV.under] at u; simp [Sg.low,u,e],r⟩
 | .agg l,_,⟨K,e,r⟩,u=>⟨K,e,VRels.low l _ r (by simpa [AV.under] using u)⟩
 | .tuple l,_,⟨K,e,r⟩,u=>⟨K,e,VRels.low l _ r (by simpa [AV.under] using u)⟩
theorem VRels.low {σ:Sg} {n:Nat}:∀ (l:List AV) (L:List Value),VRels σ l L->AV.underL n l=true->VRels (σ.low n) l L
 | [],_,h,_=>h
 | a :: l,_,⟨v,vs,e,r,s⟩,u=>by
  simp [AV.underL] at u
  exact ⟨v,vs,e,VRel.low a _ r u.1,VRels.low l _ s u.2⟩
end
mutual
theorem VRel.names {σ τ:Sg} {n:Nat} (dom:∀ i B N,σ i=some (B,N)->i<n) (s:Sub σ τ):∀ (a:AV) (u v:Value),VRel σ a u->VRel τ a v->VRel (τ.low n) a v
 | .any false,_,_,_,_=>trivial
 | .any true,_,_,_,h=>h
 | .bool _ _,_,_,_,h=>h
 | .int _ _ _,_,_,_,h=>h
 | .str _ _,_,_,_,h=>h
 | .nil,_,_,_,h=>h
 | .nilslice,_,_,_,h=>h
 | .eslice _,_,_,_,h=>h
 | .nilfunc,_,_,_,h=>h
 | .niliface,_,_,_,h=>h
 | .nilmap,_,_,_,h=>h
 | .ptr i o,_,_,⟨b',N',e',_⟩,⟨b,N,e,r⟩=>⟨b,N,by simp [Sg.low,dom _ _ _ e',e],r⟩
 | .slice i _ _ _,_,_,⟨b',N',e',_⟩,⟨b,N,e,r⟩=>⟨b,N,by simp [Sg.low,dom _ _ _ e',e],r⟩
 | .gslice i _ _ _,_,_,⟨b',N',_,_,e',_⟩,⟨b,N,q,c,e,r⟩=>⟨b,N,q,c,by simp [Sg.low,dom _ _ _ e',e],r⟩
 | .func _ fs cs,_,_,⟨F',K',_,r',s'⟩,⟨F,K,e,r,s2⟩=>⟨F,K,e,VRels.names dom s fs _ _ r' r,VRels.names dom s cs _ _ s' s2⟩
 | .yield i,_,_,⟨b',N',e',_⟩,⟨b,N,e,r⟩=>⟨b,N,by simp [Sg.low,dom _ _ _ e',e],r⟩
 | .iface _ a,_,_,⟨_,_,r'⟩,⟨x,e,r⟩=>⟨x,e,VRel.names dom s a _ _ r' r⟩
 | .map i,_,_,⟨b',N',e',_⟩,⟨b,N,e,r⟩=>⟨b,N,by simp [Sg.low,dom _ _ _ e',e],r⟩
 | .vslice i _,_,_,⟨b',N',_,e',_⟩,⟨b,N,c,e,r⟩=>⟨b,N,c,by simp [Sg.low,dom _ _ _ e',e],r⟩
 | .pslice i l _ _,_,_,⟨_,_,_,_,_,_,r'⟩,⟨p,len,c,e1,e2,e3,r⟩=>⟨p,len,c,e1,e2,e3,by
  rcases r' with h|⟨b',N',e',_⟩
  .exact .inl h
  .exact r.imp id fun ⟨b,N,h1,h2⟩=>⟨b,N,by simp [Sg.low,dom _ _ _ e',h1],h2⟩⟩
 | .lslice i _,_,_,⟨_,len',_,e0,e0',r'⟩,⟨p,len,c,e1,e2,r⟩=>⟨p,len,c,e1,e2,by
  rcases r' with h|⟨b',N',e',_⟩
  .left; omega
  .exact r.imp id fun ⟨b,N,h1,h2⟩=>⟨b,N,by simp [Sg.low,dom _ _ _ e',h1],h2⟩⟩
 | .islice _ i _ _,_,_,⟨_,len',_,e0,e0',r'⟩,⟨p,len,c,e1,e2,r⟩=>⟨p,len,c,e1,e2,by
  rcases r' with h|⟨b',N',e',_⟩
  .left; omega
  .exact r.imp id fun ⟨b,N,h1,h2⟩=>⟨b,N,by simp [Sg.low,dom _ _ _ e',h1],h2⟩⟩
 | .panic a,u,v,h,k=>VRel.names dom s a u v h k
 | .vptr i _,_,_,⟨b',N',e',_⟩,⟨b,N,e,r⟩=>⟨b,N,by simp [Sg.low,dom _ _ _ e',e],r⟩
 | .agg l,_,_,⟨_,_,r'⟩,⟨K,e,r⟩=>⟨K,e,VRels.names dom s l _ _ r' r⟩
 | .tuple l,_,_,⟨_,_,r'⟩,⟨K,e,r⟩=>⟨K,e,VRels.names dom s l _ _ r' r⟩
theorem VRels.names {σ τ:Sg} {n:Nat} (dom:∀ i B N,σ i=some (B,N)->i<n) (s:Sub σ τ):∀ (l:List AV) (L M:List Value),VRels σ l L->VRels τ l M->VRels (τ.low n) l M
 | [],_,_,_,h=>h
 | a :: l,_,_,⟨_,_,_,r',s'⟩,⟨v,vs,e,r,s2⟩=>⟨v,vs,e,VRel.names dom s a _ _ r' r,VRels.names dom s l _ _ s' s2⟩
end
mutual
theorem VRel.cut {σ:Sg} {n:Nat}:∀ (a:AV) (v:Value),VRel σ a v->VRel (σ.low n) (a.cut n) v
 | .any false,_,_=>trivial
 | .any true,_,h=>h
 | .bool _ _,_,h=>h
 | .int _ _ _,_,h=>h
 | .str _ _,_,h=>h
 | .nil,_,h=>h
 | .nilslice,_,h=>h
 | .eslice _,_,h=>h
 | .nilfunc,_,h=>h
 | .niliface,_,h=>h
 | .nilmap,_,h=>h
 | .ptr i o,_,h=>by
  unfold AV.cut
  cases e:Nat.blt i n with
  | true=>exact VRel.low _ _ h (by simpa [AV.under] using e)
  | false=>exact aN (aR h rfl)
 | .slice i o l c,_,h=>by
  unfold AV.cut
  cases e:Nat.blt i n with
  | true=>exact VRel.low _ _ h (by simpa [AV.under] using e)
  | false=>exact aN (aR h rfl)
 | .gslice i o l c,_,h=>by
  unfold AV.cut
  cases e:Nat.blt i n with
  | true=>exact VRel.low _ _ h (by simpa [AV.under] using e)
  | false=>exact aN (aR h rfl)
 | .func f fs cs,_,h=>by
  unfold AV.cut
  cases e:AV.underL n fs&&AV.underL n cs with
  | true=>exact VRel.low _ _ h (by simpa [AV.under] using e)
  | false=>exact aN (aR h rfl)
 | .yield i,_,h=>by
  unfold AV.cut
  cases e:Nat.blt i n with
  | true=>exact VRel.low _ _ h (by simpa [AV.under] using e)
  | false=>exact aN (aR h rfl)
 | .iface _ a,_,⟨x,e,r⟩=>⟨x,e,VRel.cut a _ r⟩
 | .map i,_,h=>by
  unfold AV.cut
  cases e:Nat.blt i n with
  | true=>exact VRel.low _ _ h (by simpa [AV.under] using e)
  | false=>exact aN (aR h rfl)
 | .pslice i l s k,_,h=>by
  unfold AV.cut
  cases e:Nat.blt i n with
  | true=>exact VRel.low _ _ h (by simpa [AV.under] using e)
  | false=>exact aN (aR h rfl)
 | .vslice i l,_,h=>by
  unfold AV.cut
  cases e:Nat.blt i n with
  | true=>exact VRel.low _ _ h (by simpa [AV.under] using e)
  | false=>exact aN (aR h rfl)
 | .lslice i k,_,h=>by
  unfold AV.cut
  cases e:Nat.blt i n with
  | true=>exact VRel.low _ _ h (by simpa [AV.under] using e)
  | false=>exact aN (aR h rfl)
 | .islice w i o k,_,h=>by
  unfold AV.cut
  cases e:Nat.blt i n with
  | true=>exact VRel.low _ _ h (by simpa [AV.under] using e)
  | false=>exact aN (aR h rfl)
 | .panic a,v,h=>VRel.cut a v h
 | .vptr i o,_,h=>by
  unfold AV.cut
  cases e:Nat.blt i n with
  | true=>exact VRel.low _ _ h (by simpa [AV.under] using e)
  | false=>exact aN (aR h rfl)
 | .agg l,_,⟨K,e,r⟩=>⟨K,e,VRels.cut l _ r⟩
 | .tuple l,_,⟨K,e,r⟩=>⟨K,e,VRels.cut l _ r⟩
theorem VRels.cut {σ:Sg} {n:Nat}:∀ (l:List AV) (L:List Value),VRels σ l L->VRels (σ.low n) (AV.cutL n l) L
 | [],_,h=>h
 | a :: l,_,⟨v,vs,e,r,s⟩=>⟨v,vs,e,VRel.cut a _ r,VRels.cut l _ s⟩
end
def DRel (σ:Sg):List ADef->List Deferred->Prop
 | [],D=>D=[]
 | .collected i :: l,D=>∃ B N E,σ i=some (B,N)/\D={ target:=.collected B,args:=#[] } :: E/\DRel σ l E
 | .call f as :: l,D=>∃ F K E,VRels σ as (F++K).toList/\D={ target:=.fn (.func f) K,args:=F } :: E/\DRel σ l E
theorem DRel.mono {σ τ:Sg} (h:Sub σ τ):∀ {l:List ADef} {D:List Deferred},DRel σ l D->DRel τ l D
 | [],_,e=>e
 | .collected _ :: _,_,⟨B,N,E,h1,h2,h3⟩=>⟨B,N,E,h _ _ h1,h2,DRel.mono h h3⟩
 | .call _ _ :: _,_,⟨F,K,E,h1,h2,h3⟩=>⟨F,K,E,VRels.mono h _ _ h1,h2,DRel.mono h h3⟩
theorem DRel.low {σ:Sg} {n:Nat}:∀ {l:List ADef} {D:List Deferred},iI n l=true->DRel σ l D->DRel (σ.low n) l D
 | [],_,_,e=>e
 | .collected i :: l,_,u,⟨B,N,E,h1,h2,h3⟩=>by
  simp only [iI,Bool.and_eq_true,Nat.blt_eq] at u
  exact ⟨B,N,E,by simp [Sg.low,u.1,h1],h2,DRel.low u.2 h3⟩
 | .call f as :: l,_,u,⟨F,K,E,h1,h2,h3⟩=>by
  simp only [iI,Bool.and_eq_true] at u
  exact ⟨F,K,E,VRels.low _ _ h1 u.1,h2,DRel.low u.2 h3⟩
structure SRel (σ:Sg) (s:St) (T:Array Value) (D:List Deferred) (W:World):Prop where
 t:TRel σ s.tmps T
 d:DRel σ s.defs D
 h:HRel σ s.hp W
structure TMon (s k:St):Prop where
 len:k.tmps.length=s.tmps.length
 same:∀ (t:Nat) (x:AT),k.tmps[t]?=some x->s.tmps[t]?=some x\/s.hp.clock<=x.st
theorem TMon.refl (s:St):TMon s s:=⟨rfl,fun _ _ h=>.inl h⟩
theorem TMon.trans {a b c:St} (hc:a.hp.clock<=b.hp.clock) (x:TMon a b) (y:TMon b c):TMon a c:=
 ⟨y.len.trans x.len,fun t u e=>by
  rcases y.same t u e with h|h
  .exact x.same t u h
  .exact .inr (Nat.le_trans hc h)⟩
structure StepH (H:Nat->Prop) (σ:Sg) (s:St) (W:World) (τ:Sg) (k:St) (V:World):Prop where
 good:GoodH H σ s.hp W τ k.hp V
 tm:TMon s k
abbrev Step:=StepH fun _=>False
theorem StepH.next {H H':Nat->Prop} {σ τ υ:Sg} {s k m:St} {W V X:World} (ko:k.hp.ok) (mo:m.hp.ok) (x:StepH H σ s W τ k V) (y:StepH H' τ k V υ m X) (hh:∀ B,H' B->B<W.heap.size->H B):StepH H σ s W υ m X:=
 ⟨x.good.next ko mo y.good hh,x.tm.trans x.good.mon.clock y.tm⟩
theorem Step.trans {σ τ υ:Sg} {s k m:St} {W V X:World} (ko:k.hp.ok) (mo:m.hp.ok) (x:Step σ s W τ k V) (y:Step τ k V υ m X):Step σ s W υ m X:=
 StepH.next ko mo x y fun _ h _=>h
theorem kP:∀ (l m:List ADef),dJ l m=true->l=m
 | [],[],_=>rfl
 | .collected a :: l,.collected b :: m,h=>by
  simp [dJ] at h
  rw [h.1,kP l m h.2]
 | .call f as :: l,.call g bs :: m,h=>by
  simp only [dJ,Bool.and_eq_true] at h
  rw [Nat.eq_of_beq_eq_true h.1.1,d9 as bs h.1.2,kP l m h.2]
 | [],.collected _ :: _,h=>by simp [dJ] at h
 | .collected _ :: _,[],h=>by simp [dJ] at h
 | [],.call _ _ :: _,h=>by simp [dJ] at h
 | .call _ _ :: _,[],h=>by simp [dJ] at h
 | .collected _ :: _,.call _ _ :: _,h=>by simp [dJ] at h
 | .call _ _ :: _,.collected _ :: _,h=>by simp [dJ] at h
theorem vR {c0:Nat} {p:Bool}:∀ (l0 l m r:List AT),nQ c0 p l0 l m=some r->r.length=l0.length/\l.length=l0.length/\m.length=l0.length /\
  ∀ (t:Nat) (c:AT),r[t]?=some c->∃ x a b:AT,l0[t]?=some x/\l[t]?=some a/\m[t]?=some b/\((a.st<c0/\b.st<c0/\c=x)\/((c0<=a.st\/c0<=b.st)/\c=⟨max a.st b.st,uB p a.v b.v⟩))
 | [],[],[],r,h=>by
  cases h
  exact ⟨rfl,rfl,rfl,fun t c e=>by simp at e⟩
 | x :: l0,a :: l,b :: m,r,h=>by
  simp only [nQ] at h
  split at h
  .cases h
  .rename_i q hq
   obtain ⟨h1,h2,h3,h4⟩:=vR l0 l m q hq
   split at h
   .rename_i hc
    cases h
    simp only [Bool.and_eq_true,Nat.blt_eq] at hc
    refine ⟨by simp [h1],by simp [h2],by simp [h3],fun t c e=>?_⟩
    cases t with
    | zero=>simp at e; subst e; exact ⟨x,a,b,rfl,rfl,rfl,.inl ⟨hc.1,hc.2,rfl⟩⟩
    | succ t=>simpa using h4 t c (by simpa using e)
   .rename_i hc
    cases h
    refine ⟨by simp [h1],by simp [h2],by simp [h3],fun t c e=>?_⟩
    cases t with
    | zero=>
     simp at e; subst e
     refine ⟨x,a,b,rfl,rfl,rfl,.inr ⟨?_,rfl⟩⟩
     rw [Bool.eq_false_iff] at hc
     rcases Nat.lt_or_ge a.st c0 with h5|h5
     .rcases Nat.lt_or_ge b.st c0 with h6|h6
      .exact absurd (by simp [h5,h6]) hc
      .exact .inr h6
     .exact .inl h5
    | succ t=>simpa using h4 t c (by simpa using e)
 | [],[],_ :: _,_,h=>by simp [nQ] at h
 | [],_ :: _,_,_,h=>by simp [nQ] at h
 | _ :: _,[],_,_,h=>by simp [nQ] at h
 | _ :: _,_ :: _,[],_,h=>by simp [nQ] at h
theorem qA {p:Bool}:∀ (l m r:List ABlk),lH p l m=some r->r.length=l.length/\m.length=l.length /\
  ∀ (t:Nat) (c:ABlk),r[t]?=some c->∃ (a b:ABlk) (d:ABody),l[t]?=some a/\m[t]?=some b/\fK p none a.body b.body=some d/\c=⟨max a.wr b.wr,d⟩
 | [],[],r,h=>by
  cases h
  exact ⟨rfl,rfl,fun t c e=>by simp at e⟩
 | a :: l,b :: m,r,h=>by
  simp only [lH] at h
  split at h
  .cases h
  .rename_i q hq
   obtain ⟨h1,h2,h4⟩:=qA l m q hq
   split at h
   .cases h
   .rename_i d hd
    cases h
    refine ⟨by simp [h1],by simp [h2],fun t c e=>?_⟩
    cases t with
    | zero=>simp at e; subst e; exact ⟨a,b,d,rfl,rfl,hd,rfl⟩
    | succ t=>simpa using h4 t c (by simpa using e)
 | [],_ :: _,_,h=>by simp [lH] at h
 | _ :: _,[],_,h=>by simp [lH] at h
theorem qB {c0:Nat} {p:Bool}:∀ (l0 l m r:List ABlk),jf c0 p l0 l m=some r->r.length=l0.length/\l.length=l0.length/\m.length=l0.length /\
  ∀ (t:Nat) (c:ABlk),r[t]?=some c->∃ x a b:ABlk,l0[t]?=some x/\l[t]?=some a/\m[t]?=some b/\((a.wr<c0/\b.wr<c0/\c=x)\/((c0<=a.wr\/c0<=b.wr)/\∃ d,fK p (some x.body) a.body b.body=some d/\c=⟨max a.wr b.wr,d⟩))
 | [],[],[],r,h=>by
  cases h
  exact ⟨rfl,rfl,rfl,fun t c e=>by simp at e⟩
 | x :: l0,a :: l,b :: m,r,h=>by
  simp only [jf] at h
  split at h
  .cases h
  .rename_i q hq
   obtain ⟨h1,h2,h3,h4⟩:=qB l0 l m q hq
   split at h
   .rename_i hc
    cases h
    simp only [Bool.and_eq_true,Nat.blt_eq] at hc
    refine ⟨by simp [h1],by simp [h2],by simp [h3],fun t c e=>?_⟩
    cases t with
    | zero=>simp at e; subst e; exact ⟨x,a,b,rfl,rfl,rfl,.inl ⟨hc.1,hc.2,rfl⟩⟩
    | succ t=>simpa using h4 t c (by simpa using e)
   .rename_i hc
    split at h
    .cases h
    .rename_i d hd
     cases h
     refine ⟨by simp [h1],by simp [h2],by simp [h3],fun t c e=>?_⟩
     cases t with
     | zero=>
      simp at e; subst e
      refine ⟨x,a,b,rfl,rfl,rfl,.inr ⟨?_,d,hd,rfl⟩⟩
      rw [Bool.eq_false_iff] at hc
      rcases Nat.lt_or_ge a.wr c0 with h5|h5
      .rcases Nat.lt_or_ge b.wr c0 with h6|h6
       .exact absurd (by simp [h5,h6]) hc
       .exact .inr h6
      .exact .inl h5
     | succ t=>simpa using h4 t c (by simpa using e)
 | [],[],_ :: _,_,h=>by simp [jf] at h
 | [],_ :: _,_,_,h=>by simp [jf] at h
 | _ :: _,[],_,_,h=>by simp [jf] at h
 | _ :: _,_ :: _,[],_,h=>by simp [jf] at h
theorem xU {α:Type}:∀ (n:Nat) (l m:List α),bP n l=some m->m=l.take n/\m.length=n
 | 0,l,m,h=>by cases h; simp
 | n+1,[],m,h=>by simp [bP] at h
 | n+1,a :: l,m,h=>by
  simp only [bP] at h
  split at h
  .cases h
  .rename_i r hr
   cases h
   obtain ⟨h1,h2⟩:=xU n l r hr
   exact ⟨by simp [h1],by simp [h2]⟩
theorem Eg {c0:Nat} {p:Bool} {n k:Nat} (hk:k<=n) {l0 la lb h:List ABlk} (h0:l0.length=k) (e:Gz c0 p (n - k) l0 la lb=some h):
  h.length=n/\∀ (i:Nat) (c:ABlk),i<n->h[n - 1 - i]?=some c->∃ a b:ABlk,la[n - 1 - i]?=some a/\lb[n - 1 - i]?=some b /\
   ((k<=i/\∃ d,fK p none a.body b.body=some d/\c=⟨max a.wr b.wr,d⟩) ∨
    (i<k/\∃ x,l0[k - 1 - i]?=some x/\((a.wr<c0/\b.wr<c0/\c=x)\/((c0<=a.wr\/c0<=b.wr)/\∃ d,fK p (some x.body) a.body b.body=some d/\c=⟨max a.wr b.wr,d⟩)))):=by
 unfold Gz at e
 split at e
 .cases e
 .rename_i xa hxa
  split at e
  .cases e
  .rename_i xb hxb
   split at e
   .cases e
   .rename_i u hu
    split at e
    .cases e
    .rename_i v hv
     rw [Cg] at e
     cases e
     obtain ⟨rfl,hla⟩:=xU _ _ _ hxa
     obtain ⟨rfl,hlb⟩:=xU _ _ _ hxb
     obtain ⟨u1,u2,u3⟩:=qA _ _ _ hu
     obtain ⟨v1,v2,v3,v4⟩:=qB _ _ _ _ hv
     rw [gZ] at v2 v4
     rw [gZ] at v3 v4
     refine ⟨by simp [v1,u1,hla]; omega,fun i c hi hc=>?_⟩
     rw [hla] at u1
     by_cases hik:k<=i
     .rw [List.getElem?_append_left (by omega)] at hc
      obtain ⟨a,b,d,h1,h2,h3,h4⟩:=u3 _ c hc
      rw [List.getElem?_take] at h1 h2
      rw [if_pos (by omega)] at h1 h2
      exact ⟨a,b,h1,h2,.inl ⟨hik,d,h3,h4⟩⟩
     .rw [List.getElem?_append_right (by omega),u1,show n - 1 - i - (n - k)=k - 1 - i by omega] at hc
      obtain ⟨x,a,b,h1,h2,h3,h4⟩:=v4 _ c hc
      rw [List.getElem?_drop,show n - k+(k - 1 - i)=n - 1 - i by omega] at h2 h3
      exact ⟨a,b,h2,h3,.inr ⟨by omega,x,h1,h4⟩⟩
theorem Co {a b:LoopState} (h:zW a b=true):a=b:=by
 cases a <;> cases b <;> first|rfl|cases h
theorem Eh {a b:Option Code} (h:xn a b=true):a=b:=by
 unfold xn at h
 split at h
 .rfl
 .rfl
 .rename_i i j
  rw [Nat.eq_of_beq_eq_true h]
 .cases h
def ABody.flat:ABody->Bool
 | .loop _=>false
 | .map _=>false
 | .view _=>false
 | .hold _=>false
 | .rows _ _=>false
 | _=>true
theorem xW {τ:Sg} {p:Bool} {b0:Option ABody} (hb0:∀ c,b0≠some (.loop c)) {a b d:ABody} {N:Nat} {o:Obj} (e:fK p b0 a b=some d) (hd:d.isDead=false)
  (ha:p=true->a.flat=true->BRel τ N a o) (hb:p=false->b.flat=true->BRel τ N b o):BRel τ N d o:=by
 unfold fK at e
 split at e
 .exact absurd rfl (hb0 _)
 .split at e
  .split at e
   .split at e
    .cases e; cases hd
    .rename_i l m r hr
     cases e
     cases p
     .obtain ⟨K,t,h1,h2,h3⟩:=hb rfl rfl
      exact ⟨K,t,h1,dD false _ _ _ _ hr (fun h=>by cases h) (fun _=>h2),h3⟩
     .obtain ⟨K,t,h1,h2,h3⟩:=ha rfl rfl
      exact ⟨K,t,h1,dD true _ _ _ _ hr (fun _=>h2) (fun h=>by cases h),h3⟩
   .cases e; cases hd
  .split at e
   .split at e
    .cases e; cases hd
    .rename_i l m r hr
     cases e
     cases p
     .obtain ⟨K,t,X,Y,h1,h2,h3,h4⟩:=hb rfl rfl
      exact ⟨K,t,X,Y,h1,h2,dD false _ _ _ _ hr (fun h=>by cases h) (fun _=>h3),h4⟩
     .obtain ⟨K,t,X,Y,h1,h2,h3,h4⟩:=ha rfl rfl
      exact ⟨K,t,X,Y,h1,h2,dD true _ _ _ _ hr (fun _=>h3) (fun h=>by cases h),h4⟩
   .cases e; cases hd
  .split at e
   .split at e
    .rename_i hk; subst hk
     cases e
     cases p
     .exact hb rfl rfl
     .exact ha rfl rfl
    .cases e; cases hd
   .cases e; cases hd
  .split at e
   .split at e
    .rename_i hk; subst hk
     cases e
     cases p
     .exact hb rfl rfl
     .exact ha rfl rfl
    .cases e; cases hd
   .cases e; cases hd
  .cases e; cases hd
theorem Ei {p:Bool} {b0:Option ABody} {a b d:ABody} (e:fK p b0 a b=some d) (hd:d.isDead=false):(p=true->a.isDead=false)/\(p=false->b.isDead=false):=by
 unfold fK at e
 split at e
 .split at e
  .split at e
   .exact ⟨fun _=>rfl,fun _=>rfl⟩
   .cases e
  .cases e
 .split at e
  .split at e
   .exact ⟨fun _=>rfl,fun _=>rfl⟩
   .cases e; cases hd
  .split at e
   .exact ⟨fun _=>rfl,fun _=>rfl⟩
   .cases e; cases hd
  .split at e
   .split at e
    .cases e
     exact ⟨fun hp=>by subst hp; exact hd,fun hp=>by subst hp; exact hd⟩
    .cases e; cases hd
   .cases e; cases hd
  .split at e
   .exact ⟨fun _=>rfl,fun _=>rfl⟩
   .cases e; cases hd
  .cases e; cases hd
theorem Cq {p:Bool} {b0:Option ABody} {a b d:ABody} (e:fK p b0 a b=some d) (hd:d.isDead=false):a.isView=false/\b.isView=false:=by
 unfold fK at e
 split at e
 .split at e
  .split at e
   .exact ⟨rfl,rfl⟩
   .cases e
  .cases e
 .split at e
  .split at e
   .exact ⟨rfl,rfl⟩
   .cases e; cases hd
  .split at e
   .exact ⟨rfl,rfl⟩
   .cases e; cases hd
  .split at e
   .exact ⟨rfl,rfl⟩
   .cases e; cases hd
  .split at e
   .exact ⟨rfl,rfl⟩
   .cases e; cases hd
  .cases e; cases hd
theorem Sg.low_all {σ:Sg} {n:Nat} (dom:∀ i B N,σ i=some (B,N)->i<n):σ.low n=σ:=by
 funext i
 unfold Sg.low
 split
 .rfl
 .rename_i h
  cases e:σ i with
  | none=>rfl
  | some x=>exact absurd (dom i _ _ e) h
theorem VRels.mem {σ:Sg}:∀ {l:List AV} {L:List Value},VRels σ l L->∀ a∈l,∃ u,VRel σ a u
 | [],_,_,a,h=>by cases h
 | b :: l,L,⟨v,vs,e,r,s⟩,a,h=>by
  rcases List.mem_cons.1 h with rfl|h
  .exact ⟨v,r⟩
  .exact VRels.mem s a h
theorem VRels.of_mem {σ:Sg}:∀ {l:List AV},(∀ a∈l,∃ u,VRel σ a u)->∃ L,VRels σ l L
 | [],_=>⟨[],rfl⟩
 | a :: l,h=>by
  obtain ⟨v,hv⟩:=h a (by simp)
  obtain ⟨L,hL⟩:=VRels.of_mem (l:=l) fun b hb=>h b (List.mem_cons_of_mem _ hb)
  exact ⟨v :: L,v,L,rfl,hv,hL⟩
theorem BRel.names {σ τ:Sg} {n N0 N:Nat} (dom:∀ i B N,σ i=some (B,N)->i<n) (s:Sub σ τ) {b:ABody} {o p:Obj} (h:BRel σ N0 b o) (k:BRel τ N b p):BRel (τ.low n) N b p:=by
 cases b with
 | dead=>trivial
 | cells l=>obtain ⟨_,_,_,h2,_⟩:=h; obtain ⟨K,e,k1,k2,k3⟩:=k; exact ⟨K,e,k1,VRels.names dom s _ _ _ h2 k2,k3⟩
 | view l=>obtain ⟨_,_,_,_,h2⟩:=h; obtain ⟨K,e,fr,k1,k2⟩:=k; exact ⟨K,e,fr,k1,VRels.names dom s _ _ _ h2 k2⟩
 | hold l=>obtain ⟨_,_,_,_,h2⟩:=h; obtain ⟨K,e,fr,k1,k2⟩:=k; exact ⟨K,e,fr,k1,VRels.names dom s _ _ _ h2 k2⟩
 | grown l=>obtain ⟨_,_,_,_,_,_,h2,_⟩:=h; obtain ⟨K,e,X,Y,k1,k2,k3,k4⟩:=k; exact ⟨K,e,X,Y,k1,k2,VRels.names dom s _ _ _ h2 k3,k4⟩
 | ints q xs=>exact k
 | rows q xs=>exact k
 | map es=>
  obtain ⟨_,_,es0,_,hp,_,h1,h2⟩:=h
  obtain ⟨E,c,es1,k1,kp,kn,k2,k3⟩:=k
  have pp:es1.Perm es0:=kp.trans hp.symm
  obtain ⟨L1,g1⟩:=VRels.of_mem (σ:=σ) (l:=es1.map (·.1)) fun a ha=>VRels.mem h1 a ((pp.map _).mem_iff.1 ha)
  obtain ⟨L2,g2⟩:=VRels.of_mem (σ:=σ) (l:=es1.map (·.2)) fun a ha=>VRels.mem h2 a ((pp.map _).mem_iff.1 ha)
  exact ⟨E,c,es1,k1,kp,kn,VRels.names dom s _ _ _ g1 k2,VRels.names dom s _ _ _ g2 k3⟩
 | loop r=>
  obtain ⟨_,_,_,_,_,h4,_,_,_,M0,h8⟩:=h
  obtain ⟨L,k1,k2,k3,k4,k5,k6,k7,k8,M,k9⟩:=k
  exact ⟨L,k1,k2,k3,k4,VRels.names dom s _ _ _ h4 k5,k6,k7,k8,M,by simp [Sg.low,dom _ _ _ h8,k9]⟩
 | defers t=>exact k
theorem Ej (n:Nat):∀ (l:List AT) (t:Nat),(Kc n l)[t]?=(l[t]?).map fun a=>⟨a.st,a.v.cut n⟩
 | [],t=>by simp [Kc]
 | a :: l,0=>by simp [Kc]
 | a :: l,t+1=>by simpa [Kc] using Ej n l t
theorem Ja (n:Nat):∀ (k:Nat) (l:List ABlk),Ke n k l=(l.drop k).map fun b=>⟨b.wr,b.body.cut n⟩
 | 0,l=>by simp [Ke]
 | k+1,[]=>by simp [Ke]
 | k+1,a :: l=>by simpa [Ke] using Ja n k l
theorem BRel.cut {σ:Sg} {n N:Nat} {b:ABody} {o:Obj} (h:BRel σ N b o) (hf:b.flat=true):BRel (σ.low n) N (b.cut n) o:=by
 cases b with
 | dead=>trivial
 | cells l=>obtain ⟨K,e,h1,h2,h3⟩:=h; exact ⟨K,e,h1,VRels.cut _ _ h2,h3⟩
 | grown l=>obtain ⟨K,e,X,Y,h1,h2,h3,h4⟩:=h; exact ⟨K,e,X,Y,h1,h2,VRels.cut _ _ h3,h4⟩
 | ints k xs=>exact h
 | map es=>cases hf
 | view l=>cases hf
 | hold l=>cases hf
 | rows k xs=>cases hf
 | loop r=>cases hf
 | defers t=>exact h
structure CutOk (σ:Sg) (n:Nat) (s:St):Prop where
 t:∀ (t:Nat) (c:AT),(qx n s).1[t]?=some c->∃ c',s.tmps[t]?=some c'/\c'.st=c.st/\∀ V,VRel σ c'.v V->VRel (σ.low n) c.v V
 h:∀ (i:Nat) (c:ABlk),i<n->(qx n s).2[n - 1 - i]?=some c->∃ c',s.hp.get i=some c'/\c'.wr=c.wr/\c'.body.isDead=c.body.isDead/\c'.body.flat=c.body.flat/\(c.body.flat=false->c=c') /\
  ∀ N o,c.body.flat=true->BRel σ N c'.body o->BRel (σ.low n) N c.body o
theorem Mq (n:Nat) (b:ABody):(b.cut n).flat=b.flat/\(b.cut n).isDead=b.isDead/\(b.flat=false->b.cut n=b):=by
 cases b <;> exact ⟨rfl,rfl,fun h=>by first|rfl|cases h⟩
theorem WW {σ:Sg} {n:Nat} {s:St} {T:Array Value} {D:List Deferred} {W:World} (r:SRel σ s T D W) (hn:n<=s.hp.size):CutOk σ n s:=by
 cases e':Nat.beq s.hp.size n with
 | true=>
  have e:=Nat.eq_of_beq_eq_true e'
  have hl:σ.low n=σ:=Sg.low_all fun i B N h=>by rw [<- e]; exact (r.h.dom i B N h).1
  constructor
  .intro t c h
   simp only [qx,e'] at h
   exact ⟨c,h,rfl,fun V hV=>by rw [hl]; exact hV⟩
  .intro i c hi h
   simp only [qx,e'] at h
   refine ⟨c,?_,rfl,rfl,rfl,fun _=>rfl,fun N o _ hb=>by rw [hl]; exact hb⟩
   rw [Hp.get_eq,e,if_pos hi]; exact h
 | false=>
  constructor
  .intro t c h
   simp only [qx,e'] at h
   rw [Ej] at h
   cases h1:s.tmps[t]? with
   | none=>rw [h1] at h; cases h
   | some a=>
    rw [h1] at h; cases h
    exact ⟨a,rfl,rfl,fun V hV=>VRel.cut _ _ hV⟩
  .intro i c hi h
   simp only [qx,e'] at h
   rw [Ja,List.getElem?_map,List.getElem?_drop,show s.hp.size - n+(n - 1 - i)=s.hp.size - 1 - i by omega] at h
   cases h1:s.hp.blks[s.hp.size - 1 - i]? with
   | none=>rw [h1] at h; cases h
   | some a=>
    rw [h1] at h; cases h
    obtain ⟨f1,f2,f3⟩:=Mq n a.body
    refine ⟨a,?_,rfl,f2.symm,f1.symm,fun hf=>?_,fun N o hf hb=>BRel.cut hb (by rw [<- f1]; exact hf)⟩
    .rw [Hp.get_eq,if_pos (by omega)]; exact h1
    .have:=f3 (by rw [<- f1]; exact hf)
     show (⟨a.wr,ABody.cut n a.body⟩:ABlk)=a
     rw [this]
theorem mU {σ:Sg} {n:Nat} {i:Nat} {x:Nat×Nat} (h:σ.low n i=some x):i<n/\σ i=some x:=by
 unfold Sg.low at h
 split at h
 .exact ⟨by assumption,h⟩
 .cases h
theorem mV {H:Nat->Prop} {σ0:Sg} {s0:St} {T0:Array Value} {D0:List Deferred} {W0:World} (r0:SRel σ0 s0 T0 D0 W0) {p:Bool} {a b m:St} (e:jG s0 p a b=some m) {σ:Sg} {T:Array Value} {D:List Deferred} {W:World}
  (ra:p=true->SRel σ a T D W/\StepH H σ0 s0 W0 σ a W) (rb:p=false->SRel σ b T D W/\StepH H σ0 s0 W0 σ b W):∃ τ,SRel τ m T D W/\StepH H σ0 s0 W0 τ m W:=by
 unfold jG at e
 simp only at e
 split at e
 .cases e
 split at e
 .cases e
 .rename_i hc
  simp only [Bool.and_eq_true,Nat.ble_eq] at hc
  obtain ⟨⟨hn,hdefs⟩,hdu⟩:=hc
  have hdefs:=kP _ _ hdefs
  split at e
  .cases e
  .rename_i t ht
   split at e
   .cases e
   .rename_i h hh
    cases e
    generalize hN:Nat.min a.hp.size b.hp.size=n at *
    have hna:n<=a.hp.size:=by rw [<- hN]; exact Nat.min_le_left _ _
    have hnb:n<=b.hp.size:=by rw [<- hN]; exact Nat.min_le_right _ _
    obtain ⟨t1,t2,t3,t4⟩:=vR _ _ _ _ ht
    obtain ⟨g1,g2⟩:=Eg hn r0.h.ok hh
    obtain ⟨act,hact⟩:∃ act,act=bif p then a else b:=⟨_,rfl⟩
    have hr:SRel σ act T D W/\StepH H σ0 s0 W0 σ act W:=by
     cases p
     .rw [hact]; exact rb rfl
     .rw [hact]; exact ra rfl
    obtain ⟨r,st⟩:=hr
    have hnact:n<=act.hp.size:=by cases p <;> (rw [hact]; assumption)
    have cu:=WW r hnact
    have hsub:Sub σ0 (σ.low n):=fun i x hx=>by
     have h1:=st.good.sub i x hx
     have h2:=(r0.h.dom i _ _ hx).1
     unfold Sg.low; rw [if_pos (by omega)]; exact h1
    have hget:∀ i c,(⟨h,n,max a.hp.clock b.hp.clock⟩:Hp).get i=some c->i<n/\h[n - 1 - i]?=some c:=by
     intro i c hi
     rw [Hp.get_eq] at hi
     by_cases hlt:i<n
     .rw [if_pos hlt] at hi; exact ⟨hlt,hi⟩
     .rw [if_neg hlt] at hi; cases hi
    have main:∀ i c,(⟨h,n,max a.hp.clock b.hp.clock⟩:Hp).get i=some c->∃ x,act.hp.get i=some x/\(c.wr<s0.hp.clock->i<s0.hp.size->x.wr<s0.hp.clock)/\(i<s0.hp.size->x.wr<s0.hp.clock/\s0.hp.get i=some c\/s0.hp.clock<=c.wr) /\
      (c.body.isDead=false->x.body.isDead=false/\∀ N B o,σ i=some (B,N)->BRel σ N x.body o->W.heap[B]?=some o->BRel (σ.low n) N c.body o)/\(c.body.isDead=false->x.body.isView=true->c.body.isView=true)/\(s0.hp.clock<=x.wr->i<s0.hp.size->s0.hp.clock<=c.wr):=by
     intro i c hc
     obtain ⟨hlt,hc⟩:=hget i c hc
     obtain ⟨xa,xb,ha1,hb1,hcase⟩:=g2 i c hlt hc
     obtain ⟨xc,hxc⟩:∃ xc,xc=bif p then xa else xb:=⟨_,rfl⟩
     have hxc1:(qx n act).2[n - 1 - i]?=some xc:=by
      cases p
      .rw [hact,hxc]; exact hb1
      .rw [hact,hxc]; exact ha1
     obtain ⟨x,x1,x2,x3,x4,x5,x6⟩:=cu.h i xc hlt hxc1
     have hwr:xc.wr=xa.wr\/xc.wr=xb.wr:=by cases p <;> simp [hxc]
     have pa:∀ {N:Nat} {o:Obj},BRel σ N x.body o->p=true->xa.body.flat=true->BRel (σ.low n) N xa.body o:=fun hb hp hf=>by
      subst hp; simp at hxc; subst hxc; exact x6 _ _ hf hb
     have pb:∀ {N:Nat} {o:Obj},BRel σ N x.body o->p=false->xb.body.flat=true->BRel (σ.low n) N xb.body o:=fun hb hp hf=>by
      subst hp; simp at hxc; subst hxc; exact x6 _ _ hf hb
     have live:∀ {b0 d},fK p b0 xa.body xb.body=some d->d.isDead=false->x.body.isDead=false:=fun hd hl=>by
      obtain ⟨l1,l2⟩:=Ei hd hl
      rw [x3]
      cases p
      .rw [hxc]; exact l2 rfl
      .rw [hxc]; exact l1 rfl
     have solid:∀ {b0 d},fK p b0 xa.body xb.body=some d->d.isDead=false->x.body.isView=true->d.isView=true:=fun hd hl hv=>by
      obtain ⟨l1,l2⟩:=Cq hd hl
      have hxv:xc.body.isView=false:=by
       cases p
       .rw [hxc]; exact l2
       .rw [hxc]; exact l1
      have hf:x.body.flat=false:=by
       unfold ABody.isView at hv
       split at hv
       .rename_i l hb; rw [hb]; rfl
       .rename_i l hb; rw [hb]; rfl
       .rename_i l hb; rw [hb]; rfl
       .cases hv
      have:=x5 (by rw [<- x4]; exact hf)
      rw [this,hv] at hxv; cases hxv
     refine ⟨x,x1,?_⟩
     rcases hcase with ⟨hk,d,hd,rfl⟩|⟨hk,y,hy,hcase⟩
     .refine ⟨fun _ hi=>absurd hi (Nat.not_lt.2 hk),fun hi=>absurd hi (Nat.not_lt.2 hk),fun hl=>⟨live hd hl,fun N B o _ hb _=>xW (by simp) hd hl (pa hb) (pb hb)⟩,fun hl hv=>solid hd hl hv,fun _ hi=>absurd hi (Nat.not_lt.2 hk)⟩
     .have hy':s0.hp.get i=some y:=by rw [Hp.get_eq,if_pos hk]; exact hy
      rcases hcase with ⟨w1,w2,rfl⟩|⟨w,d,hd,rfl⟩
      .-- nothing was written
       have hxw:x.wr<s0.hp.clock:=by rcases hwr with h1|h1 <;> omega
       have hxy:x=c:=by
        rcases st.good.mon.same i c x hy' x1 with h1|h1
        .exact h1
        .omega
       subst hxy
       refine ⟨fun _ _=>hxw,fun _=>.inl ⟨hxw,hy'⟩,fun hl=>⟨hl,fun N B o hB hb ho=>?_⟩,fun _ hv=>hv,fun h1 _=>by omega⟩
       obtain ⟨B0,N0,o0,q1,q2,q3⟩:=r0.h.blk i x hy' hl
       exact BRel.names (fun i B N h=>Nat.lt_of_lt_of_le (r0.h.dom i B N h).1 hn) st.good.sub q3 hb
      .refine ⟨fun h1 _=>by rcases hwr with h2|h2 <;> (simp only at h1; omega),fun _=>.inr (by simp only; omega),fun hl=>⟨live hd hl,fun N B o hB hb ho=>?_⟩,fun hl hv=>solid hd hl hv,fun h1 _=>by rcases hwr with h2|h2 <;> (simp only; omega)⟩
       by_cases hlp:∃ L,y.body=.loop L
       .obtain ⟨L,hL⟩:=hlp
        obtain ⟨yw,yb⟩:=y
        simp only at hL; subst hL
        obtain ⟨w',s',pd',hxl⟩:=st.good.mon.loop i yw L hy'
        rw [x1] at hxl; cases hxl
        simp only [fK] at hd
        split at hd
        .rename_i u hu
         split at hd
         .rename_i v hv
          split at hd
          .rename_i hs
           simp only [Bool.and_eq_true] at hs
           have e1:=Co hs.1
           have e2:=Eh hs.2
           cases hd
           have hxb:xc.body=.loop { L with state:=s',pending:=pd' }:=by
            have:=x5 (by rw [<- x4]; rfl)
            rw [this]
           have hst:u.state=s'/\u.pending=pd':=by
            cases p
            .simp at hxc; subst hxc; rw [hv] at hxb; cases hxb; exact ⟨e1,e2⟩
            .simp at hxc; subst hxc; rw [hu] at hxb; cases hxb; exact ⟨rfl,rfl⟩
           obtain ⟨B0,N0,o0,q1,q2,L0,rfl,_,_,_,c4,_,_,_,M0,c9⟩:=r0.h.blk i _ hy' rfl
           obtain ⟨L1,rfl,d1,d2,d3,d4,d5,d6,d7,M1,d8⟩:=hb
           refine ⟨L1,rfl,by rw [d1,hst.1],by rw [d2,hst.2],d3,?_,d5,d6,d7,M1,?_⟩
           .exact VRels.names (fun i B N h=>Nat.lt_of_lt_of_le (r0.h.dom i B N h).1 hn) st.good.sub _ _ _ c4 d4
           .have:=(r0.h.dom _ _ _ c9).1
            unfold Sg.low; rw [if_pos (by simp only at this ⊢; omega)]; exact d8
          .cases hd
         .cases hd
        .cases hd
       .exact xW (fun c hc=>hlp ⟨c,by injection hc⟩) hd hl (pa hb) (pb hb)
    refine ⟨σ.low n,⟨?_,?_,⟨g1,?_,?_,?_⟩⟩,⟨⟨hsub,?_,st.good.ext,⟨?_,hn,?_,?_⟩,?_,?_⟩,?_,?_⟩⟩
    .-- the temporaries
     have hlen:T.size=s0.tmps.length:=by
      have h1:=VRels.length r.t
      have h2:=st.tm.len
      simp at h1; omega
     have build:∀ (l:List AT) (L:List Value),l.length=L.length->(∀ (j:Nat) (c:AT) (V:Value),l[j]?=some c->L[j]?=some V->VRel (σ.low n) c.v V)->VRels (σ.low n) (l.map (·.v)) L:=by
      intro l
      induction l with
      | nil=>intro L hl _; cases L with|nil=>rfl|cons _ _=>simp at hl
      | cons c l ih=>
       intro L hl hj
       cases L with
       | nil=>simp at hl
       | cons V L=>exact ⟨V,L,rfl,hj 0 c V rfl rfl,ih L (by simpa using hl) fun j c V h1 h2=>hj (j+1) c V (by simpa using h1) (by simpa using h2)⟩
     refine build t T.toList (by simp [t1,hlen]) fun j c V h1 h2=>?_
     obtain ⟨x,xa,xb,q1,q2,q3,hcase⟩:=t4 j c h1
     obtain ⟨xc,hxc⟩:∃ xc,xc=bif p then xa else xb:=⟨_,rfl⟩
     have hxc1:(qx n act).1[j]?=some xc:=by
      cases p
      .rw [hact,hxc]; exact q3
      .rw [hact,hxc]; exact q2
     obtain ⟨z,z1,z2,z3⟩:=cu.t j xc hxc1
     have hz:VRel σ z.v V:=by
      obtain ⟨V',v1,v2⟩:=r.t.nth (t:=j) (a:=z) (by rw [bV]; exact z1)
      have:T.toList[j]?=some V':=by simpa using v1
      rw [h2] at this; cases this; exact v2
     rcases hcase with ⟨w1,w2,rfl⟩|⟨w,rfl⟩
     .have hzs:z.st<s0.hp.clock:=by rw [z2]; cases p <;> simp [hxc] <;> omega
      have hzc:z=c:=by
       rcases st.tm.same j z z1 with h3|h3
       .rw [q1] at h3; cases h3; rfl
       .omega
      subst hzc
      obtain ⟨V0,v1,v2⟩:=r0.t.nth (t:=j) (a:=z) (by rw [bV]; exact q1)
      exact VRel.names (fun i B N h=>Nat.lt_of_lt_of_le (r0.h.dom i B N h).1 hn) st.good.sub _ _ _ v2 hz
     .refine mK p _ _ _ (fun hp=>?_) (fun hp=>?_)
      .subst hp; simp at hxc; subst hxc; exact z3 _ hz
      .subst hp; simp at hxc; subst hxc; exact z3 _ hz
    .-- the deferred calls
     have hd:act.defs=a.defs:=by cases p <;> rw [hact] <;> simp [hdefs]
     have h1:=r.d
     rw [hd] at h1
     exact DRel.low hdu h1
    .intro i c hc hd
     obtain ⟨x,x1,_,_,x4,_⟩:=main i c hc
     obtain ⟨x5,x6⟩:=x4 hd
     obtain ⟨B,N,o,q1,q2,q3⟩:=r.h.blk i x x1 x5
     exact ⟨B,N,o,by unfold Sg.low; rw [if_pos (hget i c hc).1]; exact q1,q2,x6 N B o q1 q3 q2⟩
    .intro i B N hi
     obtain ⟨h1,h2⟩:=mU hi
     exact ⟨h1,(r.h.dom i B N h2).2⟩
    .intro i j c d B N M hc hd hcl hdl h1 h2
     obtain ⟨x,x1,_,_,x4,x9,_⟩:=main i c hc
     obtain ⟨y,y1,_,_,y4,y9,_⟩:=main j d hd
     exact (r.h.inj i j x y B N M x1 y1 (x4 hcl).1 (y4 hdl).1 (mU h1).2 (mU h2).2).imp_right fun h=>⟨x9 hcl h.1,y9 hdl h.2⟩
    .intro i x hi hlt
     exact st.good.only i x (mU hi).2 hlt
    .have:=st.good.mon.clock
     show s0.hp.clock<=max a.hp.clock b.hp.clock
     cases p <;> rw [hact] at this <;> simp at this <;> omega
    .intro i y c hy hc
     obtain ⟨x,x1,x2,x3,_,_⟩:=main i c hc
     rcases x3 (Hp.get_lt hy) with ⟨_,h1⟩|h1
     .rw [hy] at h1; cases h1; exact .inl rfl
     .exact .inr h1
    .intro i w c hy
     have hlt:=Hp.get_lt hy
     have hlt2:i<n:=Nat.lt_of_lt_of_le hlt hn
     obtain ⟨d,hd⟩:∃ d,h[n - 1 - i]?=some d:=⟨_,List.getElem?_eq_getElem (by rw [g1]; omega)⟩
     have hdg:(⟨h,n,max a.hp.clock b.hp.clock⟩:Hp).get i=some d:=by rw [Hp.get_eq,if_pos hlt2]; exact hd
     obtain ⟨xa,xb,_,_,hcase⟩:=g2 i d hlt2 hd
     rcases hcase with ⟨hk,_⟩|⟨hk,y,hy',hcase⟩
     .omega
     .have hy2:s0.hp.get i=some y:=by rw [Hp.get_eq,if_pos hk]; exact hy'
      rw [hy] at hy2; cases hy2
      rcases hcase with ⟨_,_,rfl⟩|⟨_,d',hd',rfl⟩
      .exact ⟨w,c.state,c.pending,hdg⟩
      .simp only [fK] at hd'
       split at hd'
       .split at hd'
        .split at hd'
         .cases hd'; exact ⟨_,_,_,hdg⟩
         .cases hd'
        .cases hd'
       .cases hd'
    .intro i B N hi hs hB
     obtain ⟨h1,h2⟩:=mU hi
     refine (st.good.old i B N h2 hs hB).imp id ?_
     rintro ⟨j,M,c,q1,q2,q3,q4⟩
     have hjn:j<n:=Nat.lt_of_lt_of_le q1 hn
     obtain ⟨d,hd⟩:∃ d,h[n - 1 - j]?=some d:=⟨_,List.getElem?_eq_getElem (by rw [g1]; omega)⟩
     have hdg:(⟨h,n,max a.hp.clock b.hp.clock⟩:Hp).get j=some d:=by rw [Hp.get_eq,if_pos hjn]; exact hd
     obtain ⟨x,x1,_,_,_,_,x5⟩:=main j d hdg
     rw [q3] at x1; cases x1
     exact ⟨j,M,d,q1,q2,hdg,x5 q4 q1⟩
    .intro B hB hH hw
     refine st.good.keep B hB hH fun i N c hi hg=>?_
     have hlt:=(r0.h.dom i B N hi).1
     have hin:i<n:=Nat.lt_of_lt_of_le hlt hn
     obtain ⟨d,hd⟩:∃ d,h[n - 1 - i]?=some d:=⟨_,List.getElem?_eq_getElem (by rw [g1]; omega)⟩
     have hdg:(⟨h,n,max a.hp.clock b.hp.clock⟩:Hp).get i=some d:=by rw [Hp.get_eq,if_pos hin]; exact hd
     obtain ⟨x,x1,x2,_,_,_⟩:=main i d hdg
     rw [hg] at x1; cases x1
     exact x2 (hw i N d hi hdg) hlt
    .exact t1
    .intro j c hc
     obtain ⟨x,xa,xb,q1,_,_,hcase⟩:=t4 j c hc
     rcases hcase with ⟨_,_,rfl⟩|⟨w,rfl⟩
     .exact .inl q1
     .exact .inr (by simp only; omega)
theorem vT {σ0:Sg} {s0:St} {T0:Array Value} {D0:List Deferred} {W0:World} (r0:SRel σ0 s0 T0 D0 W0) {p:Bool} {a b m:St} (e:jG s0 p a b=some m) {σ:Sg} {T:Array Value} {D:List Deferred} {W:World}
  (ra:p=true->SRel σ a T D W/\Step σ0 s0 W0 σ a W) (rb:p=false->SRel σ b T D W/\Step σ0 s0 W0 σ b W):∃ τ,SRel τ m T D W/\Step σ0 s0 W0 τ m W:=mV r0 e ra rb
end Go.Eng
namespace Go.Eng
inductive Via (s0:St):St->St->Prop where
 | refl (s:St):Via s0 s s
 | left {s b t u:St}:jG s0 true s b=some t->Via s0 t u->Via s0 s u
 | right {s a t u:St}:jG s0 false a s=some t->Via s0 t u->Via s0 s u
theorem Via.trans {s0 a b c:St} (h:Via s0 a b) (k:Via s0 b c):Via s0 a c:=by
 induction h with
 | refl=>exact k
 | left e _ ih=>exact .left e (ih k)
 | right e _ ih=>exact .right e (ih k)
theorem Mr {H:Nat->Prop} {σ0:Sg} {s0:St} {T0:Array Value} {D0:List Deferred} {W0:World} (r0:SRel σ0 s0 T0 D0 W0) {s s':St} (v:Via s0 s s'):∀ {σ:Sg} {T:Array Value} {D:List Deferred} {W:World},
  SRel σ s T D W->StepH H σ0 s0 W0 σ s W->∃ τ,SRel τ s' T D W/\StepH H σ0 s0 W0 τ s' W:=by
 induction v with
 | refl s=>intro σ T D W r st; exact ⟨σ,r,st⟩
 | left e _ ih=>
  intro σ T D W r st
  obtain ⟨τ,r',st'⟩:=mV r0 e (σ:=σ) (T:=T) (D:=D) (W:=W) (fun _=>⟨r,st⟩) (fun h=>by cases h)
  exact ih r' st'
 | right e _ ih=>
  intro σ T D W r st
  obtain ⟨τ,r',st'⟩:=mV r0 e (σ:=σ) (T:=T) (D:=D) (W:=W) (fun h=>by cases h) (fun _=>⟨r,st⟩)
  exact ih r' st'
def One (l:List Ent) (e:Ent):Prop:=l.filter (fun e=>e.g.val)=[e]
def Non (l:List Ent):Prop:=l.filter (fun e=>e.g.val)=[]
def Got (s0:St) (l:List Ent) (x:Ex) (s:St):Prop:=∃ e,One l e/\e.x=x/\Via s0 s e.s
theorem Ag {a b:Ex} (h:BJ a b=true):a=b:=by
 unfold BJ at h
 split at h
 .rfl
 .rfl
 .rw [Nat.eq_of_beq_eq_true h]
 .rw [Nat.eq_of_beq_eq_true h]
 .rw [lJ _ _ h]
 .cases h
@[simp] theorem G.val_and (p:Bool) (g:G):(g.and p).val=(p&&g.val):=by cases g <;> simp [G.and,G.val]
@[simp] theorem G.val_andG (g h:G):(g.andG h).val=(g.val&&h.val):=by cases g <;> cases h <;> simp [G.andG,G.and,G.val]
@[simp] theorem G.val_or (g h:G):(G.or g h).val=(g.val||h.val):=by cases g <;> cases h <;> simp [G.or,G.val]
@[simp] theorem G.val_ite (p:Bool) (g h:G):(G.ite p g h).val=(bif p then g.val else h.val):=by cases g <;> cases h <;> cases p <;> simp [G.ite,G.val]
theorem aa2 {s0:St} {l:List Ent} {x:Ex} {s:St} (h:Got s0 l x s):Got s0 (rQ l) x s:=by
 obtain ⟨e,h1,h2,h3⟩:=h
 unfold rQ
 split
 .rename_i f
  have:f=e:=by
   unfold One at h1
   simp only [List.filter_cons,List.filter_nil] at h1
   split at h1
   .simpa using h1
   .cases h1
  subst this
  exact ⟨⟨.tt,f.x,f.s⟩,rfl,h2,h3⟩
 .exact ⟨e,h1,h2,h3⟩
theorem bN {l:List Ent} {e:Ent} (h:e.g.val=true) (k:Non l):One (e :: l) e:=by
 unfold One Non at *
 simp [h,k]
theorem aT {l:List Ent} {e f:Ent} (h:e.g.val=false) (k:One l f):One (e :: l) f:=by
 unfold One at *
 simp [h,k]
theorem ig {l:List Ent} {e:Ent} (h:e.g.val=false) (k:Non l):Non (e :: l):=by
 unfold Non at *
 simp [h,k]
theorem aX {l:List Ent} {a e:Ent} (h:One (a :: l) e):(a.g.val=true/\a=e/\Non l)\/(a.g.val=false/\One l e):=by
 unfold One Non at *
 simp only [List.filter_cons] at h
 cases ha:a.g.val with
 | true=>rw [ha] at h; simp at h; exact .inl ⟨rfl,h.1,by simpa using h.2⟩
 | false=>rw [ha] at h; exact .inr ⟨rfl,by simpa using h⟩
theorem cK {l:List Ent} {a:Ent} (h:Non (a :: l)):a.g.val=false/\Non l:=by
 unfold Non at *
 simp only [List.filter_cons] at h
 cases ha:a.g.val with
 | true=>rw [ha] at h; simp at h
 | false=>rw [ha] at h; exact ⟨rfl,by simpa using h⟩
theorem iN {s0:St} {e:Ent} (he:e.g.val=false):∀ {l:List Ent},(∀ f,One l f->Got s0 (xq s0 e l) f.x f.s)/\(Non l->Non (xq s0 e l))
 | []=>⟨fun f h=>by simp [One] at h,fun _=>ig he rfl⟩
 | a :: l=>by
  obtain ⟨i1,i2⟩:=iN (s0:=s0) he (l:=l)
  simp only [xq,G.on_eq]
  split
  .rename_i hx
   have hx:=Ag hx
   split
   .rename_i s hs
    rw [he] at hs
    refine ⟨fun f h=>?_,fun h=>?_⟩
    .rcases aX h with ⟨h1,rfl,h3⟩|⟨h1,h2⟩
     .exact ⟨_,bN (by simp [h1]) h3,hx,.right hs (.refl _)⟩
     .exact ⟨f,aT (by simp [h1,he]) h2,rfl,.refl _⟩
    .obtain ⟨h1,h2⟩:=cK h
     exact ig (by simp [h1,he]) h2
   .refine ⟨fun f h=>?_,fun h=>?_⟩
    .rcases aX h with ⟨h1,rfl,h3⟩|⟨h1,h2⟩
     .exact ⟨a,bN h1 (i2 h3),rfl,.refl _⟩
     .obtain ⟨f',q1,q2,q3⟩:=i1 f h2
      exact ⟨f',aT h1 q1,q2,q3⟩
    .obtain ⟨h1,h2⟩:=cK h
     exact ig h1 (i2 h2)
  .refine ⟨fun f h=>?_,fun h=>?_⟩
   .rcases aX h with ⟨h1,rfl,h3⟩|⟨h1,h2⟩
    .exact ⟨a,bN h1 (i2 h3),rfl,.refl _⟩
    .obtain ⟨f',q1,q2,q3⟩:=i1 f h2
     exact ⟨f',aT h1 q1,q2,q3⟩
   .obtain ⟨h1,h2⟩:=cK h
    exact ig h1 (i2 h2)
theorem ky {s0:St} {e:Ent} (he:e.g.val=true):∀ {l:List Ent},Non l->Got s0 (xq s0 e l) e.x e.s
 | [],_=>⟨e,bN he rfl,rfl,.refl _⟩
 | a :: l,h=>by
  obtain ⟨h1,h2⟩:=cK h
  simp only [xq,G.on_eq]
  split
  .rename_i hx
   split
   .rename_i s hs
    rw [he] at hs
    exact ⟨_,bN (by simp [he]) h2,rfl,.left hs (.refl _)⟩
   .obtain ⟨f',q1,q2,q3⟩:=ky (s0:=s0) he h2
    exact ⟨f',aT h1 q1,q2,q3⟩
  .obtain ⟨f',q1,q2,q3⟩:=ky (s0:=s0) he h2
   exact ⟨f',aT h1 q1,q2,q3⟩
theorem sI {s0:St} {e:Ent} (he:e.g.val=false) {l:List Ent} {x:Ex} {s:St} (h:Got s0 l x s):Got s0 (xq s0 e l) x s:=by
 obtain ⟨f,h1,h2,h3⟩:=h
 obtain ⟨f',q1,q2,q3⟩:=(iN (s0:=s0) he).1 f h1
 exact ⟨f',q1,q2.trans h2,h3.trans q3⟩
theorem mW {s0:St} {g:G} (hg:g.val=false):∀ {m l:List Ent},(∀ x s,Got s0 l x s->Got s0 (mg s0 g m l) x s)/\(Non l->Non (mg s0 g m l))
 | [],_=>⟨fun _ _ h=>h,fun h=>h⟩
 | e :: m,l=>by
  obtain ⟨i1,i2⟩:=mW (s0:=s0) hg (m:=m) (l:=l)
  simp only [mg]
  exact ⟨fun x s h=>sI (by simp [hg]) (i1 x s h),fun h=>(iN (by simp [hg])).2 (i2 h)⟩
theorem xX {s0:St} {g:G}:∀ {m l:List Ent},Non m->Non l->Non (mg s0 g m l)
 | [],_,_,h=>h
 | e :: m,l,hm,h=>by
  obtain ⟨h1,h2⟩:=cK hm
  simp only [mg]
  exact (iN (by simp [h1])).2 (xX h2 h)
theorem sJ {s0:St} {g:G} (hg:g.val=true):∀ {m l:List Ent} {e:Ent},One m e->Non l->Got s0 (mg s0 g m l) e.x e.s
 | [],_,_,h,_=>by simp [One] at h
 | a :: m,l,e,hm,h=>by
  simp only [mg]
  rcases aX hm with ⟨h1,rfl,h3⟩|⟨h1,h2⟩
  .exact ky (by simp [hg,h1]) (xX h3 h)
  .exact sI (by simp [h1]) (sJ hg h2 h)
theorem mX {s0:St} {p:Bool} {e:Ent}:∀ {l:List Ent} {r:Ent} {l':List Ent},zX s0 p e l=some (r,l')->∃ l1 f l2 s,l=l1++f :: l2/\l'=l1++l2/\e.x=f.x/\jG s0 p e.s f.s=some s/\r=⟨G.ite p e.g f.g,e.x,s⟩
 | [],r,l',h=>by simp [zX] at h
 | f :: l,r,l',h=>by
  simp only [zX] at h
  split at h
  .rename_i hx
   split at h
   .rename_i s hs
    cases h
    exact ⟨[],f,l,s,rfl,rfl,Ag hx,hs,rfl⟩
   .split at h
    .cases h
    .rename_i r' l'' h'
     cases h
     obtain ⟨l1,g,l2,s,rfl,rfl,q1,q2,q3⟩:=mX h'
     exact ⟨f :: l1,g,l2,s,rfl,rfl,q1,q2,q3⟩
  .split at h
   .cases h
   .rename_i r' l'' h'
    cases h
    obtain ⟨l1,g,l2,s,rfl,rfl,q1,q2,q3⟩:=mX h'
    exact ⟨f :: l1,g,l2,s,rfl,rfl,q1,q2,q3⟩
theorem GX {l1 l2:List Ent} {f e:Ent} (h:One (l1++f :: l2) e):(f.g.val=true/\f=e/\Non (l1++l2))\/(f.g.val=false/\One (l1++l2) e):=by
 unfold One Non at *
 simp only [List.filter_append,List.filter_cons] at h ⊢
 cases hf:f.g.val with
 | false=>rw [hf] at h; exact .inr ⟨rfl,by simpa using h⟩
 | true=>
  rw [hf] at h
  left
  simp only [if_true] at h
  generalize h1:l1.filter (fun e=>e.g.val)=A at *
  generalize h2:l2.filter (fun e=>e.g.val)=B at *
  cases A with
  | nil=>simp at h; exact ⟨rfl,h.1,by simpa using h.2⟩
  | cons a A=>simp at h
theorem qR {s0:St}:∀ {l m:List Ent},(∀ e,One l e->Got s0 (nI s0 true l m) e.x e.s)/\(Non l->Non (nI s0 true l m))
 | [],m=>⟨fun e h=>by simp [One] at h,fun _=>by
  unfold Non
  simp only [nI]
  induction m with
  | nil=>rfl
  | cons a m ih=>simp⟩
 | a :: l,m=>by
  simp only [nI]
  split
  .rename_i r m' hm
   obtain ⟨l1,f,l2,s,rfl,rfl,q1,q2,rfl⟩:=mX hm
   obtain ⟨i1,i2⟩:=qR (s0:=s0) (l:=l) (m:=l1++l2)
   refine ⟨fun e h=>?_,fun h=>?_⟩
   .rcases aX h with ⟨h1,rfl,h3⟩|⟨h1,h2⟩
    .exact ⟨_,bN (by simp [h1]) (i2 h3),rfl,.left q2 (.refl _)⟩
    .obtain ⟨f',p1,p2,p3⟩:=i1 e h2
     exact ⟨f',aT (by simp [h1]) p1,p2,p3⟩
   .obtain ⟨h1,h2⟩:=cK h
    exact ig (by simp [h1]) (i2 h2)
  .obtain ⟨i1,i2⟩:=qR (s0:=s0) (l:=l) (m:=m)
   refine ⟨fun e h=>?_,fun h=>?_⟩
   .rcases aX h with ⟨h1,rfl,h3⟩|⟨h1,h2⟩
    .exact ⟨_,bN (by simp [h1]) (i2 h3),rfl,.refl _⟩
    .obtain ⟨f',p1,p2,p3⟩:=i1 e h2
     exact ⟨f',aT (by simp [h1]) p1,p2,p3⟩
   .obtain ⟨h1,h2⟩:=cK h
    exact ig (by simp [h1]) (i2 h2)
theorem oq {s0:St}:∀ {l m:List Ent},(∀ e,One m e->Got s0 (nI s0 false l m) e.x e.s)/\(Non m->Non (nI s0 false l m))
 | [],m=>⟨fun e h=>by
   simp only [nI]
   refine ⟨⟨e.g.and !false,e.x,e.s⟩,?_,rfl,.refl _⟩
   unfold One at *
   rw [List.filter_map]
   have:((fun e:Ent=>e.g.val) ∘ fun e:Ent=>(⟨e.g.and !false,e.x,e.s⟩:Ent))=fun e:Ent=>e.g.val:=by funext x; simp
   rw [this,h]; rfl,fun h=>by
   unfold Non at *
   simp only [nI]
   rw [List.filter_map]
   have:((fun e:Ent=>e.g.val) ∘ fun e:Ent=>(⟨e.g.and !false,e.x,e.s⟩:Ent))=fun e:Ent=>e.g.val:=by funext x; simp
   rw [this,h]; rfl⟩
 | a :: l,m=>by
  simp only [nI]
  split
  .rename_i r m' hm
   obtain ⟨l1,f,l2,s,rfl,rfl,q1,q2,rfl⟩:=mX hm
   obtain ⟨i1,i2⟩:=oq (s0:=s0) (l:=l) (m:=l1++l2)
   refine ⟨fun e h=>?_,fun h=>?_⟩
   .rcases GX h with ⟨h1,rfl,h3⟩|⟨h1,h2⟩
    .exact ⟨_,bN (by simp [h1]) (i2 h3),q1,.right q2 (.refl _)⟩
    .obtain ⟨f',p1,p2,p3⟩:=i1 e h2
     exact ⟨f',aT (by simp [h1]) p1,p2,p3⟩
   .have hf:f.g.val=false/\Non (l1++l2):=by
     unfold Non at *
     simp only [List.filter_append,List.filter_cons] at h ⊢
     cases hf:f.g.val with
     | true=>rw [hf] at h; simp at h
     | false=>rw [hf] at h; exact ⟨rfl,by simpa using h⟩
    exact ig (by simp [hf.1]) (i2 hf.2)
  .obtain ⟨i1,i2⟩:=oq (s0:=s0) (l:=l) (m:=m)
   refine ⟨fun e h=>?_,fun h=>?_⟩
   .obtain ⟨f',p1,p2,p3⟩:=i1 e h
    exact ⟨f',aT (by simp) p1,p2,p3⟩
   .exact ig (by simp) (i2 h)
def bG (Q:Ex->St->Prop) (q:R):Prop:=q.need->∃ e,One q.l e/\Q e.x e.s
def Closed (s0:St) (Q:Ex->St->Prop):Prop:=∀ x s s',Q x s->Via s0 s s'->Q x s'
theorem Closed.got {s0:St} {Q:Ex->St->Prop} (c:Closed s0 Q) {l:List Ent} {x:Ex} {s:St} (h:Q x s) (g:Got s0 l x s):∃ e,One l e/\Q e.x e.s:=by
 obtain ⟨e,h1,h2,h3⟩:=g
 exact ⟨e,h1,by rw [h2]; exact c x s e.s h h3⟩
theorem Ah {s0:St} {Q Q1:Ex->St->Prop} (c:Closed s0 Q) {f:St->Option R} (hf:∀ s q,f s=some q->Q1 .normal s->bG Q q) (hx:∀ x s,x≠.normal->Q1 x s->Q x s):
  ∀ {l:List Ent} {q:R},Sa s0 f l=some q->(Non l->Non q.l)/\(∀ e,One l e->Q1 e.x e.s->q.need->∃ e',One q.l e'/\Q e'.x e'.s)
 | [],q,h=>by cases h; exact ⟨fun _=>rfl,fun e he=>by simp [One] at he⟩
 | a :: l,q,h=>by
  simp only [Sa] at h
  split at h
  .cases h
  .rename_i r hr
   obtain ⟨i1,i2⟩:=Ah c hf hx hr
   split at h
   .rename_i hax
    split at h
    .cases h
    .rename_i q' hq'
     cases h
     refine ⟨fun hn=>?_,fun e he hQ hnd=>?_⟩
     .obtain ⟨h1,h2⟩:=cK hn
      exact (mW h1).2 (i1 h2)
     .rcases aX he with ⟨h1,rfl,h3⟩|⟨h1,h2⟩
      .rw [hax] at hQ
       obtain ⟨e',q1,q2⟩:=hf _ _ hq' hQ (Nd.iv (g:=a.g.val=true) (by have:=Nd.lv hnd; rw [G.on_eq] at this; exact this) h1)
       exact c.got q2 (sJ h1 q1 (i1 h3))
      .obtain ⟨e',q1,q2⟩:=i2 e h2 hQ (Nd.rv hnd)
       exact c.got q2 ((mW h1).1 _ _ ⟨e',q1,rfl,.refl _⟩)
   .rename_i hax
    cases h
    refine ⟨fun hn=>?_,fun e he hQ hnd=>?_⟩
    .obtain ⟨h1,h2⟩:=cK hn
     exact (iN h1).2 (i1 h2)
    .rcases aX he with ⟨h1,rfl,h3⟩|⟨h1,h2⟩
     .exact c.got (hx _ _ (fun h=>hax h) hQ) (ky h1 (i1 h3))
     .obtain ⟨e',q1,q2⟩:=i2 e h2 hQ hnd
      exact c.got q2 (sI h1 ⟨e',q1,rfl,.refl _⟩)
theorem pQ {Q:Ex->St->Prop} {nd:Nd} {l:List Ent} (h:bG Q ⟨nd,l⟩):bG Q ⟨nd,rQ l⟩:=fun hn=>by
 obtain ⟨e,h1,h2⟩:=h hn
 unfold rQ
 split
 .rename_i f
  rcases aX h1 with ⟨_,rfl,_⟩|⟨_,h3⟩
  .exact ⟨⟨.tt,f.x,f.s⟩,rfl,h2⟩
  .simp [One] at h3
 .exact ⟨e,h1,h2⟩
theorem iO {s0:St} {Q Q1:Ex->St->Prop} (c:Closed s0 Q) {f:St->Option R} (hf:∀ s q,f s=some q->Q1 .normal s->bG Q q) (hx:∀ x s,x≠.normal->Q1 x s->Q x s)
  {r:Option R} {q:R} (e:nO s0 r f=some q) (h:∀ r',r=some r'->bG Q1 r'):bG Q q:=by
 unfold nO at e
 split at e
 .cases e
 .rename_i nd s
  split at e
  .cases e
  .rename_i q' hq'
   cases e
   intro hn
   obtain ⟨e',h1,h2⟩:=h _ rfl (Nd.lv hn)
   rcases aX h1 with ⟨_,rfl,_⟩|⟨_,h3⟩
   .obtain ⟨e2,p1,p2⟩:=hf _ q' hq' h2 (Nd.rv hn)
    exact ⟨e2,p1,p2⟩
   .simp [One] at h3
 .rename_i nd l _
  split at e
  .cases e
  .rename_i q' hq'
   cases e
   refine pQ (fun hn=>?_)
   obtain ⟨e',h1,h2⟩:=h _ rfl (Nd.lv hn)
   exact (Ah c hf hx hq').2 e' h1 h2 (Nd.rv hn)
theorem qU {s0:St} {Q:Ex->St->Prop} (c:Closed s0 Q) {p:Bool} {a b:R} (ha:p=true->bG Q a) (hb:p=false->bG Q b):bG Q (DV s0 p a b):=by
 unfold DV
 refine pQ (fun hn=>?_)
 cases p with
 | true=>
  obtain ⟨e,h1,h2⟩:=ha rfl (Nd.iv (Nd.lv hn) rfl)
  exact c.got h2 (qR.1 e h1)
 | false=>
  obtain ⟨e,h1,h2⟩:=hb rfl (Nd.iv (Nd.rv hn) rfl)
  exact c.got h2 (oq.1 e h1)
end Go.Eng
