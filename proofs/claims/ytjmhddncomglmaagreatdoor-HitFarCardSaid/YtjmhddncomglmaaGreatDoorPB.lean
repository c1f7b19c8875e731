/- What is proved: a law of hits returns true, whatever the input (part 2). No conditions beyond those of the row. -/
import Derived.Test.YtjmhddncomglmaaGreatDoorPA
set_option linter.unusedVariables false
set_option linter.unusedSimpArgs false
set_option linter.unusedSectionVars false
namespace Go.Eng
theorem putCells_spec {σ:Sg}:∀ (l:List AV) (off:Nat) (vs l':List AV) {L Vs:List Value},VRels σ l L->VRels σ vs Vs->putCells l off vs=some l' ->
  VRels σ l' (L.take off++Vs++L.drop (off+Vs.length))/\off+Vs.length<=L.length
 | l,0,[],l',L,Vs,h,hv,e=>by
  rw [show Vs=[] from hv]
  unfold putCells at e
  cases e
  simpa using h
 | [],0,v :: vs,l',L,Vs,h,hv,e=>by simp [putCells] at e
 | a :: l,0,v :: vs,l',L,Vs,⟨u,us,e1,h1,h2⟩,⟨w,ws,e2,h3,h4⟩,e=>by
  simp only [putCells] at e
  cases e3:putCells l 0 vs with
  | none=>rw [e3] at e; cases e
  | some r=>
   rw [e3] at e; cases e
   obtain ⟨h5,h6⟩:=putCells_spec l 0 vs r h2 h4 e3
   subst e1; subst e2
   simp only [Nat.zero_add,List.take_zero,List.nil_append,List.length_cons] at h5 h6 ⊢
   exact ⟨⟨w,_,rfl,h3,by simpa using h5⟩,by omega⟩
 | [],n+1,vs,l',L,Vs,h,hv,e=>by cases vs <;> simp [putCells] at e
 | a :: l,n+1,vs,l',L,Vs,⟨u,us,e1,h1,h2⟩,hv,e=>by
  simp only [putCells] at e
  cases e3:putCells l n vs with
  | none=>rw [e3] at e; cases vs <;> simp at e
  | some r=>
   rw [e3] at e
   obtain ⟨h5,h6⟩:=putCells_spec l n vs r h2 hv e3
   have e':l'=a :: r:=by cases vs <;> simpa using e.symm
   subst e'; subst e1
   refine ⟨⟨u,_,by simp [Nat.add_right_comm],h1,h5⟩,by simp; omega⟩
theorem HRel.row {σ:Sg} {h:Hp} {W:World} (r:HRel σ h W) {i B N:Nat} {b:ABlk} (hg:h.get i=some b) (hl:b.body.isDead=false) (hnl:∀ c,b.body≠.loop c) (hσ:σ i=some (B,N)) {K K':Array Value} {e:TypeId}
  (hB:W.heap[B]?=some (.cells K e (0,0))) (d:ABody) (hb:BRel σ N d (.cells K' e (0,0))) (hnv:b.body.isView=false:=by rfl):HRel σ (h.put i d) (W.setRow B K')/\Good σ h W σ (h.put i d) (W.setRow B K'):=
 r.write hg hl hσ d (loopKept_of hnl) _ (setRow_heap W B K K' e (0,0) hB) hb (setRow_size W B K') (fun k hk=>setRow_other W B k K' hk) rfl rfl rfl (hnv:=hnv)
theorem store_ok {P:Program} {σ:Sg} {h:Hp} {W:World} (r:HRel σ h W) {t:TypeId} {a v:AV} {A V:Value} (ha:VRel σ a A) (hv:VRel σ v V) {q:S1} (e:opStore P h t a v=some q):
  OpOk P (do Instr.storeAt t A V; pure .skip) σ h W q:=by
 intro hn
 unfold opStore storeV at e
 split at e
 .rename_i i off
  obtain ⟨B,N,hσ,rfl⟩:=ha
  split at e
  .rename_i w l hg
   split at e
   .cases e
   .rename_i n hsz
    simp only at e
    split at e
    .rename_i hc
     simp only [Bool.and_eq_true,decide_eq_true_eq] at hc
     split at e
     .cases e
     .rename_i l' hp
      rw [Hp.set_eq] at e
      cases e
      obtain ⟨B',N',o,h1,h2,K,el,rfl,h3,h4⟩:=r.blk i _ hg rfl
      rw [hσ] at h1; cases h1
      have hcs:=cells_rel hv hc.2
      obtain ⟨h5,h6⟩:=putCells_spec l off _ l' h3 hcs hp
      have hlen:V.cells.size=n:=by have:=VRels.length hcs; simp at this; omega
      have hst:=run_storeCells_at P B off el V.cells.toList 0 K W h2 (by simpa using h6) (allCell_one hcs hc.2)
      simp only [Nat.add_zero] at hst
      obtain ⟨h7,h8⟩:=r.row hg rfl (fun _ h=>by cases h) hσ (K':=(K.toList.take off++V.cells.toList++K.toList.drop (off+V.cells.toList.length)).toArray) h2 (.cells l') ⟨_,el,rfl,by simpa using h5,by
       subst h4; simp at h6 ⊢; omega⟩
      refine ⟨σ,undef,_,_,?_,.inr ⟨rfl,rfl⟩,⟨#[],rfl,rfl⟩,h7,h8⟩
      simp [Instr.storeAt,Instr.sureAddr,storeVar,run_sizeT hsz,hlen,hst]
    .cases e
  .rename_i w l hg
   split at e
   .cases e
   .rename_i n hsz
    simp only at e
    split at e
    .rename_i hc
     simp only [Bool.and_eq_true,decide_eq_true_eq] at hc
     split at e
     .cases e
     .rename_i l' hp
      rw [Hp.set_eq] at e
      cases e
      obtain ⟨B',N',o,h1,h2,K,el,X,Y,rfl,hXY,h3,h4⟩:=r.blk i _ hg rfl
      rw [hσ] at h1; cases h1
      have hcs:=cells_rel hv hc.2
      obtain ⟨h5,h6⟩:=putCells_spec l off _ l' h3 hcs hp
      have hlen:V.cells.size=n:=by have:=VRels.length hcs; simp at this; omega
      have hXK:X.length<=K.size:=by have:=congrArg List.length hXY; simp at this; omega
      have hst:=run_storeCells_at P B off el V.cells.toList 0 K W h2 (by simp at h6 ⊢; omega) (allCell_one hcs hc.2)
      simp only [Nat.add_zero] at hst
      obtain ⟨h7,h8⟩:=r.row hg rfl (fun _ h=>by cases h) hσ (K':=(K.toList.take off++V.cells.toList++K.toList.drop (off+V.cells.toList.length)).toArray) h2 (.grown l') ⟨_,el,X.take off++V.cells.toList++X.drop (off+V.cells.toList.length),Y,rfl,by
       simp only [hXY]
       rw [List.take_append_of_le_length (by omega),List.drop_append_of_le_length (by omega)]
       simp,h5,by
       subst h4; simp at h6 ⊢; omega⟩
      refine ⟨σ,undef,_,_,?_,.inr ⟨rfl,rfl⟩,⟨#[],rfl,rfl⟩,h7,h8⟩
      simp [Instr.storeAt,Instr.sureAddr,storeVar,run_sizeT hsz,hlen,hst]
    .cases e
  .rename_i w k xs hg
   split at e
   .rename_i s k' x
    obtain rfl:=hv
    split at e
    .rename_i hsz
     split at e
     .rename_i hk; subst hk
      rw [Hp.set_eq] at e
      cases e
      obtain ⟨B',N',o,h1,h2,K,el,Y,rfl,h3,h4⟩:=r.blk i _ hg rfl
      rw [hσ] at h1; cases h1
      have hn':off<xs.length:=hn
      have hXK:xs.length<=K.size:=by have:=congrArg List.length h3; simp at this; omega
      have hst:=run_storeCells_at P B off el [.int k x] 0 K W h2 (by simp; omega) (by simp [Value.oneCell'])
      simp only [Nat.add_zero] at hst
      obtain ⟨h7,h8⟩:=r.row hg rfl (fun _ h=>by cases h) hσ (K':=(K.toList.take off++[Value.int k x]++K.toList.drop (off+1)).toArray) h2 (.ints k (xs.set off x)) ⟨_,el,Y,rfl,by
       simp only [h3]
       rw [List.take_append_of_le_length (by simp; omega),List.drop_append_of_le_length (by simp; omega)]
       simp only [List.map_set,<- List.append_assoc]
       rw [List.set_eq_take_append_cons_drop,if_pos (by simpa using hn')]
       simp,by subst h4; simp; omega⟩
      refine ⟨σ,undef,_,_,?_,.inr ⟨rfl,rfl⟩,⟨#[],rfl,rfl⟩,h7,h8⟩
      have hst':(storeCells ⟨B,off,none⟩ (Value.int k x).cells.toList).run P W=.ok () (W.setRow B (K.toList.take off++[Value.int k x]++K.toList.drop (off+1)).toArray):=hst
      simp [Instr.storeAt,Instr.sureAddr,storeVar,run_sizeT hsz,Value.cells] at hst' ⊢
      simp [hst']
     .cases e
    .cases e
   .cases e
  .cases e
 .cases e
theorem fold_set (off:Nat):∀ (vs:List Value) (j:Nat) (cs:Array Value),off+j+vs.length<=cs.size ->
  (vs.zipIdx j).foldl (fun (cs:Array Value) (x:Value×Nat)=>cs.setIfInBounds (off+x.2) x.1) cs=(cs.toList.take (off+j)++vs++cs.toList.drop (off+j+vs.length)).toArray
 | [],j,cs,_=>by simp
 | v :: vs,j,cs,h=>by
  simp only [List.zipIdx_cons,List.foldl_cons]
  rw [fold_set off vs (j+1) (cs.setIfInBounds (off+j) v) (by simp at h ⊢; omega)]
  have e:=list_seg_step cs.toList (off+j) v vs (by simp at h ⊢; omega)
  congr 1
  simpa [Array.toList_setIfInBounds,Nat.add_assoc] using e
theorem fill_ok {σ:Sg} (place:Nat->Option (Nat×Nat)):∀ (parts:List (Nat×AV)) (Ps:List (Nat×Value)) (l l':List AV) (L:Array Value),
  Ps.map (·.1)=parts.map (·.1)->VRels σ (parts.map (·.2)) (Ps.map (·.2))->VRels σ l L.toList->fillParts place l parts=some l'->∃ L',Instr.fill place L Ps=some L'/\VRels σ l' L'.toList
 | [],Ps,l,l',L,hi,hv,hl,e=>by
  have:Ps=[]:=by simpa using hi
  subst this; cases e
  exact ⟨L,rfl,hl⟩
 | (i,v) :: parts,Ps,l,l',L,hi,hv,hl,e=>by
  cases Ps with
  | nil=>simp at hi
  | cons p Ps=>
   obtain ⟨i',V⟩:=p
   simp only [List.map_cons,List.cons.injEq] at hi
   obtain ⟨rfl,hi⟩:=hi
   obtain ⟨u,us,e1,h1,h2⟩:=hv
   simp only [List.map_cons,List.cons.injEq] at e1
   obtain ⟨rfl,rfl⟩:=e1
   simp only [fillParts] at e
   split at e
   .cases e
   .rename_i off n hp
    split at e
    .rename_i hc
     simp only [Bool.and_eq_true,decide_eq_true_eq] at hc
     split at e
     .cases e
     .rename_i l2 hput
      have hcs:=cells_rel h1 hc.2
      obtain ⟨h5,h6⟩:=putCells_spec l off _ l2 hl hcs hput
      have hlen:V.cells.size=n:=by have:=VRels.length hcs; simp at this; omega
      obtain ⟨L',h7,h8⟩:=fill_ok place parts Ps l2 l' (L.toList.take off++V.cells.toList++L.toList.drop (off+V.cells.toList.length)).toArray hi h2 (by simpa using h5) e
      refine ⟨L',?_,h8⟩
      simp only [Instr.fill,hp]
      rw [if_neg (by simp at h6 ⊢; omega)]
      rw [<- h7]
      congr 1
      have:=fold_set off V.cells.toList 0 L (by simpa using h6)
      simp only [Nat.add_zero] at this
      rw [<- this,<- Array.foldl_toList,Array.toList_zipIdx]
    .cases e
theorem evalParts_rel {C:Ctx} {σ:Sg} {s:St} {T:Array Value} (g:GRel C σ) (h:TRel σ s.tmps T):∀ l:List (Nat×Operand),
  (l.map fun (i,x)=>(i,ev T x)).map (·.1)=(evalParts C s l).map (·.1)/\VRels σ ((evalParts C s l).map (·.2)) ((l.map fun (i,x)=>(i,ev T x)).map (·.2))
 | []=>⟨rfl,rfl⟩
 | (i,x) :: l=>⟨by simp [evalParts,(evalParts_rel g h l).1],⟨_,_,rfl,evalA_rel g h x,by simpa using (evalParts_rel g h l).2⟩⟩
theorem placesT_spec {P:Program}:∀ {fs:List Field} {ps:List (Nat×Nat)},placesT P fs=some ps->fs.mapM (fun f=>(P.info? f.type).map fun i=>(f.offset,i.size))=some ps
 | [],ps,h=>by cases h; rfl
 | f :: fs,ps,h=>by
  simp only [placesT] at h
  split at h
  .cases h
  .rename_i n hn
   split at h
   .cases h
   .rename_i r hr
    cases h
    obtain ⟨i,hi,rfl⟩:=sizeT_spec hn
    simp [List.mapM_cons,hi,placesT_spec hr]
theorem build_ok {P:Program} {σ:Sg} {t:TypeId} {parts:List (Nat×AV)} {Ps:Array (Nat×Value)} (hi:Ps.toList.map (·.1)=parts.map (·.1)) (hv:VRels σ (parts.map (·.2)) (Ps.toList.map (·.2)))
  {v:AV} (e:buildV P t parts=some v) (W:World):∃ V,(Instr.build t Ps).run P W=.ok V W/\VRel σ v V:=by
 unfold buildV at e
 split at e
 .cases e
 .rename_i z hz
  obtain ⟨i,zv,hi',hz',h1,_⟩:=zeroCells_spec (σ:=σ) hz
  split at e
  .rename_i fs hu
   split at e
   .cases e
   .rename_i ps hps
    split at e
    .cases e
    .rename_i l hl
     cases e
     obtain ⟨L',h2,h3⟩:=fill_ok (nth ps) parts Ps.toList z l zv.cells hi hv h1 hl
     refine ⟨.agg L',?_,L',rfl,h3⟩
     apply run_build
     unfold Program.built
     rw [hi',hu]
     simp only [hz',placesT_spec hps]
     rw [<- h2]
     congr 1
     funext j
     simp [nth_eq]
  .rename_i n el hu
   split at e
   .cases e
   .rename_i m hm
    split at e
    .cases e
    .rename_i l hl
     cases e
     obtain ⟨L',h2,h3⟩:=fill_ok _ parts Ps.toList z l zv.cells hi hv h1 hl
     obtain ⟨ie,hie,rfl⟩:=sizeT_spec hm
     refine ⟨.agg L',?_,L',rfl,h3⟩
     apply run_build
     unfold Program.built
     rw [hi',hu]
     simp only [hz',hie]
     exact h2
  .cases e
theorem repA_get {α:Type} (l:List α):∀ (k i:Nat),(repA l k)[i]?=if i<k*l.length then l[i % l.length]? else none
 | 0,i=>by simp [repA]
 | k+1,i=>by
  simp only [repA]
  by_cases h:i<l.length
  .rw [List.getElem?_append_left h,if_pos (by rw [Nat.add_mul]; omega),Nat.mod_eq_of_lt h]
  .rw [List.getElem?_append_right (by omega),repA_get l k]
   by_cases hl:l.length=0
   .simp [hl]
   .have:(i - l.length) % l.length=i % l.length:=by
     conv=>rhs; rw [show i=(i - l.length)+l.length by omega]
     simp
    rw [this]
    by_cases h2:i - l.length<k*l.length
    .rw [if_pos h2,if_pos (by rw [Nat.add_mul]; omega)]
    .rw [if_neg h2,if_neg (by rw [Nat.add_mul]; omega)]
theorem range_zero (z:Array Value) (k:Nat):((Array.range (k*z.size)).map (fun i=>z[i % z.size]!)).toList=repA z.toList k:=by
 apply List.ext_getElem?
 intro i
 rw [repA_get]
 simp only [Array.toList_map,Array.toList_range,List.getElem?_map,Array.length_toList]
 by_cases h:i<k*z.size
 .rw [List.getElem?_range h,if_pos h]
  have hz:0<z.size:=by
   rcases Nat.eq_zero_or_pos z.size with h0|h0
   .rw [h0] at h; simp at h
   .exact h0
  have hm:i % z.size<z.size:=Nat.mod_lt _ hz
  simp [hm]
 .rw [if_neg h]
  simp
  omega
theorem VRels.rep {σ:Sg} {l:List AV} {L:List Value} (h:VRels σ l L):∀ k,VRels σ (repA l k) (repA L k)
 | 0=>rfl
 | k+1=>VRels.append h (VRels.rep h k)
theorem buildSlice_ok {P:Program} {σ:Sg} {h:Hp} {W:World} (r:HRel σ h W) {t:TypeId} {len:Nat} {parts:List (Nat×AV)} {Ps:Array (Nat×Value)} (hi:Ps.toList.map (·.1)=parts.map (·.1))
  (hv:VRels σ (parts.map (·.2)) (Ps.toList.map (·.2))) {q:S1} (e:opBuildSlice P h t len parts=some q):OpOk P (do pure (.value (<- Instr.buildSlice t len Ps))) σ h W q:=by
 unfold opBuildSlice at e
 split at e
 .rename_i el hu
  split at e
  .cases e
  .rename_i n hn
   split at e
   .cases e
   .rename_i z hz
    split at e
    .cases e
    .rename_i hc
     simp only [Bool.and_eq_true,Nat.ble_eq,Nat.beq_eq] at hc
     split at e
     .cases e
     .rename_i l hl
      cases e
      obtain ⟨i,zv,hi',hz',h1,_⟩:=zeroCells_spec (σ:=σ) hz
      have hzs:zv.cells.size=n:=by have:=VRels.length h1; simp at this; omega
      obtain ⟨L',h2,h3⟩:=fill_ok _ parts Ps.toList (repA z len) l ((Array.range (len*zv.cells.size)).map (fun i=>zv.cells[i % zv.cells.size]!)) hi hv (by rw [range_zero]; exact VRels.rep h1 len) hl
      refine alloc_ok r el h3 _ _ (.slice (some ⟨W.heap.size,0,none⟩) len len) ?_ ⟨W.heap.size,L'.size,add_here,rfl⟩
      have hb:¬ (16777216<len*n):=by omega
      by_cases h0:len*n=0
      .have h2':Instr.fill (fun i=>some (i*n,n)) #[] Ps.toList=some L':=by
        rw [<- h2,hzs,h0,Array.range_zero']; simp
       simp [Instr.buildSlice,run_underlying hu,run_sizeT hn,h0,Array.range_zero',h2',newRow]
      .have h2':Instr.fill (fun i=>some (i*n,n)) ((Array.range (len*n)).map (fun i=>zv.cells[i % zv.cells.size]!)) Ps.toList=some L':=by
        rw [<- h2,hzs]
       simp [Instr.buildSlice,run_underlying hu,run_sizeT hn,hb,h0,run_zero hi' hz',h2',newRow]
 .cases e
end Go.Eng
namespace Go.Eng
theorem eqCells_append:∀ (k1 k2:List LK) (l m:List AV) (s p:Bool),eqCells (k1++k2) l m=some (s,p) ->
  ∃ l1 l2 m1 m2 s1 p1 s2 p2,l=l1++l2/\m=m1++m2/\l1.length=k1.length/\m1.length=k1.length/\eqCells k1 l1 m1=some (s1,p1)/\eqCells k2 l2 m2=some (s2,p2)/\p=(p1&&p2)
 | [],k2,l,m,s,p,h=>⟨[],l,[],m,false,true,s,p,rfl,rfl,rfl,rfl,rfl,h,by simp⟩
 | k :: k1,k2,l,m,s,p,h=>by
  cases l with
  | nil=>simp [eqCells] at h
  | cons a l=>
   cases m with
   | nil=>simp [eqCells] at h
   | cons b m=>
    simp only [List.cons_append,eqCells] at h
    split at h
    .cases h
    .rename_i sa pa ha
     split at h
     .cases h
     .rename_i sb pb hb
      cases h
      obtain ⟨l1,l2,m1,m2,s1,p1,s2,p2,rfl,rfl,h1,h2,h3,h4,rfl⟩:=eqCells_append k1 k2 l m sb pb hb
      exact ⟨a :: l1,l2,b :: m1,m2,sa||s1,pa&&p1,s2,p2,rfl,rfl,by simp [h1],by simp [h2],by simp [eqCells,ha,h3],h4,by simp [Bool.and_assoc]⟩
theorem eqCells_len:∀ (ks:List LK) (l m:List AV) (s p:Bool),eqCells ks l m=some (s,p)->l.length=ks.length/\m.length=ks.length
 | [],[],[],_,_,_=>⟨rfl,rfl⟩
 | k :: ks,a :: l,b :: m,s,p,h=>by
  simp only [eqCells] at h
  split at h
  .cases h
  .split at h
   .cases h
   .rename_i sb pb hb
    have:=eqCells_len ks l m sb pb hb
    simp [this.1,this.2]
 | [],[],_ :: _,_,_,h=>by simp [eqCells] at h
 | [],_ :: _,_,_,_,h=>by simp [eqCells] at h
 | _ :: _,[],_,_,_,h=>by simp [eqCells] at h
 | _ :: _,_ :: _,[],_,_,h=>by simp [eqCells] at h
def IsV (P:Program) (t:TypeId) (L:List Value) (X:Value):Prop:=(isAggT P t=some true/\X=.agg L.toArray)\/(isAggT P t=some false/\L=[X])
theorem sized_some {P:Program} {t:TypeId} {l ks:List LK} (h:sized P t l=some ks):ks=l/\sizeT P t=some ks.length:=by
 unfold sized at h
 split at h
 .cases h
 .rename_i n hn
  split at h
  .rename_i hb; cases h
   exact ⟨rfl,by rw [hn,Nat.eq_of_beq_eq_true hb]⟩
  .cases h
theorem flatT_size {P:Program} {d:Nat} {t:TypeId} {ks:List LK} (h:flatT P d t=some ks):sizeT P t=some ks.length/\(isAggT P t=some true\/(isAggT P t=some false/\ks.length=1)):=by
 cases d with
 | zero=>cases h
 | succ d=>
  simp only [flatT] at h
  split at h
  .rename_i hu
   obtain ⟨rfl,hs⟩:=sized_some h
   exact ⟨hs,.inr ⟨by unfold isAggT; rw [hu],rfl⟩⟩
  .rename_i k hu
   obtain ⟨rfl,hs⟩:=sized_some h
   exact ⟨hs,.inr ⟨by unfold isAggT; rw [hu],rfl⟩⟩
  .rename_i hu
   obtain ⟨rfl,hs⟩:=sized_some h
   exact ⟨hs,.inr ⟨by unfold isAggT; rw [hu],rfl⟩⟩
  .rename_i fs hu
   split at h
   .cases h
   .split at h
    .cases h
    .obtain ⟨rfl,hs⟩:=sized_some h
     exact ⟨hs,.inl (by unfold isAggT; rw [hu])⟩
  .rename_i n e hu
   split at h
   .cases h
   .obtain ⟨rfl,hs⟩:=sized_some h
    exact ⟨hs,.inl (by unfold isAggT; rw [hu])⟩
  .cases h
theorem part_isV {P:Program} {d:Nat} {t:TypeId} {ks:List LK} (h:flatT P d t=some ks) (L:List Value) (off:Nat) (hl:off+ks.length<=L.length) (W:World):
  ∃ X,(part t L.toArray off).run P W=.ok X W/\IsV P t ((L.drop off).take ks.length) X:=by
 obtain ⟨hs,hk⟩:=flatT_size h
 rcases hk with ha|⟨ha,h1⟩
 .refine ⟨.agg (L.toArray.extract off (off+ks.length)),by simp [part,run_isAggT ha,run_sizeT hs],.inl ⟨ha,?_⟩⟩
  congr 1
  apply Array.toList_inj.1
  simp [List.extract]
 .have hlt:off<L.length:=by omega
  refine ⟨L[off],by simp [part,run_isAggT ha,hlt],.inr ⟨ha,?_⟩⟩
  rw [h1,List.drop_eq_getElem_cons hlt,List.take_succ_cons,List.take_zero]
theorem VRels.split {σ:Sg}:∀ (l m:List AV) {L:List Value},VRels σ (l++m) L->VRels σ l (L.take l.length)/\VRels σ m (L.drop l.length)
 | [],m,L,h=>⟨rfl,h⟩
 | a :: l,m,_,⟨v,vs,e,r,s⟩=>by
  obtain ⟨h1,h2⟩:=VRels.split l m s
  subst e
  exact ⟨⟨v,_,rfl,r,h1⟩,h2⟩
theorem flat_ok {P:Program} {σ:Sg}:∀ (d:Nat) (t:TypeId) (ks:List LK),flatT P d t=some ks->∀ (D:Nat),d<=D->∀ (l m:List AV) (L M:List Value) (X Y:Value) (s p:Bool),
  eqCells ks l m=some (s,p)->VRels σ l L->VRels σ m M->IsV P t L X->IsV P t M Y->∀ W,(Op.equalIn D t X Y).run P W=.ok p W
 | 0,_,_,h,_,_,_,_,_,_,_,_,_,_,_,_,_,_,_,_=>by cases h
 | d+1,t,ks,h,D,hD,l,m,L,M,X,Y,s,p,he,hl,hm,hX,hY,W=>by
  obtain ⟨D,rfl⟩:∃ E,D=E+1:=⟨D - 1,by omega⟩
  have hsz:=flatT_size h
  simp only [flatT] at h
  have leaf:∀ k:LK,ks=[k]->isAggT P t=some false->∃ a b,l=[a]/\m=[b]/\VRel σ a X/\VRel σ b Y/\fitK k a b=some (s,p):=by
   intro k hk ha
   subst hk
   have hlen:=eqCells_len _ _ _ _ _ he
   obtain ⟨a,rfl⟩:∃ a,l=[a]:=List.length_eq_one_iff.1 hlen.1
   obtain ⟨b,rfl⟩:∃ b,m=[b]:=List.length_eq_one_iff.1 hlen.2
   refine ⟨a,b,rfl,rfl,?_,?_,?_⟩
   .rcases hX with ⟨h1,_⟩|⟨_,rfl⟩
    .rw [ha] at h1; cases h1
    .obtain ⟨v,vs,e1,r1,_⟩:=hl; cases e1; exact r1
   .rcases hY with ⟨h1,_⟩|⟨_,rfl⟩
    .rw [ha] at h1; cases h1
    .obtain ⟨v,vs,e1,r1,_⟩:=hm; cases e1; exact r1
   .simp only [eqCells] at he
    split at he
    .cases he
    .rename_i s1 p1 h1
     simp at he
     rw [h1,he.1,he.2]
  split at h
  .rename_i hu
   obtain ⟨rfl,_⟩:=sized_some h
   obtain ⟨a,b,rfl,rfl,ra,rb,hf⟩:=leaf _ rfl (by unfold isAggT; rw [hu])
   simp only [fitK] at hf
   split at hf
   .cases hf
    obtain rfl:=ra; obtain rfl:=rb
    exact run_equalIn_bool W D t _ _ hu
   .cases hf
  .rename_i k hu
   obtain ⟨rfl,_⟩:=sized_some h
   obtain ⟨a,b,rfl,rfl,ra,rb,hf⟩:=leaf _ rfl (by unfold isAggT; rw [hu])
   simp only [fitK] at hf
   split at hf
   .split at hf
    .rename_i hk
     obtain ⟨rfl,rfl⟩:=hk
     cases hf
     obtain rfl:=ra; obtain rfl:=rb
     exact run_equalIn_int W D t _ _ _ _ hu
    .cases hf
   .cases hf
  .rename_i hu
   obtain ⟨rfl,_⟩:=sized_some h
   obtain ⟨a,b,rfl,rfl,ra,rb,hf⟩:=leaf _ rfl (by unfold isAggT; rw [hu])
   simp only [fitK] at hf
   split at hf
   .cases hf
    obtain rfl:=ra; obtain rfl:=rb
    rw [run_equalIn_string W D t _ _ hu,eqBytes_eq,beq_toListBytes]
   .cases hf
  .rename_i fs hu
   split at h
   .cases h
   .rename_i hst
    split at h
    .cases h
    .rename_i l' hfs
     obtain ⟨rfl,_⟩:=sized_some h
     have hagg:isAggT P t=some true:=by unfold isAggT; rw [hu]
     obtain rfl:X=.agg L.toArray:=by
      rcases hX with ⟨_,e⟩|⟨e,_⟩
      .exact e
      .rw [hagg] at e; cases e
     obtain rfl:Y=.agg M.toArray:=by
      rcases hY with ⟨_,e⟩|⟨e,_⟩
      .exact e
      .rw [hagg] at e; cases e
     have hF:P.fieldsOf t=fs:=by unfold Program.fieldsOf; rw [hu]
     rw [run_equalIn_struct W D t _ _ (by rw [hF]; exact hu) hst,hF]
     have key:∀ (gs:List Field) (off:Nat) (ks:List LK),flatFs (flatT P d) off gs=some ks->∀ (l m:List AV) (s p:Bool),eqCells ks l m=some (s,p)->VRels σ l (L.drop off)->VRels σ m (M.drop off) ->
       (Op.eqFields D L.toArray M.toArray gs).run P W=.ok p W:=by
      intro gs
      induction gs with
      | nil=>
       intro off ks hk l m s p he _ _
       cases hk
       cases l <;> cases m <;> simp [eqCells] at he
       simp [Op.eqFields,he]
      | cons f gs ih=>
       intro off ks hk l m s p he hl hm
       simp only [flatFs] at hk
       split at hk
       .cases hk
       .rename_i hname
        split at hk
        .cases hk
        .rename_i hoff
         split at hk
         .cases hk
         .rename_i k1 hk1
          split at hk
          .cases hk
          .rename_i k2 hk2
           cases hk
           obtain rfl:=Nat.eq_of_beq_eq_true hoff
           obtain ⟨l1,l2,m1,m2,s1,p1,s2,p2,rfl,rfl,n1,n2,e1,e2,rfl⟩:=eqCells_append k1 k2 l m s p he
           obtain ⟨a1,a2⟩:=VRels.split l1 l2 hl
           obtain ⟨b1,b2⟩:=VRels.split m1 m2 hm
           have lenL:=VRels.length a1
           have lenM:=VRels.length b1
           simp only [List.length_take,List.length_drop] at lenL lenM
           by_cases hz:k1.length=0
           .-- a field without cells
            obtain rfl:k1=[]:=List.length_eq_zero_iff.1 hz
            obtain rfl:l1=[]:=List.length_eq_zero_iff.1 n1
            obtain rfl:m1=[]:=List.length_eq_zero_iff.1 n2
            simp [eqCells] at e1
            obtain ⟨rfl,rfl⟩:=e1
            have hag:isAggT P f.type=some true:=by
             rcases (flatT_size hk1).2 with h1|⟨_,h1⟩
             .exact h1
             .simp at h1
            have hs0:=(flatT_size hk1).1
            have hp1:(part f.type L.toArray f.offset).run P W=.ok (.agg #[]) W:=by
             simp [part,run_isAggT hag,run_sizeT hs0]
            have hp2:(part f.type M.toArray f.offset).run P W=.ok (.agg #[]) W:=by
             simp [part,run_isAggT hag,run_sizeT hs0]
            have hq:=flat_ok (σ:=σ) d f.type [] hk1 D (by omega) [] [] [] [] (.agg #[]) (.agg #[]) false true rfl rfl rfl (.inl ⟨hag,rfl⟩) (.inl ⟨hag,rfl⟩) W
            have hr:=ih f.offset k2 (by simpa using hk2) l2 m2 s2 p2 e2 (by simpa using a2) (by simpa using b2)
            have hne:f.name≠"_" :=by simpa using hname
            simp [Op.eqFields,hne,hp1,hp2,hq,hr]
           .obtain ⟨X1,x1,x2⟩:=part_isV hk1 L f.offset (by omega) W
            obtain ⟨Y1,y1,y2⟩:=part_isV hk1 M f.offset (by omega) W
            have hq:=flat_ok (σ:=σ) d f.type k1 hk1 D (by omega) l1 m1 _ _ X1 Y1 s1 p1 e1 (by rw [<- n1]; exact a1) (by rw [<- n2]; exact b1) x2 y2 W
            have hr:=ih (f.offset+k1.length) k2 hk2 l2 m2 s2 p2 e2 (by rw [<- n1,<- List.drop_drop]; exact a2) (by rw [<- n2,<- List.drop_drop]; exact b2)
            have hne:f.name≠"_" :=by simpa using hname
            cases p1 <;> simp [Op.eqFields,hne,x1,y1,hq,hr]
     exact key fs.toList 0 _ hfs l m s p he (by simpa using hl) (by simpa using hm)
  .rename_i n e hu
   split at h
   .cases h
   .rename_i k1 hk1
    obtain ⟨rfl,_⟩:=sized_some h
    have hagg:isAggT P t=some true:=by unfold isAggT; rw [hu]
    obtain rfl:X=.agg L.toArray:=by
     rcases hX with ⟨_,e⟩|⟨e,_⟩
     .exact e
     .rw [hagg] at e; cases e
    obtain rfl:Y=.agg M.toArray:=by
     rcases hY with ⟨_,e⟩|⟨e,_⟩
     .exact e
     .rw [hagg] at e; cases e
    obtain ⟨i,hi,hsi⟩:=sizeT_spec (flatT_size hk1).1
    have hc:P.cellsOf e=k1.length:=by simp [Program.cellsOf,hi,hsi]
    rw [run_equalIn_array W D _ _ hu hi,hc]
    have key:∀ (k j:Nat) (l m:List AV) (s p:Bool),eqCells (repA k1 k) l m=some (s,p)->VRels σ l (L.drop (j*k1.length))->VRels σ m (M.drop (j*k1.length)) ->
      (Op.eqItems D e k1.length L.toArray M.toArray (List.range' j k)).run P W=.ok p W:=by
     intro k
     induction k with
     | zero=>
      intro j l m s p he _ _
      cases l <;> cases m <;> simp [eqCells,repA] at he
      simp [Op.eqItems,he]
     | succ k ih=>
      intro j l m s p he hl hm
      simp only [repA] at he
      obtain ⟨l1,l2,m1,m2,s1,p1,s2,p2,rfl,rfl,n1,n2,e1,e2,rfl⟩:=eqCells_append k1 _ l m s p he
      obtain ⟨a1,a2⟩:=VRels.split l1 l2 hl
      obtain ⟨b1,b2⟩:=VRels.split m1 m2 hm
      have lenL:=VRels.length a1
      have lenM:=VRels.length b1
      simp only [List.length_take,List.length_drop] at lenL lenM
      have hr:=ih (j+1) l2 m2 s2 p2 e2 (by rw [Nat.add_mul,Nat.one_mul,<- n1,<- List.drop_drop,n1]; rw [n1] at a2; exact a2) (by rw [Nat.add_mul,Nat.one_mul,<- n2,<- List.drop_drop,n2]; rw [n2] at b2; exact b2)
      by_cases hz:k1.length=0
      .obtain rfl:k1=[]:=List.length_eq_zero_iff.1 hz
       obtain rfl:l1=[]:=List.length_eq_zero_iff.1 n1
       obtain rfl:m1=[]:=List.length_eq_zero_iff.1 n2
       simp [eqCells] at e1
       obtain ⟨rfl,rfl⟩:=e1
       have hag:isAggT P e=some true:=by
        rcases (flatT_size hk1).2 with h1|⟨_,h1⟩
        .exact h1
        .simp at h1
       have hs0:=(flatT_size hk1).1
       have hp1:(part e L.toArray (j*0)).run P W=.ok (.agg #[]) W:=by
        simp [part,run_isAggT hag,run_sizeT hs0]
       have hp2:(part e M.toArray (j*0)).run P W=.ok (.agg #[]) W:=by
        simp [part,run_isAggT hag,run_sizeT hs0]
       have hq:=flat_ok (σ:=σ) d e [] hk1 D (by omega) [] [] [] [] (.agg #[]) (.agg #[]) false true rfl rfl rfl (.inl ⟨hag,rfl⟩) (.inl ⟨hag,rfl⟩) W
       simp only [List.range'_succ,Op.eqItems,List.length_nil,Sem.run_bind,hp1,hp2,hq,Result.andThen_ok]
       simpa using hr
      .obtain ⟨X1,x1,x2⟩:=part_isV hk1 L (j*k1.length) (by omega) W
       obtain ⟨Y1,y1,y2⟩:=part_isV hk1 M (j*k1.length) (by omega) W
       have hq:=flat_ok (σ:=σ) d e k1 hk1 D (by omega) l1 m1 _ _ X1 Y1 s1 p1 e1 (by rw [n1] at a1; exact a1) (by rw [n2] at b1; exact b1) x2 y2 W
       simp only [List.range'_succ,Op.eqItems,Sem.run_bind,x1,y1,hq,Result.andThen_ok]
       cases p1
       .simp
       .simpa using hr
    rw [List.range_eq_range']
    exact key n 0 l m s p he (by simpa using hl) (by simpa using hm)
  .cases h
theorem eq_by {P:Program} {t:TypeId} {A B:Value} {p:Bool} {W:World} (hE:∀ d,(Op.equalIn (d+1) t A B).run P W=.ok p W) (h1:binOp .eql t A B=(do pure (.bool (<- Op.equal t A B)))) (h2:binOp .neq t A B=(do pure (.bool (!(<- Op.equal t A B))))):
  (binOp .eql t A B).run P W=.ok (.bool p) W/\(binOp .neq t A B).run P W=.ok (.bool !p) W:=by
 have h3:(Op.equal t A B).run P W=.ok p W:=hE 9999
 rw [h1,h2]
 simp [h3]
def EqOk (P:Program) (t:TypeId) (A B:Value) (p:Bool) (x y:Operand) (W:World):Prop:=
 (eqGuard .eql t x y A B).run P W=.ok () W/\(eqGuard .neq t x y A B).run P W=.ok () W/\(binOp .eql t A B).run P W=.ok (.bool p) W/\(binOp .neq t A B).run P W=.ok (.bool !p) W
theorem eqPtr_ok {P:Program} {σ:Sg} {t el:TypeId} (hu:P.underlying t=some (.pointer el)) {a b:AV} {A B:Value} (ha:VRel σ a A) (hb:VRel σ b B) {s p:Bool} (e:eqPtr a b=some (s,p)) (x y:Operand) (W:World):EqOk P t A B p x y W:=by
 unfold eqPtr at e
 split at e <;> cases e
 .obtain rfl:=ha; obtain rfl:=hb
  exact ⟨rfl,rfl,eq_by (fun d=>by simp [Op.equalIn,run_underlying hu]) rfl rfl⟩
 .obtain rfl:=ha; obtain ⟨_,_,_,rfl⟩:=hb
  exact ⟨rfl,rfl,eq_by (fun d=>by simp [Op.equalIn,run_underlying hu]) rfl rfl⟩
 .obtain ⟨_,_,_,rfl⟩:=ha; obtain rfl:=hb
  exact ⟨rfl,rfl,eq_by (fun d=>by simp [Op.equalIn,run_underlying hu]) rfl rfl⟩
theorem eqSlice_ok {P:Program} {σ:Sg} {t el:TypeId} (hu:P.underlying t=some (.slice el)) {a b:AV} {A B:Value} (ha:VRel σ a A) (hb:VRel σ b B) {s p:Bool} (e:eqSlice a b=some (s,p)) (x y:Operand) (W:World):EqOk P t A B p x y W:=by
 unfold eqSlice at e
 split at e <;> cases e
 .obtain rfl:=ha; obtain rfl:=hb
  exact ⟨rfl,rfl,eq_by (fun d=>by simp [Op.equalIn,run_underlying hu]) rfl rfl⟩
 .obtain rfl:=ha; obtain ⟨_,_,_,rfl⟩:=hb
  exact ⟨rfl,rfl,eq_by (fun d=>by simp [Op.equalIn,run_underlying hu]) rfl rfl⟩
 .obtain ⟨_,_,_,rfl⟩:=ha; obtain rfl:=hb
  exact ⟨rfl,rfl,eq_by (fun d=>by simp [Op.equalIn,run_underlying hu]) rfl rfl⟩
 .obtain rfl:=ha; obtain ⟨_,_,_,_,_,rfl,_⟩:=hb
  exact ⟨rfl,rfl,eq_by (fun d=>by simp [Op.equalIn,run_underlying hu]) rfl rfl⟩
 .obtain ⟨_,_,_,_,_,rfl,_⟩:=ha; obtain rfl:=hb
  exact ⟨rfl,rfl,eq_by (fun d=>by simp [Op.equalIn,run_underlying hu]) rfl rfl⟩
 .obtain rfl:=ha; obtain ⟨a,_,rfl,rfl⟩:=hb
  cases a <;> exact ⟨rfl,rfl,eq_by (fun d=>by simp [Op.equalIn,run_underlying hu]) rfl rfl⟩
 .obtain ⟨a,_,rfl,rfl⟩:=ha; obtain rfl:=hb
  cases a <;> exact ⟨rfl,rfl,eq_by (fun d=>by simp [Op.equalIn,run_underlying hu]) rfl rfl⟩
 .obtain rfl:=ha; obtain ⟨p,len,c,rfl,_,h3,h4⟩:=hb
  rcases h4 with h4|⟨_,_,_,rfl⟩
  .omega
  .exact ⟨rfl,rfl,eq_by (fun d=>by simp [Op.equalIn,run_underlying hu]) rfl rfl⟩
 .obtain ⟨p,len,c,rfl,_,h3,h4⟩:=ha; obtain rfl:=hb
  rcases h4 with h4|⟨_,_,_,rfl⟩
  .omega
  .exact ⟨rfl,rfl,eq_by (fun d=>by simp [Op.equalIn,run_underlying hu]) rfl rfl⟩
theorem eqFunc_ok {P:Program} {σ:Sg} {t:TypeId} {ps rs:Array TypeId} {va:Bool} (hu:P.underlying t=some (.func ps rs va)) {a b:AV} {A B:Value} (ha:VRel σ a A) (hb:VRel σ b B) {s p:Bool} (e:eqFunc a b=some (s,p)) (x y:Operand) (W:World):EqOk P t A B p x y W:=by
 unfold eqFunc at e
 split at e <;> cases e
 .obtain rfl:=ha; obtain rfl:=hb
  exact ⟨rfl,rfl,eq_by (fun d=>by simp [Op.equalIn,run_underlying hu]) rfl rfl⟩
 .obtain rfl:=ha; obtain ⟨_,_,rfl,_⟩:=hb
  exact ⟨rfl,rfl,eq_by (fun d=>by simp [Op.equalIn,run_underlying hu]) rfl rfl⟩
 .obtain ⟨_,_,rfl,_⟩:=ha; obtain rfl:=hb
  exact ⟨rfl,rfl,eq_by (fun d=>by simp [Op.equalIn,run_underlying hu]) rfl rfl⟩
theorem eqIface_ok {P:Program} {σ:Sg} {t:TypeId} {ms:Array (String×TypeId)} (hu:P.underlying t=some (.interface ms)) {a b:AV} {A B:Value} (ha:VRel σ a A) (hb:VRel σ b B) {s p:Bool} (e:eqIface ms.isEmpty a b=some (s,p)) (x y:Operand) (W:World):EqOk P t A B p x y W:=by
 unfold eqIface at e
 split at e
 .cases hm:ms.isEmpty with
  | false=>rw [hm] at e; cases e
  | true=>
   rw [hm] at e; cases e
   obtain rfl:=ha; obtain rfl:=hb
   have g0:∀ d,(Op.eqGuardIn (d+1) t .nilIface .nilIface).run P W=.ok false W:=fun d=>by
    simp [Op.eqGuardIn,run_underlying hu,hm]
   have g:(Op.eqGuardIn Op.maxDepth t .nilIface .nilIface).run P W=.ok false W:=g0 9999
   have g2:∀ op,op=.eql\/op=.neq->(eqGuard op t x y .nilIface .nilIface).run P W=.ok () W:=by
    intro op ho
    rcases ho with rfl|rfl <;>
    .simp only [eqGuard]
     split
     .rfl
     .simp [g]
   refine ⟨g2 _ (.inl rfl),g2 _ (.inr rfl),eq_by (fun d=>by simp [Op.equalIn,run_underlying hu]) rfl rfl⟩
 .cases e
  obtain rfl:=ha; obtain ⟨_,rfl,_⟩:=hb
  exact ⟨rfl,rfl,eq_by (fun d=>by simp [Op.equalIn,run_underlying hu]) rfl rfl⟩
 .cases e
  obtain ⟨_,rfl,_⟩:=ha; obtain rfl:=hb
  exact ⟨rfl,rfl,eq_by (fun d=>by simp [Op.equalIn,run_underlying hu]) rfl rfl⟩
 .cases e
theorem eqAgg_ok {P:Program} {σ:Sg} {t:TypeId} (hag:isAggT P t=some true) {a b:AV} {A B:Value} (ha:VRel σ a A) (hb:VRel σ b B) {s p:Bool} (e:eqAgg P t a b=some (s,p)) (x y:Operand) (W:World):EqOk P t A B p x y W:=by
 unfold eqAgg at e
 split at e
 .split at e
  .cases e
  .rename_i hg
   split at e
   .cases e
   .rename_i ks hk
    obtain ⟨K,rfl,hK⟩:=ha
    obtain ⟨M,rfl,hM⟩:=hb
    have hq:=flat_ok (σ:=σ) 20 t ks hk 10000 (by omega) _ _ K.toList M.toList (.agg K) (.agg M) s p e hK hM (.inl ⟨hag,by simp⟩) (.inl ⟨hag,by simp⟩) W
    have hq':(Op.equal t (.agg K) (.agg M)).run P W=.ok p W:=hq
    refine ⟨run_eqGuard_agg W .eql t x y K M hg,run_eqGuard_agg W .neq t x y K M hg,?_,?_⟩
    .rw [run_eql_struct,hq]; rfl
    .have:binOp .neq t (.agg K) (.agg M)=(do pure (.bool (!(<- Op.equal t (.agg K) (.agg M))))):=rfl
     rw [this]
     simp [hq']
 .cases e
theorem eqV_ok {P:Program} {σ:Sg} {t:TypeId} {a b:AV} {A B:Value} (ha:VRel σ a A) (hb:VRel σ b B) {s p:Bool} (e:eqV P t a b=some (s,p)) (x y:Operand) (W:World):EqOk P t A B p x y W:=by
 unfold eqV at e
 split at e
 .rename_i hu
  simp only [fitK] at e
  split at e
  .cases e
   obtain rfl:=ha; obtain rfl:=hb
   exact ⟨rfl,rfl,run_eql_bool W t _ _ hu,run_neq_bool W t _ _ hu⟩
  .cases e
 .rename_i hu
  simp only [fitK] at e
  split at e
  .cases e
   obtain rfl:=ha; obtain rfl:=hb
   refine ⟨rfl,rfl,?_,?_⟩ <;> simp [binOp,Op.stringOp,eqBytes_eq,beq_toListBytes]
  .cases e
 .rename_i el hu; exact eqPtr_ok hu ha hb e x y W
 .rename_i el hu; exact eqSlice_ok hu ha hb e x y W
 .rename_i hu; exact eqFunc_ok hu ha hb e x y W
 .rename_i fs hu; exact eqAgg_ok (by unfold isAggT; rw [hu]) ha hb e x y W
 .rename_i n el hu; exact eqAgg_ok (by unfold isAggT; rw [hu]) ha hb e x y W
 .rename_i ms hu; exact eqIface_ok hu ha hb e x y W
 .cases e
def BinOk (P:Program) (σ:Sg) (op:BinOp) (t:TypeId) (x y:Operand) (A B:Value) (v:AV) (W:World):Prop:=
 ∃ V,(eqGuard op t x y A B).run P W=.ok () W/\(binOp op t A B).run P W=.ok V W/\VRel σ v V
theorem cmpV_ok {P:Program} {σ:Sg} {op:BinOp} {t:TypeId} {a b:AV} {A B:Value} (ha:VRel σ a A) (hb:VRel σ b B) {nd:Nd} {v:AV} (e:cmpV P op t a b=some (nd,v)) (x y:Operand) (W:World):BinOk P σ op t x y A B v W:=by
 unfold cmpV at e
 split at e
 .split at e
  .cases e
  .rename_i s p h; cases e
   obtain ⟨h1,h2,h3,h4⟩:=eqV_ok ha hb h x y W
   exact ⟨_,h1,h3,by simp⟩
 .split at e
  .cases e
  .rename_i s p h; cases e
   obtain ⟨h1,h2,h3,h4⟩:=eqV_ok ha hb h x y W
   exact ⟨_,h2,h4,by simp⟩
 .cases e
theorem binInt_ok {P:Program} {σ:Sg} {op:BinOp} {s:Bool} {k:IntKind} {m n:Int} {v:AV} (e:binInt op s k m n=some v) (t:TypeId) (x y:Operand) (W:World):BinOk P σ op t x y (.int k m) (.int k n) v W:=by
 unfold binInt at e
 split at e <;> first|cases e; done|skip
 all_goals
  cases e
  refine ⟨_,by simp [eqGuard_at_int],by simp [binOp,Op.intArith,Op.intBits,Op.intCmp]; rfl,by simp⟩
theorem shiftV_ok {P:Program} {σ:Sg} {op:BinOp} (hop:op=.shl\/op=.shr) {t:TypeId} {a b:AV} {A B:Value} (ha:VRel σ a A) (hb:VRel σ b B) {nd:Nd} {v:AV} (e:shiftV op a b=some (nd,v)) (hn:nd.val) (x y:Operand) (W:World):
  BinOk P σ op t x y A B v W:=by
 unfold shiftV at e
 split at e
 .rename_i s k m s' k' n
  obtain rfl:=ha; obtain rfl:=hb
  have main:∀ (s:Bool) (v:AV),0<=n->shiftInt op s k m (min n.toNat k.bits)=some v->BinOk P σ op t x y (.int k m) (.int k' n) v W:=by
   intro s v hnn h
   have hnn':¬ n<0:=by omega
   unfold shiftInt at h
   split at h
   .cases h; exact ⟨_,by simp [eqGuard_at_int],by simp [binOp,Op.shift,hnn']; rfl,by simp⟩
   .cases h; exact ⟨_,by simp [eqGuard_at_int],by simp [binOp,Op.shift,hnn']; rfl,by simp⟩
   .cases h
  split at e
  .split at e
   .cases e
   .rename_i hlt
    split at e
    .cases e
    .rename_i w hw; cases e
     exact main s v (by simpa using hlt) hw
  .split at e
   .cases e
   .rename_i w hw; cases e
    exact main true v hn hw
 .cases e
theorem divV_ok {P:Program} {σ:Sg} {op:BinOp} (hop:op=.quo\/op=.rem) {t:TypeId} {a b:AV} {A B:Value} (ha:VRel σ a A) (hb:VRel σ b B) {nd:Nd} {v:AV} (e:divV op a b=some (nd,v)) (hn:nd.val) (x y:Operand) (W:World):
  BinOk P σ op t x y A B v W:=by
 unfold divV at e
 split at e
 .rename_i s k m s' k' n
  obtain rfl:=ha; obtain rfl:=hb
  split at e
  .rename_i hk; subst hk
   have main:∀ (s:Bool) (v:AV),n≠0->divInt op s k m n=some v->BinOk P σ op t x y (.int k m) (.int k n) v W:=by
    intro s v hnn h
    unfold divInt at h
    split at h
    .cases h; exact ⟨_,by simp [eqGuard_at_int],by simp [binOp,Op.intDiv,hnn]; rfl,by simp⟩
    .cases h; exact ⟨_,by simp [eqGuard_at_int],by simp [binOp,Op.intDiv,hnn]; rfl,by simp⟩
    .cases h
   split at e
   .split at e
    .cases e
    .rename_i hz
     split at e
     .cases e
     .rename_i w hw; cases e
      exact main s v (by simpa using hz) hw
   .split at e
    .cases e
    .rename_i w hw; cases e
     exact main true v hn hw
  .cases e
 .cases e
theorem binV_ok {P:Program} {σ:Sg} {op:BinOp} {t:TypeId} {a b:AV} {A B:Value} (ha:VRel σ a A) (hb:VRel σ b B) {nd:Nd} {v:AV} (e:binV P op t a b=some (nd,v)) (hn:nd.val) (x y:Operand) (W:World):
  BinOk P σ op t x y A B v W:=by
 unfold binV at e
 split at e
 .exact shiftV_ok (.inl rfl) ha hb e hn x y W
 .exact shiftV_ok (.inr rfl) ha hb e hn x y W
 .exact divV_ok (.inl rfl) ha hb e hn x y W
 .exact divV_ok (.inr rfl) ha hb e hn x y W
 .unfold arithV at e
  split at e
  .rename_i s k m s' k' n
   obtain rfl:=ha; obtain rfl:=hb
   split at e
   .rename_i hk; subst hk
    split at e
    .cases e
    .rename_i w hw; cases e
     exact binInt_ok hw t x y W
   .cases e
  .exact cmpV_ok ha hb e x y W
theorem unV_ok {P:Program} {σ:Sg} {op:UnOp} {a v:AV} {A:Value} (ha:VRel σ a A) (e:unV op a=some v) (W:World):∃ V,(Op.unary op A).run P W=.ok V W/\VRel σ v V:=by
 unfold unV at e
 split at e
 .rename_i s k n
  obtain rfl:=ha
  split at e
  .cases e
   exact ⟨.int k (k.wrap (0 - n)),by simp [Op.unary,Op.intArith],by simp⟩
  .obtain ⟨V,_,h2,h3⟩:=binInt_ok (P:=P) (σ:=σ) e 0 (.const undef) (.const undef) W
   refine ⟨V,?_,h3⟩
   simp only [binOp] at h2
   simpa [Op.unary] using h2
  .cases e
 .rename_i s b
  obtain rfl:=ha
  split at e
  .cases e
   exact ⟨.bool !b,by simp [Op.unary],by simp⟩
  .cases e
 .cases e
theorem convV_ok {P:Program} {σ:Sg} {src dst:TypeId} {a v:AV} {A:Value} (ha:VRel σ a A) (e:convV P src dst a=some v) (W:World):∃ V,(convert src dst A).run P W=.ok V W/\VRel σ v V:=by
 unfold convV at e
 split at e
 .rename_i s k n
  obtain rfl:=ha
  split at e
  .cases e
  .rename_i d hd'
   split at e
   .rename_i k' hd
    cases e
    refine ⟨.int k' (k'.wrap n),?_,by simp⟩
    simp [convert,run_underlying hd',run_underlying hd,Conv.intToInt]
   .cases e
 .cases e
end Go.Eng
namespace Go.Eng
theorem add_lit (B o n:Nat):(⟨B,o,none⟩:Addr).add n=⟨B,o+n,none⟩:=by unfold Addr.add; split <;> simp_all
theorem bound_ok {len:Nat} {s:Bool} {i:Int} {nd:Nd} {j:Nat} (e:boundV len s i=some (nd,j)) (hn:nd.val):(0<=i/\i<len)/\j=i.toNat:=by
 unfold boundV at e
 split at e
 .split at e
  .rename_i h; cases e; exact ⟨h,rfl⟩
  .cases e
 .cases e; exact ⟨hn,rfl⟩
theorem indexAddr_ok {P:Program} {σ:Sg} {t:TypeId} {x ix v:AV} {X I:Value} (hx:VRel σ x X) (hi:VRel σ ix I) {nd:Nd} (e:indexAddrV P t x ix=some (nd,v)) (hn:nd.val) (W:World):
  ∃ V,(Instr.indexAt t X I).run P W=.ok V W/\VRel σ v V:=by
 unfold indexAddrV at e
 split at e
 .rename_i s k i
  obtain rfl:=hi
  split at e
  .rename_i len elem id off hu
   obtain ⟨B,N,hσ,rfl⟩:=hx
   split at e
   .rename_i n q j hsz hb
    have main:∀ nd',nd'=nd->q=nd->∃ V,(Instr.indexAt t (.pointer (some ⟨B,off,none⟩)) (.int k i)).run P W=.ok V W/\V=.pointer (some ⟨B,off+j*n,none⟩):=by
     intro _ _ hq
     subst hq
     obtain ⟨h1,rfl⟩:=bound_ok hb hn
     exact ⟨_,by simp [Instr.indexAt,asIntOf,run_underlying hu,Instr.sureAddr,h1.1,h1.2,run_sizeT hsz,add_lit]; rfl,by rfl⟩
    split at e <;> cases e
    .obtain ⟨V,h1,rfl⟩:=main _ rfl rfl
     exact ⟨_,h1,by simp only [addOff,forceNat_eq]; exact ⟨B,N,hσ,rfl⟩⟩
    .obtain ⟨V,h1,rfl⟩:=main _ rfl rfl
     exact ⟨_,h1,B,N,hσ,rfl⟩
   .cases e
  .rename_i elem id off len cap hu
   obtain ⟨B,N,hσ,rfl⟩:=hx
   split at e
   .rename_i n q j hsz hb
    have main:∀ nd',nd'=nd->q=nd->∃ V,(Instr.indexAt t (.slice (some ⟨B,off,none⟩) len cap) (.int k i)).run P W=.ok V W/\V=.pointer (some ⟨B,off+j*n,none⟩):=by
     intro _ _ hq
     subst hq
     obtain ⟨h1,rfl⟩:=bound_ok hb hn
     exact ⟨_,by simp [Instr.indexAt,asIntOf,run_underlying hu,h1.1,h1.2,run_sizeT hsz,add_lit]; rfl,by rfl⟩
    split at e <;> cases e
    .obtain ⟨V,h1,rfl⟩:=main _ rfl rfl
     exact ⟨_,h1,by simp only [addOff,forceNat_eq]; exact ⟨B,N,hσ,rfl⟩⟩
    .obtain ⟨V,h1,rfl⟩:=main _ rfl rfl
     exact ⟨_,h1,B,N,hσ,rfl⟩
   .cases e
  .rename_i elem id len hu
   obtain ⟨B,N,c,hσ,rfl⟩:=hx
   split at e
   .rename_i n q j hsz hb
    have main:∀ nd',nd'=nd->q=nd->∃ V,(Instr.indexAt t (.slice (some ⟨B,N,none⟩) len c) (.int k i)).run P W=.ok V W/\V=.pointer (some ⟨B,N+j*n,none⟩):=by
     intro _ _ hq
     subst hq
     obtain ⟨h1,rfl⟩:=bound_ok hb hn
     exact ⟨_,by simp [Instr.indexAt,asIntOf,run_underlying hu,h1.1,h1.2,run_sizeT hsz,add_lit]; rfl,by rfl⟩
    split at e <;> cases e
    .obtain ⟨V,h1,rfl⟩:=main _ rfl rfl
     exact ⟨_,h1,by simp only [forceNat_eq]; exact ⟨B,N,hσ,rfl⟩⟩
    .obtain ⟨V,h1,rfl⟩:=main _ rfl rfl
     exact ⟨_,h1,B,N,hσ,rfl⟩
   .cases e
  .rename_i elem id l sn n' hu
   obtain ⟨p,len,c,rfl,hn',hle,hp⟩:=hx
   split at e
   .split at e
    .rename_i n q j hsz hb
     cases e
     obtain ⟨h1,rfl⟩:=bound_ok hb hn
     have hl0:l≠0:=by omega
     rcases hp with hp|⟨B,N,hσ,rfl⟩
     .exact absurd hp hl0
     .have h2:i<(len:Int):=by omega
      exact ⟨.pointer (some ⟨B,N+i.toNat*n,none⟩),by simp [Instr.indexAt,asIntOf,run_underlying hu,h1.1,h2,run_sizeT hsz,add_lit],by simp only [forceNat_eq]; exact ⟨B,N,hσ,rfl⟩⟩
    .cases e
   .cases e
  .rename_i elem id off len ee hu
   obtain ⟨B,N,qo,c,hσ,rfl,hq,hc⟩:=hx
   split at e
   .rename_i n q j hsz hb
    split at e
    .rename_i hne; subst hne
     have main:∀ nd',nd'=nd->q=nd->∃ V,(Instr.indexAt t (.slice (some ⟨B,qo,none⟩) len c) (.int k i)).run P W=.ok V W/\V=.pointer (some ⟨B,off+j*n,none⟩):=by
      intro _ _ hq'
      subst hq'
      obtain ⟨h1,rfl⟩:=bound_ok hb hn
      obtain ⟨rfl,_⟩:=hq (by omega)
      exact ⟨_,by simp [Instr.indexAt,asIntOf,run_underlying hu,h1.1,h1.2,run_sizeT hsz,add_lit]; rfl,by rfl⟩
     split at e <;> cases e
     .obtain ⟨V,h1,rfl⟩:=main _ rfl rfl
      exact ⟨_,h1,by simp only [addOff,forceNat_eq]; exact ⟨B,N,hσ,rfl⟩⟩
     .obtain ⟨V,h1,rfl⟩:=main _ rfl rfl
      exact ⟨_,h1,B,N,hσ,rfl⟩
    .cases e
   .cases e
  .cases e
 .cases e
theorem index_ok {P:Program} {σ:Sg} {t:TypeId} {x ix v:AV} {X I:Value} (hx:VRel σ x X) (hi:VRel σ ix I) (e:indexV P t x ix=some v) (W:World):
  ∃ V,(Instr.index t X I).run P W=.ok V W/\VRel σ v V:=by
 unfold indexV at e
 split at e
 .rename_i k i cs
  obtain rfl:=hi
  obtain ⟨K,rfl,hK⟩:=hx
  split at e
  .rename_i len elem hu
   split at e
   .cases e
   .rename_i n hsz
    split at e
    .rename_i hb
     obtain ⟨V,h1,h2⟩:=part_ok (P:=P) hK e W
     have:K.toList.toArray=K:=by simp
     rw [this] at h1
     exact ⟨V,by simp [Instr.index,asIntOf,run_underlying hu,hb.1,hb.2,run_sizeT hsz,h1],h2⟩
    .cases e
  .cases e
 .rename_i k i b
  obtain rfl:=hi
  obtain rfl:=hx
  split at e
  .rename_i hu
   split at e
   .rename_i hb
    split at e
    .rename_i c hc
     cases e
     have hs:b[i.toNat]?=some c:=by
      have hl:i.toNat<b.size:=by
       rcases Nat.lt_or_ge i.toNat b.size with h|h
       .exact h
       .have:b.data.toList.length<=i.toNat:=h
        rw [List.getElem?_eq_none this] at hc; cases hc
      rw [getElem?_pos b i.toNat hl]
      have:b.data.toList[i.toNat]?=some b[i.toNat]:=by
       rw [List.getElem?_eq_getElem (by exact hl)]; rfl
      rw [this] at hc; exact hc
     exact ⟨.int .u8 c.toNat,by simp [Instr.index,asIntOf,run_underlying hu,hb,hs],rfl⟩
    .cases e
   .cases e
  .cases e
 .cases e
theorem field_ok {P:Program} {σ:Sg} {t:TypeId} {x v:AV} {X:Value} {f:Nat} (hx:VRel σ x X) (e:fieldV P t x f=some v) (W:World):
  ∃ V,(Instr.field t X f).run P W=.ok V W/\VRel σ v V:=by
 unfold fieldV at e
 split at e
 .rename_i fs cs hu
  obtain ⟨K,rfl,hK⟩:=hx
  split at e
  .cases e
  .rename_i fd hf
   obtain ⟨V,h1,h2⟩:=part_ok (P:=P) hK e W
   have:K.toList.toArray=K:=by simp
   rw [this] at h1
   exact ⟨V,by simp [Instr.field,run_underlying hu,hf,asAgg,h1],h2⟩
 .cases e
theorem fieldAddr_ok {P:Program} {σ:Sg} {t:TypeId} {x v:AV} {X:Value} {f:Nat} (hx:VRel σ x X) (e:fieldAddrV P t x f=some v) (W:World):
  ∃ V,(Instr.fieldAt t X f).run P W=.ok V W/\VRel σ v V:=by
 unfold fieldAddrV at e
 split at e
 .rename_i fs id off hu
  obtain ⟨B,N,hσ,rfl⟩:=hx
  split at e
  .cases e
  .rename_i fd hf
   split at e
   .rename_i m hsz
    cases e
    refine ⟨.pointer (some ⟨B,off+fd.offset,none⟩),by simp [Instr.fieldAt,run_underlying hu,hf,Instr.sureAddr,fieldPlace,run_sizeT hsz,add_lit],?_⟩
    simp only [addOff,forceNat_eq]; exact ⟨B,N,hσ,rfl⟩
   .cases e
 .cases e
theorem nilCheck_ok {P:Program} {σ:Sg} {h:Hp} {W:World} (r:HRel σ h W) {a:AV} {A:Value} (ha:VRel σ a A) {q:S1} (e:opNilCheck h a=some q) {T:Array Value} {x:Operand} (hx:ev T x=A) {o:Oper} (ho:o.op=.nilCheck x):
  OpOk P (execOp (ev T) o) σ h W q:=by
 unfold opNilCheck at e
 split at e
 .cases e
  obtain ⟨B,N,hσ,rfl⟩:=ha
  exact OpOk.pure r fun _=>⟨_,by simp [execOp,ho,hx],B,N,hσ,rfl⟩
 .cases e
  obtain ⟨F,K,rfl,h1,h2⟩:=ha
  exact OpOk.pure r fun _=>⟨_,by simp [execOp,ho,hx],F,K,rfl,h1,h2⟩
 .cases e
theorem extract_ok {P:Program} {σ:Sg} {h:Hp} {W:World} (r:HRel σ h W) {a:AV} {A:Value} (ha:VRel σ a A) {i:Nat} {q:S1} (e:opExtract h a i=some q):
  OpOk P (do pure (.value (<- Instr.extract A i))) σ h W q:=by
 unfold opExtract at e
 split at e
 .rename_i l
  obtain ⟨v,h1,rfl⟩:=plain1_some e
  obtain ⟨K,rfl,hK⟩:=ha
  obtain ⟨V,h2,h3⟩:=VRels.nth hK h1
  have h2':K[i]?=some V:=by simpa using h2
  exact OpOk.pure r fun _=>⟨V,by simp [Instr.extract,h2'],h3⟩
 .cases e
def ORel (σ:Sg) (a:Option AV) (A:Option Value):Prop:=match a,A with
 | none,none=>True
 | some a,some A=>VRel σ a A
 | _,_=>False
theorem evalO_rel {C:Ctx} {σ:Sg} {s:St} {T:Array Value} (g:GRel C σ) (h:TRel σ s.tmps T) (x:Option Operand):ORel σ (evalO C s x) (x.map (ev T)):=by
 cases x with
 | none=>trivial
 | some x=>exact evalA_rel g h x
theorem boundA_ok {P:Program} {σ:Sg} {y n:Nat} {a:AV} {A:Value} (e:boundA y a=some n) (h:VRel σ a A) (code:BoundsCode) (W:World):
  (Instr.sliceBound A y code).run P W=.ok n W/\n<=y:=by
 unfold boundA at e
 split at e
 .rename_i k i
  obtain rfl:=h
  split at e
  .rename_i hb
   cases e
   have hb:=of_decide_eq_true hb
   exact ⟨by simp [Instr.sliceBound,asIntOf,hb.1,hb.2],by omega⟩
  .cases e
 .cases e
theorem bounds_ok {P:Program} {σ:Sg} {len cap l h m:Nat} {lo hi mx:Option AV} {L H M:Option Value} (hl:ORel σ lo L) (hh:ORel σ hi H) (hm:ORel σ mx M) (e:boundsA len cap lo hi mx=some (l,h,m)) (q:Bool) (W:World):
  (Instr.sliceBounds q len cap L H M).run P W=.ok (l,h,m) W/\l<=h/\(h=len\/h<=m)/\m<=cap:=by
 unfold boundsA at e
 split at e
 .cases e
 .rename_i m' hm1
  split at e
  .cases e
  .rename_i h' hh1
   split at e
   .cases e
   .rename_i l' hl1
    simp only [Option.some.injEq,Prod.mk.injEq] at e
    obtain ⟨rfl,rfl,rfl⟩:=e
    unfold Instr.sliceBounds
    cases mx with
    | none=>
     cases M with
     | some M=>exact hm.elim
     | none=>
      simp only [boundMx,Option.some.injEq] at hm1
      subst hm1
      cases hi with
      | none=>
       cases H with
       | some H=>exact hh.elim
       | none=>
        simp only [boundHi,Option.some.injEq] at hh1
        subst hh1
        cases lo with
        | none=>
         cases L with
         | some L=>exact hl.elim
         | none=>
          simp only [boundLo,Option.some.injEq] at hl1
          subst hl1
          exact ⟨by simp,Nat.zero_le _,.inl rfl,Nat.le_refl _⟩
        | some lo=>
         cases L with
         | none=>exact hl.elim
         | some L=>
          obtain ⟨h1,h2⟩:=boundA_ok (P:=P) hl1 hl .sliceB W
          exact ⟨by simp [h1],h2,.inl rfl,Nat.le_refl _⟩
      | some hi=>
       cases H with
       | none=>exact hh.elim
       | some H=>
        have hq:=fun c=>boundA_ok (P:=P) hh1 hh c W
        cases lo with
        | none=>
         cases L with
         | some L=>exact hl.elim
         | none=>
          simp only [boundLo,Option.some.injEq] at hl1
          subst hl1
          exact ⟨by simp [(hq _).1],Nat.zero_le _,.inr (hq .index).2,Nat.le_refl _⟩
        | some lo=>
         cases L with
         | none=>exact hl.elim
         | some L=>
          obtain ⟨h1,h2⟩:=boundA_ok (P:=P) hl1 hl .sliceB W
          exact ⟨by simp [(hq _).1,h1],h2,.inr (hq .index).2,Nat.le_refl _⟩
    | some mx=>
     cases M with
     | none=>exact hm.elim
     | some M=>
      have hq1:=fun c=>boundA_ok (P:=P) (show boundA cap mx=some m' from hm1) hm c W
      cases hi with
      | none=>simp [boundHi] at hh1
      | some hi=>
       cases H with
       | none=>exact hh.elim
       | some H=>
        have hq:=fun c=>boundA_ok (P:=P) hh1 hh c W
        cases lo with
        | none=>
         cases L with
         | some L=>exact hl.elim
         | none=>
          simp only [boundLo,Option.some.injEq] at hl1
          subst hl1
          exact ⟨by simp [(hq1 _).1,(hq _).1],Nat.zero_le _,.inr (hq .index).2,(hq1 .index).2⟩
        | some lo=>
         cases L with
         | none=>exact hl.elim
         | some L=>
          have hq2:=fun c=>boundA_ok (P:=P) hl1 hl c W
          exact ⟨by simp [(hq1 _).1,(hq _).1,(hq2 _).1],(hq2 .index).2,.inr (hq .index).2,(hq1 .index).2⟩
theorem beq_bif {α:Type} (m l:Nat) (x y:α):(bif Nat.beq m l then x else y)=if m=l then x else y:=by
 by_cases h:m=l
 .subst h; simp
 .have:Nat.beq m l=false:=by rw [Bool.eq_false_iff]; intro e; exact h (Nat.eq_of_beq_eq_true e)
  rw [this,if_neg h]; rfl
theorem slice_ok {P:Program} {σ:Sg} {t:TypeId} {x v:AV} {X:Value} {lo hi mx:Option AV} {L H M:Option Value} (hx:VRel σ x X) (hl:ORel σ lo L) (hh:ORel σ hi H) (hm:ORel σ mx M) (e:sliceV P t x lo hi mx=some v) (W:World):
  ∃ V,(Instr.sliceAt t X L H M).run P W=.ok V W/\VRel σ v V:=by
 unfold sliceV at e
 split at e
 .rename_i elem hu
  split at e
  .cases e
  .rename_i n hsz
   split at e
   .rename_i id off len cap
    obtain ⟨B,N,hσ,rfl⟩:=hx
    split at e
    .cases e
    .rename_i l h m hb
     cases e
     obtain ⟨h1,_⟩:=bounds_ok (P:=P) hl hh hm hb true W
     refine ⟨.slice (some (if m=l then ⟨B,off,none⟩ else ⟨B,off+l*n,none⟩)) (h - l) (m - l),by simp [Instr.sliceAt,Instr.slice,run_underlying hu,h1,run_sizeT hsz,add_lit]; split <;> rfl,?_⟩
     simp only [forceNat_eq,beq_bif]
     refine ⟨B,N,hσ,?_⟩
     split <;> rfl
   .rename_i id off len ee
    obtain ⟨B,N,qo,c,hσ,rfl,hq,hc⟩:=hx
    split at e
    .rename_i mxv
     split at e
     .cases e
     .rename_i l h m hb
      split at e
      .rename_i hne
       rw [Bool.and_eq_true] at hne
       obtain rfl:=Nat.eq_of_beq_eq_true hne.1
       have h0:0<len:=Nat.le_of_ble_eq_true hne.2
       cases e
       obtain ⟨rfl,_⟩:=hq (by omega)
       have hb':boundsA len c lo hi (some mxv)=some (l,h,m):=by
        have:boundA c mxv=boundA len mxv\/boundA len mxv=none:=by
         unfold boundA
         split
         .rename_i k i
          by_cases h1:0<=i/\i<=len
          .left
           have h2:0<=i/\i<=c:=⟨h1.1,by omega⟩
           simp [h1,h2]
          .right
           simp only [h1,decide_false]
         .right; rfl
        simp only [boundsA,boundMx] at hb ⊢
        rcases this with h1|h1
        .rw [h1]; exact hb
        .rw [h1] at hb; cases hb
       obtain ⟨h1,_⟩:=bounds_ok (P:=P) hl hh hm hb' true W
       refine ⟨.slice (some (if m=l then ⟨B,qo,none⟩ else ⟨B,qo+l*n,none⟩)) (h - l) (m - l),by simp [Instr.sliceAt,Instr.slice,run_underlying hu,h1,run_sizeT hsz,add_lit]; split <;> rfl,?_⟩
       simp only [forceNat_eq,beq_bif]
       refine ⟨B,N,hσ,?_⟩
       split <;> rfl
      .cases e
    .split at e
     .cases e
     .rename_i l h m hb
      split at e
      .rename_i hne
       obtain rfl:=Nat.eq_of_beq_eq_true hne
       cases e
       obtain ⟨_,hlh,hhm,hmc⟩:=bounds_ok (P:=P) hl hh hm hb true W
       cases M with
       | some M=>exact hm.elim
       | none=>
        have hb':boundsA len c lo hi none=some (l,h,c):=by
         simp only [boundsA,boundMx] at hb ⊢
         cases hi with
         | none=>
          simp only [boundHi] at hb ⊢
          cases hlo:boundLo len lo with
          | none=>rw [hlo] at hb; cases hb
          | some l'=>rw [hlo] at hb; simp at hb ⊢; exact ⟨hb.1,hb.2.1⟩
         | some hi=>
          simp only [boundHi] at hb ⊢
          have:boundA c hi=boundA len hi\/boundA len hi=none:=by
           unfold boundA
           split
           .rename_i k i
            by_cases h1:0<=i/\i<=len
            .left
             have h2:0<=i/\i<=c:=⟨h1.1,by omega⟩
             simp [h1,h2]
            .right
             simp only [h1,decide_false]
           .right; rfl
          rcases this with h1|h1
          .rw [h1]
           cases hq1:boundA len hi with
           | none=>rw [hq1] at hb; cases hb
           | some h'=>
            rw [hq1] at hb
            simp only at hb ⊢
            cases hlo:boundLo h' lo with
            | none=>rw [hlo] at hb; cases hb
            | some l'=>rw [hlo] at hb; simp at hb ⊢; exact ⟨hb.1,hb.2.1⟩
          .rw [h1] at hb; cases hb
        obtain ⟨h1,_⟩:=bounds_ok (P:=P) hl hh hm hb' true W
        refine ⟨.slice (some (if c=l then ⟨B,qo,none⟩ else ⟨B,qo+l*n,none⟩)) (h - l) (c - l),by simp [Instr.sliceAt,Instr.slice,run_underlying hu,h1,run_sizeT hsz,add_lit]; split <;> rfl,?_⟩
        simp only [forceNat_eq]
        have hm':m=len:=by
         simp only [boundsA,boundMx] at hb
         split at hb
         .cases hb
         .split at hb
          .cases hb
          .simp at hb; exact hb.2.2.symm
        by_cases hcl:c=l
        .rw [if_pos hcl]
         refine ⟨B,N,qo,c - l,hσ,rfl,fun h0=>by omega,by omega⟩
        .rw [if_neg hcl]
         refine ⟨B,N,qo+l*n,c - l,hσ,rfl,fun h0=>?_,by omega⟩
         obtain ⟨rfl,h4⟩:=hq (by omega)
         refine ⟨rfl,?_⟩
         have:(c - l)*n=c*n - l*n:=Nat.sub_mul c l n
         have:l*n<=c*n:=Nat.mul_le_mul_right n (by omega)
         omega
      .cases e
   .obtain rfl:=hx
    split at e
    .cases e
    .rename_i w hb
     obtain ⟨l,h,m⟩:=w
     cases e
     obtain ⟨h1,h2,h3,h4⟩:=bounds_ok (P:=P) hl hh hm hb true W
     obtain rfl:m=0:=by omega
     obtain rfl:h=0:=by omega
     obtain rfl:l=0:=by omega
     exact ⟨.slice none 0 0,by simp [Instr.sliceAt,Instr.slice,run_underlying hu,h1,run_sizeT hsz],rfl⟩
   .cases e
 .rename_i len elem hu
  split at e
  .cases e
  .rename_i n hsz
   split at e
   .rename_i id off
    obtain ⟨B,N,hσ,rfl⟩:=hx
    split at e
    .cases e
    .rename_i l h m hb
     cases e
     obtain ⟨h1,_⟩:=bounds_ok (P:=P) hl hh hm hb false W
     refine ⟨.slice (some (if m=l then ⟨B,off,none⟩ else ⟨B,off+l*n,none⟩)) (h - l) (m - l),by simp [Instr.sliceAt,Instr.sureAddr,run_underlying hu,h1,run_sizeT hsz,add_lit],?_⟩
     simp only [forceNat_eq,beq_bif]
     refine ⟨B,N,hσ,?_⟩
     split <;> rfl
   .cases e
 .rename_i hu
  split at e
  .obtain rfl:=hx
   split at e
   .cases e
   .split at e
    .cases e
    .rename_i l h m hb
     cases e
     cases M with
     | some M=>exact hm.elim
     | none=>
      obtain ⟨h1,_⟩:=bounds_ok (P:=P) hl hh hm hb false W
      exact ⟨_,by simp [Instr.sliceAt,Instr.slice,run_underlying hu,h1],rfl⟩
  .cases e
 .cases e
def plainO:Option AV->Option AV
 | some (.int _ k i)=>some (.int false k i)
 | x=>x
theorem plainO_rel {σ:Sg} {a:Option AV} {A:Option Value} (h:ORel σ a A):ORel σ (plainO a) A:=by
 unfold plainO
 split
 .cases A with
  | none=>exact h
  | some A=>exact h
 .exact h
theorem boundA_plain {y:Nat} {k:IntKind} {i:Int} (h0:0<=i) (h1:i<=y):boundA y (.int false k i)=some i.toNat:=by
 simp only [boundA,h0,h1,and_self,decide_true]
theorem index_okN {P:Program} {σ:Sg} {t:TypeId} {x ix v:AV} {nd:Nd} {X I:Value} (hx:VRel σ x X) (hi:VRel σ ix I) (e:indexN P t x ix=some (nd,v)) (hn:nd.val) (W:World):
  ∃ V,(Instr.index t X I).run P W=.ok V W/\VRel σ v V:=by
 unfold indexN at e
 split at e
 .rename_i v' h
  cases e
  exact index_ok hx hi h W
 .split at e
  .rename_i s k i _
   split at e
   .rename_i s' b _
    split at e
    .rename_i hu
     cases e
     obtain ⟨h0,h1⟩:=hn
     have hl:i.toNat<b.data.toList.length:=by
      have:b.data.toList.length=b.size:=rfl
      omega
     have e2:indexV P t (.str false b) (.int false k i)=some (.int false .u8 (b.data.toList.getD i.toNat 0).toNat):=by
      have e3:b.data.toList[i.toNat]?=some (b.data.toList.getD i.toNat 0):=by
       rw [List.getD_eq_getElem?_getD,List.getElem?_eq_getElem hl]; rfl
      simp only [indexV,hu,h0,if_true,e3]
     exact index_ok (σ:=σ) (x:=.str false b) (ix:=.int false k i) hx hi e2 W
    .cases e
   .cases e
  .cases e
theorem slice_okN {P:Program} {σ:Sg} {t:TypeId} {x v:AV} {nd:Nd} {X:Value} {lo hi mx:Option AV} {L H M:Option Value} (hx:VRel σ x X) (hl:ORel σ lo L) (hh:ORel σ hi H) (hm:ORel σ mx M) (e:sliceN P t x lo hi mx=some (nd,v)) (hn:nd.val) (W:World):
  ∃ V,(Instr.sliceAt t X L H M).run P W=.ok V W/\VRel σ v V:=by
 unfold sliceN at e
 split at e
 .rename_i v' h
  cases e
  exact slice_ok hx hl hh hm h W
 .split at e
  .cases e
  .split at e
   .rename_i s b _
    split at e
    .rename_i hu
     split at e
     .cases e
     .rename_i l hlo
      split at e
      .cases e
      .rename_i h hhi
       cases e
       obtain ⟨h0,h1,h2⟩:=hn
       have e2:sliceV P t (.str false b) (plainO lo) (plainO hi) none=some (.str false (b.extract l.toNat h.toNat)):=by
        have q1:boundHi b.size b.size none (plainO hi)=some h.toNat:=by
         unfold bndN at hhi
         split at hhi
         .cases hhi; rfl
         .cases hhi
          simp only [plainO,boundHi]
          exact boundA_plain (by omega) h2
         .cases hhi
        have q2:boundLo h.toNat (plainO lo)=some l.toNat:=by
         unfold bndN at hlo
         split at hlo
         .cases hlo; rfl
         .cases hlo
          simp only [plainO,boundLo]
          exact boundA_plain h0 (by omega)
         .cases hlo
        simp only [sliceV,hu,boundsA,boundMx,q1,q2]
       exact slice_ok (σ:=σ) (x:=.str false b) hx (plainO_rel hl) (plainO_rel hh) hm e2 W
    .cases e
   .rename_i id l s' n hq0
    clear hq0
    split at e
    .rename_i elem hu
     split at e
     .cases e
     .rename_i k hsz
      split at e
      .cases e
      .split at e
       .cases e
       .rename_i v0
        split at e
        .cases e
        .rename_i h hb
         cases e
         obtain ⟨p,len,c,rfl,⟨hn1,hcap⟩,hle,hp⟩:=hx
         have hh':h<=l/\boundA c v0=some h:=by
          unfold boundA at hb ⊢
          split at hb
          .rename_i k' i
           split at hb
           .rename_i hd
            cases hb
            have hd:=of_decide_eq_true hd
            have h2:0<=i/\i<=c:=⟨hd.1,by omega⟩
            refine ⟨by omega,?_⟩
            simp [h2]
           .cases hb
          .cases hb
         have hb':boundsA len c none (some v0) none=some (0,h,c):=by
          simp only [boundsA,boundMx,boundHi,hh'.2,boundLo]
         obtain ⟨h1,_⟩:=bounds_ok (P:=P) hl hh hm hb' true W
         refine ⟨.slice (if c=0 then p else p.map (·.add (0*k))) (h - 0) (c - 0),by simp [Instr.sliceAt,Instr.slice,run_underlying hu,h1,run_sizeT hsz],?_⟩
         rw [forceNat_eq]
         refine ⟨_,_,_,rfl,⟨rfl,by omega⟩,Nat.le_refl _,?_⟩
         by_cases hz:h=0
         .exact .inl hz
         .rcases hp with hp|⟨B,N,q1,rfl⟩
          .omega
          .refine .inr ⟨B,N,q1,?_⟩
           split
           .rfl
           .simp [add_lit]
    .cases e
   .rename_i id n hq0
    clear hq0
    split at e
    .rename_i elem hu
     split at e
     .cases e
     .rename_i k hsz
      split at e
      .cases e
      .split at e
       .rename_i s0 k0 h
        cases e
        obtain ⟨p,len,c,rfl,⟨hn1,hcap⟩,hp⟩:=hx
        obtain ⟨h0,h1⟩:=hn
        have hb':boundsA len c none (some (.int false k0 h)) none=some (0,h.toNat,c):=by
         have h2:0<=h/\h<=c:=⟨h0,by omega⟩
         simp only [boundsA,boundMx,boundHi,boundA,boundLo,h2,and_self,decide_true]
        have hh':ORel σ (some (.int false k0 h)) H:=by
         cases H with
         | none=>exact hh.elim
         | some H=>exact hh
        obtain ⟨h3,_⟩:=bounds_ok (P:=P) hl hh' hm hb' true W
        refine ⟨.slice (if c=0 then p else p.map (·.add (0*k))) (h.toNat - 0) (c - 0),by simp [Instr.sliceAt,Instr.slice,run_underlying hu,h3,run_sizeT hsz],?_⟩
        refine ⟨_,_,_,rfl,⟨by omega,by omega⟩,?_⟩
        by_cases hz:h.toNat=0
        .exact .inl (by omega)
        .rcases hp with hp|⟨B,N,q1,rfl⟩
         .omega
         .refine .inr ⟨B,N,q1,?_⟩
          split
          .rfl
          .simp [add_lit]
       .cases e
    .cases e
   .cases e
end Go.Eng
namespace Go.Eng
theorem HRel.world {σ:Sg} {h:Hp} {W V:World} (r:HRel σ h W) (e:V.heap=W.heap):HRel σ h V:=
 ⟨r.ok,fun i b hg hd=>let ⟨B,N,o,h1,h2,h3⟩:=r.blk i b hg hd; ⟨B,N,o,h1,by rw [e]; exact h2,h3⟩,fun i B N h=>by rw [e]; exact r.dom i B N h,r.inj⟩
theorem Good.drew {σ:Sg} {h:Hp} {W:World} (r:HRel σ h W):Good σ h W σ h W.drew:=
 ⟨Sub.refl _,fun _ _ e _=>e,⟨rfl,rfl,rfl,Nat.le_refl _,fun _=>rfl⟩,Mon.refl _,fun i B N e hi _=>absurd (r.dom i B N e).1 (Nat.not_lt.2 hi),fun _ _ _ _=>rfl⟩
theorem HRel.kill {σ:Sg} {h:Hp} {W:World} (r:HRel σ h W) {i:Nat} {b:ABlk} (hg:h.get i=some b) (hnl:∀ c,b.body≠.loop c):HRel σ (h.put i .dead) W/\Good σ h W σ (h.put i .dead) W:=by
 have hi:=Hp.get_lt hg
 refine ⟨⟨Hp.ok_put r.ok i _,?_,fun j B M e=>r.dom j B M e,?_⟩,⟨Sub.refl _,fun _ _ e _=>e,Ext.refl _,Mon.put r.ok hg _ (loopKept_of hnl),fun j B M e hj _=>absurd (r.dom j B M e).1 (Nat.not_lt.2 hj),fun _ _ _ _=>rfl⟩⟩
 .intro j c e hd
  rw [Hp.get_put r.ok i j hi] at e
  by_cases hj:j=i
  .simp only [hj,if_true,Option.some.injEq] at e
   subst e; cases hd
  .simp only [hj,if_false] at e
   exact r.blk j c e hd
 .intro j k c e B' M K q1 q2 q3 q4 q5 q6
  rw [Hp.get_put r.ok i j hi] at q1
  rw [Hp.get_put r.ok i k hi] at q2
  by_cases hj:j=i
  .simp only [hj,if_true,Option.some.injEq] at q1
   subst q1; cases q3
  .by_cases hk:k=i
   .simp only [hk,if_true,Option.some.injEq] at q2
    subst q2; cases q4
   .simp only [hj,hk,if_false] at q1 q2
    exact r.inj j k c e B' M K q1 q2 q3 q4 q5 q6
theorem HRel.move {σ:Sg} {h:Hp} {W V:World} (r:HRel σ h W) {i B N:Nat} {b:ABlk} (hg:h.get i=some b) (hl:b.body.isDead=false) (hnl:∀ c,b.body≠.loop c) (hσ:σ i=some (B,N)) (d:ABody) (o:Obj)
  (ho:V.heap[B]?=some o) (hb:BRel (σ.add h.size (B,N)) N d o) (hsz:V.heap.size=W.heap.size) (hold:∀ k,k≠B->V.heap[k]?=W.heap[k]?) (h1:V.os=W.os) (h2:V.tape=W.tape) (h3:V.output=W.output) (hc:coldO o:=by intro _ _ _ h; first|(cases h; rfl)|cases h) (hnv:b.body.isView=false:=by rfl):
  HRel (σ.add h.size (B,N)) ((h.put i .dead).push d) V/\Good σ h W (σ.add h.size (B,N)) ((h.put i .dead).push d) V:=by
 have hi:=Hp.get_lt hg
 have hfz:∀ a,V.frozen? a=W.frozen? a:=fun a=>by
  by_cases h:a.block=B
  .obtain ⟨B',N',o',q1,q2,q3⟩:=r.blk i b hg hl
   rw [hσ] at q1; cases q1
   rw [cold_frozen (by rw [h]; exact ho) hc,cold_frozen (by rw [h]; exact q2) (coldO_of q3 hl hnv)]
  .unfold World.frozen?
   rw [hold _ h]
 have hs:=Sub.add (x:=(B,N)) r.fresh
 have hB:=(r.dom _ _ _ hσ).2
 have hget:∀ j,((h.put i .dead).push d).get j=if j=h.size then some ⟨h.clock,d⟩ else if j=i then some ⟨h.clock,.dead⟩ else h.get j:=by
  intro j
  rw [Hp.get_push,Hp.get_put r.ok i j hi]; rfl
 refine ⟨⟨Hp.ok_push (Hp.ok_put r.ok i _) d,?_,?_,?_⟩,⟨hs,?_,⟨h1,h2,h3,by omega,hfz⟩,⟨Nat.le_refl _,by simp [Hp.push,Hp.put],?_,?_⟩,?_,?_⟩⟩
 .intro j c e hd
  rw [hget] at e
  by_cases hj:j=h.size
  .simp only [hj,if_true,Option.some.injEq] at e
   subst e
   exact ⟨B,N,o,by simp [Sg.add,hj],ho,hb⟩
  .by_cases hji:j=i
   .simp only [hji,if_true] at e
    rw [if_neg (by omega)] at e
    cases e; cases hd
   .simp only [hj,hji,if_false] at e
    obtain ⟨B',M,p,q1,q2,q3⟩:=r.blk j c e hd
    refine ⟨B',M,p,hs _ _ q1,?_,BRel.mono hs q3⟩
    rw [hold]; exact q2
    intro eB; subst eB
    exact hji ((r.inj j i c b B' M N e hg hd hl q1 hσ).resolve_right fun h=>by rw [hnv] at h; cases h.2)
 .intro j B' M e
  unfold Sg.add at e
  by_cases hj:j=h.size
  .simp only [hj,if_true,Option.some.injEq,Prod.mk.injEq] at e
   obtain ⟨rfl,rfl⟩:=e
   exact ⟨by simp [Hp.push,Hp.put,hj],by omega⟩
  .simp only [hj,if_false] at e
   have:=r.dom _ _ _ e
   exact ⟨by simp [Hp.push,Hp.put]; omega,by omega⟩
 .intro j k c e B' M K q1 q2 q3 q4 q5 q6
  rw [hget] at q1 q2
  unfold Sg.add at q5 q6
  by_cases hj:j=h.size <;> by_cases hk:k=h.size
  .omega
  .simp only [hj,if_true,Option.some.injEq,Prod.mk.injEq] at q5
   simp only [hk,if_false] at q2 q6
   obtain ⟨rfl,rfl⟩:=q5
   by_cases hki:k=i
   .simp only [hki,if_true,Option.some.injEq] at q2
    subst q2; cases q4
   .simp only [hki,if_false] at q2
    exact absurd ((r.inj k i e b B K N q2 hg q4 hl q6 hσ).resolve_right fun h=>by rw [hnv] at h; cases h.2) hki
  .simp only [hk,if_true,Option.some.injEq,Prod.mk.injEq] at q6
   simp only [hj,if_false] at q1 q5
   obtain ⟨rfl,rfl⟩:=q6
   by_cases hji:j=i
   .simp only [hji,if_true,Option.some.injEq] at q1
    subst q1; cases q3
   .simp only [hji,if_false] at q1
    exact absurd ((r.inj j i c b B M N q1 hg q3 hl q5 hσ).resolve_right fun h=>by rw [hnv] at h; cases h.2) hji
  .simp only [hj,hk,if_false] at q1 q2 q5 q6
   by_cases hji:j=i
   .simp only [hji,if_true,Option.some.injEq] at q1
    subst q1; cases q3
   .by_cases hki:k=i
    .simp only [hki,if_true,Option.some.injEq] at q2
     subst q2; cases q4
    .simp only [hji,hki,if_false] at q1 q2
     exact r.inj j k c e B' M K q1 q2 q3 q4 q5 q6
 .intro j x e hj
  unfold Sg.add at e
  rw [if_neg (by omega)] at e
  exact e
 .intro j c e q1 q2
  rw [hget] at q2
  have:=Hp.get_lt q1
  rw [if_neg (by omega)] at q2
  by_cases hj:j=i
  .simp only [hj,if_true,Option.some.injEq] at q2
   subst q2; exact .inr (Nat.le_refl _)
  .simp only [hj,if_false,q1,Option.some.injEq] at q2
   subst q2; exact .inl rfl
 .intro j w c e
  have:=Hp.get_lt e
  rw [hget,if_neg (by omega)]
  by_cases hj:j=i
  .subst hj; rw [hg] at e; cases e
   exact absurd rfl (hnl c)
  .rw [if_neg hj]; exact ⟨w,c.state,c.pending,e⟩
 .intro j B' M e hj hB'
  unfold Sg.add at e
  by_cases h1:j=h.size
  .simp only [h1,if_true,Option.some.injEq,Prod.mk.injEq] at e
   obtain ⟨rfl,rfl⟩:=e
   exact .inr ⟨i,N,⟨h.clock,.dead⟩,hi,hσ,by rw [hget,if_neg (by omega),if_pos rfl],Nat.le_refl _⟩
  .simp only [h1,if_false] at e
   have:=(r.dom _ _ _ e).1; omega
 .intro B' hB' _ hw
  apply hold
  intro e; subst e
  have:=hw i N ⟨h.clock,.dead⟩ hσ (by rw [hget,if_neg (by omega),if_pos rfl])
  exact absurd this (Nat.lt_irrefl _)
theorem run_cells_at {P:Program} {W:World} {B:Nat} {K:Array Value} {e:TypeId} {fz:Nat×Nat} (hB:W.heap[B]?=some (.cells K e fz)) {σ:Sg} {l m:List AV} {A Z:List Value} (hK:K.toList=A++Z) (hl:VRels σ l A) {n off:Nat}
  (h:takeN n (dropN off l)=some m):∃ M,(loadCells ⟨B,off,none⟩ n).run P W=.ok M.toArray W/\VRels σ m M/\M.length=n/\(n≠0->off+n<=K.size)/\∀ j v,M[j]?=some v->W.cell? ((⟨B,off,none⟩:Addr).add j)=some v:=by
 obtain ⟨h2,h3⟩:=VRels.take n (VRels.drop off hl) h
 have hlen:((A.drop off).take n).length=n:=by rw [VRels.length h2,h3]
 have hget:∀ j v,((A.drop off).take n)[j]?=some v->W.cell? ((⟨B,off,none⟩:Addr).add j)=some v:=by
  intro j u hu
  rw [add_lit,cell_of_row W B _ K e fz hB,<- Array.getElem?_toList,hK]
  rw [List.getElem?_take] at hu
  split at hu
  .rw [List.getElem?_drop] at hu
   rw [List.getElem?_append_left (by rcases Nat.lt_or_ge (off+j) A.length with h|h; exact h; simp [List.getElem?_eq_none h] at hu)]
   exact hu
  .cases hu
 have:=run_loadCells_list (P:=P) W ⟨B,off,none⟩ ((A.drop off).take n) hget
 rw [hlen] at this
 refine ⟨_,this,h2,hlen,fun hn=>?_,hget⟩
 have h5:=congrArg List.length hK
 simp at h5 hlen
 omega
theorem cellsOf_ok {P:Program} {σ:Sg} {h:Hp} {W:World} (r:HRel σ h W) {size n:Nat} {x:AV} {X:Value} {m:List AV} (hx:VRel σ x X) (e:cellsOfV h size x=some (n,m)):
  ∃ M,(∀ V:World,V.heap=W.heap->(Builtin.lenOf X).run P V=.ok n V/\(Builtin.firstCells size n X).run P V=.ok M.toArray V)/\VRels σ m M/\M.length=n*size:=by
 unfold cellsOfV at e
 split at e
 .cases e
  obtain rfl:=hx
  exact ⟨[],fun V _=>⟨by simp [Builtin.lenOf],by simp [Builtin.firstCells]⟩,rfl,by simp⟩
 .cases e
  obtain ⟨a,c,rfl,_⟩:=hx
  refine ⟨[],fun V _=>⟨by simp [Builtin.lenOf],?_⟩,rfl,by simp⟩
  cases a with
  | none=>simp [Builtin.firstCells]
  | some a=>
   have:=run_loadCells_list (P:=P) V a [] (fun j v h=>by simp at h)
   simpa [Builtin.firstCells] using this
 .rename_i i off len cap
  obtain ⟨B,N,hσ,rfl⟩:=hx
  split at e
  .rename_i w l hg
   obtain ⟨B',N',o,h1,h2,K,el,rfl,h3,h4⟩:=r.blk i _ hg rfl
   rw [hσ] at h1; cases h1
   cases ht:takeN (len*size) (dropN off l) with
   | none=>rw [ht] at e; cases e
   | some q=>
    rw [ht] at e; cases e
    obtain ⟨M,q1,q2,q3,q4,q5⟩:=run_cells_at (P:=P) h2 (A:=K.toList) (Z:=[]) (by simp) h3 ht
    refine ⟨M,fun V hV=>⟨by simp [Builtin.lenOf],?_⟩,q2,q3⟩
    obtain ⟨M',p1,p2,p3,p4,p5⟩:=run_cells_at (P:=P) (W:=V) (by rw [hV]; exact h2) (A:=K.toList) (Z:=[]) (by simp) h3 ht
    have:M'=M:=by
     apply List.ext_getElem?
     intro j
     rcases Nat.lt_or_ge j (n*size) with hj|hj
     .have a1:=p5 j M'[j] (by rw [List.getElem?_eq_getElem])
      have a2:=q5 j M[j] (by rw [List.getElem?_eq_getElem])
      have a3:V.cell? ((⟨B,off,none⟩:Addr).add j)=W.cell? ((⟨B,off,none⟩:Addr).add j):=by simp [World.cell?,hV]
      rw [a3,a2] at a1
      rw [List.getElem?_eq_getElem (by omega),List.getElem?_eq_getElem (by omega)]
      exact a1.symm
     .rw [List.getElem?_eq_none (by omega),List.getElem?_eq_none (by omega)]
    subst this
    simp [Builtin.firstCells,p1]
  .rename_i w l hg
   obtain ⟨B',N',o,h1,h2,K,el,A,Z,rfl,hA,h3,h4⟩:=r.blk i _ hg rfl
   rw [hσ] at h1; cases h1
   cases ht:takeN (len*size) (dropN off l) with
   | none=>rw [ht] at e; cases e
   | some q=>
    rw [ht] at e; cases e
    obtain ⟨M,q1,q2,q3,q4,q5⟩:=run_cells_at (P:=P) h2 hA h3 ht
    refine ⟨M,fun V hV=>⟨by simp [Builtin.lenOf],?_⟩,q2,q3⟩
    have:=run_loadCells_list (P:=P) V ⟨B,off,none⟩ M (fun j v hv=>by
     have a3:V.cell? ((⟨B,off,none⟩:Addr).add j)=W.cell? ((⟨B,off,none⟩:Addr).add j):=by simp [World.cell?,hV]
     rw [a3]; exact q5 j v hv)
    rw [q3] at this
    simp [Builtin.firstCells,this]
  .cases e
 .rename_i i off len ee
  obtain ⟨B,N,qo,c,hσ,rfl,hq,hc⟩:=hx
  split at e
  .rename_i w l hg
   obtain ⟨B',N',o,h1,h2,K,el,A,Z,rfl,hA,h3,h4⟩:=r.blk i _ hg rfl
   rw [hσ] at h1; cases h1
   cases ht:takeN (len*size) (dropN off l) with
   | none=>rw [ht] at e; cases e
   | some q=>
    rw [ht] at e; cases e
    by_cases hz:n=0
    .subst hz
     simp [takeN] at ht
     subst ht
     exact ⟨[],fun V _=>⟨by simp [Builtin.lenOf],by simp [Builtin.firstCells,loadCells,loadCellsFrom]⟩,rfl,by simp⟩
    .obtain ⟨rfl,_⟩:=hq hz
     obtain ⟨M,q1,q2,q3,q4,q5⟩:=run_cells_at (P:=P) h2 hA h3 ht
     refine ⟨M,fun V hV=>⟨by simp [Builtin.lenOf],?_⟩,q2,q3⟩
     have:=run_loadCells_list (P:=P) V ⟨B,qo,none⟩ M (fun j v hv=>by
      have a3:V.cell? ((⟨B,qo,none⟩:Addr).add j)=W.cell? ((⟨B,qo,none⟩:Addr).add j):=by simp [World.cell?,hV]
      rw [a3]; exact q5 j v hv)
     rw [q3] at this
     simp [Builtin.firstCells,this]
  .cases e
 .rename_i i l n'
  obtain ⟨p,len,c,rfl,⟨hn',hcap⟩,hle,hp⟩:=hx
  split at e
  .cases e
  .cases e
   obtain rfl:len=0:=by simpa using hn'
   refine ⟨[],fun V _=>⟨by simp [Builtin.lenOf],?_⟩,rfl,by simp⟩
   cases p <;> simp [Builtin.firstCells,loadCells,loadCellsFrom]
  .rename_i m'
   obtain rfl:len=m'+1:=by have:(len:Int)=(m'+1:Nat):=hn'; omega
   split at e
   .rename_i w cs hg
    split at e
    .rename_i hb
     have hb:=Nat.le_of_ble_eq_true hb
     rcases hp with hp|⟨B,N,hσ,rfl⟩
     .omega
     obtain ⟨B',N',o,h1,h2,K,el,fr,rfl,h3⟩:=r.blk i _ hg rfl
     rw [hσ] at h1; cases h1
     cases ht:takeN ((m'+1)*size) cs with
     | none=>rw [ht] at e; cases e
     | some q=>
      rw [ht] at e; cases e
      obtain ⟨k1,k2⟩:=VRels.take _ h3 ht
      have k3:(List.take ((m'+1)*size) ((K.toList.drop N).take cs.length)).length=(m'+1)*size:=by rw [VRels.length k1,k2]
      refine ⟨_,fun V hV=>⟨by simp [Builtin.lenOf],?_⟩,k1,k3⟩
      have:=run_loadCells_list (P:=P) V ⟨B,N,none⟩ (List.take ((m'+1)*size) ((K.toList.drop N).take cs.length)) (fun j v hv=>by
       have hj:j<(m'+1)*size:=by
        rcases Nat.lt_or_ge j ((m'+1)*size) with h|h
        .exact h
        .rw [List.getElem?_eq_none (by rw [k3]; exact h)] at hv; cases hv
       have hj2:j<cs.length:=by
        have:=VRels.length h3
        rw [List.length_take] at k3
        omega
       rw [List.getElem?_take,if_pos hj,List.getElem?_take,if_pos hj2,List.getElem?_drop,Array.getElem?_toList] at hv
       unfold World.cell? Addr.add
       by_cases h0:j=0
       .subst h0; simp [hV,h2]; simpa using hv
       .simp [h0,hV,h2]; simpa using hv)
      rw [k3] at this
      simp [Builtin.firstCells,this]
    .cases e
   .cases e
 .cases e
theorem run_append_new {P:Program} {W:World} {t u ty e eu:TypeId} {i:TypeInfo} {z:Value} (ht:P.underlying t=some (.slice e)) (hu:P.underlying u=some (.slice eu)) (hi:P.info? e=some i) (hz:i.zero=some z)
  {base:Option Addr} {len cap n:Nat} {X:Value} {O M:List Value}
  (hO:∀ V:World,V.heap=W.heap->(Builtin.firstCells i.size len (.slice base len cap)).run P V=.ok O.toArray V)
  (hX:∀ V:World,V.heap=W.heap->(Builtin.lenOf X).run P V=.ok n V/\(Builtin.firstCells i.size n X).run P V=.ok M.toArray V)
  (hg:cap<len+n) (hmax:len+n<=1048576) (hby:i.bytes<=65536):
  (Builtin.append_ #[t,u] ty #[.slice base len cap,X]).run P W =
   .ok (.slice (some ⟨W.heap.size,0,none⟩) (len+n) (grownCap W (len+n) cap e))
    (W.drew.alloc (.cells (O.toArray++M.toArray++Builtin.zeroCells z.cells (grownCap W (len+n) cap e - (len+n))) e)):=by
 have hn:¬ (len+n<=cap):=by omega
 have h63':¬ (9223372036854775807<((len:Int)+(n:Int))):=by omega
 have hfit:=growslice_fits hg (show (len+n)*i.bytes<=140737488355328 from Nat.le_trans (Nat.mul_le_mul hmax hby) (by decide))
 have h48':¬ (281474976710656<Builtin.nextslicecap (len+n) cap*i.bytes):=by omega
 have hf:=(hX W.drew rfl).2
 have hfo:=hO W.drew rfl
 have hl:=(hX W rfl).1
 simp [Builtin.append_,run_underlying ht,run_underlying hu,sizeOf,typeInfo,zeroValue,hi,hz,hl,hn,h63',h48',Question.forced,hf,hfo,newRow,grownCap]
 congr 2
 apply Array.toList_inj.1
 simp
theorem run_append_in {P:Program} {W:World} {t u ty e eu:TypeId} {i:TypeInfo} (ht:P.underlying t=some (.slice e)) (hu:P.underlying u=some (.slice eu)) (hi:P.info? e=some i)
  {B off len cap n:Nat} {X:Value} {M:List Value} {K:Array Value} {el:TypeId} (hB:W.heap[B]?=some (.cells K el (0,0)))
  (hX:∀ V:World,V.heap=W.heap->(Builtin.lenOf X).run P V=.ok n V/\(Builtin.firstCells i.size n X).run P V=.ok M.toArray V)
  (h1:∀ v∈M,v.oneCell'=true) (hg:len+n<=cap) (hfit:off+len*i.size+M.length<=K.size):
  (Builtin.append_ #[t,u] ty #[.slice (some ⟨B,off,none⟩) len cap,X]).run P W =
   .ok (.slice (some ⟨B,off,none⟩) (len+n) cap) (W.setRow B (K.toList.take (off+len*i.size)++M++K.toList.drop (off+len*i.size+M.length)).toArray):=by
 have hf:=(hX W rfl).2
 have hl:=(hX W rfl).1
 have hst:=run_storeCells_at P B (off+len*i.size) el M 0 K W hB (by simpa using hfit) h1
 simp only [Nat.add_zero] at hst
 simp [Builtin.append_,run_underlying ht,run_underlying hu,sizeOf,typeInfo,hi,hl,hg,hf,add_lit,hst]
theorem grown_new {P:Program} {σ:Sg} {h:Hp} {W:World} (r:HRel σ h W) {l:List AV} {A Z:List Value} {K:Array Value} (e:TypeId) (hK:K.toList=A++Z) (hl:VRels σ l A) {n c esz:Nat} (hc:n<=c) (hcap:c*esz<=K.size) (m:Sem Value)
  (hm:m.run P W=.ok (.slice (some ⟨W.heap.size,0,none⟩) n c) (W.drew.alloc (.cells K e))):OpOk P (do pure (.value (<- m))) σ h W ⟨.tt,.gslice h.size 0 n esz,h.push (.grown l)⟩:=fun _=>by
 have r':=r.world (V:=W.drew) rfl
 obtain ⟨h1,h2⟩:=r'.alloc (.grown l) (.cells K e) K.size ⟨K,e,A,Z,rfl,hK,VRels.mono (Sub.add r.fresh) _ _ hl,rfl⟩
 refine ⟨_,.slice (some ⟨W.heap.size,0,none⟩) n c,_,_,by simp [hm],.inl rfl,⟨W.heap.size,K.size,0,c,add_here,rfl,fun _=>⟨rfl,by omega⟩,hc⟩,h1,?_⟩
 exact (Good.drew r).trans r.ok h1.ok h2
theorem nextcap_bound {W:World} {len n cap:Nat} {e:TypeId} {z:Value} {size:Nat} (hz:z.cells.size=size) {O M:List Value} (hO:O.length=len*size) (hM:M.length=n*size):
  (grownCap W (len+n) cap e)*size<=(O.toArray++M.toArray++Builtin.zeroCells z.cells (grownCap W (len+n) cap e - (len+n))).size:=by
 have hge:=grownCap_ge W (len+n) cap e
 simp only [Array.size_append,List.size_toArray,hO,hM,size_zeroCells,hz]
 rw [<- Nat.add_mul,<- Nat.add_mul]
 apply Nat.mul_le_mul_right
 omega
theorem append_ok {P:Program} {σ:Sg} {h:Hp} {W:World} (r:HRel σ h W) {t u ty:TypeId} {a b:AV} {A B:Value} (ha:VRel σ a A) (hb:VRel σ b B) {q:S1} (e:opAppend P h t u a b=some q):
  OpOk P (do pure (.value (<- Builtin.append_ #[t,u] ty #[A,B]))) σ h W q:=by
 unfold opAppend at e
 split at e
 .rename_i eu hu
  split at e
  .cases e
  .rename_i v h' he
   cases e
   unfold appendV at he
   split at he
   .rename_i el ht
    split at he
    .cases he
    .rename_i i hi
     split at he
     .cases he
     .rename_i z hz
      obtain ⟨i',zv,hi',hz',hzr,_⟩:=zeroCells_spec (σ:=σ) hz
      rw [hi] at hi'; cases hi'
      split at he
      .cases he
      .rename_i hc
       simp only [Bool.and_eq_true,Nat.ble_eq,Nat.beq_eq] at hc
       have hzs:zv.cells.size=i.size:=by have:=VRels.length hzr; simp at this; omega
       split at he
       .cases he
       .rename_i n new hnew
        obtain ⟨M,hX,hM,hMl⟩:=cellsOf_ok (P:=P) r hb hnew
        split at he
        .cases he
        .rename_i hall
         have h1:=allCell_one hM hall
         split at he
         .-- a nil slice
          obtain rfl:=ha
          unfold appNil at he
          split at he
          .cases he
           have hM0:M=[]:=List.length_eq_zero_iff.1 (by rw [hMl]; simp)
           subst hM0
           refine OpOk.pure r fun _=>⟨.slice none 0 0,?_,rfl⟩
           have hl:=(hX W rfl).1
           have hf:=(hX W rfl).2
           simp [Builtin.append_,run_underlying ht,run_underlying hu,sizeOf,typeInfo,hi,hl,hf]
          .rename_i m
           split at he
           .rename_i hmax
            cases he
            have hmax:=Nat.le_of_ble_eq_true hmax
            have hrun:=run_append_new (P:=P) (W:=W) (ty:=ty) ht hu hi hz' (base:=none) (len:=0) (cap:=0) (O:=[]) (fun V _=>by simp [Builtin.firstCells]) hX (by omega) (by unfold growMax at hmax; omega) hc.2
            have:=grown_new r el (l:=new) (A:=M) (Z:=(Builtin.zeroCells zv.cells (grownCap W (0+(m+1)) 0 el - (0+(m+1)))).toList) (K:=([]:List Value).toArray++M.toArray++Builtin.zeroCells zv.cells (grownCap W (0+(m+1)) 0 el - (0+(m+1)))) (by simp) hM (n:=0+(m+1)) (c:=grownCap W (0+(m+1)) 0 el) (esz:=i.size) (grownCap_ge _ _ _ _) (nextcap_bound hzs (by simp) hMl) _ hrun
            rw [Nat.zero_add] at this
            exact this
           .cases he
         .rename_i id off len cap
          obtain ⟨Bl,N,hσ,rfl⟩:=ha
          split at he
          .-- room
           rename_i hroom
           have hroom:=Nat.le_of_ble_eq_true hroom
           unfold appRoom at he
           split at he
           .rename_i w l hg
            split at he
            .cases he
            .rename_i l' hp
             rw [Hp.set_eq] at he
             cases he
             obtain ⟨B',N',o,q1,q2,K,ek,rfl,q3,q4⟩:=r.blk id _ hg rfl
             rw [hσ] at q1; cases q1
             obtain ⟨q5,q6⟩:=putCells_spec l _ _ l' q3 hM hp
             have hrun:=run_append_in (P:=P) (ty:=ty) ht hu hi q2 hX h1 hroom (by simpa using q6)
             obtain ⟨q7,q8⟩:=r.row hg rfl (fun _ h=>by cases h) hσ (K':=(K.toList.take (off+len*i.size)++M++K.toList.drop (off+len*i.size+M.length)).toArray) q2 (.cells l') ⟨_,ek,rfl,by simpa using q5,by
              subst q4; simp at q6 ⊢; omega⟩
             exact fun _=>⟨σ,_,_,_,by simp [hrun]; rfl,.inl rfl,by simp only [forceNat_eq]; exact ⟨Bl,N,hσ,rfl⟩,q7,q8⟩
           .cases he
          .-- no room
           rename_i hroom
           have hroom:cap<len+n:=by
            rcases Nat.lt_or_ge cap (len+n) with h|h
            .exact h
            .rw [Nat.ble_eq_true_of_le h] at hroom; cases hroom
           unfold appGrow at he
           split at he
           .cases he
           .rename_i n' old hold
            split at he
            .rename_i hmax
             have hmax:=Nat.le_of_ble_eq_true hmax
             rw [catC_eq] at he
             cases he
             obtain ⟨O,hOr,hO,hOl⟩:=cellsOf_ok (P:=P) r (x:=.slice id off len cap) (X:=.slice (some ⟨Bl,off,none⟩) len cap) ⟨Bl,N,hσ,rfl⟩ hold
             have hn':n'=len:=by
              have:=(hOr W rfl).1
              simp [Builtin.lenOf] at this; omega
             subst hn'
             have hrun:=run_append_new (P:=P) (W:=W) (ty:=ty) ht hu hi hz' (base:=some ⟨Bl,off,none⟩) (O:=O) (fun V hV=>(hOr V hV).2) hX hroom (by unfold growMax at hmax; omega) hc.2
             have:=grown_new r el (l:=old++new) (A:=O++M) (Z:=(Builtin.zeroCells zv.cells (grownCap W (n'+n) cap el - (n'+n))).toList) (K:=O.toArray++M.toArray++Builtin.zeroCells zv.cells (grownCap W (n'+n) cap el - (n'+n))) (by simp) (VRels.append hO hM) (n:=n'+n) (c:=grownCap W (n'+n) cap el) (esz:=i.size) (grownCap_ge _ _ _ _) (nextcap_bound hzs hOl hMl) _ hrun
             simpa using this
            .cases he
         .rename_i id off len esz
          unfold appGs at he
          split at he
          .cases he
           have hM0:M=[]:=List.length_eq_zero_iff.1 (by rw [hMl]; simp)
           subst hM0
           obtain ⟨Bl,N,qo,c,hσ,rfl,hq,hcl⟩:=ha
           refine OpOk.pure r fun _=>⟨.slice (some ⟨Bl,qo,none⟩) len c,?_,Bl,N,qo,c,hσ,rfl,hq,hcl⟩
           have hl:=(hX W rfl).1
           have hf:=(hX W rfl).2
           have hst:∀ a:Addr,(storeCells a []).run P W=.ok () W:=fun _=>rfl
           simp [Builtin.append_,run_underlying ht,run_underlying hu,sizeOf,typeInfo,hi,hl,hf,hcl,hst]
          .rename_i m
           split at he
           .rename_i w l hg
            split at he
            .rename_i hk
             simp only [Bool.and_eq_true,Nat.beq_eq,Nat.blt_eq,Nat.ble_eq] at hk
             obtain ⟨⟨⟨⟨rfl,rfl⟩,hlen⟩,hll⟩,hmax⟩:=hk
             rw [Hp.set_eq,catC_eq] at he
             cases he
             have hA:VRel σ (.gslice id 0 len i.size) A:=ha
             obtain ⟨Bl,N,qo,c,hσ,rfl,hq,hcl⟩:=ha
             obtain ⟨rfl,hcN⟩:=hq (by omega)
             obtain ⟨B',N',o,q1,q2,K,ek,X,Z,rfl,hXZ,q3,q4⟩:=r.blk id _ hg rfl
             rw [hσ] at q1; cases q1
             have hXl:X.length=len*i.size:=by rw [VRels.length q3,hll]
             by_cases hroom:len+(m+1)<=c
             .have hmul:(len+(m+1))*i.size<=c*i.size:=Nat.mul_le_mul_right _ hroom
              rw [Nat.add_mul] at hmul
              have hMK:len*i.size+M.length<=K.size:=by
               rw [hMl,<- q4]
               exact Nat.le_trans hmul (by simpa using hcN)
              have hrun:=run_append_in (P:=P) (ty:=ty) ht hu hi q2 (off:=0) hX h1 hroom (by omega)
              obtain ⟨q7,q8⟩:=r.move (V:=W.setRow Bl (K.toList.take (0+len*i.size)++M++K.toList.drop (0+len*i.size+M.length)).toArray) hg rfl (fun _ h=>by cases h) hσ (.grown (l++new)) _ (setRow_heap W Bl K _ ek (0,0) q2)
               ⟨_,ek,X++M,Z.drop M.length,rfl,by
                simp only [Nat.zero_add,hXZ]
                rw [<- hXl,List.take_left,<- List.drop_drop,List.drop_left],VRels.append (VRels.mono (Sub.add r.fresh) _ _ q3) (VRels.mono (Sub.add r.fresh) _ _ hM),by
                subst q4; simp; omega⟩
               (setRow_size W Bl _) (fun k hk=>setRow_other W Bl k _ hk) rfl rfl rfl
              refine fun _=>⟨_,_,_,_,by simp [hrun]; rfl,.inl rfl,?_,q7,q8⟩
              simp only [forceNat_eq]
              exact ⟨Bl,N,0,c,add_here,rfl,fun _=>⟨rfl,hcN⟩,hroom⟩
             .obtain ⟨k1,k2⟩:=r.kill hg (fun _ h=>by cases h)
              have hold:cellsOfV h i.size (.gslice id 0 len i.size)=some (len,l):=by
               simp only [cellsOfV,hg,dropN]
               have:takeN (len*i.size) l=some l:=by
                rw [<- hll]
                clear hll q3 hg hXl
                induction l with
                | nil=>rfl
                | cons a l ih=>simp [takeN,ih]
               rw [this]; rfl
              obtain ⟨O,hOr,hO,hOl⟩:=cellsOf_ok (P:=P) r hA hold
              have hrun:=run_append_new (P:=P) (W:=W) (ty:=ty) ht hu hi hz' (base:=some ⟨Bl,0,none⟩) (cap:=c) (O:=O) (fun V hV=>(hOr V hV).2) hX (by omega) (by unfold growMax at hmax; omega) hc.2
              have:=grown_new k1 el (l:=l++new) (A:=O++M) (Z:=(Builtin.zeroCells zv.cells (grownCap W (len+(m+1)) c el - (len+(m+1)))).toList) (K:=O.toArray++M.toArray++Builtin.zeroCells zv.cells (grownCap W (len+(m+1)) c el - (len+(m+1)))) (by simp) (VRels.append hO hM) (n:=len+(m+1)) (c:=grownCap W (len+(m+1)) c el) (esz:=i.size) (grownCap_ge _ _ _ _) (nextcap_bound hzs hOl hMl) _ hrun
              intro _
              obtain ⟨τ,V,X',rr,p1,p2,p3,p4,p5⟩:=this trivial
              exact ⟨τ,V,X',rr,p1,p2,by simpa using p3,p4,k2.trans k1.ok p4.ok p5⟩
            .cases he
           .cases he
         .cases he
   .cases he
 .cases e
end Go.Eng
namespace Go.Eng
theorem lenOfV_ok {P:Program} {σ:Sg} {x:AV} {X:Value} {n:Nat} (hx:VRel σ x X) (e:lenOfV x=some n) (W:World):(Builtin.lenOf X).run P W=.ok n W:=by
 unfold lenOfV at e
 split at e <;> cases e
 .obtain rfl:=hx; rfl
 .obtain ⟨_,_,_,rfl⟩:=hx; rfl
 .obtain ⟨_,_,_,_,_,rfl,_⟩:=hx; rfl
theorem firstN_ok {P:Program} {σ:Sg} {h:Hp} {W:World} (r:HRel σ h W) {x:AV} {X:Value} {n size ln:Nat} {m:List AV} (hx:VRel σ x X) (hl:lenOfV x=some ln) (hpos:ln≠0) (e:firstN h (n*size) x=some m):
  ∃ M,(Builtin.firstCells size n X).run P W=.ok M.toArray W/\VRels σ m M/\M.length=n*size:=by
 unfold firstN at e
 split at e
 .rename_i i off len cap
  obtain ⟨B,N,hσ,rfl⟩:=hx
  split at e
  .rename_i w l hg
   obtain ⟨B',N',o,h1,h2,K,el,rfl,h3,h4⟩:=r.blk i _ hg rfl
   rw [hσ] at h1; cases h1
   obtain ⟨M,q1,q2,q3,_⟩:=run_cells_at (P:=P) h2 (A:=K.toList) (Z:=[]) (by simp) h3 e
   exact ⟨M,by simp [Builtin.firstCells,q1],q2,q3⟩
  .rename_i w l hg
   obtain ⟨B',N',o,h1,h2,K,el,A,Z,rfl,hA,h3,h4⟩:=r.blk i _ hg rfl
   rw [hσ] at h1; cases h1
   obtain ⟨M,q1,q2,q3,_⟩:=run_cells_at (P:=P) h2 hA h3 e
   exact ⟨M,by simp [Builtin.firstCells,q1],q2,q3⟩
  .cases e
 .rename_i i off len ee
  obtain ⟨B,N,qo,c,hσ,rfl,hq,hc⟩:=hx
  cases hl
  obtain ⟨rfl,_⟩:=hq hpos
  split at e
  .rename_i w l hg
   obtain ⟨B',N',o,h1,h2,K,el,A,Z,rfl,hA,h3,h4⟩:=r.blk i _ hg rfl
   rw [hσ] at h1; cases h1
   obtain ⟨M,q1,q2,q3,_⟩:=run_cells_at (P:=P) h2 hA h3 e
   exact ⟨M,by simp [Builtin.firstCells,q1],q2,q3⟩
  .cases e
 .rename_i hn1 hn2
  exfalso
  cases x with
  | slice a b c d=>exact hn1 a b c d rfl
  | gslice a b c d=>exact hn2 a b c d rfl
  | nilslice=>cases hl; exact hpos rfl
  | _=>cases hl
theorem copyTo_ok {P:Program} {σ:Sg} {h:Hp} {W:World} (r:HRel σ h W) {id off n B N:Nat} (hσ:σ id=some (B,N)) {cs:List AV} {M:List Value} (hM:VRels σ cs M) (h1:∀ v∈M,v.oneCell'=true) {q:S1}
  (e:copyTo h id off n cs none (fun v h=>some ⟨.tt,v,h⟩)=some q):
  ∃ V,(storeCells ⟨B,off,none⟩ M).run P W=.ok () V/\HRel σ q.h V/\Good σ h W σ q.h V/\q.v=mkInt false .i64 n/\q.nd=.tt:=by
 unfold copyTo at e
 split at e
 .rename_i w l hg
  split at e
  .cases e
  .rename_i l' hp
   rw [Hp.set_eq] at e
   cases e
   obtain ⟨B',N',o,q1,q2,K,ek,rfl,q3,q4⟩:=r.blk id _ hg rfl
   rw [hσ] at q1; cases q1
   obtain ⟨q5,q6⟩:=putCells_spec l _ _ l' q3 hM hp
   have hst:=run_storeCells_at P B off ek M 0 K W q2 (by simpa using q6) h1
   simp only [Nat.add_zero] at hst
   obtain ⟨q7,q8⟩:=r.row hg rfl (fun _ h=>by cases h) hσ (K':=(K.toList.take off++M++K.toList.drop (off+M.length)).toArray) q2 (.cells l') ⟨_,ek,rfl,by simpa using q5,by
    subst q4; simp at q6 ⊢; omega⟩
   exact ⟨_,hst,q7,q8,rfl,rfl⟩
 .rename_i w l hg
  split at e
  .cases e
  .rename_i l' hp
   rw [Hp.set_eq] at e
   cases e
   obtain ⟨B',N',o,q1,q2,K,ek,X,Y,rfl,hXY,q3,q4⟩:=r.blk id _ hg rfl
   rw [hσ] at q1; cases q1
   obtain ⟨q5,q6⟩:=putCells_spec l _ _ l' q3 hM hp
   have hXK:X.length<=K.size:=by have:=congrArg List.length hXY; simp at this; omega
   have hst:=run_storeCells_at P B off ek M 0 K W q2 (by omega) h1
   simp only [Nat.add_zero] at hst
   obtain ⟨q7,q8⟩:=r.row hg rfl (fun _ h=>by cases h) hσ (K':=(K.toList.take off++M++K.toList.drop (off+M.length)).toArray) q2 (.grown l') ⟨_,ek,X.take off++M++X.drop (off+M.length),Y,rfl,by
    simp only [hXY]
    rw [List.take_append_of_le_length (by omega),List.drop_append_of_le_length (by omega)]
    simp,q5,by
    subst q4; simp; omega⟩
   exact ⟨_,hst,q7,q8,rfl,rfl⟩
 .cases e
theorem copy_ok {P:Program} {σ:Sg} {h:Hp} {W:World} (r:HRel σ h W) {t ty:TypeId} {ts:Array TypeId} (hts:ts[0]?=some t) {a b:AV} {A B:Value} (ha:VRel σ a A) (hb:VRel σ b B) {q:S1} (e:copyV P h t a b none (fun v h=>some ⟨.tt,v,h⟩)=some q):
  OpOk P (do pure (.value (<- Builtin.copy_ ts ty #[A,B]))) σ h W q:=by
 unfold copyV at e
 split at e
 .rename_i el hu
  split at e
  .cases e
  .rename_i size hsz
   split at e
   .cases e
   .rename_i ld hld
    split at e
    .cases e
    .rename_i lx hlx
     obtain ⟨i,hi,hsi⟩:=sizeT_spec hsz
     have r1:=lenOfV_ok (P:=P) ha hld W
     have r2:=lenOfV_ok (P:=P) hb hlx W
     split at e
     .rename_i hmin
      cases e
      refine OpOk.pure r fun _=>⟨.int .i64 0,?_,rfl⟩
      have hf:∀ X,(Builtin.lenOf X).run P W=.ok lx W->(Builtin.firstCells size 0 X).run P W=.ok #[] W:=by
       intro X hX
       cases X <;> simp [Builtin.lenOf] at hX
       case slice a l c=>cases a <;> simp [Builtin.firstCells,loadCells,loadCellsFrom]
       case string s=>simp [Builtin.firstCells]
      have hst:∀ a:Addr,(storeCells a []).run P W=.ok () W:=fun _=>rfl
      have hA:∃ base l c,A=.slice base l c/\l=ld:=by
       unfold lenOfV at hld
       split at hld <;> cases hld
       .obtain rfl:=ha; exact ⟨_,_,_,rfl,rfl⟩
       .obtain ⟨_,_,_,rfl⟩:=ha; exact ⟨_,_,_,rfl,rfl⟩
       .obtain ⟨_,_,_,_,_,rfl,_⟩:=ha; exact ⟨_,_,_,rfl,rfl⟩
      obtain ⟨base,l,c,rfl,rfl⟩:=hA
      have hmin':lx.min l=0:=hmin
      cases base with
      | none=>simp [Builtin.copy_,hts,run_underlying hu,r2,hmin',run_sizeT hsz,hf B r2,goInt]
      | some ad=>simp [Builtin.copy_,hts,run_underlying hu,r2,hmin',run_sizeT hsz,hf B r2,goInt,hst]
     .rename_i n hmin
      have hmin':lx.min ld=n+1:=hmin
      split at e
      .cases e
      .rename_i cs hcs
       split at e
       .cases e
       .rename_i hall
        have hlx0:lx≠0:=by intro h0; subst h0; simp at hmin'
        have hld0:ld≠0:=by intro h0; subst h0; simp at hmin'
        obtain ⟨M,p1,p2,p3⟩:=firstN_ok (P:=P) r hb hlx hlx0 hcs
        have h1:=allCell_one p2 hall
        have fin:∀ id off l c Bl N,σ id=some (Bl,N)->A=.slice (some ⟨Bl,off,none⟩) l c->l=ld->copyTo h id off (n+1) cs none (fun v h=>some ⟨.tt,v,h⟩)=some q->OpOk P (do pure (.value (<- Builtin.copy_ ts ty #[A,B]))) σ h W q:=by
         intro id off l c Bl N hσ hA hl e
         subst hA; subst hl
         obtain ⟨V,v1,v2,v3,v4,v5⟩:=copyTo_ok (P:=P) r hσ p2 h1 e
         intro _
         refine ⟨σ,.int .i64 (n+1:Nat),V,_,?_,.inl rfl,by rw [v4]; simp,v2,v3⟩
         simp [Builtin.copy_,hts,run_underlying hu,r2,hmin',run_sizeT hsz,p1,v1,goInt]
        split at e
        .cases hld
         obtain ⟨Bl,N,hσ,hA⟩:=ha
         exact fin _ _ _ _ _ _ hσ hA rfl e
        .cases hld
         obtain ⟨Bl,N,qo,c,hσ,hA,hq,hc⟩:=ha
         obtain ⟨rfl,_⟩:=hq hld0
         exact fin _ _ _ _ _ _ hσ hA rfl e
        .cases e
 .cases e
theorem makeSlice_ok {P:Program} {σ:Sg} {h:Hp} {W:World} (r:HRel σ h W) {t:TypeId} {l c:AV} {L C:Value} (hl:VRel σ l L) (hc:VRel σ c C) {q:S1} (e:opMakeSlice P h t l c=some q):
  OpOk P (do pure (.value (<- Instr.makeSlice t L C))) σ h W q:=by
 unfold opMakeSlice at e
 split at e
 .rename_i el hu
  split at e
  .rename_i k n
   obtain rfl:=hl
   split at e
   .rename_i k' m
    obtain rfl:=hc
    split at e
    .cases e
    .rename_i i hi
     split at e
     .cases e
     .rename_i z hz
      split at e
      .rename_i hk
       simp only [Bool.and_eq_true,decide_eq_true_eq,Nat.beq_eq] at hk
       obtain ⟨⟨⟨k1,k2,k3,k4⟩,k5⟩,k6⟩:=hk
       simp only [forceNat_eq] at e
       cases e
       obtain ⟨i',zv,hi',hz',hzr,_⟩:=zeroCells_spec (σ:=σ) hz
       rw [hi] at hi'; cases hi'
       have hzs:zv.cells.size=i.size:=by have:=VRels.length hzr; simp at this; omega
       have w1:IntKind.i64.wrap n=n:=by
        have:n % 18446744073709551616=n:=Int.emod_eq_of_lt k1 (by omega)
        simp [IntKind.wrap,IntKind.bits,IntKind.signed,this]; omega
       have w2:IntKind.i64.wrap m=m:=by
        have:m % 18446744073709551616=m:=Int.emod_eq_of_lt (by omega) (by omega)
        simp [IntKind.wrap,IntKind.bits,IntKind.signed,this]; omega
       have hby:(i.bytes:Int)*m<=140737488355328:=by rw [Int.mul_comm]; exact k3
       have b1:¬ (281474976710656<(i.bytes:Int)*m):=by omega
       have hrep:VRels σ (repA z m.toNat) ((Array.range (m.toNat*zv.cells.size)).map (fun i=>zv.cells[i % zv.cells.size]!)).toList:=by
        rw [range_zero]; exact VRels.rep hzr _
       refine alloc_ok r el hrep _ _ (.slice (some ⟨W.heap.size,0,none⟩) n.toNat m.toNat) ?_ ⟨W.heap.size,_,add_here,rfl⟩
       have hs:(sizeOf el).run P W=.ok i.size W:=by simp [sizeOf,typeInfo,hi]
       have c1:¬ m<0:=by omega
       have c2:¬ n<0:=by omega
       have c3:¬ m<n:=by omega
       by_cases h0:m.toNat*i.size=0
       .have hm0:m=0\/i.size=0:=by rcases Nat.mul_eq_zero.1 h0 with h|h <;> omega
        have harr:((Array.range (m.toNat*zv.cells.size)).map (fun i=>zv.cells[i % zv.cells.size]!))=#[]:=by rw [hzs,h0,Array.range_zero']; simp
        rw [harr]
        simp [Instr.makeSlice,run_underlying hu,asInt,asIntOf,typeInfo,hi,w1,w2,b1,c1,c2,c3,hs,h0,newRow,Array.range_zero']
       .simp only [hzs]
        simp [Instr.makeSlice,run_underlying hu,asInt,asIntOf,typeInfo,hi,w1,w2,b1,c1,c2,c3,hs,h0,newRow,run_zero hi hz',hzs]
      .cases e
   .cases e
  .cases e
 .cases e
theorem len_ok {P:Program} {σ:Sg} {t ty:TypeId} {ts:Array TypeId} (hts:ts[0]?=some t) {x v:AV} {X:Value} (hx:VRel σ x X) {nd:Nd} (e:lenV P t x=some (nd,v)) (W:World):∃ V,(Builtin.len_ ts ty #[X]).run P W=.ok V W/\VRel σ v V:=by
 unfold lenV at e
 split at e
 .split at e
  .rename_i el hu
   cases e
   obtain ⟨_,_,_,_,rfl⟩:=hx
   exact ⟨_,by simp [Builtin.len_,hts,run_underlying hu,goInt],rfl⟩
  .cases e
 .split at e
  .rename_i el hu
   cases e
   obtain ⟨p,len,c,rfl,h1,_⟩:=hx
   exact ⟨.int .i64 len,by simp [Builtin.len_,hts,run_underlying hu,goInt],by rw [mkInt_rel,h1.1]⟩
  .cases e
 .split at e
  .rename_i el hu
   cases e
   obtain ⟨p,len,c,rfl,h1,_⟩:=hx
   exact ⟨.int .i64 len,by simp [Builtin.len_,hts,run_underlying hu,goInt],by rw [<- h1.1]; rfl⟩
  .cases e
 .split at e
  .rename_i el hu
   cases e
   obtain ⟨_,_,_,rfl⟩:=hx
   exact ⟨_,by simp [Builtin.len_,hts,run_underlying hu,goInt],rfl⟩
  .cases e
 .split at e
  .rename_i el hu
   cases e
   obtain ⟨_,_,_,_,_,rfl,_⟩:=hx
   exact ⟨_,by simp [Builtin.len_,hts,run_underlying hu,goInt],rfl⟩
  .cases e
 .split at e
  .rename_i el hu
   cases e
   obtain rfl:=hx
   exact ⟨.int .i64 0,by simp [Builtin.len_,hts,run_underlying hu,goInt],rfl⟩
  .cases e
 .split at e
  .rename_i hu
   cases e
   obtain rfl:=hx
   exact ⟨_,by simp [Builtin.len_,hts,run_underlying hu,goInt]; rfl,by simp⟩
  .cases e
 .split at e
  .rename_i n el hu
   cases e
   exact ⟨.int .i64 n,by simp [Builtin.len_,hts,run_underlying hu,goInt],rfl⟩
  .cases e
theorem foldA_ok {P:Program} {σ:Sg} {f:AV->AV->Option AV} {F:Value->Value->Sem Value} (hF:∀ a b v A B (W:World),VRel σ a A->VRel σ b B->f a b=some v->∃ V,(F A B).run P W=.ok V W/\VRel σ v V) (W:World):
  ∀ (l:List AV) (a v:AV) (A:Value) (L:List Value),VRel σ a A->VRels σ l L->foldA f a l=some v->∃ V,(L.foldlM F A).run P W=.ok V W/\VRel σ v V
 | [],a,v,A,L,ha,hl,e=>by
  rw [show L=[] from hl]; cases e
  exact ⟨A,rfl,ha⟩
 | b :: l,a,v,A,_,ha,⟨B,L,rfl,hb,hl⟩,e=>by
  simp only [foldA] at e
  split at e
  .cases e
  .rename_i c hc
   obtain ⟨V,h1,h2⟩:=hF a b c A B W ha hb hc
   obtain ⟨U,h3,h4⟩:=foldA_ok hF W l c v V L h2 hl e
   exact ⟨U,by simp [List.foldlM_cons,h1,h3],h4⟩
theorem min_ok {P:Program} {σ:Sg} {ts:Array TypeId} {ty:TypeId} {h:Hp} {W:World} (r:HRel σ h W) {l:List AV} {L:Array Value} (hl:VRels σ l L.toList) {q:S1} (e:opFold h min2 l=some q):
  OpOk P (do pure (.value (<- Builtin.min_ ts ty L))) σ h W q:=by
 unfold opFold at e
 split at e
 .cases e
 .rename_i a l
  obtain ⟨v,h1,rfl⟩:=plain1_some e
  obtain ⟨A,M,hLM,ha,hM⟩:=hl
  obtain ⟨V,h2,h3⟩:=foldA_ok (P:=P) (σ:=σ) (F:=Builtin.min2) (fun a b v A B W ha hb hv=>by
   unfold min2 at hv
   split at hv
   .cases hv
    obtain rfl:=ha; obtain rfl:=hb
    exact ⟨_,by simp [Builtin.min2]; rfl,by simp⟩
   .cases hv) W l a v A M ha hM h1
  exact OpOk.pure r fun _=>⟨V,by simp [Builtin.min_,hLM,h2],h3⟩
theorem max_ok {P:Program} {σ:Sg} {ts:Array TypeId} {ty:TypeId} {h:Hp} {W:World} (r:HRel σ h W) {l:List AV} {L:Array Value} (hl:VRels σ l L.toList) {q:S1} (e:opFold h max2 l=some q):
  OpOk P (do pure (.value (<- Builtin.max_ ts ty L))) σ h W q:=by
 unfold opFold at e
 split at e
 .cases e
 .rename_i a l
  obtain ⟨v,h1,rfl⟩:=plain1_some e
  obtain ⟨A,M,hLM,ha,hM⟩:=hl
  obtain ⟨V,h2,h3⟩:=foldA_ok (P:=P) (σ:=σ) (F:=Builtin.max2) (fun a b v A B W ha hb hv=>by
   unfold max2 at hv
   split at hv
   .cases hv
    obtain rfl:=ha; obtain rfl:=hb
    exact ⟨_,by simp [Builtin.max2]; rfl,by simp⟩
   .cases hv) W l a v A M ha hM h1
  exact OpOk.pure r fun _=>⟨V,by simp [Builtin.max_,hLM,h2],h3⟩
theorem eqKey_ok {σ:Sg} {kd:TypeDesc} {a b:AV} {A B:Value} (ha:VRel σ a A) (hb:VRel σ b B) {p:Bool} (e:eqKey kd a b=some p):Instr.sameNow kd A B=some p:=by
 unfold eqKey at e
 split at e
 .split at e
  .rename_i k x k' y
   split at e
   .rename_i hk; subst hk
    cases e
    obtain rfl:=ha; obtain rfl:=hb
    simp [Instr.sameNow]
   .cases e
  .cases e
 .split at e
  .cases e
   obtain rfl:=ha; obtain rfl:=hb
   rfl
  .cases e
 .split at e
  .cases e
   obtain rfl:=ha; obtain rfl:=hb
   simp only [Instr.sameNow,eqBytes_eq]
  .cases e
 .cases e
theorem findE_ok {σ:Sg} {kd:TypeDesc} {k:AV} {K:Value} (hk:VRel σ k K):∀ (es:List (AV×AV)) (E:List MapEntry) (j:Nat) (res:Option AV),VRels σ (es.map (·.1)) (E.map (·.key))->VRels σ (es.map (·.2)) (E.map (·.val))->findE kd k es=some res ->
  ∃ R,Instr.findNow kd K E j=some R/\(match res,R with|none,none=>True|some v,some (_,V)=>VRel σ v V|_,_=>False)
 | [],E,j,res,h1,_,e=>by
  cases e
  have:E=[]:=by have:=VRels.length h1; simpa using this
  subst this
  exact ⟨none,rfl,trivial⟩
 | (a,v) :: es,E,j,res,h1,h2,e=>by
  cases E with
  | nil=>obtain ⟨_,_,h,_⟩:=h1; cases h
  | cons m E=>
   obtain ⟨A,As,hA,ra,rs⟩:=h1
   obtain ⟨V,Vs,hV,rv,rvs⟩:=h2
   simp only [List.map_cons,List.cons.injEq] at hA hV
   obtain ⟨rfl,rfl⟩:=hA
   obtain ⟨rfl,rfl⟩:=hV
   simp only [findE] at e
   split at e
   .cases e
   .rename_i hq
    cases e
    exact ⟨some (j,m.val),by simp [Instr.findNow,eqKey_ok hk ra hq],rv⟩
   .rename_i hq
    obtain ⟨R,h3,h4⟩:=findE_ok hk es E (j+1) res rs rvs e
    exact ⟨R,by simp [Instr.findNow,eqKey_ok hk ra hq,h3],h4⟩
theorem eqKey_true {kd:TypeDesc} {a b:AV} (e:eqKey kd a b=some true):a=b:=by
 unfold eqKey at e
 split at e
 .split at e
  .split at e
   .rename_i hk; subst hk
    simp only [Option.some.injEq,beq_iff_eq] at e
    rw [e]
   .cases e
  .cases e
 .split at e
  .simp only [Option.some.injEq,beq_iff_eq] at e
   rw [e]
  .cases e
 .split at e
  .simp only [Option.some.injEq] at e
   rw [(eqBytes_iff _ _).1 e]
  .cases e
 .cases e
theorem findE_spec {kd:TypeDesc} {k:AV}:∀ {es:List (AV×AV)},decidedE kd k es=true->(∃ v,findE kd k es=some (some v)/\(k,v)∈es)\/(findE kd k es=some none/\∀ v,(k,v)∈es->eqKey kd k k=some false)
 | [],_=>.inr ⟨rfl,fun v h=>by cases h⟩
 | (a,v) :: es,h=>by
  simp only [decidedE] at h
  simp only [findE]
  cases hq:eqKey kd k a with
  | none=>rw [hq] at h; cases h
  | some p=>
   rw [hq] at h
   cases p with
   | true=>
    have:=eqKey_true hq
    subst this
    exact .inl ⟨v,rfl,by simp⟩
   | false=>
    rcases findE_spec h with ⟨w,h1,h2⟩|⟨h1,h2⟩
    .exact .inl ⟨w,h1,by simp [h2]⟩
    .refine .inr ⟨h1,fun w hw=>?_⟩
     rcases List.mem_cons.1 hw with hw|hw
     .cases hw; exact hq
     .exact h2 w hw
theorem decidedE_mem {kd:TypeDesc} {k:AV}:∀ {es:List (AV×AV)},decidedE kd k es=true ↔ ∀ x∈es,eqKey kd k x.1≠none
 | []=>by simp [decidedE]
 | (a,v) :: es=>by
  simp only [decidedE,List.mem_cons,forall_eq_or_imp]
  cases hq:eqKey kd k a with
  | none=>simp
  | some p=>simp [decidedE_mem (es:=es)]
theorem nodup_val:∀ {es:List (AV×AV)} {k v w:AV},(es.map (·.1)).Nodup->(k,v)∈es->(k,w)∈es->v=w
 | [],k,v,w,_,h,_=>by cases h
 | (a,x) :: es,k,v,w,hn,h1,h2=>by
  simp only [List.map_cons,List.nodup_cons] at hn
  rcases List.mem_cons.1 h1 with e1|e1 <;> rcases List.mem_cons.1 h2 with e2|e2
  .cases e1; cases e2; rfl
  .cases e1; exact absurd (List.mem_map.2 ⟨_,e2,rfl⟩) hn.1
  .cases e2; exact absurd (List.mem_map.2 ⟨_,e1,rfl⟩) hn.1
  .exact nodup_val hn.2 e1 e2
theorem eqKey_dec {kd:TypeDesc} {k:AV} (h:eqKey kd k k=some false):False:=by
 cases kd with
 | int q=>cases k with
  | int s kk n=>cases s with
   | false=>simp [eqKey] at h
   | true=>cases h
  | _=>cases h
 | bool=>cases k with
  | bool s b=>cases s with
   | false=>simp [eqKey] at h
   | true=>cases h
  | _=>cases h
 | string=>cases k with
  | str s b=>cases s with
   | false=>
    simp only [eqKey,Option.some.injEq] at h
    rw [(eqBytes_iff _ _).2 rfl] at h; cases h
   | true=>cases h
  | _=>cases h
 | _=>cases h
theorem findD_perm {kd:TypeDesc} {k:AV} {es es':List (AV×AV)} (hp:es'.Perm es) (hn:(es.map (·.1)).Nodup) {res:Option AV} (e:findD kd k es=some res):findE kd k es'=some res:=by
 unfold findD at e
 split at e
 .rename_i hd
  have hd':decidedE kd k es'=true:=decidedE_mem.2 fun x hx=>decidedE_mem.1 hd x (hp.mem_iff.1 hx)
  rcases findE_spec hd with ⟨v,h1,h2⟩|⟨h1,h2⟩ <;> rcases findE_spec hd' with ⟨w,h3,h4⟩|⟨h3,h4⟩
  .rw [h1] at e; cases e
   rw [h3,nodup_val hn h2 (hp.mem_iff.1 h4)]
  .exact (eqKey_dec (h4 v (hp.mem_iff.2 h2))).elim
  .exact (eqKey_dec (h2 w (hp.mem_iff.1 h4))).elim
  .rw [h1] at e; cases e; exact h3
 .cases e
theorem zeroV_ok {P:Program} {σ:Sg} {t:TypeId} {v:AV} (e:zeroV P t=some v) (W:World):∃ V,(zeroValue t).run P W=.ok V W/\VRel σ v V:=by
 unfold zeroV at e
 split at e
 .cases e
 .rename_i i hi
  split at e
  .cases e
  .rename_i cs hz
   cases hm:mapO ofCell cs.toList with
   | none=>rw [hm] at e; cases e
   | some l=>
    rw [hm] at e; cases e
    exact ⟨.agg cs,run_zero hi hz W,cs,rfl,(mapO_ofCell hm).1⟩
  .rename_i z hn hz
   exact ⟨z,run_zero hi hz W,(ofCell_rel e).1⟩
theorem checkKey_plain {P:Program} {W:World} {b:Bool} {t:TypeId} {kd:TypeDesc} (hu:P.underlying t=some kd) (hk:isKeyT kd=true) (v:Value) (n:Nat):(Instr.checkKey b (n+1) t v).run P W=.ok () W:=by
 cases kd <;> simp [isKeyT] at hk <;> simp [Instr.checkKey,run_underlying hu]
theorem lookup_ok {P:Program} {σ:Sg} {h:Hp} {W:World} (r:HRel σ h W) {t:TypeId} {x k v:AV} {X K:Value} (hx:VRel σ x X) (hk:VRel σ k K) {ok:Bool} (e:lookupV P h t x k ok=some v):
  ∃ V,(Instr.lookup t X K ok).run P W=.ok V W/\VRel σ v V:=by
 unfold lookupV at e
 split at e
 .rename_i kt el hu
  split at e
  .cases e
  .rename_i kd hkd
   split at e
   .cases e
   .rename_i hkey
    split at e
    .rename_i i
     obtain ⟨B,N,hσ,rfl⟩:=hx
     split at e
     .rename_i w es hg
      obtain ⟨B',N',o,q1,q2,E,cl,es',rfl,qp,qn,q3,q4⟩:=r.blk i _ hg rfl
      rw [hσ] at q1; cases q1
      have hget:(getObj B).run P W=.ok (.map E cl) W:=by
       simp only [getObj,Sem.run,q2]
      have hck:(Instr.checkKey E.isEmpty 10000 kt K).run P W=.ok () W:=checkKey_plain hkd hkey K 9999
      split at e
      .cases e
      .rename_i u hf
       obtain ⟨R,h1,h2⟩:=findE_ok hk es' E.toList 0 _ q3 q4 (findD_perm qp qn hf)
       cases R with
       | none=>exact h2.elim
       | some R=>
        obtain ⟨j,V⟩:=R
        have hfk:(Instr.findKey kt K E.toList).run P W=.ok (some (j,V)) W:=by
         simp [Instr.findKey,run_underlying hkd,h1]
        cases e
        refine ⟨if ok then .tuple #[V,.bool true] else V,?_,?_⟩
        .simp only [Instr.lookup,Sem.run_bind,run_underlying hu,Result.andThen_ok,hget,Sem.run_pure,hck,hfk]
        .cases ok
         .exact h2
         .exact ⟨_,rfl,_,_,rfl,h2,_,_,rfl,rfl,rfl⟩
      .rename_i hf
       obtain ⟨R,h1,h2⟩:=findE_ok hk es' E.toList 0 _ q3 q4 (findD_perm qp qn hf)
       cases R with
       | some R=>exact h2.elim
       | none=>
        have hfk:(Instr.findKey kt K E.toList).run P W=.ok none W:=by
         simp [Instr.findKey,run_underlying hkd,h1]
        split at e
        .cases e
        .rename_i z hz
         cases e
         obtain ⟨Z,z1,z2⟩:=zeroV_ok (P:=P) (σ:=σ) hz W
         refine ⟨if ok then .tuple #[Z,.bool false] else Z,?_,?_⟩
         .simp only [Instr.lookup,Sem.run_bind,run_underlying hu,Result.andThen_ok,hget,Sem.run_pure,hck,hfk,z1]
         .cases ok
          .exact z2
          .exact ⟨_,rfl,_,_,rfl,z2,_,_,rfl,rfl,rfl⟩
     .cases e
    .cases e
 .cases e
theorem eqKey_val {σ:Sg} {kd:TypeDesc} {a b:AV} (h:eqKey kd a b=some true) {A B:Value} (ha:VRel σ a A) (hb:VRel σ b B):A=B/\∀ n,Instr.sameBits n A A=true:=by
 have hab:=eqKey_true h
 subst hab
 unfold eqKey at h
 split at h
 .split at h
  .obtain rfl:=ha; obtain rfl:=hb
   exact ⟨rfl,fun n=>by cases n <;> simp [Instr.sameBits]⟩
  .cases h
 .split at h
  .obtain rfl:=ha; obtain rfl:=hb
   exact ⟨rfl,fun n=>by cases n <;> simp [Instr.sameBits]⟩
  .cases h
 .split at h
  .obtain rfl:=ha; obtain rfl:=hb
   refine ⟨rfl,fun n=>?_⟩
   have:∀ b:ByteArray,(b==b)=true:=fun b=>by rw [<- eqBytes_eq]; exact (eqBytes_iff _ _).2 rfl
   cases n <;> simp only [Instr.sameBits,this]
  .cases h
 .cases h
theorem updE_same {kd:TypeDesc} {k v:AV}:∀ {es:List (AV×AV)},k ∉ es.map (·.1)->updE kd k v es=es
 | [],_=>rfl
 | (a,x) :: es,h=>by
  simp only [List.map_cons,List.mem_cons,not_or] at h
  simp only [updE,updE_same h.2]
  split
  .rename_i hq
   exact absurd (eqKey_true hq) h.1
  .rfl
theorem updE_keys {kd:TypeDesc} {k v:AV}:∀ (es:List (AV×AV)),(updE kd k v es).map (·.1)=es.map (·.1)
 | []=>rfl
 | (a,x) :: es=>by
  simp only [updE,List.map_cons,updE_keys es]
  split <;> rfl
theorem updE_map (kd:TypeDesc) (k v:AV):∀ (es:List (AV×AV)),updE kd k v es=es.map fun e=>match eqKey kd k e.1 with
  | some true=>(e.1,v)
  | _=>e
 | []=>rfl
 | (a,x) :: es=>by rw [updE,List.map_cons,updE_map kd k v es]; rfl
theorem updE_ok {σ:Sg} {kd:TypeDesc} {k v:AV} {K V:Value} (hk:VRel σ k K) (hv:VRel σ v V):∀ (es:List (AV×AV)) (E:List MapEntry) (j0 j:Nat) (U:Value),VRels σ (es.map (·.1)) (E.map (·.key))->VRels σ (es.map (·.2)) (E.map (·.val))->(es.map (·.1)).Nodup->decidedE kd k es=true ->
  Instr.findNow kd K E j0=some (some (j,U))->∃ i m,j=j0+i/\E[i]?=some m/\m.key=K/\(∀ n,Instr.sameBits n K K=true)/\VRels σ ((updE kd k v es).map (·.2)) ((E.modify i fun e=>{ e with key:=K,val:=V }).map (·.val))/\VRels σ (es.map (·.1)) ((E.modify i fun e=>{ e with key:=K,val:=V }).map (·.key))
 | [],E,j0,j,U,h1,_,_,_,e=>by
  have:E=[]:=by have:=VRels.length h1; simpa using this
  subst this
  cases e
 | (a,x) :: es,E,j0,j,U,h1,h2,hn,hd,e=>by
  cases E with
  | nil=>obtain ⟨_,_,h,_⟩:=h1; cases h
  | cons m E=>
   obtain ⟨A,As,hA,ra,rs⟩:=h1
   obtain ⟨X,Xs,hX,rx,rxs⟩:=h2
   simp only [List.map_cons,List.cons.injEq] at hA hX
   obtain ⟨rfl,rfl⟩:=hA
   obtain ⟨rfl,rfl⟩:=hX
   simp only [List.map_cons,List.nodup_cons] at hn
   simp only [decidedE] at hd
   simp only [Instr.findNow] at e
   cases hq:eqKey kd k a with
   | none=>rw [hq] at hd; cases hd
   | some p=>
    rw [hq] at hd
    rw [eqKey_ok hk ra hq] at e
    cases p with
    | true=>
     cases e
     obtain ⟨hKA,hs⟩:=eqKey_val hq hk ra
     have hka:=eqKey_true hq
     refine ⟨0,m,rfl,rfl,hKA.symm,hs,?_,?_⟩
     .simp only [updE,hq,List.map_cons,List.modify_zero_cons]
      rw [updE_same (by rw [hka]; exact hn.1)]
      exact ⟨V,_,rfl,hv,rxs⟩
     .simp only [List.map_cons,List.modify_zero_cons]
      exact ⟨K,_,rfl,by rw [hKA]; exact ra,rs⟩
    | false=>
     obtain ⟨i,m',h3,h4,h5,h6,h7,h8⟩:=updE_ok hk hv es E (j0+1) j U rs rxs hn.2 hd e
     refine ⟨i+1,m',by omega,by simpa using h4,h5,h6,?_,?_⟩
     .simp only [updE,hq,List.map_cons,List.modify_succ_cons]
      exact ⟨_,_,rfl,rx,h7⟩
     .simp only [List.map_cons,List.modify_succ_cons]
      exact ⟨_,_,rfl,ra,h8⟩
theorem makeMap_ok {P:Program} {σ:Sg} {h:Hp} {W:World} (r:HRel σ h W) {t:TypeId} {x:Option AV} {X:Option Value} (hx:match x,X with|none,none=>True|some a,some A=>VRel σ a A|_,_=>False) {q:S1} (e:opMakeMap P h t x=some q):
  OpOk P (do pure (.value (<- Instr.makeMap t X))) σ h W q:=by
 have main:∀ m:Sem Value,m.run P W=.ok (.map (some W.heap.size)) (W.alloc (.map #[] 0))->OpOk P (do pure (.value (<- m))) σ h W ⟨.tt,.map h.size,h.push (.map [])⟩:=fun m hm _=>by
  obtain ⟨h1,h2⟩:=r.alloc (.map []) (.map #[] 0) 0 ⟨#[],0,[],rfl,.refl _,by simp,rfl,rfl⟩
  exact ⟨_,.map (some W.heap.size),_,_,by simp [hm],.inl rfl,⟨W.heap.size,0,add_here,rfl⟩,h1,h2⟩
 unfold opMakeMap at e
 split at e
 .cases e
  cases X with
  | some _=>exact hx.elim
  | none=>exact main _ (by simp [Instr.makeMap,newObj,Sem.run])
 .split at e
  .rename_i hu
   cases e
   cases X with
   | none=>exact hx.elim
   | some A=>
    obtain rfl:=hx
    exact main _ (by simp [Instr.makeMap,newObj,Sem.run,run_underlying hu,asInt,asIntOf])
  .cases e
 .cases e
theorem mapUpdate_ok {P:Program} {σ:Sg} {h:Hp} {W:World} (r:HRel σ h W) {t:TypeId} {x k v:AV} {X K V:Value} (hx:VRel σ x X) (hk:VRel σ k K) (hv:VRel σ v V) {q:S1} (e:opMapUpdate P h t x k v=some q):
  OpOk P (do Instr.mapUpdate t X K V; pure .skip) σ h W q:=by
 intro hn
 unfold opMapUpdate at e
 split at e
 .rename_i kt el hu
  split at e
  .cases e
  .rename_i kd hkd
   split at e
   .cases e
   .rename_i hkey
    split at e
    .rename_i i
     obtain ⟨B,N,hσ,rfl⟩:=hx
     split at e
     .rename_i w es hg
      obtain ⟨B',N',o,q1,q2,E,cl,es',rfl,qp,qn,q3,q4⟩:=r.blk i _ hg rfl
      rw [hσ] at q1; cases q1
      have hlt:B<W.heap.size:=(Array.getElem?_eq_some_iff.1 q2).1
      have hget:(getObj B).run P W=.ok (.map E cl) W:=by simp only [getObj,Sem.run,q2]
      have hset:∀ o',(setObj B o').run P W=.ok () { W with heap:=W.heap.setIfInBounds B o' }:=fun o'=>by simp only [setObj,Sem.run,q2,Option.isSome_some,if_true]
      have hck:(Instr.checkKey false 10000 kt K).run P W=.ok () W:=checkKey_plain hkd hkey K 9999
      have qn':(es'.map (·.1)).Nodup:=(qp.map (·.1)).nodup_iff.2 qn
      have wr:∀ (o':Obj) (d:ABody),BRel σ N d o'->coldO o'->HRel σ (h.put i d) { W with heap:=W.heap.setIfInBounds B o' }/\Good σ h W σ (h.put i d) { W with heap:=W.heap.setIfInBounds B o' }:=fun o' d hb hc=>
       r.write hg rfl hσ d (loopKept_of fun c h=>by cases h) o' (by simp [Array.getElem?_setIfInBounds,hlt]) hb (by simp) (fun j hj=>by simp [Array.getElem?_setIfInBounds,Ne.symm hj]) rfl rfl rfl hc
      split at e
      .rename_i hself
       split at e
       .cases e
       .rename_i u hf
        rw [Hp.set_eq] at e
        cases e
        have hdec:decidedE kd k es'=true:=by
         unfold findD at hf
         split at hf
         .rename_i hd
          exact decidedE_mem.2 fun y hy=>decidedE_mem.1 hd y (qp.mem_iff.1 hy)
         .cases hf
        obtain ⟨R,h1,h2⟩:=findE_ok hk es' E.toList 0 _ q3 q4 (findD_perm qp qn hf)
        cases R with
        | none=>exact h2.elim
        | some R=>
         obtain ⟨j,U⟩:=R
         have hfk:(Instr.findKey kt K E.toList).run P W=.ok (some (j,U)) W:=by
          simp [Instr.findKey,run_underlying hkd,h1]
         obtain ⟨i',m,h3,h4,h5,h6,h7,h8⟩:=updE_ok (V:=V) hk hv es' E.toList 0 j U q3 q4 qn' hdec h1
         rw [Nat.zero_add] at h3
         subst h3
         have h4':E[j]?=some m:=by rw [<- Array.getElem?_toList]; exact h4
         have hst:(Instr.keyThatStays (((E[j]?).map (·.key)).getD K) K).run P W=.ok K W:=by
          rw [h4']
          simp only [Option.map_some,Option.getD_some,h5,Instr.keyThatStays,h6,if_true,Sem.run_pure]
         obtain ⟨w1,w2⟩:=wr (.map (E.modify j fun e=>{ e with key:=K,val:=V }) cl) (.map (updE kd k v es)) ⟨_,cl,updE kd k v es',rfl,by
           rw [updE_map,updE_map]; exact qp.map _,by rw [updE_keys]; exact qn,by
           rw [updE_keys,Array.toList_modify]; exact h8,by
           rw [Array.toList_modify]; exact h7⟩ (fun _ _ _ h=>by cases h)
         refine ⟨σ,undef,_,_,?_,.inr ⟨rfl,rfl⟩,⟨#[],rfl,rfl⟩,w1,w2⟩
         simp only [Instr.mapUpdate,Sem.run_bind,run_underlying hu,Result.andThen_ok,hget,hck,hfk,hst,hset,Sem.run_pure]
       .rename_i hf
        rw [Hp.set_eq] at e
        cases e
        obtain ⟨R,h1,h2⟩:=findE_ok hk es' E.toList 0 _ q3 q4 (findD_perm qp qn hf)
        cases R with
        | some R=>exact h2.elim
        | none=>
         have hfk:(Instr.findKey kt K E.toList).run P W=.ok none W:=by
          simp [Instr.findKey,run_underlying hkd,h1]
         have hnot:k ∉ es.map (·.1):=fun hm=>by
          obtain ⟨y,hy,rfl⟩:=List.mem_map.1 hm
          unfold findD at hf
          split at hf
          .rename_i hd
           rcases findE_spec hd with ⟨v',h3,h4⟩|⟨h3,h4⟩
           .rw [h3] at hf; cases hf
           .have:=h4 y.2 hy
            rw [hself] at this; cases this
          .cases hf
         obtain ⟨w1,w2⟩:=wr (.map (E.push { key:=K,val:=V,born:=cl }) (cl+1)) (.map ((k,v) :: es)) ⟨_,cl+1,es'++[(k,v)],rfl,(List.perm_append_singleton _ _).trans (qp.cons _),by
           simp only [List.map_cons,List.nodup_cons]; exact ⟨hnot,qn⟩,by
           simp only [List.map_append,Array.toList_push]; exact VRels.append q3 ⟨_,_,rfl,hk,rfl⟩,by
           simp only [List.map_append,Array.toList_push]; exact VRels.append q4 ⟨_,_,rfl,hv,rfl⟩⟩ (fun _ _ _ h=>by cases h)
         refine ⟨σ,undef,_,_,?_,.inr ⟨rfl,rfl⟩,⟨#[],rfl,rfl⟩,w1,w2⟩
         simp only [Instr.mapUpdate,Sem.run_bind,run_underlying hu,Result.andThen_ok,hget,hck,hfk,hset,Sem.run_pure]
      .cases e
     .cases e
    .cases e
 .cases e
theorem makeIface_ok {P:Program} {σ:Sg} {h:Hp} {W:World} (r:HRel σ h W) {t:TypeId} {v:AV} {V:Value} (hv:VRel σ v V) {q:S1} (e:opMakeIface P h t v=some q):
  OpOk P (do pure (.value (<- Instr.makeInterface t V))) σ h W q:=by
 unfold opMakeIface at e
 split at e
 .cases e
 .cases e
 .rename_i d hno hd
  cases e
  refine OpOk.pure r fun _=>⟨.iface t V,?_,V,rfl,hv⟩
  simp only [Instr.makeInterface,Sem.run_bind,run_underlying hd,Result.andThen_ok]
  cases d <;> first|(exact absurd hd (hno _))|simp
theorem typeAssert_ok {P:Program} {σ:Sg} {h:Hp} {W:World} (r:HRel σ h W) {xt t:TypeId} {v:AV} {V:Value} {ok:Bool} (hv:VRel σ v V) {q:S1} (e:opTypeAssert P h v t ok=some q):
  OpOk P (do pure (.value (<- Instr.typeAssert V xt t ok))) σ h W q:=by
 unfold opTypeAssert at e
 split at e
 .cases e
 .cases e
 .rename_i d hno hd
  simp only at e
  have hfail:∀ (F:Option TypeId->Option TypeId->String->Sem Value) (a b:Option TypeId) (s:String),True:=fun _ _ _ _=>trivial
  split at e
  .rename_i t' a
   obtain ⟨x,rfl,hx⟩:=hv
   split at e
   .rename_i ht
    have:=Nat.eq_of_beq_eq_true ht
    subst this
    cases e
    cases ok with
    | true=>
     refine OpOk.pure r fun _=>⟨.tuple #[x,.bool true],?_,_,rfl,_,_,rfl,hx,_,_,rfl,rfl,rfl⟩
     simp only [Instr.typeAssert,Sem.run_bind,run_underlying hd,Result.andThen_ok]
     cases d <;> first|(exact absurd hd (hno _))|simp
    | false=>
     refine OpOk.pure r fun _=>⟨x,?_,hx⟩
     simp only [Instr.typeAssert,Sem.run_bind,run_underlying hd,Result.andThen_ok]
     cases d <;> first|(exact absurd hd (hno _))|simp
   .rename_i ht
    have hne:t'≠t:=fun h=>by subst h; rw [Nat.beq_refl] at ht; cases ht
    split at e
    .split at e
     .cases e
     .rename_i z hz
      cases e
      obtain ⟨Z,z1,z2⟩:=zeroV_ok (P:=P) (σ:=σ) hz W
      refine OpOk.pure r fun _=>⟨.tuple #[Z,.bool false],?_,_,rfl,_,_,rfl,z2,_,_,rfl,rfl,rfl⟩
      simp only [Instr.typeAssert,Sem.run_bind,run_underlying hd,Result.andThen_ok]
      cases d <;> first|(exact absurd hd (hno _))|simp [hne,z1]
    .cases e
  .obtain rfl:=hv
   split at e
   .split at e
    .cases e
    .rename_i z hz
     cases e
     obtain ⟨Z,z1,z2⟩:=zeroV_ok (P:=P) (σ:=σ) hz W
     refine OpOk.pure r fun _=>⟨.tuple #[Z,.bool false],?_,_,rfl,_,_,rfl,z2,_,_,rfl,rfl,rfl⟩
     simp only [Instr.typeAssert,Sem.run_bind,run_underlying hd,Result.andThen_ok]
     cases d <;> first|(exact absurd hd (hno _))|simp [z1]
   .cases e
  .cases e
theorem vals {σ:Sg} {C:Ctx} {s:St} {T:Array Value} (g:GRel C σ) (h:TRel σ s.tmps T) (l:Array Operand):VRels σ (evalL C s l.toList) (l.map (ev T)).toList:=by
 simpa using evalL_rel g h l.toList
theorem simple_ok {C:Ctx} {σ:Sg} {s:St} {T:Array Value} {W:World} (g:GRel C σ) (ht:TRel σ s.tmps T) (r:HRel σ s.hp W) {o:Oper} {q:S1} (e:simple C s o.op=some q):OpOk C.P (execOp (ev T) o) σ s.hp W q:=by
 have E:=fun x=>evalA_rel (C:=C) (s:=s) g ht x
 unfold simple at e
 split at e
 .rename_i x ho; cases e
  exact OpOk.pure r fun _=>⟨ev T x,by simp [execOp,ho],E x⟩
 .rename_i x ho; cases e
  exact OpOk.pure r fun _=>⟨ev T x,by simp [execOp,ho],E x⟩
 .rename_i c a b ho
  have:=opPick_ok (P:=C.P) r (E c) (E a) (E b) e
  simpa [execOp,ho] using this
 .rename_i t ho
  have:=opAlloc_ok (P:=C.P) r e
  simpa [execOp,ho] using this
 .rename_i t x ho
  have:=opBox_ok (P:=C.P) r (t:=t) (E x) e
  simpa [execOp,ho] using this
 .rename_i t parts ho
  obtain ⟨v,h1,rfl⟩:=plain1_some e
  obtain ⟨p1,p2⟩:=evalParts_rel (C:=C) (s:=s) g ht parts.toList
  obtain ⟨V,h2,h3⟩:=build_ok (P:=C.P) (σ:=σ) (Ps:=parts.map fun (i,x)=>(i,ev T x)) (by simpa using p1) (by simpa using p2) h1 W
  exact OpOk.pure r fun _=>⟨V,by simp [execOp,ho,h2],h3⟩
 .rename_i t len parts ho
  obtain ⟨p1,p2⟩:=evalParts_rel (C:=C) (s:=s) g ht parts.toList
  have:=buildSlice_ok (P:=C.P) r (Ps:=parts.map fun (i,x)=>(i,ev T x)) (by simpa using p1) (by simpa using p2) e
  simpa [execOp,ho] using this
 .rename_i t x ho
  obtain ⟨nd,v,h1,rfl⟩:=pure1_some e
  refine OpOk.pure r fun hn=>?_
  obtain ⟨B,off,V,h2,h3,h4⟩:=load_ok r (E x) h1 hn
  exact ⟨V,by simp [execOp,ho,Instr.loadAt,h2,Instr.sureAddr,h3],h4⟩
 .rename_i t x y ho
  have:=store_ok (P:=C.P) r (E x) (E y) e
  simpa [execOp,ho] using this
 .rename_i x ho
  exact nilCheck_ok r (E x) e rfl ho
 .rename_i op t x y ty ho
  obtain ⟨nd,v,h1,rfl⟩:=pure1_some e
  refine OpOk.pure r fun hn=>?_
  obtain ⟨V,h2,h3,h4⟩:=binV_ok (P:=C.P) (E x) (E y) h1 hn x y W
  exact ⟨V,by simp [execOp,ho,h2,h3],h4⟩
 .rename_i op t x ho
  obtain ⟨v,h1,rfl⟩:=plain1_some e
  obtain ⟨V,h2,h3⟩:=unV_ok (P:=C.P) (E x) h1 W
  exact OpOk.pure r fun _=>⟨V,by simp [execOp,ho,h2],h3⟩
 .rename_i src dst x ho
  obtain ⟨v,h1,rfl⟩:=plain1_some e
  obtain ⟨V,h2,h3⟩:=convV_ok (P:=C.P) (E x) h1 W
  exact OpOk.pure r fun _=>⟨V,by simp [execOp,ho,h2],h3⟩
 .rename_i f first cap ho
  unfold opMakeFunc at e
  split at e
  .rename_i f
   cases e
   exact OpOk.pure r fun _=>⟨.func (.func f) (first.map (ev T)) (cap.map (ev T)),by simp [execOp,ho,Instr.makeFunc],_,_,rfl,vals g ht first,vals g ht cap⟩
  .cases e
 .rename_i t x lo hi mx ho
  obtain ⟨nd,v,h1,rfl⟩:=pure1_some e
  refine OpOk.pure r fun hn=>?_
  obtain ⟨V,h2,h3⟩:=slice_okN (P:=C.P) (E x) (evalO_rel g ht lo) (evalO_rel g ht hi) (evalO_rel g ht mx) h1 hn W
  exact ⟨V,by simp [execOp,ho,h2],h3⟩
 .rename_i t x f ho
  obtain ⟨v,h1,rfl⟩:=plain1_some e
  obtain ⟨V,h2,h3⟩:=fieldAddr_ok (P:=C.P) (E x) h1 W
  exact OpOk.pure r fun _=>⟨V,by simp [execOp,ho,h2],h3⟩
 .rename_i t x f ho
  obtain ⟨v,h1,rfl⟩:=plain1_some e
  obtain ⟨V,h2,h3⟩:=field_ok (P:=C.P) (E x) h1 W
  exact OpOk.pure r fun _=>⟨V,by simp [execOp,ho,h2],h3⟩
 .rename_i t x i ho
  obtain ⟨nd,v,h1,rfl⟩:=pure1_some e
  refine OpOk.pure r fun hn=>?_
  obtain ⟨V,h2,h3⟩:=indexAddr_ok (P:=C.P) (E x) (E i) h1 hn W
  exact ⟨V,by simp [execOp,ho,h2],h3⟩
 .rename_i t x i ho
  obtain ⟨nd,v,h1,rfl⟩:=pure1_some e
  refine OpOk.pure r fun hn=>?_
  obtain ⟨V,h2,h3⟩:=index_okN (P:=C.P) (E x) (E i) h1 hn W
  exact ⟨V,by simp [execOp,ho,h2],h3⟩
 .rename_i t x i ok ho
  obtain ⟨v,h1,rfl⟩:=plain1_some e
  obtain ⟨V,h2,h3⟩:=lookup_ok (P:=C.P) r (E x) (E i) h1
  exact OpOk.pure r fun _=>⟨V,by simp [execOp,ho,h2],h3⟩
 .rename_i t i ho
  have:=extract_ok (P:=C.P) r (E t) e
  simpa [execOp,ho] using this
 .rename_i t l c ho
  have:=makeSlice_ok (P:=C.P) r (E l) (E c) e
  simpa [execOp,ho] using this
 .rename_i t x ho
  have:=makeMap_ok (P:=C.P) r (X:=x.map (ev T)) (by cases x with|none=>trivial|some y=>exact E y) e
  simpa [execOp,ho] using this
 .rename_i t m k v ho
  have:=mapUpdate_ok (P:=C.P) r (E m) (E k) (E v) e
  simpa [execOp,ho] using this
 .rename_i t m k v ho
  have:=mapUpdate_ok (P:=C.P) r (E m) (E k) (E v) e
  simpa [execOp,ho] using this
 .rename_i t x ho
  have:=makeIface_ok (P:=C.P) r (E x) e
  simpa [execOp,ho] using this
 .rename_i x xt t ok ho
  have:=typeAssert_ok (P:=C.P) r (xt:=xt) (E x) e
  simpa [execOp,ho] using this
 .rename_i c ho
  unfold opCall at e
  split at e
  .rename_i b hb
   have hex:execOp (ev T) o=builtin b c.argTypes o.type (c.args.map fun|.const _=>true|_=>false) (c.args.map (ev T)):=by
    simp only [execOp,ho,resolve,hb]
    rfl
   rw [hex]
   unfold opBuiltin at e
   split at e
   .split at e
    .rename_i x t ha htp
     obtain ⟨nd,v,h1,rfl⟩:=pure1_some e
     have h0:c.argTypes[0]?=some t:=by rw [<- Array.getElem?_toList,htp]; rfl
     have hargs:c.args.map (ev T)=#[ev T x]:=by apply Array.toList_inj.1; simp [ha]
     obtain ⟨V,h2,h3⟩:=len_ok (P:=C.P) (ty:=o.type) h0 (E x) h1 W
     rw [hargs]
     exact OpOk.pure r fun _=>⟨V,by simp [builtin,h2],h3⟩
    .cases e
   .split at e
    .rename_i x y t ts ha htp
     have h0:c.argTypes[0]?=some t:=by rw [<- Array.getElem?_toList,htp]; rfl
     have hargs:c.args.map (ev T)=#[ev T x,ev T y]:=by apply Array.toList_inj.1; simp [ha]
     rw [hargs]
     have:=copy_ok (P:=C.P) r (ty:=o.type) h0 (E x) (E y) e
     simpa [builtin] using this
    .cases e
   .split at e
    .rename_i x y t u ha htp
     have h0:c.argTypes=#[t,u]:=by apply Array.toList_inj.1; simp [htp]
     have hargs:c.args.map (ev T)=#[ev T x,ev T y]:=by apply Array.toList_inj.1; simp [ha]
     rw [hargs,h0]
     have:=append_ok (P:=C.P) r (ty:=o.type) (E x) (E y) e
     simpa [builtin] using this
    .cases e
   .have:=min_ok (P:=C.P) r (ts:=c.argTypes) (ty:=o.type) (vals g ht c.args) e
    simpa [builtin] using this
   .have:=max_ok (P:=C.P) r (ts:=c.argTypes) (ty:=o.type) (vals g ht c.args) e
    simpa [builtin] using this
   .cases e
  .cases e
 .cases e
end Go.Eng
