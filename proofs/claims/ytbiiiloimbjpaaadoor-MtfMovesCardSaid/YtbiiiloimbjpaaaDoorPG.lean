/- What is proved: MtfMoves returns true, whatever the input (part 7). No conditions beyond those of the row. -/
import Derived.Test.YtbiiiloimbjpaaaDoorPF
import Derived.Laws.Bits64b
import Derived.Lib.BitFns
set_option linter.unusedVariables false
set_option linter.unusedSimpArgs false
set_option linter.unusedSectionVars false
namespace Go.Eng
open Go
noncomputable section
structure SumL (α:Type) where
 S:α->Patch
 I:α->Prop
 μ:α->Nat
 F:α->Ex×Patch
 next:α->α
 ids:α->List Nat
 X:α->Ex->Option (Patch×List Nat)
def SumL.way {α:Type} (u:SumL α) (y:α):Ex->Option (Patch×List Nat×Prop)
 | .normal=>some (u.S (u.next y),u.ids y,u.I (u.next y)/\u.μ (u.next y)<u.μ y/\u.F (u.next y)=u.F y)
 | x=>match u.X y x with
  | none=>none
  | some (p,ids)=>some (p,ids,u.F y=(x,p))
theorem C8 {C:Ctx} {r:Rec} (ro:RecOk C r) {fr:AFr} {a:Code} {s0:St} {α:Type} (u:SumL α) {y0:α} {ids0:List Nat} (hI:u.I y0) (start:jG (fit s0 s0 (ah s0 (u.S y0)) ids0)) (hs:fU s0.hp (u.S y0).old=true)
  (body:∀ y,u.I y->jG (d9 s0 (u.way y) (r.code fr a (ah s0 (u.S y))))) {q:R} (hq:∃ e,One q.l e/\e.x=(u.F y0).1/\e.s=ah s0 (u.F y0).2):CodeOk C fr (.loop a) s0 q:=by
 intro σ T0 D0 W0 g sr b k todo cs hst fb _
 obtain ⟨e0,h1,h2,h3⟩:=hq
 refine ⟨e0,h1,?_⟩
 rw [h2,h3]
 have main:∀ (n:Nat) (y:α),u.μ y<n->u.I y->∀ (τ:Sg) (T:Array Value) (D:List Deferred) (W:World),SRel τ (ah s0 (u.S y)) T D W->Step σ s0 W0 τ (ah s0 (u.S y)) W ->
   Post σ s0 W0 (Arr C.P (lone (b.fr T D (.code a :: .inLoop a :: k)) cs W) b k cs) (u.F y).1 (ah s0 (u.F y).2):=by
  intro n
  induction n with
  | zero=>intro y h; exact absurd h (Nat.not_lt_zero _)
  | succ n ih=>
   intro y hlt hy τ T D W sr1 st1
   obtain ⟨nd,e1,hn⟩:=body y hy
   unfold d9 at e1
   split at e1
   .cases e1
   .rename_i nd1 l hl
    split at e1
    .cases e1
    .rename_i m hm
     cases e1
     obtain ⟨e,o1,τ2,T2,D2,V2,sr2,st2,arr⟩:=ro.code _ _ _ _ hl τ T D W (g.mono st1.good.sub) sr1 b (.inLoop a :: k) _ cs (.inl rfl) (fb.mono st1.good.sub) (Nd.lv hn)
     obtain ⟨p,ids,x,m',hP,hold,hf,hm',hx⟩:=ui hm (Nd.rv hn) e o1
     have st3:=Step.trans sr1.ko sr2.ko st1 st2
     obtain ⟨υ,sr4,st4⟩:=vg sr sr2 st3 (iW sr.ko hold) hf hm'
     have later:∀ ex,ex≠.normal->(match u.X y ex with|none=>none|some (p,ids)=>some (p,ids,u.F y=(ex,p)))=some (p,ids,x)->Arr C.P (lone (b.fr T D (.code a :: .inLoop a :: k)) cs W) b (.inLoop a :: k) cs ex T2 D2 V2 ->
       Post σ s0 W0 (Arr C.P (lone (b.fr T D (.code a :: .inLoop a :: k)) cs W) b k cs) (u.F y).1 (ah s0 (u.F y).2):=by
      intro ex hne hP arr
      split at hP
      .cases hP
      .cases hP
       rw [show u.F y=_ from hx]
       exact ⟨υ,T2,D2,V2,sr4,st4,arr.pass rfl hne⟩
     cases hex:e.x with
     | normal=>
      rw [hex] at hP arr
      simp only [SumL.way] at hP
      cases hP
      obtain ⟨x1,x2,x3⟩:=hx
      have:=ih (u.next y) (by omega) x1 υ T2 D2 V2 sr4 st4
      rw [x3] at this
      refine this.imp fun T3 D3 V3 h=>.of_steps (Steps.trans arr (.one gT)) h
     | exit i=>rw [hex] at hP arr; exact later (.exit i) (fun h=>by cases h) hP arr
     | goto i=>rw [hex] at hP arr; exact later (.goto i) (fun h=>by cases h) hP arr
     | ret=>rw [hex] at hP arr; exact later .ret (fun h=>by cases h) hP arr
     | raise v=>rw [hex] at hP arr; exact later (.raise v) (fun h=>by cases h) hP arr
 obtain ⟨nd,e1,hn⟩:=start
 have refl:Step σ s0 W0 σ s0 W0:=⟨Good.refl σ s0.hp W0 fun i B N h=>(sr.h.dom i B N h).1,TMon.refl s0⟩
 obtain ⟨υ,sr1,st1⟩:=vg sr sr refl (iW sr.ko hs) e1 hn
 have:=main _ y0 (Nat.lt_succ_self _) hI υ T0 D0 W0 sr1 st1
 refine this.imp fun T3 D3 V3 h=>?_
 rcases hst with rfl|⟨c,hc,rfl⟩
 .exact .of_steps (.one sV) h
 .cases hc
  exact .of_steps (.one gT) h
theorem lY {C:Ctx} {r:Rec} (ro:RecOk C r) {fr:AFr} {a:Code} {s0:St} {α:Type} (u:SumL α) {y0:α} {ids0:List Nat} (hI:u.I y0) (start:jG (fit s0 s0 (ah s0 (u.S y0)) ids0)) (hs:fU s0.hp (u.S y0).old=true)
  (body:∀ y,u.I y->jG (d9 s0 (u.way y) (r.code fr a (ah s0 (u.S y))))) {x:Ex} {p:Patch} (hF:u.F y0=(x,p)):CodeOk C fr (.loop a) s0 ⟨.tt,[⟨.tt,x,ah s0 p⟩]⟩:=
 C8 ro u hI start hs body ⟨⟨.tt,x,ah s0 p⟩,rfl,by rw [hF],by rw [hF]⟩
theorem CodeOk.ctx {C D:Ctx} (hP:D.P=C.P) (hg:D.glob=C.glob) {fr:AFr} {a:Code} {s:St} {q:R} (h:CodeOk C fr a s q):CodeOk D fr a s q:=by
 intro σ T E W g sr b k todo cs hst fb hn
 rw [hP]
 exact h σ T E W (fun x i e=>g x i (by rw [hg]; exact e)) sr b k todo cs hst fb hn
theorem NR {C:Ctx} {fr:AFr} {a:Code} {s0:St} {α:Type} (u:SumL α) {y0:α} {ids0:List Nat} (hI:u.I y0) (start:jG (fit s0 s0 (ah s0 (u.S y0)) ids0)) (hs:fU s0.hp (u.S y0).old=true)
  (body:∀ y,u.I y->∃ (D:Ctx) (m:Nat),CtxOk D/\D.P=C.P/\D.glob=C.glob/\jG (d9 s0 (u.way y) ((run D m).code fr a (ah s0 (u.S y))))) {q:R} (hq:∃ e,One q.l e/\e.x=(u.F y0).1/\e.s=ah s0 (u.F y0).2):CodeOk C fr (.loop a) s0 q:=by
 intro σ T0 D0 W0 g sr b k todo cs hst fb _
 obtain ⟨e0,h1,h2,h3⟩:=hq
 refine ⟨e0,h1,?_⟩
 rw [h2,h3]
 have main:∀ (n:Nat) (y:α),u.μ y<n->u.I y->∀ (τ:Sg) (T:Array Value) (D:List Deferred) (W:World),SRel τ (ah s0 (u.S y)) T D W->Step σ s0 W0 τ (ah s0 (u.S y)) W ->
   Post σ s0 W0 (Arr C.P (lone (b.fr T D (.code a :: .inLoop a :: k)) cs W) b k cs) (u.F y).1 (ah s0 (u.F y).2):=by
  intro n
  induction n with
  | zero=>intro y h; exact absurd h (Nat.not_lt_zero _)
  | succ n ih=>
   intro y hlt hy τ T D W sr1 st1
   obtain ⟨D',fm,cod,hDP,hDg,nd,e1,hn⟩:=body y hy
   unfold d9 at e1
   split at e1
   .cases e1
   .rename_i nd1 l hl
    split at e1
    .cases e1
    .rename_i m hm
     cases e1
     obtain ⟨e,o1,τ2,T2,D2,V2,sr2,st2,arr⟩:=(CodeOk.ctx (C:=D') (D:=C) hDP.symm hDg.symm ((bL cod fm).code _ _ _ _ hl)) τ T D W (g.mono st1.good.sub) sr1 b (.inLoop a :: k) _ cs (.inl rfl) (fb.mono st1.good.sub) (Nd.lv hn)
     obtain ⟨p,ids,x,m',hP,hold,hf,hm',hx⟩:=ui hm (Nd.rv hn) e o1
     have st3:=Step.trans sr1.ko sr2.ko st1 st2
     obtain ⟨υ,sr4,st4⟩:=vg sr sr2 st3 (iW sr.ko hold) hf hm'
     have later:∀ ex,ex≠.normal->(match u.X y ex with|none=>none|some (p,ids)=>some (p,ids,u.F y=(ex,p)))=some (p,ids,x)->Arr C.P (lone (b.fr T D (.code a :: .inLoop a :: k)) cs W) b (.inLoop a :: k) cs ex T2 D2 V2 ->
       Post σ s0 W0 (Arr C.P (lone (b.fr T D (.code a :: .inLoop a :: k)) cs W) b k cs) (u.F y).1 (ah s0 (u.F y).2):=by
      intro ex hne hP arr
      split at hP
      .cases hP
      .cases hP
       rw [show u.F y=_ from hx]
       exact ⟨υ,T2,D2,V2,sr4,st4,arr.pass rfl hne⟩
     cases hex:e.x with
     | normal=>
      rw [hex] at hP arr
      simp only [SumL.way] at hP
      cases hP
      obtain ⟨x1,x2,x3⟩:=hx
      have:=ih (u.next y) (by omega) x1 υ T2 D2 V2 sr4 st4
      rw [x3] at this
      refine this.imp fun T3 D3 V3 h=>.of_steps (Steps.trans arr (.one gT)) h
     | exit i=>rw [hex] at hP arr; exact later (.exit i) (fun h=>by cases h) hP arr
     | goto i=>rw [hex] at hP arr; exact later (.goto i) (fun h=>by cases h) hP arr
     | ret=>rw [hex] at hP arr; exact later .ret (fun h=>by cases h) hP arr
     | raise v=>rw [hex] at hP arr; exact later (.raise v) (fun h=>by cases h) hP arr
 obtain ⟨nd,e1,hn⟩:=start
 have refl:Step σ s0 W0 σ s0 W0:=⟨Good.refl σ s0.hp W0 fun i B N h=>(sr.h.dom i B N h).1,TMon.refl s0⟩
 obtain ⟨υ,sr1,st1⟩:=vg sr sr refl (iW sr.ko hs) e1 hn
 have:=main _ y0 (Nat.lt_succ_self _) hI υ T0 D0 W0 sr1 st1
 refine this.imp fun T3 D3 V3 h=>?_
 rcases hst with rfl|⟨c,hc,rfl⟩
 .exact .of_steps (.one sV) h
 .cases hc
  exact .of_steps (.one gT) h
def wL (lo:Nat) (h:Hp) (ik:IntKind):AV->Option (Nd×List Int)
 | .nilslice=>some (.tt,[])
 | .eslice _=>some (.tt,[])
 | .lslice i n=>match h.get i with
  | some ⟨_,.rows k ys⟩=>match decide (ik=k)&&Nat.ble lo i with
   | true=>some (.p (n=ys.length),ys)
   | false=>none
  | _=>none
 | .islice w i o n=>match h.get i with
  | some ⟨_,.rows k ys⟩=>match decide (ik=k)&&Nat.ble lo i&&!w with
   | true=>some (.p (0<=o/\0<=n/\o+n<=ys.length),(ys.drop o.toNat).take n.toNat)
   | false=>none
  | some ⟨_,.ints k ys⟩=>match decide (ik=k)&&Nat.ble lo i&&w with
   | true=>some (.p (0<=o/\0<=n/\o+n<=ys.length),(ys.drop o.toNat).take n.toNat)
   | false=>none
  | _=>none
 | .slice i off l c=>match h.get i with
  | some ⟨_,.cells cs⟩=>match Nat.ble lo i&&Nat.ble l c with
   | true=>match bR l (aP off cs) with
    | none=>none
    | some q=>match nK ik q with
     | none=>none
     | some ys=>some (.tt,ys)
   | false=>none
  | _=>none
 | .gslice i off l e=>match h.get i with
  | some ⟨_,.grown cs⟩=>match Nat.ble lo i&&Nat.beq e 1 with
   | true=>match bR l (aP off cs) with
    | none=>none
    | some q=>match nK ik q with
     | none=>none
     | some ys=>some (.tt,ys)
   | false=>none
  | _=>none
 | _=>none
def idM:AV->Option Nat
 | .lslice i _=>some i
 | .islice _ i _ _=>some i
 | .gslice i _ _ _=>some i
 | .slice i _ _ _=>some i
 | _=>none
def NS (σ:Sg) (lo:Nat) (h:Hp) (W:World) (ik:IntKind) (ys:List Int) (p:Option Addr):Prop:=
 ∃ B N id M o b,p=some ⟨B,N,none⟩/\lo<=id/\h.get id=some b/\b.body.isDead=false/\σ id=some (B,M)/\W.heap[B]?=some o/\∀ τ,BRel τ N (.rows ik ys) o
def TR (x:AV) (σ:Sg) (lo:Nat) (h:Hp) (W:World) (ik:IntKind) (ys:List Int) (p:Option Addr):Prop:=
 ∃ B N id M o b,p=some ⟨B,N,none⟩/\lo<=id/\h.get id=some b/\b.body.isDead=false/\σ id=some (B,M)/\W.heap[B]?=some o/\(∀ τ,BRel τ N (.rows ik ys) o)/\idM x=some id
theorem Bo {K:Array Value} {el:TypeId} {fr:Nat×Nat} {N:Nat} {ik:IntKind} {xs:List Int} {o n:Nat} (h:(K.toList.drop N).take xs.length=xs.map (Value.int ik)) (hn:o+n<=xs.length) (τ:Sg):BRel τ (N+o) (.rows ik ((xs.drop o).take n)) (.cells K el fr):=by
 refine ⟨K,el,fr,rfl,?_⟩
 have e1:((xs.drop o).take n).length=n:=by rw [List.length_take,List.length_drop]; omega
 rw [e1,List.map_take,List.map_drop,<- h,List.drop_take,List.drop_drop,List.take_take]
 congr 1
 omega
theorem zu {σ:Sg} {lo:Nat} {h:Hp} {W:World} (r:HRel σ h W) {ik:IntKind} {x:AV} {X:Value} (hx:VRel σ x X) {nd:Nd} {ys:List Int} (e:wL lo h ik x=some (nd,ys)) (hn:nd.val):
  ∃ p len c,X=.slice p len c/\len=ys.length/\len<=c/\(len=0\/TR x σ lo h W ik ys p):=by
 have plain:∀ (cs:List AV) (A:List Value) (off l:Nat) (q:List AV),VRels σ cs A->bR l (aP off cs)=some q->nK ik q=some ys->(A.drop off).take ys.length=ys.map (Value.int ik)/\l=ys.length:=by
  intro cs A off l q h1 h2 h3
  obtain ⟨k1,k2⟩:=VRels.take _ (VRels.drop off h1) h2
  have k3:=gQ k1 h3
  have k4:=VRels.length k1
  rw [k3,k2,List.length_map] at k4
  rw [k4]
  exact ⟨k3,rfl⟩
 cases x with
 | nilslice=>cases e; exact ⟨none,0,0,hx,rfl,Nat.le_refl _,.inl rfl⟩
 | eslice b=>cases e; obtain ⟨a,c,rfl,_⟩:=hx; exact ⟨a,0,c,rfl,rfl,Nat.zero_le _,.inl rfl⟩
 | lslice i n=>
  obtain ⟨p,len,c,rfl,⟨hl,hc⟩,hp⟩:=hx
  simp only [wL] at e
  split at e
  .rename_i w k zs hg
   split at e
   .rename_i hb
    simp only [Bool.and_eq_true,decide_eq_true_eq] at hb
    obtain ⟨rfl,hb⟩:=hb
    cases e
    have hn:n=(ys.length:Int):=hn
    refine ⟨p,len,c,rfl,by omega,hc,?_⟩
    by_cases h0:len=0
    .exact .inl h0
    .rcases hp with hp|⟨B,N,hσ,rfl⟩
     .exact .inl hp
     .have hd:(ABody.rows ik ys).isDead=false:=by cases ys with|nil=>simp at hn; omega|cons y l=>rfl
      obtain ⟨B',N',o,h1,h2,h3⟩:=r.blk i _ hg hd
      rw [hσ] at h1; cases h1
      exact .inr ⟨B,N,i,N,o,_,rfl,Nat.le_of_ble_eq_true hb,hg,hd,hσ,h2,fun τ=>h3,rfl⟩
   .cases e
  .cases e
 | islice w i o n=>
  obtain ⟨p,len,c,rfl,⟨hl,hc⟩,hp⟩:=hx
  simp only [wL] at e
  split at e
  .rename_i w' k zs hg
   split at e
   .rename_i hb
    simp only [Bool.and_eq_true,decide_eq_true_eq,Bool.not_eq_true'] at hb
    obtain ⟨⟨rfl,hb⟩,rfl⟩:=hb
    cases e
    have hn:0<=o/\0<=n/\o+n<=zs.length:=hn
    have e1:((zs.drop o.toNat).take n.toNat).length=n.toNat:=by rw [List.length_take,List.length_drop]; omega
    refine ⟨p,len,c,rfl,by omega,hc,?_⟩
    by_cases h0:len=0
    .exact .inl h0
    .rcases hp with hp|⟨B,N,hσ,q,rfl,hq,_⟩
     .exact .inl hp
     .have hd:(ABody.rows ik zs).isDead=false:=by cases zs with|nil=>simp at hn; omega|cons y l=>rfl
      obtain ⟨B',N',ob,h1,h2,K,el,fr,rfl,h3⟩:=r.blk i _ hg hd
      rw [hσ] at h1; cases h1
      simp only [cond_false] at hq
      obtain rfl:q=N+o.toNat:=by omega
      exact .inr ⟨B,_,i,N,_,_,rfl,Nat.le_of_ble_eq_true hb,hg,hd,hσ,h2,fun τ=>Bo h3 (by omega) τ,rfl⟩
   .cases e
  .rename_i w' k zs hg
   split at e
   .rename_i hb
    simp only [Bool.and_eq_true,decide_eq_true_eq] at hb
    obtain ⟨⟨rfl,hb⟩,rfl⟩:=hb
    cases e
    have hn:0<=o/\0<=n/\o+n<=zs.length:=hn
    have e1:((zs.drop o.toNat).take n.toNat).length=n.toNat:=by rw [List.length_take,List.length_drop]; omega
    refine ⟨p,len,c,rfl,by omega,hc,?_⟩
    by_cases h0:len=0
    .exact .inl h0
    .rcases hp with hp|⟨B,N,hσ,q,rfl,hq,_⟩
     .exact .inl hp
     .have hd:(ABody.ints ik zs).isDead=false:=gP (by omega)
      obtain ⟨B',N',ob,h1,h2,K,el,Z,rfl,h3,_⟩:=r.blk i _ hg hd
      rw [hσ] at h1; cases h1
      simp only [cond_true] at hq
      obtain rfl:q=0+o.toNat:=by omega
      exact .inr ⟨B,_,i,N,_,_,rfl,Nat.le_of_ble_eq_true hb,hg,hd,hσ,h2,fun τ=>Bo (by rw [List.drop_zero,h3,List.take_append_of_le_length (by simp),List.take_of_length_le (by simp)]) (by omega) τ,rfl⟩
   .cases e
  .cases e
 | slice i off l c=>
  obtain ⟨B,N,hσ,rfl⟩:=hx
  simp only [wL] at e
  split at e
  .rename_i w cs hg
   split at e
   .rename_i hb
    simp only [Bool.and_eq_true] at hb
    split at e
    .cases e
    .rename_i q hq
     split at e
     .cases e
     .rename_i zs hz
      cases e
      obtain ⟨B',N',ob,h1,h2,K,el,rfl,h3,_⟩:=r.blk i _ hg rfl
      rw [hσ] at h1; cases h1
      obtain ⟨k1,k2⟩:=plain _ _ _ _ _ h3 hq hz
      exact ⟨_,l,c,rfl,k2,Nat.le_of_ble_eq_true hb.2,.inr ⟨B,off,i,N,_,_,rfl,Nat.le_of_ble_eq_true hb.1,hg,rfl,hσ,h2,fun τ=>⟨K,el,_,rfl,k1⟩,rfl⟩⟩
   .cases e
  .cases e
 | gslice i off l ee=>
  obtain ⟨B,N,qo,c,hσ,rfl,hqo,hc⟩:=hx
  simp only [wL] at e
  split at e
  .rename_i w cs hg
   split at e
   .rename_i hb
    simp only [Bool.and_eq_true] at hb
    split at e
    .cases e
    .rename_i q hq
     split at e
     .cases e
     .rename_i zs hz
      cases e
      obtain ⟨B',N',ob,h1,h2,K,el,A,Z,rfl,hA,h3,_⟩:=r.blk i _ hg rfl
      rw [hσ] at h1; cases h1
      obtain ⟨k1,k2⟩:=plain _ _ _ _ _ h3 hq hz
      refine ⟨_,l,c,rfl,k2,hc,?_⟩
      by_cases h0:l=0
      .exact .inl h0
      .obtain ⟨rfl,_⟩:=hqo h0
       refine .inr ⟨B,qo,i,N,_,_,rfl,Nat.le_of_ble_eq_true hb.1,hg,rfl,hσ,h2,fun τ=>⟨K,el,_,rfl,?_⟩,rfl⟩
       have hlen:((A.drop qo).take ys.length).length=ys.length:=by rw [k1,List.length_map]
       rw [List.length_take,List.length_drop] at hlen
       rw [hA,List.drop_append_of_le_length (by omega),List.take_append_of_le_length (by rw [List.length_drop]; omega)]
       exact k1
   .cases e
  .cases e
 | _=>cases e
mutual
theorem Sh.mk_app:∀ (h:Sh) (v:AV) (s:Bool) (xs ys:List Nu),Sh.read h v=some (s,xs)->(Sh.mk h (xs++ys)).1=(Sh.mk h xs).1
 | .i k,v,s,xs,ys,e=>by
  simp only [Sh.read] at e
  split at e
  .split at e
   .cases e; rfl
   .cases e
  .cases e
 | .b,v,s,xs,ys,e=>by
  simp only [Sh.read] at e
  split at e
  .cases e; rfl
  .cases e
 | .c w,v,s,xs,ys,e=>rfl
 | .a l,v,s,xs,ys,e=>by
  simp only [Sh.read] at e
  split at e
  .simp only [Sh.mk]; rw [Sh.mkL_app l _ s xs ys e]
  .cases e
 | .str,v,s,xs,ys,e=>by
  simp only [Sh.read] at e
  split at e
  .cases e; rfl
  .cases e
 | .one,v,s,xs,ys,e=>rfl
theorem Sh.mkL_app:∀ (h:List Sh) (v:List AV) (s:Bool) (xs ys:List Nu),Sh.readL h v=some (s,xs)->(Sh.mkL h (xs++ys)).1=(Sh.mkL h xs).1
 | [],v,s,xs,ys,e=>rfl
 | h :: l,v :: m,s,xs,ys,e=>by
  simp only [Sh.readL] at e
  split at e
  .cases e
  .rename_i s1 x1 e1
   split at e
   .cases e
   .rename_i s2 x2 e2
    cases e
    have a1:=(Sh.read_mk h v s1 x1 (x2++ys) e1).1
    have a2:=(Sh.read_mk h v s1 x1 x2 e1).1
    have b1:=Sh.mk_app h v s1 x1 (x2++ys) e1
    have b2:=Sh.mk_app h v s1 x1 x2 e1
    have c:=Sh.mkL_app l m s2 x2 ys e2
    simp only [Sh.mkL,List.append_assoc]
    rw [show Sh.mk h (x1++(x2++ys))=((Sh.mk h x1).1,x2++ys) from Prod.ext b1 a1,show Sh.mk h (x1++x2)=((Sh.mk h x1).1,x2) from Prod.ext b2 a2]
    simp only [c]
 | _ :: _,[],_,_,_,e=>by simp [Sh.readL] at e
end
theorem Ll {σ:Sg} {lo:Nat} {h:Hp} {W:World} (r:HRel σ h W) {ik:IntKind} {x:AV} {X:Value} (hx:VRel σ x X) {nd:Nd} {ys:List Int} (e:wL lo h ik x=some (nd,ys)) (hn:nd.val):
  ∃ p len c,X=.slice p len c/\len=ys.length/\len<=c/\(len=0\/NS σ lo h W ik ys p):=by
 obtain ⟨p,len,c,h1,h2,h3,h4⟩:=zu r hx e hn
 exact ⟨p,len,c,h1,h2,h3,h4.imp _root_.id fun ⟨B,N,id,M,o,b,q1,q2,q3,q4,q5,q6,q7,_⟩=>⟨B,N,id,M,o,b,q1,q2,q3,q4,q5,q6,q7⟩⟩
inductive Ma where
 | nu (sh:Sh)
 | li
 | st (l:List Ma)
mutual
def Ma.read (lo:Nat) (h:Hp) (ik:IntKind):Ma->AV->Option (Nd×List Nu×List (List Int))
 | .nu sh,v=>match Sh.read sh v with
  | some (_,xs)=>match (Sh.mk sh xs).1.num with
   | true=>some (.tt,xs,[])
   | false=>none
  | none=>none
 | .li,v=>match wL lo h ik v with
  | some (nd,ys)=>some (nd,[],[ys])
  | none=>none
 | .st l,v=>match v with
  | .agg m=>Ma.readL lo h ik l m
  | _=>none
def Ma.readL (lo:Nat) (h:Hp) (ik:IntKind):List Ma->List AV->Option (Nd×List Nu×List (List Int))
 | [],[]=>some (.tt,[],[])
 | p :: ps,v :: vs=>match Ma.read lo h ik p v with
  | none=>none
  | some (n,xs,ys)=>match Ma.readL lo h ik ps vs with
   | none=>none
   | some (n',xs',ys')=>some (n.and n',xs++xs',ys++ys')
 | _,_=>none
end
mutual
def Ma.mk:Ma->Nat->List Nu->List (List Int)->AV×Nat×List Nu×List (List Int)
 | .nu sh,j,xs,ys=>match Sh.mk sh xs with
  | (v,xs)=>(v,j,xs,ys)
 | .li,j,xs,ys=>match ys with
  | y :: ys=>(.lslice j y.length,j+1,xs,ys)
  | []=>(.nil,j,xs,[])
 | .st l,j,xs,ys=>match Ma.mkL l j xs ys with
  | (vs,r)=>(.agg vs,r)
def Ma.mkL:List Ma->Nat->List Nu->List (List Int)->List AV×Nat×List Nu×List (List Int)
 | [],j,xs,ys=>([],j,xs,ys)
 | p :: ps,j,xs,ys=>match Ma.mk p j xs ys with
  | (v,j,xs,ys)=>match Ma.mkL ps j xs ys with
   | (vs,r)=>(v :: vs,r)
end
def Pls (σ:Sg) (lo:Nat) (h:Hp) (W:World) (ik:IntKind) (ys:List (List Int)) (bs:List (Nat×Nat)):Prop:=
 bs.length=ys.length/\∀ (i:Nat) (y:List Int) (b:Nat×Nat),ys[i]?=some y->bs[i]?=some b->y≠[]->NS σ lo h W ik y (some ⟨b.1,b.2,none⟩)
def Lies (ρ:Sg) (j:Nat) (ys:List (List Int)) (bs:List (Nat×Nat)):Prop:=∀ (i:Nat) (y:List Int) (b:Nat×Nat),ys[i]?=some y->bs[i]?=some b->y≠[]->ρ (j+i)=some b
theorem Pls.app {σ:Sg} {lo:Nat} {h:Hp} {W:World} {ik:IntKind} {y z:List (List Int)} {b c:List (Nat×Nat)} (h1:Pls σ lo h W ik y b) (h2:Pls σ lo h W ik z c):Pls σ lo h W ik (y++z) (b++c):=by
 refine ⟨by simp [h1.1,h2.1],fun i x d e1 e2 hne=>?_⟩
 rcases Nat.lt_or_ge i y.length with hi|hi
 .rw [List.getElem?_append_left hi] at e1
  rw [List.getElem?_append_left (by rw [h1.1]; exact hi)] at e2
  exact h1.2 i x d e1 e2 hne
 .rw [List.getElem?_append_right hi] at e1
  rw [List.getElem?_append_right (by rw [h1.1]; exact hi),h1.1] at e2
  exact h2.2 _ x d e1 e2 hne
theorem Lies.left {ρ:Sg} {j:Nat} {y z:List (List Int)} {b c:List (Nat×Nat)} (hl:b.length=y.length) (h:Lies ρ j (y++z) (b++c)):Lies ρ j y b:=fun i x d e1 e2 hne=>by
 have hi:=(List.getElem?_eq_some_iff.1 e1).1
 exact h i x d (by rw [List.getElem?_append_left hi]; exact e1) (by rw [List.getElem?_append_left (by rw [hl]; exact hi)]; exact e2) hne
theorem Lies.right {ρ:Sg} {j:Nat} {y z:List (List Int)} {b c:List (Nat×Nat)} (hl:b.length=y.length) (h:Lies ρ j (y++z) (b++c)):Lies ρ (j+y.length) z c:=fun i x d e1 e2 hne=>by
 have:=h (y.length+i) x d (by rw [List.getElem?_append_right (by omega)]; simpa using e1) (by rw [List.getElem?_append_right (by omega),hl]; simpa using e2) hne
 rw [<- this]
 congr 1
 omega
mutual
theorem Ma.read_rel {σ:Sg} {lo:Nat} {h:Hp} {W:World} (r:HRel σ h W) {ik:IntKind}:∀ (p:Ma) (v:AV) (nd:Nd) (xs:List Nu) (ys:List (List Int)) (V:Value),Ma.read lo h ik p v=some (nd,xs,ys)->VRel σ v V->nd.val ->
  ∃ bs,Pls σ lo h W ik ys bs/\∀ (ρ:Sg) (j:Nat) (xs':List Nu) (ys':List (List Int)),Lies ρ j ys bs->(Ma.mk p j (xs++xs') (ys++ys')).2=(j+ys.length,xs',ys')/\VRel ρ (Ma.mk p j (xs++xs') (ys++ys')).1 V
 | .nu sh,v,nd,xs,ys,V,e,hV,hn=>by
  simp only [Ma.read] at e
  split at e
  .rename_i s xs0 h1
   split at e
   .rename_i hnum
    cases e
    refine ⟨[],⟨rfl,fun i y b e1=>by simp at e1⟩,fun ρ j xs' ys' _=>?_⟩
    obtain ⟨a1,a2⟩:=Sh.read_mk sh v s xs xs' h1
    obtain ⟨b1,b2⟩:=Sh.read_mk sh v s xs [] h1
    rw [List.append_nil] at b2
    have hsame:(Sh.mk sh (xs++xs')).1.num=true->VRel ρ (Sh.mk sh (xs++xs')).1 V:=fun hk=>xn _ _ hk (a2 σ V hV)
    simp only [Ma.mk]
    refine ⟨by rw [a1]; rfl,?_⟩
    exact hsame (by rw [Sh.mk_app sh v s xs xs' h1]; exact hnum)
   .cases e
  .cases e
 | .li,v,nd,xs,ys,V,e,hV,hn=>by
  simp only [Ma.read] at e
  split at e
  .rename_i nd0 y h1
   cases e
   obtain ⟨p,len,c,rfl,hl,hc,hp⟩:=Ll r hV h1 hn
   by_cases h0:y=[]
   .subst h0
    refine ⟨[(0,0)],⟨rfl,fun i z b e1 e2 hne=>?_⟩,fun ρ j xs' ys' _=>⟨rfl,p,len,c,rfl,⟨by rw [hl],hc⟩,.inl hl⟩⟩
    cases i with
    | zero=>cases e1; exact absurd rfl hne
    | succ i=>simp at e1
   .rcases hp with hp|⟨B,N,id,M,o,b,rfl,g⟩
    .exact absurd (List.length_eq_zero_iff.1 (by omega)) h0
    .refine ⟨[(B,N)],⟨rfl,fun i z b' e1 e2 hne=>?_⟩,fun ρ j xs' ys' hj=>⟨rfl,_,len,c,rfl,⟨by rw [hl],hc⟩,.inr ⟨B,N,?_,rfl⟩⟩⟩
     .cases i with
      | zero=>cases e1; cases e2; exact ⟨B,N,id,M,o,b,rfl,g⟩
      | succ i=>simp at e1
     .exact hj 0 y (B,N) rfl rfl h0
  .cases e
 | .st l,v,nd,xs,ys,V,e,hV,hn=>by
  simp only [Ma.read] at e
  split at e
  .rename_i m
   obtain ⟨K,rfl,hK⟩:=hV
   obtain ⟨bs,h1,h2⟩:=Ma.readL_rel r l m nd xs ys K.toList e hK hn
   refine ⟨bs,h1,fun ρ j xs' ys' hj=>?_⟩
   obtain ⟨h3,h4⟩:=h2 ρ j xs' ys' hj
   simp only [Ma.mk]
   exact ⟨h3,K,rfl,h4⟩
  .cases e
theorem Ma.readL_rel {σ:Sg} {lo:Nat} {h:Hp} {W:World} (r:HRel σ h W) {ik:IntKind}:∀ (ps:List Ma) (vs:List AV) (nd:Nd) (xs:List Nu) (ys:List (List Int)) (L:List Value),Ma.readL lo h ik ps vs=some (nd,xs,ys)->VRels σ vs L->nd.val ->
  ∃ bs,Pls σ lo h W ik ys bs/\∀ (ρ:Sg) (j:Nat) (xs':List Nu) (ys':List (List Int)),Lies ρ j ys bs->(Ma.mkL ps j (xs++xs') (ys++ys')).2=(j+ys.length,xs',ys')/\VRels ρ (Ma.mkL ps j (xs++xs') (ys++ys')).1 L
 | [],[],nd,xs,ys,L,e,hL,hn=>by
  simp only [Ma.readL] at e
  cases e
  exact ⟨[],⟨rfl,fun i y b e1=>by simp at e1⟩,fun ρ j xs' ys' _=>⟨rfl,hL⟩⟩
 | p :: ps,v :: vs,nd,xs,ys,L,e,hL,hn=>by
  simp only [Ma.readL] at e
  split at e
  .cases e
  .rename_i n1 x1 y1 e1
   split at e
   .cases e
   .rename_i n2 x2 y2 e2
    cases e
    obtain ⟨V,L',rfl,hV,hL'⟩:=hL
    obtain ⟨b1,p1,q1⟩:=Ma.read_rel r p v n1 x1 y1 V e1 hV (Nd.lv hn)
    obtain ⟨b2,p2,q2⟩:=Ma.readL_rel r ps vs n2 x2 y2 L' e2 hL' (Nd.rv hn)
    refine ⟨b1++b2,p1.app p2,fun ρ j xs' ys' hj=>?_⟩
    obtain ⟨r1,r2⟩:=q1 ρ j (x2++xs') (y2++ys') (hj.left p1.1)
    obtain ⟨s1,s2⟩:=q2 ρ (j+y1.length) xs' ys' (hj.right p1.1)
    simp only [Ma.mkL,List.append_assoc]
    rw [show Ma.mk p j (x1++(x2++xs')) (y1++(y2++ys'))=((Ma.mk p j (x1++(x2++xs')) (y1++(y2++ys'))).1,j+y1.length,x2++xs',y2++ys') from Prod.ext rfl r1]
    refine ⟨?_,V,L',rfl,r2,s2⟩
    rw [s1,List.length_append,Nat.add_assoc]
 | [],_ :: _,_,_,_,_,e,_,_=>by simp [Ma.readL] at e
 | _ :: _,[],_,_,_,_,e,_,_=>by simp [Ma.readL] at e
end
end
end Go.Eng
namespace Go.Eng
open Go
noncomputable section
theorem NT {σ υ:Sg} {h h':Hp} {W X:World} (r:HRel υ h' X) (g:Good σ h W υ h' X) {b:ABody} (hb:b.isDead=true):HRel υ (h'.push b) X/\Good σ h W υ (h'.push b) X:=by
 have gp:∀ i,(h'.push b).get i=if i=h'.size then some ⟨h'.clock,b⟩ else h'.get i:=fun i=>Hp.get_push _ i
 have hne:∀ i x,υ i=some x->i≠h'.size:=fun i x e=>Nat.ne_of_lt (r.dom i x.1 x.2 e).1
 refine ⟨⟨Hp.ok_push r.ok _,fun i c hg hd=>?_,fun i B N e=>?_,fun i j c d B N M hgi hgj hdi hdj e1 e2=>?_⟩,?_⟩
 .rw [gp] at hg
  split at hg
  .cases hg; rw [show _=_ from hb] at hd; cases hd
  .exact r.blk i c hg hd
 .have:=r.dom i B N e
  exact ⟨Nat.lt_succ_of_lt this.1,this.2⟩
 .rw [gp,if_neg (hne i _ e1)] at hgi
  rw [gp,if_neg (hne j _ e2)] at hgj
  exact r.inj i j c d B N M hgi hgj hdi hdj e1 e2
 .have hsz:=g.mon.size
  have old:∀ i c,h.get i=some c->(h'.push b).get i=h'.get i:=fun i c hc=>by rw [gp,if_neg (by have:=Hp.get_lt hc; omega)]
  refine ⟨g.sub,g.only,g.ext,⟨g.mon.clock,Nat.le_succ_of_le hsz,fun i c d e1 e2=>?_,fun i w c e=>?_⟩,fun i B N e hi hB=>?_,fun B hB hH hw=>?_⟩
  .rw [old i c e1] at e2; exact g.mon.same i c d e1 e2
  .rw [old i _ e]; exact g.mon.loop i w c e
  .rcases g.old i B N e hi hB with h0|⟨j,M,c,h1,h2,h3,h4⟩
   .exact h0.elim
   .exact .inr ⟨j,M,c,h1,h2,by rw [gp,if_neg (by omega)]; exact h3,h4⟩
  .refine g.keep B hB hH fun i N c e1 e2=>hw i N c e1 ?_
   rw [gp,if_neg (by have:=Hp.get_lt e2; omega)]; exact e2
theorem TS {σ υ:Sg} {h h':Hp} {W X:World} (r:HRel υ h' X) (g:Good σ h W υ h' X) {b:ABody} {B N:Nat} {o:Obj} (hB:W.heap.size<=B) (ho:X.heap[B]?=some o) (hb:BRel (υ.add h'.size (B,N)) N b o)
  (ap:∀ i c M,h'.get i=some c->c.body.isDead=false->υ i=some (B,M)->c.body.isView=true/\b.isView=true):HRel (υ.add h'.size (B,N)) (h'.push b) X/\Good σ h W (υ.add h'.size (B,N)) (h'.push b) X:=by
 have hs:=Sub.add (x:=(B,N)) r.fresh
 have hBX:B<X.heap.size:=by
  rcases Nat.lt_or_ge B X.heap.size with h1|h1
  .exact h1
  .rw [Array.getElem?_eq_none h1] at ho; cases ho
 have gp:∀ i,(h'.push b).get i=if i=h'.size then some ⟨h'.clock,b⟩ else h'.get i:=fun i=>Hp.get_push _ i
 refine ⟨⟨Hp.ok_push r.ok _,fun i c hg hd=>?_,fun i B' N' e=>?_,fun i j c d B' N' M hgi hgj hdi hdj e1 e2=>?_⟩,?_⟩
 .rw [gp] at hg
  split at hg
  .rename_i hi; cases hg; subst hi
   exact ⟨B,N,o,aM,ho,hb⟩
  .obtain ⟨B1,N1,o1,h1,h2,h3⟩:=r.blk i c hg hd
   exact ⟨B1,N1,o1,hs _ _ h1,h2,h3.mono hs⟩
 .rcases bM e with ⟨rfl,hx⟩|⟨hi,hx⟩
  .cases hx; exact ⟨Nat.lt_succ_self _,hBX⟩
  .have:=r.dom i B' N' hx
   exact ⟨Nat.lt_succ_of_lt this.1,this.2⟩
 .rw [gp] at hgi hgj
  rcases bM e1 with ⟨rfl,hx⟩|⟨hi,hx⟩ <;> rcases bM e2 with ⟨rfl,hy⟩|⟨hj,hy⟩
  .exact .inl rfl
  .cases hx
   rw [if_pos rfl] at hgi; cases hgi
   rw [if_neg hj] at hgj
   have:=ap j d M hgj hdj hy
   exact .inr ⟨this.2,this.1⟩
  .cases hy
   rw [if_pos rfl] at hgj; cases hgj
   rw [if_neg hi] at hgi
   exact .inr (ap i c N' hgi hdi hx)
  .rw [if_neg hi] at hgi
   rw [if_neg hj] at hgj
   exact r.inj i j c d B' N' M hgi hgj hdi hdj hx hy
 .have hsz:=g.mon.size
  have old:∀ i c,h.get i=some c->(h'.push b).get i=h'.get i:=fun i c hc=>by rw [gp,if_neg (by have:=Hp.get_lt hc; omega)]
  refine ⟨g.sub.trans hs,fun i x e hi=>?_,g.ext,⟨g.mon.clock,Nat.le_succ_of_le hsz,fun i c d e1 e2=>?_,fun i w c e=>?_⟩,fun i B' N' e hi hB'=>?_,fun B' hB' hH hw=>?_⟩
  .rcases bM e with ⟨rfl,_⟩|⟨_,hx⟩
   .omega
   .exact g.only i x hx hi
  .rw [old i c e1] at e2; exact g.mon.same i c d e1 e2
  .rw [old i _ e]; exact g.mon.loop i w c e
  .rcases bM e with ⟨rfl,hx⟩|⟨_,hx⟩
   .cases hx; omega
   .rcases g.old i B' N' hx hi hB' with h0|⟨j,M,c,h1,h2,h3,h4⟩
    .exact h0.elim
    .exact .inr ⟨j,M,c,h1,h2,by rw [gp,if_neg (by omega)]; exact h3,h4⟩
  .refine g.keep B' hB' hH fun i N c e1 e2=>hw i N c e1 ?_
   rw [gp,if_neg (by have:=Hp.get_lt e2; omega)]; exact e2
inductive To where
 | nu (k:IntKind) (x:Int)
 | bo (b:Bool)
 | pb (b:Bool)
 | pn (k:IntKind) (x:Int)
 | any
 | li (own:Bool) (ys:List Int)
 | st (l:List To)
 | tu (l:List To)
mutual
def To.out (ik:IntKind) (sz:Nat):To->List ABody->AV×List ABody
 | .nu k x,bs=>(.int true k x,bs)
 | .bo b,bs=>(.bool true b,bs)
 | .pb b,bs=>(.bool false b,bs)
 | .pn k x,bs=>(.int false k x,bs)
 | .any,bs=>(.any true,bs)
 | .li own ys,bs=>match own with
  | true=>(aC (sz+bs.length) fun i=>.islice true i 0 ys.length,.ints ik ys :: bs)
  | false=>(aC (sz+bs.length) fun i=>.lslice i ys.length,.rows ik ys :: bs)
 | .st l,bs=>match To.outL ik sz l bs with
  | (vs,bs)=>(.agg vs,bs)
 | .tu l,bs=>match To.outL ik sz l bs with
  | (vs,bs)=>(.tuple vs,bs)
def To.outL (ik:IntKind) (sz:Nat):List To->List ABody->List AV×List ABody
 | [],bs=>([],bs)
 | t :: l,bs=>match To.out ik sz t bs with
  | (v,bs)=>match To.outL ik sz l bs with
   | (vs,bs)=>(v :: vs,bs)
end
def NU (lo:Nat) (k:Hp) (ik:IntKind):AV->Option (Option Nat×Nd×List Int)
 | .nilslice=>some (none,.tt,[])
 | .islice w i o n=>match k.get i with
  | some ⟨_,.ints k' ys⟩=>match decide (ik=k')&&Nat.ble lo i&&w with
   | true=>some (some i,.p (o=0/\n=ys.length),ys)
   | false=>none
  | _=>none
 | .gslice i off l e=>match k.get i with
  | some ⟨_,.grown cs⟩=>match Nat.ble lo i&&Nat.beq e 1&&Nat.beq off 0&&Nat.beq l cs.length with
   | true=>match nK ik cs with
    | none=>none
    | some ys=>some (some i,.tt,ys)
   | false=>none
  | _=>none
 | .slice i off l c=>match k.get i with
  | some ⟨_,.cells cs⟩=>match Nat.ble lo i&&Nat.beq off 0&&Nat.ble l c&&Nat.ble c cs.length with
   | true=>match bR l cs with
    | none=>none
    | some q=>match nK ik q with
     | none=>none
     | some ys=>some (some i,.tt,ys)
   | false=>none
  | _=>none
 | _=>none
def JP (i:Nat):List (Nat×Bool)->Bool
 | []=>true
 | (j,_) :: l=>!Nat.beq i j&&JP i l
def zw (i:Nat):List (Nat×Bool)->Bool
 | []=>true
 | (j,o) :: l=>!(Nat.beq i j&&o)&&zw i l
mutual
def To.fit (lo:Nat) (k:Hp) (ik:IntKind):To->AV->List (Nat×Bool)->Option (Nd×List (Nat×Bool))
 | .nu q x,v,aJ=>match v with
  | .int _ q' y=>if q=q' then some (.p (y=x),aJ) else none
  | _=>none
 | .bo b,v,aJ=>match v with
  | .bool _ c=>some (.p (c=b),aJ)
  | _=>none
 | .pb b,v,aJ=>match v with
  | .bool _ c=>some (.p (c=b),aJ)
  | _=>none
 | .pn q x,v,aJ=>match v with
  | .int _ q' y=>if q=q' then some (.p (y=x),aJ) else none
  | _=>none
 | .any,v,aJ=>match v.isCell with
  | true=>some (.tt,aJ)
  | false=>none
 | .li own ys,v,aJ=>match own with
  | true=>match NU lo k ik v with
   | none=>none
   | some (none,nd,zs)=>some (nd.and (.p (zs=ys)),aJ)
   | some (some i,nd,zs)=>match JP i aJ with
    | true=>some (nd.and (.p (zs=ys)),(i,true) :: aJ)
    | false=>none
  | false=>match wL lo k ik v with
   | none=>none
   | some (nd,zs)=>match idM v with
    | none=>some (nd.and (.p (zs=ys)),aJ)
    | some i=>match zw i aJ with
     | true=>some (nd.and (.p (zs=ys)),(i,false) :: aJ)
     | false=>none
 | .st l,v,aJ=>match v with
  | .agg m=>To.fitL lo k ik l m aJ
  | _=>none
 | .tu l,v,aJ=>match v with
  | .tuple m=>To.fitL lo k ik l m aJ
  | _=>none
def To.fitL (lo:Nat) (k:Hp) (ik:IntKind):List To->List AV->List (Nat×Bool)->Option (Nd×List (Nat×Bool))
 | [],[],aJ=>some (.tt,aJ)
 | t :: l,v :: m,aJ=>match To.fit lo k ik t v aJ with
  | none=>none
  | some (n,aJ)=>match To.fitL lo k ik l m aJ with
   | none=>none
   | some (n',aJ)=>some (n.and n',aJ)
 | _,_,_=>none
end
theorem zx {i:Nat}:∀ {l:List (Nat×Bool)},JP i l=true->∀ x∈l,x.1≠i
 | [],_,x,hx=>by cases hx
 | (j,o) :: l,e,x,hx=>by
  simp only [JP,Bool.and_eq_true,Bool.not_eq_true'] at e
  rcases List.mem_cons.1 hx with rfl|hx
  .intro h
   rw [show Nat.beq i j=true from by rw [show j=i from h]; exact Nat.beq_refl i] at e
   cases e.1
  .exact zx e.2 x hx
theorem wM {i:Nat}:∀ {l:List (Nat×Bool)},zw i l=true->∀ x∈l,x.1=i->x.2=false
 | [],_,x,hx=>by cases hx
 | (j,o) :: l,e,x,hx=>by
  simp only [zw,Bool.and_eq_true,Bool.not_eq_true'] at e
  rcases List.mem_cons.1 hx with rfl|hx
  .intro h
   have e1:=e.1
   rw [show Nat.beq i j=true from by rw [show j=i from h]; exact Nat.beq_refl i,Bool.true_and] at e1
   exact e1
  .exact wM e.2 x hx
def Trk (τ:Sg) (k:Hp) (h h':Hp) (υ:Sg) (aJ:List (Nat×Bool)):Prop:=
 ∀ i b B M,h.size<=i->h'.get i=some b->b.body.isDead=false->υ i=some (B,M)->∃ j own c M',(j,own)∈aJ/\τ j=some (B,M')/\k.get j=some c/\c.body.isDead=false/\(own=false->b.body.isView=true)/\(own=true->c.body.isView=false)
structure Toc (lo:Nat) (τ:Sg) (k:Hp) (σ:Sg) (h:Hp) (W X:World) (bs:List ABody) (υ:Sg) (aJ:List (Nat×Bool)):Prop where
 r:HRel υ (bT h bs) X
 g:Good σ h W υ (bT h bs) X
 t:Trk τ k h (bT h bs) υ aJ
theorem um (h:Hp):∀ bs:List ABody,(bT h bs).size=h.size+bs.length
 | []=>rfl
 | b :: l=>by show (bT h l).size+1=_; rw [um h l]; simp; omega
theorem Trk.mono {τ:Sg} {k h h':Hp} {υ:Sg} {aJ seen':List (Nat×Bool)} (t:Trk τ k h h' υ aJ) (hs:∀ x∈aJ,x∈seen'):Trk τ k h h' υ seen':=fun i b B M h1 h2 h3 h4=>by
 obtain ⟨j,own,c,M',q1,q⟩:=t i b B M h1 h2 h3 h4
 exact ⟨j,own,c,M',hs _ q1,q⟩
theorem Toc.dead {lo:Nat} {τ:Sg} {k:Hp} {σ:Sg} {h:Hp} {W X:World} {bs:List ABody} {υ:Sg} {aJ:List (Nat×Bool)} (c:Toc lo τ k σ h W X bs υ aJ) {b:ABody} (hb:b.isDead=true) {seen':List (Nat×Bool)} (hs:∀ x∈aJ,x∈seen'):Toc lo τ k σ h W X (b :: bs) υ seen':=by
 obtain ⟨r1,g1⟩:=NT c.r c.g hb
 refine ⟨r1,g1,fun i d B M h1 h2 h3 h4=>?_⟩
 rw [show bT h (b :: bs)=(bT h bs).push b from rfl,Hp.get_push] at h2
 split at h2
 .cases h2; rw [show _=_ from hb] at h3; cases h3
 .exact (c.t.mono hs) i d B M h1 h2 h3 h4
theorem Toc.add {lo:Nat} {τ:Sg} {k:Hp} {σ:Sg} {h:Hp} {W X:World} {bs:List ABody} {υ:Sg} {aJ:List (Nat×Bool)} (c:Toc lo τ k σ h W X bs υ aJ) (rk:HRel τ k X) (r0:HRel σ h W) {b:ABody} {i B M N:Nat} {d:ABlk} {o:Obj} {own:Bool}
  (hB:W.heap.size<=B) (ho:X.heap[B]?=some o) (hb:∀ υ,BRel υ N b o) (hi:τ i=some (B,M)) (hk:k.get i=some d) (hd:d.body.isDead=false) (hv:own=false->b.isView=true/\∀ x∈aJ,x.1=i->x.2=false) (hn:own=true->d.body.isView=false/\∀ x∈aJ,x.1≠i):
  Toc lo τ k σ h W X (b :: bs) (υ.add (bT h bs).size (B,N)) ((i,own) :: aJ):=by
 obtain ⟨r1,g1⟩:=TS c.r c.g hB ho (hb _) (fun j e M' q1 q2 q3=>by
  have hj:h.size<=j:=by
   rcases Nat.lt_or_ge j h.size with hj|hj
   .have:=(r0.dom j B M' (c.g.only j _ q3 hj)).2
    omega
   .exact hj
  obtain ⟨j',own',c',M2,p1,p2,p3,p4,p5,p6⟩:=c.t j e B M' hj q1 q2 q3
  rcases rk.inj j' i c' d B M2 M p3 hk p4 hd p2 hi with e1|⟨e1,e2⟩
  .subst e1
   cases own with
   | true=>exact absurd rfl ((hn rfl).2 _ p1)
   | false=>
    have:=(hv rfl).2 _ p1 rfl
    exact ⟨p5 this,(hv rfl).1⟩
  .cases own with
   | true=>rw [(hn rfl).1] at e2; cases e2
   | false=>
    cases own' with
    | true=>rw [p6 rfl] at e1; cases e1
    | false=>exact ⟨p5 rfl,(hv rfl).1⟩)
 refine ⟨r1,g1,fun j e B' M' h1 h2 h3 h4=>?_⟩
 rw [show bT h (b :: bs)=(bT h bs).push b from rfl,Hp.get_push] at h2
 rcases bM h4 with ⟨rfl,hx⟩|⟨hne,hx⟩
 .cases hx
  rw [if_pos rfl] at h2; cases h2
  exact ⟨i,own,d,M,by simp,hi,hk,hd,fun ho'=>(hv ho').1,fun ho'=>(hn ho').1⟩
 .rw [if_neg hne] at h2
  obtain ⟨j',own',c',M2,p1,p⟩:=c.t j e B' M' h1 h2 h3 hx
  exact ⟨j',own',c',M2,List.mem_cons_of_mem _ p1,p⟩
theorem FO {τ:Sg} {lo:Nat} {k:Hp} {X:World} (r:HRel τ k X) {ik:IntKind} {x:AV} {V:Value} (hx:VRel τ x V) {id:Option Nat} {nd:Nd} {ys:List Int} (e:NU lo k ik x=some (id,nd,ys)) (hn:nd.val):
  ∃ p len c,V=.slice p len c/\len=ys.length/\len<=c/\(ys=[]\/∃ i B N o d,id=some i/\p=some ⟨B,0,none⟩/\lo<=i/\τ i=some (B,N)/\c<=N/\k.get i=some d/\d.body.isDead=false/\d.body.isView=false/\X.heap[B]?=some o/\∀ υ,BRel υ N (.ints ik ys) o):=by
 cases x with
 | nilslice=>cases e; exact ⟨none,0,0,hx,rfl,Nat.le_refl _,.inl rfl⟩
 | islice w i o n=>
  obtain ⟨p,len,c,rfl,⟨hl,hc⟩,hp⟩:=hx
  simp only [NU] at e
  split at e
  .rename_i w' k' zs hg
   split at e
   .rename_i hb
    simp only [Bool.and_eq_true,decide_eq_true_eq] at hb
    obtain ⟨⟨rfl,hb⟩,rfl⟩:=hb
    cases e
    obtain ⟨rfl,hn⟩:=(show o=0/\n=(ys.length:Int) from hn)
    refine ⟨p,len,c,rfl,by omega,hc,?_⟩
    by_cases h0:ys=[]
    .exact .inl h0
    .have hpos:0<ys.length:=List.length_pos_iff.2 h0
     rcases hp with hp|⟨B,N,hσ,q,rfl,hq,hqN⟩
     .omega
     .obtain ⟨B',N',ob,h1,h2,h3⟩:=r.blk i _ hg (gP hpos)
      rw [hσ] at h1; cases h1
      simp only [cond_true] at hq
      obtain rfl:q=0:=by omega
      have:=hqN rfl
      exact .inr ⟨i,B,N,ob,_,rfl,rfl,Nat.le_of_ble_eq_true hb,hσ,by omega,hg,gP hpos,rfl,h2,fun υ=>h3⟩
   .cases e
  .cases e
 | gslice i off l ee=>
  obtain ⟨B,N,qo,c,hσ,rfl,hqo,hc⟩:=hx
  simp only [NU] at e
  split at e
  .rename_i w cs hg
   split at e
   .rename_i hb
    simp only [Bool.and_eq_true] at hb
    obtain ⟨⟨⟨b1,b2⟩,b3⟩,b4⟩:=hb
    have b2:=Nat.eq_of_beq_eq_true b2
    have b3:=Nat.eq_of_beq_eq_true b3
    have b4:=Nat.eq_of_beq_eq_true b4
    subst b2 b3 b4
    split at e
    .cases e
    .rename_i zs hz
     cases e
     obtain ⟨B',N',ob,h1,h2,K,el,A,Z,rfl,hA,h3,h4⟩:=r.blk i _ hg rfl
     rw [hσ] at h1; cases h1
     have hA2:=gQ h3 hz
     have hlen:cs.length=ys.length:=by rw [<- VRels.length h3,hA2,List.length_map]
     refine ⟨_,_,c,rfl,hlen,hc,?_⟩
     by_cases h0:ys=[]
     .exact .inl h0
     .have hpos:0<ys.length:=List.length_pos_iff.2 h0
      obtain ⟨rfl,h5⟩:=hqo (by omega)
      exact .inr ⟨i,B,N,_,_,rfl,rfl,Nat.le_of_ble_eq_true b1,hσ,by omega,hg,rfl,rfl,h2,fun υ=>⟨K,el,Z,rfl,by rw [hA,hA2],h4⟩⟩
   .cases e
  .cases e
 | slice i off l c=>
  obtain ⟨B,N,hσ,rfl⟩:=hx
  simp only [NU] at e
  split at e
  .rename_i w cs hg
   split at e
   .rename_i hb
    simp only [Bool.and_eq_true] at hb
    obtain ⟨⟨⟨b1,b2⟩,b3⟩,b4⟩:=hb
    have b2:=Nat.eq_of_beq_eq_true b2
    have b3:=Nat.le_of_ble_eq_true b3
    have b4:=Nat.le_of_ble_eq_true b4
    subst b2
    split at e
    .cases e
    .rename_i q hq
     split at e
     .cases e
     .rename_i zs hz
      cases e
      obtain ⟨B',N',ob,h1,h2,K,el,rfl,h3,h4⟩:=r.blk i _ hg rfl
      rw [hσ] at h1; cases h1
      obtain ⟨k1,k2⟩:=VRels.take l h3 hq
      have hA2:=gQ k1 hz
      have hKl:K.toList.length=cs.length:=VRels.length h3
      have hlen:l=ys.length:=by
       have:=congrArg List.length hA2
       rw [List.length_take,List.length_map] at this
       omega
      exact ⟨_,l,c,rfl,hlen,b3,.inr ⟨i,B,N,_,_,rfl,rfl,Nat.le_of_ble_eq_true b1,hσ,by rw [h4]; simp at hKl; omega,hg,rfl,rfl,h2,fun υ=>⟨K,el,K.toList.drop l,rfl,by rw [<- hA2,List.take_append_drop],h4⟩⟩⟩
   .cases e
  .cases e
 | _=>cases e
mutual
theorem To.fit_rel {lo:Nat} {τ:Sg} {k:Hp} {σ:Sg} {h:Hp} {W X:World} (rk:HRel τ k X) (r0:HRel σ h W) (fresh:∀ i B N,τ i=some (B,N)->lo<=i->W.heap.size<=B) {ik:IntKind}:∀ (t:To) (v:AV) (V:Value) (aJ seen':List (Nat×Bool)) (nd:Nd) (bs:List ABody) (υ:Sg),
  To.fit lo k ik t v aJ=some (nd,seen')->nd.val->VRel τ v V->Toc lo τ k σ h W X bs υ aJ->∃ υ',Sub υ υ'/\Toc lo τ k σ h W X (To.out ik h.size t bs).2 υ' seen'/\VRel υ' (To.out ik h.size t bs).1 V
 | .nu q x,v,V,aJ,seen',nd,bs,υ,e,hn,hV,c=>by
  simp only [To.fit] at e
  split at e
  .split at e
   .rename_i hq; subst hq; cases e
    rw [show _=_ from hn] at hV
    exact ⟨υ,Sub.refl _,c,hV⟩
   .cases e
  .cases e
 | .bo b,v,V,aJ,seen',nd,bs,υ,e,hn,hV,c=>by
  simp only [To.fit] at e
  split at e
  .cases e
   rw [show _=_ from hn] at hV
   exact ⟨υ,Sub.refl _,c,hV⟩
  .cases e
 | .pb b,v,V,aJ,seen',nd,bs,υ,e,hn,hV,c=>by
  simp only [To.fit] at e
  split at e
  .cases e
   rw [show _=_ from hn] at hV
   exact ⟨υ,Sub.refl _,c,hV⟩
  .cases e
 | .pn q x,v,V,aJ,seen',nd,bs,υ,e,hn,hV,c=>by
  simp only [To.fit] at e
  split at e
  .split at e
   .rename_i hq; subst hq; cases e
    rw [show _=_ from hn] at hV
    exact ⟨υ,Sub.refl _,c,hV⟩
   .cases e
  .cases e
 | .any,v,V,aJ,seen',nd,bs,υ,e,hn,hV,c=>by
  simp only [To.fit] at e
  split at e
  .rename_i hc
   cases e
   exact ⟨υ,Sub.refl _,c,aN (aR hV hc)⟩
  .cases e
 | .li own ys,v,V,aJ,seen',nd,bs,υ,e,hn,hV,c=>by
  have hsz:=um h bs
  simp only [To.fit] at e
  split at e
  .split at e
   .cases e
   .rename_i nd0 zs ho
    cases e
    have hz:zs=ys:=Nd.rv hn
    subst hz
    obtain ⟨p,len,cc,rfl,hl,hc,hp⟩:=FO rk hV ho (Nd.lv hn)
    rcases hp with rfl|⟨i,B,N,o,d,h0,_⟩
    .simp only [To.out,aD]
     exact ⟨υ,Sub.refl _,c.dead rfl (fun x hx=>hx),p,len,cc,rfl,⟨by rw [hl],hc⟩,.inl hl⟩
    .cases h0
   .rename_i i nd0 zs ho
    split at e
    .rename_i hni
     cases e
     have hz:zs=ys:=Nd.rv hn
     subst hz
     obtain ⟨p,len,cc,rfl,hl,hc,hp⟩:=FO rk hV ho (Nd.lv hn)
     simp only [To.out,aD]
     rcases hp with rfl|⟨i',B,N,o,d,h0,rfl,hlo,hi,hcN,hk,hd,hv,hX,hb⟩
     .exact ⟨υ,Sub.refl _,c.dead rfl (fun x hx=>List.mem_cons_of_mem _ hx),p,len,cc,rfl,⟨by rw [hl],hc⟩,.inl hl⟩
     .cases h0
      refine ⟨_,Sub.add c.r.fresh,c.add rk r0 (own:=true) (fresh i B N hi hlo) hX hb hi hk hd (fun h=>by cases h) (fun _=>⟨hv,zx hni⟩),_,len,cc,rfl,⟨by rw [hl],hc⟩,.inr ⟨B,N,by rw [<- hsz]; exact aM,0,rfl,by simp,fun _=>by omega⟩⟩
    .cases e
  .split at e
   .cases e
   .rename_i nd0 zs hlm
    have key:∀ (seen1:List (Nat×Bool)),nd0.val->zs=ys->(∀ x∈aJ,x∈seen1)->(∀ i,idM v=some i->zw i aJ=true/\seen1=(i,false) :: aJ) ->
      ∃ υ',Sub υ υ'/\Toc lo τ k σ h W X (To.out ik h.size (.li false ys) bs).2 υ' seen1/\VRel υ' (To.out ik h.size (.li false ys) bs).1 V:=by
     intro seen1 hn0 hz hs hi1
     subst hz
     obtain ⟨p,len,cc,rfl,hl,hc,hp⟩:=zu rk hV hlm hn0
     simp only [To.out,aD]
     by_cases hz0:zs=[]
     .subst hz0
      exact ⟨υ,Sub.refl _,c.dead rfl hs,p,len,cc,rfl,⟨by rw [hl],hc⟩,.inl hl⟩
     .rcases hp with hp|⟨B,N,i,M,o,d,rfl,hlo,hk,hd,hi,hX,hb,hid⟩
      .exact absurd (List.length_eq_zero_iff.1 (by omega)) hz0
      .obtain ⟨hno,rfl⟩:=hi1 i hid
       exact ⟨_,Sub.add c.r.fresh,c.add rk r0 (own:=false) (fresh i B M hi hlo) hX hb hi hk hd (fun _=>⟨rfl,wM hno⟩) (fun h=>by cases h),_,len,cc,rfl,⟨by rw [hl],hc⟩,.inr ⟨B,N,by rw [<- hsz]; exact aM,rfl⟩⟩
    split at e
    .rename_i hid
     cases e
     exact key aJ (Nd.lv hn) (Nd.rv hn) (fun x hx=>hx) (fun i hi=>by rw [hid] at hi; cases hi)
    .rename_i i hid
     split at e
     .rename_i hno
      cases e
      exact key _ (Nd.lv hn) (Nd.rv hn) (fun x hx=>List.mem_cons_of_mem _ hx) (fun j hj=>by rw [hid] at hj; cases hj; exact ⟨hno,rfl⟩)
     .cases e
 | .st l,v,V,aJ,seen',nd,bs,υ,e,hn,hV,c=>by
  simp only [To.fit] at e
  split at e
  .obtain ⟨K,rfl,hK⟩:=hV
   obtain ⟨υ',h1,h2,h3⟩:=To.fitL_rel rk r0 fresh l _ K.toList aJ seen' nd bs υ e hn hK c
   simp only [To.out]
   exact ⟨υ',h1,h2,K,rfl,h3⟩
  .cases e
 | .tu l,v,V,aJ,seen',nd,bs,υ,e,hn,hV,c=>by
  simp only [To.fit] at e
  split at e
  .obtain ⟨K,rfl,hK⟩:=hV
   obtain ⟨υ',h1,h2,h3⟩:=To.fitL_rel rk r0 fresh l _ K.toList aJ seen' nd bs υ e hn hK c
   simp only [To.out]
   exact ⟨υ',h1,h2,K,rfl,h3⟩
  .cases e
theorem To.fitL_rel {lo:Nat} {τ:Sg} {k:Hp} {σ:Sg} {h:Hp} {W X:World} (rk:HRel τ k X) (r0:HRel σ h W) (fresh:∀ i B N,τ i=some (B,N)->lo<=i->W.heap.size<=B) {ik:IntKind}:∀ (t:List To) (v:List AV) (L:List Value) (aJ seen':List (Nat×Bool)) (nd:Nd) (bs:List ABody) (υ:Sg),
  To.fitL lo k ik t v aJ=some (nd,seen')->nd.val->VRels τ v L->Toc lo τ k σ h W X bs υ aJ->∃ υ',Sub υ υ'/\Toc lo τ k σ h W X (To.outL ik h.size t bs).2 υ' seen'/\VRels υ' (To.outL ik h.size t bs).1 L
 | [],[],L,aJ,seen',nd,bs,υ,e,hn,hV,c=>by
  simp only [To.fitL] at e
  cases e
  exact ⟨υ,Sub.refl _,c,hV⟩
 | t :: l,v :: m,L,aJ,seen',nd,bs,υ,e,hn,hV,c=>by
  simp only [To.fitL] at e
  split at e
  .cases e
  .rename_i n1 s1 e1
   split at e
   .cases e
   .rename_i n2 s2 e2
    cases e
    obtain ⟨V,L',rfl,q1,q2⟩:=hV
    obtain ⟨υ1,a1,a2,a3⟩:=To.fit_rel rk r0 fresh t v V aJ s1 n1 bs υ e1 (Nd.lv hn) q1 c
    obtain ⟨υ2,b1,b2,b3⟩:=To.fitL_rel rk r0 fresh l m L' s1 seen' n2 _ υ1 e2 (Nd.rv hn) q2 a2
    simp only [To.outL]
    exact ⟨υ2,a1.trans b1,b2,V,L',rfl,VRel.mono b1 _ _ a3,b3⟩
 | [],_ :: _,_,_,_,_,_,_,e,_,_,_=>by simp [To.fitL] at e
 | _ :: _,[],_,_,_,_,_,_,e,_,_,_=>by simp [To.fitL] at e
end
theorem To.tells {lo:Nat} {k:Hp} {ik:IntKind} {t:To} {v0:AV} {nd:Nd} {aJ:List (Nat×Bool)} (e:To.fit lo k ik t v0 []=some (nd,aJ)) (hn:nd.val) (sz:Nat):Be lo k v0 sz (To.out ik sz t []).1 (To.out ik sz t []).2:=by
 intro σ h W τ X V hs r r2 k2 fresh hq
 subst hs
 obtain ⟨r1,g1⟩:=r.quiet hq
 obtain ⟨υ,h1,h2,h3⟩:=To.fit_rel r2 r fresh t v0 V [] aJ nd [] σ e hn k2 ⟨r1,g1,fun i b B M p1 p2 _ _=>absurd (Hp.get_lt p2) (Nat.not_lt.2 p1)⟩
 exact ⟨υ,h2.r,h2.g,h3⟩
def eO (hG:Hp) (ik:IntKind) (ps:List Ma) (V:List Nu->List (List Int)->Option (Prop×To)):fO:=fun args h=>
 match Ma.readL hG.size h ik ps args with
 | none=>none
 | some (nd,xs,ys)=>match V xs ys with
  | none=>none
  | some (p,t)=>match To.out ik h.size t [] with
   | (v,bs)=>some (nd.and (.p p),v,bs)
theorem XP {P:Program} {glob:Nat->Option Nat} {hG:Hp} (ok:hG.ok) (pl:fe hG.size hG.blks=true) (hgl:∀ g i,glob g=some i->i<hG.size) {f:FuncId} {ik:IntKind} {ps:List Ma} {V:List Nu->List (List Int)->Option (Prop×To)}
  (h:∀ xs ys p t,V xs ys=some (p,t)->p->∃ (C:Ctx) (n:Nat) (as:List AV) (nd0:Nd) (v0:AV) (k:Hp) (m:Nd) (aJ:List (Nat×Bool)),CtxOk C/\C.P=P/\C.glob=glob/\uk (Ma.mkL ps hG.size xs ys).1 as /\
   (run C n).call f as (fF true hG (ys.map fun y=>(ik,y)))=some ⟨nd0,[⟨.tt,v0,k⟩]⟩/\v0.isPanic=false/\nd0.val/\allOld hG.clock (aP (k.size - (fF true hG (ys.map fun y=>(ik,y))).size) k.blks)=true/\To.fit (fF true hG (ys.map fun y=>(ik,y))).size k ik t v0 []=some (m,aJ)/\m.val)
  (fn:∃ fn:Func,P.funcs[f]?=some fn/\fn.body.isSome=true):NOk P glob hG f (eO hG ik ps V):=by
 refine ⟨fun args nd v bs h' e same=>?_,fn⟩
 unfold eO at e
 split at e
 .cases e
 .rename_i nd1 xs ys hr
  split at e
  .cases e
  .rename_i p t hV
   simp only [Option.some.injEq,Prod.mk.injEq] at e
   obtain ⟨rfl,rfl,rfl⟩:=e
   refine zh fun σ A W g r hA hn=>?_
   obtain ⟨C,n,as,nd0,v0,k,m,aJ,co,rfl,rfl,ht,hrun,hp,hn0,hold,hf,hm⟩:=h _ _ _ _ hV (Nd.rv hn)
   obtain ⟨qs,pls,q2⟩:=Ma.readL_rel r ps args nd1 xs ys A.toList hr hA (Nd.lv hn)
   have gs:=gz same
   have hsel:∀ i,i<ys.length->∃ b,qs[i]?=some b:=fun i hi=>⟨_,List.getElem?_eq_getElem (by rw [pls.1]; exact hi)⟩
   obtain ⟨ρ,r0,sub,hj⟩:=qf (raw:=true) (σ:=fun i=>qs[i]?) ((List.range ys.length).map fun i=>(i,ik,ys.getD i [])) (σ.low hG.size) hG (oP ok pl same r) (fun x hx=>by
    obtain ⟨i,hi,rfl⟩:=List.mem_map.1 hx
    have hi:=List.mem_range.1 hi
    by_cases hne:ys.getD i []=[]
    .exact .inl hne
    .right
     obtain ⟨b,hb⟩:=hsel i hi
     have hy:ys[i]?=some (ys.getD i []):=by rw [List.getD_eq_getElem?_getD,List.getElem?_eq_getElem hi]; rfl
     obtain ⟨B,N,id,M,o,d,hp0,hlo,hg,hd,hσ,hX,hb2⟩:=pls.2 i _ b hy hb hne
     cases hp0
     refine ⟨b.1,b.2,o,hb,hX,hb2,fun j c M' hgj hdj e1=>?_⟩
     have hj:=Hp.get_lt hgj
     obtain ⟨b',c',hb',hc',hbc⟩:=gs j hj
     rw [hgj] at hc'; cases hc'
     rcases r.inj j id b' d b.1 M' M hb' hg (by rw [hbc]; exact hdj) hd (Sg.low_sub σ _ _ _ e1) hσ with h8|⟨h8,_⟩
     .omega
     .rw [hbc] at h8; exact h8)
   have hmap:((List.range ys.length).map fun i=>(i,ik,ys.getD i [])).map (·.2)=ys.map fun y=>(ik,y):=by
    apply List.ext_getElem?
    intro i
    simp only [List.map_map,List.getElem?_map]
    rcases Nat.lt_or_ge i ys.length with hi|hi
    .simp [List.getElem?_range hi,List.getElem?_eq_getElem hi]
    .rw [List.getElem?_eq_none (by simpa using hi),List.getElem?_eq_none hi]; rfl
   rw [hmap] at r0
   have lies:Lies ρ hG.size ys qs:=fun i y b e1 e2 hne=>by
    have hi:=(List.getElem?_eq_some_iff.1 e1).1
    have:=hj i (i,ik,ys.getD i []) (by simp [List.getElem?_map,List.getElem?_range hi]) (by
     show ys.getD i []≠[]
     rw [List.getD_eq_getElem?_getD,e1]; exact hne)
    rw [this]
    exact e2
   obtain ⟨_,q3⟩:=q2 ρ hG.size [] [] lies
   rw [List.append_nil,List.append_nil] at q3
   refine ⟨C,n,_,as,ρ,nd0,v0,k,co,rfl,rfl,r0,fun gl i hgi=>?_,iY _ _ _ ht q3,hrun,hp,hn0,by rw [nE]; exact hold,To.tells hf hm h'.size⟩
   obtain ⟨N,hN⟩:=g gl i hgi
   exact ⟨N,sub _ _ (by simp [Sg.low,hgl gl i hgi,hN])⟩
end
end Go.Eng
namespace Go.Eng
open Go
noncomputable section
noncomputable def Wu (C:Ctx):Ctx:={ C with loop:=fun fr a s=>match C.loop fr a s with
 | some q=>some q
 | none=>some ⟨.tt,[⟨.tt,.goto 4242,s⟩]⟩ }
def C9:List Ent->St
 | []=>⟨[],[],⟨[],0,0⟩⟩
 | e :: l=>match e.x with
  | .goto i=>match Nat.beq i 4242 with
   | true=>e.s
   | false=>C9 l
  | _=>C9 l
def JQ:Option R->St
 | some q=>C9 q.l
 | none=>⟨[],[],⟨[],0,0⟩⟩
def uo (C:Ctx) (n:Nat) (f:FuncId) (args:List AV) (h:Hp):St:=
 match C.P.funcs[f]? with
 | none=>⟨[],[],⟨[],0,0⟩⟩
 | some fn=>match fn.body with
  | none=>⟨[],[],⟨[],0,0⟩⟩
  | some c=>aC (h.clock+1) fun ck=>JQ ((run (Wu C) n).code ⟨f,none⟩ c ⟨Ep args++qQ (fn.ntmps - args.length),[],⟨h.blks,h.size,ck⟩⟩)
def ad6 (C:Ctx) (n:Nat) (fr:AFr) (a:Code) (s:St):St:=JQ ((run (Wu C) n).code fr a s)
def hG0:Hp:=⟨[],0,1⟩
theorem NV {C:Ctx} {r:Rec} (ro:RecOk C r) {fr:AFr} {a:Code} {s0:St} {α:Type} (u:SumL α) {y0:α} {ids0:List Nat} (hI:u.I y0) (start:jG (fit s0 s0 (ah s0 (u.S y0)) ids0)) (hs:fU s0.hp (u.S y0).old=true)
  (body:∀ y,u.I y->jG (d9 s0 (u.way y) (r.code fr a (ah s0 (u.S y))))) {g:Bool} {x x':Ex} {p p':Patch} (hF:u.F y0=bif g then (x,p) else (x',p')):CodeOk C fr (.loop a) s0 ⟨.tt,[⟨.b g,x,ah s0 p⟩,⟨.b (!g),x',ah s0 p'⟩]⟩:=by
 cases g with
 | true=>exact C8 ro u hI start hs body ⟨⟨.b true,x,ah s0 p⟩,by simp [One,G.val],by rw [hF]; rfl,by rw [hF]; rfl⟩
 | false=>exact C8 ro u hI start hs body ⟨⟨.b true,x',ah s0 p'⟩,by simp [One,G.val],by rw [hF]; rfl,by rw [hF]; rfl⟩
theorem lZ {C:Ctx} {fr:AFr} {a:Code} {s0:St} {α:Type} (u:SumL α) {y0:α} {ids0:List Nat} (hI:u.I y0) (start:jG (fit s0 s0 (ah s0 (u.S y0)) ids0)) (hs:fU s0.hp (u.S y0).old=true)
  (body:∀ y,u.I y->∃ (D:Ctx) (m:Nat),CtxOk D/\D.P=C.P/\D.glob=C.glob/\jG (d9 s0 (u.way y) ((run D m).code fr a (ah s0 (u.S y))))) {x:Ex} {p:Patch} (hF:u.F y0=(x,p)):CodeOk C fr (.loop a) s0 ⟨.tt,[⟨.tt,x,ah s0 p⟩]⟩:=
 NR u hI start hs body ⟨⟨.tt,x,ah s0 p⟩,rfl,by rw [hF],by rw [hF]⟩
def XQ (P:Program) (glob:Nat->Option Nat) (hG:Hp) (f:FuncId) (ik:IntKind) (ps:List Ma) (xs:List Nu) (ys:List (List Int)) (t:To):Prop:=
 ∃ (C:Ctx) (n:Nat) (as:List AV) (nd0:Nd) (v0:AV) (k:Hp) (m:Nd) (aJ:List (Nat×Bool)),CtxOk C/\C.P=P/\C.glob=glob/\uk (Ma.mkL ps hG.size xs ys).1 as /\
   (run C n).call f as (fF true hG (ys.map fun y=>(ik,y)))=some ⟨nd0,[⟨.tt,v0,k⟩]⟩/\v0.isPanic=false/\nd0.val/\allOld hG.clock (aP (k.size - (fF true hG (ys.map fun y=>(ik,y))).size) k.blks)=true/\To.fit (fF true hG (ys.map fun y=>(ik,y))).size k ik t v0 []=some (m,aJ)/\m.val
theorem fG {P:Program} {f:FuncId} {ik:IntKind} {ps:List Ma} {V:List Nu->List (List Int)->Option (Prop×To)}
  (h:∀ xs ys p t,V xs ys=some (p,t)->p->XQ P (fun _=>none) hG0 f ik ps xs ys t) (fn:∃ fn:Func,P.funcs[f]?=some fn/\fn.body.isSome=true):NOk P (fun _=>none) hG0 f (eO hG0 ik ps V):=
 XP (show hG0.ok from rfl) rfl (fun _ _ h=>by cases h) h fn
end
end Go.Eng
namespace Go.Eng
def lc (q r y0 u:Int):Bool:=bif decide (q>=4294967296) then true else decide (IntKind.u64.wrap (q*y0)>IntKind.u64.wrap (IntKind.u64.wrap (4294967296*r)+u))
def lq (q r y1 y0 u:Int):Int:=
 bif (lc q r y0 u&&decide (IntKind.u64.wrap (r+y1)>=4294967296))||!lc q r y0 u then
  bif lc q r y0 u&&decide (IntKind.u64.wrap (r+y1)>=4294967296) then IntKind.u64.wrap (q - 1) else q
 else
  bif (lc (IntKind.u64.wrap (q - 1)) (IntKind.u64.wrap (r+y1)) y0 u&&decide (IntKind.u64.wrap (IntKind.u64.wrap (r+y1)+y1)>=4294967296))||!lc (IntKind.u64.wrap (q - 1)) (IntKind.u64.wrap (r+y1)) y0 u then
   bif lc (IntKind.u64.wrap (q - 1)) (IntKind.u64.wrap (r+y1)) y0 u&&decide (IntKind.u64.wrap (IntKind.u64.wrap (r+y1)+y1)>=4294967296) then IntKind.u64.wrap (IntKind.u64.wrap (q - 1) - 1) else IntKind.u64.wrap (q - 1)
  else
   bif lc (IntKind.u64.wrap (IntKind.u64.wrap (q - 1) - 1)) (IntKind.u64.wrap (IntKind.u64.wrap (r+y1)+y1)) y0 u&&decide (IntKind.u64.wrap (IntKind.u64.wrap (IntKind.u64.wrap (r+y1)+y1)+y1)>=4294967296) then
    IntKind.u64.wrap (IntKind.u64.wrap (IntKind.u64.wrap (q - 1) - 1) - 1)
   else IntKind.u64.wrap (IntKind.u64.wrap (q - 1) - 1)
def Wv (q r y1 y0 u:Int):Prop:=
 (lc q r y0 u&&!decide (IntKind.u64.wrap (r+y1)>=4294967296))=true ->
  (lc (IntKind.u64.wrap (q - 1)) (IntKind.u64.wrap (r+y1)) y0 u&&!decide (IntKind.u64.wrap (IntKind.u64.wrap (r+y1)+y1)>=4294967296))=true ->
   (lc (IntKind.u64.wrap (IntKind.u64.wrap (q - 1) - 1)) (IntKind.u64.wrap (IntKind.u64.wrap (r+y1)+y1)) y0 u&&!decide (IntKind.u64.wrap (IntKind.u64.wrap (IntKind.u64.wrap (r+y1)+y1)+y1)>=4294967296))=true->False
theorem jr {n:Int} (h0:0<=n) (h1:n<18446744073709551616):IntKind.u64.wrap n=n:=by rw [IntKind.wrap_u64]; omega
section step
variable {u Y y1 y0 d Q:Int}
theorem FP (hY:9223372036854775808<=Y) (e:Y=y1*4294967296+y0) (hQ1:Q*Y<=u*4294967296+d) (hQ2:u*4294967296+d<(Q+1)*Y) {q r:Int} (hu:u=q*y1+r):
  q*y0>r*4294967296+d ↔ q>Q:=by
 have h1:q*Y=q*y1*4294967296+q*y0:=by rw [e,Int.mul_add,Int.mul_assoc]
 constructor
 .intro h
  rcases Int.lt_or_le Q q with h2|h2
  .exact h2
  .have:=Int.mul_le_mul_of_nonneg_right h2 (show 0<=Y by omega)
   omega
 .intro h
  have:=Int.mul_le_mul_of_nonneg_right (show Q+1<=q by omega) (show 0<=Y by omega)
  omega
theorem Ig (hY:9223372036854775808<=Y) (e:Y=y1*4294967296+y0) (h0:0<=y0) (h0':y0<4294967296) (hd:0<=d) (hd':d<4294967296) (hQ:Q<4294967296) (hQ1:Q*Y<=u*4294967296+d) (hQ2:u*4294967296+d<(Q+1)*Y)
  {q r:Int} (hu:u=q*y1+r) (hq:0<=q) (hr:0<=r) (hr':r<4294967296):lc q r y0 d=decide (q>Q):=by
 unfold lc
 by_cases h:q>=4294967296
 .simp only [h,decide_true,cond_true]
  symm; simp; omega
 .simp only [h,decide_false,cond_false]
  have h1:q*y0<=4294967295*y0:=Int.mul_le_mul_of_nonneg_right (by omega) h0
  have h2:0<=q*y0:=Int.mul_nonneg hq h0
  rw [jr h2 (by omega),jr (n:=4294967296*r) (by omega) (by omega),jr (by omega) (by omega)]
  have:=FP hY e hQ1 hQ2 hu
  congr 1
  apply propext
  rw [<- this]
  omega
theorem TU (hY:9223372036854775808<=Y) (hY':Y<18446744073709551616) (e:Y=y1*4294967296+y0) (h0:0<=y0) (h0':y0<4294967296) (hu:0<=u) (hu':u<Y) (hd:0<=d) (hd':d<4294967296):
  lq (u / y1) (u % y1) y1 y0 d=(u*4294967296+d) / Y/\Wv (u / y1) (u % y1) y1 y0 d:=by
 have hy1:2147483648<=y1:=by omega
 have hy1':y1<4294967296:=by omega
 generalize hQ:(u*4294967296+d) / Y=Q
 have hdm:=Int.mul_ediv_add_emod (u*4294967296+d) Y
 rw [hQ] at hdm
 have hm0:=Int.emod_nonneg (u*4294967296+d) (show Y≠0 by omega)
 have hm1:=Int.emod_lt_of_pos (u*4294967296+d) (show 0<Y by omega)
 have hc:Y*Q=Q*Y:=Int.mul_comm _ _
 have hQ1:Q*Y<=u*4294967296+d:=by omega
 have hQ2:u*4294967296+d<(Q+1)*Y:=by rw [Int.add_mul]; omega
 have hQ0:0<=Q:=by rw [<- hQ]; exact Int.ediv_nonneg (by omega) (by omega)
 have hQlt:Q<4294967296:=by
  rcases Int.lt_or_le Q 4294967296 with h|h
  .exact h
  .have:=Int.mul_le_mul_of_nonneg_right h (show 0<=Y by omega)
   omega
 have hqr:=Int.mul_ediv_add_emod u y1
 have hr0:=Int.emod_nonneg u (show y1≠0 by omega)
 have hr1:=Int.emod_lt_of_pos u (show 0<y1 by omega)
 generalize hq:u / y1=q at *
 generalize hr:u % y1=r at *
 have hq0:0<=q:=by rw [<- hq]; exact Int.ediv_nonneg hu (by omega)
 have hc1:y1*q=q*y1:=Int.mul_comm _ _
 have hu1:u=q*y1+r:=by omega
 have hqle:q<=4294967297:=by
  rcases Int.lt_or_le 4294967297 q with h|h
  .have:=Int.mul_le_mul_of_nonneg_right (show 4294967298<=q by omega) (show 0<=y1 by omega)
   omega
  .exact h
 have hge:Q<=q:=by
  rcases Int.lt_or_le q Q with h|h
  .have h1:=Int.mul_le_mul_of_nonneg_right (show q+1<=Q by omega) (show 0<=Y by omega)
   have h2:(q+1)*Y=q*y1*4294967296+y1*4294967296+(q+1)*y0:=by rw [e,Int.mul_add,Int.add_mul,<- Int.mul_assoc,Int.add_mul,Int.one_mul,Int.one_mul]
   have h3:0<=(q+1)*y0:=Int.mul_nonneg (by omega) h0
   omega
  .exact h
 have hle:q<=Q+2:=by
  rcases Int.lt_or_le (Q+2) q with h|h
  .have h1:=Int.mul_le_mul_of_nonneg_right (show Q+1<=q - 2 by omega) (show 0<=Y by omega)
   have h2:(q - 2)*Y=q*y1*4294967296 - 2*y1*4294967296+(q - 2)*y0:=by rw [e,Int.mul_add,Int.sub_mul,<- Int.mul_assoc,Int.sub_mul,Int.mul_assoc 2]
   have h3:(q - 2)*y0<=4294967295*y0:=Int.mul_le_mul_of_nonneg_right (by omega) h0
   omega
  .exact h
 have C1:lc q r y0 d=decide (q>Q):=Ig hY e h0 h0' hd hd' hQlt hQ1 hQ2 hu1 hq0 hr0 (by omega)
 have w1:IntKind.u64.wrap (r+y1)=r+y1:=jr (by omega) (by omega)
 by_cases g1:q>Q
 .have v1:IntKind.u64.wrap (q - 1)=q - 1:=jr (by omega) (by omega)
  have hu2:u=(q - 1)*y1+(r+y1):=by rw [Int.sub_mul]; omega
  by_cases b1:r+y1>=4294967296
  .-- the second guess must be right
   have hq1:q - 1=Q:=by
    have:=FP hY e hQ1 hQ2 hu2
    have h3:(q - 1)*y0<=4294967296*y0:=Int.mul_le_mul_of_nonneg_right (by omega) h0
    rcases Int.lt_or_le Q (q - 1) with h|h
    .have:=this.2 h
     omega
    .omega
   refine ⟨?_,?_⟩
   .simp only [lq,C1,w1,v1,g1,b1,decide_true,Bool.and_self,Bool.true_or,cond_true]
    exact hq1
   .intro h
    simp [C1,w1,b1] at h
  .have C2:lc (q - 1) (r+y1) y0 d=decide (q - 1>Q):=Ig hY e h0 h0' hd hd' hQlt hQ1 hQ2 hu2 (by omega) (by omega) (by omega)
   by_cases g2:q - 1>Q
   .have v2:IntKind.u64.wrap (q - 1 - 1)=q - 1 - 1:=jr (by omega) (by omega)
    have w2:IntKind.u64.wrap (r+y1+y1)=r+y1+y1:=jr (by omega) (by omega)
    have hq2:q - 1 - 1=Q:=by omega
    by_cases b2:r+y1+y1>=4294967296
    .refine ⟨?_,?_⟩
     .simp only [lq,C1,w1,v1,g1,b1,C2,g2,v2,w2,b2,decide_true,decide_false,Bool.and_self,Bool.and_false,Bool.not_true,Bool.or_self,Bool.true_or,Bool.or_false,cond_true,cond_false]
      exact hq2
     .intro _ h
      simp [C2,w1,v1,w2,b2] at h
    .have hu3:u=(q - 1 - 1)*y1+(r+y1+y1):=by rw [Int.sub_mul]; omega
     have C3:lc (q - 1 - 1) (r+y1+y1) y0 d=decide (q - 1 - 1>Q):=Ig hY e h0 h0' hd hd' hQlt hQ1 hQ2 hu3 (by omega) (by omega) (by omega)
     have g3:¬ q - 1 - 1>Q:=by omega
     refine ⟨?_,?_⟩
     .simp only [lq,C1,w1,v1,g1,b1,C2,g2,v2,w2,b2,C3,g3,decide_true,decide_false,Bool.and_self,Bool.and_false,Bool.false_and,Bool.not_true,Bool.or_self,Bool.true_or,Bool.or_false,cond_true,cond_false]
      exact hq2
     .intro _ _ h
      simp [v1,w1,v2,w2,C3,g3] at h
   .refine ⟨?_,?_⟩
    .simp only [lq,C1,w1,v1,g1,b1,C2,g2,decide_true,decide_false,Bool.and_self,Bool.and_false,Bool.false_and,Bool.not_true,Bool.not_false,Bool.or_self,Bool.true_or,Bool.or_true,Bool.or_false,cond_true,cond_false]
     omega
    .intro _ h
     simp [v1,w1,C2,g2] at h
 .refine ⟨?_,?_⟩
  .simp only [lq,C1,g1,decide_false,Bool.false_and,Bool.not_false,Bool.or_true,cond_true,cond_false]
   omega
  .intro h
   simp [C1,g1] at h
end step
def dS (y:Int):Int:=IntKind.u64.wrap (64 - ((Lib.bitLen y.toNat:Nat):Int))
def dP (y:Int):Int:=2 ^ min (dS y).toNat IntKind.u64.bits
def dH:Int:=2 ^ min (Int.toNat 32) IntKind.u64.bits
def XR (n:Int):Int:=IntKind.u64.wrap ((BitVec.ofInt IntKind.u64.bits n &&& BitVec.ofInt IntKind.u64.bits 4294967295).toNat:Int)
def dY (y:Int):Int:=IntKind.u64.wrap (y*dP y)
def dY1 (y:Int):Int:=(dY y).fdiv dH
def dY0 (y:Int):Int:=XR (dY y)
def NW (hi lo y:Int):Int:=IntKind.u64.wrap ((BitVec.ofInt IntKind.u64.bits (IntKind.u64.wrap (hi*dP y)) ||| BitVec.ofInt IntKind.u64.bits (lo.fdiv (2 ^ min (IntKind.u64.wrap (64 - dS y)).toNat IntKind.u64.bits))).toNat:Int)
def TV (lo y:Int):Int:=IntKind.u64.wrap (lo*dP y)
def dU1 (lo y:Int):Int:=(TV lo y).fdiv dH
def dU0 (lo y:Int):Int:=XR (TV lo y)
def dq (u y:Int):Int:=IntKind.u64.wrap (u.tdiv (dY1 y))
def dr (u y:Int):Int:=IntKind.u64.wrap (u - IntKind.u64.wrap (dq u y*dY1 y))
def Bp (u y d:Int):Int:=lq (dq u y) (dr u y) (dY1 y) (dY0 y) d
def qg (u y d:Int):Prop:=Wv (dq u y) (dr u y) (dY1 y) (dY0 y) d
def JR (u y d:Int):Int:=IntKind.u64.wrap (IntKind.u64.wrap (IntKind.u64.wrap (u*4294967296)+d) - IntKind.u64.wrap (Bp u y d*dY y))
def vE (hi lo y:Int):Int:=JR (NW hi lo y) y (dU1 lo y)
def TW (hi lo y:Int):Int:=bif hi==0 then IntKind.u64.wrap (lo.tdiv y) else IntKind.u64.wrap (IntKind.u64.wrap (Bp (NW hi lo y) y (dU1 lo y)*4294967296)+Bp (vE hi lo y) y (dU0 lo y))
def TY (hi lo y:Int):Int:=bif hi==0 then lo.tmod y else (JR (vE hi lo y) y (dU0 lo y)).fdiv (dP y)
def Ww (hi lo y:Int):Prop:=
 ((y==0)=true->False)/\(decide (y<=hi)=true->False)/\((hi==0)=true->y≠0/\y≠0)/\((!(hi==0))=true->(0<=y/\y<=18446744073709551615)/\0<=dS y/\(0<=dS y/\0<=IntKind.u64.wrap (64 - dS y))/\0<=dS y /\
  dY1 y≠0/\qg (NW hi lo y) y (dU1 lo y)/\dY1 y≠0/\qg (vE hi lo y) y (dU0 lo y)/\0<=dS y)
theorem l6:∀ (f x:Nat),x<2 ^ f->0<x->2 ^ (Lib.bitLenAux f x - 1)<=x/\x<2 ^ (Lib.bitLenAux f x)/\1<=Lib.bitLenAux f x
 | 0,x,h,h0=>by simp at h; omega
 | f+1,x,h,h0=>by
  simp only [Lib.bitLenAux,if_neg (show ¬ x=0 by omega)]
  rw [Nat.pow_succ] at h
  by_cases hx:x / 2=0
  .have:x=1:=by omega
   subst this
   have hz:Lib.bitLenAux f (1 / 2)=0:=by cases f <;> simp [Lib.bitLenAux]
   rw [hz]; simp
  .obtain ⟨h1,h2,h3⟩:=l6 f (x / 2) (by omega) (by omega)
   obtain ⟨k,hk⟩:∃ k,Lib.bitLenAux f (x / 2)=k+1:=⟨_,(Nat.sub_add_cancel h3).symm⟩
   rw [hk] at h1 h2 ⊢
   rw [show 1+(k+1) - 1=k+1 from by omega,show 1+(k+1)=(k+1)+1 from by omega]
   rw [show k+1 - 1=k from rfl] at h1
   rw [Nat.pow_succ] at h2 ⊢
   rw [Nat.pow_succ]
   refine ⟨by omega,by rw [Nat.pow_succ]; omega,by omega⟩
theorem Ae (x:Nat) (h:x<2 ^ 64) (h0:0<x):2 ^ (Lib.bitLen x - 1)<=x/\x<2 ^ (Lib.bitLen x)/\1<=Lib.bitLen x:=l6 64 x h h0
theorem dLow_eq (n:Nat) (h:n<18446744073709551616):XR (n:Int)=((n % 4294967296:Nat):Int):=by
 have h1:=bits_and_u64_nat n 4294967295 h (by omega)
 have e:n &&& 4294967295=n % 4294967296:=Nat.and_two_pow_sub_one_eq_mod n 32
 rw [e] at h1
 exact h1
theorem dOr_eq (a b:Nat) (ha:a<18446744073709551616) (hb:b<18446744073709551616):IntKind.u64.wrap ((BitVec.ofInt IntKind.u64.bits (a:Int) ||| BitVec.ofInt IntKind.u64.bits (b:Int)).toNat:Int)=((a ||| b:Nat):Int):=bits_or_u64_nat a b ha hb
theorem Wx:dH=4294967296:=rfl
theorem JS {y Y u d:Int} (hy:dY y=Y) (hY:9223372036854775808<=Y) (hY':Y<18446744073709551616) (hu:0<=u) (hu':u<Y) (hd:0<=d) (hd':d<4294967296):
  Bp u y d=(u*4294967296+d) / Y/\qg u y d/\JR u y d=(u*4294967296+d) % Y/\dY1 y≠0:=by
 have h1:dY1 y=Y / 4294967296:=by unfold dY1; rw [hy,Wx,Int.fdiv_eq_ediv_of_nonneg _ (by omega)]
 have h0:dY0 y=Y % 4294967296:=by
  unfold dY0; rw [hy]
  have:=dLow_eq Y.toNat (by omega)
  rw [Int.toNat_of_nonneg (by omega)] at this
  rw [this]; omega
 have hp:0<Y / 4294967296:=by omega
 have hq:dq u y=u / (Y / 4294967296):=by
  unfold dq; rw [h1,Int.tdiv_eq_ediv_of_nonneg hu]
  have a1:=Int.ediv_nonneg hu (show 0<=Y / 4294967296 by omega)
  have a2:u / (Y / 4294967296)<=u:=Int.ediv_le_self _ hu
  exact jr a1 (by omega)
 have hdm:=Int.mul_ediv_add_emod u (Y / 4294967296)
 have hm0:=Int.emod_nonneg u (show Y / 4294967296≠0 by omega)
 have hc:=Int.mul_comm (Y / 4294967296) (u / (Y / 4294967296))
 have hn:0<=u / (Y / 4294967296)*(Y / 4294967296):=Int.mul_nonneg (Int.ediv_nonneg hu (by omega)) (by omega)
 have hr:dr u y=u % (Y / 4294967296):=by
  unfold dr; rw [hq,h1,jr hn (by omega),jr (by omega) (by omega)]; omega
 have main:=TU (u:=u) (y1:=Y / 4294967296) (y0:=Y % 4294967296) (d:=d) hY hY' (by omega) (by omega) (by omega) hu hu' hd hd'
 have hs:Bp u y d=(u*4294967296+d) / Y:=by unfold Bp; rw [hq,hr,h1,h0]; exact main.1
 refine ⟨hs,by unfold qg; rw [hq,hr,h1,h0]; exact main.2,?_,by omega⟩
 unfold JR
 rw [hs,hy]
 have e1:=Int.mul_ediv_add_emod (u*4294967296+d) Y
 have e2:=Int.mul_comm Y ((u*4294967296+d) / Y)
 have e3:=Int.emod_nonneg (u*4294967296+d) (show Y≠0 by omega)
 have e4:=Int.emod_lt_of_pos (u*4294967296+d) (show 0<Y by omega)
 rw [IntKind.wrap_u64,IntKind.wrap_u64,IntKind.wrap_u64,IntKind.wrap_u64]
 omega
theorem NY (h l z:Nat) (hz:h<z) (hz':z<18446744073709551616) (hl:l<18446744073709551616):
  Ww h l z/\TW h l z=(h*18446744073709551616+l) / z/\TY h l z=(h*18446744073709551616+l) % z:=by
 by_cases hh:h=0
 .subst hh
  have e:(((0:Nat):Int)==0)=true:=rfl
  refine ⟨⟨?_,?_,?_,?_⟩,?_,?_⟩
  .simp; omega
  .simp; omega
  .intro _; constructor <;> omega
  .rw [e]; intro h; cases h
  .unfold TW
   rw [e,cond_true,Int.tdiv_eq_ediv_of_nonneg (by omega)]
   have a1:=Int.ediv_nonneg (show (0:Int)<=l by omega) (show (0:Int)<=z by omega)
   have a2:(l:Int) / z<=l:=Int.ediv_le_self _ (by omega)
   rw [jr a1 (by omega)]; simp
  .unfold TY
   rw [e,cond_true,Int.tmod_eq_emod_of_nonneg (by omega)]; simp
 .have e:(((h:Nat):Int)==0)=false:=by simp; omega
  obtain ⟨b1,b2,b3⟩:=Ae z hz' (by omega)
  have b4:=Lib.bitLen_le z 64 (by omega) hz'
  generalize hL:Lib.bitLen z=L at *
  have s1:dS z=((64 - L:Nat):Int):=by
   unfold dS
   rw [Int.toNat_natCast,hL,jr (by omega) (by omega)]; omega
  have s2:dP z=((2 ^ (64 - L):Nat):Int):=by
   unfold dP
   rw [s1,Int.toNat_natCast,show IntKind.u64.bits=64 from rfl,Nat.min_eq_left (by omega)]
   simp
  have s3:IntKind.u64.wrap (64 - dS z)=(L:Int):=by rw [s1,jr (by omega) (by omega)]; omega
  have s4:((2:Int) ^ min (IntKind.u64.wrap (64 - dS z)).toNat IntKind.u64.bits)=((2 ^ L:Nat):Int):=by
   rw [s3,Int.toNat_natCast,show IntKind.u64.bits=64 from rfl,Nat.min_eq_left b4]
   simp
  have pr:2 ^ L*2 ^ (64 - L)=18446744073709551616:=by rw [<- Nat.pow_add,show L+(64 - L)=64 by omega]
  have pr2:2 ^ (L - 1)*2 ^ (64 - L)=9223372036854775808:=by rw [<- Nat.pow_add,show L - 1+(64 - L)=63 by omega]
  have hPpos:0<2 ^ (64 - L):=Nat.pow_pos (by omega)
  have hRpos:0<2 ^ L:=Nat.pow_pos (by omega)
  have hlt2:∀ x:Nat,x<2 ^ (64 - L)->2 ^ (64 - L)*h+x=2 ^ (64 - L)*h ||| x:=fun x hx=>Nat.two_pow_add_eq_or_of_lt hx h
  generalize hPn:2 ^ (64 - L)=Pn at *
  generalize hR:2 ^ L=R at *
  generalize hR1:2 ^ (L - 1)=R1 at *
  have Y1:9223372036854775808<=z*Pn:=by rw [<- pr2]; exact Nat.mul_le_mul_right _ b1
  have Y2:z*Pn<18446744073709551616:=by rw [<- pr]; exact Nat.mul_lt_mul_of_pos_right b2 hPpos
  have hYe:dY z=((z*Pn:Nat):Int):=by
   unfold dY
   rw [s2,<- Int.natCast_mul,jr (by omega) (by omega)]
  have hhP:h*Pn<z*Pn:=Nat.mul_lt_mul_of_pos_right hz hPpos
  have hlR:l / R<Pn:=by rw [Nat.div_lt_iff_lt_mul hRpos,Nat.mul_comm,pr]; exact hl
  have hU:NW h l z=((h*Pn+l / R:Nat):Int):=by
   unfold NW
   rw [s4,s2,Int.fdiv_eq_ediv_of_nonneg _ (by omega),<- Int.natCast_mul,<- Int.natCast_ediv,jr (n:=((h*Pn:Nat):Int)) (by omega) (by omega),dOr_eq _ _ (by omega) (Nat.lt_of_le_of_lt (Nat.div_le_self _ _) hl)]
   have:=hlt2 (l / R) hlR
   rw [Nat.mul_comm Pn h] at this
   rw [this]
  have hlm:=Nat.div_add_mod l R
  have hlm2:=Nat.mod_lt l hRpos
  have hlP:l*Pn=l / R*18446744073709551616+l % R*Pn:=by
   conv=>lhs; rw [<- hlm]
   rw [Nat.add_mul,Nat.mul_comm R,Nat.mul_assoc,pr]
  have hlP2:l % R*Pn<18446744073709551616:=by rw [<- pr]; exact Nat.mul_lt_mul_of_pos_right hlm2 hPpos
  have hU10:TV l z=((l % R*Pn:Nat):Int):=by
   unfold TV
   rw [s2,<- Int.natCast_mul,hlP,IntKind.wrap_u64]
   omega
  generalize hV:l % R*Pn=V at *
  generalize hUn:h*Pn+l / R=U at *
  have hN:(h*18446744073709551616+l)*Pn=U*18446744073709551616+V:=by
   rw [Nat.add_mul,hlP,<- hUn,Nat.add_mul,Nat.mul_assoc,Nat.mul_comm 18446744073709551616 Pn,<- Nat.mul_assoc]; omega
  have hUY:U<z*Pn:=by
   have:(h*18446744073709551616+l)*Pn<z*18446744073709551616*Pn:=Nat.mul_lt_mul_of_pos_right (by omega) hPpos
   rw [hN,Nat.mul_assoc,Nat.mul_comm 18446744073709551616 Pn,<- Nat.mul_assoc] at this
   omega
  generalize hY:z*Pn=Y at *
  have hU1:dU1 l z=((V / 4294967296:Nat):Int):=by
   unfold dU1; rw [hU10,Wx,Int.fdiv_eq_ediv_of_nonneg _ (by omega)]; omega
  have hU0:dU0 l z=((V % 4294967296:Nat):Int):=by unfold dU0; rw [hU10,dLow_eq _ hlP2]
  obtain ⟨p1,p2,p3,p4⟩:=JS (u:=(U:Int)) (d:=((V / 4294967296:Nat):Int)) hYe (by omega) (by omega) (by omega) (by omega) (by omega) (by omega)
  have hU21:vE h l z=((U:Int)*4294967296+((V / 4294967296:Nat):Int)) % (Y:Int):=by unfold vE; rw [hU,hU1]; exact p3
  have e1:=Int.mul_ediv_add_emod ((U:Int)*4294967296+((V / 4294967296:Nat):Int)) (Y:Int)
  have e3:=Int.emod_nonneg ((U:Int)*4294967296+((V / 4294967296:Nat):Int)) (show (Y:Int)≠0 by omega)
  have e4:=Int.emod_lt_of_pos ((U:Int)*4294967296+((V / 4294967296:Nat):Int)) (show (0:Int)<Y by omega)
  have a0:=Int.ediv_nonneg (show (0:Int)<=(U:Int)*4294967296+((V / 4294967296:Nat):Int) by omega) (show (0:Int)<=Y by omega)
  have a1:((U:Int)*4294967296+((V / 4294967296:Nat):Int)) / Y<4294967296:=Int.ediv_lt_of_lt_mul (by omega) (by omega)
  rw [<- hU21] at e1 e3 e4
  obtain ⟨q1,q2,q3,_⟩:=JS (u:=vE h l z) (d:=((V % 4294967296:Nat):Int)) hYe (by omega) (by omega) e3 e4 (by omega) (by omega)
  have f1:=Int.mul_ediv_add_emod (vE h l z*4294967296+((V % 4294967296:Nat):Int)) (Y:Int)
  have f3:=Int.emod_nonneg (vE h l z*4294967296+((V % 4294967296:Nat):Int)) (show (Y:Int)≠0 by omega)
  have f4:=Int.emod_lt_of_pos (vE h l z*4294967296+((V % 4294967296:Nat):Int)) (show (0:Int)<Y by omega)
  have c0:=Int.ediv_nonneg (show (0:Int)<=vE h l z*4294967296+((V % 4294967296:Nat):Int) by omega) (show (0:Int)<=Y by omega)
  have c1:(vE h l z*4294967296+((V % 4294967296:Nat):Int)) / Y<4294967296:=Int.ediv_lt_of_lt_mul (by omega) (by omega)
  generalize hA:((U:Int)*4294967296+((V / 4294967296:Nat):Int)) / (Y:Int)=A at *
  generalize hB:(vE h l z*4294967296+((V % 4294967296:Nat):Int)) / (Y:Int)=B at *
  generalize hM:(vE h l z*4294967296+((V % 4294967296:Nat):Int)) % (Y:Int)=M at *
  have hNI:((h:Int)*18446744073709551616+l)*Pn=(U:Int)*18446744073709551616+V:=by
   have:=congrArg (fun n:Nat=>(n:Int)) hN
   simp only [Int.natCast_mul,Int.natCast_add,Int.cast_ofNat_Int] at this
   exact this
  have hYI:(z:Int)*Pn=Y:=by rw [<- Int.natCast_mul,hY]
  have tot:((h:Int)*18446744073709551616+l)*Pn=Y*(A*4294967296+B)+M:=by
   rw [hNI,Int.mul_add,<- Int.mul_assoc]
   omega
  have hdiv:((h:Int)*18446744073709551616+l) / z=A*4294967296+B:=by
   have k1:((h:Int)*18446744073709551616+l) / z=((h:Int)*18446744073709551616+l)*Pn / (z*Pn):=(Int.mul_ediv_mul_of_pos_left _ _ (by omega)).symm
   rw [k1,hYI,tot,Int.mul_add_ediv_left _ _ (by omega),Int.ediv_eq_zero_of_lt f3 f4]; omega
  have hmod:((h:Int)*18446744073709551616+l) % z*Pn=M:=by
   have k1:((h:Int)*18446744073709551616+l) % z*Pn=(((h:Int)*18446744073709551616+l)*Pn) % (z*Pn):=by
    rw [Int.mul_comm _ (Pn:Int),Int.mul_comm _ (Pn:Int),Int.mul_comm _ (Pn:Int),Int.mul_emod_mul_of_pos _ _ (by omega)]
   rw [k1,hYI,tot,Int.mul_add_emod_self_left,Int.emod_eq_of_lt f3 f4]
  refine ⟨⟨?_,?_,?_,fun _=>⟨⟨by omega,by omega⟩,by omega,⟨by omega,by rw [s3]; omega⟩,by omega,p4,?_,p4,?_,by omega⟩⟩,?_,?_⟩
  .simp; omega
  .simp; omega
  .rw [e]; intro h; cases h
  .rw [hU,hU1]; exact p2
  .rw [hU0]; exact q2
  .unfold TW
   rw [e,cond_false,hU,hU1,p1,hU0,q1,hdiv,jr (n:=A*4294967296) (by omega) (by omega),jr (by omega) (by omega)]
  .unfold TY
   rw [e,cond_false,hU0,q3,s2,Int.fdiv_eq_ediv_of_nonneg _ (by omega),<- hmod]
   exact Int.mul_ediv_cancel _ (by omega)
end Go.Eng
