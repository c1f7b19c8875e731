/- What is proved: MtfTwo returns true, whatever the input (part 7). No conditions beyond those of the row. -/
import Derived.Test.YtbiiiloimbjpaaaGreatDoorPF
import Derived.Laws.Bits64b
import Derived.Lib.BitFns
open Go.IntKind (i64 u64)
set_option linter.unusedVariables false
set_option linter.unusedSimpArgs false
set_option linter.unusedSectionVars false
namespace Go.Eng
open Go
noncomputable section
structure SumL (α:Type) where
 S:α->Patch
 I:α->Prop
 μ:α->Nat
 F:α->Ex×Patch
 next:α->α
 ids:α->List Nat
 X:α->Ex->Option (Patch×List Nat)
def SumL.way {α:Type} (u:SumL α) (y:α):Ex->Option (Patch×List Nat×Prop)
 | .normal=>some (u.S (u.next y),u.ids y,u.I (u.next y)/\u.μ (u.next y)<u.μ y/\u.F (u.next y)=u.F y)
 | x=>match u.X y x with
  | none=>none
  | some (p,ids)=>some (p,ids,u.F y=(x,p))
theorem Mq {C:Ctx} {r:Rec} (ro:RecOk C r) {fr:AFr} {a:Code} {s0:St} {α:Type} (u:SumL α) {y0:α} {H:List Nat} (hI:u.I y0) (start:qC (fit s0 s0 (aJ s0 (u.S y0)) H)) (hs:kz s0.hp (u.S y0).old=true)
  (body:∀ y,u.I y->qC (dQ s0 (u.way y) (r.code fr a (aJ s0 (u.S y))))) {q:R} (hq:∃ e,One q.l e/\e.x=(u.F y0).1/\e.s=aJ s0 (u.F y0).2):CodeOk C fr (.loop a) s0 q:=by
 intro σ T0 D0 E g sr b k ag cs aa fb _;obtain ⟨e0,h1,h2,h3⟩:=hq;refine ⟨e0,h1,?_⟩;rw [h2,h3];have J:∀ (n:Nat) (y:α),u.μ y<n->u.I y->∀ (τ:Sg) (T:Array Value) (D:List Deferred) (W:World),SRel τ (aJ s0 (u.S y)) T D W->Step σ s0 E τ (aJ s0 (u.S y)) W ->
   Post σ s0 E (Arr C.P (lone (b.fr T D (.code a :: .inLoop a :: k)) cs W) b k cs) (u.F y).1 (aJ s0 (u.F y).2):=by
  intro n
  induction n with
  | zero=>intro y h;exact absurd h (rM _)
  | succ n ih=>
   intro y ah hy τ T D W z t;obtain ⟨nd,A,hn⟩:=body y hy;unfold dQ at A;split at A
   .cases A
   .rename_i ai l hl;split at A
    .cases A
    .rename_i m hm;cases A;obtain ⟨e,o1,aj,T2,D2,V2,K,ab,f⟩:=ro.code _ _ _ _ hl τ T D W (g.mono t.good.sub) z b (.inLoop a :: k) _ cs (.inl rfl) (fb.mono t.good.sub) (Nd.lv hn);obtain ⟨p,ids,x,m',o,hold,hf,ac,hx⟩:=Cv hm (Nd.rv hn) e o1;have ae:=Step.trans z.ko K.ko t ab;obtain ⟨υ,L,M⟩:=EG sr K ae (pM sr.ko hold) hf ac;have j:∀ O,O≠.normal->(match u.X y O with|none=>none|some (p,ids)=>some (p,ids,u.F y=(O,p)))=some (p,ids,x)->Arr C.P (lone (b.fr T D (.code a :: .inLoop a :: k)) cs W) b (.inLoop a :: k) cs O T2 D2 V2 ->
       Post σ s0 E (Arr C.P (lone (b.fr T D (.code a :: .inLoop a :: k)) cs W) b k cs) (u.F y).1 (aJ s0 (u.F y).2):=by
      intro O af o f;split at o
      .cases o
      .cases o;rw [show u.F y=_ from hx];exact ⟨υ,T2,D2,V2,L,M,f.pass rfl af⟩
     cases w:e.x with
     | normal=>
      rw [w] at o f;simp only [SumL.way] at o;cases o;obtain ⟨x1,x2,x3⟩:=hx;have:=ih (u.next y) (by omega) x1 υ T2 D2 V2 L M;rw [x3] at this;refine this.imp fun T3 D3 V3 h=>.of_steps (Steps.trans f (.one nG)) h
     | exit i=>rw [w] at o f;exact j (.exit i) (fun h=>by cases h) o f
     | goto i=>rw [w] at o f;exact j (.goto i) (fun h=>by cases h) o f
     | ret=>rw [w] at o f;exact j .ret (fun h=>by cases h) o f
     | raise v=>rw [w] at o f;exact j (.raise v) (fun h=>by cases h) o f
 obtain ⟨nd,A,hn⟩:=start;have refl:Step σ s0 E σ s0 E:=⟨Good.refl σ s0.hp E fun i B N h=>(sr.h.dom i B N h).1,TMon.refl s0⟩;obtain ⟨υ,z,t⟩:=EG sr sr refl (pM sr.ko hs) A hn;have:=J _ y0 (rH _) hI υ T0 D0 E z t;refine this.imp fun T3 D3 V3 h=>?_;rcases aa with rfl|⟨c,hc,rfl⟩
 .exact .of_steps (.one BZ) h
 .cases hc;exact .of_steps (.one nG) h
theorem jX {C:Ctx} {r:Rec} (f:RecOk C r) {fr:AFr} {a:Code} {s0:St} {α:Type} (u:SumL α) {y0:α} {b:List Nat} (g:u.I y0) (start:qC (fit s0 s0 (aJ s0 (u.S y0)) b)) (h:kz s0.hp (u.S y0).old=true)
  (body:∀ y,u.I y->qC (dQ s0 (u.way y) (r.code fr a (aJ s0 (u.S y))))) {x:Ex} {p:Patch} (c:u.F y0=(x,p)):CodeOk C fr (.loop a) s0 ⟨.tt,[⟨.tt,x,aJ s0 p⟩]⟩:=
 Mq f u g start h body ⟨⟨.tt,x,aJ s0 p⟩,rfl,by rw [c],by rw [c]⟩
theorem CodeOk.ctx {C D:Ctx} (hP:D.P=C.P) (hg:D.glob=C.glob) {fr:AFr} {a:Code} {s:St} {q:R} (h:CodeOk C fr a s q):CodeOk D fr a s q:=by intro σ T E W g sr b k J cs O fb hn;rw [hP];exact h σ T E W (fun x i e=>g x i (by rw [hg];exact e)) sr b k J cs O fb hn
theorem YN {C:Ctx} {fr:AFr} {a:Code} {s0:St} {α:Type} (u:SumL α) {y0:α} {E:List Nat} (hI:u.I y0) (start:qC (fit s0 s0 (aJ s0 (u.S y0)) E)) (hs:kz s0.hp (u.S y0).old=true)
  (body:∀ y,u.I y->∃ (D:Ctx) (m:Nat),CtxOk D/\D.P=C.P/\D.glob=C.glob/\qC (dQ s0 (u.way y) ((run D m).code fr a (aJ s0 (u.S y))))) {q:R} (hq:∃ e,One q.l e/\e.x=(u.F y0).1/\e.s=aJ s0 (u.F y0).2):CodeOk C fr (.loop a) s0 q:=by
 intro σ T0 D0 A g sr b k ai cs O fb _;obtain ⟨e0,h1,h2,h3⟩:=hq;refine ⟨e0,h1,?_⟩;rw [h2,h3];have H:∀ (n:Nat) (y:α),u.μ y<n->u.I y->∀ (τ:Sg) (T:Array Value) (D:List Deferred) (W:World),SRel τ (aJ s0 (u.S y)) T D W->Step σ s0 A τ (aJ s0 (u.S y)) W ->
   Post σ s0 A (Arr C.P (lone (b.fr T D (.code a :: .inLoop a :: k)) cs W) b k cs) (u.F y).1 (aJ s0 (u.F y).2):=by
  intro n
  induction n with
  | zero=>intro y h;exact absurd h (rM _)
  | succ n ih=>
   intro y aj hy τ T D W w r;obtain ⟨D',fm,aa,ab,ac,nd,z,hn⟩:=body y hy;unfold dQ at z;split at z
   .cases z
   .rename_i ak l hl;split at z
    .cases z
    .rename_i m hm;cases z;obtain ⟨e,o1,al,T2,D2,V2,J,ae,f⟩:=(CodeOk.ctx (C:=D') (D:=C) ab.symm ac.symm ((dw aa fm).code _ _ _ _ hl)) τ T D W (g.mono r.good.sub) w b (.inLoop a :: k) _ cs (.inl rfl) (fb.mono r.good.sub) (Nd.lv hn);obtain ⟨p,ids,x,m',o,hold,hf,af,hx⟩:=Cv hm (Nd.rv hn) e o1;have ag:=Step.trans w.ko J.ko r ae;obtain ⟨υ,K,L⟩:=EG sr J ag (pM sr.ko hold) hf af;have j:∀ M,M≠.normal->(match u.X y M with|none=>none|some (p,ids)=>some (p,ids,u.F y=(M,p)))=some (p,ids,x)->Arr C.P (lone (b.fr T D (.code a :: .inLoop a :: k)) cs W) b (.inLoop a :: k) cs M T2 D2 V2 ->
       Post σ s0 A (Arr C.P (lone (b.fr T D (.code a :: .inLoop a :: k)) cs W) b k cs) (u.F y).1 (aJ s0 (u.F y).2):=by
      intro M ah o f;split at o
      .cases o
      .cases o;rw [show u.F y=_ from hx];exact ⟨υ,T2,D2,V2,K,L,f.pass rfl ah⟩
     cases t:e.x with
     | normal=>
      rw [t] at o f;simp only [SumL.way] at o;cases o;obtain ⟨x1,x2,x3⟩:=hx;have:=ih (u.next y) (by omega) x1 υ T2 D2 V2 K L;rw [x3] at this;refine this.imp fun T3 D3 V3 h=>.of_steps (Steps.trans f (.one nG)) h
     | exit i=>rw [t] at o f;exact j (.exit i) (fun h=>by cases h) o f
     | goto i=>rw [t] at o f;exact j (.goto i) (fun h=>by cases h) o f
     | ret=>rw [t] at o f;exact j .ret (fun h=>by cases h) o f
     | raise v=>rw [t] at o f;exact j (.raise v) (fun h=>by cases h) o f
 obtain ⟨nd,z,hn⟩:=start;have refl:Step σ s0 A σ s0 A:=⟨Good.refl σ s0.hp A fun i B N h=>(sr.h.dom i B N h).1,TMon.refl s0⟩;obtain ⟨υ,w,r⟩:=EG sr sr refl (pM sr.ko hs) z hn;have:=H _ y0 (rH _) hI υ T0 D0 A w r;refine this.imp fun T3 D3 V3 h=>?_;rcases O with rfl|⟨c,hc,rfl⟩
 .exact .of_steps (.one BZ) h
 .cases hc;exact .of_steps (.one nG) h
def FP (lo:Nat) (h:Hp) (ik:IntKind):AV->Option (Nd×List Int)
 | .nilslice=>some (.tt,[])
 | .eslice _=>some (.tt,[])
 | .lslice i n=>match h.get i with
  | some ⟨_,.rows k ys⟩=>match decide (ik=k)&&Nat.ble lo i with
   | true=>some (.p (n=ys.length),ys)
   | false=>none
  | _=>none
 | .islice w i o n=>match h.get i with
  | some ⟨_,.rows k ys⟩=>match decide (ik=k)&&Nat.ble lo i&&!w with
   | true=>some (.p (0<=o/\0<=n/\o+n<=ys.length),(ys.drop o.toNat).take n.toNat)
   | false=>none
  | some ⟨_,.ints k ys⟩=>match decide (ik=k)&&Nat.ble lo i&&w with
   | true=>some (.p (0<=o/\0<=n/\o+n<=ys.length),(ys.drop o.toNat).take n.toNat)
   | false=>none
  | _=>none
 | .slice i off l c=>match h.get i with
  | some ⟨_,.cells cs⟩=>match Nat.ble lo i&&Nat.ble l c with
   | true=>match iK l (fo off cs) with
    | none=>none
    | some q=>match xg ik q with
     | none=>none
     | some ys=>some (.tt,ys)
   | false=>none
  | _=>none
 | .gslice i off l e=>match h.get i with
  | some ⟨_,.grown cs⟩=>match Nat.ble lo i&&Nat.beq e 1 with
   | true=>match iK l (fo off cs) with
    | none=>none
    | some q=>match xg ik q with
     | none=>none
     | some ys=>some (.tt,ys)
   | false=>none
  | _=>none
 | _=>none
def idM:AV->Option Nat
 | .lslice i _=>some i
 | .islice _ i _ _=>some i
 | .gslice i _ _ _=>some i
 | .slice i _ _ _=>some i
 | _=>none
def YO (σ:Sg) (lo:Nat) (h:Hp) (W:World) (ik:IntKind) (ys:List Int) (p:Option Addr):Prop:=
 ∃ B N id M o b,p=some ⟨B,N,none⟩/\lo<=id/\h.get id=some b/\b.body.isDead=false/\σ id=some (B,M)/\W.heap[B]?=some o/\∀ τ,BRel τ N (.rows ik ys) o
def ad4 (x:AV) (σ:Sg) (lo:Nat) (h:Hp) (W:World) (ik:IntKind) (ys:List Int) (p:Option Addr):Prop:=
 ∃ B N id M o b,p=some ⟨B,N,none⟩/\lo<=id/\h.get id=some b/\b.body.isDead=false/\σ id=some (B,M)/\W.heap[B]?=some o/\(∀ τ,BRel τ N (.rows ik ys) o)/\idM x=some id
theorem KH {K:Array Value} {a:TypeId} {fr:Nat×Nat} {N:Nat} {ik:IntKind} {xs:List Int} {o n:Nat} (h:(K.toList.drop N).take xs.length=xs.map (Value.int ik)) (hn:o+n<=xs.length) (τ:Sg):BRel τ (N+o) (.rows ik ((xs.drop o).take n)) (.cells K a fr):=by
 refine ⟨K,a,fr,rfl,?_⟩;have b:((xs.drop o).take n).length=n:=by rw [dD,iq];omega
 rw [b,D7,D8,<- h,List.drop_take,nk,List.take_take]
 congr 1
 omega
theorem IQ {σ:Sg} {lo:Nat} {h:Hp} {W:World} (r:HRel σ h W) {ik:IntKind} {x:AV} {X:Value} (m:VRel σ x X) {nd:Nd} {ys:List Int} (e:FP lo h ik x=some (nd,ys)) (hn:nd.val):
  ∃ p len c,X=.slice p len c/\len=ys.length/\len<=c/\(len=0\/ad4 x σ lo h W ik ys p):=by
 have plain:∀ (cs:List AV) (A:List Value) (off l:Nat) (q:List AV),VRels σ cs A->iK l (fo off cs)=some q->xg ik q=some ys->(A.drop off).take ys.length=ys.map (Value.int ik)/\l=ys.length:=by intro cs A off l q h1 h2 h3;obtain ⟨k1,k2⟩:=VRels.take _ (VRels.drop off h1) h2;have I:=nE k1 h3;have k4:=VRels.length k1;rw [I,k2,iO] at k4;rw [k4];exact ⟨I,rfl⟩
 cases x with
 | nilslice=>cases e;exact ⟨none,0,0,m,rfl,bD _,.inl rfl⟩
 | eslice b=>cases e;obtain ⟨a,c,rfl,_⟩:=m;exact ⟨a,0,c,rfl,rfl,kU _,.inl rfl⟩
 | lslice i n=>
  obtain ⟨p,len,c,rfl,⟨L,s⟩,hp⟩:=m;simp only [FP] at e;split at e
  .rename_i w k zs g;split at e
   .rename_i hb;simp only [aF,aT] at hb;obtain ⟨rfl,hb⟩:=hb;cases e;have hn:n=(ys.length:Int):=hn;refine ⟨p,len,c,rfl,by omega,s,?_⟩;by_cases j:len=0
    .exact .inl j
    .rcases hp with hp|⟨B,N,f,rfl⟩
     .exact .inl hp
     .have hd:(ABody.rows ik ys).isDead=false:=by cases ys with|nil=>simp at hn;omega|cons y l=>rfl
      obtain ⟨z,D,o,h1,h2,h3⟩:=r.blk i _ g hd;rw [f] at h1;cases h1;exact .inr ⟨B,N,i,N,o,_,rfl,dI hb,g,hd,f,h2,fun τ=>h3,rfl⟩
   .cases e
  .cases e
 | islice w i o n=>
  obtain ⟨p,len,c,rfl,⟨L,s⟩,hp⟩:=m;simp only [FP] at e;split at e
  .rename_i w' k zs g;split at e
   .rename_i hb;simp only [aF,aT,gN] at hb;obtain ⟨⟨rfl,hb⟩,rfl⟩:=hb;cases e;have hn:0<=o/\0<=n/\o+n<=zs.length:=hn;have M:((zs.drop o.toNat).take n.toNat).length=n.toNat:=by rw [dD,iq];omega
    refine ⟨p,len,c,rfl,by omega,s,?_⟩;by_cases j:len=0
    .exact .inl j
    .rcases hp with hp|⟨B,N,f,q,rfl,hq,_⟩
     .exact .inl hp
     .have hd:(ABody.rows ik zs).isDead=false:=by cases zs with|nil=>simp at hn;omega|cons y l=>rfl
      obtain ⟨z,D,E,h1,h2,K,t,fr,rfl,h3⟩:=r.blk i _ g hd;rw [f] at h1;cases h1;simp only [aR] at hq;obtain rfl:q=N+o.toNat:=by omega
      exact .inr ⟨B,_,i,N,_,_,rfl,dI hb,g,hd,f,h2,fun τ=>KH h3 (by omega) τ,rfl⟩
   .cases e
  .rename_i w' k zs g;split at e
   .rename_i hb;simp only [aF,aT] at hb;obtain ⟨⟨rfl,hb⟩,rfl⟩:=hb;cases e;have hn:0<=o/\0<=n/\o+n<=zs.length:=hn;have M:((zs.drop o.toNat).take n.toNat).length=n.toNat:=by rw [dD,iq];omega
    refine ⟨p,len,c,rfl,by omega,s,?_⟩;by_cases j:len=0
    .exact .inl j
    .rcases hp with hp|⟨B,N,f,q,rfl,hq,_⟩
     .exact .inl hp
     .have hd:(ABody.ints ik zs).isDead=false:=nD (by omega);obtain ⟨z,D,E,h1,h2,K,t,Z,rfl,h3,_⟩:=r.blk i _ g hd;rw [f] at h1;cases h1;simp only [aQ] at hq;obtain rfl:q=0+o.toNat:=by omega
      exact .inr ⟨B,_,i,N,_,_,rfl,dI hb,g,hd,f,h2,fun τ=>KH (by rw [iA,h3,oF (by simp),ib (by simp)]) (by omega) τ,rfl⟩
   .cases e
  .cases e
 | slice i off l c=>
  obtain ⟨B,N,f,rfl⟩:=m;simp only [FP] at e;split at e
  .rename_i w cs g;split at e
   .rename_i hb;simp only [aF] at hb;split at e
    .cases e
    .rename_i q hq;split at e
     .cases e
     .rename_i zs F;cases e;obtain ⟨z,D,E,h1,h2,K,t,rfl,h3,_⟩:=r.blk i _ g rfl;rw [f] at h1;cases h1;obtain ⟨k1,k2⟩:=plain _ _ _ _ _ h3 hq F;exact ⟨_,l,c,rfl,k2,dI hb.2,.inr ⟨B,off,i,N,_,_,rfl,dI hb.1,g,rfl,f,h2,fun τ=>⟨K,t,_,rfl,k1⟩,rfl⟩⟩
   .cases e
  .cases e
 | gslice i off l P=>
  obtain ⟨B,N,J,c,f,rfl,H,s⟩:=m;simp only [FP] at e;split at e
  .rename_i w cs g;split at e
   .rename_i hb;simp only [aF] at hb;split at e
    .cases e
    .rename_i q hq;split at e
     .cases e
     .rename_i zs F;cases e;obtain ⟨z,D,E,h1,h2,K,t,A,Z,rfl,O,h3,_⟩:=r.blk i _ g rfl;rw [f] at h1;cases h1;obtain ⟨k1,k2⟩:=plain _ _ _ _ _ h3 hq F;refine ⟨_,l,c,rfl,k2,s,?_⟩;by_cases j:l=0
      .exact .inl j
      .obtain ⟨rfl,_⟩:=H j;refine .inr ⟨B,J,i,N,_,_,rfl,dI hb.1,g,rfl,f,h2,fun τ=>⟨K,t,_,rfl,?_⟩,rfl⟩;have v:((A.drop J).take ys.length).length=ys.length:=by rw [k1,iO]
       rw [dD,iq] at v;rw [O,uH (by omega),oF (by rw [iq];omega)];exact k1
   .cases e
  .cases e
 | _=>cases e
mutual
theorem Sh.mk_app:∀ (h:Sh) (v:AV) (s:Bool) (xs ys:List Nu),Sh.read h v=some (s,xs)->(Sh.mk h (xs++ys)).1=(Sh.mk h xs).1
 | .i k,v,s,xs,ys,e=>by
  simp only [Sh.read] at e;split at e
  .split at e
   .cases e;rfl
   .cases e
  .cases e
 | .b,v,s,xs,ys,e=>by
  simp only [Sh.read] at e;split at e
  .cases e;rfl
  .cases e
 | .c w,v,s,xs,ys,e=>rfl
 | .a l,v,s,xs,ys,e=>by
  simp only [Sh.read] at e;split at e
  .simp only [Sh.mk];rw [Sh.mkL_app l _ s xs ys e]
  .cases e
 | .str,v,s,xs,ys,e=>by
  simp only [Sh.read] at e;split at e
  .cases e;rfl
  .cases e
 | .one,v,s,xs,ys,e=>rfl
theorem Sh.mkL_app:∀ (h:List Sh) (v:List AV) (s:Bool) (xs ys:List Nu),Sh.readL h v=some (s,xs)->(Sh.mkL h (xs++ys)).1=(Sh.mkL h xs).1
 | [],v,s,xs,ys,e=>rfl
 | h :: l,v :: m,s,xs,ys,e=>by
  simp only [Sh.readL] at e;split at e
  .cases e
  .rename_i J x1 O;split at e
   .cases e
   .rename_i s2 E e2;cases e;have a1:=(Sh.read_mk h v J x1 (E++ys) O).1;have a2:=(Sh.read_mk h v J x1 E O).1;have b1:=Sh.mk_app h v J x1 (E++ys) O;have b2:=Sh.mk_app h v J x1 E O;have c:=Sh.mkL_app l m s2 E ys e2;simp only [Sh.mkL,rF];rw [show Sh.mk h (x1++(E++ys))=((Sh.mk h x1).1,E++ys) from r9 b1 a1,show Sh.mk h (x1++E)=((Sh.mk h x1).1,E) from r9 b2 a2];simp only [c]
 | _ :: _,[],_,_,_,e=>by simp [Sh.readL] at e
end
theorem We {σ:Sg} {lo:Nat} {h:Hp} {W:World} (r:HRel σ h W) {ik:IntKind} {x:AV} {X:Value} (a:VRel σ x X) {nd:Nd} {ys:List Int} (e:FP lo h ik x=some (nd,ys)) (hn:nd.val):
  ∃ p len c,X=.slice p len c/\len=ys.length/\len<=c/\(len=0\/YO σ lo h W ik ys p):=by
 obtain ⟨p,len,c,h1,h2,h3,f⟩:=IQ r a e hn;exact ⟨p,len,c,h1,h2,h3,f.imp _root_.id fun ⟨B,N,id,M,o,b,g,i,j,q4,k,l,m,_⟩=>⟨B,N,id,M,o,b,g,i,j,q4,k,l,m⟩⟩
inductive Ma where
 | nu (sh:Sh)
 | li
 | st (l:List Ma)
mutual
def Ma.read (lo:Nat) (h:Hp) (ik:IntKind):Ma->AV->Option (Nd×List Nu×List (List Int))
 | .nu sh,v=>match Sh.read sh v with
  | some (_,xs)=>match (Sh.mk sh xs).1.num with
   | true=>some (.tt,xs,[])
   | false=>none
  | none=>none
 | .li,v=>match FP lo h ik v with
  | some (nd,ys)=>some (nd,[],[ys])
  | none=>none
 | .st l,v=>match v with
  | .agg m=>Ma.readL lo h ik l m
  | _=>none
def Ma.readL (lo:Nat) (h:Hp) (ik:IntKind):List Ma->List AV->Option (Nd×List Nu×List (List Int))
 | [],[]=>some (.tt,[],[])
 | p :: O,v :: vs=>match Ma.read lo h ik p v with
  | none=>none
  | some (n,xs,ys)=>match Ma.readL lo h ik O vs with
   | none=>none
   | some (n',E,J)=>some (n.and n',xs++E,ys++J)
 | _,_=>none
end
mutual
def Ma.mk:Ma->Nat->List Nu->List (List Int)->AV×Nat×List Nu×List (List Int)
 | .nu sh,j,xs,ys=>match Sh.mk sh xs with
  | (v,xs)=>(v,j,xs,ys)
 | .li,j,xs,ys=>match ys with
  | y :: ys=>(.lslice j y.length,j+1,xs,ys)
  | []=>(.nil,j,xs,[])
 | .st l,j,xs,ys=>match Ma.mkL l j xs ys with
  | (E,r)=>(.agg E,r)
def Ma.mkL:List Ma->Nat->List Nu->List (List Int)->List AV×Nat×List Nu×List (List Int)
 | [],j,xs,ys=>([],j,xs,ys)
 | p :: E,j,xs,ys=>match Ma.mk p j xs ys with
  | (v,j,xs,ys)=>match Ma.mkL E j xs ys with
   | (J,r)=>(v :: J,r)
end
def Pls (σ:Sg) (lo:Nat) (h:Hp) (W:World) (ik:IntKind) (ys:List (List Int)) (bs:List (Nat×Nat)):Prop:=
 bs.length=ys.length/\∀ (i:Nat) (y:List Int) (b:Nat×Nat),ys[i]?=some y->bs[i]?=some b->y≠[]->YO σ lo h W ik y (some ⟨b.1,b.2,none⟩)
def Lies (ρ:Sg) (j:Nat) (ys:List (List Int)) (bs:List (Nat×Nat)):Prop:=∀ (i:Nat) (y:List Int) (b:Nat×Nat),ys[i]?=some y->bs[i]?=some b->y≠[]->ρ (j+i)=some b
theorem Pls.app {σ:Sg} {lo:Nat} {h:Hp} {W:World} {ik:IntKind} {y z:List (List Int)} {b c:List (Nat×Nat)} (h1:Pls σ lo h W ik y b) (h2:Pls σ lo h W ik z c):Pls σ lo h W ik (y++z) (b++c):=by
 refine ⟨by simp [h1.1,h2.1],fun i x d J O E=>?_⟩;rcases aX i y.length with hi|hi
 .rw [kJ hi] at J;rw [kJ (by rw [h1.1];exact hi)] at O;exact h1.2 i x d J O E
 .rw [mP hi] at J;rw [mP (by rw [h1.1];exact hi),h1.1] at O;exact h2.2 _ x d J O E
theorem Lies.left {ρ:Sg} {j:Nat} {y z:List (List Int)} {b c:List (Nat×Nat)} (O:b.length=y.length) (h:Lies ρ j (y++z) (b++c)):Lies ρ j y b:=fun i x d J e2 E=>by
 have hi:=(je.1 J).1;exact h i x d (by rw [kJ hi];exact J) (by rw [kJ (by rw [O];exact hi)];exact e2) E
theorem Lies.right {ρ:Sg} {j:Nat} {y z:List (List Int)} {b c:List (Nat×Nat)} (J:b.length=y.length) (h:Lies ρ j (y++z) (b++c)):Lies ρ (j+y.length) z c:=fun i x d O e2 E=>by
 have:=h (y.length+i) x d (by rw [mP (by omega)];simpa using O) (by rw [mP (by omega),J];simpa using e2) E;rw [<- this]
 congr 1
 omega
mutual
theorem Ma.read_rel {σ:Sg} {lo:Nat} {h:Hp} {W:World} (r:HRel σ h W) {ik:IntKind}:∀ (p:Ma) (v:AV) (nd:Nd) (xs:List Nu) (ys:List (List Int)) (V:Value),Ma.read lo h ik p v=some (nd,xs,ys)->VRel σ v V->nd.val ->
  ∃ bs,Pls σ lo h W ik ys bs/\∀ (ρ:Sg) (j:Nat) (E:List Nu) (J:List (List Int)),Lies ρ j ys bs->(Ma.mk p j (xs++E) (ys++J)).2=(j+ys.length,E,J)/\VRel ρ (Ma.mk p j (xs++E) (ys++J)).1 V
 | .nu sh,v,nd,xs,ys,V,e,hV,hn=>by
  simp only [Ma.read] at e;split at e
  .rename_i s ae h1;split at e
   .rename_i ab;cases e;refine ⟨[],⟨rfl,fun i y b O=>by simp at O⟩,fun ρ j E J _=>?_⟩;obtain ⟨a1,a2⟩:=Sh.read_mk sh v s xs E h1;obtain ⟨b1,b2⟩:=Sh.read_mk sh v s xs [] h1;rw [kT] at b2;have aa:(Sh.mk sh (xs++E)).1.num=true->VRel ρ (Sh.mk sh (xs++E)).1 V:=fun hk=>Mo _ _ hk (a2 σ V hV);simp only [Ma.mk];refine ⟨by rw [a1];rfl,?_⟩;exact aa (by rw [Sh.mk_app sh v s xs E h1];exact ab)
   .cases e
  .cases e
 | .li,v,nd,xs,ys,V,e,hV,hn=>by
  simp only [Ma.read] at e;split at e
  .rename_i nd0 y h1;cases e;obtain ⟨p,len,c,rfl,hl,hc,hp⟩:=We r hV h1 hn;by_cases h0:y=[]
   .subst h0;refine ⟨[(0,0)],⟨rfl,fun i z b O e2 ac=>?_⟩,fun ρ j E J _=>⟨rfl,p,len,c,rfl,⟨by rw [hl],hc⟩,.inl hl⟩⟩
    cases i with
    | zero=>cases O;exact absurd rfl ac
    | succ i=>simp at O
   .rcases hp with hp|⟨B,N,id,M,o,b,rfl,g⟩
    .exact absurd (gK.1 (by omega)) h0
    .refine ⟨[(B,N)],⟨rfl,fun i z b' O e2 ac=>?_⟩,fun ρ j E J hj=>⟨rfl,_,len,c,rfl,⟨by rw [hl],hc⟩,.inr ⟨B,N,?_,rfl⟩⟩⟩
     .cases i with
      | zero=>cases O;cases e2;exact ⟨B,N,id,M,o,b,rfl,g⟩
      | succ i=>simp at O
     .exact hj 0 y (B,N) rfl rfl h0
  .cases e
 | .st l,v,nd,xs,ys,V,e,hV,hn=>by
  simp only [Ma.read] at e;split at e
  .rename_i m;obtain ⟨K,rfl,hK⟩:=hV;obtain ⟨bs,h1,h2⟩:=Ma.readL_rel r l m nd xs ys K.toList e hK hn;refine ⟨bs,h1,fun ρ j E J hj=>?_⟩;obtain ⟨h3,h4⟩:=h2 ρ j E J hj;simp only [Ma.mk];exact ⟨h3,K,rfl,h4⟩
  .cases e
theorem Ma.readL_rel {σ:Sg} {lo:Nat} {h:Hp} {W:World} (r:HRel σ h W) {ik:IntKind}:∀ (O:List Ma) (vs:List AV) (nd:Nd) (xs:List Nu) (ys:List (List Int)) (L:List Value),Ma.readL lo h ik O vs=some (nd,xs,ys)->VRels σ vs L->nd.val ->
  ∃ bs,Pls σ lo h W ik ys bs/\∀ (ρ:Sg) (j:Nat) (E:List Nu) (J:List (List Int)),Lies ρ j ys bs->(Ma.mkL O j (xs++E) (ys++J)).2=(j+ys.length,E,J)/\VRels ρ (Ma.mkL O j (xs++E) (ys++J)).1 L
 | [],[],nd,xs,ys,L,e,hL,hn=>by
  simp only [Ma.readL] at e;cases e;exact ⟨[],⟨rfl,fun i y b e1=>by simp at e1⟩,fun ρ j E J _=>⟨rfl,hL⟩⟩
 | p :: O,v :: vs,nd,xs,ys,L,e,hL,hn=>by
  simp only [Ma.readL] at e;split at e
  .cases e
  .rename_i n1 x1 y1 e1;split at e
   .cases e
   .rename_i n2 x2 y2 e2;cases e;obtain ⟨V,L',rfl,hV,aa⟩:=hL;obtain ⟨b1,p1,q1⟩:=Ma.read_rel r p v n1 x1 y1 V e1 hV (Nd.lv hn);obtain ⟨b2,p2,q2⟩:=Ma.readL_rel r O vs n2 x2 y2 L' e2 aa (Nd.rv hn);refine ⟨b1++b2,p1.app p2,fun ρ j E J hj=>?_⟩;obtain ⟨r1,r2⟩:=q1 ρ j (x2++E) (y2++J) (hj.left p1.1);obtain ⟨s1,s2⟩:=q2 ρ (j+y1.length) E J (hj.right p1.1);simp only [Ma.mkL,rF];rw [show Ma.mk p j (x1++(x2++E)) (y1++(y2++J))=((Ma.mk p j (x1++(x2++E)) (y1++(y2++J))).1,j+y1.length,x2++E,y2++J) from r9 rfl r1];refine ⟨?_,V,L',rfl,r2,s2⟩;rw [s1,jM,rW]
 | [],_ :: _,_,_,_,_,e,_,_=>by simp [Ma.readL] at e
 | _ :: _,[],_,_,_,_,e,_,_=>by simp [Ma.readL] at e
end
end
end Go.Eng
namespace Go.Eng
open Go
noncomputable section
theorem YP {σ υ:Sg} {h h':Hp} {W X:World} (r:HRel υ h' X) (g:Good σ h W υ h' X) {b:ABody} (hb:b.isDead=true):HRel υ (h'.push b) X/\Good σ h W υ (h'.push b) X:=by
 have k:∀ i,(h'.push b).get i=if i=h'.size then some ⟨h'.clock,b⟩ else h'.get i:=fun i=>Hp.get_push _ i;have l:∀ i x,υ i=some x->i≠h'.size:=fun i x e=>jP (r.dom i x.1 x.2 e).1;refine ⟨⟨Hp.ok_push r.ok _,fun i c o hd=>?_,fun i B N e=>?_,fun i j c d B N M m n p q f a=>?_⟩,?_⟩
 .rw [k] at o;split at o
  .cases o;rw [show _=_ from hb] at hd;cases hd
  .exact r.blk i c o hd
 .have:=r.dom i B N e;exact ⟨uL this.1,this.2⟩
 .rw [k,aB (l i _ f)] at m;rw [k,aB (l j _ a)] at n;exact r.inj i j c d B N M m n p q f a
 .have s:=g.mon.size;have old:∀ i c,h.get i=some c->(h'.push b).get i=h'.get i:=fun i c v=>by rw [k,aB (by have:=Hp.get_lt v;omega)]
  refine ⟨g.sub,g.only,g.ext,⟨g.mon.clock,DD s,fun i c d f a=>?_,fun i w c e=>?_⟩,fun i B N e hi t=>?_,fun B t y z=>?_⟩
  .rw [old i c f] at a;exact g.mon.same i c d f a
  .rw [old i _ e];exact g.mon.loop i w c e
  .rcases g.old i B N e hi t with A|⟨j,M,c,h1,h2,h3,D⟩
   .exact A.elim
   .exact .inr ⟨j,M,c,h1,h2,by rw [k,aB (by omega)];exact h3,D⟩
  .refine g.keep B t y fun i N c f a=>z i N c f ?_;rw [k,aB (by have:=Hp.get_lt a;omega)];exact a
theorem ad5 {σ υ:Sg} {h h':Hp} {W X:World} (r:HRel υ h' X) (g:Good σ h W υ h' X) {b:ABody} {B N:Nat} {o:Obj} (hB:W.heap.size<=B) (A:X.heap[B]?=some o) (hb:BRel (υ.add h'.size (B,N)) N b o)
  (H:∀ i c M,h'.get i=some c->c.body.isDead=false->υ i=some (B,M)->c.body.isView=true/\b.isView=true):HRel (υ.add h'.size (B,N)) (h'.push b) X/\Good σ h W (υ.add h'.size (B,N)) (h'.push b) X:=by
 have D:=Sub.add (x:=(B,N)) r.fresh;have E:B<X.heap.size:=by
  rcases aX B X.heap.size with h1|h1
  .exact h1
  .rw [oG h1] at A;cases A
 have s:∀ i,(h'.push b).get i=if i=h'.size then some ⟨h'.clock,b⟩ else h'.get i:=fun i=>Hp.get_push _ i;refine ⟨⟨Hp.ok_push r.ok _,fun i c y hd=>?_,fun i l p e=>?_,fun i j c d l p M a f t v q m=>?_⟩,?_⟩
 .rw [s] at y;split at y
  .rename_i hi;cases y;subst hi;exact ⟨B,N,o,fF,A,hb⟩
  .obtain ⟨J,K,L,h1,h2,h3⟩:=r.blk i c y hd;exact ⟨J,K,L,D _ _ h1,h2,h3.mono D⟩
 .rcases gT e with ⟨rfl,k⟩|⟨hi,k⟩
  .cases k;exact ⟨rH _,E⟩
  .have:=r.dom i l p k;exact ⟨uL this.1,this.2⟩
 .rw [s] at a f;rcases gT q with ⟨rfl,k⟩|⟨hi,k⟩ <;> rcases gT m with ⟨rfl,z⟩|⟨I,z⟩
  .exact .inl rfl
  .cases k;rw [aC rfl] at a;cases a;rw [aB I] at f;have:=H j d M f v z;exact .inr ⟨this.2,this.1⟩
  .cases z;rw [aC rfl] at f;cases f;rw [aB hi] at a;exact .inr (H i c p a t k)
  .rw [aB hi] at a;rw [aB I] at f;exact r.inj i j c d l p M a f t v k z
 .have F:=g.mon.size;have old:∀ i c,h.get i=some c->(h'.push b).get i=h'.get i:=fun i c O=>by rw [s,aB (by have:=Hp.get_lt O;omega)]
  refine ⟨g.sub.trans D,fun i x e hi=>?_,g.ext,⟨g.mon.clock,DD F,fun i c d q m=>?_,fun i w c e=>?_⟩,fun i l p e hi n=>?_,fun l n P hw=>?_⟩
  .rcases gT e with ⟨rfl,_⟩|⟨_,k⟩
   .omega
   .exact g.only i x k hi
  .rw [old i c q] at m;exact g.mon.same i c d q m
  .rw [old i _ e];exact g.mon.loop i w c e
  .rcases gT e with ⟨rfl,k⟩|⟨_,k⟩
   .cases k;omega
   .rcases g.old i l p k hi n with h0|⟨j,M,c,h1,h2,h3,h4⟩
    .exact h0.elim
    .exact .inr ⟨j,M,c,h1,h2,by rw [s,aB (by omega)];exact h3,h4⟩
  .refine g.keep l n P fun i N c q m=>hw i N c q ?_;rw [s,aB (by have:=Hp.get_lt m;omega)];exact m
inductive To where
 | nu (k:IntKind) (x:Int)
 | bo (b:Bool)
 | pb (b:Bool)
 | pn (k:IntKind) (x:Int)
 | any
 | li (own:Bool) (ys:List Int)
 | st (l:List To)
 | tu (l:List To)
mutual
def To.out (ik:IntKind) (E:Nat):To->List ABody->AV×List ABody
 | .nu k x,bs=>(.int true k x,bs)
 | .bo b,bs=>(.bool true b,bs)
 | .pb b,bs=>(.bool false b,bs)
 | .pn k x,bs=>(.int false k x,bs)
 | .any,bs=>(.any true,bs)
 | .li own ys,bs=>match own with
  | true=>(cz (E+bs.length) fun i=>.islice true i 0 ys.length,.ints ik ys :: bs)
  | false=>(cz (E+bs.length) fun i=>.lslice i ys.length,.rows ik ys :: bs)
 | .st l,bs=>match To.outL ik E l bs with
  | (J,bs)=>(.agg J,bs)
 | .tu l,bs=>match To.outL ik E l bs with
  | (J,bs)=>(.tuple J,bs)
def To.outL (ik:IntKind) (E:Nat):List To->List ABody->List AV×List ABody
 | [],bs=>([],bs)
 | t :: l,bs=>match To.out ik E t bs with
  | (v,bs)=>match To.outL ik E l bs with
   | (J,bs)=>(v :: J,bs)
end
def YQ (lo:Nat) (k:Hp) (ik:IntKind):AV->Option (Option Nat×Nd×List Int)
 | .nilslice=>some (none,.tt,[])
 | .islice w i o n=>match k.get i with
  | some ⟨_,.ints a ys⟩=>match decide (ik=a)&&Nat.ble lo i&&w with
   | true=>some (some i,.p (o=0/\n=ys.length),ys)
   | false=>none
  | _=>none
 | .gslice i off l e=>match k.get i with
  | some ⟨_,.grown cs⟩=>match Nat.ble lo i&&Nat.beq e 1&&Nat.beq off 0&&Nat.beq l cs.length with
   | true=>match xg ik cs with
    | none=>none
    | some ys=>some (some i,.tt,ys)
   | false=>none
  | _=>none
 | .slice i off l c=>match k.get i with
  | some ⟨_,.cells cs⟩=>match Nat.ble lo i&&Nat.beq off 0&&Nat.ble l c&&Nat.ble c cs.length with
   | true=>match iK l cs with
    | none=>none
    | some q=>match xg ik q with
     | none=>none
     | some ys=>some (some i,.tt,ys)
   | false=>none
  | _=>none
 | _=>none
def Ul (i:Nat):List (Nat×Bool)->Bool
 | []=>true
 | (j,_) :: l=>!Nat.beq i j&&Ul i l
def IR (i:Nat):List (Nat×Bool)->Bool
 | []=>true
 | (j,o) :: l=>!(Nat.beq i j&&o)&&IR i l
mutual
def To.fit (lo:Nat) (k:Hp) (ik:IntKind):To->AV->List (Nat×Bool)->Option (Nd×List (Nat×Bool))
 | .nu q x,v,dG=>match v with
  | .int _ E y=>if q=E then some (.p (y=x),dG) else none
  | _=>none
 | .bo b,v,dG=>match v with
  | .bool _ c=>some (.p (c=b),dG)
  | _=>none
 | .pb b,v,dG=>match v with
  | .bool _ c=>some (.p (c=b),dG)
  | _=>none
 | .pn q x,v,dG=>match v with
  | .int _ E y=>if q=E then some (.p (y=x),dG) else none
  | _=>none
 | .any,v,dG=>match v.isCell with
  | true=>some (.tt,dG)
  | false=>none
 | .li own ys,v,dG=>match own with
  | true=>match YQ lo k ik v with
   | none=>none
   | some (none,nd,zs)=>some (nd.and (.p (zs=ys)),dG)
   | some (some i,nd,zs)=>match Ul i dG with
    | true=>some (nd.and (.p (zs=ys)),(i,true) :: dG)
    | false=>none
  | false=>match FP lo k ik v with
   | none=>none
   | some (nd,zs)=>match idM v with
    | none=>some (nd.and (.p (zs=ys)),dG)
    | some i=>match IR i dG with
     | true=>some (nd.and (.p (zs=ys)),(i,false) :: dG)
     | false=>none
 | .st l,v,dG=>match v with
  | .agg m=>To.fitL lo k ik l m dG
  | _=>none
 | .tu l,v,dG=>match v with
  | .tuple m=>To.fitL lo k ik l m dG
  | _=>none
def To.fitL (lo:Nat) (k:Hp) (ik:IntKind):List To->List AV->List (Nat×Bool)->Option (Nd×List (Nat×Bool))
 | [],[],dG=>some (.tt,dG)
 | t :: l,v :: m,dG=>match To.fit lo k ik t v dG with
  | none=>none
  | some (n,dG)=>match To.fitL lo k ik l m dG with
   | none=>none
   | some (E,dG)=>some (n.and E,dG)
 | _,_,_=>none
end
theorem IU {i:Nat}:∀ {l:List (Nat×Bool)},Ul i l=true->∀ x∈l,x.1≠i
 | [],_,x,a=>by cases a
 | (j,o) :: l,e,x,a=>by
  simp only [Ul,aF,gN] at e;rcases aN.1 a with rfl|a
  .intro h;rw [show Nat.beq i j=true from by rw [show j=i from h];exact zy i] at e;cases e.1
  .exact IU e.2 x a
theorem FQ {i:Nat}:∀ {l:List (Nat×Bool)},IR i l=true->∀ x∈l,x.1=i->x.2=false
 | [],_,x,a=>by cases a
 | (j,o) :: l,e,x,a=>by
  simp only [IR,aF,gN] at e;rcases aN.1 a with rfl|a
  .intro h;have b:=e.1;rw [show Nat.beq i j=true from by rw [show j=i from h];exact zy i,uV] at b;exact b
  .exact FQ e.2 x a
def Trk (τ:Sg) (k:Hp) (h h':Hp) (υ:Sg) (dG:List (Nat×Bool)):Prop:=
 ∀ i b B M,h.size<=i->h'.get i=some b->b.body.isDead=false->υ i=some (B,M)->∃ j own c a,(j,own)∈dG/\τ j=some (B,a)/\k.get j=some c/\c.body.isDead=false/\(own=false->b.body.isView=true)/\(own=true->c.body.isView=false)
structure Toc (lo:Nat) (τ:Sg) (k:Hp) (σ:Sg) (h:Hp) (W X:World) (bs:List ABody) (υ:Sg) (dG:List (Nat×Bool)):Prop where
 r:HRel υ (iF h bs) X
 g:Good σ h W υ (iF h bs) X
 t:Trk τ k h (iF h bs) υ dG
theorem Cx (h:Hp):∀ bs:List ABody,(iF h bs).size=h.size+bs.length
 | []=>rfl
 | b :: l=>by show (iF h l).size+1=_;rw [Cx h l];simp;omega
theorem Trk.mono {τ:Sg} {k h h':Hp} {υ:Sg} {dG E:List (Nat×Bool)} (t:Trk τ k h h' υ dG) (J:∀ x∈dG,x∈E):Trk τ k h h' υ E:=fun i b B M h1 h2 h3 O=>by
 obtain ⟨j,own,c,M',q1,q⟩:=t i b B M h1 h2 h3 O;exact ⟨j,own,c,M',J _ q1,q⟩
theorem Toc.dead {lo:Nat} {τ:Sg} {k:Hp} {σ:Sg} {h:Hp} {W X:World} {bs:List ABody} {υ:Sg} {dG:List (Nat×Bool)} (c:Toc lo τ k σ h W X bs υ dG) {b:ABody} (hb:b.isDead=true) {E:List (Nat×Bool)} (J:∀ x∈dG,x∈E):Toc lo τ k σ h W X (b :: bs) υ E:=by
 obtain ⟨r1,O⟩:=YP c.r c.g hb;refine ⟨r1,O,fun i d B M h1 h2 h3 h4=>?_⟩;rw [show iF h (b :: bs)=(iF h bs).push b from rfl,Hp.get_push] at h2;split at h2
 .cases h2;rw [show _=_ from hb] at h3;cases h3
 .exact (c.t.mono J) i d B M h1 h2 h3 h4
theorem Toc.add {lo:Nat} {τ:Sg} {k:Hp} {σ:Sg} {h:Hp} {W X:World} {bs:List ABody} {υ:Sg} {dG:List (Nat×Bool)} (c:Toc lo τ k σ h W X bs υ dG) (rk:HRel τ k X) (r0:HRel σ h W) {b:ABody} {i B M N:Nat} {d:ABlk} {o:Obj} {own:Bool}
  (hB:W.heap.size<=B) (ho:X.heap[B]?=some o) (hb:∀ υ,BRel υ N b o) (hi:τ i=some (B,M)) (hk:k.get i=some d) (hd:d.body.isDead=false) (hv:own=false->b.isView=true/\∀ x∈dG,x.1=i->x.2=false) (hn:own=true->d.body.isView=false/\∀ x∈dG,x.1≠i):
  Toc lo τ k σ h W X (b :: bs) (υ.add (iF h bs).size (B,N)) ((i,own) :: dG):=by
 obtain ⟨r1,g1⟩:=ad5 c.r c.g hB ho (hb _) (fun j e M' q1 q2 q3=>by
  have O:h.size<=j:=by
   rcases aX j h.size with O|O
   .have:=(r0.dom j B M' (c.g.only j _ q3 O)).2;omega
   .exact O
  obtain ⟨j',E,c',M2,p1,p2,p3,p4,p5,p6⟩:=c.t j e B M' O q1 q2 q3;rcases rk.inj j' i c' d B M2 M p3 hk p4 hd p2 hi with e1|⟨e1,e2⟩
  .subst e1
   cases own with
   | true=>exact absurd rfl ((hn rfl).2 _ p1)
   | false=>
    have:=(hv rfl).2 _ p1 rfl;exact ⟨p5 this,(hv rfl).1⟩
  .cases own with
   | true=>rw [(hn rfl).1] at e2;cases e2
   | false=>
    cases E with
    | true=>rw [p6 rfl] at e1;cases e1
    | false=>exact ⟨p5 rfl,(hv rfl).1⟩)
 refine ⟨r1,g1,fun j e B' M' h1 h2 h3 h4=>?_⟩;rw [show iF h (b :: bs)=(iF h bs).push b from rfl,Hp.get_push] at h2;rcases gT h4 with ⟨rfl,hx⟩|⟨aa,hx⟩
 .cases hx;rw [aC rfl] at h2;cases h2;exact ⟨i,own,d,M,by simp,hi,hk,hd,fun J=>(hv J).1,fun J=>(hn J).1⟩
 .rw [aB aa] at h2;obtain ⟨j',E,c',M2,p1,p⟩:=c.t j e B' M' h1 h2 h3 hx;exact ⟨j',E,c',M2,jJ _ p1,p⟩
theorem Po {τ:Sg} {lo:Nat} {k:Hp} {X:World} (r:HRel τ k X) {ik:IntKind} {x:AV} {V:Value} (v:VRel τ x V) {id:Option Nat} {nd:Nd} {ys:List Int} (e:YQ lo k ik x=some (id,nd,ys)) (hn:nd.val):
  ∃ p len c,V=.slice p len c/\len=ys.length/\len<=c/\(ys=[]\/∃ i B N o d,id=some i/\p=some ⟨B,0,none⟩/\lo<=i/\τ i=some (B,N)/\c<=N/\k.get i=some d/\d.body.isDead=false/\d.body.isView=false/\X.heap[B]?=some o/\∀ υ,BRel υ N (.ints ik ys) o):=by
 cases x with
 | nilslice=>cases e;exact ⟨none,0,0,v,rfl,bD _,.inl rfl⟩
 | islice w i o n=>
  obtain ⟨p,len,c,rfl,⟨W,z⟩,hp⟩:=v;simp only [YQ] at e;split at e
  .rename_i w' k' zs h;split at e
   .rename_i hb;simp only [aF,aT] at hb;obtain ⟨⟨rfl,hb⟩,rfl⟩:=hb;cases e;obtain ⟨rfl,hn⟩:=(show o=0/\n=(ys.length:Int) from hn);refine ⟨p,len,c,rfl,by omega,z,?_⟩;by_cases t:ys=[]
    .exact .inl t
    .have b:0<ys.length:=eU.2 t;rcases hp with hp|⟨B,N,a,q,rfl,hq,D⟩
     .omega
     .obtain ⟨M,O,E,h1,h2,h3⟩:=r.blk i _ h (nD b);rw [a] at h1;cases h1;simp only [aQ] at hq;obtain rfl:q=0:=by omega
      have:=D rfl;exact .inr ⟨i,B,N,E,_,rfl,rfl,dI hb,a,by omega,h,nD b,rfl,h2,fun υ=>h3⟩
   .cases e
  .cases e
 | gslice i off l ee=>
  obtain ⟨B,N,qo,c,a,rfl,F,z⟩:=v;simp only [YQ] at e;split at e
  .rename_i w cs h;split at e
   .rename_i hb;simp only [aF] at hb;obtain ⟨⟨⟨H,j⟩,m⟩,s⟩:=hb;have j:=aP j;have m:=aP m;have s:=aP s;subst j m s;split at e
    .cases e
    .rename_i zs I;cases e;obtain ⟨M,O,E,h1,h2,K,J,A,Z,rfl,P,h3,y⟩:=r.blk i _ h rfl;rw [a] at h1;cases h1;have f:=nE h3 I;have g:cs.length=ys.length:=by rw [<- VRels.length h3,f,iO]
     refine ⟨_,_,c,rfl,g,z,?_⟩;by_cases t:ys=[]
     .exact .inl t
     .have b:0<ys.length:=eU.2 t;obtain ⟨rfl,h5⟩:=F (by omega);exact .inr ⟨i,B,N,_,_,rfl,rfl,dI H,a,by omega,h,rfl,rfl,h2,fun υ=>⟨K,J,Z,rfl,by rw [P,f],y⟩⟩
   .cases e
  .cases e
 | slice i off l c=>
  obtain ⟨B,N,a,rfl⟩:=v;simp only [YQ] at e;split at e
  .rename_i w cs h;split at e
   .rename_i hb;simp only [aF] at hb;obtain ⟨⟨⟨H,j⟩,m⟩,s⟩:=hb;have j:=aP j;have m:=dI m;have s:=dI s;subst j;split at e
    .cases e
    .rename_i q hq;split at e
     .cases e
     .rename_i zs I;cases e;obtain ⟨M,O,E,h1,h2,K,J,rfl,h3,y⟩:=r.blk i _ h rfl;rw [a] at h1;cases h1;obtain ⟨k1,k2⟩:=VRels.take l h3 hq;have f:=nE k1 I;have L:K.toList.length=cs.length:=VRels.length h3;have g:l=ys.length:=by
       have:=bL List.length f;rw [dD,iO] at this;omega
      exact ⟨_,l,c,rfl,g,m,.inr ⟨i,B,N,_,_,rfl,rfl,dI H,a,by rw [y];simp at L;omega,h,rfl,rfl,h2,fun υ=>⟨K,J,K.toList.drop l,rfl,by rw [<- f,yU],y⟩⟩⟩
   .cases e
  .cases e
 | _=>cases e
mutual
theorem To.fit_rel {lo:Nat} {τ:Sg} {k:Hp} {σ:Sg} {h:Hp} {W X:World} (rk:HRel τ k X) (r0:HRel σ h W) (fresh:∀ i B N,τ i=some (B,N)->lo<=i->W.heap.size<=B) {ik:IntKind}:∀ (t:To) (v:AV) (V:Value) (dG E:List (Nat×Bool)) (nd:Nd) (bs:List ABody) (υ:Sg),
  To.fit lo k ik t v dG=some (nd,E)->nd.val->VRel τ v V->Toc lo τ k σ h W X bs υ dG->∃ J,Sub υ J/\Toc lo τ k σ h W X (To.out ik h.size t bs).2 J E/\VRel J (To.out ik h.size t bs).1 V
 | .nu q x,v,V,dG,E,nd,bs,υ,e,hn,O,c=>by
  simp only [To.fit] at e;split at e
  .split at e
   .rename_i hq;subst hq;cases e;rw [show _=_ from hn] at O;exact ⟨υ,Sub.refl _,c,O⟩
   .cases e
  .cases e
 | .bo b,v,V,dG,E,nd,bs,υ,e,hn,O,c=>by
  simp only [To.fit] at e;split at e
  .cases e;rw [show _=_ from hn] at O;exact ⟨υ,Sub.refl _,c,O⟩
  .cases e
 | .pb b,v,V,dG,E,nd,bs,υ,e,hn,O,c=>by
  simp only [To.fit] at e;split at e
  .cases e;rw [show _=_ from hn] at O;exact ⟨υ,Sub.refl _,c,O⟩
  .cases e
 | .pn q x,v,V,dG,E,nd,bs,υ,e,hn,O,c=>by
  simp only [To.fit] at e;split at e
  .split at e
   .rename_i hq;subst hq;cases e;rw [show _=_ from hn] at O;exact ⟨υ,Sub.refl _,c,O⟩
   .cases e
  .cases e
 | .any,v,V,dG,E,nd,bs,υ,e,hn,O,c=>by
  simp only [To.fit] at e;split at e
  .rename_i hc;cases e;exact ⟨υ,Sub.refl _,c,eQ (fC O hc)⟩
  .cases e
 | .li own ys,v,V,dG,E,nd,bs,υ,e,hn,O,c=>by
  have af:=Cx h bs;simp only [To.fit] at e;split at e
  .split at e
   .cases e
   .rename_i nd0 zs ho;cases e;have hz:zs=ys:=Nd.rv hn;subst hz;obtain ⟨p,len,cc,rfl,hl,hc,hp⟩:=Po rk O ho (Nd.lv hn);rcases hp with rfl|⟨i,B,N,o,d,h0,_⟩
    .simp only [To.out,cK];exact ⟨υ,Sub.refl _,c.dead rfl (fun x hx=>hx),p,len,cc,rfl,⟨by rw [hl],hc⟩,.inl hl⟩
    .cases h0
   .rename_i i nd0 zs ho;split at e
    .rename_i ai;cases e;have hz:zs=ys:=Nd.rv hn;subst hz;obtain ⟨p,len,cc,rfl,hl,hc,hp⟩:=Po rk O ho (Nd.lv hn);simp only [To.out,cK];rcases hp with rfl|⟨i',B,N,o,d,h0,rfl,ac,hi,an,hk,hd,hv,hX,hb⟩
     .exact ⟨υ,Sub.refl _,c.dead rfl (fun x hx=>jJ _ hx),p,len,cc,rfl,⟨by rw [hl],hc⟩,.inl hl⟩
     .cases h0;refine ⟨_,Sub.add c.r.fresh,c.add rk r0 (own:=true) (fresh i B N hi ac) hX hb hi hk hd (fun h=>by cases h) (fun _=>⟨hv,IU ai⟩),_,len,cc,rfl,⟨by rw [hl],hc⟩,.inr ⟨B,N,by rw [<- af];exact fF,0,rfl,by simp,fun _=>by omega⟩⟩
    .cases e
  .split at e
   .cases e
   .rename_i nd0 zs aj;have ag:∀ (aa:List (Nat×Bool)),nd0.val->zs=ys->(∀ x∈dG,x∈aa)->(∀ i,idM v=some i->IR i dG=true/\aa=(i,false) :: dG) ->
      ∃ J,Sub υ J/\Toc lo τ k σ h W X (To.out ik h.size (.li false ys) bs).2 J aa/\VRel J (To.out ik h.size (.li false ys) bs).1 V:=by
     intro aa ak hz hs al;subst hz;obtain ⟨p,len,cc,rfl,hl,hc,hp⟩:=IQ rk O aj ak;simp only [To.out,cK];by_cases ah:zs=[]
     .subst ah;exact ⟨υ,Sub.refl _,c.dead rfl hs,p,len,cc,rfl,⟨by rw [hl],hc⟩,.inl hl⟩
     .rcases hp with hp|⟨B,N,i,M,o,d,rfl,ac,hk,hd,hi,hX,hb,ab⟩
      .exact absurd (gK.1 (by omega)) ah
      .obtain ⟨ae,rfl⟩:=al i ab;exact ⟨_,Sub.add c.r.fresh,c.add rk r0 (own:=false) (fresh i B M hi ac) hX hb hi hk hd (fun _=>⟨rfl,FQ ae⟩) (fun h=>by cases h),_,len,cc,rfl,⟨by rw [hl],hc⟩,.inr ⟨B,N,by rw [<- af];exact fF,rfl⟩⟩
    split at e
    .rename_i ab;cases e;exact ag dG (Nd.lv hn) (Nd.rv hn) (fun x hx=>hx) (fun i hi=>by rw [ab] at hi;cases hi)
    .rename_i i ab;split at e
     .rename_i ae;cases e;exact ag _ (Nd.lv hn) (Nd.rv hn) (fun x hx=>jJ _ hx) (fun j hj=>by rw [ab] at hj;cases hj;exact ⟨ae,rfl⟩)
     .cases e
 | .st l,v,V,dG,E,nd,bs,υ,e,hn,O,c=>by
  simp only [To.fit] at e;split at e
  .obtain ⟨K,rfl,hK⟩:=O;obtain ⟨J,h1,h2,h3⟩:=To.fitL_rel rk r0 fresh l _ K.toList dG E nd bs υ e hn hK c;simp only [To.out];exact ⟨J,h1,h2,K,rfl,h3⟩
  .cases e
 | .tu l,v,V,dG,E,nd,bs,υ,e,hn,O,c=>by
  simp only [To.fit] at e;split at e
  .obtain ⟨K,rfl,hK⟩:=O;obtain ⟨J,h1,h2,h3⟩:=To.fitL_rel rk r0 fresh l _ K.toList dG E nd bs υ e hn hK c;simp only [To.out];exact ⟨J,h1,h2,K,rfl,h3⟩
  .cases e
theorem To.fitL_rel {lo:Nat} {τ:Sg} {k:Hp} {σ:Sg} {h:Hp} {W X:World} (rk:HRel τ k X) (r0:HRel σ h W) (fresh:∀ i B N,τ i=some (B,N)->lo<=i->W.heap.size<=B) {ik:IntKind}:∀ (t:List To) (v:List AV) (L:List Value) (dG E:List (Nat×Bool)) (nd:Nd) (bs:List ABody) (υ:Sg),
  To.fitL lo k ik t v dG=some (nd,E)->nd.val->VRels τ v L->Toc lo τ k σ h W X bs υ dG->∃ J,Sub υ J/\Toc lo τ k σ h W X (To.outL ik h.size t bs).2 J E/\VRels J (To.outL ik h.size t bs).1 L
 | [],[],L,dG,E,nd,bs,υ,e,hn,O,c=>by
  simp only [To.fitL] at e;cases e;exact ⟨υ,Sub.refl _,c,O⟩
 | t :: l,v :: m,L,dG,E,nd,bs,υ,e,hn,O,c=>by
  simp only [To.fitL] at e;split at e
  .cases e
  .rename_i n1 s1 e1;split at e
   .cases e
   .rename_i n2 s2 e2;cases e;obtain ⟨V,L',rfl,q1,q2⟩:=O;obtain ⟨aa,a1,a2,a3⟩:=To.fit_rel rk r0 fresh t v V dG s1 n1 bs υ e1 (Nd.lv hn) q1 c;obtain ⟨ab,b1,b2,b3⟩:=To.fitL_rel rk r0 fresh l m L' s1 E n2 _ aa e2 (Nd.rv hn) q2 a2;simp only [To.outL];exact ⟨ab,a1.trans b1,b2,V,L',rfl,VRel.mono b1 _ _ a3,b3⟩
 | [],_ :: _,_,_,_,_,_,_,e,_,_,_=>by simp [To.fitL] at e
 | _ :: _,[],_,_,_,_,_,_,e,_,_,_=>by simp [To.fitL] at e
end
theorem To.tells {lo:Nat} {k:Hp} {ik:IntKind} {t:To} {v0:AV} {nd:Nd} {dG:List (Nat×Bool)} (e:To.fit lo k ik t v0 []=some (nd,dG)) (hn:nd.val) (E:Nat):KD lo k v0 E (To.out ik E t []).1 (To.out ik E t []).2:=by intro σ h W τ X V J r O k2 fresh hq;subst J;obtain ⟨r1,g1⟩:=r.quiet hq;obtain ⟨υ,h1,h2,h3⟩:=To.fit_rel O r fresh t v0 V [] dG nd [] σ e hn k2 ⟨r1,g1,fun i b B M p1 p2 _ _=>absurd (Hp.get_lt p2) (eP.2 p1)⟩;exact ⟨υ,h2.r,h2.g,h3⟩
def bQ (hG:Hp) (ik:IntKind) (a:List Ma) (V:List Nu->List (List Int)->Option (Prop×To)):ku:=fun args h=>
 match Ma.readL hG.size h ik a args with
 | none=>none
 | some (nd,xs,ys)=>match V xs ys with
  | none=>none
  | some (p,t)=>match To.out ik h.size t [] with
   | (v,bs)=>some (nd.and (.p p),v,bs)
theorem Bi {P:Program} {glob:Nat->Option Nat} {hG:Hp} (ok:hG.ok) (pl:lZ hG.size hG.blks=true) (J:∀ g i,glob g=some i->i<hG.size) {f:FuncId} {ik:IntKind} {K:List Ma} {V:List Nu->List (List Int)->Option (Prop×To)}
  (h:∀ xs ys p t,V xs ys=some (p,t)->p->∃ (C:Ctx) (n:Nat) (as:List AV) (nd0:Nd) (v0:AV) (k:Hp) (m:Nd) (dG:List (Nat×Bool)),CtxOk C/\C.P=P/\C.glob=glob/\FO (Ma.mkL K hG.size xs ys).1 as /\
   (run C n).call f as (iZ true hG (ys.map fun y=>(ik,y)))=some ⟨nd0,[⟨.tt,v0,k⟩]⟩/\v0.isPanic=false/\nd0.val/\allOld hG.clock (fo (k.size - (iZ true hG (ys.map fun y=>(ik,y))).size) k.blks)=true/\To.fit (iZ true hG (ys.map fun y=>(ik,y))).size k ik t v0 []=some (m,dG)/\m.val)
  (fn:∃ fn:Func,P.funcs[f]?=some fn/\fn.body.isSome=true):NOk P glob hG f (bQ hG ik K V):=by
 refine ⟨fun args nd v bs h' e same=>?_,fn⟩;unfold bQ at e;split at e
 .cases e
 .rename_i L xs ys hr;split at e
  .cases e
  .rename_i p t hV;simp only [bi,eH] at e;obtain ⟨rfl,rfl,rfl⟩:=e;refine Ph fun σ A W g r hA hn=>?_;obtain ⟨C,n,as,nd0,v0,k,m,dG,co,rfl,rfl,ht,l,hp,O,hold,hf,hm⟩:=h _ _ _ _ hV (Nd.rv hn);obtain ⟨X,q,q2⟩:=Ma.readL_rel r K args L xs ys A.toList hr hA (Nd.lv hn);have gs:=pU same;have s:∀ i,i<ys.length->∃ b,X[i]?=some b:=fun i hi=>⟨_,dh (by rw [q.1];exact hi)⟩;obtain ⟨ρ,r0,sub,hj⟩:=Ae (raw:=true) (σ:=fun i=>X[i]?) ((List.range ys.length).map fun i=>(i,ik,ys.getD i [])) (σ.low hG.size) hG (Pm ok pl same r) (fun x hx=>by
    obtain ⟨i,hi,rfl⟩:=gy.1 hx;have hi:=List.mem_range.1 hi;by_cases a:ys.getD i []=[]
    .exact .inl a
    .right;obtain ⟨b,hb⟩:=s i hi;have hy:ys[i]?=some (ys.getD i []):=by rw [bY,dh hi];rfl
     obtain ⟨B,N,id,M,o,d,aa,ag,hg,hd,ab,hX,ac⟩:=q.2 i _ b hy hb a;cases aa;refine ⟨b.1,b.2,o,hb,hX,ac,fun j c M' w ae I=>?_⟩;have hj:=Hp.get_lt w;obtain ⟨b',c',af,z,D⟩:=gs j hj;rw [w] at z;cases z;rcases r.inj j id b' d b.1 M' M af hg (by rw [D];exact ae) hd (Sg.low_sub σ _ _ _ I) ab with h8|⟨h8,_⟩
     .omega
     .rw [D] at h8;exact h8)
   have E:((List.range ys.length).map fun i=>(i,ik,ys.getD i [])).map (·.2)=ys.map fun y=>(ik,y):=by
    apply zb;intro i;simp only [uX,rG];rcases aX i ys.length with hi|hi
    .simp [Du hi,dh hi]
    .rw [dB (by simpa using hi),dB hi];rfl
   rw [E] at r0;have F:Lies ρ hG.size ys X:=fun i y b I e2 a=>by
    have hi:=(je.1 I).1;have:=hj i (i,ik,ys.getD i []) (by simp [rG,Du hi]) (by show ys.getD i []≠[];rw [bY,I];exact a);rw [this];exact e2
   obtain ⟨_,q3⟩:=q2 ρ hG.size [] [] F;rw [kT,kT] at q3;refine ⟨C,n,_,as,ρ,nd0,v0,k,co,rfl,rfl,r0,fun gl i H=>?_,sI _ _ _ ht q3,l,hp,O,by rw [wQ];exact hold,To.tells hf hm h'.size⟩;obtain ⟨N,hN⟩:=g gl i H;exact ⟨N,sub _ _ (by simp [Sg.low,J gl i H,hN])⟩
end
end Go.Eng
namespace Go.Eng
open Go
noncomputable section
def ah6 (C:Ctx):Ctx:={ C with loop:=fun fr a s=>match C.loop fr a s with
 | some q=>some q
 | none=>some ⟨.tt,[⟨.tt,.goto 4242,s⟩]⟩ }
def Mr:List Ent->St
 | []=>⟨[],[],⟨[],0,0⟩⟩
 | e :: l=>match e.x with
  | .goto i=>match Nat.beq i 4242 with
   | true=>e.s
   | false=>Mr l
  | _=>Mr l
def Um:Option R->St
 | some q=>Mr q.l
 | none=>⟨[],[],⟨[],0,0⟩⟩
def qM (C:Ctx) (n:Nat) (f:FuncId) (args:List AV) (h:Hp):St:=
 match C.P.funcs[f]? with
 | none=>⟨[],[],⟨[],0,0⟩⟩
 | some fn=>match fn.body with
  | none=>⟨[],[],⟨[],0,0⟩⟩
  | some c=>cz (h.clock+1) fun ck=>Um ((run (ah6 C) n).code ⟨f,none⟩ c ⟨N8 args++AP (fn.ntmps - args.length),[],⟨h.blks,h.size,ck⟩⟩)
def ad6 (C:Ctx) (n:Nat) (fr:AFr) (a:Code) (s:St):St:=Um ((run (ah6 C) n).code fr a s)
def hG0:Hp:=⟨[],0,1⟩
theorem IV {C:Ctx} {r:Rec} (j:RecOk C r) {fr:AFr} {a:Code} {s0:St} {α:Type} (u:SumL α) {y0:α} {c:List Nat} (k:u.I y0) (start:qC (fit s0 s0 (aJ s0 (u.S y0)) c)) (l:kz s0.hp (u.S y0).old=true)
  (body:∀ y,u.I y->qC (dQ s0 (u.way y) (r.code fr a (aJ s0 (u.S y))))) {g:Bool} {x h:Ex} {p i:Patch} (f:u.F y0=bif g then (x,p) else (h,i)):CodeOk C fr (.loop a) s0 ⟨.tt,[⟨.b g,x,aJ s0 p⟩,⟨.b (!g),h,aJ s0 i⟩]⟩:=by
 cases g with
 | true=>exact Mq j u k start l body ⟨⟨.b true,x,aJ s0 p⟩,by simp [One,G.val],by rw [f];rfl,by rw [f];rfl⟩
 | false=>exact Mq j u k start l body ⟨⟨.b true,h,aJ s0 i⟩,by simp [One,G.val],by rw [f];rfl,by rw [f];rfl⟩
theorem jm {C:Ctx} {fr:AFr} {a:Code} {s0:St} {α:Type} (u:SumL α) {y0:α} {b:List Nat} (f:u.I y0) (start:qC (fit s0 s0 (aJ s0 (u.S y0)) b)) (g:kz s0.hp (u.S y0).old=true)
  (body:∀ y,u.I y->∃ (D:Ctx) (m:Nat),CtxOk D/\D.P=C.P/\D.glob=C.glob/\qC (dQ s0 (u.way y) ((run D m).code fr a (aJ s0 (u.S y))))) {x:Ex} {p:Patch} (c:u.F y0=(x,p)):CodeOk C fr (.loop a) s0 ⟨.tt,[⟨.tt,x,aJ s0 p⟩]⟩:=
 YN u f start g body ⟨⟨.tt,x,aJ s0 p⟩,rfl,by rw [c],by rw [c]⟩
def ad7 (P:Program) (glob:Nat->Option Nat) (hG:Hp) (f:FuncId) (ik:IntKind) (a:List Ma) (xs:List Nu) (ys:List (List Int)) (t:To):Prop:=
 ∃ (C:Ctx) (n:Nat) (as:List AV) (nd0:Nd) (v0:AV) (k:Hp) (m:Nd) (dG:List (Nat×Bool)),CtxOk C/\C.P=P/\C.glob=glob/\FO (Ma.mkL a hG.size xs ys).1 as /\
   (run C n).call f as (iZ true hG (ys.map fun y=>(ik,y)))=some ⟨nd0,[⟨.tt,v0,k⟩]⟩/\v0.isPanic=false/\nd0.val/\allOld hG.clock (fo (k.size - (iZ true hG (ys.map fun y=>(ik,y))).size) k.blks)=true/\To.fit (iZ true hG (ys.map fun y=>(ik,y))).size k ik t v0 []=some (m,dG)/\m.val
theorem fw {P:Program} {f:FuncId} {ik:IntKind} {a:List Ma} {V:List Nu->List (List Int)->Option (Prop×To)}
  (h:∀ xs ys p t,V xs ys=some (p,t)->p->ad7 P (fun _=>none) hG0 f ik a xs ys t) (fn:∃ fn:Func,P.funcs[f]?=some fn/\fn.body.isSome=true):NOk P (fun _=>none) hG0 f (bQ hG0 ik a V):=
 Bi (show hG0.ok from rfl) rfl (fun _ _ h=>by cases h) h fn
end
end Go.Eng
namespace Go.Eng
def lc (q r y0 u:Int):Bool:=bif decide (q>=4294967296) then true else decide (u64.wrap (q*y0)>u64.wrap (u64.wrap (4294967296*r)+u))
def lq (q r y1 y0 u:Int):Int:=
 bif (lc q r y0 u&&decide (u64.wrap (r+y1)>=4294967296))||!lc q r y0 u then
  bif lc q r y0 u&&decide (u64.wrap (r+y1)>=4294967296) then u64.wrap (q - 1) else q
 else
  bif (lc (u64.wrap (q - 1)) (u64.wrap (r+y1)) y0 u&&decide (u64.wrap (u64.wrap (r+y1)+y1)>=4294967296))||!lc (u64.wrap (q - 1)) (u64.wrap (r+y1)) y0 u then
   bif lc (u64.wrap (q - 1)) (u64.wrap (r+y1)) y0 u&&decide (u64.wrap (u64.wrap (r+y1)+y1)>=4294967296) then u64.wrap (u64.wrap (q - 1) - 1) else u64.wrap (q - 1)
  else
   bif lc (u64.wrap (u64.wrap (q - 1) - 1)) (u64.wrap (u64.wrap (r+y1)+y1)) y0 u&&decide (u64.wrap (u64.wrap (u64.wrap (r+y1)+y1)+y1)>=4294967296) then
    u64.wrap (u64.wrap (u64.wrap (q - 1) - 1) - 1)
   else u64.wrap (u64.wrap (q - 1) - 1)
def ah7 (q r y1 y0 u:Int):Prop:=
 (lc q r y0 u&&!decide (u64.wrap (r+y1)>=4294967296))=true ->
  (lc (u64.wrap (q - 1)) (u64.wrap (r+y1)) y0 u&&!decide (u64.wrap (u64.wrap (r+y1)+y1)>=4294967296))=true ->
   (lc (u64.wrap (u64.wrap (q - 1) - 1)) (u64.wrap (u64.wrap (r+y1)+y1)) y0 u&&!decide (u64.wrap (u64.wrap (u64.wrap (r+y1)+y1)+y1)>=4294967296))=true->False
theorem qD {n:Int} (a:0<=n) (h1:n<18446744073709551616):u64.wrap n=n:=by rw [IntKind.wrap_u64];omega
section step
variable {u Y y1 y0 d Q:Int}
theorem Pp (c:9223372036854775808<=Y) (e:Y=y1*4294967296+y0) (a:Q*Y<=u*4294967296+d) (b:u*4294967296+d<(Q+1)*Y) {q r:Int} (f:u=q*y1+r):
  q*y0>r*4294967296+d ↔ q>Q:=by
 have h1:q*Y=q*y1*4294967296+q*y0:=by rw [e,dU,dM]
 constructor
 .intro h;rcases nz Q q with h2|h2
  .exact h2
  .have:=bG h2 (show 0<=Y by omega);omega
 .intro h;have:=bG (show Q+1<=q by omega) (show 0<=Y by omega);omega
theorem RD (f:9223372036854775808<=Y) (e:Y=y1*4294967296+y0) (c:0<=y0) (g:y0<4294967296) (hd:0<=d) (i:d<4294967296) (l:Q<4294967296) (a:Q*Y<=u*4294967296+d) (b:u*4294967296+d<(Q+1)*Y)
  {q r:Int} (j:u=q*y1+r) (hq:0<=q) (m:0<=r) (k:r<4294967296):lc q r y0 d=decide (q>Q):=by
 unfold lc;by_cases h:q>=4294967296
 .simp only [h,iD,aQ];symm;simp;omega
 .simp only [h,iB,aR];have h1:q*y0<=4294967295*y0:=bG (by omega) c;have h2:0<=q*y0:=aV hq c;rw [qD h2 (by omega),qD (n:=4294967296*r) (by omega) (by omega),qD (by omega) (by omega)];have:=Pp f e a b j
  congr 1
  apply propext;rw [<- this];omega
theorem ad8 (s:9223372036854775808<=Y) (O:Y<18446744073709551616) (e:Y=y1*4294967296+y0) (k:0<=y0) (g:y0<4294967296) (P:0<=u) (W:u<Y) (hd:0<=d) (i:d<4294967296):
  lq (u / y1) (u % y1) y1 y0 d=(u*4294967296+d) / Y/\ah7 (u / y1) (u % y1) y1 y0 d:=by
 have X:2147483648<=y1:=by omega
 have J:y1<4294967296:=by omega
 generalize K:(u*4294967296+d) / Y=Q;have x:=gL (u*4294967296+d) Y;rw [K] at x;have aa:=dE (u*4294967296+d) (show Y≠0 by omega);have ab:=d9 (u*4294967296+d) (show 0<Y by omega);have hc:Y*Q=Q*Y:=eO _ _;have b:Q*Y<=u*4294967296+d:=by omega
 have c:u*4294967296+d<(Q+1)*Y:=by rw [iQ];omega
 have ac:0<=Q:=by rw [<- K];exact bu (by omega) (by omega)
 have a:Q<4294967296:=by
  rcases nz Q 4294967296 with h|h
  .exact h
  .have:=bG h (show 0<=Y by omega);omega
 have ae:=gL u y1;have y:=dE u (show y1≠0 by omega);have af:=d9 u (show 0<y1 by omega);generalize hq:u / y1=q at *
 generalize hr:u % y1=r at *
 have z:0<=q:=by rw [<- hq];exact bu P (by omega)
 have ag:y1*q=q*y1:=eO _ _;have A:u=q*y1+r:=by omega
 have L:q<=4294967297:=by
  rcases nz 4294967297 q with h|h
  .have:=bG (show 4294967298<=q by omega) (show 0<=y1 by omega);omega
  .exact h
 have ah:Q<=q:=by
  rcases nz q Q with h|h
  .have h1:=bG (show q+1<=Q by omega) (show 0<=Y by omega);have h2:(q+1)*Y=q*y1*4294967296+y1*4294967296+(q+1)*y0:=by rw [e,dU,iQ,<- dM,iQ,Int.one_mul,Int.one_mul]
   have h3:0<=(q+1)*y0:=aV (by omega) k;omega
  .exact h
 have ai:q<=Q+2:=by
  rcases nz (Q+2) q with h|h
  .have h1:=bG (show Q+1<=q - 2 by omega) (show 0<=Y by omega);have h2:(q - 2)*Y=q*y1*4294967296 - 2*y1*4294967296+(q - 2)*y0:=by rw [e,dU,zJ,<- dM,zJ,dM 2]
   have h3:(q - 2)*y0<=4294967295*y0:=bG (by omega) k;omega
  .exact h
 have j:lc q r y0 d=decide (q>Q):=RD s e k g hd i a b c A z y (by omega);have f:u64.wrap (r+y1)=r+y1:=qD (by omega) (by omega);by_cases l:q>Q
 .have v1:u64.wrap (q - 1)=q - 1:=qD (by omega) (by omega);have m:u=(q - 1)*y1+(r+y1):=by rw [zJ];omega
  by_cases n:r+y1>=4294967296
  .-- aj t D M be right
   have E:q - 1=Q:=by
    have:=Pp s e b c m;have h3:(q - 1)*y0<=4294967296*y0:=bG (by omega) k;rcases nz Q (q - 1) with h|h
    .have:=this.2 h;omega
    .omega
   refine ⟨?_,?_⟩
   .simp only [lq,j,f,v1,l,n,iD,uU,zz,aQ];exact E
   .intro h;simp [j,f,n] at h
  .have o:lc (q - 1) (r+y1) y0 d=decide (q - 1>Q):=RD s e k g hd i a b c m (by omega) (by omega) (by omega);by_cases v:q - 1>Q
   .have F:u64.wrap (q - 1 - 1)=q - 1 - 1:=qD (by omega) (by omega);have w:u64.wrap (r+y1+y1)=r+y1+y1:=qD (by omega) (by omega);have p:q - 1 - 1=Q:=by omega
    by_cases H:r+y1+y1>=4294967296
    .refine ⟨?_,?_⟩
     .simp only [lq,j,f,v1,l,n,o,v,F,w,H,iD,iB,uU,zw,oU,Ea,zz,D9,aQ,aR];exact p
     .intro _ h;simp [o,f,v1,w,H] at h
    .have I:u=(q - 1 - 1)*y1+(r+y1+y1):=by rw [zJ];omega
     have N:lc (q - 1 - 1) (r+y1+y1) y0 d=decide (q - 1 - 1>Q):=RD s e k g hd i a b c I (by omega) (by omega) (by omega);have g3:¬ q - 1 - 1>Q:=by omega
     refine ⟨?_,?_⟩
     .simp only [lq,j,f,v1,l,n,o,v,F,w,H,N,g3,iD,iB,uU,zw,rV,oU,Ea,zz,D9,aQ,aR];exact p
     .intro _ _ h;simp [v1,f,F,w,N,g3] at h
   .refine ⟨?_,?_⟩
    .simp only [lq,j,f,v1,l,n,o,v,iD,iB,uU,zw,rV,oU,zu,Ea,zz,Bool.or_true,D9,aQ,aR];omega
    .intro _ h;simp [v1,f,o,v] at h
 .refine ⟨?_,?_⟩
  .simp only [lq,j,l,iB,rV,zu,Bool.or_true,aQ,aR];omega
  .intro h;simp [j,l] at h
end step
def dS (y:Int):Int:=u64.wrap (64 - ((Lib.bitLen y.toNat:Nat):Int))
def dP (y:Int):Int:=2 ^ min (dS y).toNat u64.bits
def dH:Int:=2 ^ min (Int.toNat 32) u64.bits
def ai9 (n:Int):Int:=u64.wrap ((BitVec.ofInt u64.bits n &&& BitVec.ofInt u64.bits 4294967295).toNat:Int)
def dY (y:Int):Int:=u64.wrap (y*dP y)
def dY1 (y:Int):Int:=(dY y).fdiv dH
def dY0 (y:Int):Int:=ai9 (dY y)
def YR (hi lo y:Int):Int:=u64.wrap ((BitVec.ofInt u64.bits (u64.wrap (hi*dP y)) ||| BitVec.ofInt u64.bits (lo.fdiv (2 ^ min (u64.wrap (64 - dS y)).toNat u64.bits))).toNat:Int)
def ad9 (lo y:Int):Int:=u64.wrap (lo*dP y)
def dU1 (lo y:Int):Int:=(ad9 lo y).fdiv dH
def dU0 (lo y:Int):Int:=ai9 (ad9 lo y)
def dq (u y:Int):Int:=u64.wrap (u.tdiv (dY1 y))
def dr (u y:Int):Int:=u64.wrap (u - u64.wrap (dq u y*dY1 y))
def KI (u y d:Int):Int:=lq (dq u y) (dr u y) (dY1 y) (dY0 y) d
def Af (u y d:Int):Prop:=ah7 (dq u y) (dr u y) (dY1 y) (dY0 y) d
def Un (u y d:Int):Int:=u64.wrap (u64.wrap (u64.wrap (u*4294967296)+d) - u64.wrap (KI u y d*dY y))
def EN (hi lo y:Int):Int:=Un (YR hi lo y) y (dU1 lo y)
def aea (hi lo y:Int):Int:=bif hi==0 then u64.wrap (lo.tdiv y) else u64.wrap (u64.wrap (KI (YR hi lo y) y (dU1 lo y)*4294967296)+KI (EN hi lo y) y (dU0 lo y))
def aeb (hi lo y:Int):Int:=bif hi==0 then lo.tmod y else (Un (EN hi lo y) y (dU0 lo y)).fdiv (dP y)
def ah8 (hi lo y:Int):Prop:=
 ((y==0)=true->False)/\(decide (y<=hi)=true->False)/\((hi==0)=true->y≠0/\y≠0)/\((!(hi==0))=true->(0<=y/\y<=18446744073709551615)/\0<=dS y/\(0<=dS y/\0<=u64.wrap (64 - dS y))/\0<=dS y /\
  dY1 y≠0/\Af (YR hi lo y) y (dU1 lo y)/\dY1 y≠0/\Af (EN hi lo y) y (dU0 lo y)/\0<=dS y)
theorem vD:∀ (f x:Nat),x<2 ^ f->0<x->2 ^ (Lib.bitLenAux f x - 1)<=x/\x<2 ^ (Lib.bitLenAux f x)/\1<=Lib.bitLenAux f x
 | 0,x,h,a=>by simp at h;omega
 | f+1,x,h,a=>by
  simp only [Lib.bitLenAux,aB (show ¬ x=0 by omega)];rw [iC] at h;by_cases g:x / 2=0
  .have:x=1:=by omega
   subst this;have b:Lib.bitLenAux f (1 / 2)=0:=by cases f <;> simp [Lib.bitLenAux]
   rw [b];simp
  .obtain ⟨h1,h2,h3⟩:=vD f (x / 2) (by omega) (by omega);obtain ⟨k,c⟩:∃ k,Lib.bitLenAux f (x / 2)=k+1:=⟨_,(Nat.sub_add_cancel h3).symm⟩;rw [c] at h1 h2 ⊢;rw [show 1+(k+1) - 1=k+1 from by omega,show 1+(k+1)=(k+1)+1 from by omega];rw [show k+1 - 1=k from rfl] at h1;rw [iC] at h2 ⊢;rw [iC];refine ⟨by omega,by rw [iC];omega,by omega⟩
theorem JE (x:Nat) (h:x<2 ^ 64) (a:0<x):2 ^ (Lib.bitLen x - 1)<=x/\x<2 ^ (Lib.bitLen x)/\1<=Lib.bitLen x:=vD 64 x h a
theorem dLow_eq (n:Nat) (h:n<18446744073709551616):ai9 (n:Int)=((n % 4294967296:Nat):Int):=by have h1:=bits_and_u64_nat n 4294967295 h (by omega);have e:n &&& 4294967295=n % 4294967296:=JL n 32;rw [e] at h1;exact h1
theorem dOr_eq (a b:Nat) (ha:a<18446744073709551616) (hb:b<18446744073709551616):u64.wrap ((BitVec.ofInt u64.bits (a:Int) ||| BitVec.ofInt u64.bits (b:Int)).toNat:Int)=((a ||| b:Nat):Int):=bits_or_u64_nat a b ha hb
theorem ah9:dH=4294967296:=rfl
theorem Uo {y Y u d:Int} (c:dY y=Y) (l:9223372036854775808<=Y) (f:Y<18446744073709551616) (b:0<=u) (g:u<Y) (hd:0<=d) (h:d<4294967296):
  KI u y d=(u*4294967296+d) / Y/\Af u y d/\Un u y d=(u*4294967296+d) % Y/\dY1 y≠0:=by
 have h1:dY1 y=Y / 4294967296:=by unfold dY1;rw [c,ah9,lT _ (by omega)]
 have i:dY0 y=Y % 4294967296:=by unfold dY0;rw [c];have:=dLow_eq Y.toNat (by omega);rw [iN (by omega)] at this;rw [this];omega
 have hp:0<Y / 4294967296:=by omega
 have hq:dq u y=u / (Y / 4294967296):=by unfold dq;rw [h1,bV b];have a1:=bu b (show 0<=Y / 4294967296 by omega);have a2:u / (Y / 4294967296)<=u:=kS _ b;exact qD a1 (by omega)
 have m:=gL u (Y / 4294967296);have n:=dE u (show Y / 4294967296≠0 by omega);have o:=eO (Y / 4294967296) (u / (Y / 4294967296));have hn:0<=u / (Y / 4294967296)*(Y / 4294967296):=aV (bu b (by omega)) (by omega);have j:dr u y=u % (Y / 4294967296):=by unfold dr;rw [hq,h1,qD hn (by omega),qD (by omega) (by omega)];omega
 have a:=ad8 (u:=u) (y1:=Y / 4294967296) (y0:=Y % 4294967296) (d:=d) l f (by omega) (by omega) (by omega) b g hd h;have k:KI u y d=(u*4294967296+d) / Y:=by unfold KI;rw [hq,j,h1,i];exact a.1
 refine ⟨k,by unfold Af;rw [hq,j,h1,i];exact a.2,?_,by omega⟩;unfold Un;rw [k,c];have p:=gL (u*4294967296+d) Y;have q:=eO Y ((u*4294967296+d) / Y);have e3:=dE (u*4294967296+d) (show Y≠0 by omega);have r:=d9 (u*4294967296+d) (show 0<Y by omega);rw [IntKind.wrap_u64,IntKind.wrap_u64,IntKind.wrap_u64,IntKind.wrap_u64];omega
theorem YS (h l z:Nat) (hz:h<z) (j:z<18446744073709551616) (N:l<18446744073709551616):
  ah8 h l z/\aea h l z=(h*18446744073709551616+l) / z/\aeb h l z=(h*18446744073709551616+l) % z:=by
 by_cases hh:h=0
 .subst hh;have e:(((0:Nat):Int)==0)=true:=rfl;refine ⟨⟨?_,?_,?_,?_⟩,?_,?_⟩
  .simp;omega
  .simp;omega
  .intro _;constructor <;> omega
  .rw [e];intro h;cases h
  .unfold aea;rw [e,aQ,bV (by omega)];have a1:=bu (show (0:Int)<=l by omega) (show (0:Int)<=z by omega);have a2:(l:Int) / z<=l:=kS _ (by omega);rw [qD a1 (by omega)];simp
  .unfold aeb;rw [e,aQ,cO (by omega)];simp
 .have e:(((h:Nat):Int)==0)=false:=by simp;omega
  obtain ⟨b1,b2,b3⟩:=JE z j (by omega);have b4:=Lib.bitLen_le z 64 (by omega) j;generalize hL:Lib.bitLen z=L at *
  have O:dS z=((64 - L:Nat):Int):=by unfold dS;rw [uM,hL,qD (by omega) (by omega)];omega
  have y:dP z=((2 ^ (64 - L):Nat):Int):=by unfold dP;rw [O,uM,show u64.bits=64 from rfl,iP (by omega)];simp
  have P:u64.wrap (64 - dS z)=(L:Int):=by rw [O,qD (by omega) (by omega)];omega
  have s4:((2:Int) ^ min (u64.wrap (64 - dS z)).toNat u64.bits)=((2 ^ L:Nat):Int):=by rw [P,uM,show u64.bits=64 from rfl,iP b4];simp
  have D:2 ^ L*2 ^ (64 - L)=18446744073709551616:=by rw [<- kV,show L+(64 - L)=64 by omega]
  have E:2 ^ (L - 1)*2 ^ (64 - L)=9223372036854775808:=by rw [<- kV,show L - 1+(64 - L)=63 by omega]
  have b:0<2 ^ (64 - L):=Nat.pow_pos (by omega);have c:0<2 ^ L:=Nat.pow_pos (by omega);have k:∀ x:Nat,x<2 ^ (64 - L)->2 ^ (64 - L)*h+x=2 ^ (64 - L)*h ||| x:=fun x hx=>Dk hx h;generalize aa:2 ^ (64 - L)=a at *
  generalize hR:2 ^ L=R at *
  generalize ab:2 ^ (L - 1)=R1 at *
  have Y1:9223372036854775808<=z*a:=by rw [<- E];exact jI _ b1
  have Y2:z*a<18446744073709551616:=by rw [<- D];exact yQ b2 b
  have m:dY z=((z*a:Nat):Int):=by unfold dY;rw [y,<- gu,qD (by omega) (by omega)]
  have ac:h*a<z*a:=yQ hz b;have F:l / R<a:=by rw [Nat.div_lt_iff_lt_mul c,bZ,D];exact N
  have H:YR h l z=((h*a+l / R:Nat):Int):=by unfold YR;rw [s4,y,lT _ (by omega),<- gu,<- mX,qD (n:=((h*a:Nat):Int)) (by omega) (by omega),dOr_eq _ _ (by omega) (y5 (zm _ _) N)];have:=k (l / R) F;rw [bZ a h] at this;rw [this]
  have I:=oO l R;have o:=jQ l c;have p:l*a=l / R*18446744073709551616+l % R*a:=by
   conv=>lhs;rw [<- I]
   rw [dR,bZ R,jO,D]
  have q:l % R*a<18446744073709551616:=by rw [<- D];exact yQ o b
  have f:ad9 l z=((l % R*a:Nat):Int):=by unfold ad9;rw [y,<- gu,p,IntKind.wrap_u64];omega
  generalize hV:l % R*a=V at *
  generalize J:h*a+l / R=U at *
  have hN:(h*18446744073709551616+l)*a=U*18446744073709551616+V:=by rw [dR,p,<- J,dR,jO,bZ 18446744073709551616 a,<- jO];omega
  have ae:U<z*a:=by have:(h*18446744073709551616+l)*a<z*18446744073709551616*a:=yQ (by omega) b;rw [hN,jO,bZ 18446744073709551616 a,<- jO] at this;omega
  generalize hY:z*a=Y at *
  have g:dU1 l z=((V / 4294967296:Nat):Int):=by unfold dU1;rw [f,ah9,lT _ (by omega)];omega
  have i:dU0 l z=((V % 4294967296:Nat):Int):=by unfold dU0;rw [f,dLow_eq _ q]
  obtain ⟨p1,p2,p3,W⟩:=Uo (u:=(U:Int)) (d:=((V / 4294967296:Nat):Int)) m (by omega) (by omega) (by omega) (by omega) (by omega) (by omega);have r:EN h l z=((U:Int)*4294967296+((V / 4294967296:Nat):Int)) % (Y:Int):=by unfold EN;rw [H,g];exact p3
  have e1:=gL ((U:Int)*4294967296+((V / 4294967296:Nat):Int)) (Y:Int);have e3:=dE ((U:Int)*4294967296+((V / 4294967296:Nat):Int)) (show (Y:Int)≠0 by omega);have X:=d9 ((U:Int)*4294967296+((V / 4294967296:Nat):Int)) (show (0:Int)<Y by omega);have a0:=bu (show (0:Int)<=(U:Int)*4294967296+((V / 4294967296:Nat):Int) by omega) (show (0:Int)<=Y by omega);have a1:((U:Int)*4294967296+((V / 4294967296:Nat):Int)) / Y<4294967296:=rE (by omega) (by omega);rw [<- r] at e1 e3 X;obtain ⟨q1,q2,q3,_⟩:=Uo (u:=EN h l z) (d:=((V % 4294967296:Nat):Int)) m (by omega) (by omega) e3 X (by omega) (by omega);have f1:=gL (EN h l z*4294967296+((V % 4294967296:Nat):Int)) (Y:Int);have f3:=dE (EN h l z*4294967296+((V % 4294967296:Nat):Int)) (show (Y:Int)≠0 by omega);have f4:=d9 (EN h l z*4294967296+((V % 4294967296:Nat):Int)) (show (0:Int)<Y by omega);have c0:=bu (show (0:Int)<=EN h l z*4294967296+((V % 4294967296:Nat):Int) by omega) (show (0:Int)<=Y by omega);have c1:(EN h l z*4294967296+((V % 4294967296:Nat):Int)) / Y<4294967296:=rE (by omega) (by omega);generalize hA:((U:Int)*4294967296+((V / 4294967296:Nat):Int)) / (Y:Int)=A at *
  generalize hB:(EN h l z*4294967296+((V % 4294967296:Nat):Int)) / (Y:Int)=B at *
  generalize hM:(EN h l z*4294967296+((V % 4294967296:Nat):Int)) % (Y:Int)=M at *
  have K:((h:Int)*18446744073709551616+l)*a=(U:Int)*18446744073709551616+V:=by have:=bL (fun n:Nat=>(n:Int)) hN;simp only [gu,Int.natCast_add,Int.cast_ofNat_Int] at this;exact this
  have s:(z:Int)*a=Y:=by rw [<- gu,hY]
  have t:((h:Int)*18446744073709551616+l)*a=Y*(A*4294967296+B)+M:=by rw [K,dU,<- dM];omega
  have v:((h:Int)*18446744073709551616+l) / z=A*4294967296+B:=by have k1:((h:Int)*18446744073709551616+l) / z=((h:Int)*18446744073709551616+l)*a / (z*a):=(Int.mul_ediv_mul_of_pos_left _ _ (by omega)).symm;rw [k1,s,t,Int.mul_add_ediv_left _ _ (by omega),oH f3 f4];omega
  have w:((h:Int)*18446744073709551616+l) % z*a=M:=by
   have k1:((h:Int)*18446744073709551616+l) % z*a=(((h:Int)*18446744073709551616+l)*a) % (z*a):=by rw [eO _ (a:Int),eO _ (a:Int),eO _ (a:Int),Int.mul_emod_mul_of_pos _ _ (by omega)]
   rw [k1,s,t,Int.mul_add_emod_self_left,mV f3 f4]
  refine ⟨⟨?_,?_,?_,fun _=>⟨⟨by omega,by omega⟩,by omega,⟨by omega,by rw [P];omega⟩,by omega,W,?_,W,?_,by omega⟩⟩,?_,?_⟩
  .simp;omega
  .simp;omega
  .rw [e];intro h;cases h
  .rw [H,g];exact p2
  .rw [i];exact q2
  .unfold aea;rw [e,aR,H,g,p1,i,q1,v,qD (n:=A*4294967296) (by omega) (by omega),qD (by omega) (by omega)]
  .unfold aeb;rw [e,aR,i,q3,y,lT _ (by omega),<- w];exact Int.mul_ediv_cancel _ (by omega)
end Go.Eng
