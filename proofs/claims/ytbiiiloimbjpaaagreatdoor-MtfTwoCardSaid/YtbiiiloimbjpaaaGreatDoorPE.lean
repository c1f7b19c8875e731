/- What is proved: MtfTwo returns true, whatever the input (part 5). No conditions beyond those of the row. -/
import Derived.Test.YtbiiiloimbjpaaaGreatDoorPD
import Derived.Orders
import Derived.Calls
import Derived.RowKit3
set_option linter.unusedVariables false
set_option linter.unusedSimpArgs false
set_option linter.unusedSectionVars false
namespace Go.Eng
inductive Sch (ops:Array Oper):Array Bool->List Nat->Prop where
 | nil {L:Array Bool}:Region.ready .any ops L=[]->Sch ops L []
 | cons {L:Array Bool} {i:Nat} {is:List Nat}:i∈Region.ready .any ops L->Sch ops (L.setIfInBounds i true) is->Sch ops L (i :: is)
def x8 (L:Array Bool):Nat:=L.toList.countP (fun b=>!b)
theorem Ii {ops:Array Oper} {L:Array Bool} {i:Nat} (h:i∈Region.ready .any ops L):i<ops.size/\L.getD i true=false:=by rw [mem_ready] at h;obtain ⟨a,o,c,_⟩:=h;exact ⟨(jd.1 c).1,a⟩
theorem Ci {L:Array Bool} {i:Nat} (h:L.getD i true=false):x8 (L.setIfInBounds i true)+1=x8 L:=by
 have hi:i<L.size:=by
  rcases aX i L.size with c|c
  .exact c
  .simp [oG c] at h
 have f:L[i]=false:=by simpa [hi] using h
 unfold x8;rw [Dm];have g:=List.countP_set (p:=fun b:Bool=>!b) (l:=L.toList) (i:=i) (a:=true) (by simpa using hi);have d:L.toList[i]'(by simpa using hi)=false:=by simpa using f
 have hp:0<L.toList.countP (fun b=>!b):=List.countP_pos_iff.2 ⟨L[i],by simp,by simp [f]⟩;simp only [d,zu,bn,oU,y8,bz,gP] at g;omega
theorem Yq {ops:Array Oper}:∀ (fuel t:Nat) (L:Array Bool),x8 L<=fuel->Sch ops L (Region.linearise.go .any ops fuel t L [])
 | 0,t,L,h=>by
  refine .nil ?_;rw [List.eq_nil_iff_forall_not_mem];intro i hi;have:=Ci (Ii hi).2;omega
 | fuel+1,t,L,h=>by
  simp only [Region.linearise.go]
  change Sch ops L (match (Region.ready .any ops L)[t % (Region.ready .any ops L).length]? with
   | some i=>Region.linearise.go .any ops fuel (t / (Region.ready .any ops L).length) (L.setIfInBounds i true) [i]
   | none=>[].reverse)
  cases hi:(Region.ready .any ops L)[t % (Region.ready .any ops L).length]? with
  | none=>
   refine .nil ?_
   cases c:Region.ready .any ops L with
   | nil=>rfl
   | cons x xs=>
    rw [c] at hi;have d:t % (x :: xs).length<(x :: xs).length:=jQ _ (by simp);rw [List.getElem?_eq_none_iff] at hi;omega
  | some i=>
   simp only [];rw [linearise_go_acc,List.reverse_singleton,List.singleton_append];have a:=jg hi;have:=Ci (Ii a).2;exact .cons a (Yq fuel _ _ (by omega))
theorem adO {ops:Array Oper} (t:Nat):Sch ops (Array.replicate ops.size false) (Region.linearise .any ops t):=by refine Yq _ _ _ ?_;unfold x8;simp [List.countP_replicate]
def Ij (acc:Array Nat) (o:Oper):Nat:=o.after.foldl (fun s e=>if Region.binds .any e then s ||| 2 ^ e.on ||| acc.getD e.on 0 else s) 0
theorem VT {acc:Array Nat} {o:Oper} {p:Nat} (h:(Ij acc o).testBit p=true):∃ e∈o.after,Region.binds .any e=true/\(e.on=p\/(acc.getD e.on 0).testBit p=true):=by
 unfold Ij at h;rw [<- y7] at h;have a:∀ (l:List Edge) (s:Nat),(l.foldl (fun s e=>if Region.binds .any e then s ||| 2 ^ e.on ||| acc.getD e.on 0 else s) s).testBit p=true->s.testBit p=true\/∃ e∈l,Region.binds .any e=true/\(e.on=p\/(acc.getD e.on 0).testBit p=true):=by
  intro l
  induction l with
  | nil=>intro s h;exact .inl h
  | cons e l c=>
   intro s h;simp only [zh] at h;rcases c _ h with h1|⟨d,h1,h2⟩
   .cases hb:Region.binds .any e with
    | false=>rw [hb] at h1;exact .inl (by simpa using h1)
    | true=>
     rw [hb] at h1;simp only [bn,Nat.testBit_or,uR] at h1;rcases h1 with (h1|h1)|h1
     .exact .inl h1
     .refine .inr ⟨e,by simp,hb,.inl ?_⟩;rw [Nat.testBit_two_pow] at h1;simpa using h1
     .exact .inr ⟨e,by simp,hb,.inr h1⟩
   .exact .inr ⟨d,by simp [h1],h2⟩
 rcases a _ _ h with h1|⟨e,h1,h2⟩
 .simp at h1
 .exact ⟨e,by simpa using h1,h2⟩
theorem VU (ops:Array Oper):Region.before ops=ops.foldl (fun acc o=>acc.push (Ij acc o)) #[]:=rfl
theorem Ik (ops:Array Oper) {q p:Nat} (h:((Region.before ops).getD q 0).testBit p=true):∃ o,ops[q]?=some o/\∃ e∈o.after,Region.binds .any e=true/\(e.on=p\/((Region.before ops).getD e.on 0).testBit p=true):=by
 rw [VU] at h ⊢;rw [<- y7] at h ⊢;have c:∀ (l:List Oper) (acc:Array Nat) (q:Nat),(((l.foldl (fun acc o=>acc.push (Ij acc o)) acc)).getD q 0).testBit p=true ->
   (q<acc.size/\(acc.getD q 0).testBit p=true)\/(acc.size<=q/\∃ o,l[q - acc.size]?=some o/\∃ e∈o.after,Region.binds .any e=true/\(e.on=p\/((l.foldl (fun acc o=>acc.push (Ij acc o)) acc).getD e.on 0).testBit p=true)):=by
  intro l
  induction l with
  | nil=>
   intro acc q h;by_cases hq:q<acc.size
   .exact .inl ⟨hq,h⟩
   .simp [oG (eP.1 hq)] at h
  | cons o l d=>
   intro acc q h;have f:∀ (l:List Oper) (acc:Array Nat) (j:Nat),j<acc.size->(l.foldl (fun acc o=>acc.push (Ij acc o)) acc).getD j 0=acc.getD j 0:=by
    intro l
    induction l with
    | nil=>intro acc j _;rfl
    | cons o l d=>
     intro acc j a;simp only [zh];rw [d _ _ (by simp;omega)];simp [yZ,jP a]
   simp only [zh] at h ⊢;rcases d _ _ h with ⟨h1,h2⟩|⟨h1,i,h2,h3⟩
   .by_cases hq:q<acc.size
    .refine .inl ⟨hq,?_⟩;simpa [yZ,jP hq] using h2
    .have g:q=acc.size:=by simp at h1;omega
     subst g;refine .inr ⟨bD _,o,by simp,?_⟩;have h2:(Ij acc o).testBit p=true:=by simpa using h2
     obtain ⟨e,m,n,e3⟩:=VT h2;refine ⟨e,m,n,e3.imp id fun h3=>?_⟩;by_cases a:e.on<acc.size
     .rw [f _ _ _ (by simp;omega)];simpa [yZ,jP a] using h3
     .simp [oG (eP.1 a)] at h3
   .refine .inr ⟨by simp at h1;omega,i,?_,h3⟩;simp only [Array.size_push] at h1 h2;rw [show q - acc.size=(q - (acc.size+1))+1 by omega];simpa using h2
 rcases c _ _ _ h with ⟨h1,_⟩|⟨_,o,h2,h3⟩
 .simp at h1
 .exact ⟨o,by simpa using h2,h3⟩
def ah3 (P:Program) (ops:Array Oper) (i:Nat) (rest:List Nat) (b:Base) (k:List Item) (cs:List Frame) (dst:Option Tmp) (T U:Array Value) (D:List Deferred) (W:World):Ex->Array Value->List Deferred->World->Prop:=
 fun x a c d=>x=.normal/\c=D/\∃ V,a=jU U dst V/\Steps P (lone (b.fr T D (.inRegion ops (i :: rest) :: k)) cs W) (lone (b.fr (jU T dst V) D (.inRegion ops rest :: k)) cs d)
def FC (s:St) (dst:Option Tmp) (s':St):Prop:=s'.defs=s.defs/\∃ c v,s'.tmps=match dst with
 | none=>s.tmps
 | some d=>s.tmps.set d ⟨c,v⟩
theorem zZ (s:St) (h:Hp) (dst:Option Tmp) (v:AV):FC s dst (match dst with|none=>⟨s.tmps,s.defs,h⟩|some d=>⟨s.tmps.set d ⟨h.clock,v⟩,s.defs,h⟩):=by
 cases dst with
 | none=>exact ⟨rfl,0,v,rfl⟩
 | some d=>exact ⟨rfl,h.clock,v,rfl⟩
def Op2 (P:Program) (ops:Array Oper) (i:Nat) (rest:List Nat) (b:Base) (k:List Item) (cs:List Frame) (dst:Option Tmp) (T U:Array Value) (D:List Deferred) (W:World) (σ:Sg) (s:St):Ex->St->Prop:=
 fun x s'=>(x=.normal/\Post σ s W (ah3 P ops i rest b k cs dst T U D W) x s'/\FC s dst s') ∨
  ∃ a,x=.raise a/\s'.tmps=s.tmps/\s'.defs=s.defs/\∃ τ X V k1,HRel τ s'.hp X/\Good σ s.hp W τ s'.hp X/\VRel Ot a V/\Steps P (lone (b.fr T D (.inRegion ops (i :: rest) :: k)) cs W) (lone (b.pan T D k1 V) cs X)
section opers2
variable {C:Ctx} {r:Rec}
theorem Mg {s:St} {o:Oper} {q:R} (e:jS C s o=some q) {σ:Sg} {T U:Array Value} {D:List Deferred} {W:World} (g:GRel C σ) (sr:SRel σ s U D W) (d:execOp (ev T) o=execOp (ev U) o) {ops:Array Oper} {i:Nat} {rest:List Nat} (f:ops[i]?=some o)
  (j:Region.wanted o (yielded ops T)=true) (b:Base) (k:List Item) (cs:List Frame):gI (Op2 C.P ops i rest b k cs o.dst T U D W σ s) q:=by
 unfold jS at e;split at e
 .cases e
 .rename_i nd v h a;rw [pF] at e;cases e;intro hn;obtain ⟨τ,V,X,u,h1,h2,h3,l,m⟩:=zU g sr.t sr.h a hn;have hd:∀ c,o.op≠.defer c:=by
   intro c n;rw [n] at a;simp [dW] at a
  obtain ⟨p,p2⟩:=kD (D:=D) sr l m h3 o.dst;exact ⟨_,rfl,.inl ⟨rfl,⟨τ,_,D,X,p,p2,rfl,rfl,V,rfl,.one (vk f j hd (d ▸ h1) h2)⟩,zZ s h o.dst v⟩⟩
theorem Rs (co:CtxOk C) (ro:RecOk C r) {s:St} {o:Oper} {f:Operand} {args:Array Operand} {ts:Array TypeId} (m:o.op=.call ⟨.value f,args,ts⟩) {q:R} (e:Ha C r s o.dst f args.toList=some q) {σ:Sg} {T U:Array Value} {D:List Deferred} {W:World}
  (g:GRel C σ) (sr:SRel σ s U D W) (he:execOp (ev T) o=execOp (ev U) o) {ops:Array Oper} {i:Nat} {rest:List Nat} (E:ops[i]?=some o) (O:Region.wanted o (yielded ops T)=true) (b:Base) (k:List Item) (cs:List Frame):
  gI (Op2 C.P ops i rest b k cs o.dst T U D W σ s) q:=by
 unfold Ha at e;split at e
 .cases e
 .rename_i ce d;split at e
  .rename_i nd v hx;rw [pF] at e;cases e;intro hn;have hd:∀ c,o.op≠.defer c:=by intro c hc;rw [hc] at m;cases m
   have j:=L8 (s:=s) g sr.t args;have n:=iU (s:=s) g sr.t f;unfold callee at d;split at d
   .rename_i gf first cap w
    cases d;rw [w] at n;obtain ⟨F,K,I,x,y⟩:=n;have hA:VRels σ (first++jB C s args.toList++cap) (F++args.map (ev U)++K).toList:=by simp only [kP];exact VRels.append (VRels.append x j) y
    obtain ⟨V,h1,h2⟩:=co.ext _ _ _ _ hx hn σ _ W hA;have p:(execOp (ev T) o).run C.P W=.ok (.value V) W:=by rw [he];simp only [execOp,m,resolve,I,Deferred.ofValue,bO,dn,bR,invoke];exact h2
    obtain ⟨J,p2⟩:=kD (h:=s.hp) (X:=W) (D:=D) sr sr.h (Good.refl σ s.hp W fun i B N h=>(sr.h.dom i B N h).1) h1 o.dst;exact ⟨_,rfl,.inl ⟨rfl,⟨σ,_,D,W,J,p2,rfl,rfl,V,rfl,.one (vk E O hd p (.inl rfl))⟩,zZ s s.hp o.dst v⟩⟩
   .cases d;cases hx
   .cases d
  .rename_i hx;split at e
   .cases e
   .rename_i cr L;split at e
    case h_2=>cases e
    rename_i aa;cases e;intro hn;have hd:∀ c,o.op≠.defer c:=by intro c hc;rw [hc] at m;cases m
    have j:=L8 (s:=s) g sr.t args;have n:=iU (s:=s) g sr.t f;unfold callee at d;split at d
    .rename_i gf first cap w
     cases d;rw [w] at n;obtain ⟨F,K,I,x,y⟩:=n;have hA:VRels σ (first++jB C s args.toList++cap) (F++args.map (ev U)++K).toList:=by simp only [kP];exact VRels.append (VRels.append x j) y
     obtain ⟨z,fn,ab,A⟩:=H7 co ro L;have p:(execOp (ev T) o).run C.P W=.ok (.enter gf (F++args.map (ev U)++K)) W:=by rw [he];simp only [execOp,m,resolve,I,Deferred.ofValue,bO,dn,bR,invoke];exact rq co.prog ab A _ W
     obtain ⟨e,h1,τ,V,X,fr,h2,h3,Q,Y,H⟩:=z σ _ W g sr.h hA hn (b.fr T D (.inRegion ops (i :: rest) :: k) :: cs);refine ⟨_,zW h1 o.dst s,?_⟩
     cases u:e.v.isPanic with
     | false=>
      rw [uh u,pF];obtain ⟨J,p2⟩:=kD (D:=D) sr h3 Q h2 o.dst;refine .inl ⟨rfl,⟨τ,_,D,X,J,p2,rfl,rfl,V,rfl,?_⟩,zZ s e.hp o.dst e.v⟩;rw [<- lY E];exact .head (Ca E O hd p) (Y.trans (.one (H5 (H.ret u))))
     | true=>
      obtain ⟨a,ha⟩:=H6 u;rw [Cb ha];have M:=Cc aa e (Ox h1) a ha;rw [ha] at h2;refine .inr ⟨a,rfl,rfl,rfl,τ,X,V,.inRegion ops (i :: rest) :: k,h3,Q,Ce h2 M,?_⟩;rw [<- Base.raise_fr];unfold Outs at H;rw [u] at H;exact .head (Ca E O hd p) (Y.trans (.one (Kh H)))
    .rename_i l w;cases d;rw [w] at n;obtain ⟨B,N,ac,I⟩:=n;have hy:Gr C l (jB C s args.toList) s.hp cr:=ro.yield _ _ _ _ L;obtain ⟨e,h1,u,τ,V,X,ff,TT,xx,yy,h2,h3,Q,Y,H⟩:=hy σ _ W B N g sr.h ac j hn (b.fr T D (.inRegion ops (i :: rest) :: k)) cs;have p:(execOp (ev T) o).run C.P W=.ok (.round B ff TT xx yy) W:=by
      rw [he];simp only [execOp,m,resolve,I,Deferred.ofValue,bO,dn,bR,invoke];simpa using Y
     refine ⟨_,zW h1 o.dst s,?_⟩;rw [uh u,pF];obtain ⟨J,p2⟩:=kD (D:=D) sr h3 Q h2 o.dst;refine .inl ⟨rfl,⟨τ,_,D,X,J,p2,rfl,rfl,V,rfl,?_⟩,zZ s e.hp o.dst e.v⟩;rw [<- lY E];exact .head (Ow E O hd p) H
    .cases d
theorem OL {s:St} {o:Oper} {x:Operand} (a:o.op=.panic x) {q:R} (e:BG s (bv C s x)=some q) {σ:Sg} {T U:Array Value} {D:List Deferred} {W:World}
  (g:GRel C σ) (sr:SRel σ s U D W) (l:execOp (ev T) o=execOp (ev U) o) {ops:Array Oper} {i:Nat} {rest:List Nat} (m:ops[i]?=some o) (n:Region.wanted o (yielded ops T)=true) (b:Base) (k:List Item) (cs:List Frame):
  gI (Op2 C.P ops i rest b k cs o.dst T U D W σ s) q:=by
 have j:=iU (s:=s) g sr.t x;unfold BG at e;split at e
 .rename_i t v p;split at e
  .rename_i u;cases e;rw [p] at j;obtain ⟨y,w,z⟩:=j;have d:(execOp (ev T) o).run C.P W=.halt (.panic (.iface t y)) W:=by
    rw [l];simp only [execOp,a,w,Instr.panic,goPanic];rfl
   have f:step C.P (lone (b.fr T D (.inRegion ops (i :: rest) :: k)) cs W)=.next (lone (b.pan T D (.inRegion ops (i :: rest) :: k) (.iface t y)) cs W):=by
    rw [<- Base.raise_fr];refine bI ?_;have hd:∀ c,o.op≠.defer c:=by intro c A;rw [A] at a;cases a
    rw [pE m n hd];simp [stepG.apply,d]
   intro hn;exact ⟨_,rfl,.inr ⟨_,rfl,rfl,rfl,σ,W,.iface t y,_,sr.h,Good.refl σ s.hp W fun i B N h=>(sr.h.dom i B N h).1,Ce (σ:=σ) ⟨y,rfl,z⟩ (by simpa [AV.under] using u),.one f⟩⟩
  .cases e
 .cases e
theorem VV (j:CtxOk C) (l:RecOk C r) {s:St} {o:Oper} {q:R} (e:BH C r s o=some q) {σ:Sg} {T U:Array Value} {D:List Deferred} {W:World}
  (g:GRel C σ) (sr:SRel σ s U D W) (c:execOp (ev T) o=execOp (ev U) o) {ops:Array Oper} {i:Nat} {rest:List Nat} (d:ops[i]?=some o) (h:Region.wanted o (yielded ops T)=true) (b:Base) (k:List Item) (cs:List Frame):
  gI (Op2 C.P ops i rest b k cs o.dst T U D W σ s) q:=by
 unfold BH at e;split at e
 .rename_i f args m a;exact Rs j l a e g sr c d h b k cs
 .rename_i x a;exact OL a e g sr c d h b k cs
 .exact Mg e g sr c d h b k cs
end opers2
theorem Be:∀ {l:List Operand} {t:Tmp},.tmp t∈l->t∈qK l
 | [],t,h=>by cases h
 | x :: l,t,h=>by
  rcases aN.1 h with rfl|a
  .simp [qK]
  .have:=Be a;cases x <;> simp [qK,this]
theorem Yr {T U:Array Value} {l:List Tmp} (h:∀ t∈l,T[t]?=U[t]?) {x:Operand} (a:∀ t,x=.tmp t->t∈l):ev T x=ev U x:=by
 cases x with
 | tmp t=>simp only [ev,mO];rw [h t (a t rfl)]
 | const v=>rfl
 | global g=>rfl
 | func f=>rfl
theorem Il {T U:Array Value} {o:Oper} (a:∀ cs b,o.op≠.select cs b) (h:∀ t∈qK o.op.operands.toList,T[t]?=U[t]?):execOp (ev T) o=execOp (ev U) o:=
 execOp_congr o a fun x c=>Yr h fun t d=>Be (by subst d;simpa using c)
theorem Mh {ops:Array Oper} {T U:Array Value} {o:Oper} (h:∀ t∈wm ops o,T[t]?=U[t]?):Region.wanted o (yielded ops T)=Region.wanted o (yielded ops U):=by
 unfold Region.wanted
 cases a:o.guard with
 | none=>rfl
 | some c=>
  obtain ⟨j,want⟩:=c;simp only
  congr 1
  unfold yielded
  cases d:ops[j]? with
  | none=>rfl
  | some x=>
   cases hd:x.dst with
   | none=>simp [hd]
   | some t=>
    have:=h t (by simp [wm,a,d,hd]);simp only [uO,hd,this]
def Uni (f:Hp->fV):Prop:=∀ h q,f h=some q->q.h=h/\∀ a,f a=some ⟨q.nd,q.v,a⟩
theorem yc (nd:Nd) (v:AV):Uni fun h=>some ⟨nd,v,h⟩:=fun h q e=>by cases e;exact ⟨rfl,fun _=>rfl⟩
theorem yf:Uni fun _=>none:=fun h q e=>by cases e
theorem vw (x:Option (Nd×AV)):Uni fun h=>qh h x:=fun h q e=>by
 cases x with
 | none=>cases e
 | some x=>cases e;exact ⟨rfl,fun _=>rfl⟩
theorem nJ (x:Option AV):Uni fun h=>kw h x:=fun h q e=>by
 cases x with
 | none=>cases e
 | some x=>cases e;exact ⟨rfl,fun _=>rfl⟩
theorem Yt (c a b:AV):Uni fun h=>Em h c a b:=by
 unfold Em
 cases c with
 | bool s p=>cases s <;> exact yc _ _
 | _=>exact yf
theorem adP (v:AV):Uni fun h=>o8 h v:=by
 unfold o8
 cases v with
 | ptr i o=>exact yc _ _
 | func f a b=>exact yc _ _
 | _=>exact yf
theorem OM (v:AV) (i:Nat):Uni fun h=>sj h v i:=by
 unfold sj
 cases v with
 | tuple l=>exact nJ _
 | _=>exact yf
theorem OO (f:AV->AV->Option AV) (l:List AV):Uni fun h=>vY h f l:=by
 cases l with
 | nil=>exact yf
 | cons v l=>exact nJ _
theorem wL {C:Ctx} {s s':St}:∀ {l:List Operand},(∀ x∈l,bv C s' x=bv C s x)->jB C s' l=jB C s l
 | [],_=>rfl
 | x :: l,h=>by simp [jB,h x (by simp),wL (l:=l) fun y a=>h y (by simp [a])]
theorem yg {C:Ctx} {s s':St}:∀ {l:List (Nat×Operand)},(∀ x∈l.map (·.2),bv C s' x=bv C s x)->kY C s' l=kY C s l
 | [],_=>rfl
 | (i,x) :: l,h=>by simp [kY,h x (by simp),yg (l:=l) fun y a=>h y (gy.2 (by obtain ⟨z,h1,h2⟩:=gy.1 a;exact ⟨z,by simp [h1],h2⟩))]
theorem Im {P:Program} {h h':Hp} {t:TypeId} {a:AV} (e:∀ j off,a=.ptr j off->h'.get j=h.get j) (c:∀ j off,a=.vptr j off->h'.get j=h.get j:=by intro _ _ h;cases h):qQ P h' t a=qQ P h t a:=by
 unfold qQ
 cases a with
 | ptr i o=>simp only [e i o rfl]
 | vptr i o=>simp only [c i o rfl]
 | _=>rfl
theorem Cj {P:Program} {h h':Hp} {t:TypeId} {x k:AV} {ok:Bool} (e:∀ j,x=.map j->h'.get j=h.get j):mG P h' t x k ok=mG P h t x k ok:=by
 unfold mG
 cases x with
 | map j=>simp only [e j rfl]
 | _=>rfl
theorem Io {P:Program} {h h':Hp} {t:TypeId} {a:AV} (e:∀ j off,a=.ptr j off->h'.get j=h.get j) (c:∀ j off,a=.vptr j off->h'.get j=h.get j) (e3:∀ j k,a=.tuple [.map j,k]->h'.get j=h.get j):qm P h' t a=qm P h t a:=by
 unfold qm;split
 .rename_i m k;rw [Cj (fun j d=>e3 j k (by rw [d]))]
 .exact Im e c
theorem FD {C:Ctx} {s s':St} {o:Oper} {q:S1} (n:sM o=0) (e:dW C s o.op=some q) (g:∀ x∈o.op.operands.toList,bv C s' x=bv C s x)
  (w:∀ t a j,o.op=.load t a->s'.hp.get j=s.hp.get j) (p:∀ t a b j,o.op=.lookup t a b false->s'.hp.get j=s.hp.get j):q.h=s.hp/\dW C s' o.op=some ⟨q.nd,q.v,s'.hp⟩:=by
 obtain ⟨dst,op,H,pos,after,guard⟩:=o;have d:∀ f:Hp->fV,Uni f->dW C s op=f s.hp->dW C s' op=f s'.hp->q.h=s.hp/\dW C s' op=some ⟨q.nd,q.v,s'.hp⟩:=by intro f A h1 h2;simp only at e;rw [h1] at e;obtain ⟨h3,D⟩:=A _ _ e;exact ⟨h3,by rw [h2];exact D _⟩
 simp only at g w p;cases op <;> simp only [sM] at n <;> try (cases n)
 case move x=>exact d (fun h=>some ⟨.tt,bv C s x,h⟩) (yc _ _) rfl (by simp [dW,g x (by simp [Op.operands])])
 case pick c a b=>exact d (fun h=>Em h (bv C s c) (bv C s a) (bv C s b)) (Yt _ _ _) rfl (by simp [dW,g c (by simp [Op.operands]),g a (by simp [Op.operands]),g b (by simp [Op.operands])])
 case alloc t=>cases guard <;> simp at n
 case build t E=>exact d (fun h=>kw h (Lu C.P t (kY C s E.toList))) (nJ _) rfl (by simp only [dW];rw [yg fun x m=>g x (by simpa [Op.operands] using m)])
 case load t x=>
  refine d (fun h=>qh h (qQ C.P s.hp t (bv C s x))) (vw _) rfl ?_;simp only [dW,g x (by simp [Op.operands])];rw [Im (fun j _ _=>w t x j rfl) (fun j _ _=>w t x j rfl)]
 case lookup t x i ok=>
  cases ok with
  | true=>cases n
  | false=>
   refine d (fun h=>kw h (mG C.P s.hp t (bv C s x) (bv C s i) false)) (nJ _) rfl ?_;simp only [dW,g x (by simp [Op.operands]),g i (by simp [Op.operands])];rw [Cj (fun j _=>p t x i j rfl)]
 case nilCheck x=>exact d (fun h=>o8 h (bv C s x)) (adP _) rfl (by simp [dW,g x (by simp [Op.operands])])
 case binOp op t x y u=>exact d (fun h=>qh h (adw C.P op t (bv C s x) (bv C s y))) (vw _) rfl (by simp [dW,g x (by simp [Op.operands]),g y (by simp [Op.operands])])
 case unOp op t x=>exact d (fun h=>kw h (unV op (bv C s x))) (nJ _) rfl (by simp [dW,g x (by simp [Op.operands])])
 case convert a b x=>exact d (fun h=>kw h (TD C.P a b (bv C s x))) (nJ _) rfl (by simp [dW,g x (by simp [Op.operands])])
 case makeFunc f first cap=>
  cases f with
  | func f=>
   refine d (fun h=>some ⟨.tt,.func f (jB C s first.toList) (jB C s cap.toList),h⟩) (yc _ _) rfl ?_;simp only [dW,AL];rw [wL (l:=first.toList) fun x m=>g x (by simp only [Op.operands,kP,lW];exact .inl m),wL (l:=cap.toList) fun x m=>g x (by simp only [Op.operands,kP,lW];exact .inr m)]
  | _=>exact d (fun _=>none) yf rfl rfl
 case slice t x lo hi mx=>
  refine d (fun h=>qh h (Lt C.P t (bv C s x) (qi C s lo) (qi C s hi) (qi C s mx))) (vw _) rfl ?_;have F:=g x (by simp [Op.operands]);have h1:qi C s' lo=qi C s lo:=by cases lo with|none=>rfl|some y=>simp [qi,g y (by simp [Op.operands])]
  have h2:qi C s' hi=qi C s hi:=by cases hi with|none=>rfl|some y=>simp [qi,g y (by simp [Op.operands])]
  have h3:qi C s' mx=qi C s mx:=by cases mx with|none=>rfl|some y=>simp [qi,g y (by simp [Op.operands])]
  simp only [dW,F,h1,h2,h3]
 case fieldAddr t x f=>exact d (fun h=>kw h (vU C.P t (bv C s x) f)) (nJ _) rfl (by simp [dW,g x (by simp [Op.operands])])
 case field t x f=>exact d (fun h=>kw h (Lr C.P t (bv C s x) f)) (nJ _) rfl (by simp [dW,g x (by simp [Op.operands])])
 case indexAddr t x i=>exact d (fun h=>qh h (vR C.P t (bv C s x) (bv C s i))) (vw _) rfl (by simp [dW,g x (by simp [Op.operands]),g i (by simp [Op.operands])])
 case index t x i=>exact d (fun h=>qh h (Ls C.P t (bv C s x) (bv C s i))) (vw _) rfl (by simp [dW,g x (by simp [Op.operands]),g i (by simp [Op.operands])])
 case extract t i=>exact d (fun h=>sj h (bv C s t) i) (OM _ _) rfl (by simp [dW,g t (by simp [Op.operands])])
 case call c=>
  obtain ⟨callee,args,I⟩:=c;have ha:jB C s' args.toList=jB C s args.toList:=wL fun x m=>g x (by simp only [Op.operands,Call.operands];cases callee <;> simp_all)
  cases callee with
  | builtin bt=>
   cases bt <;> first|(cases n)|skip
   case builtin.len.refl=>
    have z:=e;simp only [dW,AJ,o9] at z;split at z
    .rename_i x t h1 h2;refine d (fun h=>qh h (adz C.P t (bv C s x))) (vw _) (by simp [dW,AJ,o9,h1,h2]) ?_;have:bv C s' x=bv C s x:=by
      rw [h1] at ha;simp only [jB] at ha;injection ha
     simp [dW,AJ,o9,h1,h2,this]
    .cases z
   case builtin.min.refl=>exact d (fun h=>vY h min2 (jB C s args.toList)) (OO _ _) rfl (by simp [dW,AJ,o9,ha])
   case builtin.max.refl=>exact d (fun h=>vY h max2 (jB C s args.toList)) (OO _ _) rfl (by simp [dW,AJ,o9,ha])
  | _=>cases n
def Means (a b:AV):Prop:=∀ σ V,VRel σ a V->VRel σ b V
theorem Means.refl (a:AV):Means a a:=fun _ _ h=>h
theorem Means.trans {a b c:AV} (h:Means a b) (k:Means b c):Means a c:=fun σ V x=>k σ V (h σ V x)
def GuardIs (ops:Array Oper) (s:St) (o:Oper) (w:Bool):Prop:=
 match o.guard with
 | none=>w=true
 | some (j,want)=>∃ x g a,ops[j]?=some x/\x.dst=some g/\s.tmps[g]?=some a/\∀ σ V,VRel σ a.v V->(∃ b,V=.bool b/\(b==want)=w)\/(w=false/\∀ b,V≠.bool b)
structure LateGo (C:Ctx) (s:St) (pend:nO) (p:It) (sp:St) (q:S1):Prop where
 run:dW C sp p.o.op=some q
 need:q.need
 len:sp.tmps.length=s.tmps.length
 args:∀ t∈qK p.o.op.operands.toList,∀ a,sp.tmps[t]?=some a->∃ a',s.tmps[t]?=some a'/\Means a'.v a.v
 res:∀ d a',p.d=some d->s.tmps[d]?=some a'->Means q.v a'.v
 load:∀ t a,p.o.op=.load t a->∃ ad nd,bv C sp a=ad/\(p.i,t,ad,q.v)∈pend/\qm C.P s.hp t ad=some (nd,q.v)/\nd.val/\∀ h,qm C.P h t ad=qQ C.P h t ad
 look:∀ t a b,p.o.op=.lookup t a b false->∃ nd,(p.i,t,.tuple [bv C sp a,bv C sp b],q.v)∈pend/\qm C.P s.hp t (.tuple [bv C sp a,bv C sp b])=some (nd,q.v)/\nd.val
def Late (C:Ctx) (ops:Array Oper) (s:St) (pend:nO) (p:It):Prop:=
 (GuardIs ops s p.o true/\∃ sp q,LateGo C s pend p sp q)\/(GuardIs ops s p.o false/\∀ d a',p.d=some d->s.tmps[d]?=some a'->∀ σ,VRel σ a'.v undef)
structure ItOk (ops:Array Oper) (p:It):Prop where
 op:ops[p.i]?=some p.o
 k:p.k=sM p.o
 d:p.d=p.o.dst
 look:p.look=qK p.o.op.operands.toList++wm ops p.o
 bm:p.bm=(Region.before ops).getD p.i 0
theorem ru {ops:Array Oper} {s:St} {o:Oper} {w:Bool} (h:GuardIs ops s o w) {σ:Sg} {T U:Array Value} (d:TRel σ s.tmps U) (ha:∀ t∈wm ops o,T[t]?=U[t]?):Region.wanted o (yielded ops T)=w:=by
 rw [Mh ha];unfold GuardIs at h;unfold Region.wanted
 cases c:o.guard with
 | none=>rw [c] at h;exact h.symm
 | some f=>
  obtain ⟨j,want⟩:=f;rw [c] at h;obtain ⟨x,g,a,h1,h2,h3,i⟩:=h;obtain ⟨V,v1,l⟩:=d.nth (t:=g) (a:=a) (by rw [iX];exact h3);simp only [yielded,h1,uO,h2,v1];rcases i σ V l with ⟨b,rfl,hb⟩|⟨rfl,hb⟩
  .simpa using hb
  .cases V <;> first|rfl|(rename_i b;exact absurd rfl (hb b))
theorem Gv {σ:Sg}:∀ {l:List AT} {L:List Value},l.length=L.length->(∀ (j:Nat) (c:AT) (V:Value),l[j]?=some c->L[j]?=some V->VRel σ c.v V)->VRels σ (l.map (·.v)) L
 | [],[],_,_=>rfl
 | [],_ :: _,h,_=>by simp at h
 | _ :: _,[],h,_=>by simp at h
 | c :: l,V :: L,h,k=>⟨V,L,rfl,k 0 c V rfl rfl,Gv (by simpa using h) fun j c V h1 h2=>k (j+1) c V (by simpa using h1) (by simpa using h2)⟩
def dG (look:List Tmp) (l:List AT):List AT:=l.mapIdx fun t a=>if t∈look then a else ⟨a.st,.any false⟩
theorem Yu {look:List Tmp} {l:List AT} {t:Nat} {c:AT} (h:(dG look l)[t]?=some c):(t∈look/\l[t]?=some c)\/(t ∉ look/\c.v=.any false):=by
 unfold dG at h;rw [List.getElem?_mapIdx] at h
 cases f:l[t]? with
 | none=>rw [f] at h;cases h
 | some a=>
  rw [f] at h;simp only [zi,bi] at h;by_cases d:t∈look
  .rw [aC d] at h;exact .inl ⟨d,by rw [h]⟩
  .rw [aB d] at h;subst h;exact .inr ⟨d,rfl⟩
theorem Rt {C:Ctx} {look:List Tmp} {s:St} {h:Hp} {x:Operand} (c:∀ t,x=.tmp t->t∈look):bv C ⟨dG look s.tmps,[],h⟩ x=bv C s x:=by
 cases x with
 | tmp t=>
  have d:=c t rfl;simp only [bv,iX];have:(dG look s.tmps)[t]?=s.tmps[t]?:=by
   unfold dG;rw [List.getElem?_mapIdx]
   cases s.tmps[t]? with
   | none=>rfl
   | some a=>simp [d]
  rw [this]
 | const v=>rfl
 | global g=>rfl
 | func f=>rfl
theorem Ip {σ τ:Sg} {h:Hp} {W X:World} (g:Good σ h W τ h X) (r:HRel τ h X):τ=σ:=by
 funext i
 cases e:τ i with
 | some x=>exact (g.only i x e (r.dom i _ _ e).1).symm
 | none=>
  cases f:σ i with
  | none=>rfl
  | some y=>rw [g.sub _ _ f] at e;cases e
theorem Yv {C:Ctx} {ops:Array Oper} {s:St} {pend:nO} {p:It} (E:ItOk ops p) (hk:p.k=0) (lt:Late C ops s pend p) {σ:Sg} {T U:Array Value} {D:List Deferred} {W:World} (g:GRel C σ) (sr:SRel σ s U D W)
  (ha:∀ t∈p.look,T[t]?=U[t]?) (b:Base) (k:List Item) (cs:List Frame) (rest:List Nat):
  ∃ V X,Steps C.P (lone (b.fr T D (.inRegion ops (p.i :: rest) :: k)) cs W) (lone (b.fr (jU T p.d V) D (.inRegion ops rest :: k)) cs X)/\SRel σ s (jU U p.d V) D X/\Good σ s.hp W σ s.hp X:=by
 have u:=E.look;have M:∀ t∈qK p.o.op.operands.toList,T[t]?=U[t]?:=fun t w=>ha t (by rw [u];exact jK _ w);have I:∀ t∈wm ops p.o,T[t]?=U[t]?:=fun t w=>ha t (by rw [u];exact jH _ w);have m:∀ (V:Value) (τ:Sg),TRel τ s.tmps U->(∀ d a',p.d=some d->s.tmps[d]?=some a'->VRel τ a'.v V)->TRel τ s.tmps (jU U p.d V):=by
  intro V τ w N
  cases hd:p.d with
  | none=>exact w
  | some d=>
   refine Gv ?_ fun j c V' h1 h2=>?_
   .have:=w.length;simp [jU] at this ⊢;omega
   .simp only [jU,Dm] at h2;by_cases K:j=d
    .subst K;have O:j<U.toList.length:=by
      rcases aX j U.toList.length with Q|Q
      .exact Q
      .rw [dB (by simpa using Q)] at h2;cases h2
     rw [gZ O] at h2;cases h2;exact N j c hd h1
    .rw [iM (gQ K)] at h2;obtain ⟨Y,v1,v2⟩:=w.nth (t:=j) (a:=c) (by rw [iX];exact h1);have:U.toList[j]?=some Y:=by simpa using v1
     rw [h2] at this;cases this;exact v2
 rcases lt with ⟨hg,sp,q,y⟩|⟨hg,J⟩
 .have hw:=ru hg sr.t (T:=T) I
  let st:St:=⟨dG (qK p.o.op.operands.toList) sp.tmps,[],s.hp⟩
  have n:∀ x∈p.o.op.operands.toList,bv C st x=bv C sp x:=fun x hx=>Rt fun t w=>Be (by subst w;exact hx);have f:∃ nd,dW C st p.o.op=some ⟨nd,q.v,s.hp⟩/\nd.val:=by
   by_cases F:∃ t a,p.o.op=.load t a
   .obtain ⟨t,a,F⟩:=F;obtain ⟨ad,nd,h1,_,h2,h3,H⟩:=y.load t a F;rw [H] at h2;refine ⟨nd,?_,h3⟩;have z:dW C st p.o.op=qh s.hp (qQ C.P s.hp t (bv C st a)):=by rw [F];rfl
    rw [z,n a (by rw [F];simp [Op.operands]),h1,h2];rfl
   .by_cases l:∃ t a b,p.o.op=.lookup t a b false
    .obtain ⟨t,a,b,l⟩:=l;obtain ⟨nd,_,h2,h3⟩:=y.look t a b l;refine ⟨.tt,?_,trivial⟩;have z:dW C st p.o.op=kw s.hp (mG C.P s.hp t (bv C st a) (bv C st b) false):=by rw [l];rfl
     rw [z,n a (by rw [l];simp [Op.operands]),n b (by rw [l];simp [Op.operands])];simp only [qm] at h2;split at h2
     .cases h2
     .rename_i v N;cases h2;rw [N];rfl
    .exact ⟨q.nd,(FD (s':=st) (E.k ▸ hk) y.run n (fun t a j h1=>absurd ⟨t,a,h1⟩ F) (fun t a b j h1=>absurd ⟨t,a,b,h1⟩ l)).2,y.need⟩
  obtain ⟨nd,f,A⟩:=f;have aa:TRel σ st.tmps U:=by
   refine Gv ?_ fun j c V h1 h2=>?_
   .have:=sr.t.length;have:=y.len;simp [st,dG] at *;omega
   .rcases Yu h1 with ⟨K,h3⟩|⟨_,h3⟩
    .obtain ⟨a',H,L⟩:=y.args j K c h3;obtain ⟨Y,v1,v2⟩:=sr.t.nth (t:=j) (a:=a') (by rw [iX];exact H);have:U.toList[j]?=some Y:=by simpa using v1
     rw [h2] at this;cases this;exact L _ _ v2
    .rw [h3];trivial
  obtain ⟨τ,V,X,rr,h1,h2,h3,H,L⟩:=zU g aa sr.h f A;have ab:=Ip L H;subst ab;have ac:∀ cs b,p.o.op≠.select cs b:=fun cs b h=>by rw [h] at f;cases f
  have A:∀ c,p.o.op≠.defer c:=fun c h=>by rw [h] at f;cases f
  refine ⟨V,X,.one ?_,⟨m V _ sr.t fun d a' hd hs=>y.res d a' hd hs _ _ h3,sr.d,H⟩,L⟩;rw [E.d];exact vk E.op hw A (Il ac M ▸ h1) h2
 .have hw:=ru hg sr.t (T:=T) I;refine ⟨undef,W,.one ?_,⟨m undef _ sr.t fun d a' hd hs=>J d a' hd hs _,sr.d,sr.h⟩,Good.dom sr.h⟩;rw [E.d];exact Ez E.op hw
structure PlanOk (ops:Array Oper) (all:List It):Prop where
 it:∀ x∈all,ItOk ops x
 pair:all.Pairwise fun p q=>He p q=true
 self:∀ p∈all,p.k≠2->∀ t,p.d=some t->t ∉ p.look
 nodup:(all.map (·.i)).Nodup
 full:∀ i,i<ops.size->∃ x∈all,x.i=i
 back:∀ (i:Nat) (o:Oper),ops[i]?=some o->∀ e∈o.after,Region.binds .any e=true->e.on<i
theorem ui {k done:Nat}:∀ {l:List It} {x:It} {m:List It},Er k done l=some (x,m)->l.Perm (x :: m)
 | [],x,m,h=>by cases h
 | y :: l,x,m,h=>by
  simp only [Er] at h;split at h
  .cases h;exact List.Perm.refl _
  .split at h
   .cases h
   .rename_i z c a;cases h;exact ((ui a).cons y).trans (List.Perm.swap _ _ _)
theorem FE:∀ {n done:Nat} {l r:List It},Hd n done l=some r->l.Perm r
 | 0,done,l,r,h=>by
  simp only [Hd] at h;split at h
  .cases h;exact List.Perm.refl _
  .cases h
 | n+1,done,l,r,h=>by
  simp only [Hd] at h;split at h
  .cases h
  .rename_i x m a;split at h
   .cases h
   .rename_i f d;cases h;have:l.Perm (x :: m):=by
     split at a
     .rename_i y c;cases a;exact ui c
     .split at a
      .rename_i y c;cases a;exact ui c
      .exact ui a
    exact this.trans ((FE d).cons x)
theorem FH {ops:Array Oper} {b:Array Nat}:∀ {i:Nat} {l:List Oper} {x:It},x∈wo ops b i l->∃ j,l[j]?=some x.o/\x=⟨i+j,x.o,sM x.o,x.o.dst,qK x.o.op.operands.toList++wm ops x.o,b.getD (i+j) 0⟩
 | i,[],x,h=>by cases h
 | i,o :: l,x,h=>by
  simp only [wo,aN] at h;rcases h with rfl|h
  .exact ⟨0,rfl,rfl⟩
  .obtain ⟨j,h1,h2⟩:=FH h;exact ⟨j+1,by simpa using h1,by rw [show i+(j+1)=i+1+j by omega];exact h2⟩
theorem EC {ops:Array Oper} {b:Array Nat}:∀ {i:Nat} {l:List Oper},(wo ops b i l).map (·.i)=List.range' i l.length
 | i,[]=>rfl
 | i,o :: l=>by simp [wo,EC (i:=i+1) (l:=l),DJ]
theorem FI {i:Nat}:∀ {l:List Edge},LC i l=true->∀ e∈l,Region.binds .any e=true->e.on<i
 | [],_,e,c,_=>by cases c
 | a :: l,h,e,c,hb=>by
  simp only [LC,aF,uR] at h;rcases aN.1 c with rfl|c
  .rcases h.1 with h1|h1
   .rw [hb] at h1;cases h1
   .exact qL h1
  .exact FI h.2 e c hb
theorem Ck:∀ {i:Nat} {l:List Oper},BJ i l=true->∀ (j:Nat) (o:Oper),l[j]?=some o->∀ e∈o.after,Region.binds .any e=true->e.on<i+j
 | i,[],_,j,o,c=>by simp at c
 | i,a :: l,h,0,o,c=>by
  simp only [BJ,aF] at h;simp only [yT,bi] at c;subst c;intro e d hb;exact FI h.1 e (by simpa using d) hb
 | i,a :: l,h,j+1,o,c=>by
  simp only [BJ,aF] at h;intro e d hb;have:=Ck h.2 j o (by simpa using c) e d hb;omega
theorem Cm:∀ {l:List It},zN l=true->l.Pairwise fun p q=>He p q=true
 | [],_=>.nil
 | p :: l,h=>by
  simp only [zN,aF,zg] at h;exact .cons h.1.2 (Cm h.2)
theorem Cn:∀ {l:List It},zN l=true->∀ p∈l,p.k≠2->∀ t,p.d=some t->t ∉ p.look
 | [],_,p,hp=>by cases hp
 | a :: l,h,p,hp=>by
  simp only [zN,aF,uR,gN] at h;rcases aN.1 hp with rfl|hp
  .intro c t f;rcases h.1.1 with h1|h1
   .exact absurd (aP h1) c
   .rw [f] at h1;simpa [Q7] using h1
  .exact Cn h.2 p hp
theorem VW {ops:Array Oper} {l:List It} (h:LD ops=some l):PlanOk ops l:=by
 unfold LD at h;split at h
 .cases h
 .rename_i r c;split at h
  .rename_i a;cases h;simp only [aF] at a;have hp:=FE c;refine ⟨fun x d=>?_,Cm a.1,Cn a.1,?_,fun i hi=>?_,fun i o f e g hb=>?_⟩
   .obtain ⟨j,h1,h2⟩:=FH (hp.mem_iff.2 d);have hi:x.i=j:=by rw [h2];simp
    refine ⟨?_,?_,?_,?_,?_⟩
    .rw [hi];simpa using h1
    .rw [h2]
    .rw [h2]
    .rw [h2]
    .rw [hi];have:x.bm=(Region.before ops).getD (0+j) 0:=by rw [h2]
     simpa using this
   .have h1:=(hp.map (·.i)).nodup_iff.1;refine h1 ?_;rw [EC];exact List.nodup_range'
   .have h1:i∈(wo ops (Region.before ops) 0 ops.toList).map (·.i):=by
     rw [EC,List.mem_range'_1];simp;exact hi
    obtain ⟨x,h2,h3⟩:=gy.1 h1;exact ⟨x,hp.mem_iff.1 h2,h3⟩
   .have:=Ck a.2 i o (by simpa using f) e g hb;omega
  .cases h
theorem uy {ops:Array Oper} {all:List It} (n:PlanOk ops all) {L:Array Bool} (hd:∀ (i:Nat) (o:Oper),ops[i]?=some o->L.getD i false=true->∀ e∈o.after,Region.binds .any e=true->L.getD e.on false=true):
  ∀ (q:Nat) (p:Nat),(∃ o,ops[q]?=some o/\∀ e∈o.after,Region.binds .any e=true->L.getD e.on false=true)->((Region.before ops).getD q 0).testBit p=true->L.getD p false=true:=by
 intro q
 induction q using Nat.strongRecOn with
 | _ q s=>
  intro p ⟨o,j,a⟩ hb;obtain ⟨t,c,e,l,d,h1⟩:=Ik ops hb;rw [j] at c;cases c;have f:=a e l d;rcases h1 with rfl|h1
  .exact f
  .have h:=n.back q o j e l d;obtain ⟨m,g,_⟩:=Ik ops h1;exact s e.on h p ⟨m,g,hd e.on m g f⟩ h1
theorem getD_set {L:Array Bool} {i j:Nat} (hi:i<L.size):(L.setIfInBounds i true).getD j false=if j=i then true else L.getD j false:=by
 simp only [mO,jG];by_cases h:i=j
 .subst h;simp [hi]
 .have:¬ j=i:=fun e=>h e.symm;simp [h,this]
structure Made (P:Program) (σ:Sg) (W:World) (T:Array Value) (a:It) (B:Nat):Prop where
 k:a.k=1
 obj:∃ t z K,a.o.op=.alloc t/\zeroCells P t=some z/\gD z=true/\W.heap[B]?=some (.cells K t (0,0))/\(∀ σ',VRels σ' z K.toList)
 ptr:∀ d,a.d=some d->d<T.size->T[d]?=some (.pointer (some ⟨B,0,none⟩))
 free:∀ i N,σ i≠some (B,N)
structure Inv (C:Ctx) (ops:Array Oper) (prev l:List It) (L:Array Bool) (is:List Nat) (own:Nat->Nat) (pend:nO) (σ:Sg) (s:St) (T U:Array Value) (D:List Deferred) (W:World):Prop where
 sr:SRel σ s U D W
 sch:Sch ops L is
 lsz:L.size=ops.size
 down:∀ (i:Nat) (o:Oper),ops[i]?=some o->L.getD i false=true->∀ e∈o.after,Region.binds .any e=true->L.getD e.on false=true
 late:∀ p∈prev,L.getD p.i false=false->p.k=0/\Late C ops s pend p
 early:∀ a∈l,L.getD a.i false=true->Made C.P σ W T a (own a.i)
 inj:∀ a∈l,∀ a'∈l,L.getD a.i false=true->L.getD a'.i false=true->own a.i=own a'.i->a.i=a'.i
 agree:∀ t,(∀ p∈prev,L.getD p.i false=false->p.d≠some t)->(∀ a∈l,L.getD a.i false=true->a.d≠some t)->T[t]?=U[t]?
 siz:T.size=U.size
def Hid (l:List It) (L:Array Bool) (own:Nat->Nat):Nat->Prop:=fun B=>∃ a∈l,L.getD a.i false=true/\own a.i=B
theorem nZ {ops:Array Oper} {L:Array Bool} (a:L.size=ops.size) {i:Nat} (h:i∈Region.ready .any ops L):i<L.size/\L.getD i false=false/\∃ o,ops[i]?=some o/\∀ e∈o.after,Region.binds .any e=true->L.getD e.on false=true:=by
 obtain ⟨h1,h2⟩:=Ii h;rw [mem_ready] at h;have hi:i<L.size:=by omega
 refine ⟨hi,by simpa [hi] using h2,h.2⟩
theorem Bf {d:Option Tmp} {l:List Tmp} (h:Q7 d l=false) {t:Tmp} (a:d=some t):t ∉ l:=by subst a;simpa [Q7] using h
theorem FJ {a b:Option Tmp} (h:TM a b=false) {t:Tmp} (c:a=some t):b≠some t:=by subst c;intro hb;subst hb;simp [TM] at h
structure PairOk (p q:It):Prop where
 apart:q.bm.testBit p.i=false->(∀ t,p.d=some t->t ∉ q.look/\q.d≠some t)/\(∀ t,q.d=some t->t ∉ p.look)
 fresh:q.k≠2->∀ t,q.d=some t->t ∉ p.look/\p.d≠some t
 dep:p.k≠0->q.k≠1->q.bm.testBit p.i=true
theorem fO {p q:It} (h:He p q=true):PairOk p q:=by
 unfold He at h;simp only [aF,uR,gN] at h;obtain ⟨⟨h1,h2⟩,h3⟩:=h;refine ⟨fun hb=>?_,fun c=>?_,fun hp hq=>?_⟩
 .rw [hb] at h1;simp only [y8,false_or] at h1;exact ⟨fun t a=>⟨Bf h1.1.1 a,FJ h1.1.2 a⟩,fun t a=>Bf h1.2 a⟩
 .rcases h2 with h2|h2
  .exact absurd (aP h2) c
  .exact fun t a=>⟨Bf h2.1 a,FJ h2.2 a⟩
 .rcases h3 with (h3|h3)|h3
  .exact absurd (aP h3) hp
  .exact absurd (aP h3) hq
  .exact h3
theorem sH {l:List It} (h:(l.map (·.i)).Nodup):∀ {x y:It},x∈l->y∈l->x.i=y.i->x=y:=by
 induction l with
 | nil=>intro x y f;cases f
 | cons a l j=>
  intro x y f m g;simp only [dL,mZ] at h;rcases aN.1 f with c|c <;> rcases aN.1 m with d|d
  .rw [c,d]
  .subst c;exact absurd (gy.2 ⟨y,d,g.symm⟩) h.1
  .subst d;exact absurd (gy.2 ⟨x,c,g⟩) h.1
  .exact j h.2 c d g
theorem nK {l m:List It} (h:((l++m).map (·.i)).Nodup) {x y:It} (a:x∈l) (c:y∈m):x.i≠y.i:=by rw [jN,uK] at h;exact h.2.2 _ (gy.2 ⟨x,a,rfl⟩) _ (gy.2 ⟨y,c,rfl⟩)
theorem OP {l:List It} {R:It->It->Prop} (h:l.Pairwise R):∀ {x y:It},x∈l->y∈l->x=y\/R x y\/R y x:=by
 induction h with
 | nil=>intro x y d;cases d
 | cons ha _ f=>
  intro x y d g;rcases aN.1 d with a|a <;> rcases aN.1 g with c|c
  .exact .inl (a.trans c.symm)
  .subst a;exact .inr (.inl (ha _ c))
  .subst c;exact .inr (.inr (ha _ a))
  .exact f a c
theorem pK {l m:List It} {R:It->It->Prop} (h:(l++m).Pairwise R) {x y:It} (a:x∈l) (c:y∈m):R x y:=(yY.1 h).2.2 x a y c
theorem mr {T:Array Value} {d:Option Tmp} {V:Value} {t:Tmp} (h:d≠some t):(jU T d V)[t]?=T[t]?:=by
 cases d with
 | none=>rfl
 | some d=>
  have:d≠t:=fun e=>h (by rw [e]);simp [jU,jG,this]
@[simp] theorem anZ {T:Array Value} {d:Option Tmp} {V:Value}:(jU T d V).size=T.size:=by cases d <;> simp [jU]
theorem Made.keep {P:Program} {σ:Sg} {h k:Hp} {W X:World} {T J:Array Value} {a:It} {B:Nat} {τ:Sg} (m:Made P σ W T a B) (g:Good σ h W τ k X) (Q:∀ d,a.d=some d->J[d]?=T[d]?) (Y:J.size=T.size):Made P τ X J a B:=by
 obtain ⟨t,z,K,h1,h2,h3,O,h5⟩:=m.obj;have E:B<W.heap.size:=(jd.1 O).1;refine ⟨m.k,⟨t,z,K,h1,h2,h3,?_,h5⟩,fun d hd hl=>by rw [Q d hd];exact m.ptr d hd (Y ▸ hl),fun i N e=>?_⟩
 .rw [g.keep B E id fun i N c e=>absurd e (m.free i N)];exact O
 .by_cases hi:i<h.size
  .exact m.free i N (g.only i _ e hi)
  .rcases g.old i B N e (eP.1 hi) E with h0|⟨j,M,c,_,h7,_⟩
   .exact h0
   .exact m.free j M h7
theorem OQ {C:Ctx} {ops:Array Oper} {prev l:List It} {L:Array Bool} {is:List Nat} {own:Nat->Nat} {pend:nO} {σ:Sg} {s:St} {T U:Array Value} {D:List Deferred} {W:World} (f:PlanOk ops (prev++l))
  {p:It} (hp:p∈prev) (iv:Inv C ops prev l L (p.i :: is) own pend σ s T U D W) (g:GRel C σ) (b:Base) (k:List Item) (cs:List Frame):
  ∃ T' U' N,Inv C ops prev l (L.setIfInBounds p.i true) is own pend σ s T' U' D N/\Good σ s.hp W σ s.hp N /\
   Steps C.P (lone (b.fr T D (.inRegion ops (p.i :: is) :: k)) cs W) (lone (b.fr T' D (.inRegion ops is :: k)) cs N):=by
 have E:=iv.sch
 cases E with
 | cons hr hs=>
  obtain ⟨hi,O,o,A,v⟩:=nZ iv.lsz hr;obtain ⟨hk,w⟩:=iv.late p hp O;have F:=f.it p (jK _ hp);rw [F.op] at A;cases A;have H:∀ j,p.bm.testBit j=true->L.getD j false=true:=fun j hj=>uy f iv.down p.i j ⟨_,F.op,v⟩ (by rw [<- F.bm];exact hj);have x:∀ t∈p.look,T[t]?=U[t]?:=by
   intro t M;refine iv.agree t (fun y c n hd=>?_) (fun a ha u hd=>?_)
   .rcases OP f.pair (jK _ c) (jK _ hp) with rfl|h1|h1
    .exact f.self _ (jK _ hp) (by rw [hk];decide) t hd M
    .have q:=fO h1
     cases hb:p.bm.testBit y.i with
     | true=>rw [H _ hb] at n;cases n
     | false=>exact ((q.apart hb).1 t hd).1 M
    .have q:=fO h1;exact (q.fresh (by rw [(iv.late y c n).1];decide) t hd).1 M
   .have q:=fO (pK f.pair hp ha);exact (q.fresh (by rw [(iv.early a ha u).k];decide) t hd).1 M
  obtain ⟨V,X,st,Q,gd⟩:=Yv F hk w g iv.sr x b k cs is;refine ⟨jU T p.d V,jU U p.d V,X,⟨Q,hs,by simp [iv.lsz],fun i o A u e I hb=>?_,fun y c n=>?_,fun a ha u=>?_,fun a ha a' J h1 h2=>?_,fun t h1 h2=>?_,by simp [iv.siz]⟩,gd,st⟩
  .rw [getD_set hi];split
   .rfl
   .rw [getD_set hi] at u;split at u
    .rename_i Y;subst Y;rw [F.op] at A;cases A;exact v e I hb
    .exact iv.down i o A u e I hb
  .rw [getD_set hi] at n;split at n
   .cases n
   .exact iv.late y c n
  .have z:=nK f.nodup hp ha;rw [getD_set hi,aB (gQ z)] at u;have m:=iv.early a ha u;have q:=fO (pK f.pair hp ha);refine m.keep gd (fun d hd=>mr ?_) (by simp);exact (q.fresh (by rw [m.k];decide) d hd).2
  .have z:=nK f.nodup hp ha;have K:=nK f.nodup hp J;rw [getD_set hi,aB (gQ z)] at h1;rw [getD_set hi,aB (gQ K)] at h2;exact iv.inj a ha a' J h1 h2
  .by_cases hd:p.d=some t
   .rw [hd];simp only [jU,jG,iv.siz,bn]
   .rw [mr hd,mr hd];refine iv.agree t (fun y c n=>?_) (fun a ha u=>?_)
    .by_cases I:y=p
     .rw [I];exact hd
     .refine h1 y c ?_;rw [getD_set hi,aB (fun h=>I (sH f.nodup (jK _ c) (jK _ hp) h))];exact n
    .refine h2 a ha ?_;rw [getD_set hi];split
     .rfl
     .exact u
theorem Ru {P:Program} {t:TypeId} {z:List AV} (h:zeroCells P t=some z):∃ i v,P.info? t=some i/\i.zero=some v/\gD z=true/\∀ σ,VRels σ z v.cells.toList:=by obtain ⟨i,v,h1,h2,_,d⟩:=fZ (σ:=fun _=>none) h;refine ⟨i,v,h1,h2,d,fun σ=>?_⟩;obtain ⟨f,g,a,c,h3,_⟩:=fZ (σ:=σ) h;rw [h1] at a;cases a;rw [h2] at c;cases c;exact h3
theorem Rv {P:Program} {T:Array Value} {o:Oper} {t:TypeId} (a:o.op=.alloc t) {i:TypeInfo} {v:Value} (hi:P.info? t=some i) (c:i.zero=some v) (W:World):
  (execOp (ev T) o).run P W=.ok (.value (.pointer (some ⟨W.heap.size,0,none⟩))) (W.alloc (.cells v.cells t)):=by
 simp [execOp,a,Instr.alloc,sQ hi c,newVar,newRow]
theorem uz {P:Program}:∀ {l:List It},gG P l=true->∀ x∈l,x.k=1->∃ t z,x.o.op=.alloc t/\zeroCells P t=some z
 | [],_,x,c,_=>by cases c
 | a :: l,h,x,c,d=>by
  simp only [gG,aF] at h;rcases aN.1 c with rfl|c
  .have h1:=h.1;rw [d,show Nat.beq 1 1=true from rfl] at h1;simp only at h1;split at h1
   .rename_i t f;split at h1
    .rename_i z g;exact ⟨t,z,f,g⟩
    .cases h1
   .cases h1
  .exact uz h.2 x c d
theorem HRel.grow {σ:Sg} {h:Hp} {W:World} (r:HRel σ h W) (o:Obj) (O:Fu o):HRel σ h (W.alloc o)/\Good σ h W σ h (W.alloc o):=by
 have E:∀ B,B<W.heap.size->(W.alloc o).heap[B]?=W.heap[B]?:=fun B J=>by rw [sP,aB (by omega)]
 refine ⟨⟨r.ok,fun i b hb hd=>?_,fun i B N e=>?_,r.inj⟩,⟨Sub.refl _,fun _ _ e _=>e,⟨rfl,rfl,rfl,by simp,BN O⟩,Mon.refl _,fun i B N e hi _=>absurd (r.dom i B N e).1 (eP.2 hi),fun B J _ _=>E B J⟩⟩
 .obtain ⟨B,N,Q,h1,h2,h3⟩:=r.blk i b hb hd;exact ⟨B,N,Q,h1,by rw [E B (r.dom _ _ _ h1).2];exact h2,h3⟩
 .have:=r.dom i B N e;exact ⟨this.1,by simp;omega⟩
theorem Iq {o:Oper} (h:sM o=1):o.guard=none:=by
 obtain ⟨dst,op,a,pos,after,guard⟩:=o;cases op <;> simp only [sM] at h <;> try (cases h)
 case lookup t x i ok=>cases ok <;> cases h
 case alloc t=>cases guard with
  | none=>rfl
  | some g=>cases h
 case call c=>
  obtain ⟨callee,args,d⟩:=c
  cases callee with
  | builtin b=>cases b <;> cases h
  | _=>cases h
theorem Km {C:Ctx} {ops:Array Oper} {prev l:List It} {L:Array Bool} {is:List Nat} {own:Nat->Nat} {pend:nO} {σ:Sg} {s:St} {T U:Array Value} {D:List Deferred} {W:World} (Y:PlanOk ops (prev++l)) (al:gG C.P l=true)
  {a:It} (ha:a∈l) (hk:a.k=1) (iv:Inv C ops prev l L (a.i :: is) own pend σ s T U D W) (b:Base) (k:List Item) (cs:List Frame):
  ∃ T' E W',Inv C ops prev l (L.setIfInBounds a.i true) is E pend σ s T' U D W'/\Good σ s.hp W σ s.hp W'/\(∀ B,Hid l (L.setIfInBounds a.i true) E B->B<W.heap.size->Hid l L own B) /\
   Steps C.P (lone (b.fr T D (.inRegion ops (a.i :: is) :: k)) cs W) (lone (b.fr T' D (.inRegion ops is :: k)) cs W'):=by
 have K:=iv.sch
 cases K with
 | cons hr hs=>
  obtain ⟨hi,ah,o,I,M⟩:=nZ iv.lsz hr;have O:=Y.it a (jH _ ha);rw [O.op] at I;cases I;obtain ⟨t,z,F,hz⟩:=uz al a ha hk;obtain ⟨ti,v,h1,h2,h3,h4⟩:=Ru hz;have aa:=Rv (P:=C.P) (T:=T) F h1 h2 W;obtain ⟨ab,gd⟩:=iv.sr.h.grow (.cells v.cells t) (fun _ _ _ h=>by cases h;rfl);have hw:Region.wanted a.o (yielded ops T)=true:=by simp [Region.wanted,Iq (O.k ▸ hk)]
  have ac:∀ c,a.o.op≠.defer c:=fun c h=>by rw [F] at h;cases h
  have ae:=vk (b:=b) (D:=D) (k:=k) (cs:=cs) (rest:=is) O.op hw ac aa (.inl rfl);have Q:∀ a'∈l,L.getD a'.i false=true->own a'.i<W.heap.size:=fun a' f n=>by
   obtain ⟨_,_,_,_,_,_,H,_⟩:=(iv.early a' f n).obj;exact (jd.1 H).1
  refine ⟨jU T a.d (.pointer (some ⟨W.heap.size,0,none⟩)),fun j=>if j=a.i then W.heap.size else own j,W.alloc (.cells v.cells t),⟨⟨iv.sr.t,iv.sr.d,ab⟩,hs,by simp [iv.lsz],fun i o I q e u hb=>?_,fun p hp J=>?_,fun a' g q=>?_,fun x hx y hy f n H=>?_,fun t' f n=>?_,by simp [iv.siz]⟩,gd,?_,.one (by rw [O.d];exact ae)⟩
  .rw [getD_set hi];split
   .rfl
   .rw [getD_set hi] at q;split at q
    .rename_i af;subst af;rw [O.op] at I;cases I;exact M e u hb
    .exact iv.down i o I q e u hb
  .rw [getD_set hi] at J;split at J
   .cases J
   .exact iv.late p hp J
  .by_cases u:a'.i=a.i
   .have:=sH Y.nodup (jH _ g) (jH _ ha) u;subst this;refine ⟨hk,⟨t,z,v.cells,F,hz,h3,by simp only [bn];rw [sP];simp,h4⟩,fun d hd X=>?_,fun i N e=>?_⟩
    .rw [hd];simp only [jU,bn,jG];simp only [hd,jU,Array.size_setIfInBounds] at X;simp [X]
    .simp only [bn] at e;exact absurd (iv.sr.h.dom _ _ _ e).2 (zx _)
   .rw [getD_set hi,aB u] at q;simp only [u,bz];have m:=iv.early a' g q;refine m.keep gd (fun d hd=>mr ?_) (by simp);rcases OP Y.pair (jH _ ha) (jH _ g) with f|f|f
    .exact absurd (by rw [f]) u
    .exact ((fO f).fresh (by rw [m.k];decide) d hd).2
    .intro n;exact ((fO f).fresh (by rw [hk];decide) d n).2 hd
  .rw [getD_set hi] at f n;by_cases w:x.i=a.i <;> by_cases A:y.i=a.i
   .rw [w,A]
   .rw [aB A] at n;rw [aC w,aB A] at H;exact absurd (Q y hy n) (by omega)
   .rw [aB w] at f;rw [aB w,aC A] at H;exact absurd (Q x hx f) (by omega)
   .rw [aB w] at f H;rw [aB A] at n H;exact iv.inj x hx y hy f n H
  .have ag:a.d≠some t':=n a ha (by rw [getD_set hi,aC rfl]);rw [mr ag];refine iv.agree t' (fun p hp J=>?_) (fun a' g q=>?_)
   .refine f p hp ?_;rw [getD_set hi,aB (nK Y.nodup hp ha)];exact J
   .refine n a' g ?_;rw [getD_set hi];split
    .rfl
    .exact q
  .rintro B ⟨a',g,q,hB⟩ ai
   by_cases u:a'.i=a.i
   .simp only [u,bn] at hB;omega
   .rw [getD_set hi,aB u] at q;simp only [u,bz] at hB;exact ⟨a',g,q,hB⟩
theorem Ir {ops:Array Oper} {all:List It} (d:PlanOk ops all) {L:Array Bool} (l:L.size=ops.size):∀ (i:Nat),i<ops.size->L.getD i false=false->Region.ready .any ops L≠[]:=by
 intro i
 induction i using Nat.strongRecOn with
 | _ i f=>
  intro hi g;by_cases h:∀ e∈ops[i].after,Region.binds .any e=true->L.getD e.on false=true
  .intro hn;have:i∈Region.ready .any ops L:=by
    rw [mem_ready];have a:i<L.size:=by omega
    exact ⟨by simpa [a] using g,ops[i],by simp [hi],h⟩
   rw [hn] at this;cases this
  .simp only [Classical.not_forall] at h;obtain ⟨e,j,hb,c⟩:=h;have a:=d.back i ops[i] (by simp [hi]) e j hb;exact f e.on a (by omega) (by simpa using c)
theorem Mi {C:Ctx} {ops:Array Oper} {prev l:List It} {x:It} (n:PlanOk ops (prev++x :: l)) (al:gG C.P (x :: l)=true) (hk:x.k≠0) {pend:nO} {σ:Sg} {s:St} {D:List Deferred} (g:GRel C σ) (b:Base) (k:List Item) (cs:List Frame):
  ∀ (is:List Nat) (L:Array Bool) (own:Nat->Nat) (T U:Array Value) (W:World),Inv C ops prev (x :: l) L is own pend σ s T U D W->L.getD x.i false=false ->
  ∃ d p c E F t,Inv C ops prev (x :: l) p (x.i :: d) c pend σ s E F D t/\p.getD x.i false=false/\Good σ s.hp W σ s.hp t/\(∀ B,Hid (x :: l) p c B->B<W.heap.size->Hid (x :: l) L own B) /\
   Steps C.P (lone (b.fr T D (.inRegion ops is :: k)) cs W) (lone (b.fr E D (.inRegion ops (x.i :: d) :: k)) cs t):=by
 intro is
 induction is with
 | nil=>
  intro L own T U W iv H;have hs:=iv.sch
  cases hs with
  | nil Q=>
   have f:x.i<ops.size:=(jd.1 (n.it x (by simp)).op).1;exact absurd Q (Ir n iv.lsz x.i f H)
 | cons i is ih=>
  intro L own T U W iv H;have I:=iv.sch
  cases I with
  | cons Q hs=>
   obtain ⟨hi,ac,o,ho,J⟩:=nZ iv.lsz Q;obtain ⟨y,X,K⟩:=n.full i (by rw [<- iv.lsz];exact hi);by_cases u:y=x
   .subst u;subst K;exact ⟨is,L,own,T,U,W,iv,H,Good.dom iv.sr.h,fun _ h _=>h,.refl _ _⟩
   .subst K;have Y:y.i≠x.i:=fun h=>u (sH n.nodup X (by simp) h);have M:(L.setIfInBounds y.i true).getD x.i false=false:=by rw [getD_set hi,aB (gQ Y)];exact H
    rcases lW.1 X with hp|hl
    .obtain ⟨T1,U1,W1,j,N,v⟩:=OQ n hp iv g b k cs;obtain ⟨d,p,c,E,F,t,m,w,g2,hh,z⟩:=ih _ _ _ _ _ j M;refine ⟨d,p,c,E,F,t,m,w,N.trans j.sr.h.ok m.sr.h.ok g2,fun B hB f=>?_,v.trans z⟩;obtain ⟨a,ha,h1,h2⟩:=hh B hB (dZ f N.ext.size);refine ⟨a,ha,?_,h2⟩;rw [getD_set hi,aB (gQ (nK n.nodup hp ha))] at h1;exact h1
    .have aa:y∈l:=by
      rcases aN.1 hl with h|h
      .exact absurd h u
      .exact h
     by_cases O:y.k=1
     .obtain ⟨T1,ab,W1,j,N,h1,v⟩:=Km n al hl O iv b k cs;obtain ⟨d,p,c,E,F,t,m,w,g2,hh,z⟩:=ih _ _ _ _ _ j M;exact ⟨d,p,c,E,F,t,m,w,N.trans j.sr.h.ok m.sr.h.ok g2,fun B hB f=>h1 B (hh B hB (dZ f N.ext.size)) f,v.trans z⟩
     .have A:=yY.1 n.pair;have q:=fO ((Dz.1 A.2.1).1 y aa);have hb:=q.dep hk O;have iy:=n.it y X;have:=uy n iv.down y.i x.i ⟨o,ho,J⟩ (by rw [<- iy.bm];exact hb);rw [H] at this;cases this
theorem finish {C:Ctx} {ops:Array Oper} {prev:List It} (j:PlanOk ops (prev++[])) {pend:nO} {σ:Sg} {s:St} {D:List Deferred} (g:GRel C σ) (b:Base) (k:List Item) (cs:List Frame):
  ∀ (is:List Nat) (L:Array Bool) (own:Nat->Nat) (T U:Array Value) (W:World),Inv C ops prev [] L is own pend σ s T U D W ->
  ∃ l c,SRel σ s l D c/\Good σ s.hp W σ s.hp c/\Steps C.P (lone (b.fr T D (.inRegion ops is :: k)) cs W) (lone (b.fr l D k) cs c):=by
 intro is
 induction is with
 | nil=>
  intro L own T U W iv;have v:=iv.sch
  cases v with
  | nil m=>
   have x:T=U:=by refine Dy fun t=>iv.agree t (fun p hp z=>?_) (fun a ha=>by cases ha);have n:p.i<ops.size:=(jd.1 (j.it p (by simp [hp])).op).1;exact absurd m (Ir j iv.lsz p.i n z)
   subst x;exact ⟨T,W,iv.sr,Good.dom iv.sr.h,.one X9⟩
 | cons i is A=>
  intro L own T U W iv;have d:=iv.sch
  cases d with
  | cons m v=>
   obtain ⟨hi,E,o,I,w⟩:=nZ iv.lsz m;obtain ⟨y,F,q⟩:=j.full i (by rw [<- iv.lsz];exact hi);subst q;have hp:y∈prev:=by simpa using F
   obtain ⟨J,K,M,f,H,u⟩:=OQ j hp iv g b k cs;obtain ⟨l,c,h1,h2,h3⟩:=A _ _ _ _ _ f;exact ⟨l,c,h1,H.trans f.sr.h.ok h1.h.ok h2,u.trans h3⟩
theorem GuardIs.next {ops:Array Oper} {s s':St} {o:Oper} {w:Bool} (h:GuardIs ops s o w) (J:∀ t∈wm ops o,∀ a,s.tmps[t]?=some a->∃ a',s'.tmps[t]?=some a'/\Means a'.v a.v):GuardIs ops s' o w:=by
 unfold GuardIs at *
 cases E:o.guard with
 | none=>rw [E] at h;exact h
 | some O=>
  obtain ⟨j,want⟩:=O;rw [E] at h;obtain ⟨x,g,a,h1,h2,h3,Q⟩:=h;obtain ⟨a',Y,h6⟩:=J g (by simp [wm,E,h1,h2]) a h3;exact ⟨x,g,a',h1,h2,Y,fun σ V hv=>Q σ V (h6 σ V hv)⟩
theorem Late.next {C:Ctx} {ops:Array Oper} {s s':St} {pend pend':nO} {p:It} (h:Late C ops s pend p) (ip:ItOk ops p) (len:s'.tmps.length=s.tmps.length)
  (ht:∀ t∈p.look,∀ a,s.tmps[t]?=some a->∃ a',s'.tmps[t]?=some a'/\Means a'.v a.v)
  (hd:∀ d,p.d=some d->∀ a',s'.tmps[d]?=some a'->∃ a,s.tmps[d]?=some a/\Means a.v a'.v)
  (hb:∀ t ad v nd,(p.i,t,ad,v)∈pend->qm C.P s.hp t ad=some (nd,v)->nd.val->(p.i,t,ad,v)∈pend'/\∃ E,qm C.P s'.hp t ad=some (E,v)/\E.val):Late C ops s' pend' p:=by
 have hg:∀ w,GuardIs ops s p.o w->GuardIs ops s' p.o w:=fun w h=>h.next fun t O=>ht t (by rw [ip.look];exact jH _ O);rcases h with ⟨h1,sp,q,Q⟩|⟨h1,h2⟩
 .refine .inl ⟨hg _ h1,sp,q,⟨Q.run,Q.need,Q.len.trans len.symm,fun t O a ha=>?_,fun d a' J Y=>?_,fun t a h3=>?_,fun t a b h3=>?_⟩⟩
  .obtain ⟨a1,h3,h4⟩:=Q.args t O a ha;obtain ⟨a2,h5,h6⟩:=ht t (by rw [ip.look];exact jK _ O) a1 h3;exact ⟨a2,h5,h6.trans h4⟩
  .obtain ⟨a,h3,h4⟩:=hd d J a' Y;exact (Q.res d a J h3).trans h4
  .obtain ⟨ad,nd,h4,h5,h6,h7,ab⟩:=Q.load t a h3;obtain ⟨h8,E,h9,aa⟩:=hb t ad q.v nd h5 h6 h7;exact ⟨ad,E,h4,h8,h9,aa,ab⟩
  .obtain ⟨nd,h5,h6,h7⟩:=Q.look t a b h3;obtain ⟨h8,E,h9,aa⟩:=hb t _ q.v nd h5 h6 h7;exact ⟨E,h8,h9,aa⟩
 .refine .inr ⟨hg _ h1,fun d a' J Y σ=>?_⟩;obtain ⟨a,h3,h4⟩:=hd d J a' Y;exact h4 _ _ (h2 d a J h3 σ)
theorem PostH.back {H J:Nat->Prop} {σ τ:Sg} {s E:St} {W V:World} {A:Ex->Array Value->List Deferred->World->Prop} (ko:E.hp.ok) (h:Step σ s W τ E V) (Q:∀ B,J B->B<W.heap.size->H B) {x:Ex} {O:St} (p:PostH J τ E V A x O):PostH H σ s W A x O:=by obtain ⟨υ,T,D,X,h1,h2,h3⟩:=p;exact ⟨υ,T,D,X,h1,StepH.next ko h1.h.ok ⟨Good.hide h.good,h.tm⟩ h2 Q,h3⟩
structure Same (s s':St):Prop where
 len:s'.tmps.length=s.tmps.length
 to:∀ (t:Nat) (a:AT),s.tmps[t]?=some a->∃ a',s'.tmps[t]?=some a'/\Means a'.v a.v
 fro:∀ (t:Nat) (a':AT),s'.tmps[t]?=some a'->∃ a,s.tmps[t]?=some a/\Means a.v a'.v
 hp:∀ i,s'.hp.get i=s.hp.get i
 ck:s.hp.clock<=s'.hp.clock
theorem Inv.same {C:Ctx} {ops:Array Oper} {prev l:List It} {L:Array Bool} {is:List Nat} {own:Nat->Nat} {pend:nO} {σ:Sg} {s s':St} {T U:Array Value} {D:List Deferred} {W:World} (Q:PlanOk ops (prev++l))
  (iv:Inv C ops prev l L is own pend σ s T U D W) (sm:Same s s') (sr:SRel σ s' U D W):Inv C ops prev l L is own pend σ s' T U D W:=
 ⟨sr,iv.sch,iv.lsz,iv.down,fun p hp O=>⟨(iv.late p hp O).1,(iv.late p hp O).2.next (Q.it p (jK _ hp)) sm.len (fun t _ a h=>sm.to t a h) (fun d _ a h=>sm.fro d a h) (fun t ad v nd h h2 h3=>⟨h,nd,by rw [Io (fun J E e=>sm.hp J) (fun J E e=>sm.hp J) (fun J E e=>sm.hp J)];exact h2,h3⟩)⟩,iv.early,iv.inj,iv.agree,iv.siz⟩
def Rw (s:St):St:=⟨s.tmps,s.defs,⟨s.hp.blks,s.hp.size,s.hp.clock+1⟩⟩
theorem VX (s:St):Same s (Rw s):=
 ⟨rfl,fun _ a h=>⟨a,h,Means.refl _⟩,fun _ a h=>⟨a,h,Means.refl _⟩,fun i=>by rw [Hp.get_eq,Hp.get_eq];rfl,Nat.le_succ _⟩
theorem Kn (s:St):Same s s:=⟨rfl,fun _ a h=>⟨a,h,Means.refl _⟩,fun _ a h=>⟨a,h,Means.refl _⟩,fun _=>rfl,bD _⟩
theorem OT {s:St} {d:Tmp} {st:Nat} {p:Bool} (h:s.tmps[d]?=some ⟨st,.bool true p⟩):Same s ⟨s.tmps.set d ⟨s.hp.clock,.bool false p⟩,s.defs,s.hp⟩:=by
 have c:=(je.1 h).1;refine ⟨by simp,fun t a ha=>?_,fun t a ha=>?_,fun _=>rfl,bD _⟩
 .by_cases f:d=t
  .subst f;rw [h] at ha;cases ha;exact ⟨_,gZ c,fun _ _ h=>h⟩
  .exact ⟨a,by rw [iM f];exact ha,Means.refl _⟩
 .by_cases f:d=t
  .subst f;simp only [gZ c,bi] at ha;subst ha;exact ⟨_,h,fun _ _ h=>h⟩
  .rw [iM f] at ha;exact ⟨a,ha,Means.refl _⟩
theorem OU {σ:Sg} {a v:AV} {m:Nd} (e:xK a v=some m) (c:m.val) {V:Value} (h:VRel σ v V):VRel σ a V:=by
 unfold xK at e;split at e
 .split at e
  .rename_i d;subst d;cases e;rw [<- show _=_ from c] at h;exact h
  .cases e
 .cases e;rw [<- show _=_ from c] at h;exact h
 .cases e;rw [<- show _=_ from c] at h;exact h
 .cases e
theorem OV {s:St} {d:Tmp} {a:AT} {v:AV} {m:Nd} (h:s.tmps[d]?=some a) (e:xK a.v v=some m) (g:m.val):Same s ⟨s.tmps.set d ⟨s.hp.clock,v⟩,s.defs,s.hp⟩:=by
 have c:=(je.1 h).1;refine ⟨by simp,fun t b hb=>?_,fun t b hb=>?_,fun _=>rfl,bD _⟩
 .by_cases f:d=t
  .subst f;rw [h] at hb;cases hb;exact ⟨_,gZ c,fun _ _ k=>OU e g k⟩
  .exact ⟨b,by rw [iM f];exact hb,Means.refl _⟩
 .by_cases f:d=t
  .subst f;simp only [gZ c,bi] at hb;subst hb;exact ⟨_,h,fun _ _ k=>A8 e g k⟩
  .rw [iM f] at hb;exact ⟨b,hb,Means.refl _⟩
theorem OW {σ:Sg} {s:St} {T:Array Value} {D:List Deferred} {W:World} (r:SRel σ s T D W) {d:Tmp} {a:AT} {v:AV} {m:Nd} (h:nth s.tmps d=some a) (e:xK a.v v=some m) (f:m.val):
  SRel σ ⟨s.tmps.set d ⟨s.hp.clock,v⟩,s.defs,s.hp⟩ T D W/\Step σ s W σ ⟨s.tmps.set d ⟨s.hp.clock,v⟩,s.defs,s.hp⟩ W:=by
 obtain ⟨V,h1,h2⟩:=r.t.nth h;have h3:=A8 e f h2;obtain ⟨c,p2⟩:=kD (h:=s.hp) (X:=W) (D:=D) r r.h (Good.refl σ s.hp W fun i B N h=>(r.h.dom i B N h).1) (v:=v) (V:=V) h3 (some d);have:jU T (some d) V=T:=by
  simp only [jU];rw [JR];split
  .rename_i hd;have:T[d]=V:=by rw [JO hd] at h1;exact rJ h1
   exact Dy fun i=>by
    rw [Array.getElem?_set];split
    .rename_i e;subst e;exact h1.symm
    .rfl
  .rfl
 rw [this] at c;exact ⟨c,p2⟩
theorem VY {ops:Array Oper} {s:St} {o:Oper} (h:qJ ops s o=.go):GuardIs ops s o true:=by
 unfold qJ at h;unfold GuardIs;split at h
 .rename_i c;rw [c]
 .rename_i j want c;rw [c];split at h
  .cases h
  .rename_i x g;split at h
   .cases h
   .rename_i d hd;split at h
    .rename_i st p f;rw [iX] at f
     cases a:p==want with
     | true=>exact ⟨x,d,_,g,hd,f,fun σ V i=>.inl ⟨p,i,a⟩⟩
     | false=>rw [a] at h;cases h
    .cases h
    .cases h
    .cases h
theorem OX {ops:Array Oper} {s:St} {o:Oper} (h:qJ ops s o=.skip):GuardIs ops s o false:=by
 unfold qJ at h;unfold GuardIs;split at h
 .cases h
 .rename_i j want i;rw [i];split at h
  .cases h
  .rename_i x g;split at h
   .cases h
   .rename_i d hd;split at h
    .rename_i st p a;rw [iX] at a
     cases c:p==want with
     | true=>rw [c] at h;cases h
     | false=>exact ⟨x,d,_,g,hd,a,fun σ V f=>.inl ⟨p,f,c⟩⟩
    .cases h
    .rename_i st a;rw [iX] at a;refine ⟨x,d,_,g,hd,a,fun σ V f=>.inr ⟨rfl,fun b e=>?_⟩⟩;obtain ⟨K,l,_⟩:=f;rw [l] at e;cases e
    .cases h
theorem OY {ops:Array Oper} {s:St} {o:Oper} {d:Tmp} {p want:Bool} (h:qJ ops s o=.fork d p want):(∃ st,s.tmps[d]?=some ⟨st,.bool true p⟩) /\
  ∀ (s':St) (a:AT),s'.tmps[d]?=some a->a.v=.bool false p->GuardIs ops s' o (p==want):=by
 unfold qJ at h;split at h
 .cases h
 .rename_i j c l;split at h
  .cases h
  .rename_i x m;split at h
   .cases h
   .rename_i q hd;split at h
    .rename_i st i f;cases g:i==c <;> (rw [g] at h;cases h)
    .rename_i st i f;cases h;rw [iX] at f;refine ⟨⟨st,f⟩,fun s' a ha n=>?_⟩;unfold GuardIs;rw [l];exact ⟨x,d,a,m,hd,ha,fun σ V h=>.inl ⟨p,by rw [n] at h;exact h,rfl⟩⟩
    .cases h
    .cases h
theorem wM {ops:Array Oper} {s:St} {o:Oper} {go skip:St->Option R} {q:R} (e:zO ops s o go skip=some q) {σ:Sg} {U:Array Value} {D:List Deferred} {W:World} (sr:SRel σ s U D W) {H:Nat->Prop} {A:Ex->Array Value->List Deferred->World->Prop}
  (i:∀ s' g,go s'=some g->Same s s'->SRel σ s' U D W->GuardIs ops s' o true->gI (PostH H σ s' W A) g)
  (a:∀ s' g,skip s'=some g->Same s s'->SRel σ s' U D W->GuardIs ops s' o false->gI (PostH H σ s' W A) g):gI (PostH H σ s W A) q:=by
 unfold zO at e;split at e
 .cases e
 .rename_i f;exact i s q e (Kn s) sr (VY f)
 .rename_i f;exact a s q e (Kn s) sr (OX f)
 .rename_i d p want f;obtain ⟨⟨st,hd⟩,c⟩:=OY f;obtain ⟨r1,j⟩:=FB sr (d:=d) (st:=st) (p:=p) (by rw [iX];exact hd);have sm:=OT hd;have l:=(je.1 hd).1;have c:=c ⟨s.tmps.set d ⟨s.hp.clock,.bool false p⟩,s.defs,s.hp⟩ _ (gZ l) rfl;simp only [q9] at e;have back:∀ g,gI (PostH H σ ⟨s.tmps.set d ⟨s.hp.clock,.bool false p⟩,s.defs,s.hp⟩ W A) g->gI (PostH H σ s W A) g:=fun g h hn=>by
   obtain ⟨t,h1,h2⟩:=h hn;exact ⟨t,h1,PostH.back r1.ko j (fun _ h _=>h) h2⟩
  split at e
  .cases e
  .rename_i u m;split at e
   .cases e
   .rename_i v n;cases e;refine AZ (nY sr _) ?_ ?_
    .rintro rfl
     refine back _ ?_
     cases want with
     | true=>exact i _ _ m sm r1 c
     | false=>exact a _ _ m sm r1 c
    .rintro rfl
     refine back _ ?_
     cases want with
     | true=>exact a _ _ n sm r1 c
     | false=>exact i _ _ n sm r1 c
theorem og {C:Ctx} {ops:Array Oper} {prev l:List It} {x:It} {L:Array Bool} {is:List Nat} {own:Nat->Nat} {pend:nO} {σ:Sg} {s:St} {T U:Array Value} {D:List Deferred} {W:World}
  (iv:Inv C ops prev (x :: l) L is own pend σ s T U D W) (a:x.k≠1):L.getD x.i false=false:=by
 cases h:L.getD x.i false with
 | false=>rfl
 | true=>exact absurd (iv.early x (by simp) h).k a
theorem Iu {C:Ctx} {ops:Array Oper} {prev l:List It} {x p:It} {L:Array Bool} {is:List Nat} {own:Nat->Nat} {pend:nO} {σ:Sg} {s:St} {T U:Array Value} {D:List Deferred} {W:World} (c:PlanOk ops (prev++x :: l))
  (iv:Inv C ops prev (x :: l) L (x.i :: is) own pend σ s T U D W) (f:L.getD p.i false=false):x.bm.testBit p.i=false:=by
 have g:=c.it x (by simp)
 cases d:iv.sch with
 | cons h n=>
  obtain ⟨hi,j,o,m,a⟩:=nZ iv.lsz h
  cases hb:x.bm.testBit p.i with
  | false=>rfl
  | true=>
   have:=uy c iv.down x.i p.i ⟨o,m,a⟩ (by rw [<- g.bm];exact hb);rw [f] at this;cases this
theorem Iw {C:Ctx} {ops:Array Oper} {prev l:List It} {x:It} {L:Array Bool} {is:List Nat} {own:Nat->Nat} {pend:nO} {σ:Sg} {s:St} {T U:Array Value} {D:List Deferred} {W:World} (c:PlanOk ops (prev++x :: l))
  (iv:Inv C ops prev (x :: l) L (x.i :: is) own pend σ s T U D W) (d:L.getD x.i false=false):∀ t∈x.look,T[t]?=U[t]?:=by
 intro t h;refine iv.agree t (fun p hp j hd=>?_) (fun a ha f hd=>?_)
 .have q:=fO (pK c.pair hp (oJ ..));exact ((q.apart (Iu c iv j)).1 t hd).1 h
 .rcases aN.1 ha with rfl|g
  .rw [d] at f;cases f
  .have hp:=(yY.1 c.pair).2.1;have q:=fO ((Dz.1 hp).1 a g);exact (q.fresh (by rw [(iv.early a ha f).k];decide) t hd).1 h
theorem vz {s a:St} {d:Option Tmp} (sh:FC s d a):a.tmps.length=s.tmps.length/\∀ t,d≠some t->a.tmps[t]?=s.tmps[t]?:=by
 obtain ⟨_,c,v,h⟩:=sh
 cases d with
 | none=>simp only at h;rw [h];exact ⟨rfl,fun _ _=>rfl⟩
 | some d=>
  simp only at h;rw [h];refine ⟨by simp,fun t f=>?_⟩;rw [iM (fun e=>f (by rw [e]))]
theorem OZ {C:Ctx} {ops:Array Oper} {prev l:List It} {x:It} {L:Array Bool} {is:List Nat} {own:Nat->Nat} {pend pend':nO} {σ τ:Sg} {s A:St} {T U:Array Value} {V:Value} {D:List Deferred} {W X:World} (j:PlanOk ops (prev++x :: l))
  (iv:Inv C ops prev (x :: l) L (x.i :: is) own pend σ s T U D W) (hk:x.k≠1) (sr:SRel τ A (jU U x.d V) D X) (gd:Good σ s.hp W τ A.hp X) (sh:FC s x.d A)
  (hb:∀ i t ad v nd,x.bm.testBit i=false->(i,t,ad,v)∈pend->qm C.P s.hp t ad=some (nd,v)->nd.val->(i,t,ad,v)∈pend'/\∃ E,qm C.P A.hp t ad=some (E,v)/\E.val):
  Inv C ops (prev++[x]) l (L.setIfInBounds x.i true) is own pend' τ A (jU T x.d V) (jU U x.d V) D X:=by
 have N:=og iv hk;have g:∀ a∈l,a.i≠x.i:=fun a ha h=>by
  have:=sH j.nodup (x:=a) (y:=x) (by simp [ha]) (by simp) h;subst this;have F:=j.nodup;rw [jN,uK] at F;have:=F.2.1;simp only [dL,mZ] at this;exact this.1 (gy.2 ⟨a,ha,rfl⟩)
 have O:∀ p∈prev,p.i≠x.i:=fun p hp=>nK j.nodup hp (oJ ..);have H:=iv.sch
 cases H with
 | cons hr hs=>
  obtain ⟨hi,_,o,z,I⟩:=nZ iv.lsz hr;have ip:=j.it x (by simp);rw [ip.op] at z;cases z;obtain ⟨J,n⟩:=vz sh;have Q:=(yY.1 j.pair).2.1;refine ⟨sr,hs,by simp [iv.lsz],fun i o z f e he hb=>?_,fun p hp u=>?_,fun a ha f=>?_,fun a ha a' c h1 h2=>?_,fun t h1 h2=>?_,by simp [iv.siz]⟩
  .rw [getD_set hi];split
   .rfl
   .rw [getD_set hi] at f;split at f
    .rename_i Y;subst Y;rw [ip.op] at z;cases z;exact I e he hb
    .exact iv.down i o z f e he hb
  .rw [getD_set hi] at u;split at u
   .cases u
   .rename_i K;have w:p∈prev:=by
     rcases lW.1 hp with h|h
     .exact h
     .rw [lU.1 h] at K;exact absurd rfl K
    obtain ⟨k0,lt⟩:=iv.late p w u;have q:=fO (pK j.pair w (oJ ..));have M:=Iu (p:=p) j iv u;have ap:=q.apart M;refine ⟨k0,lt.next (j.it p (by simp [w])) J (fun t ht a ha=>⟨a,?_,Means.refl _⟩) (fun d hd a ha=>⟨a,?_,Means.refl _⟩) (fun t ad v nd h1 h2 h3=>hb p.i t ad v nd M h1 h2 h3)⟩
    .rw [n t fun e=>ap.2 t e ht];exact ha
    .rw [n d (ap.1 d hd).2] at ha;exact ha
  .rw [getD_set hi,aB (g a ha)] at f;have m:=iv.early a (by simp [ha]) f;refine m.keep gd (fun d hd=>mr ?_) (by simp);have q:=fO ((Dz.1 Q).1 a ha);exact (q.fresh (by rw [m.k];decide) d hd).2
  .rw [getD_set hi,aB (g a ha)] at h1;rw [getD_set hi,aB (g a' c)] at h2;exact iv.inj a (by simp [ha]) a' (by simp [c]) h1 h2
  .by_cases hd:x.d=some t
   .rw [hd];simp only [jU,jG,bn,iv.siz]
   .rw [mr hd,mr hd];refine iv.agree t (fun p hp u=>h1 p (by simp [hp]) ?_) (fun a ha f=>?_)
    .rw [getD_set hi,aB (O p hp)];exact u
    .rcases aN.1 ha with rfl|c
     .rw [N] at f;cases f
     .refine h2 a c ?_;rw [getD_set hi,aB (g a c)];exact f
theorem O0 {ops:Array Oper} {prev l:List It} {x:It} {L:Array Bool} {own:Nat->Nat} (d:PlanOk ops (prev++x :: l)) (hi:x.i<L.size) {B:Nat} (h:Hid l (L.setIfInBounds x.i true) own B):Hid (x :: l) L own B:=by
 obtain ⟨a,ha,h1,h2⟩:=h;refine ⟨a,by simp [ha],?_,h2⟩;rw [getD_set hi] at h1;split at h1
 .rename_i f;have:=sH d.nodup (x:=a) (y:=x) (by simp [ha]) (by simp) f;subst this;have c:=d.nodup;rw [jN,uK] at c;have:=c.2.1;simp only [dL,mZ] at this;exact absurd (gy.2 ⟨a,ha,rfl⟩) this.1
 .exact h1
mutual
theorem Yw:∀ (a b:AV) (p:Nd),eqA a b=some p->p.val->a=b
 | a,b,p,e,hp=>by
  cases a <;> cases b <;> simp only [eqA,reduceCtorEq] at e
  case any.any c d=>cases c <;> cases d <;> first|rfl|cases e
  case bool.bool s x s' y=>
   cases s <;> cases s' <;> simp only [BEq.beq,decide,instDecidableEqBool,Bool.decEq,aQ,aR,reduceCtorEq] at e
   .cases x <;> cases y <;> first|rfl|cases e
   .cases e;rw [show x=y from hp]
  case int.int s k x s' H y=>
   cases s <;> cases s' <;> simp only [BEq.beq,decide,instDecidableEqBool,Bool.decEq,aQ,aR,reduceCtorEq] at e
   .split at e
    .rename_i t;subst t;split at e
     .rename_i D;subst D;rfl
     .cases e
    .cases e
   .split at e
    .rename_i t;subst t;cases e;rw [show x=y from hp]
    .cases e
  case str.str s x s' y=>
   cases s <;> cases s' <;> simp only [BEq.beq,decide,instDecidableEqBool,Bool.decEq,aQ,aR,reduceCtorEq] at e
   .cases hb:qW x y with
    | true=>rw [(lI x y).1 hb]
    | false=>rw [hb] at e;cases e
   .cases e;rw [show x=y from hp]
  case nil.nil=>rfl
  case ptr.ptr i o j q=>
   cases h:(Nat.beq i j&&Nat.beq o q) with
   | false=>rw [h] at e;cases e
   | true=>
    simp only [aF] at h;rw [aP h.1,aP h.2]
  case nilslice.nilslice=>rfl
  case eslice.eslice a b=>
   cases h:a==b with
   | false=>rw [h] at e;cases e
   | true=>rw [dV.1 h]
  case slice.slice i o l c u v z c'=>
   cases h:(Nat.beq i u&&Nat.beq o v&&Nat.beq l z&&Nat.beq c c') with
   | false=>rw [h] at e;cases e
   | true=>
    simp only [aF] at h;rw [aP h.1.1.1,aP h.1.1.2,aP h.1.2,aP h.2]
  case vslice.vslice i l j m=>
   cases h:(Nat.beq i j&&Nat.beq l m) with
   | false=>rw [h] at e;cases e
   | true=>
    simp only [aF] at h;rw [aP h.1,aP h.2]
  case pslice.pslice i l s n j m s' k=>
   cases h:(Nat.beq i j&&Nat.beq l m&&s==s') with
   | false=>rw [h] at e;cases e
   | true=>
    rw [h] at e;simp only [aF,dV] at h;obtain ⟨⟨h1,h2⟩,h3⟩:=h;subst h3;rw [aP h1,aP h2]
    cases s with
    | true=>cases e;rw [show n=k from hp]
    | false=>
     simp only [aQ] at e;split at e
     .rename_i A;rw [A]
     .cases e
  case lslice.lslice i n j k=>
   cases h:Nat.beq i j with
   | false=>rw [h] at e;cases e
   | true=>
    rw [h] at e;cases e;rw [aP h,show n=k from hp]
  case islice.islice w i o n w' j q k=>
   cases h:(Nat.beq i j&&w==w') with
   | false=>rw [h] at e;cases e
   | true=>
    rw [h] at e;simp only [aF,dV] at h;cases e;have hp:o=q/\n=k:=hp;rw [aP h.1,h.2,hp.1,hp.2]
  case gslice.gslice i o l c u v z c'=>
   cases h:(Nat.beq i u&&Nat.beq o v&&Nat.beq l z&&Nat.beq c c') with
   | false=>rw [h] at e;cases e
   | true=>
    simp only [aF] at h;rw [aP h.1.1.1,aP h.1.1.2,aP h.1.2,aP h.2]
  case nilfunc.nilfunc=>rfl
  case niliface.niliface=>rfl
  case map.map i j=>
   cases h:Nat.beq i j with
   | false=>rw [h] at e;cases e
   | true=>rw [aP h]
  case nilmap.nilmap=>rfl
  case agg.agg l m=>rw [Co l m p e hp]
  case tuple.tuple l m=>rw [Co l m p e hp]
  case func.func f a b g c d=>
   split at e
   .rename_i E;subst E;split at e
    .cases e
    .rename_i F h1;split at e
     .cases e
     .rename_i p2 h2;cases e;rw [Co a c F h1 (Nd.lv hp),Co b d p2 h2 (Nd.rv hp)]
   .cases e
theorem Co:∀ (l m:List AV) (p:Nd),LF l m=some p->p.val->l=m
 | [],[],p,e,hp=>rfl
 | [],b :: m,p,e,hp=>by simp [LF] at e
 | a :: l,[],p,e,hp=>by simp [LF] at e
 | a :: l,b :: m,p,e,hp=>by
  simp only [LF] at e;split at e
  .cases e
  .rename_i c h1;split at e
   .cases e
   .rename_i p2 h2;cases e;rw [Yw a b c h1 (Nd.lv hp),Co l m p2 h2 (Nd.rv hp)]
end
theorem FK {P:Program} {h:Hp}:∀ {l:nO} {nd:Nd},Es P h l=some nd->nd.val->∀ i t ad v,(i,t,ad,v)∈l->∃ n,qm P h t ad=some (n,v)/\n.val
 | [],_,_,_,i,t,ad,v,a=>by cases a
 | (i0,t0,c,v0) :: l,nd,e,hn,i,t,ad,v,a=>by
  simp only [Es] at e;split at e
  .cases e
  .rename_i n f d;split at e
   .cases e
   .rename_i p hp;split at e
    .cases e
    .rename_i q hq;cases e;rcases aN.1 a with h|h
     .cases h;refine ⟨n,?_,Nd.lv (Nd.lv hn)⟩;rw [Yw _ _ _ hp (Nd.rv (Nd.lv hn))];exact d
     .exact FK hq (Nd.rv hn) i t ad v h
theorem z8 {bm:Nat}:∀ {l:nO} {x:Nat×TypeId×AV×AV},x∈l->bm.testBit x.1=false->x∈sO bm l
 | [],_,h,_=>by cases h
 | y :: l,x,h,hb=>by
  simp only [sO];rcases aN.1 h with h|h
  .subst h;rw [hb];simp
  .split
   .exact z8 h hb
   .exact jJ _ (z8 h hb)
def vB (C:Ctx) (r:Rec) (ops:Array Oper) (b:Base) (k:List Item) (cs:List Frame) (l:List It):Prop:=
 ∀ (prev:List It) (pend:nO) (s:St) (q:R),xL C r ops l pend s=some q->PlanOk ops (prev++l)->gG C.P l=true ->
  ∀ (L:Array Bool) (is:List Nat) (own:Nat->Nat) (σ:Sg) (T U:Array Value) (D:List Deferred) (W:World),GRel C σ->Inv C ops prev l L is own pend σ s T U D W ->
  gI (PostH (Hid l L own) σ s W (AtOps C.P ops is b k cs T D W)) q
theorem PostH.imp {H:Nat->Prop} {σ:Sg} {s:St} {W:World} {A B:Ex->Array Value->List Deferred->World->Prop} {x:Ex} {E:St} (p:PostH H σ s W A x E) (h:∀ T D V,A x T D V->B x T D V):PostH H σ s W B x E:=by obtain ⟨τ,T,D,V,h1,h2,h3⟩:=p;exact ⟨τ,T,D,V,h1,h2,h _ _ _ h3⟩
theorem lJ {H c:Nat->Prop} {σ τ:Sg} {s a:St} {W V:World} {A B:Ex->Array Value->List Deferred->World->Prop} (ko:a.hp.ok) (st:Step σ s W τ a V) (d:∀ B,c B->B<W.heap.size->H B) {q:R} (h:gI (PostH c τ a V B) q)
  (f:∀ x T D X,B x T D X->A x T D X):gI (PostH H σ s W A) q:=fun hn=>by
 obtain ⟨e,h1,h2⟩:=h hn;exact ⟨e,h1,PostH.back ko st d (h2.imp (f _))⟩
theorem AtOps.back {P:Program} {ops:Array Oper} {is E:List Nat} {b:Base} {k:List Item} {cs:List Frame} {T J:Array Value} {D:List Deferred} {W O:World} (st:Steps P (lone (b.fr T D (.inRegion ops is :: k)) cs W) (lone (b.fr J D (.inRegion ops E :: k)) cs O))
  {x:Ex} {Q:Array Value} {Y:List Deferred} {X:World} (h:AtOps P ops E b k cs J D O x Q Y X):AtOps P ops is b k cs T D W x Q Y X:=⟨h.1,.of_steps st h.2⟩
def ow (s:St) (h:Hp) (dst:Option Tmp) (v:AV):St:=match dst with|none=>⟨s.tmps,s.defs,h⟩|some d=>⟨s.tmps.set d ⟨h.clock,v⟩,s.defs,h⟩
theorem Cq (s:St) (h:Hp) (dst:Option Tmp) (v:AV):(ow s h dst v).hp=h:=by cases dst <;> rfl
theorem Ko {a:Type} (s:St) (dst:Option Tmp) (v:AV) (k:St->a):s.put dst v k=k (ow s s.hp dst v):=by rw [pF];cases dst <;> rfl
theorem putSt_put' {a:Type} (s:St) (h:Hp) (dst:Option Tmp) (v:AV) (k:St->a):St.put ⟨s.tmps,s.defs,h⟩ dst v k=k (ow s h dst v):=by rw [pF];cases dst <;> rfl
theorem uj (s:St) (h:Hp) (dst:Option Tmp) (v:AV):FC s dst (ow s h dst v):=by
 cases dst with
 | none=>exact ⟨rfl,0,v,rfl⟩
 | some d=>exact ⟨rfl,h.clock,v,rfl⟩
theorem Aa {H:Nat->Prop} {σ τ:Sg} {s:St} {T:Array Value} {D:List Deferred} {W X:World} {h:Hp} (r:SRel σ s T D W) (a:HRel τ h X) (g:GoodH H σ s.hp W τ h X) {v:AV} {V:Value} (j:VRel τ v V) (dst:Option Tmp):
  SRel τ (ow s h dst v) (jU T dst V) D X/\StepH H σ s W τ (ow s h dst v) X:=by
 have c:=TRel.mono g.sub r.t
 cases dst with
 | none=>exact ⟨⟨c,DRel.mono g.sub r.d,a⟩,⟨g,⟨rfl,fun _ _ h=>.inl h⟩⟩⟩
 | some d=>
  refine ⟨⟨?_,DRel.mono g.sub r.d,a⟩,⟨g,⟨by simp [ow],fun t x h=>?_⟩⟩⟩
  .have:=VRels.set d c j;unfold TRel;simpa [uW,jU,ow] using this
  .simp only [ow] at h;by_cases f:t=d
   .subst f;by_cases i:t<s.tmps.length
    .rw [gZ i] at h;cases h;exact .inr g.mon.clock
    .rw [dB (by simpa using i)] at h;cases h
   .rw [iM (gQ f)] at h;exact .inl h
theorem yh {c:Nat} {ds:List Nat}:∀ {l:List AT} {i j:Nat} {x:AT},(qZ c ds i l)[j]?=some x->((i+j)∈ds/\x=⟨c,.any false⟩/\j<l.length)\/((i+j) ∉ ds/\l[j]?=some x)
 | [],i,j,x,h=>by simp [qZ] at h
 | a :: l,i,0,x,h=>by
  simp only [qZ,yT,bi] at h
  cases hb:ds.elem i with
  | true=>
   rw [hb] at h;left;exact ⟨by simpa using hb,h.symm,by simp⟩
  | false=>
   rw [hb] at h;right;refine ⟨fun d=>?_,by simpa using h⟩;have:ds.elem i=true:=by simpa using d
   rw [hb] at this;cases this
 | a :: l,i,j+1,x,h=>by
  simp only [qZ,JS] at h;have:=yh h;rw [show i+1+j=i+(j+1) by omega] at this;rcases this with ⟨h1,h2,h3⟩|⟨h1,h2⟩
  .exact .inl ⟨h1,h2,by simp;omega⟩
  .exact .inr ⟨h1,by simpa using h2⟩
theorem yj {c:Nat} {ds:List Nat}:∀ {l:List AT} {i:Nat},(qZ c ds i l).length=l.length
 | [],i=>rfl
 | a :: l,i=>by simp [qZ,yj]
theorem wN:∀ {l:List Oper} {o:Oper} {d:Tmp},o∈l->o.dst=some d->d∈Et l
 | [],o,d,h,_=>by cases h
 | a :: l,o,d,h,hd=>by
  simp only [Et];rcases aN.1 h with rfl|h
  .rw [hd];simp
  .split
   .exact wN h hd
   .exact jJ _ (wN h hd)
theorem VZ (ops:List Oper) (e:Ent):(zP ops e).g=e.g:=by unfold zP;split <;> rfl
theorem Mj {ops:List Oper} {Q c:Ex->St->Prop} {r:Option R} {f:R} (e:BK ops r=some f) (h:∀ q,r=some q->gI Q q)
  (h1:∀ x s,(∀ a,x≠.raise a)->Q x s->c x s) (h2:∀ a s,Q (.raise a) s->c (.raise a) ⟨qZ s.hp.clock (Et ops) 0 s.tmps,s.defs,s.hp⟩):gI c f:=by
 unfold BK at e;split at e
 .cases e
 .rename_i nd s;cases e;intro hn;obtain ⟨d,k1,k2⟩:=h _ rfl hn;have:d=⟨.tt,.normal,s⟩:=by
   unfold One at k1;simp [G.val] at k1;exact k1.symm
  subst this;exact ⟨_,rfl,h1 _ _ (fun a h=>by cases h) k2⟩
 .rename_i nd l _;cases e;intro hn;obtain ⟨d,k1,k2⟩:=h _ rfl hn;refine ⟨zP ops d,?_,?_⟩
  .unfold One at *
   simp only;rw [DR];have:((fun e:Ent=>e.g.val) ∘ zP ops)=fun e:Ent=>e.g.val:=by funext x;simp [VZ]
   rw [this,k1];rfl
  .unfold zP;split
   .rename_i a ha;rw [ha] at k2;exact h2 a _ k2
   .rename_i i;exact h1 _ _ i k2
section heavy
variable {C:Ctx} {r:Rec} {ops:Array Oper} {b:Base} {k:List Item} {cs:List Frame}
theorem Yx (co:CtxOk C) (ro:RecOk C r) {x:It} {l:List It} (ih:vB C r ops b k cs l) (hk:x.k=2) {prev:List It} {pend:nO} {s:St} {q:R}
  (e:xn s (BK ops.toList (BH C r s x.o)) (fun J=>LH (Es C.P J.hp (sO x.bm pend)) (xL C r ops l (sO x.bm pend) J))=some q) (H:PlanOk ops (prev++x :: l)) (al:gG C.P (x :: l)=true)
  {L:Array Bool} {is:List Nat} {own:Nat->Nat} {σ:Sg} {T U:Array Value} {D:List Deferred} {W:World} (g:GRel C σ) (iv:Inv C ops prev (x :: l) L is own pend σ s T U D W) (gi:GuardIs ops s x.o true):
  gI (PostH (Hid (x :: l) L own) σ s W (AtOps C.P ops is b k cs T D W)) q:=by
 obtain ⟨m,L',O,E,U',K,f,ab,gd,hh,ac⟩:=Mi H al (by rw [hk];decide) g b k cs is L own T U W iv (og iv (by rw [hk];decide));refine lJ f.sr.h.ok ⟨gd,TMon.refl _⟩ hh (B:=AtOps C.P ops (x.i :: m) b k cs E D K) ?_ fun _ _ _ _ h=>h.back ac;have ip:=H.it x (by simp);have n:=Iw H f ab;have hi:x.i<L'.size:=by
  cases aj:f.sch with
  | cons hr hs=>exact (nZ f.lsz hr).1
 refine pz (Q1:=fun y s'=>(y=.normal/\Post σ s K (ah3 C.P ops x.i m b k cs x.o.dst E U' D K) y s'/\FC s x.o.dst s')\/(y≠.normal/\PostH (Hid (x :: l) L' O) σ s K (AtOps C.P ops (x.i :: m) b k cs E D K) y s')) (nY f.sr _) ?_ ?_ e ?_
 .rintro J q1 M (⟨-,⟨τ,T1,D1,X,r1,st,_,rfl,V,rfl,w⟩,sh⟩|⟨Y,_⟩)
  case inr=>exact absurd rfl Y
  unfold LH at M;split at M
  .cases M
  .rename_i nd ae;split at M
   .cases M
   .rename_i q2 e2;cases M;intro hn;rw [<- ip.d] at r1 sh w;have af:=OZ (pend':=sO x.bm pend) H f (by rw [hk];decide) r1 st.good sh fun i t ad v ak hb hm hl hv=>by
     have aa:=z8 hm hb;exact ⟨aa,FK ae (Nd.lv hn) i t ad v aa⟩
    have:=ih (prev++[x]) _ J q2 e2 (by simpa using H) (by simp only [gG,aF] at al;exact al.2) _ _ _ τ _ _ _ X (g.mono st.good.sub) af;obtain ⟨en,h1,h2⟩:=lJ (A:=AtOps C.P ops (x.i :: m) b k cs E D1 K) r1.ko st (fun B hB _=>O0 H hi hB) this (fun _ _ _ _ h=>h.back w) (Nd.rv hn);exact ⟨en,h1,h2⟩
 .rintro y J Y (⟨hx,_⟩|⟨_,hp⟩)
  .exact absurd hx Y
  .exact hp
 .intro r0 ag;refine Mj ag (Q:=Op2 C.P ops x.i m b k cs x.o.dst E U' D K σ s) ?_ ?_ ?_
  case refine_2=>
   rintro y J Y (⟨h1,h2,h3⟩|⟨a,ha,_⟩)
   .exact .inl ⟨h1,h2,h3⟩
   .exact absurd ha (Y a)
  case refine_3=>
   rintro a J (⟨h1,_⟩|⟨a',ha,I,hd,τ,X,V,k1,p1,p2,p3,p4⟩)
   .cases h1
   cases ha;refine .inr ⟨(fun h=>by cases h),τ,E,D,X,⟨?_,by simp only [hd];exact DRel.mono p2.sub f.sr.d,p1⟩,⟨Good.hide p2,⟨by simp only [yj,I],fun t u hu=>?_⟩⟩,.inr ⟨_,rfl⟩,k1,V,p3,p4⟩
   .refine Gv ?_ fun j c V' h1 h2=>?_
    .have h3:=f.sr.t.length;have N:=f.siz;simp [yj,I] at h3 ⊢;omega
    .rcases yh h1 with ⟨_,h3,_⟩|⟨h3,N⟩
     .rw [h3];trivial
     .rw [fJ] at h3;have ah:E[j]?=U'[j]?:=by
       refine f.agree j (fun p hp _ hd=>h3 ?_) (fun p hp _ hd=>h3 ?_)
       .have z:=H.it p (by simp [hp]);exact wN (o:=p.o) (by rw [<- Array.mem_def];exact yV z.op) (by rw [<- z.d];exact hd)
       .have z:=H.it p (by simp only [lW];exact .inr hp);exact wN (o:=p.o) (by rw [<- Array.mem_def];exact yV z.op) (by rw [<- z.d];exact hd)
      rw [I] at N;obtain ⟨V2,v1,v2⟩:=f.sr.t.nth (t:=j) (a:=c) (by rw [iX];exact N);rw [ic,ah,v1] at h2;cases h2;exact VRel.mono p2.sub _ _ v2
   .rcases yh hu with ⟨_,h3,_⟩|⟨_,N⟩
    .right;rw [h3];exact p2.mon.clock
    .left;rw [I] at N;exact N
  intro r' F;have ai:∀ cs b,x.o.op≠.select cs b:=fun cs b h=>by
   unfold BH at F;rw [h] at F;simp [jS,dW,h] at F
  have he:execOp (ev E) x.o=execOp (ev U') x.o:=Il ai fun t I=>n t (by rw [ip.look];exact jK _ I);have hw:Region.wanted x.o (yielded ops E)=true:=ru gi f.sr.t fun t I=>n t (by rw [ip.look];exact jH _ I);exact VV co ro F g f.sr he ip.op hw b k cs
theorem Rx {x:It} {l:List It} (I:vB C r ops b k cs l) (n:x.k=2) {prev:List It} {pend:nO} {s:St} {q:R}
  (e:St.put s x.o.dst fE (xL C r ops l (sO x.bm pend))=some q) (f:PlanOk ops (prev++x :: l)) (p:gG C.P (x :: l)=true)
  {L:Array Bool} {is:List Nat} {own:Nat->Nat} {σ:Sg} {T U:Array Value} {D:List Deferred} {W:World} (g:GRel C σ) (iv:Inv C ops prev (x :: l) L is own pend σ s T U D W) (J:GuardIs ops s x.o false):
  gI (PostH (Hid (x :: l) L own) σ s W (AtOps C.P ops is b k cs T D W)) q:=by
 obtain ⟨u,K,E,F,U',w,a,y,M,N,z⟩:=Mi f p (by rw [n];decide) g b k cs is L own T U W iv (og iv (by rw [n];decide));refine lJ a.sr.h.ok ⟨M,TMon.refl _⟩ N (B:=AtOps C.P ops (x.i :: u) b k cs F D w) ?_ fun _ _ _ _ h=>h.back z;have m:=f.it x (by simp);have c:=Iw f a y;have hi:x.i<K.size:=by
  cases H:a.sch with
  | cons O hs=>exact (nZ a.lsz O).1
 have Q:Region.wanted x.o (yielded ops F)=false:=ru J a.sr.t fun t Y=>c t (by rw [m.look];exact jH _ Y);rw [Ko] at e;obtain ⟨r1,st⟩:=Aa (h:=s.hp) (X:=w) (D:=D) a.sr a.sr.h (Good.dom a.sr.h) (v:=fE) (V:=undef) ⟨#[],rfl,rfl⟩ x.o.dst;have sh:=uj s s.hp x.o.dst fE;have j:=Cq s s.hp x.o.dst fE;generalize ow s s.hp x.o.dst fE=s1 at e r1 st sh j;rw [<- m.d] at r1 sh;have A:=OZ (pend':=sO x.bm pend) f a (by rw [n];decide) r1 st.good sh fun i t ad v nd hb hm hl hv=>⟨z8 hm hb,nd,by rw [j];exact hl,hv⟩;have:=I (prev++[x]) _ s1 q e (by simpa using f) (by simp only [gG,aF] at p;exact p.2) _ _ _ σ _ _ _ w g A;refine lJ r1.ko st (fun B hB _=>O0 f hi hB) this fun _ _ _ _ h=>h.back (.one ?_);rw [m.d];exact Ez m.op Q
end heavy
end Go.Eng
namespace Go.Eng
theorem HRel.adopt {σ:Sg} {h:Hp} {W:World} (r:HRel σ h W) {B N:Nat} {b:ABody} {o:Obj} (Q:W.heap[B]?=some o) (Y:∀ i M,σ i≠some (B,M)) (hb:BRel (σ.add h.size (B,N)) N b o) {H:Nat->Prop} (hH:H B):
  HRel (σ.add h.size (B,N)) (h.push b) W/\GoodH H σ h W (σ.add h.size (B,N)) (h.push b) W:=by
 have J:=Sub.add (x:=(B,N)) r.fresh;have hB:B<W.heap.size:=(jd.1 Q).1;refine ⟨⟨Hp.ok_push r.ok b,?_,?_,?_⟩,⟨J,?_,⟨rfl,rfl,rfl,bD _,fun _=>rfl⟩,⟨bD _,by simp [Hp.push],?_,?_⟩,?_,fun _ _ _ _=>rfl⟩⟩
 .intro i c e hd;rw [Hp.get_push] at e;by_cases hi:i=h.size
  .subst hi;simp only [bn,bi] at e;subst e;exact ⟨B,N,o,by simp [Sg.add],Q,hb⟩
  .simp only [hi,bz] at e;obtain ⟨E,M,p,h1,h2,h3⟩:=r.blk i c e hd;exact ⟨E,M,p,J _ _ h1,h2,BRel.mono J h3⟩
 .intro i E M e;unfold Sg.add at e;by_cases hi:i=h.size
  .subst hi;simp only [bn,bi,eH] at e;obtain ⟨rfl,rfl⟩:=e;exact ⟨by simp [Hp.push],hB⟩
  .simp only [hi,bz] at e;have:=r.dom _ _ _ e;exact ⟨by simp [Hp.push];omega,this.2⟩
 .intro i j c d E M K e f hc hd h1 h2;rw [Hp.get_push] at e f;unfold Sg.add at h1 h2;by_cases hi:i=h.size <;> by_cases O:j=h.size
  .omega
  .simp only [hi,O,bn,bz,bi,eH] at h1 h2;obtain ⟨rfl,rfl⟩:=h1;exact absurd h2 (Y _ _)
  .simp only [hi,O,bn,bz,bi,eH] at h1 h2;obtain ⟨rfl,rfl⟩:=h2;exact absurd h1 (Y _ _)
  .simp only [hi,O,bz] at e f h1 h2;exact r.inj i j c d E M K e f hc hd h1 h2
 .intro i x e hi;unfold Sg.add at e;rw [aB (by omega)] at e;exact e
 .intro i b1 c e f;rw [Hp.get_push,aB (jP (Hp.get_lt e)),e] at f;cases f;exact .inl rfl
 .intro i w c e;exact ⟨w,c.state,c.pending,by rw [Hp.get_push,aB (jP (Hp.get_lt e)),e]⟩
 .intro i E M e hi aa;unfold Sg.add at e;by_cases hi:i=h.size
  .subst hi;simp only [bn,bi,eH] at e;obtain ⟨rfl,rfl⟩:=e;exact .inl hH
  .simp only [hi,bz] at e;have:=(r.dom _ _ _ e).1;omega
theorem Made.add {P:Program} {σ:Sg} {W:World} {T:Array Value} {a:It} {B:Nat} (m:Made P σ W T a B) {i:Nat} {x:Nat×Nat} (h:x.1≠B):Made P (σ.add i x) W T a B:=by
 refine ⟨m.k,m.obj,m.ptr,fun j N e=>?_⟩;unfold Sg.add at e;split at e
 .cases e;exact h rfl
 .exact m.free j N e
theorem Kq {P:Program} {h:Hp} {t:TypeId} {ad:AV} {x:Nd×AV} (e:qQ P h t ad=some x):∀ j off,(ad=.ptr j off\/ad=.vptr j off)->∃ y,h.get j=some y:=by
 intro j off a;unfold qQ at e
 cases c:h.get j with
 | none=>rcases a with rfl|rfl <;> (simp only [c] at e;cases e)
 | some y=>exact ⟨y,rfl⟩
theorem Yy {P:Program} {h:Hp} {t:TypeId} {j:Nat} {k:AV} {x:Nd×AV} (e:qm P h t (.tuple [.map j,k])=some x):∃ y,h.get j=some y:=by
 cases c:h.get j with
 | some y=>exact ⟨y,rfl⟩
 | none=>
  simp only [qm,mG,c] at e;split at e
  .cases e
  .rename_i v a
   repeat' (split at a)
   all_goals cases a
theorem V4 {P:Program} {h:Hp} {t:TypeId} {ad:AV} {x:Nd×AV} (e:qm P h t ad=some x):∀ j off,(ad=.ptr j off\/ad=.vptr j off)->∃ y,h.get j=some y:=by
 intro j off a;rcases a with rfl|rfl
 .exact Kq (ad:=.ptr j off) e j off (.inl rfl)
 .exact Kq (ad:=.vptr j off) e j off (.inr rfl)
theorem V5 {C:Ctx} {ops:Array Oper} {prev l:List It} {x:It} {L:Array Bool} {is:List Nat} {own:Nat->Nat} {pend:nO} {σ:Sg} {s:St} {T U:Array Value} {D:List Deferred} {W:World} (J:PlanOk ops (prev++x :: l))
  (iv:Inv C ops prev (x :: l) L is own pend σ s T U D W) (M:L.getD x.i false=true) {t:TypeId} {z:List AV} (Q:x.o.op=.alloc t) (Y:zeroCells C.P t=some z):
  ∃ τ U',Inv C ops (prev++[x]) l L is own pend τ (ow s (s.hp.push (.cells z)) x.d (.ptr s.hp.size 0)) T U' D W/\StepH (Hid (x :: l) L own) σ s W τ (ow s (s.hp.push (.cells z)) x.d (.ptr s.hp.size 0)) W:=by
 have m:=iv.early x (by simp) M;obtain ⟨A,z',K,h1,h2,h3,h4,h5⟩:=m.obj;rw [Q] at h1;cases h1;rw [Y] at h2;cases h2;have hH:Hid (x :: l) L own (own x.i):=⟨x,by simp,M,rfl⟩;obtain ⟨hr,gd⟩:=iv.sr.h.adopt (N:=K.size) (b:=.cells z) h4 m.free ⟨K,t,rfl,h5 _,rfl⟩ hH;obtain ⟨r1,st⟩:=Aa (D:=D) iv.sr hr gd (v:=.ptr s.hp.size 0) (V:=.pointer (some ⟨own x.i,0,none⟩)) ⟨own x.i,K.size,fF,rfl⟩ x.d;have sh:=uj s (s.hp.push (.cells z)) x.d (.ptr s.hp.size 0);have E:=Cq s (s.hp.push (.cells z)) x.d (.ptr s.hp.size 0);refine ⟨_,jU U x.d (.pointer (some ⟨own x.i,0,none⟩)),?_,st⟩;generalize ow s (s.hp.push (.cells z)) x.d (.ptr s.hp.size 0)=s1 at r1 st sh E;obtain ⟨F,j⟩:=vz sh;have X:∀ a∈l,a.i≠x.i:=fun a ha h=>by
  have:=sH J.nodup (x:=a) (y:=x) (by simp [ha]) (by simp) h;subst this;have H:=J.nodup;rw [jN,uK] at H;have:=H.2.1;simp only [dL,mZ] at this;exact this.1 (gy.2 ⟨a,ha,rfl⟩)
 refine ⟨r1,iv.sch,iv.lsz,iv.down,fun p hp I=>?_,fun a ha f=>?_,fun a ha a' u h1 h2=>iv.inj a (by simp [ha]) a' (by simp [u]) h1 h2,fun A h1 h2=>?_,by simp [iv.siz]⟩
 .have w:p∈prev:=by
   rcases lW.1 hp with h|h
   .exact h
   .rw [lU.1 h,M] at I;cases I
  obtain ⟨k0,lt⟩:=iv.late p w I;have q:=fO (pK J.pair w (oJ ..));have fr:=q.fresh (by rw [m.k];decide);refine ⟨k0,lt.next (J.it p (by simp [w])) F (fun t ht a ha=>⟨a,?_,Means.refl _⟩) (fun d hd a ha=>⟨a,?_,Means.refl _⟩) (fun t ad v nd h1 h2 h3=>⟨h1,nd,?_,h3⟩)⟩
  .rw [j t fun e=>(fr t e).1 ht];exact ha
  .rw [j d fun e=>(fr d e).2 hd] at ha;exact ha
  .have n:=V4 h2;rw [E];exact (Io (h:=s.hp) (h':=s.hp.push (.cells z)) (fun O c e=>by obtain ⟨y,n⟩:=n O c (.inl e);rw [Hp.get_push,aB (jP (Hp.get_lt n))])
    (fun O c e=>by obtain ⟨y,n⟩:=n O c (.inr e);rw [Hp.get_push,aB (jP (Hp.get_lt n))])
    (fun O k' e=>by rw [e] at h2;obtain ⟨y,n⟩:=Yy h2;rw [Hp.get_push,aB (jP (Hp.get_lt n))])).trans h2
 .have m':=iv.early a (by simp [ha]) f;exact m'.add fun e=>X a ha (iv.inj x (by simp) a (by simp [ha]) M f e).symm
 .by_cases hd:x.d=some A
  .have hp:=m.ptr A hd;rw [hd];simp only [jU,jG,bn];by_cases g:A<T.size
   .rw [hp g,aC (by rw [<- iv.siz];exact g)]
   .rw [aB (by rw [<- iv.siz];exact g),oG (eP.1 g)]
  .rw [mr hd];refine iv.agree A (fun p hp I=>h1 p (by simp [hp]) I) (fun a ha f=>?_);rcases aN.1 ha with rfl|u
   .exact hd
   .exact h2 a u f
theorem Kr {C:Ctx} {ops:Array Oper} {prev l:List It} {x:It} {L:Array Bool} {is:List Nat} {own:Nat->Nat} {pend pend':nO} {σ:Sg} {s j:St} {T U:Array Value} {V:Value} {D:List Deferred} {W:World} (z:PlanOk ops (prev++x :: l))
  (iv:Inv C ops prev (x :: l) L is own pend σ s T U D W) (n:x.k=0) (sr:SRel σ j (jU U x.d V) D W) (sh:FC s x.d j) (o:j.hp=s.hp) (u:∀ e∈pend,e∈pend') (lt:Late C ops j pend' x):
  Inv C ops (prev++[x]) l L is own pend' σ j T (jU U x.d V) D W:=by
 obtain ⟨m,c⟩:=vz sh;have w:=og iv (by rw [n];decide);refine ⟨sr,iv.sch,iv.lsz,iv.down,fun p hp y=>?_,fun a ha f=>iv.early a (by simp [ha]) f,fun a ha a' g h1 h2=>iv.inj a (by simp [ha]) a' (by simp [g]) h1 h2,fun A h1 h2=>?_,by simp [iv.siz]⟩
 .rcases lW.1 hp with i|h
  .obtain ⟨k0,lt⟩:=iv.late p i y;have q:=fO (pK z.pair i (oJ ..));have fr:=q.fresh (by rw [n];decide);refine ⟨k0,lt.next (z.it p (by simp [i])) m (fun t E a ha=>⟨a,?_,Means.refl _⟩) (fun d hd a ha=>⟨a,?_,Means.refl _⟩) (fun t ad v nd h1 h2 h3=>⟨u _ h1,nd,?_,h3⟩)⟩
   .rw [c t fun e=>(fr t e).1 E];exact ha
   .rw [c d fun e=>(fr d e).2 hd] at ha;exact ha
   .rw [o];exact h2
  .rw [lU.1 h];exact ⟨n,lt⟩
 .have hd:x.d≠some A:=h1 x (by simp) w;rw [mr hd];refine iv.agree A (fun p hp y=>h1 p (by simp [hp]) y) (fun a ha f=>?_);rcases aN.1 ha with rfl|g
  .exact hd
  .exact h2 a g f
section plan
variable {C:Ctx} {r:Rec} {ops:Array Oper} {b:Base} {k:List Item} {cs:List Frame}
theorem Yz {x:It} {l:List It} (ih:vB C r ops b k cs l) (Q:x.k=1) {prev:List It} {pend:nO} {s:St} {q:R}
  (e:(match LG C s x pend with
     | none=>none
     | some pend'=>xn s (jS C s x.o) (xL C r ops l pend'))=some q) (A:PlanOk ops (prev++x :: l)) (E:gG C.P (x :: l)=true)
  {L:Array Bool} {is:List Nat} {own:Nat->Nat} {σ:Sg} {T U:Array Value} {D:List Deferred} {W:World} (g:GRel C σ) (iv:Inv C ops prev (x :: l) L is own pend σ s T U D W):
  gI (PostH (Hid (x :: l) L own) σ s W (AtOps C.P ops is b k cs T D W)) q:=by
 have ip:=A.it x (by simp);obtain ⟨t,z,n,hz⟩:=uz E x (by simp) Q;have:∃ m w j F N p,Inv C ops prev (x :: l) w m j pend σ s F N D p/\w.getD x.i false=true/\Good σ s.hp W σ s.hp p/\(∀ B,Hid (x :: l) w j B->B<W.heap.size->Hid (x :: l) L own B) /\
   Steps C.P (lone (b.fr T D (.inRegion ops is :: k)) cs W) (lone (b.fr F D (.inRegion ops m :: k)) cs p):=by
  cases hl:L.getD x.i false with
  | true=>exact ⟨is,L,own,T,U,W,iv,hl,Good.dom iv.sr.h,fun _ h _=>h,.refl _ _⟩
  | false=>
   obtain ⟨m,w,j,F,N,p,f,af,O,X,u⟩:=Mi A E (by rw [Q];decide) g b k cs is L own T U W iv hl;obtain ⟨Y,H,W2,I,g2,h2,aa⟩:=Km A E (oJ ..) Q f b k cs;have hi:x.i<w.size:=by
    cases ae:f.sch with
    | cons hr hs=>exact (nZ f.lsz hr).1
   exact ⟨m,_,H,Y,N,W2,I,by rw [getD_set hi,aC rfl],O.trans f.sr.h.ok I.sr.h.ok g2,fun B hB J=>X B (h2 B hB (dZ J O.ext.size)) J,u.trans aa⟩
 obtain ⟨m,w,j,F,N,p,f,ab,O,X,u⟩:=this;refine lJ f.sr.h.ok ⟨O,TMon.refl _⟩ X (B:=AtOps C.P ops m b k cs F D p) ?_ fun _ _ _ _ h=>h.back u;have K:LG C s x pend=some pend:=by simp [LG,n]
 rw [K] at e;simp only at e;obtain ⟨τ,U1,M,st⟩:=V5 A f ab n hz;refine pz (Q1:=fun y s'=>y=.normal/\s'=ow s (s.hp.push (.cells z)) x.d (.ptr s.hp.size 0)) (nY f.sr _) ?_ ?_ e ?_
 .rintro s1 q1 e1 ⟨_,rfl⟩
  have:=ih (prev++[x]) _ _ q1 e1 (by simpa using A) (by simp only [gG,aF] at E;exact E.2) _ _ _ τ _ _ _ p (g.mono st.good.sub) M;intro hn;obtain ⟨en,h1,ac,Y,D2,X2,h2,h3,h4⟩:=this hn;exact ⟨en,h1,ac,Y,D2,X2,h2,StepH.next M.sr.h.ok h2.h.ok st h3 fun B ⟨a,ha,p1,p2⟩ _=>⟨a,by simp [ha],p1,p2⟩,h4⟩
 .rintro y s1 hy ⟨hx,_⟩
  exact absurd hx hy
 .intro r' c;have hs:dW C s x.o.op=BF C.P s.hp t:=by rw [n];rfl
  unfold jS at c;rw [hs] at c;unfold BF at c;rw [hz] at c;simp only at c;split at c
  .cases c
  .rename_i nd v h hq;split at hq
   .cases hq;rw [putSt_put',<- ip.d] at c;cases c;exact fun _=>⟨_,rfl,rfl,rfl⟩
   .cases hq
theorem YA {x:It} {l:List It} (ih:vB C r ops b k cs l) (Q:x.k=0) {prev:List It} {pend:nO} {s:St} {q:R}
  (e:(match LG C s x pend with
     | none=>none
     | some pend'=>xn s (jS C s x.o) (xL C r ops l pend'))=some q) (N:PlanOk ops (prev++x :: l)) (al:gG C.P (x :: l)=true)
  {L:Array Bool} {is:List Nat} {own:Nat->Nat} {σ:Sg} {T U:Array Value} {D:List Deferred} {W:World} (g:GRel C σ) (iv:Inv C ops prev (x :: l) L is own pend σ s T U D W) (gi:GuardIs ops s x.o true):
  gI (PostH (Hid (x :: l) L own) σ s W (AtOps C.P ops is b k cs T D W)) q:=by
 have O:=N.it x (by simp);split at e
 .cases e
 .rename_i pend' c;have F:∀ y∈pend,y∈pend':=by
   intro y z;unfold LG at c;split at c
   .split at c
    .split at c
     .cases c;exact jJ _ z
     .cases c
    .split at c
     .cases c;exact jJ _ z
     .cases c
    .cases c
   .split at c
    .cases c;exact z
    .split at c
     .cases c;exact jJ _ z
     .cases c
   .cases c;exact z
  refine pz (Q1:=fun y A=>y=.normal/\∃ V,SRel σ A (jU U x.d V) D W/\Step σ s W σ A W/\FC s x.d A/\A.hp=s.hp/\Late C ops A pend' x) (nY iv.sr _) ?_ ?_ e ?_
  .rintro A q1 e1 ⟨_,V,r1,st,sh,i,lt⟩
   have Y:=Kr N iv Q r1 sh i F lt;have:=ih (prev++[x]) _ _ q1 e1 (by simpa using N) (by simp only [gG,aF] at al;exact al.2) _ _ _ σ _ _ _ W g Y;exact lJ r1.ko st (fun B ⟨a,ha,p1,p2⟩ _=>⟨a,by simp [ha],p1,p2⟩) this fun _ _ _ _ h=>h
  .rintro y A z ⟨hx,_⟩
   exact absurd hx z
  .intro r' m;unfold jS at m;split at m
   .cases m
   .rename_i nd v h p;rw [putSt_put',<- O.d] at m;cases m;intro hn;obtain ⟨τ,V,X,rr,h1,h2,h3,h4,h5⟩:=zU g iv.sr.t iv.sr.h p hn;have hq:=(FD (s':=s) (O.k ▸ Q) p (fun _ _=>rfl) (fun _ _ _ _=>rfl) fun _ _ _ _ _=>rfl).1;simp only at hq;subst hq;have aa:=Ip h5 h4;subst aa;obtain ⟨r1,st⟩:=Aa (D:=D) iv.sr iv.sr.h (Good.dom iv.sr.h) h3 x.d;have sh:=uj s s.hp x.d v;have i:=Cq s s.hp x.d v;obtain ⟨H,I⟩:=vz sh;have E:=N.self x (by simp) (by rw [Q];decide);have J:∀ t∈x.look,(ow s s.hp x.d v).tmps[t]?=s.tmps[t]?:=fun t K=>I t fun hd=>E t hd K;refine ⟨_,rfl,rfl,V,r1,st,sh,i,.inl ⟨?_,s,⟨nd,v,s.hp⟩,⟨p,hn,H.symm,fun t K a ha=>⟨a,?_,Means.refl _⟩,fun d a' hd f=>?_,fun t a M=>?_,fun t a b M=>?_⟩⟩⟩
    .exact gi.next fun t K a ha=>⟨a,by rw [J t (by rw [O.look];exact jH _ K)];exact ha,Means.refl _⟩
    .rw [J t (by rw [O.look];exact jK _ K)];exact ha
    .rw [hd] at f;simp only [ow] at f;have ab:d<s.tmps.length:=by
      rcases aX d s.tmps.length with h'|h'
      .exact h'
      .rw [dB (by simpa using h')] at f;cases f
     rw [gZ ab] at f;cases f;exact Means.refl _
    .simp only [i];unfold LG at c;rw [M] at c;simp only at c;have u:dW C s x.o.op=qh s.hp (qQ C.P s.hp t (bv C s a)):=by rw [M];rfl
     split at c
     .rename_i j off ha;split at c
      .rename_i n v1 w;cases c;rw [u,ha,w] at p;cases p;exact ⟨_,nd,ha,by simp,w,hn,fun _=>rfl⟩
      .cases c
     .rename_i j off ha;split at c
      .rename_i n v1 w;cases c;rw [u,ha,w] at p;cases p;exact ⟨_,nd,ha,by simp,w,hn,fun _=>rfl⟩
      .cases c
     .cases c
    .simp only [i];unfold LG at c;rw [M] at c;simp only at c;have u:dW C s x.o.op=kw s.hp (mG C.P s.hp t (bv C s a) (bv C s b) false):=by rw [M];rfl
     split at c
     .rename_i v1 w;cases c;rw [u,w] at p;cases p;exact ⟨.tt,by simp,by simp only [qm,w],trivial⟩
     .cases c
theorem Ry {x:It} {l:List It} (E:vB C r ops b k cs l) (w:x.k=0) {prev:List It} {pend:nO} {s:St} {q:R}
  (e:St.put s x.o.dst fE (xL C r ops l pend)=some q) (j:PlanOk ops (prev++x :: l)) (y:gG C.P (x :: l)=true)
  {L:Array Bool} {is:List Nat} {own:Nat->Nat} {σ:Sg} {T U:Array Value} {D:List Deferred} {W:World} (g:GRel C σ) (iv:Inv C ops prev (x :: l) L is own pend σ s T U D W) (F:GuardIs ops s x.o false):
  gI (PostH (Hid (x :: l) L own) σ s W (AtOps C.P ops is b k cs T D W)) q:=by
 have z:=j.it x (by simp);rw [Ko,<- z.d] at e;obtain ⟨r1,st⟩:=Aa (h:=s.hp) (X:=W) (D:=D) iv.sr iv.sr.h (Good.dom iv.sr.h) (v:=fE) (V:=undef) ⟨#[],rfl,rfl⟩ x.d;have sh:=uj s s.hp x.d fE;have m:=Cq s s.hp x.d fE;obtain ⟨A,i⟩:=vz sh;have f:=j.self x (by simp) (by rw [w];decide);have lt:Late C ops (ow s s.hp x.d fE) pend x:=by
  refine .inr ⟨F.next fun t H a ha=>⟨a,?_,Means.refl _⟩,fun d a' hd c σ=>?_⟩
  .rw [i t fun hd=>f t hd (by rw [z.look];exact jH _ H)];exact ha
  .rw [hd] at c;simp only [ow] at c;have n:d<s.tmps.length:=by
    rcases aX d s.tmps.length with p|p
    .exact p
    .rw [dB (by simpa using p)] at c;cases c
   rw [gZ n] at c;cases c;exact ⟨#[],rfl,rfl⟩
 have u:=Kr j iv w r1 sh m (fun _ h=>h) lt;have:=E (prev++[x]) _ _ q e (by simpa using j) (by simp only [gG,aF] at y;exact y.2) _ _ _ σ _ _ _ W g u;exact lJ r1.ko st (fun B ⟨a,ha,I,p2⟩ _=>⟨a,by simp [ha],I,p2⟩) this fun _ _ _ _ h=>h
theorem adQ (o:Oper):sM o=0\/sM o=1\/sM o=2:=by
 unfold sM
 repeat' split
 all_goals simp
theorem Ue (X:CtxOk C) (Y:RecOk C r):∀ l:List It,vB C r ops b k cs l
 | []=>by
  intro prev pend s q e i A L is own σ T U D W g iv;cases e;obtain ⟨U',W',r1,gd,st⟩:=finish i g b k cs is L own T U W iv;exact fun _=>⟨_,rfl,σ,U',D,W',r1,⟨Good.hide gd,TMon.refl _⟩,.inl rfl,st⟩
 | x :: l=>by
  have F:=Ue X Y l;intro prev pend s q e i A L is own σ T U D W g iv;simp only [xL] at e;rw [xW] at e;obtain ⟨H,J⟩:=nI iv.sr;have c:=iv.same i (VX s) H;refine lJ H.ko J (fun _ h _=>h) (B:=AtOps C.P ops is b k cs T D W) ?_ fun _ _ _ _ h=>h;change gI (PostH (Hid (x :: l) L own) σ (Rw s) W (AtOps C.P ops is b k cs T D W)) q;generalize K:Rw s=n at c;have M:(⟨s.tmps,s.defs,⟨s.hp.blks,s.hp.size,s.hp.clock+1⟩⟩:St)=n:=K;rw [M] at e;have N:=i.it x (by simp);have j:∀ (n:St) (q:R),Inv C ops prev (x :: l) L is own pend σ n T U D W ->
    (match Nat.beq x.k 2 with
     | true=>zO ops n x.o
      (fun s=>xn s (BK ops.toList (BH C r s x.o)) fun n=>LH (Es C.P n.hp (sO x.bm pend)) (xL C r ops l (sO x.bm pend) n))
      (fun s=>St.put s x.o.dst fE (xL C r ops l (sO x.bm pend)))
     | false=>zO ops n x.o
      (fun s=>match LG C s x pend with
       | none=>none
       | some w=>xn s (jS C s x.o) (xL C r ops l w))
      (fun s=>St.put s x.o.dst fE (xL C r ops l pend)))=some q->gI (PostH (Hid (x :: l) L own) σ n W (AtOps C.P ops is b k cs T D W)) q:=by
   intro n q c e;split at e
   .rename_i p;have y:x.k=2:=aP p;exact wM e c.sr (fun s' z u sm f t=>Yx X Y F y u i A g (c.same i sm f) t) (fun s' z u sm f t=>Rx F y u i A g (c.same i sm f) t)
   .rename_i p;have p:x.k≠2:=fun h=>by rw [h] at p;cases p
    rcases adQ x.o with E|E|E
    .have y:x.k=0:=by rw [N.k,E]
     exact wM e c.sr (fun s' z u sm f t=>YA F y u i A g (c.same i sm f) t) (fun s' z u sm f t=>Ry F y u i A g (c.same i sm f) t)
    .have y:x.k=1:=by rw [N.k,E]
     refine wM e c.sr (fun s' z u sm f t=>Yz F y u i A g (c.same i sm f)) (fun s' z u sm f t=>?_);unfold GuardIs at t;rw [Iq E] at t;cases t
    .exact absurd (by rw [N.k,E]) p
  unfold ah2 at e;split at e
  .exact j n q c e
  .rename_i d v hh;split at e
   .rename_i a ha;split at e
    .rename_i m hm;rw [q9] at e;split at e
     .cases e
     .rename_i z O;cases e;intro hn;obtain ⟨I,Q⟩:=OW c.sr ha hm (Nd.lv hn);have sm:=OV (by rw [<- iX];exact ha) hm (Nd.lv hn);have:=j _ z (c.same i sm I) O (Nd.rv hn);obtain ⟨en,h1,h2⟩:=this;exact ⟨en,h1,PostH.back I.ko Q (fun _ h _=>h) h2⟩
    .exact j n q c e
   .exact j n q c e
end plan
theorem V6 {l:List It} {n:Nat} {own:Nat->Nat} {B:Nat}:¬ Hid l (Array.replicate n false) own B:=by
 rintro ⟨a,_,h,_⟩
 simp [mO,JQ] at h;split at h <;> simp_all
theorem Bg {n i:Nat}:(Array.replicate n false).getD i false=false:=by simp only [mO,JQ];split <;> rfl
theorem adR {C:Ctx} {r:Rec} (n:CtxOk C) (v:RecOk C r):Rp C r:=by
 intro fr i ops l s q c ha e σ T D W g sr b k u cs j H;rcases j with rfl|⟨a,h,_⟩
 .have w:=n.prog.mixed;have st:=adL (P:=C.P) (b:=b) (T:=T) (D:=D) (k:=k) (cs:=cs) (W:=W) (i:=i) (ops:=ops);rw [w] at st;have x:=VW c;have iv:Inv C ops [] l (Array.replicate ops.size false) (Region.schedule true ops (W.tape W.drawn (.order b.fn i))) (fun _=>0) [] σ s T T D W.drew:=by
   refine ⟨⟨sr.t,sr.d,(HRel.world (W:=W) (V:=W.drew) sr.h rfl)⟩,adO _,by simp,fun i o I c=>?_,fun p hp=>(by cases hp),fun a ha c=>?_,fun a ha a' y h1=>?_,fun _ _ _=>rfl,rfl⟩
   .rw [Bg] at c;cases c
   .rw [Bg] at c;cases c
   .rw [Bg] at h1;cases h1
  have:=Ue (b:=b) (k:=k) (cs:=cs) n v l [] [] s q e x ha _ _ _ σ T T D W.drew g iv;intro hn;obtain ⟨z,h1,τ,A,E,V,r1,m,J,f⟩:=this hn;refine ⟨z,h1,τ,A,E,V,r1,?_,?_⟩
  .exact StepH.next iv.sr.h.ok r1.h.ok ⟨Good.drew sr.h,TMon.refl _⟩ m fun B F _=>V6 F
  .exact .of_steps (.one st) f
 .cases h
theorem dw {C:Ctx} (a:CtxOk C) (n:Nat):RecOk C (run C n):=run_ok a (fun _ c=>adR a c) n
end Go.Eng
namespace Go.Eng
noncomputable section
def ED (r:Rec) (fr:AFr) (a:Code):Nat->St->Option R
 | 0,_=>some ⟨.p False,[]⟩
 | k+1,s=>xn s (r.code fr a s) (ED r fr a k)
theorem EF {C:Ctx} {r:Rec} (t:RecOk C r) {fr:AFr} {a:Code}:∀ (k:Nat) (s:St) (q:R),ED r fr a k s=some q->CodeOk C fr (.loop a) s q
 | 0,s,q,e=>by
  cases e;intro σ T D W g sr b k f cs i o hn;exact hn.elim
 | n+1,s,q,e=>by
  intro σ T D W g sr b k f cs i o;have j:gI (Post σ s W (Arr C.P (lone (b.fr T D (.code a :: .inLoop a :: k)) cs W) b k cs)) q:=by
   refine pz (Q1:=Post σ s W (Arr C.P (lone (b.fr T D (.code a :: .inLoop a :: k)) cs W) b (.inLoop a :: k) cs)) (kr sr _) ?_ ?_ e ?_
   .rintro u v p ⟨τ,l,m,V,r1,d,w⟩
    have:=EF t n u v p τ l m V (g.mono d.good.sub) r1 b k (.inLoop a :: k) cs (.inr ⟨a,rfl,rfl⟩) (o.mono d.good.sub);exact jl r1.ko d this fun x E F X h=>.of_steps w h
   .rintro x u y ⟨τ,l,m,V,r1,d,h⟩
    exact ⟨τ,l,m,V,r1,d,h.pass rfl y⟩
   .intro v p;exact t.code _ _ _ _ p σ T D W g sr b (.inLoop a :: k) _ cs (.inl rfl) o
  intro hn;obtain ⟨z,h1,h2⟩:=j hn;refine ⟨z,h1,h2.imp fun l m V h=>?_⟩;rcases i with rfl|⟨c,A,rfl⟩
  .exact .of_steps (.one BZ) h
  .cases A;exact .of_steps (.one nG) h
structure Quiet (W X:World):Prop where
 ext:Ext W X
 old:∀ B,B<W.heap.size->X.heap[B]?=W.heap[B]?
theorem Quiet.refl (W:World):Quiet W W:=⟨Ext.refl W,fun _ _=>rfl⟩
theorem HRel.quiet {σ:Sg} {h:Hp} {W X:World} (r:HRel σ h W) (q:Quiet W X):HRel σ h X/\Good σ h W σ h X:=by
 refine ⟨⟨r.ok,fun i b hb hd=>?_,fun i B N e=>?_,r.inj⟩,⟨Sub.refl _,fun _ _ e _=>e,q.ext,Mon.refl _,fun i B N e hi _=>absurd (r.dom i B N e).1 (eP.2 hi),fun B E _ _=>q.old B E⟩⟩
 .obtain ⟨B,N,J,h1,h2,h3⟩:=r.blk i b hb hd;exact ⟨B,N,J,h1,by rw [q.old B (r.dom _ _ _ h1).2];exact h2,h3⟩
 .have:=r.dom i B N e;exact ⟨this.1,dZ this.2 q.ext.size⟩
abbrev eT:=List AV->Option (Nd×AV)
structure PureOk (P:Program) (f:FuncId) (spec:eT):Prop where
 fn:∃ fn:Func,P.funcs[f]?=some fn/\fn.body.isSome=true
 run:∀ args nd v,spec args=some (nd,v)->nd.val->∀ (σ:Sg) (A:Array Value) (W:World),VRels σ args A.toList->∀ cs:List Frame,∃ V X fr,VRel σ v V/\Quiet W X/\Steps P (lone (Frame.enter P f A .normal) cs W) (lone fr cs X)/\A7 P f .normal fr V X
def Uf:List (FuncId×eT)->FuncId->List AV->Hp->Option (Nd×AV×List ABody)
 | [],_,_,_=>none
 | (g,s) :: l,f,args,h=>match Nat.beq f g with
  | true=>match s args with
   | none=>none
   | some (nd,v)=>some (nd,v,[])
  | false=>Uf l f args h
theorem Iy:∀ {l:List (FuncId×eT)} {f:FuncId} {args:List AV} {h:Hp} {nd:Nd} {v:AV} {bs:List ABody},Uf l f args h=some (nd,v,bs)->bs=[]/\∃ s,(f,s)∈l/\s args=some (nd,v)
 | [],_,_,_,_,_,_,e=>by cases e
 | (g,s) :: l,f,args,h,nd,v,bs,e=>by
  simp only [Uf] at e;split at e
  .rename_i hb;have:=aP hb;subst this;split at e
   .cases e
   .rename_i a;cases e;exact ⟨rfl,s,by simp,a⟩
  .obtain ⟨h1,s',h2,h3⟩:=Iy e;exact ⟨h1,s',by simp [h2],h3⟩
def mkC (P:Program) (a:List (FuncId×eT)) (ext:FuncId->List AV->Option (Nd×AV)):Ctx:={ P,glob:=fun _=>none,con:=Uf a,ext,loop:=fun _ _ _=>none }
def Cr (P:Program) (a:List (FuncId×eT)):Prop:=∀ x∈a,PureOk P x.1 x.2
def O1 (P:Program) (ext:FuncId->List AV->Option (Nd×AV)):Prop:=∀ f args nd v,ext f args=some (nd,v)->nd.val->∀ (σ:Sg) (A:Array Value) (W:World),VRels σ args A.toList->∃ V,VRel σ v V/\(callFunc f A).run P W=.ok (.value V) W
theorem PureOk.call {C:Ctx} {f:FuncId} {spec:eT} (p:PureOk C.P f spec) {args:List AV} {nd:Nd} {v:AV} (e:spec args=some (nd,v)) (h:Hp):CallOk C f args h ⟨nd,[⟨.tt,v,h⟩]⟩:=by intro σ A W g r ha hn cs;obtain ⟨V,X,fr,h1,h2,h3,E⟩:=p.run args nd v e hn σ A W ha cs;obtain ⟨J,O⟩:=r.quiet h2;exact ⟨_,rfl,σ,V,X,fr,h1,J,O,h3,E⟩
theorem wO {P:Program} (hp:ProgOk P) {a:List (FuncId×eT)} (c:Cr P a) {ext:FuncId->List AV->Option (Nd×AV)} (d:O1 P ext):CtxOk (mkC P a ext):=
 ⟨hp,fun f args h nd v bs e=>by
  obtain ⟨rfl,s,h1,h2⟩:=Iy e;exact ⟨(c _ h1).call (C:=mkC P a ext) h2 h,(c _ h1).fn⟩,d,fun _ _ _ _ e=>(by cases e),fun _ _ _ _ _ _ _ e=>(by cases e)⟩
def lw:FuncId->List AV->Option (Nd×AV):=fun _ _=>none
theorem iY (P:Program):O1 P lw:=fun _ _ _ _ e=>by cases e
def jr:Option CR->Option (Nd×AV)
 | some ⟨nd,[⟨.tt,v,_⟩]⟩=>match v.isPanic with
  | true=>none
  | false=>some (nd,v)
 | _=>none
theorem Kt {q:Option CR} {nd:Nd} {v:AV} (e:jr q=some (nd,v)):∃ h,q=some ⟨nd,[⟨.tt,v,h⟩]⟩/\v.isPanic=false:=by
 unfold jr at e;split at e
 .split at e
  .cases e
  .rename_i a;cases e;exact ⟨_,rfl,a⟩
 .cases e
theorem Cs {g:G} {v:AV} {k:Hp} (h:v.isPanic=false):Yb [⟨g,v,k⟩]:=fun e a=>by rw [lU.1 a];exact h
theorem YB {C:Ctx} (l:CtxOk C) (m:∀ g,C.glob g=none) {n:Nat} {f:FuncId} {spec:eT} (h:∀ args nd v,spec args=some (nd,v)->nd.val->∃ a nd0 v0,
  (∀ σ L,VRels σ args L->VRels (fun _=>none) a L)/\jr ((run C n).call f a ⟨[],0,1⟩)=some (nd0,v0)/\nd0.val/\∀ τ V,VRel τ v0 V->∀ σ,VRel σ v V) (fn:∃ fn:Func,C.P.funcs[f]?=some fn/\fn.body.isSome=true):PureOk C.P f spec:=by
 refine ⟨fn,fun args nd v e hn σ A W ha cs=>?_⟩;obtain ⟨a,nd0,v0,h1,h2,h3,o⟩:=h args nd v e hn;obtain ⟨hp,p,d⟩:=Kt h2;have r:HRel (fun _=>none) ⟨[],0,1⟩ W:=⟨rfl,fun i b h=>(by rw [Hp.get_eq] at h;simp at h),fun i B N h=>(by cases h),fun i j b c B N M h=>(by rw [Hp.get_eq] at h;simp at h)⟩;obtain ⟨x,k1,τ,V,X,fr,k2,t,k4,q,k6⟩:=(((dw l n).call f a _ _ p).1.ok (Cs d)) (fun _=>none) A W (fun g i h=>(by rw [m] at h;cases h)) r (h1 σ _ ha) h3 cs;have:x=⟨.tt,v0,hp⟩:=by unfold l9 at k1;simp [G.val] at k1;exact k1.symm
 subst this;exact ⟨V,X,fr,o τ V k2 σ,⟨k4.ext,fun B s=>k4.keep B s id fun i N c e=>by cases e⟩,q,k6⟩
theorem Iz {P:Program} {f:FuncId} {spec:eT} (fn:∃ fn:Func,P.funcs[f]?=some fn/\fn.body.isSome=true)
  (h:∀ args nd v,spec args=some (nd,v)->nd.val->∀ (σ:Sg) (A:Array Value) (W:World),VRels σ args A.toList->∃ V,VRel σ v V/\Calls P f A W fun e w'=>e=.returned V/\w'=W):PureOk P f spec:=by
 refine ⟨fn,fun args nd v e hn σ A W ha cs=>?_⟩;obtain ⟨V,h1,h2⟩:=h args nd v e hn σ A W ha;obtain ⟨m,X,fr,⟨rfl,rfl⟩,k1,k2,c⟩:=h2 cs;obtain ⟨d,g,i,a,j,l⟩:=c;exact ⟨V,_,fr,h1,Quiet.refl _,k1,d,g,i,k2,a,k2 ▸ j,l⟩
def Ab (n:Nat):ABody->Bool
 | .cells l=>AV.underL n l
 | .view l=>AV.underL n l
 | .hold l=>AV.underL n l
 | .map es=>AV.underL n (es.map (·.1))&&AV.underL n (es.map (·.2))
 | _=>false
def lZ (n:Nat):List ABlk->Bool
 | []=>true
 | b :: l=>Ab n b.body&&lZ n l
def ym:ABody->ABody->Bool
 | .cells l,.cells m=>qf l m
 | .view l,.view m=>qf l m
 | .hold l,.hold m=>qf l m
 | .map es,.map a=>qf (es.map (·.1)) (a.map (·.1))&&qf (es.map (·.2)) (a.map (·.2))
 | _,_=>false
theorem FL:∀ {l m:List (AV×AV)},l.map (·.1)=m.map (·.1)->l.map (·.2)=m.map (·.2)->l=m
 | [],[],_,_=>rfl
 | [],_ :: _,h,_=>by simp at h
 | _ :: _,[],h,_=>by simp at h
 | (a,b) :: l,(c,d) :: m,h,k=>by
  simp only [dL,lV] at h k;rw [h.1,k.1,FL h.2 k.2]
theorem O3 {a b:ABody} (h:ym a b=true):a=b:=by
 unfold ym at h;split at h
 .rw [kC _ _ h]
 .rw [kC _ _ h]
 .rw [kC _ _ h]
 .simp only [aF] at h;rw [FL (kC _ _ h.1) (kC _ _ h.2)]
 .cases h
def gz (hG h:Hp):Nat->Bool
 | 0=>true
 | n+1=>gz hG h n&&(match h.get n with
  | none=>false
  | some b=>match hG.get n with
   | none=>false
   | some c=>ym b.body c.body)
theorem pU {hG h:Hp}:∀ {n:Nat},gz hG h n=true->∀ i,i<n->∃ b c,h.get i=some b/\hG.get i=some c/\b.body=c.body
 | 0,_,i,hi=>absurd hi (rM i)
 | n+1,e,i,hi=>by
  simp only [gz,aF] at e;rcases aX i n with h1|h1
  .exact pU e.1 i h1
  .have:i=n:=by omega
   subst this;have a:=e.2;split at a
   .cases a
   .rename_i b hb;split at a
    .cases a
    .rename_i c d;exact ⟨b,c,hb,d,O3 a⟩
def allOld (c:Nat):List ABlk->Bool
 | []=>true
 | b :: l=>Nat.blt b.wr c&&allOld c l
theorem Bh {c:Nat}:∀ {l:List ABlk},allOld c l=true->∀ b∈l,b.wr<c
 | [],_,b,h=>by cases h
 | a :: l,e,b,h=>by
  simp only [allOld,aF] at e;rcases aN.1 h with rfl|h
  .exact qL e.1
  .exact Bh e.2 b h
def ah4:List (FuncId×List AV×AV)->FuncId->List AV->Option AV
 | [],_,_=>none
 | (g,as,v) :: l,f,args=>match Nat.beq f g&&qf args as with
  | true=>some v
  | false=>ah4 l f args
def adS (hG:Hp) (a:List (FuncId×List AV×AV)) (f:FuncId) (args:List AV) (h:Hp):Option (Nd×AV×List ABody):=
 match ah4 a f args with
 | none=>none
 | some v=>match gz hG h hG.size with
  | true=>some (.tt,v,[])
  | false=>none
def mkM (P:Program) (glob:Nat->Option Nat) (hG:Hp) (a:List (FuncId×List AV×AV)) (ext:FuncId->List AV->Option (Nd×AV)):Ctx:={ P,glob,con:=adS hG a,ext,loop:=fun _ _ _=>none }
structure MemoOk (P:Program) (glob:Nat->Option Nat) (hG:Hp) (x:FuncId×List AV×AV):Prop where
 call:∀ h,gz hG h hG.size=true->CallOk (mkM P glob hG [] lw) x.1 x.2.1 h ⟨.tt,[⟨.tt,x.2.2,h⟩]⟩
 fn:∃ fn:Func,P.funcs[x.1]?=some fn/\fn.body.isSome=true
theorem adT {h:Hp} {i:Nat} {b:ABlk} (e:h.get i=some b):b∈h.blks:=by
 rw [Hp.get_eq] at e;split at e
 .exact jg e
 .cases e
theorem Az {n:Nat}:∀ {l:List ABlk},lZ n l=true->∀ b∈l,Ab n b.body=true
 | [],_,b,h=>by cases h
 | a :: l,e,b,h=>by
  simp only [lZ,aF] at e;rcases aN.1 h with rfl|h
  .exact e.1
  .exact Az e.2 b h
theorem tF {n:Nat}:∀ {l:List AV},AV.underL n l=true ↔ ∀ a∈l,a.under n=true
 | []=>by simp [AV.underL]
 | a :: l=>by simp [AV.underL,tF (l:=l)]
theorem BRel.low {σ:Sg} {n N:Nat} {b:ABody} {o:Obj} (h:BRel σ N b o) (u:Ab n b=true):BRel (σ.low n) N b o:=by
 cases b with
 | cells l=>
  obtain ⟨K,e,h1,h2,h3⟩:=h;exact ⟨K,e,h1,VRels.low _ _ h2 u,h3⟩
 | view l=>
  obtain ⟨K,e,fr,h1,h2⟩:=h;exact ⟨K,e,fr,h1,VRels.low _ _ h2 u⟩
 | hold l=>
  obtain ⟨K,e,fr,h1,h2⟩:=h;exact ⟨K,e,fr,h1,VRels.low _ _ h2 u⟩
 | map es=>
  simp only [Ab,aF] at u;obtain ⟨E,c,J,h1,hp,hn,h2,h3⟩:=h;exact ⟨E,c,J,h1,hp,hn,VRels.low _ _ h2 (tF.2 fun a ha=>tF.1 u.1 a ((hp.map _).mem_iff.1 ha)),VRels.low _ _ h3 (tF.2 fun a ha=>tF.1 u.2 a ((hp.map _).mem_iff.1 ha))⟩
 | _=>cases u
end
end Go.Eng
