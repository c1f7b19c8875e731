/- What is proved: MtfTwo returns true, whatever the input (part 4). No conditions beyond those of the row. -/
import Derived.Test.YtbiiiloimbjpaaaGreatDoorPC
import Derived.Recover
set_option linter.unusedVariables false
set_option linter.unusedSimpArgs false
set_option linter.unusedSectionVars false
namespace Go.Eng
structure Base where
 fn:FuncId
 kind:CallKind
 round:Option Nat
def Base.fr (b:Base) (T:Array Value) (D:List Deferred) (todo:List Item):Frame:=
 { fn:=b.fn,tmps:=T,todo,defers:=D,mode:=.run,kind:=b.kind,roundOf:=b.round }
def Base.pan (b:Base) (T:Array Value) (D:List Deferred) (todo:List Item) (V:Value):Frame:=
 { fn:=b.fn,tmps:=T,todo,defers:=D,mode:=.panicking [{ v:=V,recovered:=false }],kind:=b.kind,roundOf:=b.round }
theorem Base.raise_fr (b:Base) (T:Array Value) (D:List Deferred) (E:List Item) (V:Value):(b.fr T D E).raise [{ v:=V,recovered:=false }]=b.pan T D E V:=rfl
def Ot:Sg:=fun _=>none
def Arr (P:Program) (m:Machine) (b:Base) (k:List Item) (cs:List Frame):Ex->Array Value->List Deferred->World->Prop
 | .normal,T,D,W=>Steps P m (lone (b.fr T D k) cs W)
 | .exit i,T,D,W=>∃ k1,exitTo i k1=exitTo i k/\Steps P m (lone (b.fr T D (.code (.exit i) :: k1)) cs W)
 | .goto l,T,D,W=>∃ k1,gotoIn l k1=gotoIn l k/\Steps P m (lone (b.fr T D (.code (.goto l) :: k1)) cs W)
 | .ret,T,D,W=>∃ k1,Steps P m (lone (b.fr T D (.code .ret :: k1)) cs W)
 | .raise a,T,D,W=>∃ k1 V,VRel Ot a V/\Steps P m (lone (b.pan T D k1 V) cs W)
theorem Arr.of_steps {P:Program} {m E:Machine} {b:Base} {k:List Item} {cs:List Frame} {x:Ex} {T:Array Value} {D:List Deferred} {W:World} (h:Steps P m E) (a:Arr P E b k cs x T D W):Arr P m b k cs x T D W:=by
 cases x with
 | normal=>exact h.trans a
 | exit i=>obtain ⟨k1,h1,h2⟩:=a;exact ⟨k1,h1,h.trans h2⟩
 | goto l=>obtain ⟨k1,h1,h2⟩:=a;exact ⟨k1,h1,h.trans h2⟩
 | ret=>obtain ⟨k1,h2⟩:=a;exact ⟨k1,h.trans h2⟩
 | raise v=>obtain ⟨k1,V,h1,h2⟩:=a;exact ⟨k1,V,h1,h.trans h2⟩
theorem Arr.pass {P:Program} {m:Machine} {b:Base} {y:Item} {k:List Item} {cs:List Frame} {x:Ex} {T:Array Value} {D:List Deferred} {W:World} (J:y.plain=true) (E:x≠.normal) (a:Arr P m b (y :: k) cs x T D W):Arr P m b k cs x T D W:=by
 cases x with
 | normal=>exact absurd rfl E
 | exit i=>obtain ⟨k1,h1,h2⟩:=a;exact ⟨k1,h1.trans (by cases y <;> simp_all [exitTo,Item.plain]),h2⟩
 | goto l=>obtain ⟨k1,h1,h2⟩:=a;exact ⟨k1,h1.trans (by cases y <;> simp_all [gotoIn,Item.plain]),h2⟩
 | ret=>exact a
 | raise v=>exact a
section moves
variable {P:Program} {b:Base} {T:Array Value} {D:List Deferred} {k:List Item} {cs:List Frame} {W:World}
theorem TW (x:Operand) (a:List Item):(b.fr T D a).eval x=ev T x:=by cases x <;> rfl
theorem eval_fr' (a:List Item):(b.fr T D a).eval=ev T:=funext fun x=>TW x a
theorem adK:step P (lone (b.fr T D (.code .skip :: k)) cs W)=.next (lone (b.fr T D k) cs W):=bI (by simp [stepG,stepG.exec,Base.fr])
theorem X7 {l:Nat}:step P (lone (b.fr T D (.code (.label l) :: k)) cs W)=.next (lone (b.fr T D k) cs W):=bI (by simp [stepG,stepG.exec,Base.fr])
theorem HY {i:Nat}:step P (lone (b.fr T D (.inBlock i :: k)) cs W)=.next (lone (b.fr T D k) cs W):=bI (by simp [stepG,stepG.exec,Base.fr])
theorem HZ {a:Code}:step P (lone (b.fr T D (.inScope a :: k)) cs W)=.next (lone (b.fr T D k) cs W):=bI (by simp [stepG,stepG.exec,Base.fr])
theorem X8 {x y:Code}:step P (lone (b.fr T D (.code (.seq x y) :: k)) cs W)=.next (lone (b.fr T D (.code x :: .code y :: k)) cs W):=bI (by simp [stepG,stepG.exec,Base.fr])
theorem Md {c:Operand} {x y:Code} {t:Bool} (h:ev T c=.bool t):step P (lone (b.fr T D (.code (.cond c x y) :: k)) cs W)=.next (lone (b.fr T D (.code (if t then x else y) :: k)) cs W):=
 bI (by have h1:=TW (b:=b) (T:=T) (D:=D) c (.code (.cond c x y) :: k);simp only [Base.fr] at h1;simp [stepG,stepG.exec,Base.fr,h1,h])
theorem Ou {i:Nat} {c:Code}:step P (lone (b.fr T D (.code (.block i c) :: k)) cs W)=.next (lone (b.fr T D (.code c :: .inBlock i :: k)) cs W):=bI (by simp [stepG,stepG.exec,Base.fr])
theorem BZ {c:Code}:step P (lone (b.fr T D (.code (.loop c) :: k)) cs W)=.next (lone (b.fr T D (.code c :: .inLoop c :: k)) cs W):=bI (by simp [stepG,stepG.exec,Base.fr])
theorem nG {c:Code}:step P (lone (b.fr T D (.inLoop c :: k)) cs W)=.next (lone (b.fr T D (.code c :: .inLoop c :: k)) cs W):=bI (by simp [stepG,stepG.exec,Base.fr])
theorem Ov {c:Code}:step P (lone (b.fr T D (.code (.scope c) :: k)) cs W)=.next (lone (b.fr T D (.code c :: .inScope c :: k)) cs W):=bI (by simp [stepG,stepG.exec,Base.fr])
theorem TY {i:Nat} {a:List Item} (h:exitTo i k=some a):step P (lone (b.fr T D (.code (.exit i) :: k)) cs W)=.next (lone (b.fr T D a) cs W):=bI (by simp [stepG,stepG.exec,Base.fr,h])
theorem Kg {i:Nat} {ops:Array Oper}:step P (lone (b.fr T D (.code (.region i ops false) :: k)) cs W)=.next (lone (b.fr T D (.inRegion ops (List.range ops.size) :: k)) cs W):=bI (by simp [stepG,stepG.exec,Base.fr])
theorem adL {i:Nat} {ops:Array Oper}:step P (lone (b.fr T D (.code (.region i ops true) :: k)) cs W) =
  .next (lone (b.fr T D (.inRegion ops (Region.schedule (P.follows .mixedOrders) ops (W.tape W.drawn (.order b.fn i))) :: k)) cs W.drew):=
 bI (by simp [stepG,stepG.exec,Base.fr,choose,Sem.run,Question.forced,Question.cut])
theorem X9 {ops:Array Oper}:step P (lone (b.fr T D (.inRegion ops [] :: k)) cs W)=.next (lone (b.fr T D k) cs W):=bI (by simp [stepG,stepG.exec,Base.fr])
def jU (T:Array Value) (dst:Option Tmp) (v:Value):Array Value:=
 match dst with
 | some d=>T.setIfInBounds d v
 | none=>T
theorem lY {ops:Array Oper} {i:Nat} {rest:List Nat} {o:Oper} (a:ops[i]?=some o) (v:Value):(b.fr T D (.inRegion ops (i :: rest) :: k)).finish v=b.fr (jU T o.dst v) D (.inRegion ops rest :: k):=by cases h:o.dst <;> simp [Frame.finish,Base.fr,jU,a,h]
theorem Ez {ops:Array Oper} {i:Nat} {rest:List Nat} {o:Oper} (a:ops[i]?=some o) (h:Region.wanted o (yielded ops T)=false):
  step P (lone (b.fr T D (.inRegion ops (i :: rest) :: k)) cs W)=.next (lone (b.fr (jU T o.dst undef) D (.inRegion ops rest :: k)) cs W):=by
 rw [<- lY a];exact bI (by simp [stepG,stepG.exec,Base.fr,a,h])
theorem pE {ops:Array Oper} {i:Nat} {rest:List Nat} {o:Oper} (d:ops[i]?=some o) (f:Region.wanted o (yielded ops T)=true) (hd:∀ c,o.op≠.defer c):
  stepG P true { frame:=b.fr T D (.inRegion ops (i :: rest) :: k),callers:=cs,status:=.running,dying:=none } W =
   stepG.apply P true (b.fr T D (.inRegion ops (i :: rest) :: k)) cs none (execOp (ev T) o) W:=by
 have a:=eval_fr' (b:=b) (T:=T) (D:=D) (.inRegion ops (i :: rest) :: k);simp only [Base.fr] at a;simp only [stepG,stepG.exec,Base.fr,d,f,zi,uN,bn,stepG.oper,Frame.oper?];split
 .rename_i l c h1 h2;exact absurd h2 (hd c)
 .rw [a]
theorem vk {ops:Array Oper} {i:Nat} {rest:List Nat} {o:Oper} (a:ops[i]?=some o) (d:Region.wanted o (yielded ops T)=true) (hd:∀ c,o.op≠.defer c) {r:Next} {V:Value} {X:World}
  (h:(execOp (ev T) o).run P W=.ok r X) (f:r=.value V\/(r=.skip/\V=undef)):
  step P (lone (b.fr T D (.inRegion ops (i :: rest) :: k)) cs W)=.next (lone (b.fr (jU T o.dst V) D (.inRegion ops rest :: k)) cs X):=by
 rw [<- lY a];refine bI ?_;rw [pE a d hd];rcases f with rfl|⟨rfl,rfl⟩ <;> simp [stepG.apply,h]
theorem Ca {ops:Array Oper} {i:Nat} {rest:List Nat} {o:Oper} (a:ops[i]?=some o) (d:Region.wanted o (yielded ops T)=true) (hd:∀ c,o.op≠.defer c) {f:FuncId} {A:Array Value} {X:World}
  (h:(execOp (ev T) o).run P W=.ok (.enter f A) X):
  step P (lone (b.fr T D (.inRegion ops (i :: rest) :: k)) cs W)=.next (lone (Frame.enter P f A .normal) (b.fr T D (.inRegion ops (i :: rest) :: k) :: cs) X):=by
 refine bI ?_;rw [pE a d hd];simp [stepG.apply,h,Base.fr]
theorem Ow {ops:Array Oper} {i:Nat} {rest:List Nat} {o:Oper} (a:ops[i]?=some o) (d:Region.wanted o (yielded ops T)=true) (hd:∀ c,o.op≠.defer c) {l:Nat} {f:FuncId} {A:Array Value} {x y:Code} {X:World}
  (h:(execOp (ev T) o).run P W=.ok (.round l f A x y) X):
  step P (lone (b.fr T D (.inRegion ops (i :: rest) :: k)) cs W)=.next (lone (Frame.round l f A x y .normal) (b.fr T D (.inRegion ops (i :: rest) :: k) :: cs) X):=by
 refine bI ?_;rw [pE a d hd];simp [stepG.apply,h]
end moves
def A7 (P:Program) (f:FuncId) (kind:CallKind) (fr:Frame) (V:Value) (W:World):Prop:=
 fr.mode=.returning/\fr.defers=[]/\fr.kind=kind/\fr.fn=f/\∃ fn,P.funcs[f]?=some fn/\(results fn fr.tmps).run P W=.ok V W
theorem H5 {P:Program} {f:FuncId} {fr c:Frame} {cs:List Frame} {V:Value} {W:World} (h:A7 P f .normal fr V W):step P (lone fr (c :: cs) W)=.next (lone (c.finish V) cs W):=by obtain ⟨a,hd,d,rfl,fn,g,i⟩:=h;exact bI (by simp [stepG,unwind,doReturn,a,hd,d,g,i])
def Outs (P:Program) (f:FuncId) (fr:Frame) (v:AV) (V:Value) (W:World):Prop:=
 match v.isPanic with
 | false=>A7 P f .normal fr V W
 | true=>fr.mode=.panicking [{ v:=V,recovered:=false }]/\fr.defers=[]/\∃ fn,P.funcs[fr.fn]?=some fn
theorem Outs.ret {P:Program} {f:FuncId} {fr:Frame} {v:AV} {V:Value} {W:World} (h:Outs P f fr v V W) (E:v.isPanic=false):A7 P f .normal fr V W:=by unfold Outs at h;rw [E] at h;exact h
theorem Outs.of {P:Program} {f:FuncId} {fr:Frame} {v:AV} {V:Value} {W:World} (h:A7 P f .normal fr V W) (E:v.isPanic=false):Outs P f fr v V W:=by unfold Outs;rw [E];exact h
theorem Kh {P:Program} {fr c:Frame} {cs:List Frame} {V:Value} {W:World} (h:fr.mode=.panicking [{ v:=V,recovered:=false }]/\fr.defers=[]/\∃ fn,P.funcs[fr.fn]?=some fn):
  step P (lone fr (c :: cs) W)=.next (lone (c.raise [{ v:=V,recovered:=false }]) cs W):=by
 obtain ⟨a,hd,fn,d⟩:=h;exact bI (by simp [stepG,unwind,Frame.catches,a,hd,d])
def FrRel (σ:Sg) (fr:AFr) (b:Base):Prop:=
 b.fn=fr.fn/\match fr.round with
 | none=>b.round=none
 | some l=>∃ B N,σ l=some (B,N)/\b.round=some B
theorem FrRel.mono {σ τ:Sg} (s:Sub σ τ) {fr:AFr} {b:Base} (h:FrRel σ fr b):FrRel τ fr b:=by
 obtain ⟨h1,h2⟩:=h;refine ⟨h1,?_⟩
 cases E:fr.round with
 | none=>rw [E] at h2;exact h2
 | some l=>rw [E] at h2;obtain ⟨B,N,h3,J⟩:=h2;exact ⟨B,N,s _ _ h3,J⟩
def PostH (H:Nat->Prop) (σ:Sg) (s:St) (W:World) (A:Ex->Array Value->List Deferred->World->Prop):Ex->St->Prop:=
 fun x s'=>∃ τ T D V,SRel τ s' T D V/\StepH H σ s W τ s' V/\A x T D V
abbrev Post:=PostH fun _=>False
theorem nY {H:Nat->Prop} {σ:Sg} {s:St} {T:Array Value} {D:List Deferred} {W:World} (r:SRel σ s T D W) (A:Ex->Array Value->List Deferred->World->Prop):Closed s (PostH H σ s W A):=by
 rintro x g h ⟨τ,a,c,V,h1,h2,h3⟩ v
 obtain ⟨υ,d,f⟩:=X6 r v h1 h2;exact ⟨υ,a,c,V,d,f,h3⟩
theorem kr {σ:Sg} {s:St} {T:Array Value} {D:List Deferred} {W:World} (r:SRel σ s T D W) (A:Ex->Array Value->List Deferred->World->Prop):Closed s (Post σ s W A):=nY r A
theorem Post.back {σ τ:Sg} {s E:St} {W V:World} {A:Ex->Array Value->List Deferred->World->Prop} (ko:E.hp.ok) (h:Step σ s W τ E V) {x:Ex} {J:St} (p:Post τ E V A x J):Post σ s W A x J:=by obtain ⟨υ,T,D,X,h1,h2,h3⟩:=p;exact ⟨υ,T,D,X,h1,Step.trans ko h1.h.ok h h2,h3⟩
theorem Post.imp {σ:Sg} {s:St} {W:World} {A B:Ex->Array Value->List Deferred->World->Prop} {x:Ex} {E:St} (p:Post σ s W A x E) (h:∀ T D V,A x T D V->B x T D V):Post σ s W B x E:=by obtain ⟨υ,T,D,X,h1,h2,h3⟩:=p;exact ⟨υ,T,D,X,h1,h2,h T D X h3⟩
def Ya (c:Code) (k:List Item) (d:List Item):Prop:=d=.code c :: k\/∃ a,c=.loop a/\d=.inLoop a :: k
def CodeOk (C:Ctx) (fr:AFr) (c:Code) (s:St) (q:R):Prop:=
 ∀ (σ:Sg) (T:Array Value) (D:List Deferred) (W:World),GRel C σ->SRel σ s T D W->∀ (b:Base) (k a:List Item) (cs:List Frame),Ya c k a->FrRel σ fr b ->
  gI (Post σ s W (Arr C.P (lone (b.fr T D a) cs W) b k cs)) q
def l9 (l:List CEnt) (e:CEnt):Prop:=l.filter (fun e=>e.g.val)=[e]
def CallOk (C:Ctx) (f:FuncId) (args:List AV) (h:Hp) (q:CR):Prop:=
 ∀ (σ:Sg) (A:Array Value) (W:World),GRel C σ->HRel σ h W->VRels σ args A.toList->q.need->∀ (cs:List Frame),∃ e,l9 q.l e/\∃ τ V X fr,VRel τ e.v V/\HRel τ e.hp X/\Good σ h W τ e.hp X /\
  Steps C.P (lone (Frame.enter C.P f A .normal) cs W) (lone fr cs X)/\A7 C.P f .normal fr V X
def CallOut (C:Ctx) (f:FuncId) (args:List AV) (h:Hp) (q:CR):Prop:=
 ∀ (σ:Sg) (A:Array Value) (W:World),GRel C σ->HRel σ h W->VRels σ args A.toList->q.need->∀ (cs:List Frame),∃ e,l9 q.l e/\∃ τ V X fr,VRel τ e.v V/\HRel τ e.hp X/\Good σ h W τ e.hp X /\
  Steps C.P (lone (Frame.enter C.P f A .normal) cs W) (lone fr cs X)/\Outs C.P f fr e.v V X
def Yb (l:List CEnt):Prop:=∀ e∈l,e.v.isPanic=false
theorem CallOk.out {C:Ctx} {f:FuncId} {args:List AV} {h:Hp} {q:CR} (c:CallOk C f args h q) (t:Yb q.l):CallOut C f args h q:=by intro σ A W g r ha hn cs;obtain ⟨e,h1,τ,V,X,fr,h2,h3,E,J,O⟩:=c σ A W g r ha hn cs;have Q:e∈q.l:=(zk.1 (by unfold l9 at h1;rw [h1];simp:e∈q.l.filter (fun e=>e.g.val))).1;exact ⟨e,h1,τ,V,X,fr,h2,h3,E,J,.of O (t e Q)⟩
theorem CallOut.ok {C:Ctx} {f:FuncId} {args:List AV} {h:Hp} {q:CR} (c:CallOut C f args h q) (t:Yb q.l):CallOk C f args h q:=by intro σ A W g r ha hn cs;obtain ⟨e,h1,τ,V,X,fr,h2,h3,E,J,O⟩:=c σ A W g r ha hn cs;have Q:e∈q.l:=(zk.1 (by unfold l9 at h1;rw [h1];simp:e∈q.l.filter (fun e=>e.g.val))).1;exact ⟨e,h1,τ,V,X,fr,h2,h3,E,J,O.ret (t e Q)⟩
def Gr (C:Ctx) (l:Nat) (args:List AV) (h:Hp) (q:CR):Prop:=
 ∀ (σ:Sg) (A:Array Value) (W:World) (B N:Nat),GRel C σ->HRel σ h W->σ l=some (B,N)->VRels σ args A.toList->q.need->∀ (c:Frame) (cs:List Frame),∃ e,l9 q.l e/\e.v.isPanic=false/\∃ τ V X f T x y,VRel τ e.v V/\HRel τ e.hp X/\Good σ h W τ e.hp X /\
  (Instr.yield B A).run C.P W=.ok (.round B f T x y) W/\Steps C.P (lone (Frame.round B f T x y .normal) (c :: cs) W) (lone (c.finish V) cs X)
structure RecOk (C:Ctx) (r:Rec):Prop where
 code:∀ fr c s q,r.code fr c s=some q->CodeOk C fr c s q
 call:∀ f args h q,r.call f args h=some q->CallOut C f args h q/\∃ fn:Func,C.P.funcs[f]?=some fn/\fn.body.isSome=true
 yield:∀ l args h q,r.yield l args h=some q->Gr C l args h q
structure ProgOk (P:Program):Prop where
 name:∀ (f:FuncId) (fn:Func),P.funcs[f]?=some fn->fn.body.isSome=true->(fn.name=="runtime.NumGoroutine")=false
 mixed:P.follows .mixedOrders=true
structure CtxOk (C:Ctx):Prop where
 prog:ProgOk C.P
 con:∀ f args h nd v bs,C.con f args h=some (nd,v,bs)->CallOk C f args h ⟨nd,[⟨.tt,v,iF h bs⟩]⟩/\∃ fn:Func,C.P.funcs[f]?=some fn/\fn.body.isSome=true
 ext:∀ f args nd v,C.ext f args=some (nd,v)->nd.val->∀ (σ:Sg) (A:Array Value) (W:World),VRels σ args A.toList->∃ V,VRel σ v V/\(callFunc f A).run C.P W=.ok (.value V) W
 loop:∀ fr a s q,C.loop fr a s=some q->CodeOk C fr (.loop a) s q
 two:∀ f args h nd p v w,C.two f args h=some (nd,p,v,w)->CallOk C f args h ⟨nd,[⟨.b p,v,h⟩,⟨.b !p,w,h⟩]⟩/\∃ fn:Func,C.P.funcs[f]?=some fn/\fn.body.isSome=true:=by intro _ _ _ _ _ _ _ e;cases e
theorem nI {σ:Sg} {s:St} {T:Array Value} {D:List Deferred} {W:World} (r:SRel σ s T D W):SRel σ ⟨s.tmps,s.defs,⟨s.hp.blks,s.hp.size,s.hp.clock+1⟩⟩ T D W/\Step σ s W σ ⟨s.tmps,s.defs,⟨s.hp.blks,s.hp.size,s.hp.clock+1⟩⟩ W:=by
 have a:∀ i,(⟨s.hp.blks,s.hp.size,s.hp.clock+1⟩:Hp).get i=s.hp.get i:=fun i=>by rw [Hp.get_eq,Hp.get_eq]
 refine ⟨⟨r.t,r.d,⟨r.h.ok,fun i b h=>r.h.blk i b (by rw [<- a];exact h),r.h.dom,fun i j b c B N M h1 h2=>r.h.inj i j b c B N M (by rw [<- a];exact h1) (by rw [<- a];exact h2)⟩⟩,?_⟩;refine ⟨⟨Sub.refl _,fun _ _ h _=>h,Ext.refl _,⟨Nat.le_succ _,bD _,fun i b c h1 h2=>?_,fun i w c h=>⟨w,c.state,c.pending,by rw [a];exact h⟩⟩,fun i B N h hi _=>absurd (r.h.dom i B N h).1 (eP.2 hi),fun _ _ _ _=>rfl⟩,⟨rfl,fun _ _ h=>.inl h⟩⟩;rw [a,h1] at h2;cases h2;exact .inl rfl
theorem xW {a:Type} (s:St) (k:St->a):GV s k=k ⟨s.tmps,s.defs,⟨s.hp.blks,s.hp.size,s.hp.clock+1⟩⟩:=by simp [GV]
theorem pF {a:Type} (s:St) (dst:Option Tmp) (v:AV) (k:St->a):s.put dst v k=k (match dst with|none=>s|some d=>⟨s.tmps.set d ⟨s.hp.clock,v⟩,s.defs,s.hp⟩):=by cases dst <;> simp [St.put,q9]
theorem kD {σ τ:Sg} {s:St} {T:Array Value} {D:List Deferred} {W X:World} {h:Hp} (r:SRel σ s T D W) (a:HRel τ h X) (g:Good σ s.hp W τ h X) {v:AV} {V:Value} (j:VRel τ v V) (dst:Option Tmp):
  SRel τ (match dst with|none=>⟨s.tmps,s.defs,h⟩|some d=>⟨s.tmps.set d ⟨h.clock,v⟩,s.defs,h⟩) (jU T dst V) D X/\Step σ s W τ (match dst with|none=>⟨s.tmps,s.defs,h⟩|some d=>⟨s.tmps.set d ⟨h.clock,v⟩,s.defs,h⟩) X:=by
 have c:=TRel.mono g.sub r.t
 cases dst with
 | none=>exact ⟨⟨c,DRel.mono g.sub r.d,a⟩,⟨g,⟨rfl,fun _ _ h=>.inl h⟩⟩⟩
 | some d=>
  refine ⟨⟨?_,DRel.mono g.sub r.d,a⟩,⟨g,⟨by simp,fun t x h=>?_⟩⟩⟩
  .have:=VRels.set d c j;unfold TRel;simpa [uW,jU] using this
  .by_cases f:t=d
   .subst f;by_cases i:t<s.tmps.length
    .rw [gZ i] at h;cases h;exact .inr g.mon.clock
    .rw [dB (by simpa using i)] at h;cases h
   .rw [iM (gQ f)] at h;exact .inl h
theorem rq {P:Program} (hp:ProgOk P) {f:FuncId} {fn:Func} (a:P.funcs[f]?=some fn) (hb:fn.body.isSome=true) (A:Array Value) (W:World):(callFunc f A).run P W=.ok (.enter f A) W:=by
 have h1:=hp.name f fn a hb;have h2:fn.body≠none:=by cases e:fn.body <;> simp_all
 have h3:fn.name≠"runtime.NumGoroutine" :=by simpa using h1
 simp [callFunc,a,h3,h2]
theorem Yc (dst:Option Tmp) (s:St) (e:CEnt):(vZ dst s e).g=e.g:=by
 unfold vZ;split
 .rfl
 .rw [pF]
theorem uh {dst:Option Tmp} {s:St} {e:CEnt} (h:e.v.isPanic=false):vZ dst s e=St.put ⟨s.tmps,s.defs,e.hp⟩ dst e.v (fun s'=>⟨e.g,.normal,s'⟩):=by
 unfold vZ;split
 .rename_i a ha;rw [ha] at h;cases h
 .rfl
theorem Cb {dst:Option Tmp} {s:St} {e:CEnt} {a:AV} (h:e.v=.panic a):vZ dst s e=⟨e.g,.raise a,⟨s.tmps,s.defs,e.hp⟩⟩:=by unfold vZ;rw [h]
theorem zW {l:List CEnt} {e:CEnt} (h:l9 l e) (dst:Option Tmp) (s:St):One (u7 dst s l) (vZ dst s e):=by
 have c:∀ l:List CEnt,(u7 dst s l).filter (fun e=>e.g.val)=(l.filter (fun e=>e.g.val)).map (vZ dst s):=by
  intro l
  induction l with
  | nil=>rfl
  | cons a l d=>
   simp only [u7,mW,d,Yc];cases a.g.val <;> simp
 unfold One;rw [c,h];rfl
theorem Cc {l:List CEnt} (h:xJ l=true):∀ e∈l,∀ a,e.v=.panic a->AV.under 0 a=true:=by
 induction l with
 | nil=>intro e c;cases c
 | cons x l d=>
  simp only [xJ] at h;intro e c a ha;rcases aN.1 c with rfl|c
  .rw [ha] at h;simp only [aF] at h;exact h.1
  .split at h
   .simp only [aF] at h;exact d h.2 e c a ha
   .exact d h e c a ha
theorem Ox {l:List CEnt} {e:CEnt} (h:l9 l e):e∈l:=(zk.1 (by unfold l9 at h;rw [h];simp:e∈l.filter (fun e=>e.g.val))).1
theorem Ce {σ:Sg} {a:AV} {V:Value} (h:VRel σ a V) (u:AV.under 0 a=true):VRel Ot a V:=by
 have:=VRel.low a V h u;have e:σ.low 0=Ot:=by funext i;simp [Sg.low,Ot]
 rwa [e] at this
theorem VRel.anywhere {σ:Sg} {a:AV} {V:Value} (h:VRel Ot a V):VRel σ a V:=VRel.mono (fun i x e=>by cases e) a V h
theorem Me {ops:Array Oper} {s:St} {T:Array Value} {σ:Sg} (f:TRel σ s.tmps T) {o:Oper}:
  (qJ ops s o=.go->Region.wanted o (yielded ops T)=true)/\(qJ ops s o=.skip->Region.wanted o (yielded ops T)=false) /\
  (∀ d p want,qJ ops s o=.fork d p want->Region.wanted o (yielded ops T)=(p==want)/\∃ st,nth s.tmps d=some ⟨st,.bool true p⟩):=by
 unfold qJ Region.wanted;split
 .refine ⟨fun _=>by simp [*],fun h=>(by cases h),fun _ _ _ h=>(by cases h)⟩
 .rename_i j want i;split
  .exact ⟨fun h=>(by cases h),fun h=>(by cases h),fun _ _ _ h=>(by cases h)⟩
  .rename_i g m;split
   .exact ⟨fun h=>(by cases h),fun h=>(by cases h),fun _ _ _ h=>(by cases h)⟩
   .rename_i d hd;have l:∀ v:Value,T[d]?=some v->yielded ops T j=match v with|.bool b=>some b|_=>none:=by
     intro v n;simp only [yielded,m,hd,n,uO];cases v <;> rfl
    split
    .rename_i st p a;obtain ⟨v,h1,h2⟩:=f.nth a;obtain rfl:=h2;rw [i];simp only [l _ h1]
     cases c:p==want with
     | true=>exact ⟨fun _=>by simpa using c,fun h=>(by cases h),fun _ _ _ h=>(by cases h)⟩
     | false=>exact ⟨fun h=>(by cases h),fun _=>by simpa using c,fun _ _ _ h=>(by cases h)⟩
    .rename_i st p a;obtain ⟨v,h1,h2⟩:=f.nth a;obtain rfl:=h2;rw [i];simp only [l _ h1];refine ⟨fun h=>(by cases h),fun h=>(by cases h),fun q t w' h=>?_⟩;cases h;exact ⟨by simp,st,a⟩
    .rename_i st a;obtain ⟨v,h1,K,rfl,u⟩:=f.nth a;rw [i];simp only [l _ h1];exact ⟨fun h=>(by cases h),fun _=>by simp,fun _ _ _ h=>(by cases h)⟩
    .exact ⟨fun h=>(by cases h),fun h=>(by cases h),fun _ _ _ h=>(by cases h)⟩
theorem H6 {v:AV} (h:v.isPanic=true):∃ a,v=.panic a:=by cases v <;> first|exact ⟨_,rfl⟩|cases h
theorem H7 {C:Ctx} {r:Rec} (i:CtxOk C) (j:RecOk C r) {h:Hp} {g:FuncId} {args:List AV} {q:CR} (e:TL C r h (.func g args)=some q):CallOut C g args h q/\∃ fn:Func,C.P.funcs[g]?=some fn/\fn.body.isSome=true:=by
 simp only [TL] at e;split at e
 .rename_i nd v bs a;split at e
  .cases e
  .rename_i c;cases e;obtain ⟨h1,h2⟩:=i.con _ _ _ _ _ _ a;exact ⟨h1.out fun e d=>by rw [lU.1 d];exact c,h2⟩
 .split at e
  .rename_i nd p v w f;split at e
   .cases e
   .rename_i c;cases e;simp only [yX] at c;obtain ⟨h1,h2⟩:=i.two _ _ _ _ _ _ _ f;refine ⟨h1.out fun e d=>?_,h2⟩;rcases aN.1 d with rfl|d
    .exact c.1
    .rw [lU.1 d];exact c.2
  .exact j.call _ _ _ _ e
section opers
variable {C:Ctx} {r:Rec}
def Oy (P:Program) (ops:Array Oper) (i:Nat) (rest:List Nat) (b:Base) (k:List Item) (cs:List Frame) (T:Array Value) (D:List Deferred) (W:World):Ex->Array Value->List Deferred->World->Prop:=
 fun x c d f=>(x=.normal\/∃ a,x=.raise a)/\Arr P (lone (b.fr T D (.inRegion ops (i :: rest) :: k)) cs W) b (.inRegion ops rest :: k) cs x c d f
theorem Fz {s:St} {o:Oper} {q:R} (e:jS C s o=some q) {σ:Sg} {T:Array Value} {D:List Deferred} {W:World} (g:GRel C σ) (sr:SRel σ s T D W) {ops:Array Oper} {i:Nat} {rest:List Nat} (d:ops[i]?=some o)
  (f:Region.wanted o (yielded ops T)=true) (b:Base) (k:List Item) (cs:List Frame):gI (Post σ s W (Oy C.P ops i rest b k cs T D W)) q:=by
 unfold jS at e;split at e
 .cases e
 .rename_i nd v h a;rw [pF] at e;cases e;intro hn;obtain ⟨τ,V,X,p,h1,h2,h3,j,l⟩:=zU g sr.t sr.h a hn;have hd:∀ c,o.op≠.defer c:=by
   intro c m;rw [m] at a;simp [dW] at a
  obtain ⟨n,p2⟩:=kD (D:=D) sr j l h3 o.dst;exact ⟨_,rfl,τ,_,D,X,n,p2,.inl rfl,.one (vk d f hd h1 h2)⟩
theorem VL (co:CtxOk C) (ro:RecOk C r) {s:St} {o:Oper} {f:Operand} {args:Array Operand} {ts:Array TypeId} (n:o.op=.call ⟨.value f,args,ts⟩) {q:R} (e:Ha C r s o.dst f args.toList=some q) {σ:Sg} {T:Array Value} {D:List Deferred} {W:World}
  (g:GRel C σ) (sr:SRel σ s T D W) {ops:Array Oper} {i:Nat} {rest:List Nat} (H:ops[i]?=some o) (hw:Region.wanted o (yielded ops T)=true) (b:Base) (k:List Item) (cs:List Frame):
  gI (Post σ s W (Oy C.P ops i rest b k cs T D W)) q:=by
 unfold Ha at e;split at e
 .cases e
 .rename_i ce j;split at e
  .rename_i nd v hx;rw [pF] at e;cases e;intro hn;have hd:∀ c,o.op≠.defer c:=by intro c hc;rw [hc] at n;cases n
   have m:=L8 (s:=s) g sr.t args;have p:=iU (s:=s) g sr.t f;unfold callee at j;split at j
   .rename_i gf first cap x
    cases j;rw [x] at p;obtain ⟨F,K,M,y,z⟩:=p;have hA:VRels σ (first++jB C s args.toList++cap) (F++args.map (ev T)++K).toList:=by simp only [kP];exact VRels.append (VRels.append y m) z
    obtain ⟨V,h1,h2⟩:=co.ext _ _ _ _ hx hn σ _ W hA;have u:(execOp (ev T) o).run C.P W=.ok (.value V) W:=by simp only [execOp,n,resolve,M,Deferred.ofValue,bO,dn,bR,invoke];exact h2
    obtain ⟨O,p2⟩:=kD (h:=s.hp) (X:=W) (D:=D) sr sr.h (Good.refl σ s.hp W fun i B N h=>(sr.h.dom i B N h).1) h1 o.dst;exact ⟨_,rfl,σ,_,D,W,O,p2,.inl rfl,.one (vk H hw hd u (.inl rfl))⟩
   .cases j;cases hx
   .cases j
  .rename_i hx;split at e
   .cases e
   .rename_i cr Q;split at e
    case h_2=>cases e
    rename_i aa;cases e;intro hn;have hd:∀ c,o.op≠.defer c:=by intro c hc;rw [hc] at n;cases n
    have m:=L8 (s:=s) g sr.t args;have p:=iU (s:=s) g sr.t f;unfold callee at j;split at j
    .rename_i gf first cap x
     cases j;rw [x] at p;obtain ⟨F,K,M,y,z⟩:=p;have hA:VRels σ (first++jB C s args.toList++cap) (F++args.map (ev T)++K).toList:=by simp only [kP];exact VRels.append (VRels.append y m) z
     obtain ⟨A,fn,ab,E⟩:=H7 co ro Q;have u:(execOp (ev T) o).run C.P W=.ok (.enter gf (F++args.map (ev T)++K)) W:=by simp only [execOp,n,resolve,M,Deferred.ofValue,bO,dn,bR,invoke];exact rq co.prog ab E _ W
     obtain ⟨e,h1,τ,V,X,fr,h2,h3,I,h5,J⟩:=A σ _ W g sr.h hA hn (b.fr T D (.inRegion ops (i :: rest) :: k) :: cs);refine ⟨_,zW h1 o.dst s,?_⟩
     cases w:e.v.isPanic with
     | false=>
      rw [uh w,pF];obtain ⟨O,p2⟩:=kD (D:=D) sr h3 I h2 o.dst;refine ⟨τ,_,D,X,O,p2,.inl rfl,?_⟩;show Steps _ _ _;rw [<- lY H];exact .head (Ca H hw hd u) (h5.trans (.one (H5 (J.ret w))))
     | true=>
      obtain ⟨a,ha⟩:=H6 w;rw [Cb ha];have Y:=Cc aa e (Ox h1) a ha;rw [ha] at h2;refine ⟨τ,T,D,X,⟨TRel.mono I.sub sr.t,DRel.mono I.sub sr.d,h3⟩,⟨I,⟨rfl,fun _ _ h=>.inl h⟩⟩,.inr ⟨a,rfl⟩,.inRegion ops (i :: rest) :: k,V,Ce h2 Y,?_⟩;rw [<- Base.raise_fr];unfold Outs at J;rw [w] at J;exact .head (Ca H hw hd u) (h5.trans (.one (Kh J)))
    .rename_i l x;cases j;rw [x] at p;obtain ⟨B,N,ac,M⟩:=p;have hy:Gr C l (jB C s args.toList) s.hp cr:=ro.yield _ _ _ _ Q;obtain ⟨e,h1,w,τ,V,X,ff,TT,xx,yy,h2,h3,I,h5,J⟩:=hy σ _ W B N g sr.h ac m hn (b.fr T D (.inRegion ops (i :: rest) :: k)) cs;have u:(execOp (ev T) o).run C.P W=.ok (.round B ff TT xx yy) W:=by
      simp only [execOp,n,resolve,M,Deferred.ofValue,bO,dn,bR,invoke];simpa using h5
     refine ⟨_,zW h1 o.dst s,?_⟩;rw [uh w,pF];obtain ⟨O,p2⟩:=kD (D:=D) sr h3 I h2 o.dst;refine ⟨τ,_,D,X,O,p2,.inl rfl,?_⟩;show Steps _ _ _;rw [<- lY H];exact .head (Ow H hw hd u) J
    .cases j
end opers
theorem SRel.ko {σ:Sg} {s:St} {T:Array Value} {D:List Deferred} {W:World} (r:SRel σ s T D W):s.hp.ok:=r.h.ok
theorem jl {σ τ:Sg} {s a:St} {W V:World} {A B:Ex->Array Value->List Deferred->World->Prop} (ko:a.hp.ok) (st:Step σ s W τ a V) {q:R} (h:gI (Post τ a V B) q)
  (c:∀ x T D X,B x T D X->A x T D X):gI (Post σ s W A) q:=fun hn=>by
 obtain ⟨e,h1,h2⟩:=h hn;exact ⟨e,h1,Post.back ko st (h2.imp (c _))⟩
theorem Oz {σ:Sg} {s:St} {T:Array Value} {D:List Deferred} {W:World} (r:SRel σ s T D W) {v:AV} {V:Value} (d:VRel σ v V) (dst:Option Tmp) {f:St->Option R} {q:R} (e:s.put dst v f=some q)
  {A:Ex->Array Value->List Deferred->World->Prop} (h:∀ a,f a=some q->SRel σ a (jU T dst V) D W->gI (Post σ a W A) q):gI (Post σ s W A) q:=by
 rw [pF] at e;obtain ⟨c,p2⟩:=kD (h:=s.hp) (X:=W) (D:=D) r r.h (Good.refl σ s.hp W fun i B N h=>(r.h.dom i B N h).1) d dst;exact jl c.ko p2 (h _ e c) fun _ _ _ _ h=>h
theorem FB {σ:Sg} {s:St} {T:Array Value} {D:List Deferred} {W:World} (r:SRel σ s T D W) {d:Tmp} {st:Nat} {p:Bool} (h:nth s.tmps d=some ⟨st,.bool true p⟩):
  SRel σ ⟨s.tmps.set d ⟨s.hp.clock,.bool false p⟩,s.defs,s.hp⟩ T D W/\Step σ s W σ ⟨s.tmps.set d ⟨s.hp.clock,.bool false p⟩,s.defs,s.hp⟩ W:=by
 obtain ⟨v,h1,h2⟩:=r.t.nth h;obtain rfl:=h2;obtain ⟨a,p2⟩:=kD (h:=s.hp) (X:=W) (D:=D) r r.h (Good.refl σ s.hp W fun i B N h=>(r.h.dom i B N h).1) (v:=.bool false p) (V:=.bool p) rfl (some d);have:jU T (some d) (.bool p)=T:=by
  simp only [jU];rw [JR];split
  .rename_i hd;have:T[d]=.bool p:=by rw [JO hd] at h1;exact rJ h1
   exact Dy fun i=>by
    rw [Array.getElem?_set];split
    .rename_i e;subst e;exact h1.symm
    .rfl
  .rfl
 rw [this] at a;exact ⟨a,p2⟩
section regions
variable {C:Ctx} {r:Rec}
theorem Rn {s:St} {o:Oper} {x:Operand} (a:o.op=.panic x) {q:R} (e:BG s (bv C s x)=some q) {σ:Sg} {T:Array Value} {D:List Deferred} {W:World}
  (g:GRel C σ) (sr:SRel σ s T D W) {ops:Array Oper} {i:Nat} {rest:List Nat} (p:ops[i]?=some o) (u:Region.wanted o (yielded ops T)=true) (b:Base) (k:List Item) (cs:List Frame):
  gI (Post σ s W (Oy C.P ops i rest b k cs T D W)) q:=by
 obtain ⟨V,w,d⟩:∃ V,(∃ t v,bv C s x=.iface t v/\AV.under 0 v=true/\q=⟨.tt,[⟨.tt,.raise (.iface t v),s⟩]⟩/\VRel σ (.iface t v) V) /\
   step C.P (lone (b.fr T D (.inRegion ops (i :: rest) :: k)) cs W)=.next (lone (b.pan T D (.inRegion ops (i :: rest) :: k) V) cs W):=by
  have m:=iU (s:=s) g sr.t x;unfold BG at e;split at e
  .rename_i t v n;split at e
   .rename_i f;cases e;rw [n] at m;obtain ⟨y,z,j⟩:=m;refine ⟨.iface t y,⟨t,v,n,f,rfl,⟨y,rfl,j⟩⟩,?_⟩;have l:(execOp (ev T) o).run C.P W=.halt (.panic (.iface t y)) W:=by
     simp only [execOp,a,z,Instr.panic,goPanic];rfl
    rw [<- Base.raise_fr];refine bI ?_;have hd:∀ c,o.op≠.defer c:=by intro c A;rw [A] at a;cases a
    rw [pE p u hd];simp [stepG.apply,l]
   .cases e
  .cases e
 obtain ⟨t,v,_,f,rfl,j⟩:=w;intro hn;refine ⟨_,rfl,σ,T,D,W,sr,⟨Good.refl σ s.hp W fun i B N h=>(sr.h.dom i B N h).1,TMon.refl s⟩,.inr ⟨_,rfl⟩,_,V,Ce j (by simpa [AV.under] using f),.one d⟩
theorem Yd (h:CtxOk C) (j:RecOk C r) {s:St} {o:Oper} {q:R} (e:BH C r s o=some q) {σ:Sg} {T:Array Value} {D:List Deferred} {W:World}
  (g:GRel C σ) (sr:SRel σ s T D W) {ops:Array Oper} {i:Nat} {rest:List Nat} (c:ops[i]?=some o) (d:Region.wanted o (yielded ops T)=true) (b:Base) (k:List Item) (cs:List Frame):
  gI (Post σ s W (Oy C.P ops i rest b k cs T D W)) q:=by
 unfold BH at e;split at e
 .rename_i f args l a;exact VL h j a e g sr c d b k cs
 .rename_i x a;exact Rn a e g sr c d b k cs
 .exact Fz e g sr c d b k cs
theorem Ro (co:CtxOk C) {s:St} {o:Oper} {f:Operand} {args:Array Operand} {ts:Array TypeId} (n:o.op=.defer ⟨.value f,args,ts⟩) {q:R} (e:LB C s o.dst f args.toList=some q) {σ:Sg} {T:Array Value} {D:List Deferred} {W:World}
  (g:GRel C σ) (sr:SRel σ s T D W) {ops:Array Oper} {i:Nat} {rest:List Nat} (z:ops[i]?=some o) (I:Region.wanted o (yielded ops T)=true) (b:Base) (hb:b.round=none) (k:List Item) (cs:List Frame):
  gI (Post σ s W (Oy C.P ops i rest b k cs T D W)) q:=by
 obtain ⟨A,E,J⟩:=b;obtain rfl:J=none:=hb;generalize j:(Base.mk A E none)=b;have hb:b.round=none:=by rw [<- j]
 unfold LB at e;split at e
 .rename_i l as a;rw [pF] at e;cases e;intro hn;have c:=L8 (s:=s) g sr.t args;have m:=iU (s:=s) g sr.t f;unfold callee at a;split at a
  .rename_i M first cap p
   cases a;rw [p] at m;obtain ⟨F,K,O,u,w⟩:=m;have Q:VRels σ (first++jB C s args.toList++cap) ((F++args.map (ev T))++K).toList:=by simp only [kP];exact VRels.append (VRels.append u c) w
   have x:(execOp (ev T) o).run C.P W=.ok (.defer { target:=.fn (.func l) K,args:=F++args.map (ev T) }) W:=by simp only [execOp,n,resolve,O,Deferred.ofValue,bO,dn,bR]
   have y:step C.P (lone (b.fr T D (.inRegion ops (i :: rest) :: k)) cs W)=.next (lone (b.fr (jU T o.dst undef) ({ target:=.fn (.func l) K,args:=F++args.map (ev T) } :: D) (.inRegion ops rest :: k)) cs W):=by rw [<- lY z];subst j;refine bI ?_;have H:=eval_fr' (b:=Base.mk A E none) (T:=T) (D:=D) (.inRegion ops (i :: rest) :: k);simp only [Base.fr] at H;simp only [stepG,stepG.exec,Base.fr,z,I,zi,uN,bn,stepG.oper,Frame.oper?];rw [H];simp [stepG.apply,x,Frame.finish]
   have dr:DRel σ (.call l (first++jB C s args.toList++cap) :: s.defs) ({ target:=.fn (.func l) K,args:=F++args.map (ev T) } :: D):=⟨_,K,D,Q,rfl,sr.d⟩;obtain ⟨Y,p2⟩:=kD (h:=s.hp) (X:=W) (s:=⟨s.tmps,.call l (first++jB C s args.toList++cap) :: s.defs,s.hp⟩) ⟨sr.t,dr,sr.h⟩ sr.h (Good.refl σ s.hp W fun i B N h=>(sr.h.dom i B N h).1) (v:=fE) (V:=undef) ⟨#[],rfl,rfl⟩ o.dst;exact ⟨_,rfl,σ,_,_,W,Y,⟨p2.good,⟨p2.tm.len,p2.tm.same⟩⟩,.inl rfl,.one y⟩
  .cases a
  .cases a
 .cases e
theorem H8 (c:CtxOk C) (j:RecOk C r) {s:St} {o:Oper} {q:R} (e:N7 C r s o=some q) {σ:Sg} {T:Array Value} {D:List Deferred} {W:World}
  (g:GRel C σ) (sr:SRel σ s T D W) {ops:Array Oper} {i:Nat} {rest:List Nat} (d:ops[i]?=some o) (h:Region.wanted o (yielded ops T)=true) (b:Base) (hb:b.round=none\/wh o=false) (k:List Item) (cs:List Frame):
  gI (Post σ s W (Oy C.P ops i rest b k cs T D W)) q:=by
 unfold N7 at e;split at e
 .rename_i f args l a;rcases hb with hb|hb
  .exact Ro c a e g sr d h b hb k cs
  .simp [wh,a] at hb
 .exact Yd c j e g sr d h b k cs
theorem A8 {σ:Sg} {a v:AV} {m:Nd} (e:xK a v=some m) (c:m.val) {V:Value} (h:VRel σ a V):VRel σ v V:=by
 unfold xK at e;split at e
 .split at e
  .rename_i d;subst d;cases e;rw [show _=_ from c] at h;exact h
  .cases e
 .cases e;rw [show _=_ from c] at h;exact h
 .cases e;rw [show _=_ from c] at h;exact h
 .cases e
theorem OA {σ:Sg} {s:St} {W:World} {A:Ex->Array Value->List Deferred->World->Prop} {d:Nat} {v:AV} {q:Option R} {g:R} (e:Q6 d v q=some g) (h:∀ j,q=some j->gI (Post σ s W A) j):gI (Post σ s W A) g:=by
 unfold Q6 at e;split at e
 .rename_i nd l;split at e
  .rename_i a ha;split at e
   .rename_i m p;rw [q9] at e;cases e;intro hn;obtain ⟨w,h1,h2⟩:=h _ rfl (Nd.lv hn);have:w=⟨.tt,.normal,l⟩:=by
     unfold One at h1;simp [G.val] at h1;exact h1.symm
    subst this;obtain ⟨τ,T,D,V,sr,st,k⟩:=h2;refine ⟨_,rfl,τ,T,D,V,⟨?_,sr.d,sr.h⟩,⟨st.good,⟨?_,fun t x c=>?_⟩⟩,k⟩
    .obtain ⟨u,y,z⟩:=sr.t.nth ha;have f:=A8 p (Nd.rv hn) z;have:=VRels.set d sr.t f;unfold TRel;rw [uW];have E:T.toList.set d u=T.toList:=by
      apply zb;intro i;rw [List.getElem?_set];split
      .rename_i hi;subst hi;split
       .rw [ic];exact y.symm
       .rename_i F;rw [dB (by omega)]
      .rfl
     rw [E] at this;exact this
    .simp only [jh];exact st.tm.len
    .by_cases n:t=d
     .subst n;by_cases o:t<l.tmps.length
      .rw [gZ o] at c;cases c;exact .inr st.good.mon.clock
      .rw [dB (by simpa using o)] at c;cases c
     .rw [iM (gQ n)] at c;exact st.tm.same t x c
   .exact h _ e
  .exact h _ e
 .exact h _ e
theorem Ye (a:CtxOk C) (c:RecOk C r) {s:St} {o:Oper} {q:R} (e:J4 C r s o=some q) {σ:Sg} {T:Array Value} {D:List Deferred} {W:World}
  (g:GRel C σ) (sr:SRel σ s T D W) {ops:Array Oper} {i:Nat} {rest:List Nat} (d:ops[i]?=some o) (f:Region.wanted o (yielded ops T)=true) (b:Base) (hb:b.round=none\/wh o=false) (k:List Item) (cs:List Frame):
  gI (Post σ s W (Oy C.P ops i rest b k cs T D W)) q:=by
 unfold J4 at e;split at e
 .exact H8 a c e g sr d f b hb k cs
 .split at e
  .exact H8 a c e g sr d f b hb k cs
  .exact OA e fun j h=>H8 a c h g sr d f b hb k cs
def AtOps (P:Program) (ops:Array Oper) (is:List Nat) (b:Base) (k:List Item) (cs:List Frame) (T:Array Value) (D:List Deferred) (W:World):Ex->Array Value->List Deferred->World->Prop:=
 fun x c d f=>(x=.normal\/∃ a,x=.raise a)/\Arr P (lone (b.fr T D (.inRegion ops is :: k)) cs W) b k cs x c d f
inductive Idx (ops:Array Oper):List Nat->List Oper->Prop where
 | nil:Idx ops [] []
 | cons {i:Nat} {o:Oper} {is:List Nat} {l:List Oper}:ops[i]?=some o->Idx ops is l->Idx ops (i :: is) (o :: l)
theorem TZ (Y:CtxOk C) (ro:RecOk C r) {ops:Array Oper} (b:Base) (k:List Item) (cs:List Frame):∀ {is:List Nat} {l:List Oper},Idx ops is l->(b.round=none\/l.any wh=false)->∀ (s:St) (q:R),BI C r ops l s=some q ->
  ∀ (σ:Sg) (T:Array Value) (D:List Deferred) (W:World),GRel C σ->SRel σ s T D W->gI (Post σ s W (AtOps C.P ops is b k cs T D W)) q:=by
 intro is l hl
 induction hl with
 | nil=>
  intro _ s q e σ T D W g sr;cases e;exact fun _=>⟨_,rfl,σ,T,D,W,sr,⟨Good.refl σ s.hp W fun i B N h=>(sr.h.dom i B N h).1,TMon.refl s⟩,.inl rfl,.one X9⟩
 | @cons i o is l I _ z=>
  intro hb s0 q e σ T D W g A;have E:b.round=none\/wh o=false:=hb.imp id fun h=>by simp only [List.any_cons,yX] at h;exact h.1
  replace z:=z (hb.imp id fun h=>by simp only [List.any_cons,yX] at h;exact h.2);simp only [BI] at e;rw [xW] at e;obtain ⟨sr,m⟩:=nI A;generalize (⟨s0.tmps,s0.defs,⟨s0.hp.blks,s0.hp.size,s0.hp.clock+1⟩⟩:St)=s at e sr m;refine jl sr.ko m (B:=AtOps C.P ops (i :: is) b k cs T D W) ?_ fun _ _ _ _ h=>h;have go:∀ (s:St) (q:R),xn s (J4 C r s o) (BI C r ops l)=some q->SRel σ s T D W->Region.wanted o (yielded ops T)=true->gI (Post σ s W (AtOps C.P ops (i :: is) b k cs T D W)) q:=by
   intro s q e sr f;refine pz (Q1:=Post σ s W (Oy C.P ops i is b k cs T D W)) (kr sr _) ?_ ?_ e ?_
   .rintro J q1 n ⟨τ,K,M,V,r1,c,-,F⟩
    have:=z _ _ n _ _ _ _ (g.mono c.good.sub) r1;refine jl r1.ko c this ?_
    rintro x T2 D2 X ⟨w,j⟩
    exact ⟨w,.of_steps F j⟩
   .rintro x J w ⟨τ,K,M,V,r1,c,h,F⟩
    rcases h with h|⟨a,rfl⟩
    .exact absurd h w
    .exact ⟨τ,K,M,V,r1,c,.inr ⟨a,rfl⟩,F⟩
   .intro q1 n;exact Ye Y ro n g sr I f b E k cs
  have H:∀ (s:St) (q:R),St.put s o.dst fE (BI C r ops l)=some q->SRel σ s T D W->Region.wanted o (yielded ops T)=false->gI (Post σ s W (AtOps C.P ops (i :: is) b k cs T D W)) q:=by
   intro s q e sr f;refine Oz sr (v:=fE) (V:=undef) ⟨#[],rfl,rfl⟩ o.dst e ?_;intro J n r1;have:=z _ _ n _ _ _ _ g r1;intro hn;obtain ⟨en,h1,h2⟩:=this hn;refine ⟨en,h1,h2.imp ?_⟩
   rintro T2 D2 X ⟨w,j⟩
   exact ⟨w,.of_steps (.one (Ez I f)) j⟩
  obtain ⟨w1,w2,w3⟩:=Me (ops:=ops) (s:=s) (T:=T) sr.t (o:=o);split at e
  .cases e
  .rename_i y;exact go s q e sr (w1 y)
  .rename_i y;exact H s q e sr (w2 y)
  .rename_i d p want y;obtain ⟨f,st,hd⟩:=w3 d p want y;simp only [q9] at e;split at e
   .cases e
   .rename_i u O;split at e
    .cases e
    .rename_i v Q;cases e;obtain ⟨r1,c⟩:=FB sr hd;refine AZ (kr sr _) ?_ ?_
     .rintro rfl
      refine jl r1.ko c (B:=AtOps C.P ops (i :: is) b k cs T D W) ?_ fun _ _ _ _ h=>h
      cases want with
      | true=>exact go _ _ (by simpa using O) r1 (by simp [f])
      | false=>exact H _ _ (by simpa using O) r1 (by simp [f])
     .rintro rfl
      refine jl r1.ko c (B:=AtOps C.P ops (i :: is) b k cs T D W) ?_ fun _ _ _ _ h=>h
      cases want with
      | true=>exact H _ _ (by simpa using Q) r1 (by simp [f])
      | false=>exact go _ _ (by simpa using Q) r1 (by simp [f])
end regions
theorem OB (ops:Array Oper):∀ (l:List Oper) (n:Nat),(∀ j,l[j]?=ops[n+j]?)->Idx ops ((List.range l.length).map (n + ·)) l
 | [],_,_=>.nil
 | o :: l,n,h=>by
  have c:=h 0;have:(List.range (o :: l).length).map (n + ·)=n :: (List.range l.length).map (n+1 + ·):=by
   simp only [il,List.range_succ_eq_map,dL,uX,gP]
   congr 1
   apply List.map_congr_left;intro a _;simp only [Dw];omega
  rw [this];refine .cons (by simpa using c.symm) (OB ops l (n+1) fun j=>?_);have:=h (j+1);simp only [JS] at this;rw [this];congr 1;omega
theorem T9 (ops:Array Oper):Idx ops (List.range ops.size) ops.toList:=by have:=OB ops ops.toList 0 (by simp);simpa using this
theorem A9 {s0:St} {i:Nat}:∀ {l:List Ent},(∀ e,One l e->Got s0 (AO s0 i l) (ut i e).x e.s)/\(Non l->Non (AO s0 i l))
 | []=>⟨fun e h=>by simp [One] at h,fun _=>rfl⟩
 | a :: l=>by
  obtain ⟨i1,f⟩:=A9 (s0:=s0) (i:=i) (l:=l);have c:(ut i a).g=a.g/\(ut i a).s=a.s:=by
   unfold ut;split
   .rename_i j _;cases Nat.beq j i <;> exact ⟨rfl,rfl⟩
   .exact ⟨rfl,rfl⟩
  obtain ⟨d,m⟩:=c;simp only [AO];refine ⟨fun e h=>?_,fun h=>?_⟩
  .rcases fM h with ⟨h1,rfl,h3⟩|⟨h1,h2⟩
   .have:=sV (s0:=s0) (e:=ut i a) (by rw [d];exact h1) (f h3);rw [m] at this;exact this
   .exact BV (by rw [d];exact h1) (i1 e h2)
  .obtain ⟨h1,h2⟩:=iV h;exact (pu (by rw [d];exact h1)).2 (f h2)
theorem xX {a:Code}:∀ {l:List Ent} {e:Ent},Gn a l=true->One l e->∀ i,e.x=.goto i->findLabel a i=none
 | [],e,_,h=>by simp [One] at h
 | f :: l,e,h,h1=>by
  simp only [Gn,aF] at h;rcases fM h1 with ⟨_,rfl,_⟩|⟨_,h2⟩
  .intro i hi;have:=h.1;rw [hi] at this;simp only at this;split at this
   .assumption
   .cases this
  .exact xX h.2 h2
def Rp (C:Ctx) (r:Rec):Prop:=∀ (fr:AFr) (i:Nat) (ops:Array Oper) (l:List It) (s:St) (q:R),LD ops=some l->gG C.P l=true->xL C r ops l [] s=some q->CodeOk C fr (.region i ops true) s q
section codes
variable {C:Ctx} {r:Rec}
theorem vo {σ:Sg} {s:St} {T:Array Value} {D:List Deferred} {W:World} (sr:SRel σ s T D W) {x:Ex} {q:R} (e:NY x s=some q) {A:Ex->Array Value->List Deferred->World->Prop} (h:A x T D W):gI (Post σ s W A) q:=by cases e;exact fun _=>⟨_,rfl,σ,T,D,W,sr,⟨Good.refl σ s.hp W fun i B N h=>(sr.h.dom i B N h).1,TMon.refl s⟩,h⟩
theorem OC {fr:AFr} {a c:Code} {s:St} {q:R} (e:xn s (r.code fr a s) (r.code fr c)=some q) (l:RecOk C r) {σ:Sg} {T:Array Value} {D:List Deferred} {W:World} (g:GRel C σ) (sr:SRel σ s T D W)
  {b:Base} {y:Item} {k:List Item} (n:y.plain=true) (o:Ya c k (y :: k)) {cs:List Frame} (m:FrRel σ fr b):
  gI (Post σ s W (Arr C.P (lone (b.fr T D (.code a :: y :: k)) cs W) b k cs)) q:=by
 refine pz (Q1:=Post σ s W (Arr C.P (lone (b.fr T D (.code a :: y :: k)) cs W) b (y :: k) cs)) (kr sr _) ?_ ?_ e ?_
 .rintro p t f ⟨τ,i,j,V,r1,d,u⟩
  have:=l.code _ _ _ _ f τ i j V (g.mono d.good.sub) r1 b k (y :: k) cs o (m.mono d.good.sub);exact jl r1.ko d this fun x w z X h=>.of_steps u h
 .rintro x p v ⟨τ,i,j,V,r1,d,h⟩
  exact ⟨τ,i,j,V,r1,d,h.pass n v⟩
 .intro t f;exact l.code _ _ _ _ f σ T D W g sr b (y :: k) _ cs (.inl rfl) m
theorem Yf (m:RecOk C r) {fr:AFr} {x:Operand} {a c:Code} {s:St} {q:R} (e:XP r fr (bv C s x) a c s=some q):CodeOk C fr (.cond x a c) s q:=by
 intro σ T D W g sr b k y cs w n;rcases w with rfl|⟨_,h,_⟩
 .have f:=iU (s:=s) g sr.t x;unfold XP at e;split at e
  .rename_i p hp;rw [hp] at f;have:gI (Post σ s W (Arr C.P (lone (b.fr T D (.code (if p then a else c) :: k)) cs W) b k cs)) q:=by
    cases p with
    | true=>exact m.code _ _ _ _ e σ T D W g sr b k _ cs (.inl rfl) n
    | false=>exact m.code _ _ _ _ e σ T D W g sr b k _ cs (.inl rfl) n
   intro hn;obtain ⟨i,h1,h2⟩:=this hn;exact ⟨i,h1,h2.imp fun z A V h=>.of_steps (.one (Md f)) h⟩
  .rename_i p hp;rw [hp] at f;rw [xW] at e;obtain ⟨d,j⟩:=nI sr;generalize (⟨s.tmps,s.defs,⟨s.hp.blks,s.hp.size,s.hp.clock+1⟩⟩:St)=l at e d j;refine jl d.ko j (B:=Arr C.P (lone (b.fr T D (.code (.cond x a c) :: k)) cs W) b k cs) ?_ fun _ _ _ _ h=>h;cases e;have way:∀ (c':Code),(∀ o,r.code fr c' l=some o->gI (Post σ l W (Arr C.P (lone (b.fr T D (.code (.cond x a c) :: k)) cs W) b k cs)) o)->gI (Post σ l W (Arr C.P (lone (b.fr T D (.code (.cond x a c) :: k)) cs W) b k cs)) (XO (r.code fr c' l)):=by
    intro c' h
    cases E:r.code fr c' l with
    | none=>exact fun hn=>hn.elim
    | some o=>exact h o E
   refine AZ (kr d _) ?_ ?_
   .rintro rfl
    refine way a fun u F hn=>?_;obtain ⟨i,h1,h2⟩:=m.code _ _ _ _ F σ T D W g d b k _ cs (.inl rfl) n hn;exact ⟨i,h1,h2.imp fun z A V h=>.of_steps (.one (by rw [Md f];rfl)) h⟩
   .rintro rfl
    refine way c fun v H hn=>?_;obtain ⟨i,h1,h2⟩:=m.code _ _ _ _ H σ T D W g d b k _ cs (.inl rfl) n hn;exact ⟨i,h1,h2.imp fun z A V h=>.of_steps (.one (by rw [Md f];rfl)) h⟩
  .cases e
 .cases h
theorem Yg (t:RecOk C r) {fr:AFr} {i:Nat} {a:Code} {s:St} {nd:Nd} {l:List Ent} (e:r.code fr a s=some ⟨nd,l⟩):CodeOk C fr (.block i a) s ⟨nd,BD (AO s i l)⟩:=by
 intro σ T D W g sr b k p cs n u;rcases n with rfl|⟨_,h,_⟩
 .refine zV fun hn=>?_;obtain ⟨d,h1,h2⟩:=t.code _ _ _ _ e σ T D W g sr b (.inBlock i :: k) _ cs (.inl rfl) u hn;have hq:Post σ s W (Arr C.P (lone (b.fr T D (.code (.block i a) :: k)) cs W) b k cs) (ut i d).x d.s:=by
   obtain ⟨τ,v,w,V,r1,o,h⟩:=h2;refine ⟨τ,v,w,V,r1,o,.of_steps (.one Ou) ?_⟩;unfold ut
   cases c:d.x with
   | normal=>rw [c] at h;simp only [c];exact h.trans (.one HY)
   | ret=>rw [c] at h;simp only [c];exact h
   | raise a=>rw [c] at h;simp only [c];exact h
   | goto j=>
    rw [c] at h;obtain ⟨k1,f,m⟩:=h;simp only [c];exact ⟨k1,f,m⟩
   | exit j=>
    rw [c] at h;obtain ⟨k1,f,m⟩:=h;simp only
    cases q:Nat.beq j i with
    | true=>
     have:=aP q;subst this;exact m.trans (.one (TY (by rw [f];simp [exitTo])))
    | false=>
     have:¬ i=j:=fun h=>by subst h;simp at q
     simp only [aR,c];exact ⟨k1,by rw [f];simp [exitTo,this],m⟩
  exact (kr sr _).got hq (A9.1 d h1)
 .cases h
theorem Yh (t:RecOk C r) {fr:AFr} {a:Code} {s:St} {q:R} (e:Hf a (r.code fr a s)=some q):CodeOk C fr (.scope a) s q:=by
 intro σ T D W g sr b k o cs d u;rcases d with rfl|⟨_,h,_⟩
 .unfold Hf at e;split at e
  .cases e
  .rename_i y hq;split at e
   .rename_i f;cases e;intro hn;obtain ⟨p,h1,h2⟩:=t.code _ _ _ _ hq σ T D W g sr b (.inScope a :: k) _ cs (.inl rfl) u hn;refine ⟨p,h1,?_⟩;obtain ⟨τ,v,w,V,r1,i,h⟩:=h2;refine ⟨τ,v,w,V,r1,i,.of_steps (.one Ov) ?_⟩;have l:=xX f h1
    cases c:p.x with
    | normal=>rw [c] at h;exact h.trans (.one HZ)
    | ret=>rw [c] at h;exact h
    | raise a=>rw [c] at h;exact h
    | goto j=>
     rw [c] at h;obtain ⟨k1,m,n⟩:=h;exact ⟨k1,by rw [m];simp [gotoIn,l j c],n⟩
    | exit j=>
     rw [c] at h;obtain ⟨k1,m,n⟩:=h;exact ⟨k1,by rw [m];simp [exitTo],n⟩
   .cases e
 .cases h
theorem adM (i:CtxOk C) (j:RecOk C r) {fr:AFr} {a:Code} {s:St} {q:R} (e:Hg C r fr (.loop a) s=some q):CodeOk C fr (.loop a) s q:=by
 simp only [Hg] at e;split at e
 .rename_i o hq;cases e;exact i.loop _ _ _ _ hq
 .intro σ T D W g sr b k f cs d l;have:=OC (y:=.inLoop a) e j g sr (b:=b) (k:=k) (cs:=cs) rfl (.inr ⟨a,rfl,rfl⟩) l;intro hn;obtain ⟨m,h1,h2⟩:=this hn;refine ⟨m,h1,h2.imp fun p t V h=>?_⟩;rcases d with rfl|⟨c,n,rfl⟩
  .exact .of_steps (.one BZ) h
  .cases n;exact .of_steps (.one nG) h
theorem Yi (z:CtxOk C) (p:RecOk C r) (dr:Rp C r) (rg:∀ fr f params assign body s q,LJ C r fr (bv C s f) params.toList assign body s=some q->CodeOk C fr (.rangeFunc f params assign body) s q)
  {fr:AFr} {c:Code} {s:St} {q:R} (e:Hg C r fr c s=some q):CodeOk C fr c s q:=by
 have j:∀ (c:Code),(∀ a,c≠.loop a)->(∀ σ T D W,GRel C σ->SRel σ s T D W->∀ (b:Base) (k:List Item) (cs:List Frame),FrRel σ fr b->gI (Post σ s W (Arr C.P (lone (b.fr T D (.code c :: k)) cs W) b k cs)) q)->CodeOk C fr c s q:=by
  intro c A h σ T D W g sr b k n cs o m;rcases o with rfl|⟨a,ha,_⟩
  .exact h σ T D W g sr b k cs m
  .exact absurd ha (A a)
 cases c with
 | loop a=>exact adM z p e
 | skip=>exact j _ (by simp) fun σ T D W g sr b k cs m=>vo sr e (.one adK)
 | label l=>exact j _ (by simp) fun σ T D W g sr b k cs m=>vo sr e (.one X7)
 | ret=>exact j _ (by simp) fun σ T D W g sr b k cs m=>vo sr e ⟨k,.refl _ _⟩
 | exit i=>exact j _ (by simp) fun σ T D W g sr b k cs m=>vo sr e ⟨k,rfl,.refl _ _⟩
 | goto i=>exact j _ (by simp) fun σ T D W g sr b k cs m=>vo sr e ⟨k,rfl,.refl _ _⟩
 | seq a c=>
  refine j _ (by simp) fun σ T D W g sr b k cs m=>?_
  .have:=OC (y:=.code c) e p g sr (b:=b) (k:=k) (cs:=cs) rfl (.inl rfl) m;intro hn;obtain ⟨u,h1,h2⟩:=this hn;exact ⟨u,h1,h2.imp fun E F V h=>.of_steps (.one X8) h⟩
 | cond x a c=>exact Yf p e
 | scope a=>exact Yh p e
 | rangeFunc f params assign body=>exact rg _ _ _ _ _ _ _ e
 | block i a=>
  simp only [Hg,xW] at e;split at e
  .cases e
  .rename_i nd l h;cases e;intro σ T D W g sr b k n cs o m;obtain ⟨t,v⟩:=nI sr;exact jl t.ko v (Yg p h σ T D W g t b k n cs o m) fun _ _ _ _ h=>h
 | region i ops d=>
  cases d with
  | false=>
   refine j _ (by simp) fun σ T D W g sr b k cs m=>?_;have hb:(b.round=none\/ops.toList.any wh=false)/\BI C r ops ops.toList s=some q:=by
    simp only [Hg] at e;have h2:=m.2;split at e
    .rename_i H;rw [H] at h2;exact ⟨.inl h2,e⟩
    .split at e
     .cases e
     .rename_i hd;exact ⟨.inr hd,e⟩
   have:=TZ z p b k cs (T9 ops) hb.1 s q hb.2 σ T D W g sr;intro hn;obtain ⟨u,h1,h2⟩:=this hn;refine ⟨u,h1,h2.imp ?_⟩
   rintro E F V ⟨J,h⟩
   exact .of_steps (.one Kg) h
  | true=>
   simp only [Hg] at e;split at e
   .cases e
   .rename_i l I;split at e
    .rename_i ha;exact dr fr i ops l s q I ha e
    .cases e
 | refuse w=>cases e
end codes
theorem Yj {i n:Nat} (h:i<n):Nat.blt i n=true:=by simpa using h
theorem qL {i n:Nat} (h:Nat.blt i n=true):i<n:=by simpa using h
mutual
def AV.allN (p:Nat->Prop):AV->Prop
 | .ptr i _=>p i
 | .slice i _ _ _=>p i
 | .gslice i _ _ _=>p i
 | .func _ E cs=>AV.allNL p E/\AV.allNL p cs
 | .yield l=>p l
 | .iface _ v=>AV.allN p v
 | .map i=>p i
 | .vslice i _=>p i
 | .pslice i _ _ _=>p i
 | .lslice i _=>p i
 | .islice _ i _ _=>p i
 | .panic v=>AV.allN p v
 | .vptr i _=>p i
 | .agg l=>AV.allNL p l
 | .tuple l=>AV.allNL p l
 | .any _=>True
 | .bool _ _=>True
 | .int _ _ _=>True
 | .str _ _=>True
 | .nil=>True
 | .nilslice=>True
 | .eslice _=>True
 | .nilfunc=>True
 | .niliface=>True
 | .nilmap=>True
def AV.allNL (p:Nat->Prop):List AV->Prop
 | []=>True
 | a :: l=>AV.allN p a/\AV.allNL p l
end
mutual
theorem VRel.ren {σ τ:Sg} {p:Nat->Prop} {ρ:Nat->Nat} (h:∀ i x,p i->σ i=some x->τ (ρ i)=some x):∀ (a:AV) (v:Value),VRel σ a v->a.allN p->VRel τ (a.ren ρ) v
 | .any false,_,_,_=>trivial
 | .any true,_,e,_=>e
 | .bool _ _,_,e,_=>e
 | .int _ _ _,_,e,_=>e
 | .str _ _,_,e,_=>e
 | .nil,_,e,_=>e
 | .nilslice,_,e,_=>e
 | .eslice _,_,e,_=>e
 | .nilfunc,_,e,_=>e
 | .niliface,_,e,_=>e
 | .nilmap,_,e,_=>e
 | .ptr i o,_,⟨b,N,e,r⟩,u=>⟨b,N,h _ _ u e,r⟩
 | .slice i _ _ _,_,⟨b,N,e,r⟩,u=>⟨b,N,h _ _ u e,r⟩
 | .gslice i _ _ _,_,⟨b,N,q,c,e,r⟩,u=>⟨b,N,q,c,h _ _ u e,r⟩
 | .func _ Q cs,_,⟨F,K,e,r,s⟩,u=>⟨F,K,e,VRels.ren h Q _ r u.1,VRels.ren h cs _ s u.2⟩
 | .yield i,_,⟨b,N,e,r⟩,u=>⟨b,N,h _ _ u e,r⟩
 | .iface _ a,_,⟨x,e,r⟩,u=>⟨x,e,VRel.ren h a _ r u⟩
 | .map i,_,⟨b,N,e,r⟩,u=>⟨b,N,h _ _ u e,r⟩
 | .vslice i _,_,⟨b,N,c,e,r⟩,u=>⟨b,N,c,h _ _ u e,r⟩
 | .pslice i _ _ _,_,⟨E,len,c,J,O,e3,r⟩,u=>⟨E,len,c,J,O,e3,r.imp id fun ⟨b,N,h1,h2⟩=>⟨b,N,h _ _ u h1,h2⟩⟩
 | .lslice i _,_,⟨E,len,c,J,O,r⟩,u=>⟨E,len,c,J,O,r.imp id fun ⟨b,N,h1,h2⟩=>⟨b,N,h _ _ u h1,h2⟩⟩
 | .islice _ i _ _,_,⟨E,len,c,J,O,r⟩,u=>⟨E,len,c,J,O,r.imp id fun ⟨b,N,h1,h2⟩=>⟨b,N,h _ _ u h1,h2⟩⟩
 | .panic a,v,e,u=>VRel.ren h a v e u
 | .vptr i _,_,⟨b,N,e,r⟩,u=>⟨b,N,h _ _ u e,r⟩
 | .agg l,_,⟨K,e,r⟩,u=>⟨K,e,VRels.ren h l _ r u⟩
 | .tuple l,_,⟨K,e,r⟩,u=>⟨K,e,VRels.ren h l _ r u⟩
theorem VRels.ren {σ τ:Sg} {p:Nat->Prop} {ρ:Nat->Nat} (h:∀ i x,p i->σ i=some x->τ (ρ i)=some x):∀ (l:List AV) (L:List Value),VRels σ l L->AV.allNL p l->VRels τ (AV.renL ρ l) L
 | [],_,e,_=>e
 | a :: l,_,⟨v,E,e,r,s⟩,u=>⟨v,E,e,VRel.ren h a _ r u.1,VRels.ren h l _ s u.2⟩
end
mutual
theorem AV.allN_mono {p q:Nat->Prop} (h:∀ i,p i->q i):∀ (a:AV),a.allN p->a.allN q
 | .ptr i _,u=>h i u
 | .slice i _ _ _,u=>h i u
 | .gslice i _ _ _,u=>h i u
 | .func _ E cs,u=>⟨AV.allNL_mono h E u.1,AV.allNL_mono h cs u.2⟩
 | .yield l,u=>h l u
 | .iface _ v,u=>AV.allN_mono h v u
 | .map i,u=>h i u
 | .vslice i _,u=>h i u
 | .pslice i _ _ _,u=>h i u
 | .lslice i _,u=>h i u
 | .islice _ i _ _,u=>h i u
 | .panic v,u=>AV.allN_mono h v u
 | .vptr i _,u=>h i u
 | .agg l,u=>AV.allNL_mono h l u
 | .tuple l,u=>AV.allNL_mono h l u
 | .any _,_=>trivial
 | .bool _ _,_=>trivial
 | .int _ _ _,_=>trivial
 | .str _ _,_=>trivial
 | .nil,_=>trivial
 | .nilslice,_=>trivial
 | .eslice _,_=>trivial
 | .nilfunc,_=>trivial
 | .niliface,_=>trivial
 | .nilmap,_=>trivial
theorem AV.allNL_mono {p q:Nat->Prop} (h:∀ i,p i->q i):∀ (l:List AV),AV.allNL p l->AV.allNL q l
 | [],_=>trivial
 | a :: l,u=>⟨AV.allN_mono h a u.1,AV.allNL_mono h l u.2⟩
end
structure Refd (n:Nat) (acc l:List Nat) (P:(Nat->Prop)->Prop):Prop where
 sub:∀ i,i∈acc->i∈l
 all:P fun i=>i<n\/i∈l
 nd:acc.Nodup->l.Nodup
 ge:(∀ i∈acc,n<=i)->∀ i∈l,n<=i
theorem mq (n i:Nat) (acc:List Nat):Refd n acc (bif Nat.blt i n||acc.elem i then acc else acc++[i]) (fun p=>p i):=by
 cases h:Nat.blt i n||acc.elem i with
 | true=>
  refine ⟨fun _ h=>h,?_,id,id⟩;simp only [uR,kX,List.elem_eq_mem,aT] at h;exact h
 | false=>
  simp only [yX,List.elem_eq_mem,kK] at h;refine ⟨fun j c=>?_,?_,fun hd=>?_,fun d j c=>?_⟩
  .simp [c]
  .right;simp
  .simp only [aR];rw [uK];refine ⟨hd,by simp,?_⟩;intro a ha b hb;simp only [lU] at hb;subst hb;intro e;subst e;exact h.2 ha
  .simp only [aR,lW,lU] at c;rcases c with c|rfl
   .exact d j c
   .have h2:¬ j<n:=fun e=>by have:=Yj e;rw [h.1] at this;cases this
    omega
theorem jV (n:Nat) (acc:List Nat):Refd n acc acc (fun _=>True):=⟨fun _ h=>h,trivial,id,id⟩
theorem Refd.two {n:Nat} {acc l m:List Nat} {P Q:(Nat->Prop)->Prop} (x:Refd n acc l P) (y:Refd n l m Q) (mono:∀ p q:Nat->Prop,(∀ i,p i->q i)->P p->P q):Refd n acc m (fun p=>P p/\Q p):=
 ⟨fun i h=>y.sub i (x.sub i h),⟨mono _ _ (fun i h=>h.imp id (y.sub i)) x.all,y.all⟩,fun h=>y.nd (x.nd h),fun h=>y.ge (x.ge h)⟩
mutual
theorem Gs (n:Nat):∀ (acc:List Nat) (a:AV),Refd n acc (AV.refs n acc a) (fun p=>a.allN p)
 | acc,.ptr i _=>mq n i acc
 | acc,.slice i _ _ _=>mq n i acc
 | acc,.gslice i _ _ _=>mq n i acc
 | acc,.func _ c cs=>(xY n acc c).two (xY n _ cs) fun _ _ h=>AV.allNL_mono h c
 | acc,.yield l=>mq n l acc
 | acc,.iface _ v=>Gs n acc v
 | acc,.map i=>mq n i acc
 | acc,.vslice i _=>mq n i acc
 | acc,.pslice i _ _ _=>mq n i acc
 | acc,.lslice i _=>mq n i acc
 | acc,.islice _ i _ _=>mq n i acc
 | acc,.panic v=>Gs n acc v
 | acc,.vptr i _=>mq n i acc
 | acc,.agg l=>xY n acc l
 | acc,.tuple l=>xY n acc l
 | acc,.any _=>jV n acc
 | acc,.bool _ _=>jV n acc
 | acc,.int _ _ _=>jV n acc
 | acc,.str _ _=>jV n acc
 | acc,.nil=>jV n acc
 | acc,.nilslice=>jV n acc
 | acc,.eslice _=>jV n acc
 | acc,.nilfunc=>jV n acc
 | acc,.niliface=>jV n acc
 | acc,.nilmap=>jV n acc
theorem xY (n:Nat):∀ (acc:List Nat) (l:List AV),Refd n acc (AV.refsL n acc l) (fun p=>AV.allNL p l)
 | acc,[]=>jV n acc
 | acc,a :: l=>(Gs n acc a).two (xY n _ l) fun _ _ h=>AV.allN_mono h a
end
mutual
theorem AV.ren_id:∀ (a:AV),a.ren id=a
 | .ptr i _=>rfl
 | .slice i _ _ _=>rfl
 | .gslice i _ _ _=>rfl
 | .func _ E cs=>by simp [AV.ren,AV.renL_id E,AV.renL_id cs]
 | .yield l=>rfl
 | .iface _ v=>by simp [AV.ren,AV.ren_id v]
 | .map i=>rfl
 | .vslice i _=>rfl
 | .pslice i _ _ _=>rfl
 | .lslice i _=>rfl
 | .islice _ i _ _=>rfl
 | .panic v=>by simp [AV.ren,AV.ren_id v]
 | .vptr i _=>rfl
 | .agg l=>by simp [AV.ren,AV.renL_id l]
 | .tuple l=>by simp [AV.ren,AV.renL_id l]
 | .any _=>rfl
 | .bool _ _=>rfl
 | .int _ _ _=>rfl
 | .str _ _=>rfl
 | .nil=>rfl
 | .nilslice=>rfl
 | .eslice _=>rfl
 | .nilfunc=>rfl
 | .niliface=>rfl
 | .nilmap=>rfl
theorem AV.renL_id:∀ (l:List AV),AV.renL id l=l
 | []=>rfl
 | a :: l=>by simp [AV.renL,AV.ren_id a,AV.renL_id l]
end
theorem Ki {n:Nat}:∀ (l:List AT),LM n l=AV.underL n (l.map (·.v))
 | []=>rfl
 | a :: l=>by simp [LM,AV.underL,Ki l]
theorem BRel.under {σ:Sg} {n N:Nat} {w c:Nat} {b:ABody} {o:Obj} (h:BRel σ N b o) (hp:nR ⟨w,b⟩ c n=true) (hw:c<=w):BRel (σ.low n) N b o:=by
 unfold nR at hp;split at hp
 .rename_i h1;have:=qL h1;simp only at this;omega
 .cases b with
  | dead=>trivial
  | cells l=>obtain ⟨K,e,k1,k2,E⟩:=h;exact ⟨K,e,k1,VRels.low _ _ k2 hp,E⟩
  | grown l=>obtain ⟨K,e,X,Y,k1,k2,E,k4⟩:=h;exact ⟨K,e,X,Y,k1,k2,VRels.low _ _ E hp,k4⟩
  | ints q xs=>exact h
  | map es=>cases hp
  | view l=>cases hp
  | hold l=>cases hp
  | rows k xs=>exact h
  | loop r=>
   simp only [aF,kX,Ki] at hp;obtain ⟨L,k1,k2,E,k4,J,k6,O,Q,M,k9⟩:=h;exact ⟨L,k1,k2,E,k4,VRels.low _ _ J hp.2,k6,O,Q,M,by simp [Sg.low,hp.1,k9]⟩
  | defers t=>exact h
theorem Cf {c n:Nat}:∀ {l:List ABlk},xM c n l=true->∀ (j:Nat) (b:ABlk),l[j]?=some b->nR b c n=true
 | [],_,j,b,h=>by simp at h
 | a :: l,hp,0,b,h=>by
  simp only [xM,aF] at hp;simp only [yT,bi] at h;subst h;exact hp.1
 | a :: l,hp,j+1,b,h=>by
  simp only [xM,aF] at hp;exact Cf hp.2 j b (by simpa using h)
theorem Kj {h:Hp} {n:Nat}:∀ {ids:List Nat} {acc l:List ABlk},pick h n ids acc=some l->∃ m:List ABlk,l=m.reverse++acc/\m.length=ids.length /\
  ∀ (j i:Nat),ids[j]?=some i->∃ b:ABlk,m[j]?=some b/\h.get i=some b/\nR ⟨h.clock,b.body⟩ h.clock n=true
 | [],acc,l,e=>by cases e;exact ⟨[],rfl,rfl,fun j i h=>(by simp at h)⟩
 | i :: ids,acc,l,e=>by
  have a:∀ b:ABlk,h.get i=some b->nR ⟨h.clock,b.body⟩ h.clock n=true->pick h n ids (b :: acc)=some l->∃ m:List ABlk,l=m.reverse++acc/\m.length=(i :: ids).length /\
    ∀ (j d:Nat),(i :: ids)[j]?=some d->∃ b:ABlk,m[j]?=some b/\h.get d=some b/\nR ⟨h.clock,b.body⟩ h.clock n=true:=by
   intro b hb hp e;obtain ⟨m,h1,h2,h3⟩:=Kj e;refine ⟨b :: m,by simp [h1],by simp [h2],fun j d g=>?_⟩
   cases j with
   | zero=>simp only [yT,bi] at g;subst g;exact ⟨b,rfl,hb,hp⟩
   | succ j=>simpa using h3 j d (by simpa using g)
  have f:Nat.blt h.clock h.clock=false:=by rw [kQ];intro e;have:=qL e;omega
  simp only [pick] at e;split at e
  .rename_i w m c;split at e
   .rename_i o;exact a _ c (by simp [nR,f,o]) e
   .cases e
  .rename_i w m c;split at e
   .rename_i o;exact a _ c (by simp [nR,f,o]) e
   .cases e
  .rename_i w k m c;exact a _ c (by simp [nR,f]) e
  .rename_i w k m c;exact a _ c (by simp [nR,f]) e
  .cases e
theorem H9 {σ τ:Sg} {a h1:Hp} {W X:World} (r0:HRel σ a W) (r1:HRel τ h1 X) (g:Good σ a W τ h1 X) {v:AV} {V:Value} (I:VRel τ v V):
  ∃ υ,VRel υ (gc a.size a.clock v h1).1 V/\HRel υ (gc a.size a.clock v h1).2 X/\Good σ a W υ (gc a.size a.clock v h1).2 X:=by
 unfold gc;split
 .exact ⟨τ,I,r1,g⟩
 .simp only;split
  .rename_i af;have an:=g.mon.size;have hold:∀ i,i<a.size->(fo (h1.size - a.size) h1.blks)[a.size - 1 - i]?=h1.get i:=by
    intro i hi;rw [nU,ig,Hp.get_eq,aC (by omega)]
    congr 1;omega
   have J:(fo (h1.size - a.size) h1.blks).length=a.size:=by rw [nU,iq,r1.ok];omega
   have n:∀ i B N,σ i=some (B,N)->i<a.size:=fun i B N e=>(r0.dom i B N e).1;have K:∀ i b,i<a.size->h1.get i=some b->b.body.isDead=false->∃ B N o,τ i=some (B,N)/\X.heap[B]?=some o/\BRel (τ.low a.size) N b.body o:=by
    intro i b hi hb hd;obtain ⟨B,N,o,H,O,q3⟩:=r1.blk i b hb hd;refine ⟨B,N,o,H,O,?_⟩;obtain ⟨b0,Q⟩:=Hp.get_some r0.ok hi;by_cases hw:a.clock<=b.wr
    .have:=Cf af (a.size - 1 - i) b (by rw [hold i hi];exact hb);exact BRel.under q3 this hw
    .have ag:b=b0:=(g.mon.same i b0 b Q hb).resolve_right hw;subst ag;obtain ⟨B',N',o',_,_,q6⟩:=r0.blk i b Q hd;exact BRel.names n g.sub q6 q3
   have f:∀ (ids:List Nat) (l:List ABlk),Refd a.size [] ids (fun p=>v.allN p)->pick h1 a.size ids (fo (h1.size - a.size) h1.blks)=some l ->
     ∃ υ,VRel υ (AV.ren (Aq a.size ids) v) V/\HRel υ ⟨l,a.size+ids.length,h1.clock⟩ X/\Good σ a W υ ⟨l,a.size+ids.length,h1.clock⟩ X/\(ids=[]->υ=τ.low a.size):=by
    intro ids l hr ah;obtain ⟨m,rfl,hm,A⟩:=Kj ah;have Y:∀ j,j<ids.length->∃ i,ids[j]?=some i/\a.size<=i/\i<h1.size:=by intro j u;obtain ⟨b,_,h2,_⟩:=A j ids[j] (dh u);exact ⟨ids[j],dh u,hr.ge (by simp) _ (List.getElem_mem u),Hp.get_lt h2⟩
    have ai:=hr.nd (by simp)
    let υ:Sg:=fun i=>if i<a.size then τ i else match ids[i - a.size]? with|some j=>τ j|none=>none
    have y:Sub (τ.low a.size) υ:=by intro i x e;obtain ⟨h2,h3⟩:=wE e;simp [υ,h2,h3]
    have t:∀ i x,υ i=some x->(i<a.size/\τ i=some x)\/(a.size<=i/\∃ j,ids[i - a.size]?=some j/\τ j=some x):=by
     intro i x e;simp only [υ] at e;split at e
     .exact .inl ⟨by assumption,e⟩
     .rename_i hi;right;refine ⟨by omega,?_⟩;split at e
      .rename_i j u;exact ⟨j,u,e⟩
      .cases e
    have d:∀ i,(⟨m.reverse++fo (h1.size - a.size) h1.blks,a.size+ids.length,h1.clock⟩:Hp).get i=if i<a.size then h1.get i else m[i - a.size]?:=by
     intro i;rw [Hp.get_eq];simp only;by_cases hi:i<a.size
     .rw [aC (by omega),aC hi,<- hold i hi,mP (by simp;omega)]
      congr 1;simp;omega
     .rw [aB hi];by_cases u:i<a.size+ids.length
      .rw [aC u,kJ (by simp;omega),List.getElem?_reverse (by omega)]
       congr 1;omega
      .rw [aB u,dB (by omega)]
    have E:∀ i B N,υ i=some (B,N)->a.size<=i->B<W.heap.size->False\/∃ j M c,j<a.size/\σ j=some (B,M)/\(⟨m.reverse++fo (h1.size - a.size) h1.blks,a.size+ids.length,h1.clock⟩:Hp).get j=some c/\a.clock<=c.wr:=by
     intro i B N e hi hB;rcases t i _ e with ⟨h2,_⟩|⟨_,j,h2,h3⟩
     .omega
     .obtain ⟨z,H,O,_⟩:=Y (i - a.size) (je.1 h2).1;rw [h2] at H;cases H;obtain ⟨j',M,c,s,p2,p3,p4⟩:=(g.old j B N h3 O hB).resolve_left id;exact .inr ⟨j',M,c,s,p2,by rw [d,aC s];exact p3,p4⟩
    have aa:HRel υ ⟨m.reverse++fo (h1.size - a.size) h1.blks,a.size+ids.length,h1.clock⟩ X:=by
     refine ⟨by simp [Hp.ok,J,hm];omega,fun i b hb hd=>?_,fun i B N e=>?_,fun i j b c B N M H O q3 q4 q5 q6=>?_⟩
     .rw [d] at hb;split at hb
      .rename_i hi;obtain ⟨B,N,o,s,p2,p3⟩:=K i b hi hb hd;exact ⟨B,N,o,by simp [υ,hi,s],p2,BRel.mono y p3⟩
      .rename_i hi;have q:i - a.size<ids.length:=by
        have:=(je.1 hb).1;omega
       obtain ⟨b',s,p2,p3⟩:=A (i - a.size) _ (dh q);rw [hb] at s;cases s;obtain ⟨B,N,o,s1,s2,s3⟩:=r1.blk _ b p2 hd;refine ⟨B,N,o,by simp [υ,hi,q,s1],s2,BRel.mono y (BRel.under s3 p3 (bD _))⟩
     .rcases t i _ e with ⟨h2,h3⟩|⟨h2,j,h3,h4⟩
      .exact ⟨by simp only;omega,(r1.dom _ _ _ h3).2⟩
      .have:=(je.1 h3).1;exact ⟨by simp only;omega,(r1.dom _ _ _ h4).2⟩
     .-- two ab of one aj
      have back:∀ i b B N,(⟨m.reverse++fo (h1.size - a.size) h1.blks,a.size+ids.length,h1.clock⟩:Hp).get i=some b->υ i=some (B,N)->∃ z,h1.get z=some b/\τ z=some (B,N)/\((i<a.size/\z=i)\/(a.size<=i/\a.size<=z/\ids[i - a.size]?=some z)):=by
       intro i b B N hb hi;rw [d] at hb;rcases t i _ hi with ⟨h2,h3⟩|⟨h2,j,h3,h4⟩
       .rw [aC h2] at hb;exact ⟨i,hb,h3,.inl ⟨h2,rfl⟩⟩
       .rw [aB (by omega)] at hb;obtain ⟨b',s,p2,_⟩:=A _ j h3;rw [hb] at s;cases s;exact ⟨j,p2,h4,.inr ⟨h2,hr.ge (by simp) _ (jg h3),h3⟩⟩
      obtain ⟨z,a1,a2,a3⟩:=back i b B N H q5;obtain ⟨j',b1,b2,b3⟩:=back j c B M O q6;rcases r1.inj z j' b c B N M a1 b1 q3 q4 a2 b2 with F|F
      case inr=>exact .inr F
      left;subst F;rcases a3 with ⟨_,rfl⟩|⟨c1,c2,c3⟩ <;> rcases b3 with ⟨_,d2⟩|⟨d1,d2,d3⟩
      .exact d2
      .omega
      .omega
      .have l1:=(je.1 c3);have l2:=(je.1 d3);obtain ⟨l1,ak⟩:=l1;obtain ⟨l2,al⟩:=l2;have:=(List.getElem_inj ai (h₀:=l1) (h₁:=l2)).1 (by rw [ak,al]);omega
    refine ⟨υ,?_,aa,⟨?_,?_,g.ext,⟨g.mon.clock,by simp only;omega,?_,?_⟩,E,?_⟩,?_⟩
    .refine VRel.ren (p:=fun i=>i<a.size\/i∈ids) ?_ v V I hr.all;intro i x hp hx;unfold Aq;by_cases hi:i<a.size
     .have:Nat.blt i a.size=true:=Yj hi;simp [this,υ,hi,hx]
     .have hb:Nat.blt i a.size=false:=by rw [kQ];intro e;exact hi (qL e)
      have ac:=hp.resolve_left hi;simp only [hb,aR,cK];have q:ids.idxOf i<ids.length:=List.idxOf_lt_length_iff.2 ac;have:ids[ids.idxOf i]?=some i:=by rw [dh q,List.getElem_idxOf q]
      have hn:¬ a.size+ids.idxOf i<a.size:=by omega
      simp only [υ,hn,bz,Nat.add_sub_cancel_left,this,hx]
    .intro i x e;have:=g.sub _ _ e;have hi:=n i _ _ e;simp [υ,hi,this]
    .intro i x e hi;rcases t i _ e with ⟨_,h3⟩|⟨h2,_⟩
     .exact g.only i x h3 hi
     .omega
    .intro i b c h2 h3;rw [d,aC (Hp.get_lt h2)] at h3;exact g.mon.same i b c h2 h3
    .intro i w c h2;rw [d,aC (Hp.get_lt h2)];exact g.mon.loop i w c h2
    .intro B hB hH hw;refine g.keep B hB hH fun i N c h2 h3=>hw i N c h2 ?_;rw [d,aC (n _ _ _ h2)];exact h3
    .rintro rfl
     funext i;by_cases hi:i<a.size
     .simp only [υ,Sg.low,hi,bn]
     .simp only [υ,Sg.low,hi,bz,List.getElem?_nil]
   have h:=Gs a.size [] v;split
   .rename_i ae;rw [ae] at h;obtain ⟨υ,g1,g2,g3,g4⟩:=f [] _ h rfl;refine ⟨υ,?_,g2,g3⟩;rw [g4 rfl];have:=VRel.ren (σ:=τ) (τ:=τ.low a.size) (p:=fun i=>i<a.size\/i∈[]) (ρ:=id) ?_ v V I h.all
    .rwa [AV.ren_id] at this
    .intro i x hp hx;simp at hp;simp [Sg.low,hp,hx]
   .split
    .rename_i l hl;obtain ⟨υ,g1,g2,g3,g4⟩:=f _ _ h hl;exact ⟨υ,g1,g2,g3⟩
    .exact ⟨τ,I,r1,g⟩
  .exact ⟨τ,I,r1,g⟩
end Go.Eng
namespace Go.Eng
def wJ (l:List CEnt):Prop:=l.filter (fun e=>e.g.val)=[]
theorem pG {l:List CEnt} {e:CEnt} (h:e.g.val=true) (k:wJ l):l9 (e :: l) e:=by unfold l9 wJ at *;simp [h,k]
theorem pJ {l:List CEnt} {e f:CEnt} (h:e.g.val=false) (k:l9 l f):l9 (e :: l) f:=by unfold l9 at *;simp [h,k]
theorem sG {l:List CEnt} {e:CEnt} (h:e.g.val=false) (k:wJ l):wJ (e :: l):=by unfold wJ at *;simp [h,k]
theorem sW {l:List CEnt} {a e:CEnt} (h:l9 (a :: l) e):(a.g.val=true/\a=e/\wJ l)\/(a.g.val=false/\l9 l e):=by
 unfold l9 wJ at *
 simp only [mW] at h
 cases ha:a.g.val with
 | true=>rw [ha] at h;simp at h;exact .inl ⟨rfl,h.1,by simpa using h.2⟩
 | false=>rw [ha] at h;exact .inr ⟨rfl,by simpa using h⟩
theorem sZ {l:List CEnt} {a:CEnt} (h:wJ (a :: l)):a.g.val=false/\wJ l:=by
 unfold wJ at *
 simp only [mW] at h
 cases ha:a.g.val with
 | true=>rw [ha] at h;simp at h
 | false=>rw [ha] at h;exact ⟨rfl,by simpa using h⟩
def Gt (s0:St) (Q:AV->Hp->Prop):Prop:=∀ (d g:Bool) (a b c:CEnt),Q9 d s0 g a b=some c->(g=true->Q a.v a.hp)->(g=false->Q b.v b.hp)->Q c.v c.hp
def JC (Q:AV->Hp->Prop) (l:List CEnt):Prop:=∃ e,l9 l e/\Q e.v e.hp
theorem Ba {pt:Bool} {s0:St} {Q:AV->Hp->Prop} (i:Gt s0 Q) {e:CEnt} (d:e.g.val=false):∀ {l:List CEnt},(JC Q l->JC Q (Ra pt s0 e l))/\(wJ l->wJ (Ra pt s0 e l))
 | []=>⟨fun ⟨f,h,_⟩=>by simp [l9] at h,fun _=>sG d rfl⟩
 | a :: l=>by
  obtain ⟨i1,j⟩:=Ba (pt:=pt) i d (l:=l);simp only [Ra,G.on_eq];split
  .rename_i c m;rw [d] at m;refine ⟨fun ⟨f,h,hq⟩=>?_,fun h=>?_⟩
   .rcases sW h with ⟨h1,rfl,h3⟩|⟨h1,h2⟩
    .have n:=i _ _ _ _ _ m (fun h=>by cases h) fun _=>hq;exact ⟨_,pG (by simp [h1]) h3,n⟩
    .exact ⟨f,pJ (by simp [h1,d]) h2,hq⟩
   .obtain ⟨h1,h2⟩:=sZ h;exact sG (by simp [h1,d]) h2
  .refine ⟨fun ⟨f,h,hq⟩=>?_,fun h=>?_⟩
   .rcases sW h with ⟨h1,rfl,h3⟩|⟨h1,h2⟩
    .exact ⟨a,pG h1 (j h3),hq⟩
    .obtain ⟨o,p,q⟩:=i1 ⟨f,h2,hq⟩;exact ⟨o,pJ h1 p,q⟩
   .obtain ⟨h1,h2⟩:=sZ h;exact sG h1 (j h2)
theorem Ia {pt:Bool} {s0:St} {Q:AV->Hp->Prop} (f:Gt s0 Q) {e:CEnt} (d:e.g.val=true) (hq:Q e.v e.hp):∀ {l:List CEnt},wJ l->JC Q (Ra pt s0 e l)
 | [],_=>⟨e,pG d rfl,hq⟩
 | a :: l,h=>by
  obtain ⟨h1,h2⟩:=sZ h;simp only [Ra,G.on_eq];split
  .rename_i c i;rw [d] at i;have j:=f _ _ _ _ _ i (fun _=>hq) fun h=>by cases h
   exact ⟨_,pG (by simp [d]) h2,j⟩
  .obtain ⟨m,n,o⟩:=Ia f d hq h2;exact ⟨m,pJ h1 n,o⟩
theorem zX {pt:Bool} {s0:St} {Q:AV->Hp->Prop} (c:Gt s0 Q):∀ {l:List CEnt},(JC Q l->JC Q (Hl pt s0 l))/\(wJ l->wJ (Hl pt s0 l))
 | []=>⟨id,id⟩
 | a :: l=>by
  obtain ⟨i1,d⟩:=zX (pt:=pt) c (l:=l);simp only [Hl];refine ⟨fun ⟨f,h,hq⟩=>?_,fun h=>?_⟩
  .rcases sW h with ⟨h1,rfl,h3⟩|⟨h1,h2⟩
   .exact Ia c h1 hq (d h3)
   .exact (Ba c h1).1 (i1 ⟨f,h2,hq⟩)
  .obtain ⟨h1,h2⟩:=sZ h;exact (Ba c h1).2 (d h2)
theorem EA {Q:AV->Hp->Prop} {l:List CEnt} (h:JC Q l):JC Q (N9 l):=by
 obtain ⟨e,h1,h2⟩:=h;unfold N9;split
 .rename_i f;rcases sW h1 with ⟨_,rfl,_⟩|⟨_,h3⟩
  .exact ⟨_,rfl,h2⟩
  .simp [l9] at h3
 .exact ⟨e,h1,h2⟩
def Ua (σ:Sg) (h:Hp) (W:World) (A:Bool->Value->World->Prop):AV->Hp->Prop:=
 fun v a=>∃ τ V X,VRel τ v V/\HRel τ a X/\Good σ h W τ a X/\A v.isPanic V X
theorem OD {a b:Bool} (h:XQ a b=true):a=b:=by cases a <;> cases b <;> first|rfl|cases h
theorem wK {σ:Sg} {h:Hp} {W:World} (r:HRel σ h W) (A:Bool->Value->World->Prop):Gt ⟨[⟨0,fE⟩],[],h⟩ (Ua σ h W A):=by
 intro w g a b c d ha hb;unfold Q9 at d;simp only at d;split at d
 .cases d
 rename_i f;simp only [aF] at f;have f:=OD f.1;split at d
 .rename_i t y z q;split at d
  case h_2=>cases d
  rename_i i;have i:=OD i;cases d;have r0:SRel σ ⟨[⟨0,fE⟩],[],h⟩ #[undef] [] W:=⟨⟨undef,[],rfl,⟨#[],rfl,rfl⟩,rfl⟩,rfl,r⟩;have st:∀ (v:AV) (k:Hp) (τ:Sg) (V:Value) (X:World),VRel τ v V->HRel τ k X->Good σ h W τ k X->SRel τ ⟨[⟨h.clock,v⟩],[],k⟩ #[V] [] X/\Step σ ⟨[⟨0,fE⟩],[],h⟩ W τ ⟨[⟨h.clock,v⟩],[],k⟩ X:=by
   intro v k τ V X h1 h2 h3;refine ⟨⟨⟨V,[],rfl,h1,rfl⟩,rfl,h2⟩,⟨h3,⟨rfl,fun t x s=>.inr ?_⟩⟩⟩
   cases t with
   | zero=>cases s;exact bD _
   | succ t=>simp at s
  cases g with
  | true=>
   obtain ⟨τ,V,X,h1,h2,h3,l⟩:=ha rfl;obtain ⟨m,p2⟩:=st _ _ τ V X h1 h2 h3;obtain ⟨υ,j,n⟩:=Fy r0 q (fun _=>⟨m,p2⟩) (fun h=>by cases h);obtain ⟨u,_,o,p,_⟩:=j.t;cases o;exact ⟨υ,V,X,p,j.h,n.good,by rw [i];exact l⟩
  | false=>
   obtain ⟨τ,V,X,h1,h2,h3,l⟩:=hb rfl;obtain ⟨m,p2⟩:=st _ _ τ V X h1 h2 h3;obtain ⟨υ,j,n⟩:=Fy r0 q (fun h=>by cases h) (fun _=>⟨m,p2⟩);obtain ⟨u,_,o,p,_⟩:=j.t;cases o;exact ⟨υ,V,X,p,j.h,n.good,by rw [i,f];exact l⟩
 .cases d
def Base.back (b:Base) (T:Array Value) (D:List Deferred) (todo:List Item):Frame:=
 { fn:=b.fn,tmps:=T,todo,defers:=D,mode:=.returning,kind:=b.kind,roundOf:=b.round }
section leaving
variable {P:Program} {b:Base} {T:Array Value} {D:List Deferred} {k:List Item} {cs:List Frame} {W:World}
theorem Ub (hb:b.round=none):step P (lone (b.fr T D []) cs W)=.next (lone (b.back T D []) cs W):=
 bI (by simp [stepG,stepG.exec,Base.fr,Base.back,hb])
theorem Yk (hb:b.round=none):step P (lone (b.fr T D (.code .ret :: k)) cs W)=.next (lone (b.back T D (.code .ret :: k)) cs W):=
 bI (by simp [stepG,stepG.exec,Base.fr,Base.back,hb])
theorem Yl {B:Nat} {E:List Deferred} (h:W.heap[B]?=some (.deferred (some []))):
  step P (lone (b.back T ({ target:=.collected B,args:=#[] } :: E) k) cs W)=.next (lone (b.back T E k) cs { W with heap:=W.heap.setIfInBounds B (.deferred none) }):=by
 have d:(Instr.takeDeferred B).run P W=.ok [] { W with heap:=W.heap.setIfInBounds B (.deferred none) }:=by
  have a:(getObj B).run P W=.ok (.deferred (some [])) W:=by simp only [getObj,Sem.run,h]
  have c:(setObj B (.deferred none)).run P W=.ok () { W with heap:=W.heap.setIfInBounds B (.deferred none) }:=by simp only [setObj,Sem.run,h,Dx,bn]
  simp only [Instr.takeDeferred,bO,a,bR,c,dn]
 exact bI (by simp [stepG,unwind,Base.back,d])
end leaving
theorem Ib {P:Program} {b:Base} {T:Array Value} {k:List Item} {cs:List Frame}:∀ {ds:List ADef} {h h':Hp},zQ ds h=some h'->∀ {σ:Sg} {D:List Deferred} {W:World},DRel σ ds D->HRel σ h W ->
  ∃ X,Steps P (lone (b.back T D k) cs W) (lone (b.back T [] k) cs X)/\HRel σ h' X/\Good σ h W σ h' X
 | [],h,h',e,σ,D,W,hd,a=>by
  cases e;rw [show D=[] from hd];exact ⟨W,.refl _ _,a,Good.refl σ h W fun i B N h=>(a.dom i B N h).1⟩
 | .call _ _ :: _,_,_,e,_,_,_,_,_=>by cases e
 | .collected i :: ds,h,h',e,σ,D,W,⟨B,N,E,h1,h2,h3⟩,a=>by
  simp only [zQ] at e;split at e
  .rename_i w f;rw [Hp.set_eq] at e;obtain ⟨t,u,o,g,j,l⟩:=a.blk i _ f rfl;rw [h1] at g;cases g;have m:o=.deferred (some []):=by simpa [BRel] using l
   subst m;have d:B<W.heap.size:=(jd.1 j).1;obtain ⟨r1,n⟩:=a.write (V:={ W with heap:=W.heap.setIfInBounds B (.deferred none) }) f rfl h1 (.defers true) (qw fun c h=>by cases h) (.deferred none)
    (by simp [d]) (by simp [BRel]) (by simp) (fun k p=>by simp [jG,gQ p]) rfl rfl rfl
   obtain ⟨X,q,p2,s⟩:=Ib (P:=P) (b:=b) (T:=T) (k:=k) (cs:=cs) e h3 r1;exact ⟨X,.head (by rw [h2];exact Yl j) q,p2,n.trans r1.ok p2.ok s⟩
  .cases e
def Uc (T:Array Value):ResultVar->Sem Value
 | .tmp t=>pure (T.getD t undef)
 | .cell a t=>do loadVar t (<- asAddr (T.getD a undef))
theorem Mf {P:Program} {σ:Sg} {tm:List AT} {h:Hp} {T:Array Value} {W:World} (d:TRel σ tm T) (f:HRel σ h W):∀ {l:List ResultVar} {nd:Nd} {vs:List AV},Jy P tm h l=some (nd,vs)->nd.val ->
  ∃ c:List Value,(l.mapM (Uc T)).run P W=.ok c W/\VRels σ vs c
 | [],nd,vs,e,hn=>by cases e;exact ⟨[],by simp,rfl⟩
 | .tmp t :: l,nd,vs,e,hn=>by
  simp only [Jy] at e;split at e
  .cases e
  .rename_i a ha;split at e
   .cases e
   .rename_i m r g;cases e;obtain ⟨c,h1,h2⟩:=Mf d f g hn;obtain ⟨V,h3,i⟩:=d.nth ha;have:T.getD t undef=V:=by
     simp only [mO,h3,uN]
    exact ⟨V :: c,by simp only [DY,Uc,this,bO,dn,bR,h1],V,c,rfl,i,h2⟩
 | .cell a t :: l,nd,vs,e,hn=>by
  simp only [Jy] at e;split at e
  .cases e
  .rename_i x ha;split at e
   .cases e
   .rename_i m y j;split at e
    .cases e
    .rename_i n r g;cases e;obtain ⟨c,h1,h2⟩:=Mf d f g (Nd.rv hn);obtain ⟨V,h3,i⟩:=d.nth ha;have o:T.getD a undef=V:=by
      simp only [mO,h3,uN]
     obtain ⟨B,off,Y,rfl,p,q⟩:=TQ f i j (Nd.lv hn);refine ⟨Y :: c,?_,Y,c,rfl,q,h2⟩;simp only [DY,Uc,o,asAddr,bO,dn,bR,p,h1]
theorem adN {σ:Sg} {vs:List AV} {a:List Value} (h:VRels σ vs a):VRel σ (tup vs) (if h:a.toArray.size=1 then a.toArray[0] else .tuple a.toArray):=by
 unfold tup;split
 .obtain ⟨v,_,rfl,h1,rfl⟩:=h;simpa using h1
 .rename_i c;have:a.toArray.size≠1:=by
   intro e;have:=h.length;simp only [List.size_toArray] at e;rw [e] at this
   match vs,this with
   | [v],_=>exact c v rfl
  rw [dif_neg this];exact ⟨_,rfl,by simpa using h⟩
theorem Ic {P:Program} {σ:Sg} {s:St} {T:Array Value} {W:World} {h:Hp} (a:TRel σ s.tmps T) (c:HRel σ h W) {fn:Func} {nd:Nd} {vs:List AV} (e:Jy P s.tmps h fn.results.toList=some (nd,vs)) (hn:nd.val):
  ∃ V,(results fn T).run P W=.ok V W/\VRel σ (tup vs) V:=by
 obtain ⟨f,h1,h2⟩:=Mf a c e hn;refine ⟨_,?_,adN h2⟩;have d:results fn T=(do let vs<-fn.results.mapM (Uc T);pure (if h:vs.size=1 then vs[0] else .tuple vs)):=by
  unfold results
  congr 1
 rw [d,Array.mapM_eq_mapM_toList];simp only [bind_assoc,map_eq_pure_bind,bO,h1,bR,pure_bind,dn]
theorem Ie:∀ (l:List AV),(N8 l).map (·.v)=l
 | []=>rfl
 | a :: l=>by simp [N8,Ie l]
theorem Bb {σ:Sg}:∀ (n:Nat),VRels σ ((AP n).map (·.v)) (List.replicate n undef)
 | 0=>rfl
 | n+1=>⟨undef,List.replicate n undef,rfl,⟨#[],rfl,rfl⟩,Bb n⟩
def Base.out (b:Base) (m:FrameMode) (T:Array Value) (D:List Deferred) (todo:List Item):Frame:=
 { fn:=b.fn,tmps:=T,todo,defers:=D,mode:=m,kind:=b.kind,roundOf:=b.round }
def vv:Option Value->FrameMode
 | none=>.returning
 | some V=>.panicking [{ v:=V,recovered:=false }]
def uw:Option Value->FrameMode
 | none=>.returning
 | some V=>.panicking [{ v:=V,recovered:=true }]
theorem OE (p:Option Value):settle (uw p)=.returning:=by cases p <;> rfl
def EB:Option AV->Option Value->Prop
 | none,none=>True
 | some a,some V=>VRel Ot a V
 | _,_=>False
def an2 (P:Program) (f:FuncId) (fr:Frame) (pn:Bool) (V:Value) (W:World):Prop:=
 match pn with
 | false=>A7 P f .normal fr V W
 | true=>fr.mode=.panicking [{ v:=V,recovered:=false }]/\fr.defers=[]/\∃ fn,P.funcs[fr.fn]?=some fn
section outs
variable {P:Program} {b:Base} {T:Array Value} {D:List Deferred} {k:List Item} {cs:List Frame} {W:World}
theorem VM {p:Option Value} {B:Nat} {E:List Deferred} (h:W.heap[B]?=some (.deferred (some []))):
  step P (lone (b.out (vv p) T ({ target:=.collected B,args:=#[] } :: E) k) cs W)=.next (lone (b.out (vv p) T E k) cs { W with heap:=W.heap.setIfInBounds B (.deferred none) }):=by
 have d:(Instr.takeDeferred B).run P W=.ok [] { W with heap:=W.heap.setIfInBounds B (.deferred none) }:=by
  have a:(getObj B).run P W=.ok (.deferred (some [])) W:=by simp only [getObj,Sem.run,h]
  have c:(setObj B (.deferred none)).run P W=.ok () { W with heap:=W.heap.setIfInBounds B (.deferred none) }:=by simp only [setObj,Sem.run,h,Dx,bn]
  simp only [Instr.takeDeferred,bO,a,bR,c,dn]
 cases p with
 | none=>exact bI (by simp [stepG,unwind,Base.out,vv,d])
 | some V=>exact bI (by simp [stepG,unwind,Base.out,vv,d])
end outs
section recs
variable {C:Ctx} {r:Rec}
theorem VN (co:CtxOk C) (ro:RecOk C r) {ops:Array Oper} (b:Base) (hk:b.kind=.deferred) (hb:b.round=none) (k:List Item) (cs:List Frame) (c0:Frame) {p:Option AV} {PV:Option Value} (hp:EB p PV) (y:c0.mode=vv PV):
  ∀ {is:List Nat} {l:List Oper},Idx ops is l->∀ (s:St) (q:R),LP C r ops p l s=some q->∀ (σ:Sg) (T:Array Value) (D:List Deferred) (W:World),GRel C σ->SRel σ s T D W ->
  gI (Post σ s W (Arr C.P (lone (b.fr T D (.inRegion ops is :: k)) (c0 :: cs) W) b k ({ c0 with mode:=uw PV } :: cs))) q:=by
 intro is l hl
 induction hl with
 | nil=>intro s q e;cases e
 | @cons i o is l v j ih=>
  intro s q e σ T D W g sr;simp only [LP] at e;split at e
  .cases e
  rename_i z;have N:Region.wanted o (yielded ops T)=true:=by simp [Region.wanted,z]
  split at e
  .rename_i args ts m;have t:(execOp (ev T) o).run C.P W=.ok .recover W:=by
    simp only [execOp,m,resolve,bO,dn,bR,invoke,builtin]
   have hd:∀ c,o.op≠.defer c:=by intro c E;rw [E] at m;cases m
   have hv:∃ V,VRel Ot (an0 p) V/\step C.P (lone (b.fr T D (.inRegion ops (i :: is) :: k)) (c0 :: cs) W)=.next (lone (b.fr (jU T o.dst V) D (.inRegion ops is :: k)) ({ c0 with mode:=uw PV } :: cs) W):=by
    have F:∀ fr:Frame,fr.kind=.deferred->tryRecover fr (c0 :: cs)=recoverD (c0 :: cs):=fun fr h=>tryRecover_deferred h _;have O:=pE (P:=C.P) (b:=b) (k:=k) (cs:=c0 :: cs) (W:=W) (rest:=is) (D:=D) v N hd;have d:=F (b.fr T D (.inRegion ops (i :: is) :: k)) hk
    cases p with
    | none=>
     cases PV with
     | some V=>exact hp.elim
     | none=>
      refine ⟨.nilIface,rfl,?_⟩;have f:recoverD (c0 :: cs)=none:=by simp [recoverD,y,vv]
      have E:({ c0 with mode:=uw none }:Frame)=c0:=by rw [show uw none=c0.mode from y.symm]
      rw [<- lY v,E];refine bI ?_;rw [O];rw [f] at d;have n:(b.fr T D (.inRegion ops (i :: is) :: k)).roundOf=none:=hb;simp [stepG.apply,t,n,d]
    | some a=>
     cases PV with
     | none=>exact hp.elim
     | some V=>
      refine ⟨V,hp,?_⟩;have f:recoverD (c0 :: cs)=some (V,{ c0 with mode:=uw (some V) } :: cs):=by simp [recoverD,y,vv,uw]
      rw [<- lY v];refine bI ?_;rw [O];rw [f] at d;have n:(b.fr T D (.inRegion ops (i :: is) :: k)).roundOf=none:=hb;simp [stepG.apply,t,n,d]
   obtain ⟨V,hV,H⟩:=hv;refine Oz sr (VRel.anywhere hV) o.dst e fun w e1 r1=>?_;have:=TZ co ro b k ({ c0 with mode:=uw PV } :: cs) j (.inl hb) w q e1 σ _ D W g r1;intro hn;obtain ⟨I,h1,h2⟩:=this hn;refine ⟨I,h1,h2.imp ?_⟩
   rintro Q Y X ⟨_,h⟩
   exact .of_steps (.one H) h
  .split at e
   .rename_i nd w J;split at e
    .cases e
    .rename_i q' K;cases e;intro hn;replace hn:(nd.and q'.nd).val:=hn;obtain ⟨I,h1,τ,Q,Y,V,r1,u,hx,M⟩:=Fz J g sr v N b k (c0 :: cs) (rest:=is) (Nd.lv hn);have:I=⟨.tt,.normal,w⟩:=by
      unfold One at h1;simp [G.val] at h1;exact h1.symm
     subst this;have:=ih w q' K τ Q Y V (g.mono u.good.sub) r1;obtain ⟨e2,k1,k2⟩:=jl (A:=Arr C.P (lone (b.fr T D (.inRegion ops (i :: is) :: k)) (c0 :: cs) W) b k ({ c0 with mode:=uw PV } :: cs)) r1.ko u this (fun x T2 D2 X h=>.of_steps M h) (Nd.rv hn);exact ⟨e2,k1,k2⟩
   .cases e
theorem Gu (A:CtxOk C) (w:RecOk C r) {fr:AFr} (b:Base) (E:b.kind=.deferred) (cs:List Frame) (c0:Frame) {p:Option AV} {PV:Option Value} (hp:EB p PV) (F:c0.mode=vv PV):
  ∀ (c:Code) (s:St) (q:R),LQ C r fr p c s=some q->∀ (σ:Sg) (T:Array Value) (D:List Deferred) (W:World) (k:List Item),GRel C σ->SRel σ s T D W->FrRel σ fr b ->
  gI (Post σ s W (Arr C.P (lone (b.fr T D (.code c :: k)) (c0 :: cs) W) b k ({ c0 with mode:=uw PV } :: cs))) q
 | .seq a c,s,q,e,σ,T,D,W,k,g,sr,u=>by
  simp only [LQ] at e;refine pz (Q1:=Post σ s W (Arr C.P (lone (b.fr T D (.code (.seq a c) :: k)) (c0 :: cs) W) b (.code c :: k) ({ c0 with mode:=uw PV } :: cs))) (kr sr _) ?_ ?_ e ?_
  .rintro H m I ⟨τ,o,t,V,r1,d,O⟩
   have:=w.code _ _ _ _ I τ o t V (g.mono d.good.sub) r1 b k _ ({ c0 with mode:=uw PV } :: cs) (.inl rfl) (u.mono d.good.sub);exact jl r1.ko d this fun x T2 D2 X h=>.of_steps O h
  .rintro x H f ⟨τ,o,t,V,r1,d,h⟩
   exact ⟨τ,o,t,V,r1,d,h.pass (y:=.code c) rfl f⟩
  .intro m I;have:=Gu A w b E cs c0 hp F a s m I σ T D W (.code c :: k) g sr u;intro hn;obtain ⟨n,h1,h2⟩:=this hn;exact ⟨n,h1,h2.imp fun o t V h=>.of_steps (.one X8) h⟩
 | .block i a,s,q,e,σ,T,D,W,k,g,J,u=>by
  simp only [LQ,xW] at e;obtain ⟨sr,z⟩:=nI J;refine jl sr.ko z (B:=Arr C.P (lone (b.fr T D (.code (.block i a) :: k)) (c0 :: cs) W) b k ({ c0 with mode:=uw PV } :: cs)) ?_ fun _ _ _ _ h=>h;generalize (⟨s.tmps,s.defs,⟨s.hp.blks,s.hp.size,s.hp.clock+1⟩⟩:St)=H at e sr z;split at e
  .cases e
  .rename_i nd l Q;cases e;refine zV fun hn=>?_;obtain ⟨n,h1,h2⟩:=Gu A w b E cs c0 hp F a H ⟨nd,l⟩ Q σ T D W (.inBlock i :: k) g sr u hn;have hq:Post σ H W (Arr C.P (lone (b.fr T D (.code (.block i a) :: k)) (c0 :: cs) W) b k ({ c0 with mode:=uw PV } :: cs)) (ut i n).x n.s:=by
    obtain ⟨τ,o,t,V,r1,d,h⟩:=h2;refine ⟨τ,o,t,V,r1,d,.of_steps (.one Ou) ?_⟩;unfold ut
    cases f:n.x with
    | normal=>rw [f] at h;simp only [f];exact h.trans (.one HY)
    | ret=>rw [f] at h;simp only [f];exact h
    | raise a=>rw [f] at h;simp only [f];exact h
    | goto j=>
     rw [f] at h;obtain ⟨k1,m,v⟩:=h;simp only [f];exact ⟨k1,m,v⟩
    | exit j=>
     rw [f] at h;obtain ⟨k1,m,v⟩:=h;simp only
     cases N:Nat.beq j i with
     | true=>
      have:=aP N;subst this;exact v.trans (.one (TY (by rw [m];simp [exitTo])))
     | false=>
      have:¬ i=j:=fun h=>by subst h;simp at N
      simp only [aR,f];exact ⟨k1,by rw [m];simp [exitTo,this],v⟩
   exact (kr sr _).got hq (A9.1 n h1)
 | .scope a,s,q,e,σ,T,D,W,k,g,sr,u=>by
  simp only [LQ] at e;unfold Hf at e;split at e
  .cases e
  .rename_i q' hq;split at e
   .rename_i K;cases e;intro hn;obtain ⟨n,h1,h2⟩:=Gu A w b E cs c0 hp F a s _ hq σ T D W (.inScope a :: k) g sr u hn;refine ⟨n,h1,?_⟩;obtain ⟨τ,o,t,V,r1,d,h⟩:=h2;refine ⟨τ,o,t,V,r1,d,.of_steps (.one Ov) ?_⟩;have M:=xX K h1
    cases f:n.x with
    | normal=>rw [f] at h;exact h.trans (.one HZ)
    | ret=>rw [f] at h;exact h
    | raise a=>rw [f] at h;exact h
    | goto j=>
     rw [f] at h;obtain ⟨k1,m,v⟩:=h;exact ⟨k1,by rw [m];simp [gotoIn,M j f],v⟩
    | exit j=>
     rw [f] at h;obtain ⟨k1,m,v⟩:=h;exact ⟨k1,by rw [m];simp [exitTo],v⟩
   .cases e
 | .region i ops false,s,q,e,σ,T,D,W,k,g,sr,u=>by
  simp only [LQ] at e;have h2:=u.2;split at e
  .rename_i Y;rw [Y] at h2;have:=VN A w b E h2 k cs c0 hp F (T9 ops) s q e σ T D W g sr;intro hn;obtain ⟨n,h1,h2⟩:=this hn;exact ⟨n,h1,h2.imp fun o t V h=>.of_steps (.one Kg) h⟩
  .cases e
 | .region _ _ true,s,q,e,_,_,_,_,_,_,_,_=>by cases e
 | .skip,s,q,e,_,_,_,_,_,_,_,_=>by cases e
 | .label _,s,q,e,_,_,_,_,_,_,_,_=>by cases e
 | .ret,s,q,e,_,_,_,_,_,_,_,_=>by cases e
 | .exit _,s,q,e,_,_,_,_,_,_,_,_=>by cases e
 | .goto _,s,q,e,_,_,_,_,_,_,_,_=>by cases e
 | .cond _ _ _,s,q,e,_,_,_,_,_,_,_,_=>by cases e
 | .loop _,s,q,e,_,_,_,_,_,_,_,_=>by cases e
 | .rangeFunc _ _ _ _,s,q,e,_,_,_,_,_,_,_,_=>by cases e
 | .refuse _,s,q,e,_,_,_,_,_,_,_,_=>by cases e
theorem Kk {n c:Nat} {fn:Func} {e:Ent} {nd:Nd} {x:CEnt} (h:Vz C n c fn e=some (nd,x)):(e.x=.normal\/e.x=.ret)/\∃ h2 vs,zQ e.s.defs e.s.hp=some h2/\Jy C.P e.s.tmps h2 fn.results.toList=some (nd,vs)/\x=⟨e.g,.nil,(gc n c .nil h2).2⟩:=by
 have a:Vz.endR C n c fn e=some (nd,x)->∃ h2 vs,zQ e.s.defs e.s.hp=some h2/\Jy C.P e.s.tmps h2 fn.results.toList=some (nd,vs)/\x=⟨e.g,.nil,(gc n c .nil h2).2⟩:=by
  intro h;unfold Vz.endR at h;split at h
  .cases h
  .rename_i h2 hd;split at h
   .cases h
   .rename_i f vs i;cases h;exact ⟨h2,vs,hd,i,rfl⟩
 unfold Vz at h;split at h
 .rename_i d;exact ⟨.inl d,a h⟩
 .rename_i d;exact ⟨.inr d,a h⟩
 .cases h
theorem Kl {n c:Nat} {fn:Func}:∀ {l:List Ent} {nd:Nd} {m:List CEnt},TN C n c fn l=some (nd,m)->(Non l->wJ m)/\∀ e,One l e->∃ nd0 x,Vz C n c fn e=some (nd0,x)/\l9 m x/\(nd.val->nd0.val)
 | [],nd,m,e=>by cases e;exact ⟨fun _=>rfl,fun e h=>by simp [One] at h⟩
 | a :: l,nd,m,e=>by
  simp only [TN] at e;split at e
  .rename_i nd0 i o v j p;cases e;obtain ⟨i1,q⟩:=Kl p;have d:i.g=a.g:=by
    obtain ⟨_,_,_,_,_,rfl⟩:=Kk j;rfl
   refine ⟨fun h=>?_,fun e h=>?_⟩
   .obtain ⟨h1,h2⟩:=iV h;exact sG (by rw [d];exact h1) (i1 h2)
   .rcases fM h with ⟨h1,rfl,h3⟩|⟨h1,h2⟩
    .exact ⟨nd0,i,j,pG (by rw [d];exact h1) (i1 h3),fun hn=>Nd.iv (by have:=Nd.lv hn;rw [G.on_eq] at this;exact this) h1⟩
    .obtain ⟨f,x,s,t,u⟩:=q e h2;exact ⟨f,x,s,pJ (by rw [d];exact h1) t,fun hn=>u (Nd.rv hn)⟩
  .cases e
theorem VO (K:CtxOk C) (M:RecOk C r) {f:FuncId} {args:List AV} {p:Option AV} {h k:Hp} {nd:Nd} (e:Rb C r f args p h=some (nd,k)) (hn:nd.val) {σ:Sg} {A:Array Value} {W:World} (g:GRel C σ) (N:HRel σ h W) (ha:VRels σ args A.toList)
  {PV:Option Value} (hp:EB p PV) (c0:Frame) (O:c0.mode=vv PV) (cs:List Frame):
  (∃ fn:Func,C.P.funcs[f]?=some fn/\fn.body.isSome=true)/\∃ τ X fr v,HRel τ k X/\Good σ h W τ k X/\Steps C.P (lone (Frame.enter C.P f A .deferred) (c0 :: cs) W) (lone fr ({ c0 with mode:=uw PV } :: cs) X)/\fr.kind=.deferred/\fr.going C.P X (.returned v):=by
 unfold Rb at e;split at e
 .cases e
 rename_i fn m;split at e
 .cases e
 rename_i c a;refine ⟨⟨fn,m,by simp [a]⟩,?_⟩;simp only [cK] at e;split at e
 .cases e
 rename_i q hq;split at e
 .cases e
 rename_i Q l hl;split at e
 case h_2=>cases e
 rename_i v' k' u;cases e;have o:A.size=args.length:=by simpa using ha.length
 have w:SRel σ ⟨N8 args++AP (fn.ntmps - args.length),[],h⟩ (A++Array.replicate (fn.ntmps - A.size) undef) [] W:=by refine ⟨?_,rfl,N⟩;unfold TRel;simp only [jN,Ie,kP,JW,o];exact VRels.append ha (Bb _)
 obtain ⟨sr,y⟩:=nI w;have z:Frame.enter C.P f A .deferred=(Base.mk f .deferred none).fr (A++Array.replicate (fn.ntmps - A.size) undef) [] [.code c]:=by simp [Frame.enter,Base.fr,m,a]
 obtain ⟨e0,h1,τ,T,D,V,r1,E,n⟩:=Gu K M (fr:=⟨f,none⟩) (Base.mk f .deferred none) rfl cs c0 hp O c _ q hq σ _ [] W [] g sr ⟨rfl,rfl⟩ (Nd.lv hn);obtain ⟨nd0,x,q1,q2,q3⟩:=(Kl hl).2 e0 h1;have F:=q3 (Nd.rv hn);obtain ⟨s,h2,vs,hd,hv,rfl⟩:=Kk q1;have left:∃ i,Steps C.P (lone (Frame.enter C.P f A .deferred) (c0 :: cs) W) (lone ((Base.mk f .deferred none).back T D i) ({ c0 with mode:=uw PV } :: cs) V):=by
  rw [z];rcases s with s|s
  .rw [s] at n;exact ⟨[],n.trans (.one (Ub rfl))⟩
  .rw [s] at n;obtain ⟨k1,n⟩:=n;exact ⟨_,n.trans (.one (Yk rfl))⟩
 obtain ⟨i,j⟩:=left;obtain ⟨X,p1,p2,p3⟩:=Ib (P:=C.P) (b:=Base.mk f .deferred none) (T:=T) (k:=i) (cs:={ c0 with mode:=uw PV } :: cs) hd r1.d r1.h;obtain ⟨Y,p4,p5⟩:=Ic r1.t p2 hv F;obtain ⟨υ,I,s2,s3⟩:=H9 sr.h p2 (E.good.trans r1.h.ok p2.ok p3) (v:=.nil) (V:=.pointer none) rfl;have fin:JC (Ua σ ⟨h.blks,h.size,h.clock+1⟩ W fun _ _ X=>∃ fr v,Steps C.P (lone (Frame.enter C.P f A .deferred) (c0 :: cs) W) (lone fr ({ c0 with mode:=uw PV } :: cs) X)/\fr.kind=.deferred/\fr.going C.P X (.returned v)) l:=
  ⟨_,q2,υ,.pointer none,X,(by
   have:(gc h.size (h.clock+1) .nil h2).1=.nil:=by
    unfold gc;split
    .rfl
    .simp only;split
     .rfl
     .rfl
   rw [this] at I;exact I),s2,s3,_,Y,j.trans p1,rfl,rfl,rfl,fn,m,p4⟩
 obtain ⟨en,t1,H,V',X',t2,J,t4,fr,v,t5,t6,t7⟩:=EA ((zX (wK sr.h _)).1 fin);rw [u] at t1;have:en=⟨.tt,v',k⟩:=by unfold l9 at t1;simp [G.val] at t1;exact t1.symm
 subst this;exact ⟨H,X',fr,v,J,y.good.trans sr.h.ok J.ok t4,t5,t6,t7⟩
theorem zY (x:CtxOk C) (y:RecOk C r) {b:Base} {T:Array Value} {k:List Item} {cs:List Frame}:∀ {ds:List ADef} {p:Option AV} {h:Hp} {nd:Nd} {q:Option AV} {h':Hp},Eu C r ds p h=some (nd,q,h')->nd.val ->
  ∀ {σ:Sg} {D:List Deferred} {W:World} {PV:Option Value},GRel C σ->DRel σ ds D->HRel σ h W->EB p PV ->
  ∃ τ X a,EB q a/\Steps C.P (lone (b.out (vv PV) T D k) cs W) (lone (b.out (vv a) T [] k) cs X)/\HRel τ h' X/\Good σ h W τ h' X
 | [],p,h,nd,q,h',e,hn,σ,D,W,PV,g,hd,d,hp=>by
  cases e;rw [show D=[] from hd];exact ⟨σ,W,PV,hp,.refl _ _,d,Good.refl σ h W fun i B N h=>(d.dom i B N h).1⟩
 | .collected i :: ds,p,h,nd,q,h',e,hn,σ,D,W,PV,g,⟨B,N,E,h1,h2,h3⟩,d,hp=>by
  simp only [Eu] at e;split at e
  .rename_i w O;rw [Hp.set_eq] at e;obtain ⟨B',N',o,Q,q2,q3⟩:=d.blk i _ O rfl;rw [h1] at Q;cases Q;have ho:o=.deferred (some []):=by simpa [BRel] using q3
   subst ho;have z:B<W.heap.size:=(jd.1 q2).1;obtain ⟨r1,s⟩:=d.write (V:={ W with heap:=W.heap.setIfInBounds B (.deferred none) }) O rfl h1 (.defers true) (qw fun c h=>by cases h) (.deferred none)
    (by simp [z]) (by simp [BRel]) (by simp) (fun k A=>by simp [jG,gQ A]) rfl rfl rfl
   obtain ⟨τ,X,a,k1,k2,k3,k4⟩:=zY x y (b:=b) (T:=T) (k:=k) (cs:=cs) e hn g h3 r1 hp;exact ⟨τ,X,a,k1,.head (by rw [h2];exact VM q2) k2,k3,s.trans r1.ok k3.ok k4⟩
  .cases e
 | .call f as :: ds,p,h,nd,q,h',e,hn,σ,D,W,PV,g,⟨F,K,E,h1,h2,h3⟩,d,hp=>by
  simp only [Eu] at e;split at e
  .cases e
  rename_i aa k1 H;split at e
  .cases e
  rename_i m p2 k2 j;cases e;obtain ⟨⟨fn,I,l⟩,τ,X,fr,v,r1,s,s1,A,J⟩:=VO x y H (Nd.lv hn) g d h1 hp (b.out (vv PV) T E k) rfl cs;have t:(invoke (.fn (.func f) K) F).run C.P W=.ok (.enter f (F++K)) W:=by simp only [invoke];exact rq x.prog I l _ W
  have M:step C.P (lone (b.out (vv PV) T D k) cs W)=.next (lone (Frame.enter C.P f (F++K) .deferred) (b.out (vv PV) T E k :: cs) W):=by rw [h2];exact step_defer (fr:=b.out (vv PV) T ({ target:=.fn (.func f) K,args:=F } :: E) k) (ds:=E) (by cases PV <;> simp [Base.out,vv]) rfl rfl t
  have n:=step_going_returned (P:=C.P) (c:={ b.out (vv PV) T E k with mode:=uw PV }) (cs:=cs) A J;have u:({ ({ b.out (vv PV) T E k with mode:=uw PV }:Frame) with mode:=settle (uw PV) }:Frame)=b.out (vv none) T E k:=by rw [OE];rfl
  simp only at n;rw [u] at n;obtain ⟨υ,Y,a,l1,l2,l3,l4⟩:=zY x y (b:=b) (T:=T) (k:=k) (cs:=cs) j (Nd.rv hn) (PV:=none) (g.mono s.sub) (DRel.mono s.sub h3) r1 trivial;exact ⟨υ,Y,a,l1,.head M ((s1.trans (.one n)).trans l2),l3,s.trans r1.ok l3.ok l4⟩
end recs
theorem OG {C:Ctx} {r:Rec} {n c:Nat} {fn:Func}:∀ {l:List Ent} {nd:Nd} {m:List CEnt},adC C r n c fn l=some (nd,m)->(Non l->wJ m)/\∀ e,One l e->∃ nd0 v h,adB C r n c fn e=some (nd0,⟨e.g,v,h⟩)/\l9 m ⟨e.g,v,h⟩/\(nd.val->nd0.val)
 | [],nd,m,e=>by cases e;exact ⟨fun _=>rfl,fun e h=>by simp [One] at h⟩
 | a :: l,nd,m,e=>by
  simp only [adC] at e;split at e
  .rename_i nd0 i o z d p;cases e;obtain ⟨i1,q⟩:=OG p;have j:i.g=a.g:=by
    unfold adB at d;split at d
    .cases d
    .split at d
     .cases d
     .cases d;rfl
     .split at d
      .cases d
      .simp only at d;split at d
       .cases d
       .cases d;rfl
   obtain ⟨A,s,t⟩:=i;simp only at j;subst j;refine ⟨fun h=>?_,fun e h=>?_⟩
   .obtain ⟨h1,h2⟩:=iV h;exact sG h1 (i1 h2)
   .rcases fM h with ⟨h1,rfl,h3⟩|⟨h1,h2⟩
    .exact ⟨nd0,s,t,d,pG h1 (i1 h3),fun hn=>Nd.iv (by have:=Nd.lv hn;rw [G.on_eq] at this;exact this) h1⟩
    .obtain ⟨f,v,u,w,x,y⟩:=q e h2;exact ⟨f,v,u,w,pJ h1 x,fun hn=>y (Nd.rv hn)⟩
  .cases e
theorem VP (ρ:Nat->Nat) (v:AV):(v.ren ρ).isPanic=v.isPanic:=by cases v <;> rfl
theorem OH (n c:Nat) (v:AV) (h:Hp):(gc n c v h).1.isPanic=v.isPanic:=by
 unfold gc;split
 .rfl
 .simp only;split
  .split
   .rfl
   .split
    .exact VP _ v
    .rfl
  .rfl
theorem Ym {C:Ctx} {r:Rec} (co:CtxOk C) (O:RecOk C r) {f:FuncId} {args:List AV} {h:Hp} {q:CR} (e:XR C r f args h=some q):CallOut C f args h q/\∃ fn:Func,C.P.funcs[f]?=some fn/\fn.body.isSome=true:=by
 unfold XR at e;split at e
 .cases e
 .rename_i fn w;split at e
  .cases e
  .rename_i c s;refine ⟨?_,fn,w,by simp [s]⟩;simp only [cK] at e;split at e
   .cases e
   .rename_i q' Q;split at e
    .cases e
    .rename_i nd l hl;cases e;intro σ A W g hr ha hn cs;have I:A.size=args.length:=by simpa using ha.length
     have aa:SRel σ ⟨N8 args++AP (fn.ntmps - args.length),[],h⟩ (A++Array.replicate (fn.ntmps - A.size) undef) [] W:=by refine ⟨?_,rfl,hr⟩;unfold TRel;simp only [jN,Ie,kP,JW,I];exact VRels.append ha (Bb _)
     obtain ⟨sr,ab⟩:=nI aa;have ac:Frame.enter C.P f A .normal=(Base.mk f .normal none).fr (A++Array.replicate (fn.ntmps - A.size) undef) [] [.code c]:=by simp [Frame.enter,Base.fr,w,s]
     obtain ⟨e0,h1,τ,T,D,V,r1,y,u⟩:=O.code _ _ _ _ Q σ _ [] W g sr (Base.mk f .normal none) [] _ cs (.inl rfl) ⟨rfl,rfl⟩ (Nd.lv hn);obtain ⟨nd0,v,hh,j,q2,q3⟩:=(OG hl).2 e0 h1;have z:=q3 (Nd.rv hn);unfold adB at j;split at j
     .cases j
     rename_i p hp;have left:∃ PV n,EB p PV/\Steps C.P (lone (Frame.enter C.P f A .normal) cs W) (lone ((Base.mk f .normal none).out (vv PV) T D n) cs V):=by
      rw [ac]
      cases J:e0.x with
      | exit i=>rw [J] at hp;cases hp
      | goto i=>rw [J] at hp;cases hp
      | normal=>rw [J] at hp u;cases hp;exact ⟨none,[],trivial,u.trans (.one (Ub rfl))⟩
      | ret=>rw [J] at hp u;cases hp;obtain ⟨k1,u⟩:=u;exact ⟨none,_,trivial,u.trans (.one (Yk rfl))⟩
      | raise a=>rw [J] at hp u;cases hp;obtain ⟨k1,V1,ae,u⟩:=u;exact ⟨some V1,k1,ae,u⟩
     obtain ⟨PV,n,K,o⟩:=left;have fin:JC (Ua σ ⟨h.blks,h.size,h.clock+1⟩ W fun pn V X=>∃ fr,Steps C.P (lone (Frame.enter C.P f A .normal) cs W) (lone fr cs X)/\an2 C.P f fr pn V X) l:=by
      split at j
      .cases j
      .rename_i af a h2 hd;simp only [bi,eH,CEnt.mk.injEq] at j;obtain ⟨rfl,-,rfl,rfl⟩:=j;obtain ⟨E,X,F,k1,k2,H,k4⟩:=zY co O hd z (b:=Base.mk f .normal none) (T:=T) (k:=n) (cs:=cs) (g.mono y.good.sub) r1.d r1.h K
       cases F with
       | none=>exact k1.elim
       | some M=>
        obtain ⟨υ,s1,s2,s3⟩:=H9 sr.h H (y.good.trans r1.h.ok H.ok k4) (v:=.panic a) (V:=M) (VRel.anywhere k1);refine ⟨_,q2,υ,M,X,s1,s2,s3,_,o.trans k2,?_⟩;rw [OH];exact ⟨rfl,rfl,fn,w⟩
      .rename_i af h2 hd;split at j
       .cases j
       .rename_i m vs hv;simp only at j;split at j
        .cases j
        .rename_i N;simp only [bi,eH,CEnt.mk.injEq] at j;obtain ⟨rfl,-,rfl,rfl⟩:=j;obtain ⟨E,X,F,k1,k2,H,k4⟩:=zY co O hd (Nd.lv z) (b:=Base.mk f .normal none) (T:=T) (k:=n) (cs:=cs) (g.mono y.good.sub) r1.d r1.h K
         cases F with
         | some M=>exact k1.elim
         | none=>
          obtain ⟨Y,p4,p5⟩:=Ic (TRel.mono k4.sub r1.t) H hv (Nd.rv z);obtain ⟨υ,s1,s2,s3⟩:=H9 sr.h H (y.good.trans r1.h.ok H.ok k4) p5;refine ⟨_,q2,υ,Y,X,s1,s2,s3,_,o.trans k2,?_⟩;rw [OH,N];exact ⟨rfl,rfl,rfl,rfl,fn,w,p4⟩
     obtain ⟨en,t1,E,M,X',t2,t3,t4,fr,t5,t6⟩:=EA ((zX (wK sr.h _)).1 fin);exact ⟨en,t1,E,M,X',fr,t2,t3,ab.good.trans sr.h.ok t3.ok t4,t5,t6⟩
theorem Rq {P:Program} {B:Nat} {L:Loop} {W:World} (h:W.heap[B]?=some (.loop L)):(getObj B).run P W=.ok (.loop L) W:=by simp only [getObj,Sem.run,h]
theorem Bc {P:Program} {B:Nat} {L:Loop} {a:Obj} {W:World} (h:W.heap[B]?=some (.loop L)):(setObj B a).run P W=.ok () { W with heap:=W.heap.setIfInBounds B a }:=by simp only [setObj,Sem.run,h]
theorem qz {P:Program} {B:Nat} {L:Loop} {W:World} (h:W.heap[B]?=some (.loop L)):(Instr.getLoop B).run P W=.ok L W:=by simp only [Instr.getLoop,bO,Rq h,bR,dn]
theorem Ig {σ:Sg}:∀ {f:List Tmp} {as:List AV} {t d:List AT} {T:Array Value} {c:List Value},LU f as t=some d->TRel σ t T->VRels σ as c ->
  TRel σ d ((f.zip c).foldl (fun T p=>T.setIfInBounds p.1 p.2) T)/\f.length=c.length
 | [],[],t,d,T,c,e,g,ha=>by
  cases e;rw [show c=[] from ha];exact ⟨g,rfl⟩
 | [],a :: as,t,d,T,c,e,g,ha=>by cases e
 | p :: f,[],t,d,T,c,e,g,ha=>by cases e
 | p :: f,a :: as,t,d,T,c,e,g,⟨v,l,h1,h2,h3⟩=>by
  subst h1;simp only [LU,q9] at e;have h:TRel σ (t.set p ⟨0,a⟩) (T.setIfInBounds p v):=by unfold TRel;have:=VRels.set p g h2;simpa [uW] using this
  obtain ⟨i,j⟩:=Ig e h h3;exact ⟨by simpa using i,by simp [j]⟩
theorem VQ {P:Program} {B:Nat} {L:Loop} {W:World} (h:W.heap[B]?=some (.loop L)) {A:Array Value} (c:L.params.toList.length=A.toList.length):
  (Instr.yield B A).run P W=.ok (.round B L.fn ((L.params.toList.zip A.toList).foldl (fun T p=>T.setIfInBounds p.1 p.2) L.tmps) L.assign L.body) W:=by
 have a:A.size=L.params.size:=by simpa using c.symm
 have:(L.params.zip A).foldl (fun tmps (x:Tmp×Value)=>tmps.setIfInBounds x.1 x.2) L.tmps=(L.params.toList.zip A.toList).foldl (fun T p=>T.setIfInBounds p.1 p.2) L.tmps:=by rw [<- y7,Array.toList_zip]
 simp only [Instr.yield,bO,qz h,bR,a,ne_eq,not_true_eq_false,bz,dn];rw [<- this]
section rounds
variable {P:Program} {b:Base} {T:Array Value} {D:List Deferred} {k:List Item} {cs:List Frame} {W:World} {B:Nat} {L:Loop}
theorem Yn (hb:b.round=some B) (h:W.heap[B]?=some (.loop L)) (a:L.state=.ready):
  step P (lone (b.fr T D (.beginRound :: k)) cs W)=.next (lone (b.fr T D k) cs { W with heap:=W.heap.setIfInBounds B (.loop { L with state:=.busy }) }):=by
 have c:(Instr.beginRound B).run P W=.ok () { W with heap:=W.heap.setIfInBounds B (.loop { L with state:=.busy }) }:=by simp only [Instr.beginRound,bO,qz h,bR,Bc h,a,dn]
 refine bI ?_;simp [stepG,stepG.exec,stepG.apply,Base.fr,hb,c,Frame.finish]
def Ih (L:Loop) (j:Option Code):Loop:={ L with state:=if j.isNone then .ready else .done,pending:=j }
theorem Cg (h:W.heap[B]?=some (.loop L)) (j:Option Code):(Instr.endRound B j).run P W=.ok (.bool j.isNone) { W with heap:=W.heap.setIfInBounds B (.loop (Ih L j)) }:=by simp only [Instr.endRound,bO,qz h,bR,Bc h,dn];rfl
theorem JD {c:Frame} (hb:b.round=some B) (a:b.kind=.normal) (h:W.heap[B]?=some (.loop L)):
  step P (lone (b.fr T D []) (c :: cs) W)=.next (lone (c.finish (.bool true)) cs { W with heap:=W.heap.setIfInBounds B (.loop (Ih L none)) }):=by
 have d:=Cg (P:=P) h none;refine bI ?_;simp [stepG,stepG.exec,Base.fr,hb,d,a,doReturn]
theorem xZ {c:Frame} (hb:b.round=some B) (a:b.kind=.normal) (h:W.heap[B]?=some (.loop L)) {j:Code} (f:j=.ret\/(∃ i,j=.exit i/\exitTo i k=none)\/(∃ i,j=.goto i/\gotoIn i k=none)):
  step P (lone (b.fr T D (.code j :: k)) (c :: cs) W)=.next (lone (c.finish (.bool false)) cs { W with heap:=W.heap.setIfInBounds B (.loop (Ih L (some j))) }):=by
 have d:=Cg (P:=P) h (some j);refine bI ?_;rcases f with rfl|⟨i,rfl,h1⟩|⟨i,rfl,h1⟩
 .simp [stepG,stepG.exec,Base.fr,hb,d,a,doReturn]
 .simp [stepG,stepG.exec,Base.fr,hb,d,a,doReturn,h1]
 .simp [stepG,stepG.exec,Base.fr,hb,d,a,doReturn,h1]
end rounds
theorem tC {σ:Sg} {h:Hp} {W:World} (r:HRel σ h W) {l B N w:Nat} {a:ALoop} (g:h.get l=some ⟨w,.loop a⟩) (d:σ l=some (B,N)):
  ∃ L,W.heap[B]?=some (.loop L)/\BRel σ N (.loop a) (.loop L)/\∀ (st:LoopState) (pd:Option Code),
   HRel σ (h.put l (.loop { a with state:=st,pending:=pd })) { W with heap:=W.heap.setIfInBounds B (.loop { L with state:=st,pending:=pd }) } /\
   Good σ h W σ (h.put l (.loop { a with state:=st,pending:=pd })) { W with heap:=W.heap.setIfInBounds B (.loop { L with state:=st,pending:=pd }) }:=by
 obtain ⟨v,x,o,i,j,t⟩:=r.blk l _ g rfl;rw [d] at i;cases i;obtain ⟨L,rfl,h1,h2,h3,m,n,p,q,s⟩:=t;refine ⟨L,j,⟨L,rfl,h1,h2,h3,m,n,p,q,s⟩,fun st pd=>?_⟩;have f:B<W.heap.size:=(jd.1 j).1;exact r.write g rfl d (.loop { a with state:=st,pending:=pd }) (fun c e=>by cases e;exact ⟨st,pd,rfl⟩) (.loop { L with state:=st,pending:=pd })
  (by simp [f]) ⟨_,rfl,rfl,rfl,h3,m,n,p,q,s⟩ (by simp) (fun k u=>by simp [jG,gQ u]) rfl rfl rfl
theorem Ay {n c l:Nat}:∀ {es:List Ent} {m:List CEnt},zS n c l es=some m->(Non es->wJ m)/\∀ e,One es e->∃ v h,zR n c l e=some ⟨e.g,v,h⟩/\l9 m ⟨e.g,v,h⟩
 | [],m,e=>by cases e;exact ⟨fun _=>rfl,fun e h=>by simp [One] at h⟩
 | a :: es,m,e=>by
  simp only [zS] at e;split at e
  .rename_i f w d j;cases e;obtain ⟨i1,o⟩:=Ay j;have i:f.g=a.g:=by
    unfold zR at d;split at d
    .split at d
     .rw [Hp.set_eq] at d;cases d;rfl
     .cases d
     .rw [Hp.set_eq] at d;cases d;rfl
    .cases d
   obtain ⟨x,p,q⟩:=f;simp only at i;subst i;refine ⟨fun h=>?_,fun e h=>?_⟩
   .obtain ⟨h1,h2⟩:=iV h;exact sG h1 (i1 h2)
   .rcases fM h with ⟨h1,rfl,h3⟩|⟨h1,h2⟩
    .exact ⟨p,q,d,pG h1 (i1 h3)⟩
    .obtain ⟨v,s,t,u⟩:=o e h2;exact ⟨v,s,t,pJ h1 u⟩
  .cases e
theorem Good.dom {σ:Sg} {h:Hp} {W:World} (r:HRel σ h W):Good σ h W σ h W:=Good.refl σ h W fun i B N h=>(r.dom i B N h).1
theorem VR {C:Ctx} {r:Rec} (ro:RecOk C r) {l:Nat} {args:List AV} {h:Hp} {q:CR} (e:Re r l args h=some q):Gr C l args h q:=by
 unfold Re at e;split at e
 .rename_i w a hg;split at e
  .cases e
  .rename_i t ht;simp only [cK] at e;split at e
   .rename_i nd s F;split at e
    .rename_i w2 y K;split at e
     .rename_i ac;rw [Hp.set_eq] at e;split at e
      .cases e
      .rename_i q' H;split at e
       .cases e
       .rename_i m hm;cases e;intro σ A W B N g hr I ha hn c cs;obtain ⟨L,hL,⟨L',e1,f1,f2,f3,f4,f5,f6,f7,f8⟩,-⟩:=tC hr hg I;cases e1;obtain ⟨tr,z⟩:=Ig ht f4 ha;rw [<- f5] at tr z;have hy:=VQ (P:=C.P) hL z;generalize aq:(L.params.toList.zip A.toList).foldl (fun (T:Array Value) (p:Tmp×Value)=>T.setIfInBounds p.1 p.2) L.tmps=TT at hy tr;have ae:SRel σ ⟨t,[],h⟩ TT [] W:=⟨tr,rfl,hr⟩;obtain ⟨sr,af⟩:=nI ae
        let b:Base:=⟨L.fn,.normal,some B⟩
        have M:FrRel σ ⟨a.fn,some l⟩ b:=⟨f3,B,N,I,rfl⟩;obtain ⟨e0,h1,τ,T1,D1,V1,r1,j,ar⟩:=ro.code _ _ _ _ F σ TT [] W g sr b [.beginRound,.code L.body] _ (c :: cs) (.inl rfl) M (Nd.lv hn);rcases fM h1 with ⟨_,rfl,_⟩|⟨_,h3⟩
        .rw [<- f6] at ar;have ar:Steps C.P (lone (b.fr TT [] [.code L.assign,.beginRound,.code L.body]) (c :: cs) W) (lone (b.fr T1 D1 [.beginRound,.code L.body]) (c :: cs) V1):=ar;have E:=j.good.sub _ _ I;obtain ⟨L1,k1,⟨_,e2,k2,k3,k4,k5,k6,k7,k8,k9⟩,wr⟩:=tC r1.h K E;cases e2;obtain ⟨r2,g2⟩:=wr .busy y.pending;have ap:(ABody.loop { y with state:=.busy,pending:=y.pending })=.loop { y with state:=.busy }:=rfl;have hw:({ L1 with state:=LoopState.busy,pending:=y.pending }:Loop)={ L1 with state:=LoopState.busy }:=by rw [<- k3]
         rw [hw] at r2 g2;have O:=Yn (P:=C.P) (b:=b) (T:=T1) (D:=D1) (k:=[.code L.body]) (cs:=c :: cs) rfl k1 (k2.trans ac);have ag:SRel τ ⟨s.tmps,s.defs,s.hp.put l (.loop { y with state:=.busy })⟩ T1 D1 { V1 with heap:=V1.heap.setIfInBounds B (.loop { L1 with state:=.busy }) }:=⟨r1.t,r1.d,r2⟩;have Q:=j.good.mon.loop l w a (by
          have:(⟨h.blks,h.size,h.clock+1⟩:Hp).get l=h.get l:=by rw [Hp.get_eq,Hp.get_eq]
          simp only;rw [this];exact hg)
         obtain ⟨w',ah,ai,J⟩:=Q;simp only at J;rw [K] at J;have aj:y={ a with state:=ah,pending:=ai }:=by cases J;rfl
         have ak:y.body=L.body:=by rw [aj];exact f7.symm
         obtain ⟨e3,h3,υ,T3,D3,V3,r3,Y,f⟩:=ro.code _ _ _ _ H τ T1 D1 _ (g.mono j.good.sub) ag b [] _ (c :: cs) (.inl rfl) (M.mono j.good.sub) (Nd.rv hn);rw [ak] at f;obtain ⟨v,hh,n,q2⟩:=(Ay hm).2 e3 h3;have aa:=Y.good.sub _ _ E;have o:Good σ ⟨h.blks,h.size,h.clock+1⟩ W υ e3.s.hp V3:=(j.good.trans r1.h.ok r2.ok g2).trans r2.ok r3.h.ok Y.good;have begun:=ar.trans (.one O);have fin:JC (Ua σ ⟨h.blks,h.size,h.clock+1⟩ W fun pn V X=>pn=false/\Steps C.P (lone (b.fr TT [] [.code L.assign,.beginRound,.code L.body]) (c :: cs) W) (lone (c.finish V) cs X)) m:=by
          refine ⟨_,q2,?_⟩;unfold zR at n;split at n
          .rename_i w4 a4 al;obtain ⟨L4,m1,_,ab⟩:=tC r3.h al aa;split at n
           .rename_i hx;rw [Hp.set_eq] at n;simp only [bi,CEnt.mk.injEq] at n;obtain ⟨-,rfl,rfl⟩:=n;obtain ⟨r5,g5⟩:=ab .ready none;obtain ⟨φ,s1,s2,s3⟩:=H9 (v:=.bool false true) (V:=.bool true) sr.h r5 (o.trans r3.h.ok r5.ok g5) rfl;rw [hx] at f;exact ⟨φ,.bool true,_,rfl,s2,s3,rfl,(begun.trans f).trans (.one (JD rfl rfl m1))⟩
           .cases n
           .rename_i x an hx;rw [Hp.set_eq] at n;simp only [bi,CEnt.mk.injEq] at n;obtain ⟨-,rfl,rfl⟩:=n;obtain ⟨r5,g5⟩:=ab .done (XT e3.x);obtain ⟨φ,s1,s2,s3⟩:=H9 (v:=.bool false false) (V:=.bool false) sr.h r5 (o.trans r3.h.ok r5.ok g5) rfl;refine ⟨φ,.bool false,_,rfl,s2,s3,rfl,?_⟩
            cases u:e3.x with
            | normal=>exact absurd u an
            | raise a=>exact absurd u (hx a)
            | ret=>
             rw [u] at f;obtain ⟨k1,f⟩:=f;exact (begun.trans f).trans (.one (xZ rfl rfl m1 (.inl rfl)))
            | exit i=>
             rw [u] at f;obtain ⟨k1,p1,f⟩:=f;exact (begun.trans f).trans (.one (xZ rfl rfl m1 (.inr (.inl ⟨i,rfl,p1⟩))))
            | goto i=>
             rw [u] at f;obtain ⟨k1,p1,f⟩:=f;exact (begun.trans f).trans (.one (xZ rfl rfl m1 (.inr (.inr ⟨i,rfl,p1⟩))))
          .cases n
         obtain ⟨en,t1,ao,V',X',t2,t3,t4,tp,t5⟩:=EA ((zX (wK sr.h _)).1 fin);refine ⟨en,t1,tp,ao,V',X',L.fn,TT,L.assign,L.body,t2,t3,af.good.trans sr.h.ok t3.ok t4,hy,t5⟩
        .simp [One] at h3
     .cases e
    .cases e
   .cases e
 .cases e
theorem Ch {s:St} {l:Nat}:∀ {es:List CEnt} {m:List Ent},BM s l es=some m->(wJ es->Non m)/\∀ e,l9 es e->∃ x s',BL s l e=some ⟨e.g,x,s'⟩/\One m ⟨e.g,x,s'⟩
 | [],m,e=>by cases e;exact ⟨fun _=>rfl,fun e h=>by simp [l9] at h⟩
 | a :: es,m,e=>by
  simp only [BM] at e;split at e
  .rename_i d t c i;cases e;obtain ⟨i1,j⟩:=Ch i;have f:d.g=a.g:=by
    unfold BL at c;split at c
    .cases c
    split at c
    .split at c
     .cases c
     .split at c
      .cases c
      .rw [Hp.set_eq] at c;cases c;rfl
    .cases c
   obtain ⟨u,n,cs⟩:=d;simp only at f;subst f;refine ⟨fun h=>?_,fun e h=>?_⟩
   .obtain ⟨h1,h2⟩:=sZ h;exact nX h1 (i1 h2)
   .rcases sW h with ⟨h1,rfl,h3⟩|⟨h1,h2⟩
    .exact ⟨n,cs,c,gV h1 (i1 h3)⟩
    .obtain ⟨v,o,p,q⟩:=j e h2;exact ⟨v,o,p,fG h1 q⟩
  .cases e
theorem Ud {P:Program} {o:Obj} {W:World}:(newObj o).run P W=.ok W.heap.size (W.alloc o):=rfl
section ranges
variable {P:Program} {b:Base} {T:Array Value} {D:List Deferred} {k:List Item} {cs:List Frame} {W:World}
theorem Yo {f:Operand} {params:Array Tmp} {assign body:Code} {B:Nat} {mark:List Deferred} {X:World} (h:(Instr.enterLoop b.fn T params assign body b.round).run P W=.ok (B,mark) X)
  {g:FuncId} {F K:Array Value} (i:ev T f=.func (.func g) F K) {fn:Func} (c:P.funcs[g]?=some fn) (hb:fn.body.isSome=true) (hp:ProgOk P):
  step P (lone (b.fr T D (.code (.rangeFunc f params assign body) :: k)) cs W)=.next (lone (Frame.enter P g (F++#[.func (.yield B) #[] #[]]++K) .normal) (b.fr T (mark++D) (.inRangeFunc B :: k) :: cs) X):=by
 refine bI ?_;have j:=eval_fr' (b:=b) (T:=T) (D:=mark++D) (.inRangeFunc B :: k);have l:=rq hp c hb (F++#[.func (.yield B) #[] #[]]++K) X;have a:(do let d<-resolve (b.fr T (mark++D) (.inRangeFunc B :: k)).eval { callee:=.value f,args:=#[.const (.func (.yield B) #[] #[])],argTypes:=#[] } 0;invoke d.target d.args:Sem Next).run P X=.ok (.enter g (F++#[.func (.yield B) #[] #[]]++K)) X:=by rw [j];have:ev T (.const (.func (.yield B) #[] #[]))=.func (.yield B) #[] #[]:=rfl;simp only [resolve,i,Deferred.ofValue,bO,dn,bR,invoke,List.map_toArray,dL,List.map_nil,this];exact l
 simp only [Base.fr] at a;simp [stepG,stepG.exec,Base.fr,h,stepG.apply,a]
theorem OI {B:Nat} {L:Loop} (h:W.heap[B]?=some (.loop L)) (a:L.state≠.busy):(Instr.endLoop B).run P W=.ok L.pending { W with heap:=W.heap.setIfInBounds B (.loop { L with state:=.exhausted }) }:=by
 have:(L.state==LoopState.busy)=false:=by cases e:L.state <;> simp_all <;> rfl
 simp only [Instr.endLoop,bO,qz h,bR,this,y8,bz,dn,Bc h]
theorem OJ {B:Nat} {L:Loop} (h:W.heap[B]?=some (.loop L)) (a:L.state≠.busy):
  step P (lone (b.fr T D (.endRangeFunc B :: k)) cs W)=.next (lone (b.fr T D ((L.pending.map Item.code).toList++k)) cs { W with heap:=W.heap.setIfInBounds B (.loop { L with state:=.exhausted }) }):=by
 have c:=OI (P:=P) h a;exact bI (by simp [stepG,stepG.exec,Base.fr,c])
end ranges
theorem Yp {P:Program} {fr:AFr} {s:St} {d:Nat} {mark:List ADef} {h:Hp} (e:Q8 fr s=some (d,mark,h)) {σ:Sg} {T:Array Value} {D:List Deferred} {W:World} (sr:SRel σ s T D W) {b:Base} (j:FrRel σ fr b)
  (params:Array Tmp) (assign body:Code):
  ∃ τ X B M,(Instr.enterLoop b.fn T params assign body b.round).run P W=.ok (B,M) X/\τ h.size=some (B,0)/\DRel τ (mark++s.defs) (M++D) /\
   HRel τ (h.push (.loop { state:=.ready,pending:=none,fn:=fr.fn,tmps:=s.tmps,params:=params.toList,assign,body,defers:=d })) X /\
   Good σ s.hp W τ (h.push (.loop { state:=.ready,pending:=none,fn:=fr.fn,tmps:=s.tmps,params:=params.toList,assign,body,defers:=d })) X:=by
 have c:∀ (σ':Sg) (h:Hp) (f:World) (R:Nat) (M:Nat),Sub σ σ'->HRel σ' h f->σ' d=some (R,M) ->
   HRel (σ'.add h.size (f.heap.size,0)) (h.push (.loop { state:=.ready,pending:=none,fn:=fr.fn,tmps:=s.tmps,params:=params.toList,assign,body,defers:=d })) (f.alloc (.loop { state:=.ready,pending:=none,fn:=b.fn,tmps:=T,params,assign,body,defers:=R })) /\
   Good σ' h f (σ'.add h.size (f.heap.size,0)) (h.push (.loop { state:=.ready,pending:=none,fn:=fr.fn,tmps:=s.tmps,params:=params.toList,assign,body,defers:=d })) (f.alloc (.loop { state:=.ready,pending:=none,fn:=b.fn,tmps:=T,params,assign,body,defers:=R })):=by
  intro σ' h f R M p o hd;have g:=Sub.add (x:=(f.heap.size,0)) o.fresh;exact o.alloc _ _ 0 ⟨_,rfl,rfl,rfl,j.1,TRel.mono (p.trans g) sr.t,rfl,rfl,rfl,M,g _ _ hd⟩
 unfold Q8 at e;split at e
 .rename_i l m;split at e
  .rename_i w a q;simp only [bi,eH] at e;obtain ⟨rfl,rfl,rfl⟩:=e;have h2:=j.2;rw [m] at h2;obtain ⟨A,E,h3,u⟩:=h2;obtain ⟨L,v,⟨_,y,_,_,_,_,_,_,_,M,z⟩,_⟩:=tC sr.h q h3;cases y;obtain ⟨r1,i⟩:=c σ s.hp W L.defers M (Sub.refl _) sr.h z;refine ⟨_,_,W.heap.size,[],?_,fF,DRel.mono i.sub sr.d,r1,i⟩;simp only [Instr.enterLoop,u,bO,qz v,bR,dn,Ud]
  .cases e
 .rename_i m;simp only [bi,eH] at e;obtain ⟨rfl,rfl,rfl⟩:=e;have h2:=j.2;rw [m] at h2;obtain ⟨r0,n⟩:=sr.h.alloc (.defers false) (.deferred (some [])) 0 (by simp [BRel]);obtain ⟨r1,i⟩:=c _ _ _ W.heap.size 0 n.sub r0 fF;refine ⟨_,_,(W.alloc (.deferred (some []))).heap.size,[{ target:=.collected W.heap.size,args:=#[] }],?_,fF,⟨W.heap.size,0,D,i.sub _ _ fF,rfl,DRel.mono (n.sub.trans i.sub) sr.d⟩,r1,n.trans r0.ok r1.ok i⟩;simp only [Instr.enterLoop,h2,bO,bR,dn,Ud]
section whole
variable {C:Ctx} {r:Rec}
theorem VS (co:CtxOk C) (ro:RecOk C r) {fr:AFr} {f:Operand} {params:Array Tmp} {assign body:Code} {s:St} {q:R} (e:LJ C r fr (bv C s f) params.toList assign body s=some q):CodeOk C fr (.rangeFunc f params assign body) s q:=by
 unfold LJ at e;split at e
 .cases e
 .rename_i d mark h A;split at e
  .rename_i g first cap hf
   simp only at e;split at e
   .cases e
   .rename_i q' hq;split at e
    .cases e
    .rename_i m hm;cases e;intro σ T D W gr sr b k ac cs E fb;rcases E with rfl|⟨_,h,_⟩
     .intro hn;have p:=iU (s:=s) gr sr.t f;rw [hf] at p;obtain ⟨F,K,hF,H,I⟩:=p;obtain ⟨τ,X,B,M,J,u,N,r1,z⟩:=Yp (P:=C.P) A sr fb params assign body;obtain ⟨l,fn,O,n⟩:=H7 co ro hq;have hA:VRels τ (first++[.yield h.size]++cap) (F++#[Value.func (.yield B) #[] #[]]++K).toList:=by
       simp only [kP];exact VRels.append (VRels.append (VRels.mono z.sub _ _ H) ⟨_,[],rfl,⟨B,0,u,rfl⟩,rfl⟩) (VRels.mono z.sub _ _ I)
      obtain ⟨e,h1,υ,V,Y,ae,h2,h3,Q,h5,h6⟩:=l τ _ X (gr.mono z.sub) r1 hA hn (b.fr T (M++D) (.inRangeFunc B :: k) :: cs);obtain ⟨x,s',i,q2⟩:=(Ch hm).2 e h1;refine ⟨_,q2,?_⟩;unfold BL at i;split at i
      .cases i
      rename_i aa;replace h6:=h6.ret aa;split at i
      .rename_i w a hg;obtain ⟨L,p1,⟨_,e1,f1,f2,_⟩,wr⟩:=tC h3 hg (Q.sub _ _ u);cases e1;have j:∀ (y:Option Ent),(match a.state with|.busy=>none|_=>y)=some ⟨e.g,x,s'⟩->L.state≠.busy/\y=some ⟨e.g,x,s'⟩:=by
        intro y hy;rw [f1];split at hy
        .cases hy
        .rename_i hb;exact ⟨hb,hy⟩
       obtain ⟨ab,i⟩:=j _ i;split at i
       .cases i
       .rename_i x' o;rw [Hp.set_eq] at i;simp only [bi,Ent.mk.injEq] at i;obtain ⟨-,rfl,rfl⟩:=i;obtain ⟨r5,g5⟩:=wr .exhausted a.pending;have hw:({ L with state:=LoopState.exhausted,pending:=a.pending }:Loop)={ L with state:=LoopState.exhausted }:=by rw [<- f2]
        rw [hw] at r5 g5;have gg:=(z.trans r1.ok h3.ok Q).trans h3.ok r5.ok g5;refine ⟨υ,T,M++D,_,⟨TRel.mono gg.sub sr.t,DRel.mono Q.sub N,r5⟩,⟨gg,⟨rfl,fun _ _ h=>.inl h⟩⟩,?_⟩;have c:∀ pd,L.pending=pd->Steps C.P (lone (b.fr T D (.code (.rangeFunc f params assign body) :: k)) cs W) (lone (b.fr T (M++D) ((pd.map Item.code).toList++k)) cs { Y with heap:=Y.heap.setIfInBounds B (.loop { L with state:=.exhausted }) }):=by
         rintro _ rfl
         refine .head (Yo J hF O n co.prog) (h5.trans (.head (H5 h6) (.one ?_)));have v:(b.fr T (M++D) (.inRangeFunc B :: k)).finish V=b.fr T (M++D) (.endRangeFunc B :: k):=by simp [Frame.finish,Base.fr]
         rw [v];exact OJ p1 ab
        replace c:=c _ f2;generalize ({ Y with heap:=Y.heap.setIfInBounds B (.loop { L with state:=.exhausted }) }:World)=Z at c;unfold XN at o;split at o
        .cases o;rename_i hp;rw [hp] at c;exact c
        .cases o;rename_i hp;rw [hp] at c;exact ⟨k,c⟩
        .cases o;rename_i hp;rw [hp] at c;exact ⟨k,rfl,c⟩
        .cases o;rename_i hp;rw [hp] at c;exact ⟨k,rfl,c⟩
        .cases o
      .cases i
     .cases h
  .cases e
theorem run_ok (d:CtxOk C) (dr:∀ r,RecOk C r->Rp C r):∀ n,RecOk C (run C n)
 | 0=>⟨fun _ _ _ _ e=>(by cases e),fun _ _ _ _ e=>(by cases e),fun _ _ _ _ e=>(by cases e)⟩
 | n+1=>by
  have a:=run_ok d dr n;exact ⟨fun fr c s q e=>Yi d a (dr _ a) (fun _ _ _ _ _ _ _ e=>VS d a e) e,fun f args h q e=>Ym d a e,fun l args h q e=>VR a e⟩
end whole
end Go.Eng
