/- What is proved: MtfBounds returns true, whatever the input (part 4). No conditions beyond those of the row. -/
import Derived.Test.YtbiiiloimbjpaaaDoorPC
import Derived.Recover
set_option linter.unusedVariables false
set_option linter.unusedSimpArgs false
set_option linter.unusedSectionVars false
namespace Go.Eng
structure Base where
 fn:FuncId
 kind:CallKind
 round:Option Nat
def Base.fr (b:Base) (T:Array Value) (D:List Deferred) (todo:List Item):Frame:=
 { fn:=b.fn,tmps:=T,todo,defers:=D,mode:=.run,kind:=b.kind,roundOf:=b.round }
def Base.pan (b:Base) (T:Array Value) (D:List Deferred) (todo:List Item) (V:Value):Frame:=
 { fn:=b.fn,tmps:=T,todo,defers:=D,mode:=.panicking [{ v:=V,recovered:=false }],kind:=b.kind,roundOf:=b.round }
theorem Base.raise_fr (b:Base) (T:Array Value) (D:List Deferred) (todo:List Item) (V:Value):(b.fr T D todo).raise [{ v:=V,recovered:=false }]=b.pan T D todo V:=rfl
def El:Sg:=fun _=>none
def Arr (P:Program) (m:Machine) (b:Base) (k:List Item) (cs:List Frame):Ex->Array Value->List Deferred->World->Prop
 | .normal,T,D,W=>Steps P m (lone (b.fr T D k) cs W)
 | .exit i,T,D,W=>∃ k1,exitTo i k1=exitTo i k/\Steps P m (lone (b.fr T D (.code (.exit i) :: k1)) cs W)
 | .goto l,T,D,W=>∃ k1,gotoIn l k1=gotoIn l k/\Steps P m (lone (b.fr T D (.code (.goto l) :: k1)) cs W)
 | .ret,T,D,W=>∃ k1,Steps P m (lone (b.fr T D (.code .ret :: k1)) cs W)
 | .raise a,T,D,W=>∃ k1 V,VRel El a V/\Steps P m (lone (b.pan T D k1 V) cs W)
theorem Arr.of_steps {P:Program} {m m':Machine} {b:Base} {k:List Item} {cs:List Frame} {x:Ex} {T:Array Value} {D:List Deferred} {W:World} (h:Steps P m m') (a:Arr P m' b k cs x T D W):Arr P m b k cs x T D W:=by
 cases x with
 | normal=>exact h.trans a
 | exit i=>obtain ⟨k1,h1,h2⟩:=a; exact ⟨k1,h1,h.trans h2⟩
 | goto l=>obtain ⟨k1,h1,h2⟩:=a; exact ⟨k1,h1,h.trans h2⟩
 | ret=>obtain ⟨k1,h2⟩:=a; exact ⟨k1,h.trans h2⟩
 | raise v=>obtain ⟨k1,V,h1,h2⟩:=a; exact ⟨k1,V,h1,h.trans h2⟩
theorem Arr.pass {P:Program} {m:Machine} {b:Base} {y:Item} {k:List Item} {cs:List Frame} {x:Ex} {T:Array Value} {D:List Deferred} {W:World} (hy:y.plain=true) (hx:x≠.normal) (a:Arr P m b (y :: k) cs x T D W):Arr P m b k cs x T D W:=by
 cases x with
 | normal=>exact absurd rfl hx
 | exit i=>obtain ⟨k1,h1,h2⟩:=a; exact ⟨k1,h1.trans (by cases y <;> simp_all [exitTo,Item.plain]),h2⟩
 | goto l=>obtain ⟨k1,h1,h2⟩:=a; exact ⟨k1,h1.trans (by cases y <;> simp_all [gotoIn,Item.plain]),h2⟩
 | ret=>exact a
 | raise v=>exact a
section moves
variable {P:Program} {b:Base} {T:Array Value} {D:List Deferred} {k:List Item} {cs:List Frame} {W:World}
theorem Jb (x:Operand) (todo:List Item):(b.fr T D todo).eval x=ev T x:=by cases x <;> rfl
theorem eval_fr' (todo:List Item):(b.fr T D todo).eval=ev T:=funext fun x=>Jb x todo
theorem Sw:step P (lone (b.fr T D (.code .skip :: k)) cs W)=.next (lone (b.fr T D k) cs W):=step_lone_go (by simp [stepG,stepG.exec,Base.fr])
theorem Ms {l:Nat}:step P (lone (b.fr T D (.code (.label l) :: k)) cs W)=.next (lone (b.fr T D k) cs W):=step_lone_go (by simp [stepG,stepG.exec,Base.fr])
theorem xY {i:Nat}:step P (lone (b.fr T D (.inBlock i :: k)) cs W)=.next (lone (b.fr T D k) cs W):=step_lone_go (by simp [stepG,stepG.exec,Base.fr])
theorem xZ {a:Code}:step P (lone (b.fr T D (.inScope a :: k)) cs W)=.next (lone (b.fr T D k) cs W):=step_lone_go (by simp [stepG,stepG.exec,Base.fr])
theorem Mt {x y:Code}:step P (lone (b.fr T D (.code (.seq x y) :: k)) cs W)=.next (lone (b.fr T D (.code x :: .code y :: k)) cs W):=step_lone_go (by simp [stepG,stepG.exec,Base.fr])
theorem Cr {c:Operand} {x y:Code} {t:Bool} (h:ev T c=.bool t):step P (lone (b.fr T D (.code (.cond c x y) :: k)) cs W)=.next (lone (b.fr T D (.code (if t then x else y) :: k)) cs W):=
 step_lone_go (by
  have h1:=Jb (b:=b) (T:=T) (D:=D) c (.code (.cond c x y) :: k)
  simp only [Base.fr] at h1
  simp [stepG,stepG.exec,Base.fr,h1,h])
theorem Em {i:Nat} {c:Code}:step P (lone (b.fr T D (.code (.block i c) :: k)) cs W)=.next (lone (b.fr T D (.code c :: .inBlock i :: k)) cs W):=step_lone_go (by simp [stepG,stepG.exec,Base.fr])
theorem sK {c:Code}:step P (lone (b.fr T D (.code (.loop c) :: k)) cs W)=.next (lone (b.fr T D (.code c :: .inLoop c :: k)) cs W):=step_lone_go (by simp [stepG,stepG.exec,Base.fr])
theorem gL {c:Code}:step P (lone (b.fr T D (.inLoop c :: k)) cs W)=.next (lone (b.fr T D (.code c :: .inLoop c :: k)) cs W):=step_lone_go (by simp [stepG,stepG.exec,Base.fr])
theorem Eo {c:Code}:step P (lone (b.fr T D (.code (.scope c) :: k)) cs W)=.next (lone (b.fr T D (.code c :: .inScope c :: k)) cs W):=step_lone_go (by simp [stepG,stepG.exec,Base.fr])
theorem Jc {i:Nat} {k':List Item} (h:exitTo i k=some k'):step P (lone (b.fr T D (.code (.exit i) :: k)) cs W)=.next (lone (b.fr T D k') cs W):=step_lone_go (by simp [stepG,stepG.exec,Base.fr,h])
theorem Ai {i:Nat} {ops:Array Oper}:step P (lone (b.fr T D (.code (.region i ops false) :: k)) cs W)=.next (lone (b.fr T D (.inRegion ops (List.range ops.size) :: k)) cs W):=step_lone_go (by simp [stepG,stepG.exec,Base.fr])
theorem Sy {i:Nat} {ops:Array Oper}:step P (lone (b.fr T D (.code (.region i ops true) :: k)) cs W) =
  .next (lone (b.fr T D (.inRegion ops (Region.schedule (P.follows .mixedOrders) ops (W.tape W.drawn (.order b.fn i))) :: k)) cs W.drew):=
 step_lone_go (by simp [stepG,stepG.exec,Base.fr,choose,Sem.run,Question.forced,Question.cut])
theorem Mv {ops:Array Oper}:step P (lone (b.fr T D (.inRegion ops [] :: k)) cs W)=.next (lone (b.fr T D k) cs W):=step_lone_go (by simp [stepG,stepG.exec,Base.fr])
def dM (T:Array Value) (dst:Option Tmp) (v:Value):Array Value:=
 match dst with
 | some d=>T.setIfInBounds d v
 | none=>T
theorem fH {ops:Array Oper} {i:Nat} {rest:List Nat} {o:Oper} (ho:ops[i]?=some o) (v:Value):(b.fr T D (.inRegion ops (i :: rest) :: k)).finish v=b.fr (dM T o.dst v) D (.inRegion ops rest :: k):=by
 cases h:o.dst <;> simp [Frame.finish,Base.fr,dM,ho,h]
theorem uO {ops:Array Oper} {i:Nat} {rest:List Nat} {o:Oper} (ho:ops[i]?=some o) (h:Region.wanted o (yielded ops T)=false):
  step P (lone (b.fr T D (.inRegion ops (i :: rest) :: k)) cs W)=.next (lone (b.fr (dM T o.dst undef) D (.inRegion ops rest :: k)) cs W):=by
 rw [<- fH ho]
 exact step_lone_go (by simp [stepG,stepG.exec,Base.fr,ho,h])
theorem iP {ops:Array Oper} {i:Nat} {rest:List Nat} {o:Oper} (ho:ops[i]?=some o) (hw:Region.wanted o (yielded ops T)=true) (hd:∀ c,o.op≠.defer c):
  stepG P true { frame:=b.fr T D (.inRegion ops (i :: rest) :: k),callers:=cs,status:=.running,dying:=none } W =
   stepG.apply P true (b.fr T D (.inRegion ops (i :: rest) :: k)) cs none (execOp (ev T) o) W:=by
 have he:=eval_fr' (b:=b) (T:=T) (D:=D) (.inRegion ops (i :: rest) :: k)
 simp only [Base.fr] at he
 simp only [stepG,stepG.exec,Base.fr,ho,hw,Option.map_some,Option.getD_some,if_true,stepG.oper,Frame.oper?]
 split
 .rename_i l c h1 h2; exact absurd h2 (hd c)
 .rw [he]
theorem lL {ops:Array Oper} {i:Nat} {rest:List Nat} {o:Oper} (ho:ops[i]?=some o) (hw:Region.wanted o (yielded ops T)=true) (hd:∀ c,o.op≠.defer c) {r:Next} {V:Value} {X:World}
  (h:(execOp (ev T) o).run P W=.ok r X) (hr:r=.value V\/(r=.skip/\V=undef)):
  step P (lone (b.fr T D (.inRegion ops (i :: rest) :: k)) cs W)=.next (lone (b.fr (dM T o.dst V) D (.inRegion ops rest :: k)) cs X):=by
 rw [<- fH ho]
 refine step_lone_go ?_
 rw [iP ho hw hd]
 rcases hr with rfl|⟨rfl,rfl⟩ <;> simp [stepG.apply,h]
theorem sM {ops:Array Oper} {i:Nat} {rest:List Nat} {o:Oper} (ho:ops[i]?=some o) (hw:Region.wanted o (yielded ops T)=true) (hd:∀ c,o.op≠.defer c) {f:FuncId} {A:Array Value} {X:World}
  (h:(execOp (ev T) o).run P W=.ok (.enter f A) X):
  step P (lone (b.fr T D (.inRegion ops (i :: rest) :: k)) cs W)=.next (lone (Frame.enter P f A .normal) (b.fr T D (.inRegion ops (i :: rest) :: k) :: cs) X):=by
 refine step_lone_go ?_
 rw [iP ho hw hd]
 simp [stepG.apply,h,Base.fr]
theorem Ep {ops:Array Oper} {i:Nat} {rest:List Nat} {o:Oper} (ho:ops[i]?=some o) (hw:Region.wanted o (yielded ops T)=true) (hd:∀ c,o.op≠.defer c) {l:Nat} {f:FuncId} {A:Array Value} {x y:Code} {X:World}
  (h:(execOp (ev T) o).run P W=.ok (.round l f A x y) X):
  step P (lone (b.fr T D (.inRegion ops (i :: rest) :: k)) cs W)=.next (lone (Frame.round l f A x y .normal) (b.fr T D (.inRegion ops (i :: rest) :: k) :: cs) X):=by
 refine step_lone_go ?_
 rw [iP ho hw hd]
 simp [stepG.apply,h]
end moves
def qV (P:Program) (f:FuncId) (kind:CallKind) (fr:Frame) (V:Value) (W:World):Prop:=
 fr.mode=.returning/\fr.defers=[]/\fr.kind=kind/\fr.fn=f/\∃ fn,P.funcs[f]?=some fn/\(results fn fr.tmps).run P W=.ok V W
theorem x8 {P:Program} {f:FuncId} {fr c:Frame} {cs:List Frame} {V:Value} {W:World} (h:qV P f .normal fr V W):step P (lone fr (c :: cs) W)=.next (lone (c.finish V) cs W):=by
 obtain ⟨hm,hd,hk,rfl,fn,hf,hr⟩:=h
 exact step_lone_go (by simp [stepG,unwind,doReturn,hm,hd,hk,hf,hr])
def Outs (P:Program) (f:FuncId) (fr:Frame) (v:AV) (V:Value) (W:World):Prop:=
 match v.isPanic with
 | false=>qV P f .normal fr V W
 | true=>fr.mode=.panicking [{ v:=V,recovered:=false }]/\fr.defers=[]/\∃ fn,P.funcs[fr.fn]?=some fn
theorem Outs.ret {P:Program} {f:FuncId} {fr:Frame} {v:AV} {V:Value} {W:World} (h:Outs P f fr v V W) (hv:v.isPanic=false):qV P f .normal fr V W:=by
 unfold Outs at h; rw [hv] at h; exact h
theorem Outs.of {P:Program} {f:FuncId} {fr:Frame} {v:AV} {V:Value} {W:World} (h:qV P f .normal fr V W) (hv:v.isPanic=false):Outs P f fr v V W:=by
 unfold Outs; rw [hv]; exact h
theorem Aj {P:Program} {fr c:Frame} {cs:List Frame} {V:Value} {W:World} (h:fr.mode=.panicking [{ v:=V,recovered:=false }]/\fr.defers=[]/\∃ fn,P.funcs[fr.fn]?=some fn):
  step P (lone fr (c :: cs) W)=.next (lone (c.raise [{ v:=V,recovered:=false }]) cs W):=by
 obtain ⟨hm,hd,fn,hf⟩:=h
 exact step_lone_go (by simp [stepG,unwind,Frame.catches,hm,hd,hf])
def FrRel (σ:Sg) (fr:AFr) (b:Base):Prop:=
 b.fn=fr.fn/\match fr.round with
 | none=>b.round=none
 | some l=>∃ B N,σ l=some (B,N)/\b.round=some B
theorem FrRel.mono {σ τ:Sg} (s:Sub σ τ) {fr:AFr} {b:Base} (h:FrRel σ fr b):FrRel τ fr b:=by
 obtain ⟨h1,h2⟩:=h
 refine ⟨h1,?_⟩
 cases hr:fr.round with
 | none=>rw [hr] at h2; exact h2
 | some l=>rw [hr] at h2; obtain ⟨B,N,h3,h4⟩:=h2; exact ⟨B,N,s _ _ h3,h4⟩
def PostH (H:Nat->Prop) (σ:Sg) (s:St) (W:World) (A:Ex->Array Value->List Deferred->World->Prop):Ex->St->Prop:=
 fun x s'=>∃ τ T D V,SRel τ s' T D V/\StepH H σ s W τ s' V/\A x T D V
abbrev Post:=PostH fun _=>False
theorem il {H:Nat->Prop} {σ:Sg} {s:St} {T:Array Value} {D:List Deferred} {W:World} (r:SRel σ s T D W) (A:Ex->Array Value->List Deferred->World->Prop):Closed s (PostH H σ s W A):=by
 rintro x s1 s2 ⟨τ,T1,D1,V,h1,h2,h3⟩ v
 obtain ⟨υ,h4,h5⟩:=Mr r v h1 h2
 exact ⟨υ,T1,D1,V,h4,h5,h3⟩
theorem dR {σ:Sg} {s:St} {T:Array Value} {D:List Deferred} {W:World} (r:SRel σ s T D W) (A:Ex->Array Value->List Deferred->World->Prop):Closed s (Post σ s W A):=il r A
theorem Post.back {σ τ:Sg} {s s1:St} {W V:World} {A:Ex->Array Value->List Deferred->World->Prop} (ko:s1.hp.ok) (h:Step σ s W τ s1 V) {x:Ex} {s2:St} (p:Post τ s1 V A x s2):Post σ s W A x s2:=by
 obtain ⟨υ,T,D,X,h1,h2,h3⟩:=p
 exact ⟨υ,T,D,X,h1,Step.trans ko h1.h.ok h h2,h3⟩
theorem Post.imp {σ:Sg} {s:St} {W:World} {A B:Ex->Array Value->List Deferred->World->Prop} {x:Ex} {s2:St} (p:Post σ s W A x s2) (h:∀ T D V,A x T D V->B x T D V):Post σ s W B x s2:=by
 obtain ⟨υ,T,D,X,h1,h2,h3⟩:=p
 exact ⟨υ,T,D,X,h1,h2,h T D X h3⟩
def Mw (c:Code) (k:List Item) (todo:List Item):Prop:=todo=.code c :: k\/∃ a,c=.loop a/\todo=.inLoop a :: k
def CodeOk (C:Ctx) (fr:AFr) (c:Code) (s:St) (q:R):Prop:=
 ∀ (σ:Sg) (T:Array Value) (D:List Deferred) (W:World),GRel C σ->SRel σ s T D W->∀ (b:Base) (k todo:List Item) (cs:List Frame),Mw c k todo->FrRel σ fr b ->
  bG (Post σ s W (Arr C.P (lone (b.fr T D todo) cs W) b k cs)) q
def fM (l:List CEnt) (e:CEnt):Prop:=l.filter (fun e=>e.g.val)=[e]
def CallOk (C:Ctx) (f:FuncId) (args:List AV) (h:Hp) (q:CR):Prop:=
 ∀ (σ:Sg) (A:Array Value) (W:World),GRel C σ->HRel σ h W->VRels σ args A.toList->q.need->∀ (cs:List Frame),∃ e,fM q.l e/\∃ τ V X fr,VRel τ e.v V/\HRel τ e.hp X/\Good σ h W τ e.hp X /\
  Steps C.P (lone (Frame.enter C.P f A .normal) cs W) (lone fr cs X)/\qV C.P f .normal fr V X
def CallOut (C:Ctx) (f:FuncId) (args:List AV) (h:Hp) (q:CR):Prop:=
 ∀ (σ:Sg) (A:Array Value) (W:World),GRel C σ->HRel σ h W->VRels σ args A.toList->q.need->∀ (cs:List Frame),∃ e,fM q.l e/\∃ τ V X fr,VRel τ e.v V/\HRel τ e.hp X/\Good σ h W τ e.hp X /\
  Steps C.P (lone (Frame.enter C.P f A .normal) cs W) (lone fr cs X)/\Outs C.P f fr e.v V X
def Mx (l:List CEnt):Prop:=∀ e∈l,e.v.isPanic=false
theorem CallOk.out {C:Ctx} {f:FuncId} {args:List AV} {h:Hp} {q:CR} (c:CallOk C f args h q) (t:Mx q.l):CallOut C f args h q:=by
 intro σ A W g r ha hn cs
 obtain ⟨e,h1,τ,V,X,fr,h2,h3,h4,h5,h6⟩:=c σ A W g r ha hn cs
 have hm:e∈q.l:=(List.mem_filter.1 (by unfold fM at h1; rw [h1]; simp:e∈q.l.filter (fun e=>e.g.val))).1
 exact ⟨e,h1,τ,V,X,fr,h2,h3,h4,h5,.of h6 (t e hm)⟩
theorem CallOut.ok {C:Ctx} {f:FuncId} {args:List AV} {h:Hp} {q:CR} (c:CallOut C f args h q) (t:Mx q.l):CallOk C f args h q:=by
 intro σ A W g r ha hn cs
 obtain ⟨e,h1,τ,V,X,fr,h2,h3,h4,h5,h6⟩:=c σ A W g r ha hn cs
 have hm:e∈q.l:=(List.mem_filter.1 (by unfold fM at h1; rw [h1]; simp:e∈q.l.filter (fun e=>e.g.val))).1
 exact ⟨e,h1,τ,V,X,fr,h2,h3,h4,h5,h6.ret (t e hm)⟩
def wQ (C:Ctx) (l:Nat) (args:List AV) (h:Hp) (q:CR):Prop:=
 ∀ (σ:Sg) (A:Array Value) (W:World) (B N:Nat),GRel C σ->HRel σ h W->σ l=some (B,N)->VRels σ args A.toList->q.need->∀ (c:Frame) (cs:List Frame),∃ e,fM q.l e/\e.v.isPanic=false/\∃ τ V X f T x y,VRel τ e.v V/\HRel τ e.hp X/\Good σ h W τ e.hp X /\
  (Instr.yield B A).run C.P W=.ok (.round B f T x y) W/\Steps C.P (lone (Frame.round B f T x y .normal) (c :: cs) W) (lone (c.finish V) cs X)
structure RecOk (C:Ctx) (r:Rec):Prop where
 code:∀ fr c s q,r.code fr c s=some q->CodeOk C fr c s q
 call:∀ f args h q,r.call f args h=some q->CallOut C f args h q/\∃ fn:Func,C.P.funcs[f]?=some fn/\fn.body.isSome=true
 yield:∀ l args h q,r.yield l args h=some q->wQ C l args h q
structure ProgOk (P:Program):Prop where
 name:∀ (f:FuncId) (fn:Func),P.funcs[f]?=some fn->fn.body.isSome=true->(fn.name=="runtime.NumGoroutine")=false
 mixed:P.follows .mixedOrders=true
structure CtxOk (C:Ctx):Prop where
 prog:ProgOk C.P
 con:∀ f args h nd v bs,C.con f args h=some (nd,v,bs)->CallOk C f args h ⟨nd,[⟨.tt,v,bR h bs⟩]⟩/\∃ fn:Func,C.P.funcs[f]?=some fn/\fn.body.isSome=true
 ext:∀ f args nd v,C.ext f args=some (nd,v)->nd.val->∀ (σ:Sg) (A:Array Value) (W:World),VRels σ args A.toList->∃ V,VRel σ v V/\(callFunc f A).run C.P W=.ok (.value V) W
 loop:∀ fr a s q,C.loop fr a s=some q->CodeOk C fr (.loop a) s q
 two:∀ f args h nd p v w,C.two f args h=some (nd,p,v,w)->CallOk C f args h ⟨nd,[⟨.b p,v,h⟩,⟨.b !p,w,h⟩]⟩/\∃ fn:Func,C.P.funcs[f]?=some fn/\fn.body.isSome=true:=by intro _ _ _ _ _ _ _ e; cases e
theorem gM {σ:Sg} {s:St} {T:Array Value} {D:List Deferred} {W:World} (r:SRel σ s T D W):SRel σ ⟨s.tmps,s.defs,⟨s.hp.blks,s.hp.size,s.hp.clock+1⟩⟩ T D W/\Step σ s W σ ⟨s.tmps,s.defs,⟨s.hp.blks,s.hp.size,s.hp.clock+1⟩⟩ W:=by
 have hg:∀ i,(⟨s.hp.blks,s.hp.size,s.hp.clock+1⟩:Hp).get i=s.hp.get i:=fun i=>by rw [Hp.get_eq,Hp.get_eq]
 refine ⟨⟨r.t,r.d,⟨r.h.ok,fun i b h=>r.h.blk i b (by rw [<- hg]; exact h),r.h.dom,fun i j b c B N M h1 h2=>r.h.inj i j b c B N M (by rw [<- hg]; exact h1) (by rw [<- hg]; exact h2)⟩⟩,?_⟩
 refine ⟨⟨Sub.refl _,fun _ _ h _=>h,Ext.refl _,⟨Nat.le_succ _,Nat.le_refl _,fun i b c h1 h2=>?_,fun i w c h=>⟨w,c.state,c.pending,by rw [hg]; exact h⟩⟩,fun i B N h hi _=>absurd (r.h.dom i B N h).1 (Nat.not_lt.2 hi),fun _ _ _ _=>rfl⟩,⟨rfl,fun _ _ h=>.inl h⟩⟩
 rw [hg,h1] at h2; cases h2; exact .inl rfl
theorem ou {β:Type} (s:St) (k:St->β):xk s k=k ⟨s.tmps,s.defs,⟨s.hp.blks,s.hp.size,s.hp.clock+1⟩⟩:=by simp [xk]
theorem iQ {β:Type} (s:St) (dst:Option Tmp) (v:AV) (k:St->β):s.put dst v k=k (match dst with|none=>s|some d=>⟨s.tmps.set d ⟨s.hp.clock,v⟩,s.defs,s.hp⟩):=by
 cases dst <;> simp [St.put,jJ]
theorem eD {σ τ:Sg} {s:St} {T:Array Value} {D:List Deferred} {W X:World} {h:Hp} (r:SRel σ s T D W) (hh:HRel τ h X) (g:Good σ s.hp W τ h X) {v:AV} {V:Value} (hv:VRel τ v V) (dst:Option Tmp):
  SRel τ (match dst with|none=>⟨s.tmps,s.defs,h⟩|some d=>⟨s.tmps.set d ⟨h.clock,v⟩,s.defs,h⟩) (dM T dst V) D X/\Step σ s W τ (match dst with|none=>⟨s.tmps,s.defs,h⟩|some d=>⟨s.tmps.set d ⟨h.clock,v⟩,s.defs,h⟩) X:=by
 have ht:=TRel.mono g.sub r.t
 cases dst with
 | none=>exact ⟨⟨ht,DRel.mono g.sub r.d,hh⟩,⟨g,⟨rfl,fun _ _ h=>.inl h⟩⟩⟩
 | some d=>
  refine ⟨⟨?_,DRel.mono g.sub r.d,hh⟩,⟨g,⟨by simp,fun t x h=>?_⟩⟩⟩
  .have:=VRels.set d ht hv
   unfold TRel
   simpa [List.map_set,dM] using this
  .by_cases he:t=d
   .subst he
    by_cases hl:t<s.tmps.length
    .rw [List.getElem?_set_self hl] at h
     cases h; exact .inr g.mon.clock
    .rw [List.getElem?_eq_none (by simpa using hl)] at h; cases h
   .rw [List.getElem?_set_ne (Ne.symm he)] at h
    exact .inl h
theorem jL {P:Program} (hp:ProgOk P) {f:FuncId} {fn:Func} (hf:P.funcs[f]?=some fn) (hb:fn.body.isSome=true) (A:Array Value) (W:World):(callFunc f A).run P W=.ok (.enter f A) W:=by
 have h1:=hp.name f fn hf hb
 have h2:fn.body≠none:=by cases e:fn.body <;> simp_all
 have h3:fn.name≠"runtime.NumGoroutine" :=by simpa using h1
 simp [callFunc,hf,h3,h2]
theorem MB (dst:Option Tmp) (s:St) (e:CEnt):(mF dst s e).g=e.g:=by
 unfold mF
 split
 .rfl
 .rw [iQ]
theorem kQ {dst:Option Tmp} {s:St} {e:CEnt} (h:e.v.isPanic=false):mF dst s e=St.put ⟨s.tmps,s.defs,e.hp⟩ dst e.v (fun s'=>⟨e.g,.normal,s'⟩):=by
 unfold mF
 split
 .rename_i a ha; rw [ha] at h; cases h
 .rfl
theorem sN {dst:Option Tmp} {s:St} {e:CEnt} {a:AV} (h:e.v=.panic a):mF dst s e=⟨e.g,.raise a,⟨s.tmps,s.defs,e.hp⟩⟩:=by
 unfold mF
 rw [h]
theorem pR {l:List CEnt} {e:CEnt} (h:fM l e) (dst:Option Tmp) (s:St):One (lI dst s l) (mF dst s e):=by
 have key:∀ l:List CEnt,(lI dst s l).filter (fun e=>e.g.val)=(l.filter (fun e=>e.g.val)).map (mF dst s):=by
  intro l
  induction l with
  | nil=>rfl
  | cons a l ih=>
   simp only [lI,List.filter_cons,ih,MB]
   cases a.g.val <;> simp
 unfold One
 rw [key,h]; rfl
theorem sO {l:List CEnt} (h:nV l=true):∀ e∈l,∀ a,e.v=.panic a->AV.under 0 a=true:=by
 induction l with
 | nil=>intro e he; cases he
 | cons x l ih=>
  simp only [nV] at h
  intro e he a ha
  rcases List.mem_cons.1 he with rfl|he
  .rw [ha] at h
   simp only [Bool.and_eq_true] at h
   exact h.1
  .split at h
   .simp only [Bool.and_eq_true] at h
    exact ih h.2 e he a ha
   .exact ih h e he a ha
theorem Er {l:List CEnt} {e:CEnt} (h:fM l e):e∈l:=(List.mem_filter.1 (by unfold fM at h; rw [h]; simp:e∈l.filter (fun e=>e.g.val))).1
theorem sP {σ:Sg} {a:AV} {V:Value} (h:VRel σ a V) (u:AV.under 0 a=true):VRel El a V:=by
 have:=VRel.low a V h u
 have e:σ.low 0=El:=by
  funext i; simp [Sg.low,El]
 rwa [e] at this
theorem VRel.anywhere {σ:Sg} {a:AV} {V:Value} (h:VRel El a V):VRel σ a V:=VRel.mono (fun i x e=>by cases e) a V h
theorem Cs {ops:Array Oper} {s:St} {T:Array Value} {σ:Sg} (ht:TRel σ s.tmps T) {o:Oper}:
  (jw ops s o=.go->Region.wanted o (yielded ops T)=true)/\(jw ops s o=.skip->Region.wanted o (yielded ops T)=false) /\
  (∀ d p want,jw ops s o=.fork d p want->Region.wanted o (yielded ops T)=(p==want)/\∃ st,nth s.tmps d=some ⟨st,.bool true p⟩):=by
 unfold jw Region.wanted
 split
 .refine ⟨fun _=>by simp [*],fun h=>(by cases h),fun _ _ _ h=>(by cases h)⟩
 .rename_i j want hg
  split
  .exact ⟨fun h=>(by cases h),fun h=>(by cases h),fun _ _ _ h=>(by cases h)⟩
  .rename_i g hj
   split
   .exact ⟨fun h=>(by cases h),fun h=>(by cases h),fun _ _ _ h=>(by cases h)⟩
   .rename_i d hd
    have hy:∀ v:Value,T[d]?=some v->yielded ops T j=match v with|.bool b=>some b|_=>none:=by
     intro v hv
     simp only [yielded,hj,hd,hv,Option.bind_some]
     cases v <;> rfl
    split
    .rename_i st p he
     obtain ⟨v,h1,h2⟩:=ht.nth he
     obtain rfl:=h2
     rw [hg]
     simp only [hy _ h1]
     cases hpw:p==want with
     | true=>exact ⟨fun _=>by simpa using hpw,fun h=>(by cases h),fun _ _ _ h=>(by cases h)⟩
     | false=>exact ⟨fun h=>(by cases h),fun _=>by simpa using hpw,fun _ _ _ h=>(by cases h)⟩
    .rename_i st p he
     obtain ⟨v,h1,h2⟩:=ht.nth he
     obtain rfl:=h2
     rw [hg]
     simp only [hy _ h1]
     refine ⟨fun h=>(by cases h),fun h=>(by cases h),fun d' p' w' h=>?_⟩
     cases h
     exact ⟨by simp,st,he⟩
    .rename_i st he
     obtain ⟨v,h1,K,rfl,hK⟩:=ht.nth he
     rw [hg]
     simp only [hy _ h1]
     exact ⟨fun h=>(by cases h),fun _=>by simp,fun _ _ _ h=>(by cases h)⟩
    .exact ⟨fun h=>(by cases h),fun h=>(by cases h),fun _ _ _ h=>(by cases h)⟩
theorem yc {v:AV} (h:v.isPanic=true):∃ a,v=.panic a:=by
 cases v <;> first|exact ⟨_,rfl⟩|cases h
theorem yf {C:Ctx} {r:Rec} (co:CtxOk C) (ro:RecOk C r) {h:Hp} {g:FuncId} {args:List AV} {q:CR} (e:IZ C r h (.func g args)=some q):CallOut C g args h q/\∃ fn:Func,C.P.funcs[g]?=some fn/\fn.body.isSome=true:=by
 simp only [IZ] at e
 split at e
 .rename_i nd v bs hcon
  split at e
  .cases e
  .rename_i hv
   cases e
   obtain ⟨h1,h2⟩:=co.con _ _ _ _ _ _ hcon
   exact ⟨h1.out fun e he=>by rw [List.mem_singleton.1 he]; exact hv,h2⟩
 .split at e
  .rename_i nd p v w htwo
   split at e
   .cases e
   .rename_i hv
    cases e
    simp only [Bool.or_eq_false_iff] at hv
    obtain ⟨h1,h2⟩:=co.two _ _ _ _ _ _ _ htwo
    refine ⟨h1.out fun e he=>?_,h2⟩
    rcases List.mem_cons.1 he with rfl|he
    .exact hv.1
    .rw [List.mem_singleton.1 he]; exact hv.2
  .exact ro.call _ _ _ _ e
section opers
variable {C:Ctx} {r:Rec}
def Es (P:Program) (ops:Array Oper) (i:Nat) (rest:List Nat) (b:Base) (k:List Item) (cs:List Frame) (T:Array Value) (D:List Deferred) (W:World):Ex->Array Value->List Deferred->World->Prop:=
 fun x T' D' W'=>(x=.normal\/∃ a,x=.raise a)/\Arr P (lone (b.fr T D (.inRegion ops (i :: rest) :: k)) cs W) b (.inRegion ops rest :: k) cs x T' D' W'
theorem vU {s:St} {o:Oper} {q:R} (e:dK C s o=some q) {σ:Sg} {T:Array Value} {D:List Deferred} {W:World} (g:GRel C σ) (sr:SRel σ s T D W) {ops:Array Oper} {i:Nat} {rest:List Nat} (ho:ops[i]?=some o)
  (hw:Region.wanted o (yielded ops T)=true) (b:Base) (k:List Item) (cs:List Frame):bG (Post σ s W (Es C.P ops i rest b k cs T D W)) q:=by
 unfold dK at e
 split at e
 .cases e
 .rename_i nd v h hs
  rw [iQ] at e
  cases e
  intro hn
  obtain ⟨τ,V,X,rr,h1,h2,h3,h4,h5⟩:=pO g sr.t sr.h hs hn
  have hd:∀ c,o.op≠.defer c:=by
   intro c hc; rw [hc] at hs; simp [aL] at hs
  obtain ⟨p1,p2⟩:=eD (D:=D) sr h4 h5 h3 o.dst
  exact ⟨_,rfl,τ,_,D,X,p1,p2,.inl rfl,.one (lL ho hw hd h1 h2)⟩
theorem Ku (co:CtxOk C) (ro:RecOk C r) {s:St} {o:Oper} {f:Operand} {args:Array Operand} {ts:Array TypeId} (hop:o.op=.call ⟨.value f,args,ts⟩) {q:R} (e:xD C r s o.dst f args.toList=some q) {σ:Sg} {T:Array Value} {D:List Deferred} {W:World}
  (g:GRel C σ) (sr:SRel σ s T D W) {ops:Array Oper} {i:Nat} {rest:List Nat} (ho:ops[i]?=some o) (hw:Region.wanted o (yielded ops T)=true) (b:Base) (k:List Item) (cs:List Frame):
  bG (Post σ s W (Es C.P ops i rest b k cs T D W)) q:=by
 unfold xD at e
 split at e
 .cases e
 .rename_i ce hce
  split at e
  .rename_i nd v hx
   rw [iQ] at e
   cases e
   intro hn
   have hd:∀ c,o.op≠.defer c:=by intro c hc; rw [hc] at hop; cases hop
   have hargs:=Cn (s:=s) g sr.t args
   have hfv:=cB (s:=s) g sr.t f
   unfold callee at hce
   split at hce
   .rename_i gf first cap hfe
    cases hce
    rw [hfe] at hfv
    obtain ⟨F,K,hF,hf1,hf2⟩:=hfv
    have hA:VRels σ (first++dI C s args.toList++cap) (F++args.map (ev T)++K).toList:=by
     simp only [Array.toList_append]
     exact VRels.append (VRels.append hf1 hargs) hf2
    obtain ⟨V,h1,h2⟩:=co.ext _ _ _ _ hx hn σ _ W hA
    have hex:(execOp (ev T) o).run C.P W=.ok (.value V) W:=by
     simp only [execOp,hop,resolve,hF,Deferred.ofValue,Sem.run_bind,Sem.run_pure,Result.andThen_ok,invoke]
     exact h2
    obtain ⟨p1,p2⟩:=eD (h:=s.hp) (X:=W) (D:=D) sr sr.h (Good.refl σ s.hp W fun i B N h=>(sr.h.dom i B N h).1) h1 o.dst
    exact ⟨_,rfl,σ,_,D,W,p1,p2,.inl rfl,.one (lL ho hw hd hex (.inl rfl))⟩
   .cases hce; cases hx
   .cases hce
  .rename_i hx
   split at e
   .cases e
   .rename_i cr hcr
    split at e
    case h_2=>cases e
    rename_i hpo
    cases e
    intro hn
    have hd:∀ c,o.op≠.defer c:=by intro c hc; rw [hc] at hop; cases hop
    have hargs:=Cn (s:=s) g sr.t args
    have hfv:=cB (s:=s) g sr.t f
    unfold callee at hce
    split at hce
    .rename_i gf first cap hfe
     cases hce
     rw [hfe] at hfv
     obtain ⟨F,K,hF,hf1,hf2⟩:=hfv
     have hA:VRels σ (first++dI C s args.toList++cap) (F++args.map (ev T)++K).toList:=by
      simp only [Array.toList_append]
      exact VRels.append (VRels.append hf1 hargs) hf2
     obtain ⟨hcall,fn,hfn,hbody⟩:=yf co ro hcr
     have hex:(execOp (ev T) o).run C.P W=.ok (.enter gf (F++args.map (ev T)++K)) W:=by
      simp only [execOp,hop,resolve,hF,Deferred.ofValue,Sem.run_bind,Sem.run_pure,Result.andThen_ok,invoke]
      exact jL co.prog hfn hbody _ W
     obtain ⟨e,h1,τ,V,X,fr,h2,h3,h4,h5,h6⟩:=hcall σ _ W g sr.h hA hn (b.fr T D (.inRegion ops (i :: rest) :: k) :: cs)
     refine ⟨_,pR h1 o.dst s,?_⟩
     cases hpa:e.v.isPanic with
     | false=>
      rw [kQ hpa,iQ]
      obtain ⟨p1,p2⟩:=eD (D:=D) sr h3 h4 h2 o.dst
      refine ⟨τ,_,D,X,p1,p2,.inl rfl,?_⟩
      show Steps _ _ _
      rw [<- fH ho]
      exact .head (sM ho hw hd hex) (h5.trans (.one (x8 (h6.ret hpa))))
     | true=>
      obtain ⟨a,ha⟩:=yc hpa
      rw [sN ha]
      have hlow:=sO hpo e (Er h1) a ha
      rw [ha] at h2
      refine ⟨τ,T,D,X,⟨TRel.mono h4.sub sr.t,DRel.mono h4.sub sr.d,h3⟩,⟨h4,⟨rfl,fun _ _ h=>.inl h⟩⟩,.inr ⟨a,rfl⟩,.inRegion ops (i :: rest) :: k,V,sP h2 hlow,?_⟩
      rw [<- Base.raise_fr]
      unfold Outs at h6
      rw [hpa] at h6
      exact .head (sM ho hw hd hex) (h5.trans (.one (Aj h6)))
    .rename_i l hfe
     cases hce
     rw [hfe] at hfv
     obtain ⟨B,N,hσ,hF⟩:=hfv
     have hy:wQ C l (dI C s args.toList) s.hp cr:=ro.yield _ _ _ _ hcr
     obtain ⟨e,h1,hpa,τ,V,X,ff,TT,xx,yy,h2,h3,h4,h5,h6⟩:=hy σ _ W B N g sr.h hσ hargs hn (b.fr T D (.inRegion ops (i :: rest) :: k)) cs
     have hex:(execOp (ev T) o).run C.P W=.ok (.round B ff TT xx yy) W:=by
      simp only [execOp,hop,resolve,hF,Deferred.ofValue,Sem.run_bind,Sem.run_pure,Result.andThen_ok,invoke]
      simpa using h5
     refine ⟨_,pR h1 o.dst s,?_⟩
     rw [kQ hpa,iQ]
     obtain ⟨p1,p2⟩:=eD (D:=D) sr h3 h4 h2 o.dst
     refine ⟨τ,_,D,X,p1,p2,.inl rfl,?_⟩
     show Steps _ _ _
     rw [<- fH ho]
     exact .head (Ep ho hw hd hex) h6
    .cases hce
end opers
theorem SRel.ko {σ:Sg} {s:St} {T:Array Value} {D:List Deferred} {W:World} (r:SRel σ s T D W):s.hp.ok:=r.h.ok
theorem dx {σ τ:Sg} {s s1:St} {W V:World} {A B:Ex->Array Value->List Deferred->World->Prop} (ko:s1.hp.ok) (st:Step σ s W τ s1 V) {q:R} (h:bG (Post τ s1 V B) q)
  (im:∀ x T D X,B x T D X->A x T D X):bG (Post σ s W A) q:=fun hn=>by
 obtain ⟨e,h1,h2⟩:=h hn
 exact ⟨e,h1,Post.back ko st (h2.imp (im _))⟩
theorem Et {σ:Sg} {s:St} {T:Array Value} {D:List Deferred} {W:World} (r:SRel σ s T D W) {v:AV} {V:Value} (hv:VRel σ v V) (dst:Option Tmp) {f:St->Option R} {q:R} (e:s.put dst v f=some q)
  {A:Ex->Array Value->List Deferred->World->Prop} (h:∀ s1,f s1=some q->SRel σ s1 (dM T dst V) D W->bG (Post σ s1 W A) q):bG (Post σ s W A) q:=by
 rw [iQ] at e
 obtain ⟨p1,p2⟩:=eD (h:=s.hp) (X:=W) (D:=D) r r.h (Good.refl σ s.hp W fun i B N h=>(r.h.dom i B N h).1) hv dst
 exact dx p1.ko p2 (h _ e p1) fun _ _ _ _ h=>h
theorem vV {σ:Sg} {s:St} {T:Array Value} {D:List Deferred} {W:World} (r:SRel σ s T D W) {d:Tmp} {st:Nat} {p:Bool} (h:nth s.tmps d=some ⟨st,.bool true p⟩):
  SRel σ ⟨s.tmps.set d ⟨s.hp.clock,.bool false p⟩,s.defs,s.hp⟩ T D W/\Step σ s W σ ⟨s.tmps.set d ⟨s.hp.clock,.bool false p⟩,s.defs,s.hp⟩ W:=by
 obtain ⟨v,h1,h2⟩:=r.t.nth h
 obtain rfl:=h2
 obtain ⟨p1,p2⟩:=eD (h:=s.hp) (X:=W) (D:=D) r r.h (Good.refl σ s.hp W fun i B N h=>(r.h.dom i B N h).1) (v:=.bool false p) (V:=.bool p) rfl (some d)
 have:dM T (some d) (.bool p)=T:=by
  simp only [dM]
  rw [Array.setIfInBounds_def]
  split
  .rename_i hd
   have:T[d]=.bool p:=by rw [Array.getElem?_eq_getElem hd] at h1; exact Option.some.inj h1
   exact Array.ext_getElem? fun i=>by
    rw [Array.getElem?_set]
    split
    .rename_i e; subst e; exact h1.symm
    .rfl
  .rfl
 rw [this] at p1
 exact ⟨p1,p2⟩
section regions
variable {C:Ctx} {r:Rec}
theorem GY {s:St} {o:Oper} {x:Operand} (hop:o.op=.panic x) {q:R} (e:rT s (ai C s x)=some q) {σ:Sg} {T:Array Value} {D:List Deferred} {W:World}
  (g:GRel C σ) (sr:SRel σ s T D W) {ops:Array Oper} {i:Nat} {rest:List Nat} (ho:ops[i]?=some o) (hw:Region.wanted o (yielded ops T)=true) (b:Base) (k:List Item) (cs:List Frame):
  bG (Post σ s W (Es C.P ops i rest b k cs T D W)) q:=by
 obtain ⟨V,hV,hst⟩:∃ V,(∃ t v,ai C s x=.iface t v/\AV.under 0 v=true/\q=⟨.tt,[⟨.tt,.raise (.iface t v),s⟩]⟩/\VRel σ (.iface t v) V) /\
   step C.P (lone (b.fr T D (.inRegion ops (i :: rest) :: k)) cs W)=.next (lone (b.pan T D (.inRegion ops (i :: rest) :: k) V) cs W):=by
  have hx:=cB (s:=s) g sr.t x
  unfold rT at e
  split at e
  .rename_i t v hv
   split at e
   .rename_i hu
    cases e
    rw [hv] at hx
    obtain ⟨y,hy,hr⟩:=hx
    refine ⟨.iface t y,⟨t,v,hv,hu,rfl,⟨y,rfl,hr⟩⟩,?_⟩
    have hex:(execOp (ev T) o).run C.P W=.halt (.panic (.iface t y)) W:=by
     simp only [execOp,hop,hy,Instr.panic,goPanic]
     rfl
    rw [<- Base.raise_fr]
    refine step_lone_go ?_
    have hd:∀ c,o.op≠.defer c:=by intro c hc; rw [hc] at hop; cases hop
    rw [iP ho hw hd]
    simp [stepG.apply,hex]
   .cases e
  .cases e
 obtain ⟨t,v,_,hu,rfl,hr⟩:=hV
 intro hn
 refine ⟨_,rfl,σ,T,D,W,sr,⟨Good.refl σ s.hp W fun i B N h=>(sr.h.dom i B N h).1,TMon.refl s⟩,.inr ⟨_,rfl⟩,_,V,sP hr (by simpa [AV.under] using hu),.one hst⟩
theorem MC (co:CtxOk C) (ro:RecOk C r) {s:St} {o:Oper} {q:R} (e:rU C r s o=some q) {σ:Sg} {T:Array Value} {D:List Deferred} {W:World}
  (g:GRel C σ) (sr:SRel σ s T D W) {ops:Array Oper} {i:Nat} {rest:List Nat} (ho:ops[i]?=some o) (hw:Region.wanted o (yielded ops T)=true) (b:Base) (k:List Item) (cs:List Frame):
  bG (Post σ s W (Es C.P ops i rest b k cs T D W)) q:=by
 unfold rU at e
 split at e
 .rename_i f args ts hop
  exact Ku co ro hop e g sr ho hw b k cs
 .rename_i x hop
  exact GY hop e g sr ho hw b k cs
 .exact vU e g sr ho hw b k cs
theorem GZ (co:CtxOk C) {s:St} {o:Oper} {f:Operand} {args:Array Operand} {ts:Array TypeId} (hop:o.op=.defer ⟨.value f,args,ts⟩) {q:R} (e:BR C s o.dst f args.toList=some q) {σ:Sg} {T:Array Value} {D:List Deferred} {W:World}
  (g:GRel C σ) (sr:SRel σ s T D W) {ops:Array Oper} {i:Nat} {rest:List Nat} (ho:ops[i]?=some o) (hw:Region.wanted o (yielded ops T)=true) (b:Base) (hb:b.round=none) (k:List Item) (cs:List Frame):
  bG (Post σ s W (Es C.P ops i rest b k cs T D W)) q:=by
 obtain ⟨bf,bk,br⟩:=b
 obtain rfl:br=none:=hb
 generalize hbb:(Base.mk bf bk none)=b
 have hb:b.round=none:=by rw [<- hbb]
 unfold BR at e
 split at e
 .rename_i gf as hce
  rw [iQ] at e
  cases e
  intro hn
  have hargs:=Cn (s:=s) g sr.t args
  have hfv:=cB (s:=s) g sr.t f
  unfold callee at hce
  split at hce
  .rename_i gf' first cap hfe
   cases hce
   rw [hfe] at hfv
   obtain ⟨F,K,hF,hf1,hf2⟩:=hfv
   have hA:VRels σ (first++dI C s args.toList++cap) ((F++args.map (ev T))++K).toList:=by
    simp only [Array.toList_append]
    exact VRels.append (VRels.append hf1 hargs) hf2
   have hex:(execOp (ev T) o).run C.P W=.ok (.defer { target:=.fn (.func gf) K,args:=F++args.map (ev T) }) W:=by
    simp only [execOp,hop,resolve,hF,Deferred.ofValue,Sem.run_bind,Sem.run_pure,Result.andThen_ok]
   have hst:step C.P (lone (b.fr T D (.inRegion ops (i :: rest) :: k)) cs W)=.next (lone (b.fr (dM T o.dst undef) ({ target:=.fn (.func gf) K,args:=F++args.map (ev T) } :: D) (.inRegion ops rest :: k)) cs W):=by
    rw [<- fH ho]
    subst hbb
    refine step_lone_go ?_
    have he:=eval_fr' (b:=Base.mk bf bk none) (T:=T) (D:=D) (.inRegion ops (i :: rest) :: k)
    simp only [Base.fr] at he
    simp only [stepG,stepG.exec,Base.fr,ho,hw,Option.map_some,Option.getD_some,if_true,stepG.oper,Frame.oper?]
    rw [he]
    simp [stepG.apply,hex,Frame.finish]
   have dr:DRel σ (.call gf (first++dI C s args.toList++cap) :: s.defs) ({ target:=.fn (.func gf) K,args:=F++args.map (ev T) } :: D):=⟨_,K,D,hA,rfl,sr.d⟩
   obtain ⟨p1,p2⟩:=eD (h:=s.hp) (X:=W) (s:=⟨s.tmps,.call gf (first++dI C s args.toList++cap) :: s.defs,s.hp⟩) ⟨sr.t,dr,sr.h⟩ sr.h (Good.refl σ s.hp W fun i B N h=>(sr.h.dom i B N h).1) (v:=aS) (V:=undef) ⟨#[],rfl,rfl⟩ o.dst
   exact ⟨_,rfl,σ,_,_,W,p1,⟨p2.good,⟨p2.tm.len,p2.tm.same⟩⟩,.inl rfl,.one hst⟩
  .cases hce
  .cases hce
 .cases e
theorem yg (co:CtxOk C) (ro:RecOk C r) {s:St} {o:Oper} {q:R} (e:DY C r s o=some q) {σ:Sg} {T:Array Value} {D:List Deferred} {W:World}
  (g:GRel C σ) (sr:SRel σ s T D W) {ops:Array Oper} {i:Nat} {rest:List Nat} (ho:ops[i]?=some o) (hw:Region.wanted o (yielded ops T)=true) (b:Base) (hb:b.round=none\/mG o=false) (k:List Item) (cs:List Frame):
  bG (Post σ s W (Es C.P ops i rest b k cs T D W)) q:=by
 unfold DY at e
 split at e
 .rename_i f args ts hop
  rcases hb with hb|hb
  .exact GZ co hop e g sr ho hw b hb k cs
  .simp [mG,hop] at hb
 .exact MC co ro e g sr ho hw b k cs
theorem qW {σ:Sg} {a v:AV} {m:Nd} (e:nW a v=some m) (hm:m.val) {V:Value} (h:VRel σ a V):VRel σ v V:=by
 unfold nW at e
 split at e
 .split at e
  .rename_i hk; subst hk; cases e
   rw [show _=_ from hm] at h; exact h
  .cases e
 .cases e; rw [show _=_ from hm] at h; exact h
 .cases e; rw [show _=_ from hm] at h; exact h
 .cases e
theorem Eu {σ:Sg} {s:St} {W:World} {A:Ex->Array Value->List Deferred->World->Prop} {d:Nat} {v:AV} {q:Option R} {q':R} (e:GG d v q=some q') (h:∀ q1,q=some q1->bG (Post σ s W A) q1):bG (Post σ s W A) q':=by
 unfold GG at e
 split at e
 .rename_i nd s1
  split at e
  .rename_i a ha
   split at e
   .rename_i m hm
    rw [jJ] at e
    cases e
    intro hn
    obtain ⟨en,h1,h2⟩:=h _ rfl (Nd.lv hn)
    have:en=⟨.tt,.normal,s1⟩:=by
     unfold One at h1
     simp [G.val] at h1
     exact h1.symm
    subst this
    obtain ⟨τ,T,D,V,sr,st,k⟩:=h2
    refine ⟨_,rfl,τ,T,D,V,⟨?_,sr.d,sr.h⟩,⟨st.good,⟨?_,fun t x hx=>?_⟩⟩,k⟩
    .obtain ⟨u,hu,hv⟩:=sr.t.nth ha
     have hv2:=qW hm (Nd.rv hn) hv
     have:=VRels.set d sr.t hv2
     unfold TRel
     rw [List.map_set]
     have hT:T.toList.set d u=T.toList:=by
      apply List.ext_getElem?
      intro i
      rw [List.getElem?_set]
      split
      .rename_i hi
       subst hi
       split
       .rw [Array.getElem?_toList]; exact hu.symm
       .rename_i hlt
        rw [List.getElem?_eq_none (by omega)]
      .rfl
     rw [hT] at this
     exact this
    .simp only [List.length_set]; exact st.tm.len
    .by_cases he:t=d
     .subst he
      by_cases hl:t<s1.tmps.length
      .rw [List.getElem?_set_self hl] at hx
       cases hx; exact .inr st.good.mon.clock
      .rw [List.getElem?_eq_none (by simpa using hl)] at hx; cases hx
     .rw [List.getElem?_set_ne (Ne.symm he)] at hx
      exact st.tm.same t x hx
   .exact h _ e
  .exact h _ e
 .exact h _ e
theorem ME (co:CtxOk C) (ro:RecOk C r) {s:St} {o:Oper} {q:R} (e:zZ C r s o=some q) {σ:Sg} {T:Array Value} {D:List Deferred} {W:World}
  (g:GRel C σ) (sr:SRel σ s T D W) {ops:Array Oper} {i:Nat} {rest:List Nat} (ho:ops[i]?=some o) (hw:Region.wanted o (yielded ops T)=true) (b:Base) (hb:b.round=none\/mG o=false) (k:List Item) (cs:List Frame):
  bG (Post σ s W (Es C.P ops i rest b k cs T D W)) q:=by
 unfold zZ at e
 split at e
 .exact yg co ro e g sr ho hw b hb k cs
 .split at e
  .exact yg co ro e g sr ho hw b hb k cs
  .exact Eu e fun q1 e1=>yg co ro e1 g sr ho hw b hb k cs
def AtOps (P:Program) (ops:Array Oper) (is:List Nat) (b:Base) (k:List Item) (cs:List Frame) (T:Array Value) (D:List Deferred) (W:World):Ex->Array Value->List Deferred->World->Prop:=
 fun x T' D' W'=>(x=.normal\/∃ a,x=.raise a)/\Arr P (lone (b.fr T D (.inRegion ops is :: k)) cs W) b k cs x T' D' W'
inductive Idx (ops:Array Oper):List Nat->List Oper->Prop where
 | nil:Idx ops [] []
 | cons {i:Nat} {o:Oper} {is:List Nat} {l:List Oper}:ops[i]?=some o->Idx ops is l->Idx ops (i :: is) (o :: l)
theorem Jd (co:CtxOk C) (ro:RecOk C r) {ops:Array Oper} (b:Base) (k:List Item) (cs:List Frame):∀ {is:List Nat} {l:List Oper},Idx ops is l->(b.round=none\/l.any mG=false)->∀ (s:St) (q:R),rV C r ops l s=some q ->
  ∀ (σ:Sg) (T:Array Value) (D:List Deferred) (W:World),GRel C σ->SRel σ s T D W->bG (Post σ s W (AtOps C.P ops is b k cs T D W)) q:=by
 intro is l hl
 induction hl with
 | nil=>
  intro _ s q e σ T D W g sr
  cases e
  exact fun _=>⟨_,rfl,σ,T,D,W,sr,⟨Good.refl σ s.hp W fun i B N h=>(sr.h.dom i B N h).1,TMon.refl s⟩,.inl rfl,.one Mv⟩
 | @cons i o is l ho _ ih=>
  intro hb s0 q e σ T D W g sr0
  have hb1:b.round=none\/mG o=false:=hb.imp id fun h=>by simp only [List.any_cons,Bool.or_eq_false_iff] at h; exact h.1
  replace ih:=ih (hb.imp id fun h=>by simp only [List.any_cons,Bool.or_eq_false_iff] at h; exact h.2)
  simp only [rV] at e
  rw [ou] at e
  obtain ⟨sr,st0⟩:=gM sr0
  generalize (⟨s0.tmps,s0.defs,⟨s0.hp.blks,s0.hp.size,s0.hp.clock+1⟩⟩:St)=s at e sr st0
  refine dx sr.ko st0 (B:=AtOps C.P ops (i :: is) b k cs T D W) ?_ fun _ _ _ _ h=>h
  have go:∀ (s:St) (q:R),nO s (zZ C r s o) (rV C r ops l)=some q->SRel σ s T D W->Region.wanted o (yielded ops T)=true->bG (Post σ s W (AtOps C.P ops (i :: is) b k cs T D W)) q:=by
   intro s q e sr hw
   refine iO (Q1:=Post σ s W (Es C.P ops i is b k cs T D W)) (dR sr _) ?_ ?_ e ?_
   .rintro s1 q1 e1 ⟨τ,T1,D1,V,r1,st1,-,hs⟩
    have:=ih _ _ e1 _ _ _ _ (g.mono st1.good.sub) r1
    refine dx r1.ko st1 this ?_
    rintro x T2 D2 X ⟨hx,hs2⟩
    exact ⟨hx,.of_steps hs hs2⟩
   .rintro x s1 hx ⟨τ,T1,D1,V,r1,st1,h,hs⟩
    rcases h with h|⟨a,rfl⟩
    .exact absurd h hx
    .exact ⟨τ,T1,D1,V,r1,st1,.inr ⟨a,rfl⟩,hs⟩
   .intro q1 e1
    exact ME co ro e1 g sr ho hw b hb1 k cs
  have no:∀ (s:St) (q:R),St.put s o.dst aS (rV C r ops l)=some q->SRel σ s T D W->Region.wanted o (yielded ops T)=false->bG (Post σ s W (AtOps C.P ops (i :: is) b k cs T D W)) q:=by
   intro s q e sr hw
   refine Et sr (v:=aS) (V:=undef) ⟨#[],rfl,rfl⟩ o.dst e ?_
   intro s1 e1 r1
   have:=ih _ _ e1 _ _ _ _ g r1
   intro hn
   obtain ⟨en,h1,h2⟩:=this hn
   refine ⟨en,h1,h2.imp ?_⟩
   rintro T2 D2 X ⟨hx,hs2⟩
   exact ⟨hx,.of_steps (.one (uO ho hw)) hs2⟩
  obtain ⟨w1,w2,w3⟩:=Cs (ops:=ops) (s:=s) (T:=T) sr.t (o:=o)
  split at e
  .cases e
  .rename_i hg
   exact go s q e sr (w1 hg)
  .rename_i hg
   exact no s q e sr (w2 hg)
  .rename_i d p want hg
   obtain ⟨hw,st,hd⟩:=w3 d p want hg
   simp only [jJ] at e
   split at e
   .cases e
   .rename_i u hu
    split at e
    .cases e
    .rename_i v hv
     cases e
     obtain ⟨r1,st1⟩:=vV sr hd
     refine qU (dR sr _) ?_ ?_
     .rintro rfl
      refine dx r1.ko st1 (B:=AtOps C.P ops (i :: is) b k cs T D W) ?_ fun _ _ _ _ h=>h
      cases want with
      | true=>exact go _ _ (by simpa using hu) r1 (by simp [hw])
      | false=>exact no _ _ (by simpa using hu) r1 (by simp [hw])
     .rintro rfl
      refine dx r1.ko st1 (B:=AtOps C.P ops (i :: is) b k cs T D W) ?_ fun _ _ _ _ h=>h
      cases want with
      | true=>exact no _ _ (by simpa using hv) r1 (by simp [hw])
      | false=>exact go _ _ (by simpa using hv) r1 (by simp [hw])
end regions
theorem Ev (ops:Array Oper):∀ (l:List Oper) (n:Nat),(∀ j,l[j]?=ops[n+j]?)->Idx ops ((List.range l.length).map (n + ·)) l
 | [],_,_=>.nil
 | o :: l,n,h=>by
  have h0:=h 0
  have:(List.range (o :: l).length).map (n + ·)=n :: (List.range l.length).map (n+1 + ·):=by
   simp only [List.length_cons,List.range_succ_eq_map,List.map_cons,List.map_map,Nat.add_zero]
   congr 1
   apply List.map_congr_left
   intro a _
   simp only [Function.comp_apply]; omega
  rw [this]
  refine .cons (by simpa using h0.symm) (Ev ops l (n+1) fun j=>?_)
  have:=h (j+1)
  simp only [List.getElem?_cons_succ] at this
  rw [this]; congr 1; omega
theorem Je (ops:Array Oper):Idx ops (List.range ops.size) ops.toList:=by
 have:=Ev ops ops.toList 0 (by simp)
 simpa using this
theorem qX {s0:St} {i:Nat}:∀ {l:List Ent},(∀ e,One l e->Got s0 (qL s0 i l) (kX i e).x e.s)/\(Non l->Non (qL s0 i l))
 | []=>⟨fun e h=>by simp [One] at h,fun _=>rfl⟩
 | a :: l=>by
  obtain ⟨i1,i2⟩:=qX (s0:=s0) (i:=i) (l:=l)
  have hgs:(kX i a).g=a.g/\(kX i a).s=a.s:=by
   unfold kX
   split
   .rename_i j _
    cases Nat.beq j i <;> exact ⟨rfl,rfl⟩
   .exact ⟨rfl,rfl⟩
  obtain ⟨hg,hs⟩:=hgs
  simp only [qL]
  refine ⟨fun e h=>?_,fun h=>?_⟩
  .rcases aX h with ⟨h1,rfl,h3⟩|⟨h1,h2⟩
   .have:=ky (s0:=s0) (e:=kX i a) (by rw [hg]; exact h1) (i2 h3)
    rw [hs] at this; exact this
   .exact sI (by rw [hg]; exact h1) (i1 e h2)
  .obtain ⟨h1,h2⟩:=cK h
   exact (iN (by rw [hg]; exact h1)).2 (i2 h2)
theorem ow {a:Code}:∀ {l:List Ent} {e:Ent},wN a l=true->One l e->∀ i,e.x=.goto i->findLabel a i=none
 | [],e,_,h=>by simp [One] at h
 | f :: l,e,h,h1=>by
  simp only [wN,Bool.and_eq_true] at h
  rcases aX h1 with ⟨_,rfl,_⟩|⟨_,h2⟩
  .intro i hi
   have:=h.1
   rw [hi] at this
   simp only at this
   split at this
   .assumption
   .cases this
  .exact ow h.2 h2
def G5 (C:Ctx) (r:Rec):Prop:=∀ (fr:AFr) (i:Nat) (ops:Array Oper) (l:List It) (s:St) (q:R),BU ops=some l->bF C.P l=true->nX C r ops l [] s=some q->CodeOk C fr (.region i ops true) s q
section codes
variable {C:Ctx} {r:Rec}
theorem lN {σ:Sg} {s:St} {T:Array Value} {D:List Deferred} {W:World} (sr:SRel σ s T D W) {x:Ex} {q:R} (e:DW x s=some q) {A:Ex->Array Value->List Deferred->World->Prop} (h:A x T D W):bG (Post σ s W A) q:=by
 cases e
 exact fun _=>⟨_,rfl,σ,T,D,W,sr,⟨Good.refl σ s.hp W fun i B N h=>(sr.h.dom i B N h).1,TMon.refl s⟩,h⟩
theorem Ew {fr:AFr} {a c:Code} {s:St} {q:R} (e:nO s (r.code fr a s) (r.code fr c)=some q) (ro:RecOk C r) {σ:Sg} {T:Array Value} {D:List Deferred} {W:World} (g:GRel C σ) (sr:SRel σ s T D W)
  {b:Base} {y:Item} {k:List Item} (hy:y.plain=true) (hc:Mw c k (y :: k)) {cs:List Frame} (fb:FrRel σ fr b):
  bG (Post σ s W (Arr C.P (lone (b.fr T D (.code a :: y :: k)) cs W) b k cs)) q:=by
 refine iO (Q1:=Post σ s W (Arr C.P (lone (b.fr T D (.code a :: y :: k)) cs W) b (y :: k) cs)) (dR sr _) ?_ ?_ e ?_
 .rintro s1 q1 e1 ⟨τ,T1,D1,V,r1,st1,hs⟩
  have:=ro.code _ _ _ _ e1 τ T1 D1 V (g.mono st1.good.sub) r1 b k (y :: k) cs hc (fb.mono st1.good.sub)
  exact dx r1.ko st1 this fun x T2 D2 X h=>.of_steps hs h
 .rintro x s1 hx ⟨τ,T1,D1,V,r1,st1,h⟩
  exact ⟨τ,T1,D1,V,r1,st1,h.pass hy hx⟩
 .intro q1 e1
  exact ro.code _ _ _ _ e1 σ T D W g sr b (y :: k) _ cs (.inl rfl) fb
theorem MG (ro:RecOk C r) {fr:AFr} {x:Operand} {a c:Code} {s:St} {q:R} (e:L9 r fr (ai C s x) a c s=some q):CodeOk C fr (.cond x a c) s q:=by
 intro σ T D W g sr b k todo cs hst fb
 rcases hst with rfl|⟨_,h,_⟩
 .have hx:=cB (s:=s) g sr.t x
  unfold L9 at e
  split at e
  .rename_i p hp
   rw [hp] at hx
   have:bG (Post σ s W (Arr C.P (lone (b.fr T D (.code (if p then a else c) :: k)) cs W) b k cs)) q:=by
    cases p with
    | true=>exact ro.code _ _ _ _ e σ T D W g sr b k _ cs (.inl rfl) fb
    | false=>exact ro.code _ _ _ _ e σ T D W g sr b k _ cs (.inl rfl) fb
   intro hn
   obtain ⟨en,h1,h2⟩:=this hn
   exact ⟨en,h1,h2.imp fun T1 D1 V h=>.of_steps (.one (Cr hx)) h⟩
  .rename_i p hp
   rw [hp] at hx
   rw [ou] at e
   obtain ⟨sr',st0⟩:=gM sr
   generalize (⟨s.tmps,s.defs,⟨s.hp.blks,s.hp.size,s.hp.clock+1⟩⟩:St)=s1 at e sr' st0
   refine dx sr'.ko st0 (B:=Arr C.P (lone (b.fr T D (.code (.cond x a c) :: k)) cs W) b k cs) ?_ fun _ _ _ _ h=>h
   cases e
   have way:∀ (c':Code),(∀ q',r.code fr c' s1=some q'->bG (Post σ s1 W (Arr C.P (lone (b.fr T D (.code (.cond x a c) :: k)) cs W) b k cs)) q')->bG (Post σ s1 W (Arr C.P (lone (b.fr T D (.code (.cond x a c) :: k)) cs W) b k cs)) (L8 (r.code fr c' s1)):=by
    intro c' h
    cases hc:r.code fr c' s1 with
    | none=>exact fun hn=>hn.elim
    | some q'=>exact h q' hc
   refine qU (dR sr' _) ?_ ?_
   .rintro rfl
    refine way a fun u hu hn=>?_
    obtain ⟨en,h1,h2⟩:=ro.code _ _ _ _ hu σ T D W g sr' b k _ cs (.inl rfl) fb hn
    exact ⟨en,h1,h2.imp fun T1 D1 V h=>.of_steps (.one (by rw [Cr hx]; rfl)) h⟩
   .rintro rfl
    refine way c fun v hv hn=>?_
    obtain ⟨en,h1,h2⟩:=ro.code _ _ _ _ hv σ T D W g sr' b k _ cs (.inl rfl) fb hn
    exact ⟨en,h1,h2.imp fun T1 D1 V h=>.of_steps (.one (by rw [Cr hx]; rfl)) h⟩
  .cases e
 .cases h
theorem MH (ro:RecOk C r) {fr:AFr} {i:Nat} {a:Code} {s:St} {nd:Nd} {l:List Ent} (e:r.code fr a s=some ⟨nd,l⟩):CodeOk C fr (.block i a) s ⟨nd,rQ (qL s i l)⟩:=by
 intro σ T D W g sr b k todo cs hst fb
 rcases hst with rfl|⟨_,h,_⟩
 .refine pQ fun hn=>?_
  obtain ⟨en,h1,h2⟩:=ro.code _ _ _ _ e σ T D W g sr b (.inBlock i :: k) _ cs (.inl rfl) fb hn
  have hq:Post σ s W (Arr C.P (lone (b.fr T D (.code (.block i a) :: k)) cs W) b k cs) (kX i en).x en.s:=by
   obtain ⟨τ,T1,D1,V,r1,st1,h⟩:=h2
   refine ⟨τ,T1,D1,V,r1,st1,.of_steps (.one Em) ?_⟩
   unfold kX
   cases hx:en.x with
   | normal=>rw [hx] at h; simp only [hx]; exact h.trans (.one xY)
   | ret=>rw [hx] at h; simp only [hx]; exact h
   | raise a=>rw [hx] at h; simp only [hx]; exact h
   | goto j=>
    rw [hx] at h
    obtain ⟨k1,q1,q2⟩:=h
    simp only [hx]
    exact ⟨k1,q1,q2⟩
   | exit j=>
    rw [hx] at h
    obtain ⟨k1,q1,q2⟩:=h
    simp only
    cases hj:Nat.beq j i with
    | true=>
     have:=Nat.eq_of_beq_eq_true hj
     subst this
     exact q2.trans (.one (Jc (by rw [q1]; simp [exitTo])))
    | false=>
     have:¬ i=j:=fun h=>by subst h; simp at hj
     simp only [cond_false,hx]
     exact ⟨k1,by rw [q1]; simp [exitTo,this],q2⟩
  exact (dR sr _).got hq (qX.1 en h1)
 .cases h
theorem MI (ro:RecOk C r) {fr:AFr} {a:Code} {s:St} {q:R} (e:xI a (r.code fr a s)=some q):CodeOk C fr (.scope a) s q:=by
 intro σ T D W g sr b k todo cs hst fb
 rcases hst with rfl|⟨_,h,_⟩
 .unfold xI at e
  split at e
  .cases e
  .rename_i q' hq
   split at e
   .rename_i hok
    cases e
    intro hn
    obtain ⟨en,h1,h2⟩:=ro.code _ _ _ _ hq σ T D W g sr b (.inScope a :: k) _ cs (.inl rfl) fb hn
    refine ⟨en,h1,?_⟩
    obtain ⟨τ,T1,D1,V,r1,st1,h⟩:=h2
    refine ⟨τ,T1,D1,V,r1,st1,.of_steps (.one Eo) ?_⟩
    have hsc:=ow hok h1
    cases hx:en.x with
    | normal=>rw [hx] at h; exact h.trans (.one xZ)
    | ret=>rw [hx] at h; exact h
    | raise a=>rw [hx] at h; exact h
    | goto j=>
     rw [hx] at h
     obtain ⟨k1,q1,q2⟩:=h
     exact ⟨k1,by rw [q1]; simp [gotoIn,hsc j hx],q2⟩
    | exit j=>
     rw [hx] at h
     obtain ⟨k1,q1,q2⟩:=h
     exact ⟨k1,by rw [q1]; simp [exitTo],q2⟩
   .cases e
 .cases h
theorem Sz (co:CtxOk C) (ro:RecOk C r) {fr:AFr} {a:Code} {s:St} {q:R} (e:xJ C r fr (.loop a) s=some q):CodeOk C fr (.loop a) s q:=by
 simp only [xJ] at e
 split at e
 .rename_i q' hq
  cases e
  exact co.loop _ _ _ _ hq
 .intro σ T D W g sr b k todo cs hst fb
  have:=Ew (y:=.inLoop a) e ro g sr (b:=b) (k:=k) (cs:=cs) rfl (.inr ⟨a,rfl,rfl⟩) fb
  intro hn
  obtain ⟨en,h1,h2⟩:=this hn
  refine ⟨en,h1,h2.imp fun T1 D1 V h=>?_⟩
  rcases hst with rfl|⟨c,hc,rfl⟩
  .exact .of_steps (.one sK) h
  .cases hc
   exact .of_steps (.one gL) h
theorem MJ (co:CtxOk C) (ro:RecOk C r) (dr:G5 C r) (rg:∀ fr f params assign body s q,Ca C r fr (ai C s f) params.toList assign body s=some q->CodeOk C fr (.rangeFunc f params assign body) s q)
  {fr:AFr} {c:Code} {s:St} {q:R} (e:xJ C r fr c s=some q):CodeOk C fr c s q:=by
 have simp1:∀ (c:Code),(∀ a,c≠.loop a)->(∀ σ T D W,GRel C σ->SRel σ s T D W->∀ (b:Base) (k:List Item) (cs:List Frame),FrRel σ fr b->bG (Post σ s W (Arr C.P (lone (b.fr T D (.code c :: k)) cs W) b k cs)) q)->CodeOk C fr c s q:=by
  intro c hc h σ T D W g sr b k todo cs hst fb
  rcases hst with rfl|⟨a,ha,_⟩
  .exact h σ T D W g sr b k cs fb
  .exact absurd ha (hc a)
 cases c with
 | loop a=>exact Sz co ro e
 | skip=>exact simp1 _ (by simp) fun σ T D W g sr b k cs fb=>lN sr e (.one Sw)
 | label l=>exact simp1 _ (by simp) fun σ T D W g sr b k cs fb=>lN sr e (.one Ms)
 | ret=>exact simp1 _ (by simp) fun σ T D W g sr b k cs fb=>lN sr e ⟨k,.refl _ _⟩
 | exit i=>exact simp1 _ (by simp) fun σ T D W g sr b k cs fb=>lN sr e ⟨k,rfl,.refl _ _⟩
 | goto i=>exact simp1 _ (by simp) fun σ T D W g sr b k cs fb=>lN sr e ⟨k,rfl,.refl _ _⟩
 | seq a c=>
  refine simp1 _ (by simp) fun σ T D W g sr b k cs fb=>?_
  .have:=Ew (y:=.code c) e ro g sr (b:=b) (k:=k) (cs:=cs) rfl (.inl rfl) fb
   intro hn
   obtain ⟨en,h1,h2⟩:=this hn
   exact ⟨en,h1,h2.imp fun T1 D1 V h=>.of_steps (.one Mt) h⟩
 | cond x a c=>exact MG ro e
 | scope a=>exact MI ro e
 | rangeFunc f params assign body=>exact rg _ _ _ _ _ _ _ e
 | block i a=>
  simp only [xJ,ou] at e
  split at e
  .cases e
  .rename_i nd l h
   cases e
   intro σ T D W g sr b k todo cs hst fb
   obtain ⟨sr',st0⟩:=gM sr
   exact dx sr'.ko st0 (MH ro h σ T D W g sr' b k todo cs hst fb) fun _ _ _ _ h=>h
 | region i ops d=>
  cases d with
  | false=>
   refine simp1 _ (by simp) fun σ T D W g sr b k cs fb=>?_
   have hb:(b.round=none\/ops.toList.any mG=false)/\rV C r ops ops.toList s=some q:=by
    simp only [xJ] at e
    have h2:=fb.2
    split at e
    .rename_i hr
     rw [hr] at h2
     exact ⟨.inl h2,e⟩
    .split at e
     .cases e
     .rename_i hd; exact ⟨.inr hd,e⟩
   have:=Jd co ro b k cs (Je ops) hb.1 s q hb.2 σ T D W g sr
   intro hn
   obtain ⟨en,h1,h2⟩:=this hn
   refine ⟨en,h1,h2.imp ?_⟩
   rintro T1 D1 V ⟨hx,h⟩
   exact .of_steps (.one Ai) h
  | true=>
   simp only [xJ] at e
   split at e
   .cases e
   .rename_i l hl
    split at e
    .rename_i ha
     exact dr fr i ops l s q hl ha e
    .cases e
 | refuse w=>cases e
end codes
theorem MK {i n:Nat} (h:i<n):Nat.blt i n=true:=by simpa using h
theorem jA {i n:Nat} (h:Nat.blt i n=true):i<n:=by simpa using h
mutual
def AV.allN (p:Nat->Prop):AV->Prop
 | .ptr i _=>p i
 | .slice i _ _ _=>p i
 | .gslice i _ _ _=>p i
 | .func _ fs cs=>AV.allNL p fs/\AV.allNL p cs
 | .yield l=>p l
 | .iface _ v=>AV.allN p v
 | .map i=>p i
 | .vslice i _=>p i
 | .pslice i _ _ _=>p i
 | .lslice i _=>p i
 | .islice _ i _ _=>p i
 | .panic v=>AV.allN p v
 | .vptr i _=>p i
 | .agg l=>AV.allNL p l
 | .tuple l=>AV.allNL p l
 | .any _=>True
 | .bool _ _=>True
 | .int _ _ _=>True
 | .str _ _=>True
 | .nil=>True
 | .nilslice=>True
 | .eslice _=>True
 | .nilfunc=>True
 | .niliface=>True
 | .nilmap=>True
def AV.allNL (p:Nat->Prop):List AV->Prop
 | []=>True
 | a :: l=>AV.allN p a/\AV.allNL p l
end
mutual
theorem VRel.ren {σ τ:Sg} {p:Nat->Prop} {ρ:Nat->Nat} (h:∀ i x,p i->σ i=some x->τ (ρ i)=some x):∀ (a:AV) (v:Value),VRel σ a v->a.allN p->VRel τ (a.ren ρ) v
 | .any false,_,_,_=>trivial
 | .any true,_,e,_=>e
 | .bool _ _,_,e,_=>e
 | .int _ _ _,_,e,_=>e
 | .str _ _,_,e,_=>e
 | .nil,_,e,_=>e
 | .nilslice,_,e,_=>e
 | .eslice _,_,e,_=>e
 | .nilfunc,_,e,_=>e
 | .niliface,_,e,_=>e
 | .nilmap,_,e,_=>e
 | .ptr i o,_,⟨b,N,e,r⟩,u=>⟨b,N,h _ _ u e,r⟩
 | .slice i _ _ _,_,⟨b,N,e,r⟩,u=>⟨b,N,h _ _ u e,r⟩
 | .gslice i _ _ _,_,⟨b,N,q,c,e,r⟩,u=>⟨b,N,q,c,h _ _ u e,r⟩
 | .func _ fs cs,_,⟨F,K,e,r,s⟩,u=>⟨F,K,e,VRels.ren h fs _ r u.1,VRels.ren h cs _ s u.2⟩
 | .yield i,_,⟨b,N,e,r⟩,u=>⟨b,N,h _ _ u e,r⟩
 | .iface _ a,_,⟨x,e,r⟩,u=>⟨x,e,VRel.ren h a _ r u⟩
 | .map i,_,⟨b,N,e,r⟩,u=>⟨b,N,h _ _ u e,r⟩
 | .vslice i _,_,⟨b,N,c,e,r⟩,u=>⟨b,N,c,h _ _ u e,r⟩
 | .pslice i _ _ _,_,⟨p',len,c,e1,e2,e3,r⟩,u=>⟨p',len,c,e1,e2,e3,r.imp id fun ⟨b,N,h1,h2⟩=>⟨b,N,h _ _ u h1,h2⟩⟩
 | .lslice i _,_,⟨p',len,c,e1,e2,r⟩,u=>⟨p',len,c,e1,e2,r.imp id fun ⟨b,N,h1,h2⟩=>⟨b,N,h _ _ u h1,h2⟩⟩
 | .islice _ i _ _,_,⟨p',len,c,e1,e2,r⟩,u=>⟨p',len,c,e1,e2,r.imp id fun ⟨b,N,h1,h2⟩=>⟨b,N,h _ _ u h1,h2⟩⟩
 | .panic a,v,e,u=>VRel.ren h a v e u
 | .vptr i _,_,⟨b,N,e,r⟩,u=>⟨b,N,h _ _ u e,r⟩
 | .agg l,_,⟨K,e,r⟩,u=>⟨K,e,VRels.ren h l _ r u⟩
 | .tuple l,_,⟨K,e,r⟩,u=>⟨K,e,VRels.ren h l _ r u⟩
theorem VRels.ren {σ τ:Sg} {p:Nat->Prop} {ρ:Nat->Nat} (h:∀ i x,p i->σ i=some x->τ (ρ i)=some x):∀ (l:List AV) (L:List Value),VRels σ l L->AV.allNL p l->VRels τ (AV.renL ρ l) L
 | [],_,e,_=>e
 | a :: l,_,⟨v,vs,e,r,s⟩,u=>⟨v,vs,e,VRel.ren h a _ r u.1,VRels.ren h l _ s u.2⟩
end
mutual
theorem AV.allN_mono {p q:Nat->Prop} (h:∀ i,p i->q i):∀ (a:AV),a.allN p->a.allN q
 | .ptr i _,u=>h i u
 | .slice i _ _ _,u=>h i u
 | .gslice i _ _ _,u=>h i u
 | .func _ fs cs,u=>⟨AV.allNL_mono h fs u.1,AV.allNL_mono h cs u.2⟩
 | .yield l,u=>h l u
 | .iface _ v,u=>AV.allN_mono h v u
 | .map i,u=>h i u
 | .vslice i _,u=>h i u
 | .pslice i _ _ _,u=>h i u
 | .lslice i _,u=>h i u
 | .islice _ i _ _,u=>h i u
 | .panic v,u=>AV.allN_mono h v u
 | .vptr i _,u=>h i u
 | .agg l,u=>AV.allNL_mono h l u
 | .tuple l,u=>AV.allNL_mono h l u
 | .any _,_=>trivial
 | .bool _ _,_=>trivial
 | .int _ _ _,_=>trivial
 | .str _ _,_=>trivial
 | .nil,_=>trivial
 | .nilslice,_=>trivial
 | .eslice _,_=>trivial
 | .nilfunc,_=>trivial
 | .niliface,_=>trivial
 | .nilmap,_=>trivial
theorem AV.allNL_mono {p q:Nat->Prop} (h:∀ i,p i->q i):∀ (l:List AV),AV.allNL p l->AV.allNL q l
 | [],_=>trivial
 | a :: l,u=>⟨AV.allN_mono h a u.1,AV.allNL_mono h l u.2⟩
end
structure Refd (n:Nat) (acc l:List Nat) (P:(Nat->Prop)->Prop):Prop where
 sub:∀ i,i∈acc->i∈l
 all:P fun i=>i<n\/i∈l
 nd:acc.Nodup->l.Nodup
 ge:(∀ i∈acc,n<=i)->∀ i∈l,n<=i
theorem fV (n i:Nat) (acc:List Nat):Refd n acc (bif Nat.blt i n||acc.elem i then acc else acc++[i]) (fun p=>p i):=by
 cases h:Nat.blt i n||acc.elem i with
 | true=>
  refine ⟨fun _ h=>h,?_,id,id⟩
  simp only [Bool.or_eq_true,Nat.blt_eq,List.elem_eq_mem,decide_eq_true_eq] at h
  exact h
 | false=>
  simp only [Bool.or_eq_false_iff,List.elem_eq_mem,decide_eq_false_iff_not] at h
  refine ⟨fun j hj=>?_,?_,fun hd=>?_,fun hg j hj=>?_⟩
  .simp [hj]
  .right; simp
  .simp only [cond_false]
   rw [List.nodup_append]
   refine ⟨hd,by simp,?_⟩
   intro a ha b hb
   simp only [List.mem_singleton] at hb
   subst hb
   intro e; subst e; exact h.2 ha
  .simp only [cond_false,List.mem_append,List.mem_singleton] at hj
   rcases hj with hj|rfl
   .exact hg j hj
   .have h2:¬ j<n:=fun e=>by have:=MK e; rw [h.1] at this; cases this
    omega
theorem dN (n:Nat) (acc:List Nat):Refd n acc acc (fun _=>True):=⟨fun _ h=>h,trivial,id,id⟩
theorem Refd.two {n:Nat} {acc l m:List Nat} {P Q:(Nat->Prop)->Prop} (x:Refd n acc l P) (y:Refd n l m Q) (mono:∀ p q:Nat->Prop,(∀ i,p i->q i)->P p->P q):Refd n acc m (fun p=>P p/\Q p):=
 ⟨fun i h=>y.sub i (x.sub i h),⟨mono _ _ (fun i h=>h.imp id (y.sub i)) x.all,y.all⟩,fun h=>y.nd (x.nd h),fun h=>y.ge (x.ge h)⟩
mutual
theorem wR (n:Nat):∀ (acc:List Nat) (a:AV),Refd n acc (AV.refs n acc a) (fun p=>a.allN p)
 | acc,.ptr i _=>fV n i acc
 | acc,.slice i _ _ _=>fV n i acc
 | acc,.gslice i _ _ _=>fV n i acc
 | acc,.func _ fs cs=>(oz n acc fs).two (oz n _ cs) fun _ _ h=>AV.allNL_mono h fs
 | acc,.yield l=>fV n l acc
 | acc,.iface _ v=>wR n acc v
 | acc,.map i=>fV n i acc
 | acc,.vslice i _=>fV n i acc
 | acc,.pslice i _ _ _=>fV n i acc
 | acc,.lslice i _=>fV n i acc
 | acc,.islice _ i _ _=>fV n i acc
 | acc,.panic v=>wR n acc v
 | acc,.vptr i _=>fV n i acc
 | acc,.agg l=>oz n acc l
 | acc,.tuple l=>oz n acc l
 | acc,.any _=>dN n acc
 | acc,.bool _ _=>dN n acc
 | acc,.int _ _ _=>dN n acc
 | acc,.str _ _=>dN n acc
 | acc,.nil=>dN n acc
 | acc,.nilslice=>dN n acc
 | acc,.eslice _=>dN n acc
 | acc,.nilfunc=>dN n acc
 | acc,.niliface=>dN n acc
 | acc,.nilmap=>dN n acc
theorem oz (n:Nat):∀ (acc:List Nat) (l:List AV),Refd n acc (AV.refsL n acc l) (fun p=>AV.allNL p l)
 | acc,[]=>dN n acc
 | acc,a :: l=>(wR n acc a).two (oz n _ l) fun _ _ h=>AV.allN_mono h a
end
mutual
theorem AV.ren_id:∀ (a:AV),a.ren id=a
 | .ptr i _=>rfl
 | .slice i _ _ _=>rfl
 | .gslice i _ _ _=>rfl
 | .func _ fs cs=>by simp [AV.ren,AV.renL_id fs,AV.renL_id cs]
 | .yield l=>rfl
 | .iface _ v=>by simp [AV.ren,AV.ren_id v]
 | .map i=>rfl
 | .vslice i _=>rfl
 | .pslice i _ _ _=>rfl
 | .lslice i _=>rfl
 | .islice _ i _ _=>rfl
 | .panic v=>by simp [AV.ren,AV.ren_id v]
 | .vptr i _=>rfl
 | .agg l=>by simp [AV.ren,AV.renL_id l]
 | .tuple l=>by simp [AV.ren,AV.renL_id l]
 | .any _=>rfl
 | .bool _ _=>rfl
 | .int _ _ _=>rfl
 | .str _ _=>rfl
 | .nil=>rfl
 | .nilslice=>rfl
 | .eslice _=>rfl
 | .nilfunc=>rfl
 | .niliface=>rfl
 | .nilmap=>rfl
theorem AV.renL_id:∀ (l:List AV),AV.renL id l=l
 | []=>rfl
 | a :: l=>by simp [AV.renL,AV.ren_id a,AV.renL_id l]
end
theorem Ak {n:Nat}:∀ (l:List AT),Cb n l=AV.underL n (l.map (·.v))
 | []=>rfl
 | a :: l=>by simp [Cb,AV.underL,Ak l]
theorem BRel.under {σ:Sg} {n N:Nat} {w c:Nat} {b:ABody} {o:Obj} (h:BRel σ N b o) (hp:gY ⟨w,b⟩ c n=true) (hw:c<=w):BRel (σ.low n) N b o:=by
 unfold gY at hp
 split at hp
 .rename_i h1; have:=jA h1; simp only at this; omega
 .cases b with
  | dead=>trivial
  | cells l=>obtain ⟨K,e,k1,k2,k3⟩:=h; exact ⟨K,e,k1,VRels.low _ _ k2 hp,k3⟩
  | grown l=>obtain ⟨K,e,X,Y,k1,k2,k3,k4⟩:=h; exact ⟨K,e,X,Y,k1,k2,VRels.low _ _ k3 hp,k4⟩
  | ints q xs=>exact h
  | map es=>cases hp
  | view l=>cases hp
  | hold l=>cases hp
  | rows k xs=>exact h
  | loop r=>
   simp only [Bool.and_eq_true,Nat.blt_eq,Ak] at hp
   obtain ⟨L,k1,k2,k3,k4,k5,k6,k7,k8,M,k9⟩:=h
   exact ⟨L,k1,k2,k3,k4,VRels.low _ _ k5 hp.2,k6,k7,k8,M,by simp [Sg.low,hp.1,k9]⟩
  | defers t=>exact h
theorem sQ {c n:Nat}:∀ {l:List ABlk},nY c n l=true->∀ (j:Nat) (b:ABlk),l[j]?=some b->gY b c n=true
 | [],_,j,b,h=>by simp at h
 | a :: l,hp,0,b,h=>by
  simp only [nY,Bool.and_eq_true] at hp
  simp only [List.getElem?_cons_zero,Option.some.injEq] at h
  subst h; exact hp.1
 | a :: l,hp,j+1,b,h=>by
  simp only [nY,Bool.and_eq_true] at hp
  exact sQ hp.2 j b (by simpa using h)
theorem Al {h:Hp} {n:Nat}:∀ {ids:List Nat} {acc l:List ABlk},pick h n ids acc=some l->∃ m:List ABlk,l=m.reverse++acc/\m.length=ids.length /\
  ∀ (j i:Nat),ids[j]?=some i->∃ b:ABlk,m[j]?=some b/\h.get i=some b/\gY ⟨h.clock,b.body⟩ h.clock n=true
 | [],acc,l,e=>by cases e; exact ⟨[],rfl,rfl,fun j i h=>(by simp at h)⟩
 | i :: ids,acc,l,e=>by
  have key:∀ b:ABlk,h.get i=some b->gY ⟨h.clock,b.body⟩ h.clock n=true->pick h n ids (b :: acc)=some l->∃ m:List ABlk,l=m.reverse++acc/\m.length=(i :: ids).length /\
    ∀ (j i':Nat),(i :: ids)[j]?=some i'->∃ b:ABlk,m[j]?=some b/\h.get i'=some b/\gY ⟨h.clock,b.body⟩ h.clock n=true:=by
   intro b hb hp e
   obtain ⟨m,h1,h2,h3⟩:=Al e
   refine ⟨b :: m,by simp [h1],by simp [h2],fun j i' hj=>?_⟩
   cases j with
   | zero=>simp only [List.getElem?_cons_zero,Option.some.injEq] at hj; subst hj; exact ⟨b,rfl,hb,hp⟩
   | succ j=>simpa using h3 j i' (by simpa using hj)
  have hc:Nat.blt h.clock h.clock=false:=by
   rw [Bool.eq_false_iff]; intro e; have:=jA e; omega
  simp only [pick] at e
  split at e
  .rename_i w m hg
   split at e
   .rename_i hu; exact key _ hg (by simp [gY,hc,hu]) e
   .cases e
  .rename_i w m hg
   split at e
   .rename_i hu; exact key _ hg (by simp [gY,hc,hu]) e
   .cases e
  .rename_i w k m hg
   exact key _ hg (by simp [gY,hc]) e
  .rename_i w k m hg
   exact key _ hg (by simp [gY,hc]) e
  .cases e
theorem yh {σ τ:Sg} {h0 h1:Hp} {W X:World} (r0:HRel σ h0 W) (r1:HRel τ h1 X) (g:Good σ h0 W τ h1 X) {v:AV} {V:Value} (hv:VRel τ v V):
  ∃ υ,VRel υ (gc h0.size h0.clock v h1).1 V/\HRel υ (gc h0.size h0.clock v h1).2 X/\Good σ h0 W υ (gc h0.size h0.clock v h1).2 X:=by
 unfold gc
 split
 .exact ⟨τ,hv,r1,g⟩
 .simp only
  split
  .rename_i hpl
   have hle:=g.mon.size
   have hold:∀ i,i<h0.size->(aP (h1.size - h0.size) h1.blks)[h0.size - 1 - i]?=h1.get i:=by
    intro i hi
    rw [gZ,List.getElem?_drop,Hp.get_eq,if_pos (by omega)]
    congr 1; omega
   have hlen:(aP (h1.size - h0.size) h1.blks).length=h0.size:=by
    rw [gZ,List.length_drop,r1.ok]; omega
   have hdom:∀ i B N,σ i=some (B,N)->i<h0.size:=fun i B N e=>(r0.dom i B N e).1
   have hblk:∀ i b,i<h0.size->h1.get i=some b->b.body.isDead=false->∃ B N o,τ i=some (B,N)/\X.heap[B]?=some o/\BRel (τ.low h0.size) N b.body o:=by
    intro i b hi hb hd
    obtain ⟨B,N,o,q1,q2,q3⟩:=r1.blk i b hb hd
    refine ⟨B,N,o,q1,q2,?_⟩
    obtain ⟨b0,hb0⟩:=Hp.get_some r0.ok hi
    by_cases hw:h0.clock<=b.wr
    .have:=sQ hpl (h0.size - 1 - i) b (by rw [hold i hi]; exact hb)
     exact BRel.under q3 this hw
    .have hbb:b=b0:=(g.mon.same i b0 b hb0 hb).resolve_right hw
     subst hbb
     obtain ⟨B',N',o',_,_,q6⟩:=r0.blk i b hb0 hd
     exact BRel.names hdom g.sub q6 q3
   have general:∀ (ids:List Nat) (l:List ABlk),Refd h0.size [] ids (fun p=>v.allN p)->pick h1 h0.size ids (aP (h1.size - h0.size) h1.blks)=some l ->
     ∃ υ,VRel υ (AV.ren (qy h0.size ids) v) V/\HRel υ ⟨l,h0.size+ids.length,h1.clock⟩ X/\Good σ h0 W υ ⟨l,h0.size+ids.length,h1.clock⟩ X/\(ids=[]->υ=τ.low h0.size):=by
    intro ids l hr hpk
    obtain ⟨m,rfl,hm,hms⟩:=Al hpk
    have hids:∀ j,j<ids.length->∃ i,ids[j]?=some i/\h0.size<=i/\i<h1.size:=by
     intro j hj
     obtain ⟨b,_,h2,_⟩:=hms j ids[j] (List.getElem?_eq_getElem hj)
     exact ⟨ids[j],List.getElem?_eq_getElem hj,hr.ge (by simp) _ (List.getElem_mem hj),Hp.get_lt h2⟩
    have hnd:=hr.nd (by simp)
    let υ:Sg:=fun i=>if i<h0.size then τ i else match ids[i - h0.size]? with|some j=>τ j|none=>none
    have hlow:Sub (τ.low h0.size) υ:=by
     intro i x e
     obtain ⟨h2,h3⟩:=mU e
     simp [υ,h2,h3]
    have hυ:∀ i x,υ i=some x->(i<h0.size/\τ i=some x)\/(h0.size<=i/\∃ j,ids[i - h0.size]?=some j/\τ j=some x):=by
     intro i x e
     simp only [υ] at e
     split at e
     .exact .inl ⟨by assumption,e⟩
     .rename_i hi
      right
      refine ⟨by omega,?_⟩
      split at e
      .rename_i j hj; exact ⟨j,hj,e⟩
      .cases e
    have hget:∀ i,(⟨m.reverse++aP (h1.size - h0.size) h1.blks,h0.size+ids.length,h1.clock⟩:Hp).get i=if i<h0.size then h1.get i else m[i - h0.size]?:=by
     intro i
     rw [Hp.get_eq]
     simp only
     by_cases hi:i<h0.size
     .rw [if_pos (by omega),if_pos hi,<- hold i hi,List.getElem?_append_right (by simp; omega)]
      congr 1; simp; omega
     .rw [if_neg hi]
      by_cases hj:i<h0.size+ids.length
      .rw [if_pos hj,List.getElem?_append_left (by simp; omega),List.getElem?_reverse (by omega)]
       congr 1; omega
      .rw [if_neg hj,List.getElem?_eq_none (by omega)]
    have hold2:∀ i B N,υ i=some (B,N)->h0.size<=i->B<W.heap.size->False\/∃ j M c,j<h0.size/\σ j=some (B,M)/\(⟨m.reverse++aP (h1.size - h0.size) h1.blks,h0.size+ids.length,h1.clock⟩:Hp).get j=some c/\h0.clock<=c.wr:=by
     intro i B N e hi hB
     rcases hυ i _ e with ⟨h2,_⟩|⟨_,j,h2,h3⟩
     .omega
     .obtain ⟨i',q1,q2,_⟩:=hids (i - h0.size) (List.getElem?_eq_some_iff.1 h2).1
      rw [h2] at q1; cases q1
      obtain ⟨j',M,c,p1,p2,p3,p4⟩:=(g.old j B N h3 q2 hB).resolve_left id
      exact .inr ⟨j',M,c,p1,p2,by rw [hget,if_pos p1]; exact p3,p4⟩
    have hrel:HRel υ ⟨m.reverse++aP (h1.size - h0.size) h1.blks,h0.size+ids.length,h1.clock⟩ X:=by
     refine ⟨by simp [Hp.ok,hlen,hm]; omega,fun i b hb hd=>?_,fun i B N e=>?_,fun i j b c B N M q1 q2 q3 q4 q5 q6=>?_⟩
     .rw [hget] at hb
      split at hb
      .rename_i hi
       obtain ⟨B,N,o,p1,p2,p3⟩:=hblk i b hi hb hd
       exact ⟨B,N,o,by simp [υ,hi,p1],p2,BRel.mono hlow p3⟩
      .rename_i hi
       have hlt:i - h0.size<ids.length:=by
        have:=(List.getElem?_eq_some_iff.1 hb).1; omega
       obtain ⟨b',p1,p2,p3⟩:=hms (i - h0.size) _ (List.getElem?_eq_getElem hlt)
       rw [hb] at p1; cases p1
       obtain ⟨B,N,o,s1,s2,s3⟩:=r1.blk _ b p2 hd
       refine ⟨B,N,o,by simp [υ,hi,hlt,s1],s2,BRel.mono hlow (BRel.under s3 p3 (Nat.le_refl _))⟩
     .rcases hυ i _ e with ⟨h2,h3⟩|⟨h2,j,h3,h4⟩
      .exact ⟨by simp only; omega,(r1.dom _ _ _ h3).2⟩
      .have:=(List.getElem?_eq_some_iff.1 h3).1
       exact ⟨by simp only; omega,(r1.dom _ _ _ h4).2⟩
     .-- two numbers of one block
      have back:∀ i b B N,(⟨m.reverse++aP (h1.size - h0.size) h1.blks,h0.size+ids.length,h1.clock⟩:Hp).get i=some b->υ i=some (B,N)->∃ i',h1.get i'=some b/\τ i'=some (B,N)/\((i<h0.size/\i'=i)\/(h0.size<=i/\h0.size<=i'/\ids[i - h0.size]?=some i')):=by
       intro i b B N hb hi
       rw [hget] at hb
       rcases hυ i _ hi with ⟨h2,h3⟩|⟨h2,j,h3,h4⟩
       .rw [if_pos h2] at hb
        exact ⟨i,hb,h3,.inl ⟨h2,rfl⟩⟩
       .rw [if_neg (by omega)] at hb
        obtain ⟨b',p1,p2,_⟩:=hms _ j h3
        rw [hb] at p1; cases p1
        exact ⟨j,p2,h4,.inr ⟨h2,hr.ge (by simp) _ (List.mem_of_getElem? h3),h3⟩⟩
      obtain ⟨i',a1,a2,a3⟩:=back i b B N q1 q5
      obtain ⟨j',b1,b2,b3⟩:=back j c B M q2 q6
      rcases r1.inj i' j' b c B N M a1 b1 q3 q4 a2 b2 with hij|hij
      case inr=>exact .inr hij
      left
      subst hij
      rcases a3 with ⟨_,rfl⟩|⟨c1,c2,c3⟩ <;> rcases b3 with ⟨_,d2⟩|⟨d1,d2,d3⟩
      .exact d2
      .omega
      .omega
      .have l1:=(List.getElem?_eq_some_iff.1 c3)
       have l2:=(List.getElem?_eq_some_iff.1 d3)
       obtain ⟨l1,l1'⟩:=l1
       obtain ⟨l2,l2'⟩:=l2
       have:=(List.getElem_inj hnd (h₀:=l1) (h₁:=l2)).1 (by rw [l1',l2'])
       omega
    refine ⟨υ,?_,hrel,⟨?_,?_,g.ext,⟨g.mon.clock,by simp only; omega,?_,?_⟩,hold2,?_⟩,?_⟩
    .refine VRel.ren (p:=fun i=>i<h0.size\/i∈ids) ?_ v V hv hr.all
     intro i x hp hx
     unfold qy
     by_cases hi:i<h0.size
     .have:Nat.blt i h0.size=true:=MK hi
      simp [this,υ,hi,hx]
     .have hb:Nat.blt i h0.size=false:=by rw [Bool.eq_false_iff]; intro e; exact hi (jA e)
      have hmem:=hp.resolve_left hi
      simp only [hb,cond_false,aF]
      have hlt:ids.idxOf i<ids.length:=List.idxOf_lt_length_iff.2 hmem
      have:ids[ids.idxOf i]?=some i:=by rw [List.getElem?_eq_getElem hlt,List.getElem_idxOf hlt]
      have hn:¬ h0.size+ids.idxOf i<h0.size:=by omega
      simp only [υ,hn,if_false,Nat.add_sub_cancel_left,this,hx]
    .intro i x e
     have:=g.sub _ _ e
     have hi:=hdom i _ _ e
     simp [υ,hi,this]
    .intro i x e hi
     rcases hυ i _ e with ⟨_,h3⟩|⟨h2,_⟩
     .exact g.only i x h3 hi
     .omega
    .intro i b c h2 h3
     rw [hget,if_pos (Hp.get_lt h2)] at h3
     exact g.mon.same i b c h2 h3
    .intro i w c h2
     rw [hget,if_pos (Hp.get_lt h2)]
     exact g.mon.loop i w c h2
    .intro B hB hH hw
     refine g.keep B hB hH fun i N c h2 h3=>hw i N c h2 ?_
     rw [hget,if_pos (hdom _ _ _ h2)]; exact h3
    .rintro rfl
     funext i
     by_cases hi:i<h0.size
     .simp only [υ,Sg.low,hi,if_true]
     .simp only [υ,Sg.low,hi,if_false,List.getElem?_nil]
   have href:=wR h0.size [] v
   split
   .rename_i hnil
    rw [hnil] at href
    obtain ⟨υ,g1,g2,g3,g4⟩:=general [] _ href rfl
    refine ⟨υ,?_,g2,g3⟩
    rw [g4 rfl]
    have:=VRel.ren (σ:=τ) (τ:=τ.low h0.size) (p:=fun i=>i<h0.size\/i∈[]) (ρ:=id) ?_ v V hv href.all
    .rwa [AV.ren_id] at this
    .intro i x hp hx
     simp at hp
     simp [Sg.low,hp,hx]
   .split
    .rename_i l hl
     obtain ⟨υ,g1,g2,g3,g4⟩:=general _ _ href hl
     exact ⟨υ,g1,g2,g3⟩
    .exact ⟨τ,hv,r1,g⟩
  .exact ⟨τ,hv,r1,g⟩
end Go.Eng
namespace Go.Eng
def mY (l:List CEnt):Prop:=l.filter (fun e=>e.g.val)=[]
theorem iR {l:List CEnt} {e:CEnt} (h:e.g.val=true) (k:mY l):fM (e :: l) e:=by
 unfold fM mY at *; simp [h,k]
theorem iT {l:List CEnt} {e f:CEnt} (h:e.g.val=false) (k:fM l f):fM (e :: l) f:=by
 unfold fM at *; simp [h,k]
theorem jX {l:List CEnt} {e:CEnt} (h:e.g.val=false) (k:mY l):mY (e :: l):=by
 unfold mY at *; simp [h,k]
theorem kz {l:List CEnt} {a e:CEnt} (h:fM (a :: l) e):(a.g.val=true/\a=e/\mY l)\/(a.g.val=false/\fM l e):=by
 unfold fM mY at *
 simp only [List.filter_cons] at h
 cases ha:a.g.val with
 | true=>rw [ha] at h; simp at h; exact .inl ⟨rfl,h.1,by simpa using h.2⟩
 | false=>rw [ha] at h; exact .inr ⟨rfl,by simpa using h⟩
theorem kC {l:List CEnt} {a:CEnt} (h:mY (a :: l)):a.g.val=false/\mY l:=by
 unfold mY at *
 simp only [List.filter_cons] at h
 cases ha:a.g.val with
 | true=>rw [ha] at h; simp at h
 | false=>rw [ha] at h; exact ⟨rfl,by simpa using h⟩
def wS (s0:St) (Q:AV->Hp->Prop):Prop:=∀ (pt g:Bool) (a b c:CEnt),GJ pt s0 g a b=some c->(g=true->Q a.v a.hp)->(g=false->Q b.v b.hp)->Q c.v c.hp
def zP (Q:AV->Hp->Prop) (l:List CEnt):Prop:=∃ e,fM l e/\Q e.v e.hp
theorem qY {pt:Bool} {s0:St} {Q:AV->Hp->Prop} (cl:wS s0 Q) {e:CEnt} (he:e.g.val=false):∀ {l:List CEnt},(zP Q l->zP Q (GK pt s0 e l))/\(mY l->mY (GK pt s0 e l))
 | []=>⟨fun ⟨f,h,_⟩=>by simp [fM] at h,fun _=>jX he rfl⟩
 | a :: l=>by
  obtain ⟨i1,i2⟩:=qY (pt:=pt) cl he (l:=l)
  simp only [GK,G.on_eq]
  split
  .rename_i c hc
   rw [he] at hc
   refine ⟨fun ⟨f,h,hq⟩=>?_,fun h=>?_⟩
   .rcases kz h with ⟨h1,rfl,h3⟩|⟨h1,h2⟩
    .have hQ:=cl _ _ _ _ _ hc (fun h=>by cases h) fun _=>hq
     exact ⟨_,iR (by simp [h1]) h3,hQ⟩
    .exact ⟨f,iT (by simp [h1,he]) h2,hq⟩
   .obtain ⟨h1,h2⟩:=kC h
    exact jX (by simp [h1,he]) h2
  .refine ⟨fun ⟨f,h,hq⟩=>?_,fun h=>?_⟩
   .rcases kz h with ⟨h1,rfl,h3⟩|⟨h1,h2⟩
    .exact ⟨a,iR h1 (i2 h3),hq⟩
    .obtain ⟨f',q1,q2⟩:=i1 ⟨f,h2,hq⟩
     exact ⟨f',iT h1 q1,q2⟩
   .obtain ⟨h1,h2⟩:=kC h
    exact jX h1 (i2 h2)
theorem yj {pt:Bool} {s0:St} {Q:AV->Hp->Prop} (cl:wS s0 Q) {e:CEnt} (he:e.g.val=true) (hq:Q e.v e.hp):∀ {l:List CEnt},mY l->zP Q (GK pt s0 e l)
 | [],_=>⟨e,iR he rfl,hq⟩
 | a :: l,h=>by
  obtain ⟨h1,h2⟩:=kC h
  simp only [GK,G.on_eq]
  split
  .rename_i c hc
   rw [he] at hc
   have hQ:=cl _ _ _ _ _ hc (fun _=>hq) fun h=>by cases h
   exact ⟨_,iR (by simp [he]) h2,hQ⟩
  .obtain ⟨f',q1,q2⟩:=yj cl he hq h2
   exact ⟨f',iT h1 q1,q2⟩
theorem pU {pt:Bool} {s0:St} {Q:AV->Hp->Prop} (cl:wS s0 Q):∀ {l:List CEnt},(zP Q l->zP Q (xK pt s0 l))/\(mY l->mY (xK pt s0 l))
 | []=>⟨id,id⟩
 | a :: l=>by
  obtain ⟨i1,i2⟩:=pU (pt:=pt) cl (l:=l)
  simp only [xK]
  refine ⟨fun ⟨f,h,hq⟩=>?_,fun h=>?_⟩
  .rcases kz h with ⟨h1,rfl,h3⟩|⟨h1,h2⟩
   .exact yj cl h1 hq (i2 h3)
   .exact (qY cl h1).1 (i1 ⟨f,h2,hq⟩)
  .obtain ⟨h1,h2⟩:=kC h
   exact (qY cl h1).2 (i2 h2)
theorem uP {Q:AV->Hp->Prop} {l:List CEnt} (h:zP Q l):zP Q (D5 l):=by
 obtain ⟨e,h1,h2⟩:=h
 unfold D5
 split
 .rename_i f
  rcases kz h1 with ⟨_,rfl,_⟩|⟨_,h3⟩
  .exact ⟨_,rfl,h2⟩
  .simp [fM] at h3
 .exact ⟨e,h1,h2⟩
def Jf (σ:Sg) (h:Hp) (W:World) (A:Bool->Value->World->Prop):AV->Hp->Prop:=
 fun v h'=>∃ τ V X,VRel τ v V/\HRel τ h' X/\Good σ h W τ h' X/\A v.isPanic V X
theorem Ey {a b:Bool} (h:Mc a b=true):a=b:=by
 cases a <;> cases b <;> first|rfl|cases h
theorem mZ {σ:Sg} {h:Hp} {W:World} (r:HRel σ h W) (A:Bool->Value->World->Prop):wS ⟨[⟨0,aS⟩],[],h⟩ (Jf σ h W A):=by
 intro pt g a b c hc ha hb
 unfold GJ at hc
 simp only at hc
 split at hc
 .cases hc
 rename_i hab
 simp only [Bool.and_eq_true] at hab
 have hab:=Ey hab.1
 split at hc
 .rename_i t ds h' hm
  split at hc
  case h_2=>cases hc
  rename_i hta
  have hta:=Ey hta
  cases hc
  have r0:SRel σ ⟨[⟨0,aS⟩],[],h⟩ #[undef] [] W:=⟨⟨undef,[],rfl,⟨#[],rfl,rfl⟩,rfl⟩,rfl,r⟩
  have st:∀ (v:AV) (k:Hp) (τ:Sg) (V:Value) (X:World),VRel τ v V->HRel τ k X->Good σ h W τ k X->SRel τ ⟨[⟨h.clock,v⟩],[],k⟩ #[V] [] X/\Step σ ⟨[⟨0,aS⟩],[],h⟩ W τ ⟨[⟨h.clock,v⟩],[],k⟩ X:=by
   intro v k τ V X h1 h2 h3
   refine ⟨⟨⟨V,[],rfl,h1,rfl⟩,rfl,h2⟩,⟨h3,⟨rfl,fun t x hx=>.inr ?_⟩⟩⟩
   cases t with
   | zero=>cases hx; exact Nat.le_refl _
   | succ t=>simp at hx
  cases g with
  | true=>
   obtain ⟨τ,V,X,h1,h2,h3,h4⟩:=ha rfl
   obtain ⟨p1,p2⟩:=st _ _ τ V X h1 h2 h3
   obtain ⟨υ,q1,q2⟩:=vT r0 hm (fun _=>⟨p1,p2⟩) (fun h=>by cases h)
   obtain ⟨V',_,e1,e2,_⟩:=q1.t
   cases e1
   exact ⟨υ,V,X,e2,q1.h,q2.good,by rw [hta]; exact h4⟩
  | false=>
   obtain ⟨τ,V,X,h1,h2,h3,h4⟩:=hb rfl
   obtain ⟨p1,p2⟩:=st _ _ τ V X h1 h2 h3
   obtain ⟨υ,q1,q2⟩:=vT r0 hm (fun h=>by cases h) (fun _=>⟨p1,p2⟩)
   obtain ⟨V',_,e1,e2,_⟩:=q1.t
   cases e1
   exact ⟨υ,V,X,e2,q1.h,q2.good,by rw [hta,hab]; exact h4⟩
 .cases hc
def Base.back (b:Base) (T:Array Value) (D:List Deferred) (todo:List Item):Frame:=
 { fn:=b.fn,tmps:=T,todo,defers:=D,mode:=.returning,kind:=b.kind,roundOf:=b.round }
section leaving
variable {P:Program} {b:Base} {T:Array Value} {D:List Deferred} {k:List Item} {cs:List Frame} {W:World}
theorem Jg (hb:b.round=none):step P (lone (b.fr T D []) cs W)=.next (lone (b.back T D []) cs W):=
 step_lone_go (by simp [stepG,stepG.exec,Base.fr,Base.back,hb])
theorem ML (hb:b.round=none):step P (lone (b.fr T D (.code .ret :: k)) cs W)=.next (lone (b.back T D (.code .ret :: k)) cs W):=
 step_lone_go (by simp [stepG,stepG.exec,Base.fr,Base.back,hb])
theorem MN {B:Nat} {E:List Deferred} (h:W.heap[B]?=some (.deferred (some []))):
  step P (lone (b.back T ({ target:=.collected B,args:=#[] } :: E) k) cs W)=.next (lone (b.back T E k) cs { W with heap:=W.heap.setIfInBounds B (.deferred none) }):=by
 have hr:(Instr.takeDeferred B).run P W=.ok [] { W with heap:=W.heap.setIfInBounds B (.deferred none) }:=by
  have hget:(getObj B).run P W=.ok (.deferred (some [])) W:=by simp only [getObj,Sem.run,h]
  have hset:(setObj B (.deferred none)).run P W=.ok () { W with heap:=W.heap.setIfInBounds B (.deferred none) }:=by simp only [setObj,Sem.run,h,Option.isSome_some,if_true]
  simp only [Instr.takeDeferred,Sem.run_bind,hget,Result.andThen_ok,hset,Sem.run_pure]
 exact step_lone_go (by simp [stepG,unwind,Base.back,hr])
end leaving
theorem ym {P:Program} {b:Base} {T:Array Value} {k:List Item} {cs:List Frame}:∀ {ds:List ADef} {h h':Hp},pI ds h=some h'->∀ {σ:Sg} {D:List Deferred} {W:World},DRel σ ds D->HRel σ h W ->
  ∃ X,Steps P (lone (b.back T D k) cs W) (lone (b.back T [] k) cs X)/\HRel σ h' X/\Good σ h W σ h' X
 | [],h,h',e,σ,D,W,hd,hr=>by
  cases e
  rw [show D=[] from hd]
  exact ⟨W,.refl _ _,hr,Good.refl σ h W fun i B N h=>(hr.dom i B N h).1⟩
 | .call _ _ :: _,_,_,e,_,_,_,_,_=>by cases e
 | .collected i :: ds,h,h',e,σ,D,W,⟨B,N,E,h1,h2,h3⟩,hr=>by
  simp only [pI] at e
  split at e
  .rename_i w hg
   rw [Hp.set_eq] at e
   obtain ⟨B',N',o,q1,q2,q3⟩:=hr.blk i _ hg rfl
   rw [h1] at q1; cases q1
   have ho:o=.deferred (some []):=by simpa [BRel] using q3
   subst ho
   have hlt:B<W.heap.size:=(Array.getElem?_eq_some_iff.1 q2).1
   obtain ⟨r1,g1⟩:=hr.write (V:={ W with heap:=W.heap.setIfInBounds B (.deferred none) }) hg rfl h1 (.defers true) (jm fun c h=>by cases h) (.deferred none)
    (by simp [hlt]) (by simp [BRel]) (by simp) (fun k hk=>by simp [Array.getElem?_setIfInBounds,Ne.symm hk]) rfl rfl rfl
   obtain ⟨X,p1,p2,p3⟩:=ym (P:=P) (b:=b) (T:=T) (k:=k) (cs:=cs) e h3 r1
   exact ⟨X,.head (by rw [h2]; exact MN q2) p1,p2,g1.trans r1.ok p2.ok p3⟩
  .cases e
def Jh (T:Array Value):ResultVar->Sem Value
 | .tmp t=>pure (T.getD t undef)
 | .cell a t=>do loadVar t (<- asAddr (T.getD a undef))
theorem Ct {P:Program} {σ:Sg} {tm:List AT} {h:Hp} {T:Array Value} {W:World} (ht:TRel σ tm T) (hr:HRel σ h W):∀ {l:List ResultVar} {nd:Nd} {vs:List AV},zK P tm h l=some (nd,vs)->nd.val ->
  ∃ VS:List Value,(l.mapM (Jh T)).run P W=.ok VS W/\VRels σ vs VS
 | [],nd,vs,e,hn=>by cases e; exact ⟨[],by simp,rfl⟩
 | .tmp t :: l,nd,vs,e,hn=>by
  simp only [zK] at e
  split at e
  .cases e
  .rename_i a ha
   split at e
   .cases e
   .rename_i m r hm
    cases e
    obtain ⟨VS,h1,h2⟩:=Ct ht hr hm hn
    obtain ⟨V,h3,h4⟩:=ht.nth ha
    have:T.getD t undef=V:=by
     simp only [Array.getD_eq_getD_getElem?,h3,Option.getD_some]
    exact ⟨V :: VS,by simp only [List.mapM_cons,Jh,this,Sem.run_bind,Sem.run_pure,Result.andThen_ok,h1],V,VS,rfl,h4,h2⟩
 | .cell a t :: l,nd,vs,e,hn=>by
  simp only [zK] at e
  split at e
  .cases e
  .rename_i x ha
   split at e
   .cases e
   .rename_i m y hl
    split at e
    .cases e
    .rename_i nd' r hm
     cases e
     obtain ⟨VS,h1,h2⟩:=Ct ht hr hm (Nd.rv hn)
     obtain ⟨V,h3,h4⟩:=ht.nth ha
     have hT:T.getD a undef=V:=by
      simp only [Array.getD_eq_getD_getElem?,h3,Option.getD_some]
     obtain ⟨B,off,Y,rfl,h5,h6⟩:=I6 hr h4 hl (Nd.lv hn)
     refine ⟨Y :: VS,?_,Y,VS,rfl,h6,h2⟩
     simp only [List.mapM_cons,Jh,hT,asAddr,Sem.run_bind,Sem.run_pure,Result.andThen_ok,h5,h1]
theorem SA {σ:Sg} {vs:List AV} {VS:List Value} (h:VRels σ vs VS):VRel σ (tup vs) (if h:VS.toArray.size=1 then VS.toArray[0] else .tuple VS.toArray):=by
 unfold tup
 split
 .obtain ⟨v,_,rfl,h1,rfl⟩:=h
  simpa using h1
 .rename_i hne
  have:VS.toArray.size≠1:=by
   intro e
   have:=h.length
   simp only [List.size_toArray] at e
   rw [e] at this
   match vs,this with
   | [v],_=>exact hne v rfl
  rw [dif_neg this]
  exact ⟨_,rfl,by simpa using h⟩
theorem yn {P:Program} {σ:Sg} {s:St} {T:Array Value} {W:World} {h:Hp} (ht:TRel σ s.tmps T) (hr:HRel σ h W) {fn:Func} {nd:Nd} {vs:List AV} (e:zK P s.tmps h fn.results.toList=some (nd,vs)) (hn:nd.val):
  ∃ V,(results fn T).run P W=.ok V W/\VRel σ (tup vs) V:=by
 obtain ⟨VS,h1,h2⟩:=Ct ht hr e hn
 refine ⟨_,?_,SA h2⟩
 have hf:results fn T=(do let vs<-fn.results.mapM (Jh T); pure (if h:vs.size=1 then vs[0] else .tuple vs)):=by
  unfold results
  congr 1
 rw [hf,Array.mapM_eq_mapM_toList]
 simp only [bind_assoc,map_eq_pure_bind,Sem.run_bind,h1,Result.andThen_ok,pure_bind,Sem.run_pure]
theorem yo:∀ (l:List AV),(DZ l).map (·.v)=l
 | []=>rfl
 | a :: l=>by simp [DZ,yo l]
theorem qZ {σ:Sg}:∀ (n:Nat),VRels σ ((qM n).map (·.v)) (List.replicate n undef)
 | 0=>rfl
 | n+1=>⟨undef,List.replicate n undef,rfl,⟨#[],rfl,rfl⟩,qZ n⟩
def Base.out (b:Base) (m:FrameMode) (T:Array Value) (D:List Deferred) (todo:List Item):Frame:=
 { fn:=b.fn,tmps:=T,todo,defers:=D,mode:=m,kind:=b.kind,roundOf:=b.round }
def lQ:Option Value->FrameMode
 | none=>.returning
 | some V=>.panicking [{ v:=V,recovered:=false }]
def kZ:Option Value->FrameMode
 | none=>.returning
 | some V=>.panicking [{ v:=V,recovered:=true }]
theorem Ez (p:Option Value):settle (kZ p)=.returning:=by cases p <;> rfl
def uQ:Option AV->Option Value->Prop
 | none,none=>True
 | some a,some V=>VRel El a V
 | _,_=>False
def aa3 (P:Program) (f:FuncId) (fr:Frame) (pn:Bool) (V:Value) (W:World):Prop:=
 match pn with
 | false=>qV P f .normal fr V W
 | true=>fr.mode=.panicking [{ v:=V,recovered:=false }]/\fr.defers=[]/\∃ fn,P.funcs[fr.fn]?=some fn
section outs
variable {P:Program} {b:Base} {T:Array Value} {D:List Deferred} {k:List Item} {cs:List Frame} {W:World}
theorem Kv {p:Option Value} {B:Nat} {E:List Deferred} (h:W.heap[B]?=some (.deferred (some []))):
  step P (lone (b.out (lQ p) T ({ target:=.collected B,args:=#[] } :: E) k) cs W)=.next (lone (b.out (lQ p) T E k) cs { W with heap:=W.heap.setIfInBounds B (.deferred none) }):=by
 have hr:(Instr.takeDeferred B).run P W=.ok [] { W with heap:=W.heap.setIfInBounds B (.deferred none) }:=by
  have hget:(getObj B).run P W=.ok (.deferred (some [])) W:=by simp only [getObj,Sem.run,h]
  have hset:(setObj B (.deferred none)).run P W=.ok () { W with heap:=W.heap.setIfInBounds B (.deferred none) }:=by simp only [setObj,Sem.run,h,Option.isSome_some,if_true]
  simp only [Instr.takeDeferred,Sem.run_bind,hget,Result.andThen_ok,hset,Sem.run_pure]
 cases p with
 | none=>exact step_lone_go (by simp [stepG,unwind,Base.out,lQ,hr])
 | some V=>exact step_lone_go (by simp [stepG,unwind,Base.out,lQ,hr])
end outs
section recs
variable {C:Ctx} {r:Rec}
theorem Kw (co:CtxOk C) (ro:RecOk C r) {ops:Array Oper} (b:Base) (hk:b.kind=.deferred) (hb:b.round=none) (k:List Item) (cs:List Frame) (c0:Frame) {p:Option AV} {PV:Option Value} (hp:uQ p PV) (hm:c0.mode=lQ PV):
  ∀ {is:List Nat} {l:List Oper},Idx ops is l->∀ (s:St) (q:R),Cc C r ops p l s=some q->∀ (σ:Sg) (T:Array Value) (D:List Deferred) (W:World),GRel C σ->SRel σ s T D W ->
  bG (Post σ s W (Arr C.P (lone (b.fr T D (.inRegion ops is :: k)) (c0 :: cs) W) b k ({ c0 with mode:=kZ PV } :: cs))) q:=by
 intro is l hl
 induction hl with
 | nil=>intro s q e; cases e
 | @cons i o is l ho hrest ih=>
  intro s q e σ T D W g sr
  simp only [Cc] at e
  split at e
  .cases e
  rename_i hgd
  have hw:Region.wanted o (yielded ops T)=true:=by simp [Region.wanted,hgd]
  split at e
  .rename_i args ts hop
   have hex:(execOp (ev T) o).run C.P W=.ok .recover W:=by
    simp only [execOp,hop,resolve,Sem.run_bind,Sem.run_pure,Result.andThen_ok,invoke,builtin]
   have hd:∀ c,o.op≠.defer c:=by intro c hc; rw [hc] at hop; cases hop
   have hv:∃ V,VRel El (aa1 p) V/\step C.P (lone (b.fr T D (.inRegion ops (i :: is) :: k)) (c0 :: cs) W)=.next (lone (b.fr (dM T o.dst V) D (.inRegion ops is :: k)) ({ c0 with mode:=kZ PV } :: cs) W):=by
    have hto:∀ fr:Frame,fr.kind=.deferred->tryRecover fr (c0 :: cs)=recoverD (c0 :: cs):=fun fr h=>tryRecover_deferred h _
    have hg:=iP (P:=C.P) (b:=b) (k:=k) (cs:=c0 :: cs) (W:=W) (rest:=is) (D:=D) ho hw hd
    have hto1:=hto (b.fr T D (.inRegion ops (i :: is) :: k)) hk
    cases p with
    | none=>
     cases PV with
     | some V=>exact hp.elim
     | none=>
      refine ⟨.nilIface,rfl,?_⟩
      have hrec:recoverD (c0 :: cs)=none:=by simp [recoverD,hm,lQ]
      have hc:({ c0 with mode:=kZ none }:Frame)=c0:=by rw [show kZ none=c0.mode from hm.symm]
      rw [<- fH ho,hc]
      refine step_lone_go ?_
      rw [hg]
      rw [hrec] at hto1
      have hro:(b.fr T D (.inRegion ops (i :: is) :: k)).roundOf=none:=hb
      simp [stepG.apply,hex,hro,hto1]
    | some a=>
     cases PV with
     | none=>exact hp.elim
     | some V=>
      refine ⟨V,hp,?_⟩
      have hrec:recoverD (c0 :: cs)=some (V,{ c0 with mode:=kZ (some V) } :: cs):=by simp [recoverD,hm,lQ,kZ]
      rw [<- fH ho]
      refine step_lone_go ?_
      rw [hg]
      rw [hrec] at hto1
      have hro:(b.fr T D (.inRegion ops (i :: is) :: k)).roundOf=none:=hb
      simp [stepG.apply,hex,hro,hto1]
   obtain ⟨V,hV,hst⟩:=hv
   refine Et sr (VRel.anywhere hV) o.dst e fun s1 e1 r1=>?_
   have:=Jd co ro b k ({ c0 with mode:=kZ PV } :: cs) hrest (.inl hb) s1 q e1 σ _ D W g r1
   intro hn
   obtain ⟨en,h1,h2⟩:=this hn
   refine ⟨en,h1,h2.imp ?_⟩
   rintro T1 D1 X ⟨_,h⟩
   exact .of_steps (.one hst) h
  .split at e
   .rename_i nd s1 hs1
    split at e
    .cases e
    .rename_i q' hq'
     cases e
     intro hn
     replace hn:(nd.and q'.nd).val:=hn
     obtain ⟨en,h1,τ,T1,D1,V,r1,st1,hx,arr⟩:=vU hs1 g sr ho hw b k (c0 :: cs) (rest:=is) (Nd.lv hn)
     have:en=⟨.tt,.normal,s1⟩:=by
      unfold One at h1
      simp [G.val] at h1
      exact h1.symm
     subst this
     have:=ih s1 q' hq' τ T1 D1 V (g.mono st1.good.sub) r1
     obtain ⟨e2,k1,k2⟩:=dx (A:=Arr C.P (lone (b.fr T D (.inRegion ops (i :: is) :: k)) (c0 :: cs) W) b k ({ c0 with mode:=kZ PV } :: cs)) r1.ko st1 this (fun x T2 D2 X h=>.of_steps arr h) (Nd.rv hn)
     exact ⟨e2,k1,k2⟩
   .cases e
theorem wT (co:CtxOk C) (ro:RecOk C r) {fr:AFr} (b:Base) (hk:b.kind=.deferred) (cs:List Frame) (c0:Frame) {p:Option AV} {PV:Option Value} (hp:uQ p PV) (hm:c0.mode=lQ PV):
  ∀ (c:Code) (s:St) (q:R),Ce C r fr p c s=some q->∀ (σ:Sg) (T:Array Value) (D:List Deferred) (W:World) (k:List Item),GRel C σ->SRel σ s T D W->FrRel σ fr b ->
  bG (Post σ s W (Arr C.P (lone (b.fr T D (.code c :: k)) (c0 :: cs) W) b k ({ c0 with mode:=kZ PV } :: cs))) q
 | .seq a c,s,q,e,σ,T,D,W,k,g,sr,fb=>by
  simp only [Ce] at e
  refine iO (Q1:=Post σ s W (Arr C.P (lone (b.fr T D (.code (.seq a c) :: k)) (c0 :: cs) W) b (.code c :: k) ({ c0 with mode:=kZ PV } :: cs))) (dR sr _) ?_ ?_ e ?_
  .rintro s1 q1 e1 ⟨τ,T1,D1,V,r1,st1,hs⟩
   have:=ro.code _ _ _ _ e1 τ T1 D1 V (g.mono st1.good.sub) r1 b k _ ({ c0 with mode:=kZ PV } :: cs) (.inl rfl) (fb.mono st1.good.sub)
   exact dx r1.ko st1 this fun x T2 D2 X h=>.of_steps hs h
  .rintro x s1 hx ⟨τ,T1,D1,V,r1,st1,h⟩
   exact ⟨τ,T1,D1,V,r1,st1,h.pass (y:=.code c) rfl hx⟩
  .intro q1 e1
   have:=wT co ro b hk cs c0 hp hm a s q1 e1 σ T D W (.code c :: k) g sr fb
   intro hn
   obtain ⟨en,h1,h2⟩:=this hn
   exact ⟨en,h1,h2.imp fun T1 D1 V h=>.of_steps (.one Mt) h⟩
 | .block i a,s,q,e,σ,T,D,W,k,g,sr0,fb=>by
  simp only [Ce,ou] at e
  obtain ⟨sr,st0⟩:=gM sr0
  refine dx sr.ko st0 (B:=Arr C.P (lone (b.fr T D (.code (.block i a) :: k)) (c0 :: cs) W) b k ({ c0 with mode:=kZ PV } :: cs)) ?_ fun _ _ _ _ h=>h
  generalize (⟨s.tmps,s.defs,⟨s.hp.blks,s.hp.size,s.hp.clock+1⟩⟩:St)=s1 at e sr st0
  split at e
  .cases e
  .rename_i nd l hl
   cases e
   refine pQ fun hn=>?_
   obtain ⟨en,h1,h2⟩:=wT co ro b hk cs c0 hp hm a s1 ⟨nd,l⟩ hl σ T D W (.inBlock i :: k) g sr fb hn
   have hq:Post σ s1 W (Arr C.P (lone (b.fr T D (.code (.block i a) :: k)) (c0 :: cs) W) b k ({ c0 with mode:=kZ PV } :: cs)) (kX i en).x en.s:=by
    obtain ⟨τ,T1,D1,V,r1,st1,h⟩:=h2
    refine ⟨τ,T1,D1,V,r1,st1,.of_steps (.one Em) ?_⟩
    unfold kX
    cases hx:en.x with
    | normal=>rw [hx] at h; simp only [hx]; exact h.trans (.one xY)
    | ret=>rw [hx] at h; simp only [hx]; exact h
    | raise a=>rw [hx] at h; simp only [hx]; exact h
    | goto j=>
     rw [hx] at h
     obtain ⟨k1,q1,q2⟩:=h
     simp only [hx]
     exact ⟨k1,q1,q2⟩
    | exit j=>
     rw [hx] at h
     obtain ⟨k1,q1,q2⟩:=h
     simp only
     cases hj:Nat.beq j i with
     | true=>
      have:=Nat.eq_of_beq_eq_true hj
      subst this
      exact q2.trans (.one (Jc (by rw [q1]; simp [exitTo])))
     | false=>
      have:¬ i=j:=fun h=>by subst h; simp at hj
      simp only [cond_false,hx]
      exact ⟨k1,by rw [q1]; simp [exitTo,this],q2⟩
   exact (dR sr _).got hq (qX.1 en h1)
 | .scope a,s,q,e,σ,T,D,W,k,g,sr,fb=>by
  simp only [Ce] at e
  unfold xI at e
  split at e
  .cases e
  .rename_i q' hq
   split at e
   .rename_i hok
    cases e
    intro hn
    obtain ⟨en,h1,h2⟩:=wT co ro b hk cs c0 hp hm a s _ hq σ T D W (.inScope a :: k) g sr fb hn
    refine ⟨en,h1,?_⟩
    obtain ⟨τ,T1,D1,V,r1,st1,h⟩:=h2
    refine ⟨τ,T1,D1,V,r1,st1,.of_steps (.one Eo) ?_⟩
    have hsc:=ow hok h1
    cases hx:en.x with
    | normal=>rw [hx] at h; exact h.trans (.one xZ)
    | ret=>rw [hx] at h; exact h
    | raise a=>rw [hx] at h; exact h
    | goto j=>
     rw [hx] at h
     obtain ⟨k1,q1,q2⟩:=h
     exact ⟨k1,by rw [q1]; simp [gotoIn,hsc j hx],q2⟩
    | exit j=>
     rw [hx] at h
     obtain ⟨k1,q1,q2⟩:=h
     exact ⟨k1,by rw [q1]; simp [exitTo],q2⟩
   .cases e
 | .region i ops false,s,q,e,σ,T,D,W,k,g,sr,fb=>by
  simp only [Ce] at e
  have h2:=fb.2
  split at e
  .rename_i hr
   rw [hr] at h2
   have:=Kw co ro b hk h2 k cs c0 hp hm (Je ops) s q e σ T D W g sr
   intro hn
   obtain ⟨en,h1,h2⟩:=this hn
   exact ⟨en,h1,h2.imp fun T1 D1 V h=>.of_steps (.one Ai) h⟩
  .cases e
 | .region _ _ true,s,q,e,_,_,_,_,_,_,_,_=>by cases e
 | .skip,s,q,e,_,_,_,_,_,_,_,_=>by cases e
 | .label _,s,q,e,_,_,_,_,_,_,_,_=>by cases e
 | .ret,s,q,e,_,_,_,_,_,_,_,_=>by cases e
 | .exit _,s,q,e,_,_,_,_,_,_,_,_=>by cases e
 | .goto _,s,q,e,_,_,_,_,_,_,_,_=>by cases e
 | .cond _ _ _,s,q,e,_,_,_,_,_,_,_,_=>by cases e
 | .loop _,s,q,e,_,_,_,_,_,_,_,_=>by cases e
 | .rangeFunc _ _ _ _,s,q,e,_,_,_,_,_,_,_,_=>by cases e
 | .refuse _,s,q,e,_,_,_,_,_,_,_,_=>by cases e
theorem Am {n c:Nat} {fn:Func} {e:Ent} {nd:Nd} {x:CEnt} (h:Kh C n c fn e=some (nd,x)):(e.x=.normal\/e.x=.ret)/\∃ h2 vs,pI e.s.defs e.s.hp=some h2/\zK C.P e.s.tmps h2 fn.results.toList=some (nd,vs)/\x=⟨e.g,.nil,(gc n c .nil h2).2⟩:=by
 have key:Kh.endR C n c fn e=some (nd,x)->∃ h2 vs,pI e.s.defs e.s.hp=some h2/\zK C.P e.s.tmps h2 fn.results.toList=some (nd,vs)/\x=⟨e.g,.nil,(gc n c .nil h2).2⟩:=by
  intro h
  unfold Kh.endR at h
  split at h
  .cases h
  .rename_i h2 hd
   split at h
   .cases h
   .rename_i nd' vs hv
    cases h
    exact ⟨h2,vs,hd,hv,rfl⟩
 unfold Kh at h
 split at h
 .rename_i hx; exact ⟨.inl hx,key h⟩
 .rename_i hx; exact ⟨.inr hx,key h⟩
 .cases h
theorem Ao {n c:Nat} {fn:Func}:∀ {l:List Ent} {nd:Nd} {m:List CEnt},I4 C n c fn l=some (nd,m)->(Non l->mY m)/\∀ e,One l e->∃ nd0 x,Kh C n c fn e=some (nd0,x)/\fM m x/\(nd.val->nd0.val)
 | [],nd,m,e=>by cases e; exact ⟨fun _=>rfl,fun e h=>by simp [One] at h⟩
 | a :: l,nd,m,e=>by
  simp only [I4] at e
  split at e
  .rename_i nd0 ce nd1 m1 he hl
   cases e
   obtain ⟨i1,i2⟩:=Ao hl
   have hg:ce.g=a.g:=by
    obtain ⟨_,_,_,_,_,rfl⟩:=Am he
    rfl
   refine ⟨fun h=>?_,fun e h=>?_⟩
   .obtain ⟨h1,h2⟩:=cK h
    exact jX (by rw [hg]; exact h1) (i1 h2)
   .rcases aX h with ⟨h1,rfl,h3⟩|⟨h1,h2⟩
    .exact ⟨nd0,ce,he,iR (by rw [hg]; exact h1) (i1 h3),fun hn=>Nd.iv (by have:=Nd.lv hn; rw [G.on_eq] at this; exact this) h1⟩
    .obtain ⟨nd2,x,q1,q2,q3⟩:=i2 e h2
     exact ⟨nd2,x,q1,iT (by rw [hg]; exact h1) q2,fun hn=>q3 (Nd.rv hn)⟩
  .cases e
theorem Ky (co:CtxOk C) (ro:RecOk C r) {f:FuncId} {args:List AV} {p:Option AV} {h k:Hp} {nd:Nd} (e:GL C r f args p h=some (nd,k)) (hn:nd.val) {σ:Sg} {A:Array Value} {W:World} (g:GRel C σ) (hr:HRel σ h W) (ha:VRels σ args A.toList)
  {PV:Option Value} (hp:uQ p PV) (c0:Frame) (hm:c0.mode=lQ PV) (cs:List Frame):
  (∃ fn:Func,C.P.funcs[f]?=some fn/\fn.body.isSome=true)/\∃ τ X fr v,HRel τ k X/\Good σ h W τ k X/\Steps C.P (lone (Frame.enter C.P f A .deferred) (c0 :: cs) W) (lone fr ({ c0 with mode:=kZ PV } :: cs) X)/\fr.kind=.deferred/\fr.going C.P X (.returned v):=by
 unfold GL at e
 split at e
 .cases e
 rename_i fn hfn
 split at e
 .cases e
 rename_i c hbody
 refine ⟨⟨fn,hfn,by simp [hbody]⟩,?_⟩
 simp only [aF] at e
 split at e
 .cases e
 rename_i q hq
 split at e
 .cases e
 rename_i nd1 l hl
 split at e
 case h_2=>cases e
 rename_i v' k' hlo
 cases e
 have hlen:A.size=args.length:=by simpa using ha.length
 have sr0:SRel σ ⟨DZ args++qM (fn.ntmps - args.length),[],h⟩ (A++Array.replicate (fn.ntmps - A.size) undef) [] W:=by
  refine ⟨?_,rfl,hr⟩
  unfold TRel
  simp only [List.map_append,yo,Array.toList_append,Array.toList_replicate,hlen]
  exact VRels.append ha (qZ _)
 obtain ⟨sr,st0⟩:=gM sr0
 have hfr:Frame.enter C.P f A .deferred=(Base.mk f .deferred none).fr (A++Array.replicate (fn.ntmps - A.size) undef) [] [.code c]:=by
  simp [Frame.enter,Base.fr,hfn,hbody]
 obtain ⟨e0,h1,τ,T,D,V,r1,st1,ar⟩:=wT co ro (fr:=⟨f,none⟩) (Base.mk f .deferred none) rfl cs c0 hp hm c _ q hq σ _ [] W [] g sr ⟨rfl,rfl⟩ (Nd.lv hn)
 obtain ⟨nd0,x,q1,q2,q3⟩:=(Ao hl).2 e0 h1
 have hnd:=q3 (Nd.rv hn)
 obtain ⟨hx,h2,vs,hd,hv,rfl⟩:=Am q1
 have left:∃ todo,Steps C.P (lone (Frame.enter C.P f A .deferred) (c0 :: cs) W) (lone ((Base.mk f .deferred none).back T D todo) ({ c0 with mode:=kZ PV } :: cs) V):=by
  rw [hfr]
  rcases hx with hx|hx
  .rw [hx] at ar; exact ⟨[],ar.trans (.one (Jg rfl))⟩
  .rw [hx] at ar; obtain ⟨k1,ar⟩:=ar; exact ⟨_,ar.trans (.one (ML rfl))⟩
 obtain ⟨todo,hsteps⟩:=left
 obtain ⟨X,p1,p2,p3⟩:=ym (P:=C.P) (b:=Base.mk f .deferred none) (T:=T) (k:=todo) (cs:={ c0 with mode:=kZ PV } :: cs) hd r1.d r1.h
 obtain ⟨Y,p4,p5⟩:=yn r1.t p2 hv hnd
 obtain ⟨υ,s1,s2,s3⟩:=yh sr.h p2 (st1.good.trans r1.h.ok p2.ok p3) (v:=.nil) (V:=.pointer none) rfl
 have fin:zP (Jf σ ⟨h.blks,h.size,h.clock+1⟩ W fun _ _ X=>∃ fr v,Steps C.P (lone (Frame.enter C.P f A .deferred) (c0 :: cs) W) (lone fr ({ c0 with mode:=kZ PV } :: cs) X)/\fr.kind=.deferred/\fr.going C.P X (.returned v)) l:=
  ⟨_,q2,υ,.pointer none,X,(by
   have:(gc h.size (h.clock+1) .nil h2).1=.nil:=by
    unfold gc
    split
    .rfl
    .simp only
     split
     .rfl
     .rfl
   rw [this] at s1; exact s1),s2,s3,_,Y,hsteps.trans p1,rfl,rfl,rfl,fn,hfn,p4⟩
 obtain ⟨en,t1,τ',V',X',t2,t3,t4,fr,v,t5,t6,t7⟩:=uP ((pU (mZ sr.h _)).1 fin)
 rw [hlo] at t1
 have:en=⟨.tt,v',k⟩:=by
  unfold fM at t1
  simp [G.val] at t1
  exact t1.symm
 subst this
 exact ⟨τ',X',fr,v,t3,st0.good.trans sr.h.ok t3.ok t4,t5,t6,t7⟩
theorem pV (co:CtxOk C) (ro:RecOk C r) {b:Base} {T:Array Value} {k:List Item} {cs:List Frame}:∀ {ds:List ADef} {p:Option AV} {h:Hp} {nd:Nd} {p':Option AV} {h':Hp},uK C r ds p h=some (nd,p',h')->nd.val ->
  ∀ {σ:Sg} {D:List Deferred} {W:World} {PV:Option Value},GRel C σ->DRel σ ds D->HRel σ h W->uQ p PV ->
  ∃ τ X PV',uQ p' PV'/\Steps C.P (lone (b.out (lQ PV) T D k) cs W) (lone (b.out (lQ PV') T [] k) cs X)/\HRel τ h' X/\Good σ h W τ h' X
 | [],p,h,nd,p',h',e,hn,σ,D,W,PV,g,hd,hr,hp=>by
  cases e
  rw [show D=[] from hd]
  exact ⟨σ,W,PV,hp,.refl _ _,hr,Good.refl σ h W fun i B N h=>(hr.dom i B N h).1⟩
 | .collected i :: ds,p,h,nd,p',h',e,hn,σ,D,W,PV,g,⟨B,N,E,h1,h2,h3⟩,hr,hp=>by
  simp only [uK] at e
  split at e
  .rename_i w hg
   rw [Hp.set_eq] at e
   obtain ⟨B',N',o,q1,q2,q3⟩:=hr.blk i _ hg rfl
   rw [h1] at q1; cases q1
   have ho:o=.deferred (some []):=by simpa [BRel] using q3
   subst ho
   have hlt:B<W.heap.size:=(Array.getElem?_eq_some_iff.1 q2).1
   obtain ⟨r1,g1⟩:=hr.write (V:={ W with heap:=W.heap.setIfInBounds B (.deferred none) }) hg rfl h1 (.defers true) (jm fun c h=>by cases h) (.deferred none)
    (by simp [hlt]) (by simp [BRel]) (by simp) (fun k hk=>by simp [Array.getElem?_setIfInBounds,Ne.symm hk]) rfl rfl rfl
   obtain ⟨τ,X,PV',k1,k2,k3,k4⟩:=pV co ro (b:=b) (T:=T) (k:=k) (cs:=cs) e hn g h3 r1 hp
   exact ⟨τ,X,PV',k1,.head (by rw [h2]; exact Kv q2) k2,k3,g1.trans r1.ok k3.ok k4⟩
  .cases e
 | .call f as :: ds,p,h,nd,p',h',e,hn,σ,D,W,PV,g,⟨F,K,E,h1,h2,h3⟩,hr,hp=>by
  simp only [uK] at e
  split at e
  .cases e
  rename_i nd1 k1 hdf
  split at e
  .cases e
  rename_i m p2 k2 hrest
  cases e
  obtain ⟨⟨fn,hfn,hbody⟩,τ,X,fr,v,r1,g1,s1,hk,hgo⟩:=Ky co ro hdf (Nd.lv hn) g hr h1 hp (b.out (lQ PV) T E k) rfl cs
  have hinv:(invoke (.fn (.func f) K) F).run C.P W=.ok (.enter f (F++K)) W:=by
   simp only [invoke]
   exact jL co.prog hfn hbody _ W
  have st1:step C.P (lone (b.out (lQ PV) T D k) cs W)=.next (lone (Frame.enter C.P f (F++K) .deferred) (b.out (lQ PV) T E k :: cs) W):=by
   rw [h2]
   exact step_defer (fr:=b.out (lQ PV) T ({ target:=.fn (.func f) K,args:=F } :: E) k) (ds:=E) (by cases PV <;> simp [Base.out,lQ]) rfl rfl hinv
  have st2:=step_going_returned (P:=C.P) (c:={ b.out (lQ PV) T E k with mode:=kZ PV }) (cs:=cs) hk hgo
  have hset:({ ({ b.out (lQ PV) T E k with mode:=kZ PV }:Frame) with mode:=settle (kZ PV) }:Frame)=b.out (lQ none) T E k:=by
   rw [Ez]; rfl
  simp only at st2
  rw [hset] at st2
  obtain ⟨υ,Y,PV',l1,l2,l3,l4⟩:=pV co ro (b:=b) (T:=T) (k:=k) (cs:=cs) hrest (Nd.rv hn) (PV:=none) (g.mono g1.sub) (DRel.mono g1.sub h3) r1 trivial
  exact ⟨υ,Y,PV',l1,.head st1 ((s1.trans (.one st2)).trans l2),l3,g1.trans r1.ok l3.ok l4⟩
end recs
theorem EA {C:Ctx} {r:Rec} {n c:Nat} {fn:Func}:∀ {l:List Ent} {nd:Nd} {m:List CEnt},Si C r n c fn l=some (nd,m)->(Non l->mY m)/\∀ e,One l e->∃ nd0 v h,Sd C r n c fn e=some (nd0,⟨e.g,v,h⟩)/\fM m ⟨e.g,v,h⟩/\(nd.val->nd0.val)
 | [],nd,m,e=>by cases e; exact ⟨fun _=>rfl,fun e h=>by simp [One] at h⟩
 | a :: l,nd,m,e=>by
  simp only [Si] at e
  split at e
  .rename_i nd0 ce nd1 m1 he hl
   cases e
   obtain ⟨i1,i2⟩:=EA hl
   have hg:ce.g=a.g:=by
    unfold Sd at he
    split at he
    .cases he
    .split at he
     .cases he
     .cases he; rfl
     .split at he
      .cases he
      .simp only at he
       split at he
       .cases he
       .cases he; rfl
   obtain ⟨cg,cv,ch⟩:=ce
   simp only at hg
   subst hg
   refine ⟨fun h=>?_,fun e h=>?_⟩
   .obtain ⟨h1,h2⟩:=cK h
    exact jX h1 (i1 h2)
   .rcases aX h with ⟨h1,rfl,h3⟩|⟨h1,h2⟩
    .exact ⟨nd0,cv,ch,he,iR h1 (i1 h3),fun hn=>Nd.iv (by have:=Nd.lv hn; rw [G.on_eq] at this; exact this) h1⟩
    .obtain ⟨nd2,v,hh,q1,q2,q3⟩:=i2 e h2
     exact ⟨nd2,v,hh,q1,iT h1 q2,fun hn=>q3 (Nd.rv hn)⟩
  .cases e
theorem Kz (ρ:Nat->Nat) (v:AV):(v.ren ρ).isPanic=v.isPanic:=by cases v <;> rfl
theorem EB (n c:Nat) (v:AV) (h:Hp):(gc n c v h).1.isPanic=v.isPanic:=by
 unfold gc
 split
 .rfl
 .simp only
  split
  .split
   .rfl
   .split
    .exact Kz _ v
    .rfl
  .rfl
theorem MO {C:Ctx} {r:Rec} (co:CtxOk C) (ro:RecOk C r) {f:FuncId} {args:List AV} {h:Hp} {q:CR} (e:Md C r f args h=some q):CallOut C f args h q/\∃ fn:Func,C.P.funcs[f]?=some fn/\fn.body.isSome=true:=by
 unfold Md at e
 split at e
 .cases e
 .rename_i fn hfn
  split at e
  .cases e
  .rename_i c hbody
   refine ⟨?_,fn,hfn,by simp [hbody]⟩
   simp only [aF] at e
   split at e
   .cases e
   .rename_i q' hq'
    split at e
    .cases e
    .rename_i nd l hl
     cases e
     intro σ A W g hr ha hn cs
     have hlen:A.size=args.length:=by simpa using ha.length
     have sr0:SRel σ ⟨DZ args++qM (fn.ntmps - args.length),[],h⟩ (A++Array.replicate (fn.ntmps - A.size) undef) [] W:=by
      refine ⟨?_,rfl,hr⟩
      unfold TRel
      simp only [List.map_append,yo,Array.toList_append,Array.toList_replicate,hlen]
      exact VRels.append ha (qZ _)
     obtain ⟨sr,st0⟩:=gM sr0
     have hfr:Frame.enter C.P f A .normal=(Base.mk f .normal none).fr (A++Array.replicate (fn.ntmps - A.size) undef) [] [.code c]:=by
      simp [Frame.enter,Base.fr,hfn,hbody]
     obtain ⟨e0,h1,τ,T,D,V,r1,st1,ar⟩:=ro.code _ _ _ _ hq' σ _ [] W g sr (Base.mk f .normal none) [] _ cs (.inl rfl) ⟨rfl,rfl⟩ (Nd.lv hn)
     obtain ⟨nd0,v,hh,q1,q2,q3⟩:=(EA hl).2 e0 h1
     have hnd:=q3 (Nd.rv hn)
     unfold Sd at q1
     split at q1
     .cases q1
     rename_i p hp
     have left:∃ PV todo,uQ p PV/\Steps C.P (lone (Frame.enter C.P f A .normal) cs W) (lone ((Base.mk f .normal none).out (lQ PV) T D todo) cs V):=by
      rw [hfr]
      cases hx:e0.x with
      | exit i=>rw [hx] at hp; cases hp
      | goto i=>rw [hx] at hp; cases hp
      | normal=>rw [hx] at hp ar; cases hp; exact ⟨none,[],trivial,ar.trans (.one (Jg rfl))⟩
      | ret=>rw [hx] at hp ar; cases hp; obtain ⟨k1,ar⟩:=ar; exact ⟨none,_,trivial,ar.trans (.one (ML rfl))⟩
      | raise a=>rw [hx] at hp ar; cases hp; obtain ⟨k1,V1,hV1,ar⟩:=ar; exact ⟨some V1,k1,hV1,ar⟩
     obtain ⟨PV,todo,hpr,hsteps⟩:=left
     have fin:zP (Jf σ ⟨h.blks,h.size,h.clock+1⟩ W fun pn V X=>∃ fr,Steps C.P (lone (Frame.enter C.P f A .normal) cs W) (lone fr cs X)/\aa3 C.P f fr pn V X) l:=by
      split at q1
      .cases q1
      .rename_i nd1 a h2 hd
       simp only [Option.some.injEq,Prod.mk.injEq,CEnt.mk.injEq] at q1
       obtain ⟨rfl,-,rfl,rfl⟩:=q1
       obtain ⟨τ',X,PV',k1,k2,k3,k4⟩:=pV co ro hd hnd (b:=Base.mk f .normal none) (T:=T) (k:=todo) (cs:=cs) (g.mono st1.good.sub) r1.d r1.h hpr
       cases PV' with
       | none=>exact k1.elim
       | some V'=>
        obtain ⟨υ,s1,s2,s3⟩:=yh sr.h k3 (st1.good.trans r1.h.ok k3.ok k4) (v:=.panic a) (V:=V') (VRel.anywhere k1)
        refine ⟨_,q2,υ,V',X,s1,s2,s3,_,hsteps.trans k2,?_⟩
        rw [EB]
        exact ⟨rfl,rfl,fn,hfn⟩
      .rename_i nd1 h2 hd
       split at q1
       .cases q1
       .rename_i m vs hv
        simp only at q1
        split at q1
        .cases q1
        .rename_i hpan
         simp only [Option.some.injEq,Prod.mk.injEq,CEnt.mk.injEq] at q1
         obtain ⟨rfl,-,rfl,rfl⟩:=q1
         obtain ⟨τ',X,PV',k1,k2,k3,k4⟩:=pV co ro hd (Nd.lv hnd) (b:=Base.mk f .normal none) (T:=T) (k:=todo) (cs:=cs) (g.mono st1.good.sub) r1.d r1.h hpr
         cases PV' with
         | some V'=>exact k1.elim
         | none=>
          obtain ⟨Y,p4,p5⟩:=yn (TRel.mono k4.sub r1.t) k3 hv (Nd.rv hnd)
          obtain ⟨υ,s1,s2,s3⟩:=yh sr.h k3 (st1.good.trans r1.h.ok k3.ok k4) p5
          refine ⟨_,q2,υ,Y,X,s1,s2,s3,_,hsteps.trans k2,?_⟩
          rw [EB,hpan]
          exact ⟨rfl,rfl,rfl,rfl,fn,hfn,p4⟩
     obtain ⟨en,t1,τ',V',X',t2,t3,t4,fr,t5,t6⟩:=uP ((pU (mZ sr.h _)).1 fin)
     exact ⟨en,t1,τ',V',X',fr,t2,t3,st0.good.trans sr.h.ok t3.ok t4,t5,t6⟩
theorem G6 {P:Program} {B:Nat} {L:Loop} {W:World} (h:W.heap[B]?=some (.loop L)):(getObj B).run P W=.ok (.loop L) W:=by simp only [getObj,Sem.run,h]
theorem rf {P:Program} {B:Nat} {L:Loop} {o':Obj} {W:World} (h:W.heap[B]?=some (.loop L)):(setObj B o').run P W=.ok () { W with heap:=W.heap.setIfInBounds B o' }:=by
 simp only [setObj,Sem.run,h]
theorem jq {P:Program} {B:Nat} {L:Loop} {W:World} (h:W.heap[B]?=some (.loop L)):(Instr.getLoop B).run P W=.ok L W:=by
 simp only [Instr.getLoop,Sem.run_bind,G6 h,Result.andThen_ok,Sem.run_pure]
theorem yt {σ:Sg}:∀ {ps:List Tmp} {as:List AV} {t t':List AT} {T:Array Value} {As:List Value},Cf ps as t=some t'->TRel σ t T->VRels σ as As ->
  TRel σ t' ((ps.zip As).foldl (fun T p=>T.setIfInBounds p.1 p.2) T)/\ps.length=As.length
 | [],[],t,t',T,As,e,ht,ha=>by
  cases e
  rw [show As=[] from ha]
  exact ⟨ht,rfl⟩
 | [],a :: as,t,t',T,As,e,ht,ha=>by cases e
 | p :: ps,[],t,t',T,As,e,ht,ha=>by cases e
 | p :: ps,a :: as,t,t',T,As,e,ht,⟨v,vs,h1,h2,h3⟩=>by
  subst h1
  simp only [Cf,jJ] at e
  have h4:TRel σ (t.set p ⟨0,a⟩) (T.setIfInBounds p v):=by
   unfold TRel
   have:=VRels.set p ht h2
   simpa [List.map_set] using this
  obtain ⟨h5,h6⟩:=yt e h4 h3
  exact ⟨by simpa using h5,by simp [h6]⟩
theorem KA {P:Program} {B:Nat} {L:Loop} {W:World} (h:W.heap[B]?=some (.loop L)) {A:Array Value} (hs:L.params.toList.length=A.toList.length):
  (Instr.yield B A).run P W=.ok (.round B L.fn ((L.params.toList.zip A.toList).foldl (fun T p=>T.setIfInBounds p.1 p.2) L.tmps) L.assign L.body) W:=by
 have hs':A.size=L.params.size:=by simpa using hs.symm
 have:(L.params.zip A).foldl (fun tmps (x:Tmp×Value)=>tmps.setIfInBounds x.1 x.2) L.tmps=(L.params.toList.zip A.toList).foldl (fun T p=>T.setIfInBounds p.1 p.2) L.tmps:=by
  rw [<- Array.foldl_toList,Array.toList_zip]
 simp only [Instr.yield,Sem.run_bind,jq h,Result.andThen_ok,hs',ne_eq,not_true_eq_false,if_false,Sem.run_pure]
 rw [<- this]
section rounds
variable {P:Program} {b:Base} {T:Array Value} {D:List Deferred} {k:List Item} {cs:List Frame} {W:World} {B:Nat} {L:Loop}
theorem MP (hb:b.round=some B) (h:W.heap[B]?=some (.loop L)) (hl:L.state=.ready):
  step P (lone (b.fr T D (.beginRound :: k)) cs W)=.next (lone (b.fr T D k) cs { W with heap:=W.heap.setIfInBounds B (.loop { L with state:=.busy }) }):=by
 have hr:(Instr.beginRound B).run P W=.ok () { W with heap:=W.heap.setIfInBounds B (.loop { L with state:=.busy }) }:=by
  simp only [Instr.beginRound,Sem.run_bind,jq h,Result.andThen_ok,rf h,hl,Sem.run_pure]
 refine step_lone_go ?_
 simp [stepG,stepG.exec,stepG.apply,Base.fr,hb,hr,Frame.finish]
def yu (L:Loop) (j:Option Code):Loop:={ L with state:=if j.isNone then .ready else .done,pending:=j }
theorem sS (h:W.heap[B]?=some (.loop L)) (j:Option Code):(Instr.endRound B j).run P W=.ok (.bool j.isNone) { W with heap:=W.heap.setIfInBounds B (.loop (yu L j)) }:=by
 simp only [Instr.endRound,Sem.run_bind,jq h,Result.andThen_ok,rf h,Sem.run_pure]; rfl
theorem zQ {c:Frame} (hb:b.round=some B) (hk:b.kind=.normal) (h:W.heap[B]?=some (.loop L)):
  step P (lone (b.fr T D []) (c :: cs) W)=.next (lone (c.finish (.bool true)) cs { W with heap:=W.heap.setIfInBounds B (.loop (yu L none)) }):=by
 have hr:=sS (P:=P) h none
 refine step_lone_go ?_
 simp [stepG,stepG.exec,Base.fr,hb,hr,hk,doReturn]
theorem oC {c:Frame} (hb:b.round=some B) (hk:b.kind=.normal) (h:W.heap[B]?=some (.loop L)) {j:Code} (hj:j=.ret\/(∃ i,j=.exit i/\exitTo i k=none)\/(∃ i,j=.goto i/\gotoIn i k=none)):
  step P (lone (b.fr T D (.code j :: k)) (c :: cs) W)=.next (lone (c.finish (.bool false)) cs { W with heap:=W.heap.setIfInBounds B (.loop (yu L (some j))) }):=by
 have hr:=sS (P:=P) h (some j)
 refine step_lone_go ?_
 rcases hj with rfl|⟨i,rfl,h1⟩|⟨i,rfl,h1⟩
 .simp [stepG,stepG.exec,Base.fr,hb,hr,hk,doReturn]
 .simp [stepG,stepG.exec,Base.fr,hb,hr,hk,doReturn,h1]
 .simp [stepG,stepG.exec,Base.fr,hb,hr,hk,doReturn,h1]
end rounds
theorem kD {σ:Sg} {h:Hp} {W:World} (r:HRel σ h W) {l B N w:Nat} {a:ALoop} (hg:h.get l=some ⟨w,.loop a⟩) (hσ:σ l=some (B,N)):
  ∃ L,W.heap[B]?=some (.loop L)/\BRel σ N (.loop a) (.loop L)/\∀ (st:LoopState) (pd:Option Code),
   HRel σ (h.put l (.loop { a with state:=st,pending:=pd })) { W with heap:=W.heap.setIfInBounds B (.loop { L with state:=st,pending:=pd }) } /\
   Good σ h W σ (h.put l (.loop { a with state:=st,pending:=pd })) { W with heap:=W.heap.setIfInBounds B (.loop { L with state:=st,pending:=pd }) }:=by
 obtain ⟨B',N',o,q1,q2,q3⟩:=r.blk l _ hg rfl
 rw [hσ] at q1; cases q1
 obtain ⟨L,rfl,h1,h2,h3,h4,h5,h6,h7,h8⟩:=q3
 refine ⟨L,q2,⟨L,rfl,h1,h2,h3,h4,h5,h6,h7,h8⟩,fun st pd=>?_⟩
 have hlt:B<W.heap.size:=(Array.getElem?_eq_some_iff.1 q2).1
 exact r.write hg rfl hσ (.loop { a with state:=st,pending:=pd }) (fun c e=>by cases e; exact ⟨st,pd,rfl⟩) (.loop { L with state:=st,pending:=pd })
  (by simp [hlt]) ⟨_,rfl,rfl,rfl,h3,h4,h5,h6,h7,h8⟩ (by simp) (fun k hk=>by simp [Array.getElem?_setIfInBounds,Ne.symm hk]) rfl rfl rfl
theorem qC {n c l:Nat}:∀ {es:List Ent} {m:List CEnt},pK n c l es=some m->(Non es->mY m)/\∀ e,One es e->∃ v h,pJ n c l e=some ⟨e.g,v,h⟩/\fM m ⟨e.g,v,h⟩
 | [],m,e=>by cases e; exact ⟨fun _=>rfl,fun e h=>by simp [One] at h⟩
 | a :: es,m,e=>by
  simp only [pK] at e
  split at e
  .rename_i ce m1 he hl
   cases e
   obtain ⟨i1,i2⟩:=qC hl
   have hg:ce.g=a.g:=by
    unfold pJ at he
    split at he
    .split at he
     .rw [Hp.set_eq] at he; cases he; rfl
     .cases he
     .rw [Hp.set_eq] at he; cases he; rfl
    .cases he
   obtain ⟨cg,cv,ch⟩:=ce
   simp only at hg
   subst hg
   refine ⟨fun h=>?_,fun e h=>?_⟩
   .obtain ⟨h1,h2⟩:=cK h
    exact jX h1 (i1 h2)
   .rcases aX h with ⟨h1,rfl,h3⟩|⟨h1,h2⟩
    .exact ⟨cv,ch,he,iR h1 (i1 h3)⟩
    .obtain ⟨v,hh,q1,q2⟩:=i2 e h2
     exact ⟨v,hh,q1,iT h1 q2⟩
  .cases e
theorem Good.dom {σ:Sg} {h:Hp} {W:World} (r:HRel σ h W):Good σ h W σ h W:=Good.refl σ h W fun i B N h=>(r.dom i B N h).1
theorem KC {C:Ctx} {r:Rec} (ro:RecOk C r) {l:Nat} {args:List AV} {h:Hp} {q:CR} (e:GM r l args h=some q):wQ C l args h q:=by
 unfold GM at e
 split at e
 .rename_i w a hg
  split at e
  .cases e
  .rename_i t ht
   simp only [aF] at e
   split at e
   .rename_i nd s hcode
    split at e
    .rename_i w2 b2 hg2
     split at e
     .rename_i hst
      rw [Hp.set_eq] at e
      split at e
      .cases e
      .rename_i q' hbody
       split at e
       .cases e
       .rename_i m hm
        cases e
        intro σ A W B N g hr hσ ha hn c cs
        obtain ⟨L,hL,⟨L',e1,f1,f2,f3,f4,f5,f6,f7,f8⟩,-⟩:=kD hr hg hσ
        cases e1
        obtain ⟨tr,hlen⟩:=yt ht f4 ha
        rw [<- f5] at tr hlen
        have hy:=KA (P:=C.P) hL hlen
        generalize hTT:(L.params.toList.zip A.toList).foldl (fun (T:Array Value) (p:Tmp×Value)=>T.setIfInBounds p.1 p.2) L.tmps=TT at hy tr
        have sr0:SRel σ ⟨t,[],h⟩ TT [] W:=⟨tr,rfl,hr⟩
        obtain ⟨sr,st0⟩:=gM sr0
        let b:Base:=⟨L.fn,.normal,some B⟩
        have hfb:FrRel σ ⟨a.fn,some l⟩ b:=⟨f3,B,N,hσ,rfl⟩
        obtain ⟨e0,h1,τ,T1,D1,V1,r1,st1,ar⟩:=ro.code _ _ _ _ hcode σ TT [] W g sr b [.beginRound,.code L.body] _ (c :: cs) (.inl rfl) hfb (Nd.lv hn)
        rcases aX h1 with ⟨_,rfl,_⟩|⟨_,h3⟩
        .rw [<- f6] at ar
         have ar:Steps C.P (lone (b.fr TT [] [.code L.assign,.beginRound,.code L.body]) (c :: cs) W) (lone (b.fr T1 D1 [.beginRound,.code L.body]) (c :: cs) V1):=ar
         have hσ1:=st1.good.sub _ _ hσ
         obtain ⟨L1,k1,⟨_,e2,k2,k3,k4,k5,k6,k7,k8,k9⟩,wr⟩:=kD r1.h hg2 hσ1
         cases e2
         obtain ⟨r2,g2⟩:=wr .busy b2.pending
         have hput:(ABody.loop { b2 with state:=.busy,pending:=b2.pending })=.loop { b2 with state:=.busy }:=rfl
         have hw:({ L1 with state:=LoopState.busy,pending:=b2.pending }:Loop)={ L1 with state:=LoopState.busy }:=by rw [<- k3]
         rw [hw] at r2 g2
         have hbeg:=MP (P:=C.P) (b:=b) (T:=T1) (D:=D1) (k:=[.code L.body]) (cs:=c :: cs) rfl k1 (k2.trans hst)
         have r2':SRel τ ⟨s.tmps,s.defs,s.hp.put l (.loop { b2 with state:=.busy })⟩ T1 D1 { V1 with heap:=V1.heap.setIfInBounds B (.loop { L1 with state:=.busy }) }:=⟨r1.t,r1.d,r2⟩
         have hmon:=st1.good.mon.loop l w a (by
          have:(⟨h.blks,h.size,h.clock+1⟩:Hp).get l=h.get l:=by rw [Hp.get_eq,Hp.get_eq]
          simp only; rw [this]; exact hg)
         obtain ⟨w',st',pd',hgl⟩:=hmon
         simp only at hgl
         rw [hg2] at hgl
         have hb2:b2={ a with state:=st',pending:=pd' }:=by cases hgl; rfl
         have hbd:b2.body=L.body:=by rw [hb2]; exact f7.symm
         obtain ⟨e3,h3,υ,T3,D3,V3,r3,st3,ar3⟩:=ro.code _ _ _ _ hbody τ T1 D1 _ (g.mono st1.good.sub) r2' b [] _ (c :: cs) (.inl rfl) (hfb.mono st1.good.sub) (Nd.rv hn)
         rw [hbd] at ar3
         obtain ⟨v,hh,q1,q2⟩:=(qC hm).2 e3 h3
         have hσ3:=st3.good.sub _ _ hσ1
         have good3:Good σ ⟨h.blks,h.size,h.clock+1⟩ W υ e3.s.hp V3:=(st1.good.trans r1.h.ok r2.ok g2).trans r2.ok r3.h.ok st3.good
         have begun:=ar.trans (.one hbeg)
         have fin:zP (Jf σ ⟨h.blks,h.size,h.clock+1⟩ W fun pn V X=>pn=false/\Steps C.P (lone (b.fr TT [] [.code L.assign,.beginRound,.code L.body]) (c :: cs) W) (lone (c.finish V) cs X)) m:=by
          refine ⟨_,q2,?_⟩
          unfold pJ at q1
          split at q1
          .rename_i w4 a4 hg4
           obtain ⟨L4,m1,_,wr4⟩:=kD r3.h hg4 hσ3
           split at q1
           .rename_i hx
            rw [Hp.set_eq] at q1
            simp only [Option.some.injEq,CEnt.mk.injEq] at q1
            obtain ⟨-,rfl,rfl⟩:=q1
            obtain ⟨r5,g5⟩:=wr4 .ready none
            obtain ⟨φ,s1,s2,s3⟩:=yh (v:=.bool false true) (V:=.bool true) sr.h r5 (good3.trans r3.h.ok r5.ok g5) rfl
            rw [hx] at ar3
            exact ⟨φ,.bool true,_,rfl,s2,s3,rfl,(begun.trans ar3).trans (.one (zQ rfl rfl m1))⟩
           .cases q1
           .rename_i x hxr hx
            rw [Hp.set_eq] at q1
            simp only [Option.some.injEq,CEnt.mk.injEq] at q1
            obtain ⟨-,rfl,rfl⟩:=q1
            obtain ⟨r5,g5⟩:=wr4 .done (Me e3.x)
            obtain ⟨φ,s1,s2,s3⟩:=yh (v:=.bool false false) (V:=.bool false) sr.h r5 (good3.trans r3.h.ok r5.ok g5) rfl
            refine ⟨φ,.bool false,_,rfl,s2,s3,rfl,?_⟩
            cases hx2:e3.x with
            | normal=>exact absurd hx2 hxr
            | raise a=>exact absurd hx2 (hx a)
            | ret=>
             rw [hx2] at ar3
             obtain ⟨k1,ar3⟩:=ar3
             exact (begun.trans ar3).trans (.one (oC rfl rfl m1 (.inl rfl)))
            | exit i=>
             rw [hx2] at ar3
             obtain ⟨k1,p1,ar3⟩:=ar3
             exact (begun.trans ar3).trans (.one (oC rfl rfl m1 (.inr (.inl ⟨i,rfl,p1⟩))))
            | goto i=>
             rw [hx2] at ar3
             obtain ⟨k1,p1,ar3⟩:=ar3
             exact (begun.trans ar3).trans (.one (oC rfl rfl m1 (.inr (.inr ⟨i,rfl,p1⟩))))
          .cases q1
         obtain ⟨en,t1,τ',V',X',t2,t3,t4,tp,t5⟩:=uP ((pU (mZ sr.h _)).1 fin)
         refine ⟨en,t1,tp,τ',V',X',L.fn,TT,L.assign,L.body,t2,t3,st0.good.trans sr.h.ok t3.ok t4,hy,t5⟩
        .simp [One] at h3
     .cases e
    .cases e
   .cases e
 .cases e
theorem sU {s:St} {l:Nat}:∀ {es:List CEnt} {m:List Ent},rZ s l es=some m->(mY es->Non m)/\∀ e,fM es e->∃ x s',rY s l e=some ⟨e.g,x,s'⟩/\One m ⟨e.g,x,s'⟩
 | [],m,e=>by cases e; exact ⟨fun _=>rfl,fun e h=>by simp [fM] at h⟩
 | a :: es,m,e=>by
  simp only [rZ] at e
  split at e
  .rename_i ce m1 he hl
   cases e
   obtain ⟨i1,i2⟩:=sU hl
   have hg:ce.g=a.g:=by
    unfold rY at he
    split at he
    .cases he
    split at he
    .split at he
     .cases he
     .split at he
      .cases he
      .rw [Hp.set_eq] at he; cases he; rfl
    .cases he
   obtain ⟨cg,cx,cs⟩:=ce
   simp only at hg
   subst hg
   refine ⟨fun h=>?_,fun e h=>?_⟩
   .obtain ⟨h1,h2⟩:=kC h
    exact ig h1 (i1 h2)
   .rcases kz h with ⟨h1,rfl,h3⟩|⟨h1,h2⟩
    .exact ⟨cx,cs,he,bN h1 (i1 h3)⟩
    .obtain ⟨v,hh,q1,q2⟩:=i2 e h2
     exact ⟨v,hh,q1,aT h1 q2⟩
  .cases e
theorem Ji {P:Program} {o:Obj} {W:World}:(newObj o).run P W=.ok W.heap.size (W.alloc o):=rfl
section ranges
variable {P:Program} {b:Base} {T:Array Value} {D:List Deferred} {k:List Item} {cs:List Frame} {W:World}
theorem MQ {f:Operand} {params:Array Tmp} {assign body:Code} {B:Nat} {mark:List Deferred} {X:World} (h:(Instr.enterLoop b.fn T params assign body b.round).run P W=.ok (B,mark) X)
  {g:FuncId} {F K:Array Value} (hf:ev T f=.func (.func g) F K) {fn:Func} (hfn:P.funcs[g]?=some fn) (hb:fn.body.isSome=true) (hp:ProgOk P):
  step P (lone (b.fr T D (.code (.rangeFunc f params assign body) :: k)) cs W)=.next (lone (Frame.enter P g (F++#[.func (.yield B) #[] #[]]++K) .normal) (b.fr T (mark++D) (.inRangeFunc B :: k) :: cs) X):=by
 refine step_lone_go ?_
 have he:=eval_fr' (b:=b) (T:=T) (D:=mark++D) (.inRangeFunc B :: k)
 have hc:=jL hp hfn hb (F++#[.func (.yield B) #[] #[]]++K) X
 have hex:(do let d<-resolve (b.fr T (mark++D) (.inRangeFunc B :: k)).eval { callee:=.value f,args:=#[.const (.func (.yield B) #[] #[])],argTypes:=#[] } 0; invoke d.target d.args:Sem Next).run P X=.ok (.enter g (F++#[.func (.yield B) #[] #[]]++K)) X:=by
  rw [he]
  have:ev T (.const (.func (.yield B) #[] #[]))=.func (.yield B) #[] #[]:=rfl
  simp only [resolve,hf,Deferred.ofValue,Sem.run_bind,Sem.run_pure,Result.andThen_ok,invoke,List.map_toArray,List.map_cons,List.map_nil,this]
  exact hc
 simp only [Base.fr] at hex
 simp [stepG,stepG.exec,Base.fr,h,stepG.apply,hex]
theorem EC {B:Nat} {L:Loop} (h:W.heap[B]?=some (.loop L)) (hs:L.state≠.busy):(Instr.endLoop B).run P W=.ok L.pending { W with heap:=W.heap.setIfInBounds B (.loop { L with state:=.exhausted }) }:=by
 have:(L.state==LoopState.busy)=false:=by cases e:L.state <;> simp_all <;> rfl
 simp only [Instr.endLoop,Sem.run_bind,jq h,Result.andThen_ok,this,Bool.false_eq_true,if_false,Sem.run_pure,rf h]
theorem ED {B:Nat} {L:Loop} (h:W.heap[B]?=some (.loop L)) (hs:L.state≠.busy):
  step P (lone (b.fr T D (.endRangeFunc B :: k)) cs W)=.next (lone (b.fr T D ((L.pending.map Item.code).toList++k)) cs { W with heap:=W.heap.setIfInBounds B (.loop { L with state:=.exhausted }) }):=by
 have hr:=EC (P:=P) h hs
 exact step_lone_go (by simp [stepG,stepG.exec,Base.fr,hr])
end ranges
theorem MR {P:Program} {fr:AFr} {s:St} {d:Nat} {mark:List ADef} {h:Hp} (e:GI fr s=some (d,mark,h)) {σ:Sg} {T:Array Value} {D:List Deferred} {W:World} (sr:SRel σ s T D W) {b:Base} (fb:FrRel σ fr b)
  (params:Array Tmp) (assign body:Code):
  ∃ τ X B M,(Instr.enterLoop b.fn T params assign body b.round).run P W=.ok (B,M) X/\τ h.size=some (B,0)/\DRel τ (mark++s.defs) (M++D) /\
   HRel τ (h.push (.loop { state:=.ready,pending:=none,fn:=fr.fn,tmps:=s.tmps,params:=params.toList,assign,body,defers:=d })) X /\
   Good σ s.hp W τ (h.push (.loop { state:=.ready,pending:=none,fn:=fr.fn,tmps:=s.tmps,params:=params.toList,assign,body,defers:=d })) X:=by
 have made:∀ (σ':Sg) (h:Hp) (W':World) (R:Nat) (M:Nat),Sub σ σ'->HRel σ' h W'->σ' d=some (R,M) ->
   HRel (σ'.add h.size (W'.heap.size,0)) (h.push (.loop { state:=.ready,pending:=none,fn:=fr.fn,tmps:=s.tmps,params:=params.toList,assign,body,defers:=d })) (W'.alloc (.loop { state:=.ready,pending:=none,fn:=b.fn,tmps:=T,params,assign,body,defers:=R })) /\
   Good σ' h W' (σ'.add h.size (W'.heap.size,0)) (h.push (.loop { state:=.ready,pending:=none,fn:=fr.fn,tmps:=s.tmps,params:=params.toList,assign,body,defers:=d })) (W'.alloc (.loop { state:=.ready,pending:=none,fn:=b.fn,tmps:=T,params,assign,body,defers:=R })):=by
  intro σ' h W' R M hs hr hd
  have hsub:=Sub.add (x:=(W'.heap.size,0)) hr.fresh
  exact hr.alloc _ _ 0 ⟨_,rfl,rfl,rfl,fb.1,TRel.mono (hs.trans hsub) sr.t,rfl,rfl,rfl,M,hsub _ _ hd⟩
 unfold GI at e
 split at e
 .rename_i l hl
  split at e
  .rename_i w a hg
   simp only [Option.some.injEq,Prod.mk.injEq] at e
   obtain ⟨rfl,rfl,rfl⟩:=e
   have h2:=fb.2
   rw [hl] at h2
   obtain ⟨B0,N0,h3,h4⟩:=h2
   obtain ⟨L,hL,⟨_,e1,_,_,_,_,_,_,_,M,hM⟩,_⟩:=kD sr.h hg h3
   cases e1
   obtain ⟨r1,g1⟩:=made σ s.hp W L.defers M (Sub.refl _) sr.h hM
   refine ⟨_,_,W.heap.size,[],?_,aM,DRel.mono g1.sub sr.d,r1,g1⟩
   simp only [Instr.enterLoop,h4,Sem.run_bind,jq hL,Result.andThen_ok,Sem.run_pure,Ji]
  .cases e
 .rename_i hl
  simp only [Option.some.injEq,Prod.mk.injEq] at e
  obtain ⟨rfl,rfl,rfl⟩:=e
  have h2:=fb.2
  rw [hl] at h2
  obtain ⟨r0,g0⟩:=sr.h.alloc (.defers false) (.deferred (some [])) 0 (by simp [BRel])
  obtain ⟨r1,g1⟩:=made _ _ _ W.heap.size 0 g0.sub r0 aM
  refine ⟨_,_,(W.alloc (.deferred (some []))).heap.size,[{ target:=.collected W.heap.size,args:=#[] }],?_,aM,⟨W.heap.size,0,D,g1.sub _ _ aM,rfl,DRel.mono (g0.sub.trans g1.sub) sr.d⟩,r1,g0.trans r0.ok r1.ok g1⟩
  simp only [Instr.enterLoop,h2,Sem.run_bind,Result.andThen_ok,Sem.run_pure,Ji]
section whole
variable {C:Ctx} {r:Rec}
theorem KD (co:CtxOk C) (ro:RecOk C r) {fr:AFr} {f:Operand} {params:Array Tmp} {assign body:Code} {s:St} {q:R} (e:Ca C r fr (ai C s f) params.toList assign body s=some q):CodeOk C fr (.rangeFunc f params assign body) s q:=by
 unfold Ca at e
 split at e
 .cases e
 .rename_i d mark h har
  split at e
  .rename_i g first cap hf
   simp only at e
   split at e
   .cases e
   .rename_i q' hq
    split at e
    .cases e
    .rename_i m hm
     cases e
     intro σ T D W gr sr b k todo cs hst fb
     rcases hst with rfl|⟨_,h,_⟩
     .intro hn
      have hfv:=cB (s:=s) gr sr.t f
      rw [hf] at hfv
      obtain ⟨F,K,hF,hf1,hf2⟩:=hfv
      obtain ⟨τ,X,B,M,hen,hτ,hdr,r1,g1⟩:=MR (P:=C.P) har sr fb params assign body
      obtain ⟨hcall,fn,hfn,hbody⟩:=yf co ro hq
      have hA:VRels τ (first++[.yield h.size]++cap) (F++#[Value.func (.yield B) #[] #[]]++K).toList:=by
       simp only [Array.toList_append]
       exact VRels.append (VRels.append (VRels.mono g1.sub _ _ hf1) ⟨_,[],rfl,⟨B,0,hτ,rfl⟩,rfl⟩) (VRels.mono g1.sub _ _ hf2)
      obtain ⟨e,h1,υ,V,Y,fr',h2,h3,h4,h5,h6⟩:=hcall τ _ X (gr.mono g1.sub) r1 hA hn (b.fr T (M++D) (.inRangeFunc B :: k) :: cs)
      obtain ⟨x,s',q1,q2⟩:=(sU hm).2 e h1
      refine ⟨_,q2,?_⟩
      unfold rY at q1
      split at q1
      .cases q1
      rename_i hpa
      replace h6:=h6.ret hpa
      split at q1
      .rename_i w a hg
       obtain ⟨L,p1,⟨_,e1,f1,f2,_⟩,wr⟩:=kD h3 hg (h4.sub _ _ hτ)
       cases e1
       have hstate:∀ (y:Option Ent),(match a.state with|.busy=>none|_=>y)=some ⟨e.g,x,s'⟩->L.state≠.busy/\y=some ⟨e.g,x,s'⟩:=by
        intro y hy
        rw [f1]
        split at hy
        .cases hy
        .rename_i hb; exact ⟨hb,hy⟩
       obtain ⟨hnb,q1⟩:=hstate _ q1
       split at q1
       .cases q1
       .rename_i x' hj
        rw [Hp.set_eq] at q1
        simp only [Option.some.injEq,Ent.mk.injEq] at q1
        obtain ⟨-,rfl,rfl⟩:=q1
        obtain ⟨r5,g5⟩:=wr .exhausted a.pending
        have hw:({ L with state:=LoopState.exhausted,pending:=a.pending }:Loop)={ L with state:=LoopState.exhausted }:=by rw [<- f2]
        rw [hw] at r5 g5
        have gg:=(g1.trans r1.ok h3.ok h4).trans h3.ok r5.ok g5
        refine ⟨υ,T,M++D,_,⟨TRel.mono gg.sub sr.t,DRel.mono h4.sub hdr,r5⟩,⟨gg,⟨rfl,fun _ _ h=>.inl h⟩⟩,?_⟩
        have hsteps:∀ pd,L.pending=pd->Steps C.P (lone (b.fr T D (.code (.rangeFunc f params assign body) :: k)) cs W) (lone (b.fr T (M++D) ((pd.map Item.code).toList++k)) cs { Y with heap:=Y.heap.setIfInBounds B (.loop { L with state:=.exhausted }) }):=by
         rintro _ rfl
         refine .head (MQ hen hF hfn hbody co.prog) (h5.trans (.head (x8 h6) (.one ?_)))
         have hfin:(b.fr T (M++D) (.inRangeFunc B :: k)).finish V=b.fr T (M++D) (.endRangeFunc B :: k):=by simp [Frame.finish,Base.fr]
         rw [hfin]
         exact ED p1 hnb
        replace hsteps:=hsteps _ f2
        generalize ({ Y with heap:=Y.heap.setIfInBounds B (.loop { L with state:=.exhausted }) }:World)=Z at hsteps
        unfold L6 at hj
        split at hj
        .cases hj; rename_i hp; rw [hp] at hsteps; exact hsteps
        .cases hj; rename_i hp; rw [hp] at hsteps; exact ⟨k,hsteps⟩
        .cases hj; rename_i hp; rw [hp] at hsteps; exact ⟨k,rfl,hsteps⟩
        .cases hj; rename_i hp; rw [hp] at hsteps; exact ⟨k,rfl,hsteps⟩
        .cases hj
      .cases q1
     .cases h
  .cases e
theorem run_ok (co:CtxOk C) (dr:∀ r,RecOk C r->G5 C r):∀ n,RecOk C (run C n)
 | 0=>⟨fun _ _ _ _ e=>(by cases e),fun _ _ _ _ e=>(by cases e),fun _ _ _ _ e=>(by cases e)⟩
 | n+1=>by
  have ro:=run_ok co dr n
  exact ⟨fun fr c s q e=>MJ co ro (dr _ ro) (fun _ _ _ _ _ _ _ e=>KD co ro e) e,fun f args h q e=>MO co ro e,fun l args h q e=>KC ro e⟩
end whole
end Go.Eng
