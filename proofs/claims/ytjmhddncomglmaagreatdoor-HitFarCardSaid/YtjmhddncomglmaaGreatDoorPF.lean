/- What is proved: a law of hits returns true, whatever the input (part 6). No conditions beyond those of the row. -/
import Derived.Test.YtjmhddncomglmaaGreatDoorPE
import Derived.WideKeyElems2
import Derived.ChangeSlices
import Derived.MakeChecks
import Derived.WalkKit
import Derived.ProofKit
import Derived.OpenShut
import Derived.WideKeyArgs
import Derived.Laws.Bits64b
import Derived.Lib.BitFns
set_option linter.unusedVariables false
set_option linter.unusedSimpArgs false
set_option linter.unusedSectionVars false
namespace Go.Eng
open Go
theorem laid_get {P:Program} {w:World}:∀ {laid:List (String×DataW Unit)} {ps:List MemPlace},DataW.LaidVars P w laid ps->∀ {n:String} {d:DataW Unit},(n,d)∈laid ->
  ∃ g t cs fuel p,P.globalNamed n=some g/\(P.globals[g]?).map (·.type)=some t/\w.var? P n=some cs/\DataW.trod (fun _=>()) P w 0 (fun _=>true) false fuel t cs.toList=some (d,p)/\∀ x∈MemPlace.row ⟨g,0,none⟩ cs.size,x∈ps
 | [],_,_,_,_,h=>by cases h
 | (m,e) :: laid,ps,h,n,d,hm=>by
  obtain ⟨g,t,cs,fuel,p,q,h1,h2,h3,h4,h5,rfl⟩:=h
  rcases List.mem_cons.1 hm with hm|hm
  .cases hm
   exact ⟨g,t,cs,fuel,p,h1,h2,h3,h4,fun x hx=>by simp [hx]⟩
  .obtain ⟨g',t',cs',fuel',p',k1,k2,k3,k4,k5⟩:=laid_get h5 hm
   exact ⟨g',t',cs',fuel',p',k1,k2,k3,k4,fun x hx=>by simp [k5 x hx]⟩
theorem laid_cells {P:Program} {w:World} {laid:List (String×DataW Unit)} (h:laidMetH P laid w) (hl:(laid.all fun x=>x.2.handleName?.isNone)=true) {n:String} {d:DataW Unit} (hm:(n,d)∈laid) {g t:Nat} (hg:P.globalNamed n=some g) (ht:(P.globals[g]?).map (·.type)=some t) (hpos:0<P.cellsOf t)
  (hlen:∀ fuel cs p,DataW.trod (fun _=>()) P w 0 (fun _=>true) false fuel t cs=some (d,p)->cs.length=P.cellsOf t):
  ∃ cs e fuel p,w.heap[g]?=some (.cells cs e (0,0))/\DataW.trod (fun _=>()) P w 0 (fun _=>true) false fuel t cs.toList=some (d,p):=by
 rw [MakeChecks.laidMetH_plain _ _ _ hl] at h
 obtain ⟨ps,hv,hnd,hfr⟩:=h
 obtain ⟨g',t',cs,fuel,p,h1,h2,h3,h4,h5⟩:=laid_get hv hm
 obtain rfl:=Option.some.inj (hg.symm.trans h1)
 obtain rfl:=Option.some.inj (ht.symm.trans h2)
 have hs:cs.size=P.cellsOf t:=by rw [<- Array.length_toList]; exact hlen _ _ _ h4
 have hmem:MemPlace.cell g 0∈ps:=h5 _ (MemPlace.mem_row.2 ⟨0,by omega,rfl⟩)
 obtain ⟨⟨c,e,h6⟩,_⟩:=hfr g 0 hmem
 have hc:c=cs:=by
  simp only [World.var?,hg,Option.bind_some,h6] at h3
  cases h3; rfl
 subst hc
 exact ⟨c,e,fuel,p,h6,h4⟩
theorem arr_ints {P:Program} {w:World} {t e n:Nat} {k:IntKind} (ht:P.underlying t=some (.array n e)) (he:P.underlying e=some (.int k)) (c1:P.cellsOf e=1) (cn:P.cellsOf t=n) {ns:List Int} (hn:ns.length=n) {fuel:Nat} {cs:List Value} {p:List MemPlace}
  (h:DataW.trod (fun _=>()) P w 0 (fun _=>true) false fuel t cs=some (.agg (ns.map fun n=>.lit (.int k n)),p)):cs=ns.map (Value.int k):=by
 obtain ⟨xs,m,_,hx,hl,hxl,hf⟩:=DataW.trod_array ht h
 obtain ⟨hx1,_⟩:=Prod.mk.inj hx
 injection hx1 with hx1
 rw [cn] at hl
 apply List.ext_getElem?
 intro i
 by_cases hi:i<n
 .have h1:=hf i hi
  rw [c1,Nat.mul_one,List.getElem?_eq_getElem (by omega)] at h1
  obtain ⟨z,q1,q2,_⟩:=DataW.trod_int he h1
  have h2:cs[i]?=some (.int k z):=by
   have:((cs.drop i).take 1)[0]?=some (.int k z):=by rw [q1]; rfl
   simpa using this
  have h3:=congrArg (fun l=>l[i]?) hx1
  simp only [List.getElem?_map,List.getElem?_eq_getElem (show i<xs.length by omega),q2,Option.map_some] at h3
  rw [h2]
  cases hz:ns[i]? with
  | none=>rw [hz] at h3; cases h3
  | some y=>
   rw [hz] at h3
   simp only [Option.map_some,Option.some.injEq,DataW.lit.injEq,Lit.int.injEq,true_and] at h3
   rw [List.getElem?_map,hz,Option.map_some,h3]
 .rw [List.getElem?_eq_none (by omega),List.getElem?_eq_none (by simp; omega)]
theorem two_ints {P:Program} {w:World} {t e:Nat} {k:IntKind} {f0 f1:Field} (ht:P.underlying t=some (.struct #[f0,f1])) (e0:f0.type=e) (e1:f1.type=e) (o0:f0.offset=0) (o1:f1.offset=1) (he:P.underlying e=some (.int k)) (c1:P.cellsOf e=1) (c2:P.cellsOf t=2) {x y:Int} {fuel:Nat} {cs:List Value} {p:List MemPlace}
  (h:DataW.trod (fun _=>()) P w 0 (fun _=>true) false fuel t cs=some (.agg [.lit (.int k x),.lit (.int k y)],p)):cs=[.int k x,.int k y]:=by
 obtain ⟨y0,y1,n,hx,hl,h0,h1⟩:=ChangeShapes.trod_struct2 ht h
 rw [c2] at hl
 rw [e0,o0,c1] at h0
 rw [e1,o1,c1] at h1
 obtain ⟨n0,m1,m2,_⟩:=DataW.trod_int he h0
 obtain ⟨n1,m3,m4,_⟩:=DataW.trod_int he h1
 obtain ⟨hx1,_⟩:=Prod.mk.inj hx
 injection hx1 with hx1
 rw [m2,m4] at hx1
 match cs,hl with
 | [a,b],_=>
  simp only [List.drop_zero,List.take_succ_cons,List.take_zero,List.cons.injEq,List.drop_succ_cons,and_true] at m1 m3
  simp only [List.cons.injEq,DataW.lit.injEq,Lit.int.injEq,true_and,and_true] at hx1
  rw [m1,m3,hx1.1,hx1.2]
theorem trod_len_arr {P:Program} {w:World} {t e n:Nat} (ht:P.underlying t=some (.array n e)) {d:DataW Unit} (fuel:Nat) (cs:List Value) (p:List MemPlace) (h:DataW.trod (fun _=>()) P w 0 (fun _=>true) false fuel t cs=some (d,p)):cs.length=P.cellsOf t:=by
 obtain ⟨_,_,_,_,hl,_⟩:=DataW.trod_array ht h
 exact hl
theorem trod_len_struct {P:Program} {w:World} {t:Nat} {fs:Array Field} (ht:P.underlying t=some (.struct fs)) {d:DataW Unit} (fuel:Nat) (cs:List Value) (p:List MemPlace) (h:DataW.trod (fun _=>()) P w 0 (fun _=>true) false fuel t cs=some (d,p)):cs.length=P.cellsOf t:=by
 obtain ⟨_,_,_,_,hl,_⟩:=DataW.trod_struct ht h
 exact hl
def intBlks:List (Nat×IntKind×List Int)->List ABlk
 | []=>[]
 | (_,k,ns) :: l=>⟨0,.cells (ns.map fun n=>.int false k n)⟩ :: intBlks l
def intSg (l:List (Nat×IntKind×List Int)):Sg:=fun i=>match l[l.length - 1 - i]? with
 | some (g,_,ns)=>if i<l.length then some (g,ns.length) else none
 | none=>none
theorem rels_ints {σ:Sg} {k:IntKind}:∀ ns:List Int,VRels σ (ns.map fun n=>.int false k n) (ns.map (Value.int k))
 | []=>rfl
 | n :: ns=>⟨_,_,rfl,rfl,rels_ints ns⟩
theorem int_rel {W:World} {l:List (Nat×IntKind×List Int)} (hd:(l.map (·.1)).Nodup) (h:∀ x∈l,∃ cs e,W.heap[x.1]?=some (.cells cs e (0,0))/\cs.toList=x.2.2.map (Value.int x.2.1)):HRel (intSg l) ⟨intBlks l,l.length,1⟩ W:=by
 have blk:∀ (m:List (Nat×IntKind×List Int)) (j:Nat),(intBlks m)[j]?=(m[j]?).map fun x=>⟨0,.cells (x.2.2.map fun n=>.int false x.2.1 n)⟩:=by
  intro m
  induction m with
  | nil=>intro j; rfl
  | cons x m ih=>intro j; cases j with
   | zero=>rfl
   | succ j=>simpa [intBlks] using ih j
 have len:∀ m:List (Nat×IntKind×List Int),(intBlks m).length=m.length:=by
  intro m
  induction m with
  | nil=>rfl
  | cons x m ih=>simp [intBlks,ih]
 have get:∀ i b,(⟨intBlks l,l.length,1⟩:Hp).get i=some b->i<l.length/\∃ x,l[l.length - 1 - i]?=some x/\b=⟨0,.cells (x.2.2.map fun n=>.int false x.2.1 n)⟩:=by
  intro i b hb
  have hi:=Hp.get_lt hb
  rw [Hp.get_eq,if_pos hi] at hb
  simp only at hb hi
  rw [blk] at hb
  cases hx:l[l.length - 1 - i]? with
  | none=>rw [hx] at hb; cases hb
  | some x=>rw [hx] at hb; cases hb; exact ⟨hi,x,rfl,rfl⟩
 have sg:∀ i x,i<l.length->l[l.length - 1 - i]?=some x->intSg l i=some (x.1,x.2.2.length):=by
  intro i x hi hx
  unfold intSg
  rw [hx]
  simp [hi]
 refine ⟨len l,fun i b hb hdd=>?_,fun i B N e=>?_,fun i j b c B N M hb hc _ _ e1 e2=>?_⟩
 .obtain ⟨hi,x,hx,rfl⟩:=get i b hb
  obtain ⟨cs,e,h1,h2⟩:=h x (List.mem_of_getElem? hx)
  exact ⟨x.1,x.2.2.length,_,sg i x hi hx,h1,cs,e,rfl,by rw [h2]; exact rels_ints _,by rw [<- Array.length_toList,h2,List.length_map]⟩
 .unfold intSg at e
  split at e
  .rename_i x g k ns hx
   split at e
   .rename_i hi
    cases e
    obtain ⟨cs,e',h1,_⟩:=h _ (List.mem_of_getElem? hx)
    exact ⟨hi,(Array.getElem?_eq_some_iff.1 h1).1⟩
   .cases e
  .cases e
 .obtain ⟨hi,x,hx,_⟩:=get i b hb
  obtain ⟨hj,y,hy,_⟩:=get j c hc
  rw [sg i x hi hx] at e1
  rw [sg j y hj hy] at e2
  left
  have hxy:x.1=y.1:=by
   simp only [Option.some.injEq,Prod.mk.injEq] at e1 e2
   rw [e1.1,e2.1]
  have hx':(l.map (·.1))[l.length - 1 - i]?=some x.1:=by rw [List.getElem?_map,hx]; rfl
  have hy':(l.map (·.1))[l.length - 1 - j]?=some x.1:=by rw [List.getElem?_map,hy,hxy]; rfl
  have:=(List.getElem?_inj (by simp; omega) hd).1 (hx'.trans hy'.symm)
  omega
end Go.Eng
namespace Go.Eng
open Go
mutual
def Sh.leaves:Sh->List Sh
 | .a l=>Sh.leavesL l
 | .i k=>[.i k]
 | .b=>[.b]
 | .c v=>[.c v]
 | .str=>[.str]
 | .one=>[.one]
def Sh.leavesL:List Sh->List Sh
 | []=>[]
 | h :: l=>h.leaves++Sh.leavesL l
end
theorem inRange_append:∀ {l m:List Sh} {xs ys:List Nu},inRange l xs->inRange m ys->inRange (l++m) (xs++ys)
 | [],_,[],_,_,h=>h
 | [],_,_ :: _,_,h,_=>by simp [inRange] at h
 | .i k :: l,m,.n x :: xs,ys,h,h'=>⟨h.1,inRange_append (l:=l) h.2 h'⟩
 | .b :: l,m,.t x :: xs,ys,h,h'=>inRange_append (l:=l) (show inRange l xs from h) h'
 | .str :: l,m,.s x :: xs,ys,h,h'=>inRange_append (l:=l) (show inRange l xs from h) h'
 | .c v :: l,m,xs,ys,h,h'=>by
  have h1:inRange l xs:=by cases xs <;> simpa [inRange] using h
  have:=inRange_append h1 h'
  show inRange (.c v :: (l++m)) (xs++ys)
  cases hz:xs++ys <;> rw [hz] at this <;> simpa [inRange] using this
 | .i _ :: _,_,[],_,h,_=>by simp [inRange] at h
 | .i _ :: _,_,.t _ :: _,_,h,_=>by simp [inRange] at h
 | .b :: _,_,[],_,h,_=>by simp [inRange] at h
 | .str :: _,_,[],_,h,_=>by simp [inRange] at h
 | .str :: _,_,.n _ :: _,_,h,_=>by simp [inRange] at h
 | .str :: _,_,.t _ :: _,_,h,_=>by simp [inRange] at h
 | .b :: _,_,.s _ :: _,_,h,_=>by simp [inRange] at h
 | .i _ :: _,_,.s _ :: _,_,h,_=>by simp [inRange] at h
 | .one :: _,_,[],_,h,_=>by simp [inRange] at h
 | .one :: _,_,_ :: _,_,h,_=>by simp [inRange] at h
 | .b :: _,_,.n _ :: _,_,h,_=>by simp [inRange] at h
 | .a _ :: _,_,[],_,h,_=>by simp [inRange] at h
 | .a _ :: _,_,_ :: _,_,h,_=>by simp [inRange] at h
theorem leaves_ofL {P:Program}:∀ ts:List TypeId,Sh.leavesL (Sh.ofL P ts)=Sh.ofL P ts
 | []=>rfl
 | t :: ts=>by
  simp only [Sh.ofL,Sh.leavesL,leaves_ofL ts]
  unfold Sh.of
  split <;> rfl
def shapeT (P:Program) (t:TypeId):Option Sh:=
 match P.underlying t with
 | some (.int k)=>some (.i k)
 | some .bool=>some .b
 | some (.struct _)=>match P.cellTypes P.depth t with
  | some ts=>match Nat.beq (P.cellsOf t) ts.length&&Nat.blt 0 ts.length with
   | true=>some (.a (Sh.ofL P ts))
   | false=>none
  | none=>none
 | some (.array _ _)=>match P.cellTypes P.depth t with
  | some ts=>match Nat.beq (P.cellsOf t) ts.length&&Nat.blt 0 ts.length with
   | true=>some (.a (Sh.ofL P ts))
   | false=>none
  | none=>none
 | _=>none
def shapesT (P:Program):List TypeId->Option (List Sh)
 | []=>some []
 | t :: ts=>match shapeT P t with
  | none=>none
  | some s=>match shapesT P ts with
   | none=>none
   | some l=>some (s :: l)
theorem law_one {P:Program} {W:World} {base:Nat} {σ:Sg} {t:TypeId} {v:Value} {s:Sh} (hs:shapeT P t=some s) (h:Value.okWide P W .any base t v):
  ∃ xs,xs.map Nu.isN=s.kinds/\inRange s.leaves xs/\∀ ys,(Sh.mk s (xs++ys)).2=ys/\VRel σ (Sh.mk s (xs++ys)).1 v:=by
 have agg:∀ ts,isAggT P t=some true->P.cellTypes P.depth t=some ts->(Nat.beq (P.cellsOf t) ts.length&&Nat.blt 0 ts.length)=true->∃ xs,xs.map Nu.isN=(Sh.a (Sh.ofL P ts)).kinds/\inRange (Sh.a (Sh.ofL P ts)).leaves xs/\∀ ys,(Sh.mk (.a (Sh.ofL P ts)) (xs++ys)).2=ys/\VRel σ (Sh.mk (.a (Sh.ofL P ts)) (xs++ys)).1 v:=by
  intro ts hag hts hc
  simp only [Bool.and_eq_true] at hc
  have hsz:=Nat.eq_of_beq_eq_true hc.1
  have key:∃ cs,v=.agg cs/\cs.size=P.cellsOf t/\Row.okWide P W .any base t cs:=by
   unfold Value.okWide at h
   unfold isAggT at hag
   split at h
   .exact h
   .exact h
   .rename_i h1 h2
    split at hag
    .cases hag
    .rename_i fs hu; exact absurd hu (h1 fs)
    .rename_i n e hu; exact absurd hu (h2 n e)
    .cases hag
  obtain ⟨cs,rfl,hcs,ts',ht',_,hcell⟩:=key
  rw [hts] at ht'; cases ht'
  obtain ⟨xs,h1,h2,h3⟩:=law_cells (P:=P) (W:=W) (base:=base) (σ:=σ) (ts:=ts) (cs:=cs.toList) (by simp [hcs,hsz]) fun i v hv=>by
   rw [Array.getElem?_toList] at hv
   obtain ⟨u,hu,ho⟩:=hcell i v hv
   have hi:i<ts.length:=by
    have:=(Array.getElem?_eq_some_iff.1 hv).1
    omega
   rw [Nat.mod_eq_of_lt hi] at hu
   exact ⟨u,hu,ho⟩
  refine ⟨xs,h1,by show inRange (Sh.leavesL (Sh.ofL P ts)) xs; rw [leaves_ofL]; exact h2,fun ys=>?_⟩
  obtain ⟨a1,a2⟩:=h3 ys
  have e:Sh.mk (.a (Sh.ofL P ts)) (xs++ys)=(.agg (Sh.mkL (Sh.ofL P ts) (xs++ys)).1,(Sh.mkL (Sh.ofL P ts) (xs++ys)).2):=rfl
  rw [e]
  exact ⟨a1,cs,rfl,a2⟩
 unfold shapeT at hs
 split at hs
 .rename_i k hu
  cases hs
  have hc:Cell.okWide P W .any base t v:=by
   unfold Value.okWide at h
   rw [hu] at h
   exact h
  unfold Cell.okWide at hc
  rw [hu] at hc
  unfold Cell.ok at hc
  simp only at hc
  rw [hu] at hc
  cases v <;> simp only at hc <;> first|exact hc.elim|skip
  rename_i k' n
  obtain ⟨rfl,hn⟩:=hc
  exact ⟨[.n n],rfl,⟨hn,trivial⟩,fun ys=>⟨rfl,rfl⟩⟩
 .rename_i hu
  cases hs
  have hc:Cell.okWide P W .any base t v:=by
   unfold Value.okWide at h
   rw [hu] at h
   exact h
  unfold Cell.okWide at hc
  rw [hu] at hc
  unfold Cell.ok at hc
  simp only at hc
  rw [hu] at hc
  cases v <;> simp only at hc <;> first|exact hc.elim|skip
  rename_i b
  exact ⟨[.t b],rfl,trivial,fun ys=>⟨rfl,rfl⟩⟩
 .rename_i fs hu
  split at hs
  .rename_i ts hts
   split at hs
   .rename_i hc
    cases hs
    exact agg ts (by unfold isAggT; rw [hu]) hts hc
   .cases hs
  .cases hs
 .rename_i n e hu
  split at hs
  .rename_i ts hts
   split at hs
   .rename_i hc
    cases hs
    exact agg ts (by unfold isAggT; rw [hu]) hts hc
   .cases hs
  .cases hs
 .cases hs
theorem law_args {P:Program} {W:World} {base:Nat} {σ:Sg}:∀ {ts:List TypeId} {shs:List Sh} {vs:List Value},shapesT P ts=some shs->vs.length=ts.length->(∀ (j:Nat) t v,ts[j]?=some t->vs[j]?=some v->Value.okWide P W .any base t v) ->
  ∃ xs,xs.map Nu.isN=Sh.kindsL shs/\inRange (Sh.leavesL shs) xs/\∀ ys,(Sh.mkL shs (xs++ys)).2=ys/\VRels σ (Sh.mkL shs (xs++ys)).1 vs
 | [],shs,vs,hs,hl,_=>by
  cases hs
  have:vs=[]:=by simpa using hl
  subst this
  exact ⟨[],rfl,trivial,fun ys=>⟨rfl,rfl⟩⟩
 | t :: ts,shs,[],_,hl,_=>by simp at hl
 | t :: ts,shs,v :: vs,hs,hl,h=>by
  simp only [shapesT] at hs
  split at hs
  .cases hs
  .rename_i s h1
   split at hs
   .cases hs
   .rename_i l h2
    cases hs
    obtain ⟨x,a1,a2,a3⟩:=law_one (σ:=σ) h1 (h 0 t v rfl rfl)
    obtain ⟨xs,b1,b2,b3⟩:=law_args (σ:=σ) (ts:=ts) (vs:=vs) h2 (by simpa using hl) fun j t' v' k1 k2=>h (j+1) t' v' (by simpa using k1) (by simpa using k2)
    refine ⟨x++xs,by simp [Sh.kindsL,a1,b1],inRange_append a2 b2,fun ys=>?_⟩
    obtain ⟨c1,c2⟩:=a3 (xs++ys)
    obtain ⟨d1,d2⟩:=b3 ys
    have e:x++xs++ys=x++(xs++ys):=List.append_assoc ..
    simp only [Sh.mkL,e]
    rw [show Sh.mk s (x++(xs++ys))=((Sh.mk s (x++(xs++ys))).1,xs++ys) from Prod.ext rfl c1]
    exact ⟨d1,v,vs,rfl,c2,d2⟩
def LawTrue (P:Program) (glob:Nat->Option Nat) (hG:Hp) (f:FuncId) (args:List AV):Prop:=
 ∃ (C:Ctx) (n:Nat) (nd:Nd) (s p:Bool),CtxOk C/\C.P=P/\C.glob=glob/\oneG hG.size hG.clock ((run C n).call f args hG)=some (nd,.bool s p)/\nd.val/\p=true
theorem law_walk {P:Program} {glob:Nat->Option Nat} {hG:Hp} (old:allOld hG.clock hG.blks=true) {f:FuncId} {ts:List TypeId} {shs:List Sh} (hs:shapesT P ts=some shs)
  (hT:∀ xs,xs.map Nu.isN=Sh.kindsL shs->inRange (Sh.leavesL shs) xs->LawTrue P glob hG f (Sh.mkL shs xs).1) {W:World} {base:Nat} {σ:Sg} {A:Array Value} (g:∀ gl i,glob gl=some i->∃ N,σ i=some (gl,N)) (r:HRel σ hG W) (hl:A.toList.length=ts.length)
  (hv:∀ (j:Nat) t v,ts[j]?=some t->A.toList[j]?=some v->Value.okWide P W .any base t v):
  Calls P f A W fun e w'=>e=.returned (.bool true)/\RowKit.Grown W w'/\∀ B,B<W.heap.size->w'.heap[B]?=W.heap[B]?:=by
 obtain ⟨xs,h1,h2,h3⟩:=law_args (σ:=σ) hs hl hv
 obtain ⟨_,h4⟩:=h3 []
 rw [List.append_nil] at h4
 obtain ⟨C,n,nd,s,p,co,rfl,rfl,h5,h6,h7⟩:=hT xs h1 h2
 exact law_calls co old h5 h6 h7 g r h4
theorem same_at {W W':World} (h:∀ B,B<W.heap.size->W'.heap[B]?=W.heap[B]?) {p:MemPlace} (hp:p.block<W.heap.size):W.sameAt W' p:=by
 cases p with
 | cell b off=>
  show W'.cell? _=W.cell? _
  unfold World.cell?
  rw [h b hp]
 | map b=>exact h b hp
theorem trodAll_stays {H:Type} {enc:TypeId×Value->H} {P:Program} {base:Nat} (hl:laidOutB P=true):∀ {ts:List TypeId} {vs:List Value} {ds:List (DataW H)} {ps:List MemPlace} {W W':World} {sp:Nat->Bool},(ts.all fun t=>P.readableRec t&&decide (t<P.types.size))=true ->
  DataW.TrodAll enc P W base (fun _=>true) true ts vs ds ps->(∀ p∈ps,W.sameAt W' p)->(∀ p∈ps,sp p.block=true)->DataW.TrodAll enc P W' base sp true ts vs ds ps
 | [],[],[],_,_,_,_,_,h,_,_=>h
 | [],_ :: _,_,_,_,_,_,_,h,_,_=>by simp [DataW.TrodAll] at h
 | [],[],_ :: _,_,_,_,_,_,h,_,_=>by simp [DataW.TrodAll] at h
 | _ :: _,[],_,_,_,_,_,_,h,_,_=>by simp [DataW.TrodAll] at h
 | _ :: _,_ :: _,[],_,_,_,_,_,h,_,_=>by simp [DataW.TrodAll] at h
 | t :: ts,v :: vs,d :: ds,ps,W,W',sp,hr,h,h1,h2=>by
  obtain ⟨p,p',a,b,rfl⟩:=h
  simp only [List.all_cons,Bool.and_eq_true,decide_eq_true_eq] at hr
  exact ⟨p,p',Go.WideElems.Trod_stays hl hr.1.1 hr.1.2 a (fun x hx=>h1 x (by simp [hx])) (fun x hx=>h2 x (by simp [hx])),trodAll_stays hl hr.2 b (fun x hx=>h1 x (by simp [hx])) (fun x hx=>h2 x (by simp [hx])),rfl⟩
theorem trod_lens {H:Type} {enc:TypeId×Value->H} {P:Program} {W:World} {base:Nat} {sp:Nat->Bool} {hd:Bool}:∀ {ts:List TypeId} {vs:List Value} {ds:List (DataW H)} {ps:List MemPlace},DataW.TrodAll enc P W base sp hd ts vs ds ps->vs.length=ts.length/\ds.length=ts.length
 | [],[],[],_,_=>⟨rfl,rfl⟩
 | [],_ :: _,_,_,h=>by simp [DataW.TrodAll] at h
 | [],[],_ :: _,_,h=>by simp [DataW.TrodAll] at h
 | _ :: _,[],_,_,h=>by simp [DataW.TrodAll] at h
 | _ :: _,_ :: _,[],_,h=>by simp [DataW.TrodAll] at h
 | t :: ts,v :: vs,d :: ds,ps,h=>by
  obtain ⟨p,p',a,b,rfl⟩:=h
  obtain ⟨h1,h2⟩:=trod_lens b
  simp [h1,h2]
end Go.Eng
namespace Go.Eng
open Go
def Hp.push0 (h:Hp) (b:ABody):Hp:=⟨⟨0,b⟩ :: h.blks,h.size+1,h.clock⟩
theorem Hp.get_push0 {h:Hp} (b:ABody) (j:Nat):(h.push0 b).get j=if j=h.size then some ⟨0,b⟩ else h.get j:=by
 rw [Hp.get_eq,Hp.get_eq]
 simp only [Hp.push0]
 by_cases e:j=h.size
 .subst e; simp
 .by_cases hj:j<h.size
  .have:j<h.size+1:=by omega
   simp only [this,if_true,e,if_false,hj]
   rw [show h.size+1 - 1 - j=(h.size - 1 - j)+1 by omega]
   simp
  .have:¬ j<h.size+1:=by omega
   simp [this,e,hj]
structure Bytes (W:World) (v:Value) (n:Int) (zs:List Int):Prop where
 val:∃ p c,v=.slice p zs.length c/\zs.length<=c/\(zs≠[]->∃ B N,p=some ⟨B,N,none⟩/\∀ i,i<zs.length->W.cell? ⟨B,N+i,none⟩=some (.int .u8 (zs.getD i 0)))
 len:n=zs.length
 rng:∀ z∈zs,0<=z/\z<=255
end Go.Eng
namespace Go.Eng
open Go
noncomputable section
abbrev HSpec:=List AV->Hp->Option (Nd×AV)
structure HOk (P:Program) (glob:Nat->Option Nat) (hG:Hp) (f:FuncId) (spec:HSpec):Prop where
 call:∀ args nd v h,spec args h=some (nd,v)->globsSame hG h hG.size=true->CallOk (mkM P glob hG [] noExt) f args h ⟨nd,[⟨.tt,v,h⟩]⟩
 fn:∃ fn:Func,P.funcs[f]?=some fn/\fn.body.isSome=true
def gH (s:PSpec):HSpec:=fun args _=>s args
theorem GOk.h {P:Program} {glob:Nat->Option Nat} {hG:Hp} {f:FuncId} {s:PSpec} (g:GOk P glob hG f s):HOk P glob hG f (gH s):=
 ⟨fun args nd v h e same=>g.call args nd v e h same,g.fn⟩
def orH (s t:HSpec):HSpec:=fun args h=>match s args h with
 | some x=>some x
 | none=>t args h
def conH (hG:Hp):List (FuncId×HSpec)->FuncId->List AV->Hp->Option (Nd×AV×List ABody)
 | [],_,_,_=>none
 | (g,s) :: l,f,args,h=>match Nat.beq f g with
  | true=>match s args h with
   | some (nd,v)=>match globsSame hG h hG.size with
    | true=>some (nd,v,[])
    | false=>none
   | none=>conH hG l f args h
  | false=>conH hG l f args h
theorem conH_some {hG:Hp}:∀ {l:List (FuncId×HSpec)} {f:FuncId} {args:List AV} {h:Hp} {nd:Nd} {v:AV} {bs:List ABody},conH hG l f args h=some (nd,v,bs)->bs=[]/\globsSame hG h hG.size=true/\∃ s,(f,s)∈l/\s args h=some (nd,v)
 | [],f,args,h,nd,v,bs,e=>by cases e
 | (g,s) :: l,f,args,h,nd,v,bs,e=>by
  simp only [conH] at e
  split at e
  .rename_i hb
   have:=Nat.eq_of_beq_eq_true hb
   subst this
   split at e
   .rename_i hs
    split at e
    .rename_i hg
     cases e
     exact ⟨rfl,hg,s,by simp,hs⟩
    .cases e
   .obtain ⟨h1,h2,s',h3,h4⟩:=conH_some e
    exact ⟨h1,h2,s',by simp [h3],h4⟩
  .obtain ⟨h1,h2,s',h3,h4⟩:=conH_some e
   exact ⟨h1,h2,s',by simp [h3],h4⟩
def mkH (P:Program) (glob:Nat->Option Nat) (hG:Hp) (tbl:List (FuncId×HSpec)) (ext:FuncId->List AV->Option (Nd×AV)):Ctx:={ P,glob,con:=conH hG tbl,ext,loop:=fun _ _ _=>none }
theorem mkH_ok {P:Program} {glob:Nat->Option Nat} {hG:Hp} (hp:ProgOk P) {tbl:List (FuncId×HSpec)} {ext:FuncId->List AV->Option (Nd×AV)} (he:ExtOk P ext) (ht:∀ x∈tbl,HOk P glob hG x.1 x.2):CtxOk (mkH P glob hG tbl ext):=by
 refine ⟨hp,fun f args h nd v bs e=>?_,he,fun _ _ _ _ e=>(by cases e),fun _ _ _ _ _ _ _ e=>(by cases e)⟩
 obtain ⟨rfl,hg,s,h1,h2⟩:=conH_some e
 have g:=ht _ h1
 exact ⟨g.call args nd v h h2 hg,g.fn⟩
def coatH (hG:Hp) (l:List AV):Hp:=hG.push0 (.grown l)
def Sg.plus (σ:Sg) (n id:Nat):Sg:=fun i=>if i<n then σ i else if i=n then σ id else none
theorem Sg.low_plus (σ:Sg) (n id:Nat):Sub (σ.low n) (σ.plus n id):=fun i x e=>by
 unfold Sg.low at e
 unfold Sg.plus
 split at e
 .rename_i hi; rw [if_pos hi]; exact e
 .cases e
theorem extra_call {C:Ctx} (co:CtxOk C) {hG:Hp} (ok:hG.ok) (pl:blksPlain hG.size hG.blks=true) (hgl:∀ g i,C.glob g=some i->i<hG.size) {n:Nat} {f:FuncId} {args args0:List AV} {v:AV} {nd:Nd} (hv:v.under hG.size=true) {fc fc0:List AV} (hfc:AV.underL hG.size fc0=true)
  (e:oneG (hG.size+1) hG.clock ((run C n).call f args0 (coatH hG fc0))=some (nd,v)) (h:Hp) (same:globsSame hG h hG.size=true) {id w:Nat} (hid:h.get id=some ⟨w,.grown fc⟩) (hge:hG.size<=id)
  (hf:∀ (σ:Sg) L,VRels σ fc L->VRels σ fc0 L) (hargs:∀ (σ:Sg) L,VRels σ args L->VRels (σ.plus hG.size id) args0 L):CallOk C f args h ⟨nd,[⟨.tt,v,h⟩]⟩:=by
 obtain ⟨k,h1,h2,htm⟩:=oneG_some e
 obtain ⟨hc,hfn⟩:=(run_sound co n).call f args0 (coatH hG fc0) _ h1
 replace hc:=hc.ok (tame_one htm)
 intro σ A W g r hA hn cs
 have gs:=globsSame_get same
 have get0:∀ i c,(coatH hG fc0).get i=some c->(i=hG.size/\c=⟨0,.grown fc0⟩)\/(i<hG.size/\hG.get i=some c):=by
  intro i c hg
  unfold coatH at hg
  rw [Hp.get_push0] at hg
  split at hg
  .rename_i hi; cases hg; exact .inl ⟨hi,rfl⟩
  .exact .inr ⟨Hp.get_lt hg,hg⟩
 obtain ⟨Bx,Nx,ox,x1,x2,x3⟩:=r.blk id _ hid rfl
 have sx:(σ.plus hG.size id) hG.size=some (Bx,Nx):=by unfold Sg.plus; rw [if_neg (Nat.lt_irrefl _),if_pos rfl]; exact x1
 have sl:∀ i,i<hG.size->(σ.plus hG.size id) i=σ i:=fun i hi=>by unfold Sg.plus; rw [if_pos hi]
 have r0:HRel (σ.plus hG.size id) (coatH hG fc0) W:=by
  refine ⟨by have:=ok; simp only [Hp.ok,coatH,Hp.push0,List.length_cons] at this ⊢; omega,fun i c hg hd=>?_,fun i B N e=>?_,fun i j b c B N M hb hc' hd hd' e1 e2=>?_⟩
  .rcases get0 i c hg with ⟨rfl,rfl⟩|⟨hi,hg⟩
   .refine ⟨Bx,Nx,ox,sx,x2,?_⟩
    obtain ⟨K,t,X,Y,y1,y2,y3,y4⟩:=x3
    exact ⟨K,t,X,Y,y1,y2,VRels.mono (Sg.low_plus σ _ id) _ _ (VRels.low _ _ (hf σ _ y3) hfc),y4⟩
   .obtain ⟨b,c',hb,hc',hbc⟩:=gs i hi
    rw [hg] at hc'; cases hc'
    obtain ⟨B,N,o,q1,q2,q3⟩:=r.blk i b hb (by rw [hbc]; exact hd)
    refine ⟨B,N,o,by rw [sl i hi]; exact q1,q2,?_⟩
    rw [hbc] at q3
    exact (q3.low (blksPlain_mem pl c (get_mem hg))).mono (Sg.low_plus σ _ id)
  .unfold Sg.plus at e
   split at e
   .rename_i hi
    exact ⟨Nat.lt_succ_of_lt hi,(r.dom i B N e).2⟩
   .split at e
    .rename_i hi; subst hi
     exact ⟨Nat.lt_succ_self _,(r.dom id B N e).2⟩
    .cases e
  .rcases get0 i b hb with ⟨rfl,rfl⟩|⟨hi,hb⟩ <;> rcases get0 j c hc' with ⟨rfl,rfl⟩|⟨hj,hc'⟩
   .exact .inl rfl
   .exfalso
    obtain ⟨c1,c2,q1,q2,q3⟩:=gs j hj
    rw [hc'] at q2; cases q2
    rw [sx] at e1; cases e1
    rw [sl j hj] at e2
    rcases r.inj id j _ c1 _ _ M hid q1 rfl (by rw [q3]; exact hd') x1 e2 with h8|⟨h8,_⟩
    .omega
    .cases h8
   .exfalso
    obtain ⟨c1,c2,q1,q2,q3⟩:=gs i hi
    rw [hb] at q2; cases q2
    rw [sx] at e2; cases e2
    rw [sl i hi] at e1
    rcases r.inj i id c1 _ _ N _ q1 hid (by rw [q3]; exact hd) rfl e1 x1 with h8|⟨_,h8⟩
    .omega
    .cases h8
   .obtain ⟨b1,b2,p1,p2,p3⟩:=gs i hi
    obtain ⟨c1,c2,q1,q2,q3⟩:=gs j hj
    rw [hb] at p2; cases p2
    rw [hc'] at q2; cases q2
    rw [sl i hi] at e1
    rw [sl j hj] at e2
    have:=r.inj i j b1 c1 B N M p1 q1 (by rw [p3]; exact hd) (by rw [q3]; exact hd') e1 e2
    rw [p3,q3] at this
    exact this
 have g0:GRel C (σ.plus hG.size id):=fun gl i hgi=>by
  obtain ⟨N,hN⟩:=g gl i hgi
  exact ⟨N,by rw [sl i (hgl gl i hgi)]; exact hN⟩
 obtain ⟨x,k1,τ,V,X,fr,k2,k3,k4,k5,k6⟩:=hc _ A W g0 r0 (hargs σ _ hA) hn cs
 have:x=⟨.tt,v,k⟩:=by
  unfold OneC at k1
  simp [G.val] at k1
  exact k1.symm
 subst this
 have hq:Quiet W X:=by
  refine ⟨k4.ext,fun B hB=>k4.keep B hB (fun h=>h) fun i N c e e2=>?_⟩
  have hi:=(r0.dom i B N e).1
  have e2:k.get i=some c:=e2
  have hlt:=Hp.get_lt e2
  rw [Hp.get_eq,if_pos hlt] at e2
  refine allOld_mem h2 c ?_
  rw [dropN_eq]
  have:(k.blks.drop (k.size - (hG.size+1)))[hG.size+1 - 1 - i]?=some c:=by
   rw [List.getElem?_drop,<- e2]
   congr 1
   have h9:(coatH hG fc0).size<=k.size:=k4.mon.size
   have h8:(coatH hG fc0).size=hG.size+1:=rfl
   omega
  exact List.mem_of_getElem? this
 obtain ⟨r1,g1⟩:=r.quiet hq
 refine ⟨⟨.tt,v,h⟩,rfl,σ,V,X,fr,?_,r1,g1,k5,k6⟩
 have l1:=VRel.low _ _ k2 hv
 refine VRel.mono (fun i x hx=>?_) _ _ l1
 unfold Sg.low at hx
 split at hx
 .rename_i hi
  have:=k4.only i x hx (Nat.lt_succ_of_lt hi)
  rw [sl i hi] at this
  exact this
 .cases hx
def splitL:List AV->Option (List AV×AV)
 | []=>none
 | [a]=>some ([],a)
 | a :: l=>match splitL l with
  | none=>none
  | some (i,z)=>some (a :: i,z)
theorem splitL_eq:∀ {l i:List AV} {z:AV},splitL l=some (i,z)->l=i++[z]
 | [],_,_,e=>by cases e
 | [a],i,z,e=>by simp only [splitL,Option.some.injEq,Prod.mk.injEq] at e; rw [<- e.1,<- e.2]; rfl
 | a :: b :: l,i,z,e=>by
  simp only [splitL] at e
  split at e
  .cases e
  .rename_i i' z' h
   cases e
   rw [splitL_eq h]; rfl
def filmSh:Nat->List Sh
 | 0=>[]
 | n+1=>.i .i64 :: .i .i64 :: .i .i64 :: filmSh n
theorem rels_split {σ:Sg}:∀ {l m:List AV} {L:List Value},VRels σ (l++m) L->∃ A B,L=A++B/\VRels σ l A/\VRels σ m B
 | [],m,L,h=>⟨[],L,rfl,rfl,h⟩
 | a :: l,m,L,h=>by
  obtain ⟨v,vs,rfl,h1,h2⟩:=h
  obtain ⟨A,B,rfl,h3,h4⟩:=rels_split h2
  exact ⟨v :: A,B,rfl,⟨v,A,rfl,h1,h3⟩,h4⟩
def coatSpec (hG:Hp) (n:Nat) (sh shs:List Sh) (V:List Nu->List Nu->List Nu->Option (Prop×AV)):HSpec:=fun args h=>
 match args with
 | .agg cells :: rest=>match splitL cells with
  | some (init,.gslice id off m z)=>match Nat.beq m n&&Nat.beq off 0&&Nat.beq z 3&&Nat.ble hG.size id with
   | true=>match h.get id with
    | some ⟨_,.grown fc⟩=>match Sh.readL sh init with
     | some (_,xs)=>match Sh.readL (filmSh n) fc with
      | some (_,ys)=>match Sh.readL shs rest with
       | some (_,zs)=>match V xs ys zs with
        | some (p,v)=>some (.p p,v)
        | none=>none
       | none=>none
      | none=>none
     | none=>none
    | _=>none
   | false=>none
  | _=>none
 | _=>none
end
end Go.Eng
namespace Go.Eng
open Go
noncomputable section
theorem CallOk.tell {C:Ctx} {f:FuncId} {args:List AV} {h:Hp} {nd:Nd} {v v':AV} (c:CallOk C f args h ⟨nd,[⟨.tt,v,h⟩]⟩) (hv:∀ σ V,VRel σ v V->VRel σ v' V):CallOk C f args h ⟨nd,[⟨.tt,v',h⟩]⟩:=by
 intro σ A W g r hA hn cs
 obtain ⟨x,q1,τ,V,X,fr,q2,q3⟩:=c σ A W g r hA hn cs
 have:x=⟨.tt,v,h⟩:=by
  unfold OneC at q1
  simp [G.val] at q1
  exact q1.symm
 subst this
 exact ⟨⟨.tt,v',h⟩,rfl,τ,V,X,fr,hv τ V q2,q3⟩
end
end Go.Eng
namespace Go.Eng
open Go
noncomputable section
abbrev TSpec:=List AV->Hp->Option (Nd×Bool×AV×AV)
structure TOk (P:Program) (glob:Nat->Option Nat) (hG:Hp) (f:FuncId) (spec:TSpec):Prop where
 call:∀ args nd p v w h,spec args h=some (nd,p,v,w)->globsSame hG h hG.size=true->CallOk (mkM P glob hG [] noExt) f args h ⟨nd,[⟨.b p,v,h⟩,⟨.b !p,w,h⟩]⟩
 fn:∃ fn:Func,P.funcs[f]?=some fn/\fn.body.isSome=true
def twoG (hG:Hp):List (FuncId×TSpec)->FuncId->List AV->Hp->Option (Nd×Bool×AV×AV)
 | [],_,_,_=>none
 | (g,s) :: l,f,args,h=>match Nat.beq f g with
  | true=>match s args h with
   | some x=>match globsSame hG h hG.size with
    | true=>some x
    | false=>none
   | none=>twoG hG l f args h
  | false=>twoG hG l f args h
theorem twoG_some {hG:Hp}:∀ {l:List (FuncId×TSpec)} {f:FuncId} {args:List AV} {h:Hp} {x:Nd×Bool×AV×AV},twoG hG l f args h=some x->globsSame hG h hG.size=true/\∃ s,(f,s)∈l/\s args h=some x
 | [],_,_,_,_,e=>by cases e
 | (g,s) :: l,f,args,h,x,e=>by
  simp only [twoG] at e
  split at e
  .rename_i hb
   have:=Nat.eq_of_beq_eq_true hb
   subst this
   split at e
   .rename_i hs
    split at e
    .rename_i hg
     cases e
     exact ⟨hg,s,by simp,hs⟩
    .cases e
   .obtain ⟨h2,s',h3,h4⟩:=twoG_some e
    exact ⟨h2,s',by simp [h3],h4⟩
  .obtain ⟨h2,s',h3,h4⟩:=twoG_some e
   exact ⟨h2,s',by simp [h3],h4⟩
def mkT (P:Program) (glob:Nat->Option Nat) (hG:Hp) (tbl:List (FuncId×HSpec)) (tt:List (FuncId×TSpec)) (ext:FuncId->List AV->Option (Nd×AV)):Ctx:={ mkH P glob hG tbl ext with two:=twoG hG tt }
theorem two_of {P:Program} {glob:Nat->Option Nat} {hG:Hp} {f:FuncId} {s:HSpec} {t:TSpec} (g:HOk P glob hG f s)
  (h:∀ args hp nd p v w,t args hp=some (nd,p,v,w)->∃ nd0 v0,s args hp=some (nd0,v0)/\(nd.val->nd0.val/\(p=true->∀ σ V,VRel σ v0 V->VRel σ v V)/\(p=false->∀ σ V,VRel σ v0 V->VRel σ w V))):TOk P glob hG f t:=by
 refine ⟨fun args nd p v w hp e same=>?_,g.fn⟩
 obtain ⟨nd0,v0,h1,h2⟩:=h args hp nd p v w e
 intro σ A W gr r hA hn cs
 obtain ⟨k0,k1,k2⟩:=h2 hn
 obtain ⟨x,q1,τ,V,X,fr,q2,q3⟩:=g.call args nd0 v0 hp h1 same σ A W gr r hA k0 cs
 have:x=⟨.tt,v0,hp⟩:=by
  unfold OneC at q1
  simp [G.val] at q1
  exact q1.symm
 subst this
 cases p with
 | true=>exact ⟨⟨.b true,v,hp⟩,rfl,τ,V,X,fr,k1 rfl τ V q2,q3⟩
 | false=>exact ⟨⟨.b (!false),w,hp⟩,rfl,τ,V,X,fr,k2 rfl τ V q2,q3⟩
def listSpec (hG:Hp) (n z:Nat) (shl shs:List Sh) (V:List Nu->List Nu->Option (Prop×AV)):HSpec:=fun args h=>
 match args with
 | .gslice id off m z' :: rest=>match Nat.beq m n&&Nat.beq off 0&&Nat.beq z' z&&Nat.ble hG.size id with
  | true=>match h.get id with
   | some ⟨_,.grown fc⟩=>match Sh.readL shl fc with
    | some (_,ys)=>match Sh.readL shs rest with
     | some (_,zs)=>match V ys zs with
      | some (p,v)=>some (.p p,v)
      | none=>none
     | none=>none
    | none=>none
   | _=>none
  | false=>none
 | _=>none
theorem list_ok {P:Program} {glob:Nat->Option Nat} {hG:Hp} (ok:hG.ok) (pl:blksPlain hG.size hG.blks=true) (hgl:∀ g i,glob g=some i->i<hG.size) {f:FuncId} {n z:Nat} {shl shs:List Sh} {V:List Nu->List Nu->Option (Prop×AV)}
  (h:∀ ys zs p v,V ys zs=some (p,v)->p->∃ (C:Ctx) (m:Nat) (nd:Nd),CtxOk C/\C.P=P/\C.glob=glob/\AV.underL hG.size (Sh.mkL shs zs).1=true/\AV.underL hG.size (Sh.mkL shl ys).1=true/\v.under hG.size=true /\
   oneG (hG.size+1) hG.clock ((run C m).call f (.gslice hG.size 0 n z :: (Sh.mkL shs zs).1) (coatH hG (Sh.mkL shl ys).1))=some (nd,v)/\nd.val)
  (fn:∃ fn:Func,P.funcs[f]?=some fn/\fn.body.isSome=true):HOk P glob hG f (listSpec hG n z shl shs V):=by
 refine ⟨fun args nd v hp e same=>?_,fn⟩
 unfold listSpec at e
 split at e
 .rename_i id off m z' rest
  split at e
  .rename_i hb
   simp only [Bool.and_eq_true] at hb
   obtain ⟨⟨⟨b1,b2⟩,b3⟩,b4⟩:=hb
   have:=Nat.eq_of_beq_eq_true b1; subst this
   have:=Nat.eq_of_beq_eq_true b2; subst this
   have:=Nat.eq_of_beq_eq_true b3; subst this
   have hge:=Nat.le_of_ble_eq_true b4
   split at e
   .rename_i w fc hid
    split at e
    .rename_i s2 ys r2
     split at e
     .rename_i s3 zs r3
      split at e
      .rename_i p v' hV
       cases e
       intro σ A W g r hA hn
       obtain ⟨C,fuel,nd0,co,rfl,rfl,u2,u3,hv,hrun,hn0⟩:=h ys zs p v hV hn
       refine extra_call (C:=C) co ok pl hgl hv u3 hrun hp same hid hge (fun σ L hL=>?_) (args:=.gslice id 0 m z' :: rest) (fun σ L hL=>?_) σ A W g r hA hn0
       .have:=(Sh.readL_mk shl fc s2 ys [] r2).2 σ L hL
        rwa [List.append_nil] at this
       .obtain ⟨v0,vs,rfl,hv0,hvs⟩:=hL
        obtain ⟨b,N,q,c,e1,rfl,e2,e3⟩:=hv0
        have h7:=(Sh.readL_mk shs rest s3 zs [] r3).2 σ vs hvs
        rw [List.append_nil] at h7
        exact ⟨_,vs,rfl,⟨b,N,q,c,by unfold Sg.plus; rw [if_neg (Nat.lt_irrefl _),if_pos rfl]; exact e1,rfl,e2,e3⟩,VRels.mono (Sg.low_plus σ _ id) _ _ (VRels.low _ _ h7 u2)⟩
      .cases e
     .cases e
    .cases e
   .cases e
  .cases e
 .cases e
end
end Go.Eng
namespace Go.Eng
open Go
noncomputable section
theorem one_tt {v:AV} {k:Hp} {e:CEnt} (h:OneC [⟨.tt,v,k⟩] e):e=⟨.tt,v,k⟩:=by
 unfold OneC at h
 simp [G.val] at h
 exact h.symm
def Tells (lo:Nat) (k:Hp) (v0:AV) (sz:Nat) (v:AV) (bs:List ABody):Prop:=
 ∀ (σ:Sg) (h:Hp) (W:World) (τ:Sg) (X:World) (V:Value),h.size=sz->HRel σ h W->HRel τ k X->VRel τ v0 V->(∀ i B N,τ i=some (B,N)->lo<=i->W.heap.size<=B)->Quiet W X ->
  ∃ υ,HRel υ (pushAll h bs) X/\Good σ h W υ (pushAll h bs) X/\VRel υ v V
theorem ref_call {P:Program} {glob:Nat->Option Nat} {hG:Hp} {f:FuncId} {args:List AV} {h:Hp} {nd:Nd} {v:AV} {bs:List ABody}
  (key:∀ (σ:Sg) (A:Array Value) (W:World),GRel (mkM P glob hG [] noExt) σ->HRel σ h W->VRels σ args A.toList->nd.val ->
   ∃ (C:Ctx) (n:Nat) (h0:Hp) (as:List AV) (ρ:Sg) (nd0:Nd) (v0:AV) (k:Hp),CtxOk C/\C.P=P/\C.glob=glob/\HRel ρ h0 W/\GRel C ρ/\VRels ρ as A.toList/\(run C n).call f as h0=some ⟨nd0,[⟨.tt,v0,k⟩]⟩/\v0.isPanic=false/\nd0.val/\allOld h0.clock (dropN (k.size - h0.size) k.blks)=true /\
    Tells h0.size k v0 h.size v bs):
  CallOk (mkM P glob hG [] noExt) f args h ⟨nd,[⟨.tt,v,pushAll h bs⟩]⟩:=by
 intro σ A W g r hA hn cs
 obtain ⟨C,n,h0,as,ρ,nd0,v0,k,co,rfl,hgl,r0,g0,hA0,hrun,hv0,hn0,h2,tell⟩:=key σ A W g r hA hn
 obtain ⟨hc,hfn⟩:=(run_sound co n).call f as h0 _ hrun
 replace hc:=hc.ok (tame_one hv0)
 obtain ⟨x,k1,τ,V,X,fr,k2,k3,k4,k5,k6⟩:=hc ρ A W g0 r0 hA0 hn0 cs
 obtain rfl:=one_tt k1
 have quiet:∀ i B N c,ρ i=some (B,N)->k.get i=some c->c.wr<h0.clock:=by
  intro i B N c e e2
  have hi:=(r0.dom i B N e).1
  have hlt:=Hp.get_lt e2
  rw [Hp.get_eq,if_pos hlt] at e2
  refine allOld_mem h2 c ?_
  rw [dropN_eq]
  have:(k.blks.drop (k.size - h0.size))[h0.size - 1 - i]?=some c:=by
   rw [List.getElem?_drop,<- e2]
   congr 1
   have h9:h0.size<=k.size:=k4.mon.size
   omega
  exact List.mem_of_getElem? this
 have hq:Quiet W X:=⟨k4.ext,fun B hB=>k4.keep B hB (fun h=>h) fun i N c e e2=>quiet i B N c e e2⟩
 obtain ⟨υ,u1,u2,u3⟩:=tell σ h W τ X V rfl r k3 k2 (fun i B N e hi=>by
  rcases Nat.lt_or_ge B W.heap.size with hB|hB
  .rcases k4.old i B N e hi hB with h8|⟨j,M,c,j1,j2,j3,j4⟩
   .exact absurd h8 id
   .exact absurd (quiet j B M c j2 j3) (Nat.not_lt.2 j4)
  .exact hB) hq
 exact ⟨⟨.tt,v,pushAll h bs⟩,rfl,υ,V,X,fr,u3,u1,u2,k5,k6⟩
theorem tells_num {lo sz:Nat} {k:Hp} {v0 v:AV} (hv:∀ (τ σ:Sg) V,VRel τ v0 V->VRel σ v V):Tells lo k v0 sz v []:=by
 intro σ h W τ X V _ r _ k2 _ hq
 obtain ⟨r1,g1⟩:=r.quiet hq
 exact ⟨σ,r1,g1,hv τ σ V k2⟩
end
end Go.Eng
namespace Go.Eng
open Go
noncomputable section
abbrev NSpec:=List AV->Hp->Option (Nd×AV×List ABody)
structure NOk (P:Program) (glob:Nat->Option Nat) (hG:Hp) (f:FuncId) (spec:NSpec):Prop where
 call:∀ args nd v bs h,spec args h=some (nd,v,bs)->globsSame hG h hG.size=true->CallOk (mkM P glob hG [] noExt) f args h ⟨nd,[⟨.tt,v,pushAll h bs⟩]⟩
 fn:∃ fn:Func,P.funcs[f]?=some fn/\fn.body.isSome=true
def hN (s:HSpec):NSpec:=fun args h=>match s args h with
 | some (nd,v)=>some (nd,v,[])
 | none=>none
theorem HOk.n {P:Program} {glob:Nat->Option Nat} {hG:Hp} {f:FuncId} {s:HSpec} (g:HOk P glob hG f s):NOk P glob hG f (hN s):=by
 refine ⟨fun args nd v bs h e same=>?_,g.fn⟩
 unfold hN at e
 split at e
 .rename_i nd' v' h1
  cases e
  exact g.call args nd v h h1 same
 .cases e
noncomputable def dropR {α:Type} (l:List α) (n:Nat):List α:=
 List.rec (motive:=fun _=>Nat->List α) (fun _=>[]) (fun a l ih n=>Nat.rec (motive:=fun _=>List α) (a :: l) (fun m _=>ih m) n) l n
theorem dropR_eq {α:Type}:∀ (l:List α) (n:Nat),dropR l n=l.drop n
 | [],n=>by cases n <;> rfl
 | a :: l,0=>rfl
 | a :: l,n+1=>(dropR_eq l n).trans rfl
def samesB:Nat->List ABlk->List ABlk->Bool
 | 0,_,_=>true
 | n+1,a :: l,b :: m=>sameBody a.body b.body&&samesB n l m
 | _,_,_=>false
theorem samesB_get:∀ {n:Nat} {l m:List ABlk},samesB n l m=true->∀ j,j<n->∃ b c,l[j]?=some b/\m[j]?=some c/\sameBody b.body c.body=true
 | 0,_,_,_,j,hj=>absurd hj (Nat.not_lt_zero j)
 | n+1,[],_,e,_,_=>by cases e
 | n+1,_ :: _,[],e,_,_=>by cases e
 | n+1,a :: l,b :: m,e,j,hj=>by
  simp only [samesB,Bool.and_eq_true] at e
  cases j with
  | zero=>exact ⟨a,b,rfl,rfl,e.1⟩
  | succ j=>
   obtain ⟨b',c',h1,h2,h3⟩:=samesB_get e.2 j (by omega)
   exact ⟨b',c',by simpa using h1,by simpa using h2,h3⟩
def globsF (hG h:Hp):Bool:=match Nat.ble hG.size h.size with
 | true=>samesB hG.size (dropR h.blks (h.size - hG.size)) hG.blks
 | false=>false
theorem globsF_same {hG h:Hp} (e:globsF hG h=true):globsSame hG h hG.size=true:=by
 unfold globsF at e
 split at e
 .rename_i hb
  have hb:=Nat.le_of_ble_eq_true hb
  have key:∀ n,n<=hG.size->globsSame hG h n=true:=by
   intro n
   induction n with
   | zero=>intro _; rfl
   | succ n ih=>
    intro hn
    obtain ⟨b,c,h1,h2,h3⟩:=samesB_get e (hG.size - 1 - n) (by omega)
    rw [dropR_eq,List.getElem?_drop] at h1
    have e1:h.get n=some b:=by
     unfold Hp.get
     have:Nat.ble h.size n=false:=by rw [Bool.eq_false_iff]; intro k; have:=Nat.le_of_ble_eq_true k; omega
     have e4:h.size - 1 - n=h.size - hG.size+(hG.size - 1 - n):=by omega
     rw [this]
     show nth h.blks (h.size - 1 - n)=some b
     rw [nth_eq,e4]
     exact h1
    have e2:hG.get n=some c:=by
     unfold Hp.get
     have:Nat.ble hG.size n=false:=by rw [Bool.eq_false_iff]; intro k; have:=Nat.le_of_ble_eq_true k; omega
     rw [this]
     show nth hG.blks (hG.size - 1 - n)=some c
     rw [nth_eq]
     exact h2
    simp only [globsSame,ih (by omega),e1,e2,h3,Bool.and_self]
  exact key _ (Nat.le_refl _)
 .cases e
def conN (hG:Hp):List (FuncId×NSpec)->FuncId->List AV->Hp->Option (Nd×AV×List ABody)
 | [],_,_,_=>none
 | (g,s) :: l,f,args,h=>match Nat.beq f g with
  | true=>match s args h with
   | some x=>match globsF hG h with
    | true=>some x
    | false=>none
   | none=>conN hG l f args h
  | false=>conN hG l f args h
theorem conN_some {hG:Hp}:∀ {l:List (FuncId×NSpec)} {f:FuncId} {args:List AV} {h:Hp} {x:Nd×AV×List ABody},conN hG l f args h=some x->globsSame hG h hG.size=true/\∃ s,(f,s)∈l/\s args h=some x
 | [],_,_,_,_,e=>by cases e
 | (g,s) :: l,f,args,h,x,e=>by
  simp only [conN] at e
  split at e
  .rename_i hb
   have:=Nat.eq_of_beq_eq_true hb
   subst this
   split at e
   .rename_i hs
    split at e
    .rename_i hg
     cases e
     exact ⟨globsF_same hg,s,by simp,hs⟩
    .cases e
   .obtain ⟨h2,s',h3,h4⟩:=conN_some e
    exact ⟨h2,s',by simp [h3],h4⟩
  .obtain ⟨h2,s',h3,h4⟩:=conN_some e
   exact ⟨h2,s',by simp [h3],h4⟩
def mkN (P:Program) (glob:Nat->Option Nat) (hG:Hp) (tbl:List (FuncId×NSpec)) (tt:List (FuncId×TSpec)) (ext:FuncId->List AV->Option (Nd×AV)):Ctx:={ P,glob,con:=conN hG tbl,ext,loop:=fun _ _ _=>none,two:=twoG hG tt }
theorem mkN_ok {P:Program} {glob:Nat->Option Nat} {hG:Hp} (hp:ProgOk P) {tbl:List (FuncId×NSpec)} {tt:List (FuncId×TSpec)} {ext:FuncId->List AV->Option (Nd×AV)} (he:ExtOk P ext) (ht:∀ x∈tbl,NOk P glob hG x.1 x.2) (h2:∀ x∈tt,TOk P glob hG x.1 x.2):CtxOk (mkN P glob hG tbl tt ext):=by
 refine ⟨hp,fun f args h nd v bs e=>?_,he,fun _ _ _ _ e=>(by cases e),fun f args h nd p v w e=>?_⟩
 .obtain ⟨hg,s,h1,h3⟩:=conN_some e
  have g:=ht _ h1
  exact ⟨g.call args nd v bs h h3 hg,g.fn⟩
 .obtain ⟨hg,s,h1,h3⟩:=twoG_some e
  have g:=h2 _ h1
  exact ⟨g.call args nd p v w h h3 hg,g.fn⟩
mutual
def tell:AV->AV->Prop
 | .int _ k x,.int _ k' y=>k=k'/\x=y
 | .bool _ a,.bool _ b=>a=b
 | .str _ a,.str _ b=>a=b
 | .agg l,.agg m=>tellL l m
 | .tuple l,.tuple m=>tellL l m
 | .pslice i l _ n,.pslice i' l' _ n'=>i=i'/\l'<=l/\n=n'
 | .any _,_=>False
 | a,b=>a=b
def tellL:List AV->List AV->Prop
 | [],[]=>True
 | a :: l,b :: m=>tell a b/\tellL l m
 | _,_=>False
end
mutual
theorem tell_rel {σ:Sg}:∀ (a b:AV) (V:Value),tell a b->VRel σ a V->VRel σ b V
 | .int _ k x,.int _ k' y,V,h,r=>by obtain ⟨rfl,rfl⟩:=h; exact r
 | .bool _ a,.bool _ b,V,h,r=>by obtain rfl:=h; exact r
 | .str _ a,.str _ b,V,h,r=>by obtain rfl:=h; exact r
 | .pslice i l _ n,.pslice i' l' _ n',V,h,r=>by
  obtain ⟨rfl,hl,rfl⟩:=h
  obtain ⟨p,len,c,e1,e2,e3,e4⟩:=r
  exact ⟨p,len,c,e1,e2,Nat.le_trans hl e3,e4.imp (fun h0=>by omega) id⟩
 | .agg l,.agg m,V,h,r=>by obtain ⟨K,rfl,hK⟩:=r; exact ⟨K,rfl,tellL_rel l m _ h hK⟩
 | .tuple l,.tuple m,V,h,r=>by obtain ⟨K,rfl,hK⟩:=r; exact ⟨K,rfl,tellL_rel l m _ h hK⟩
 | a,b,V,h,r=>by
  unfold tell at h
  split at h <;> first
   | (subst h; exact r)
   | exact h.elim
   | (obtain ⟨rfl,rfl⟩:=h; exact r)
   | (
     obtain ⟨rfl,hl,rfl⟩:=h
     obtain ⟨p,len,c,e1,e2,e3,e4⟩:=r
     exact ⟨p,len,c,e1,e2,Nat.le_trans hl e3,e4.imp (fun h0=>by omega) id⟩)
   | (obtain ⟨K,rfl,hK⟩:=r; exact ⟨K,rfl,tellL_rel _ _ _ h hK⟩)
theorem tellL_rel {σ:Sg}:∀ (l m:List AV) (L:List Value),tellL l m->VRels σ l L->VRels σ m L
 | [],[],L,_,r=>r
 | a :: l,b :: m,L,h,r=>by
  obtain ⟨v,vs,rfl,h1,h2⟩:=r
  exact ⟨v,vs,rfl,tell_rel a b v h.1 h1,tellL_rel l m vs h.2 h2⟩
 | [],_ :: _,_,h,_=>h.elim
 | _ :: _,[],_,h,_=>h.elim
end
theorem glob_rel {hG:Hp} (ok:hG.ok) (pl:blksPlain hG.size hG.blks=true) {h:Hp} (same:globsSame hG h hG.size=true) {σ:Sg} {W:World} (r:HRel σ h W):HRel (σ.low hG.size) hG W:=by
 have gs:=globsSame_get same
 refine ⟨ok,fun i c hg hd=>?_,fun i B N e=>?_,fun i j b c B N M hb hc' hd hd' e1 e2=>?_⟩
 .have hi:=Hp.get_lt hg
  obtain ⟨b,c',hb,hc',hbc⟩:=gs i hi
  rw [hg] at hc'; cases hc'
  obtain ⟨B,N,o,q1,q2,q3⟩:=r.blk i b hb (by rw [hbc]; exact hd)
  refine ⟨B,N,o,by simp [Sg.low,hi,q1],q2,?_⟩
  rw [hbc] at q3
  exact q3.low (blksPlain_mem pl c (get_mem hg))
 .unfold Sg.low at e
  split at e
  .rename_i hi
   exact ⟨hi,(r.dom i B N e).2⟩
  .cases e
 .have hi:=Hp.get_lt hb
  have hj:=Hp.get_lt hc'
  obtain ⟨b1,b2,p1,p2,p3⟩:=gs i hi
  obtain ⟨c1,c2,q1,q2,q3⟩:=gs j hj
  rw [hb] at p2; cases p2
  rw [hc'] at q2; cases q2
  have:=r.inj i j b1 c1 B N M p1 q1 (by rw [p3]; exact hd) (by rw [q3]; exact hd') (Sg.low_sub σ _ _ _ e1) (Sg.low_sub σ _ _ _ e2)
  rw [p3,q3] at this
  exact this
def viewB (ik:IntKind):List Int->ABody
 | []=>.dead
 | x :: l=>.view ((x :: l).map fun n=>.int true ik n)
def bodyB (raw:Bool) (ik:IntKind) (xs:List Int):ABody:=
 match raw with
 | true=>.rows ik xs
 | false=>viewB ik xs
def viewsH (raw:Bool) (h:Hp):List (IntKind×List Int)->Hp
 | []=>h
 | (ik,xs) :: l=>viewsH raw (h.push0 (bodyB raw ik xs)) l
theorem viewsH_clock {raw:Bool}:∀ (l:List (IntKind×List Int)) (h:Hp),(viewsH raw h l).clock=h.clock
 | [],_=>rfl
 | (_,_) :: l,h=>viewsH_clock l (h.push0 _)
theorem bodyB_nil {raw:Bool} {ik:IntKind}:(bodyB raw ik []).isDead=true:=by cases raw <;> rfl
theorem bodyB_view {raw:Bool} {ik:IntKind} {y:Int} {ys:List Int}:(bodyB raw ik (y :: ys)).isView=true:=by cases raw <;> rfl
def Apart (ρ:Sg) (h:Hp) (B:Nat):Prop:=∀ i b M,h.get i=some b->b.body.isDead=false->ρ i=some (B,M)->b.body.isView=true
theorem rows_view {τ:Sg} {N:Nat} {ik:IntKind} {xs:List Int} {o:Obj} (h:BRel τ N (.rows ik xs) o):BRel τ N (.view (xs.map fun n=>.int true ik n)) o:=by
 obtain ⟨K,e,fr,rfl,h1⟩:=h
 refine ⟨K,e,fr,rfl,?_⟩
 rw [List.length_map,h1]
 have rels:∀ l:List Int,VRels τ (l.map fun n=>.int true ik n) (l.map (Value.int ik)):=by
  intro l
  induction l with
  | nil=>exact rfl
  | cons a l ih=>exact ⟨_,_,rfl,rfl,ih⟩
 exact rels xs
theorem add_cases {ρ:Sg} {n:Nat} {x:Nat×Nat} {i:Nat} {y:Nat×Nat} (e:(ρ.add n x) i=some y):(i=n/\y=x)\/(i≠n/\ρ i=some y):=by
 unfold Sg.add at e
 split at e
 .rename_i hi; cases e; exact .inl ⟨hi,rfl⟩
 .rename_i hi; exact .inr ⟨hi,e⟩
theorem view_add {ρ:Sg} {h0:Hp} {W:World} (r:HRel ρ h0 W) {B N:Nat} {b:ABody} {o:Obj} (hv:b.isView=true) (ho:W.heap[B]?=some o) (hb:BRel (ρ.add h0.size (B,N)) N b o) (ap:Apart ρ h0 B):
  HRel (ρ.add h0.size (B,N)) (h0.push0 b) W:=by
 have hs:=Sub.add (x:=(B,N)) r.fresh
 have hB:B<W.heap.size:=by
  rcases Nat.lt_or_ge B W.heap.size with h1|h1
  .exact h1
  .rw [Array.getElem?_eq_none h1] at ho; cases ho
 refine ⟨by have:=r.ok; simp only [Hp.ok,Hp.push0,List.length_cons] at this ⊢; omega,fun i c hg hd=>?_,fun i B' M e=>?_,fun i j c d B' M M' hg hg' hd hd' e1 e2=>?_⟩
 .rw [Hp.get_push0] at hg
  split at hg
  .rename_i hi; subst hi; cases hg
   exact ⟨B,N,o,add_here,ho,hb⟩
  .obtain ⟨B',M,p,h1,h2,h3⟩:=r.blk i c hg hd
   exact ⟨B',M,p,hs _ _ h1,h2,h3.mono hs⟩
 .rcases add_cases e with ⟨rfl,hx⟩|⟨hi,hx⟩
  .cases hx; exact ⟨Nat.lt_succ_self _,hB⟩
  .have:=r.dom i B' M hx
   exact ⟨Nat.lt_succ_of_lt this.1,this.2⟩
 .rw [Hp.get_push0] at hg hg'
  rcases add_cases e1 with ⟨rfl,hx⟩|⟨hi,hx⟩ <;> rcases add_cases e2 with ⟨rfl,hy⟩|⟨hj,hy⟩
  .exact .inl rfl
  .cases hx
   rw [if_pos rfl] at hg; cases hg
   rw [if_neg hj] at hg'
   exact .inr ⟨hv,ap j d M' hg' hd' hy⟩
  .cases hy
   rw [if_pos rfl] at hg'; cases hg'
   rw [if_neg hi] at hg
   exact .inr ⟨ap i c M hg hd hx,hv⟩
  .rw [if_neg hi] at hg
   rw [if_neg hj] at hg'
   exact r.inj i j c d B' M M' hg hg' hd hd' hx hy
theorem view_dead {ρ:Sg} {h0:Hp} {W:World} (r:HRel ρ h0 W) {b:ABody} (hb:b.isDead=true):HRel ρ (h0.push0 b) W:=by
 refine ⟨by have:=r.ok; simp only [Hp.ok,Hp.push0,List.length_cons] at this ⊢; omega,fun i c hg hd=>?_,fun i B' M e=>?_,fun i j c d B' M M' hg hg' hd hd' e1 e2=>?_⟩
 .rw [Hp.get_push0] at hg
  split at hg
  .cases hg; rw [show _=_ from hb] at hd; cases hd
  .exact r.blk i c hg hd
 .have:=r.dom i B' M e
  exact ⟨Nat.lt_succ_of_lt this.1,this.2⟩
 .rw [Hp.get_push0] at hg hg'
  rw [if_neg (Nat.ne_of_lt (r.dom i _ _ e1).1)] at hg
  rw [if_neg (Nat.ne_of_lt (r.dom j _ _ e2).1)] at hg'
  exact r.inj i j c d B' M M' hg hg' hd hd' e1 e2
theorem Apart.add {ρ:Sg} {h0:Hp} {B B' N:Nat} {b:ABody} (hv:b.isView=true) (ap:Apart ρ h0 B'):Apart (ρ.add h0.size (B,N)) (h0.push0 b) B':=by
 intro i c M hg hd e
 rw [Hp.get_push0] at hg
 rcases add_cases e with ⟨rfl,hx⟩|⟨hi,hx⟩
 .rw [if_pos rfl] at hg; cases hg; exact hv
 .rw [if_neg hi] at hg
  exact ap i c M hg hd hx
theorem Apart.dead {ρ:Sg} {h0:Hp} {B':Nat} {b:ABody} (hb:b.isDead=true) (ap:Apart ρ h0 B'):Apart ρ (h0.push0 b) B':=by
 intro i c M hg hd e
 rw [Hp.get_push0] at hg
 split at hg
 .cases hg; rw [show _=_ from hb] at hd; cases hd
 .exact ap i c M hg hd e
theorem body_rel {raw:Bool} {τ:Sg} {N:Nat} {ik:IntKind} {y:Int} {ys:List Int} {o:Obj} (h:BRel τ N (.rows ik (y :: ys)) o):BRel τ N (bodyB raw ik (y :: ys)) o:=by
 cases raw with
 | true=>exact h
 | false=>exact rows_view h
theorem views_rel {raw:Bool} {σ:Sg} {W:World}:∀ (l:List (Nat×IntKind×List Int)) (ρ:Sg) (h0:Hp),HRel ρ h0 W ->
  (∀ x∈l,x.2.2=[]\/∃ B N o,σ x.1=some (B,N)/\W.heap[B]?=some o/\(∀ τ,BRel τ N (.rows x.2.1 x.2.2) o)/\Apart ρ h0 B) ->
  ∃ ρ',HRel ρ' (viewsH raw h0 (l.map (·.2))) W/\Sub ρ ρ'/\∀ j x,l[j]?=some x->x.2.2≠[]->ρ' (h0.size+j)=σ x.1
 | [],ρ,h0,r,_=>⟨ρ,r,Sub.refl _,fun j x e=>by simp at e⟩
 | (id,ik,xs) :: l,ρ,h0,r,h=>by
  have hx:=h (id,ik,xs) (by simp)
  cases xs with
  | nil=>
   obtain ⟨ρ',r',s',h'⟩:=views_rel l ρ (h0.push0 (bodyB raw ik [])) (view_dead r bodyB_nil) (fun x hx=>by
    rcases h x (by simp [hx]) with h1|⟨B,N,o,a1,a2,a3,a4⟩
    .exact .inl h1
    .exact .inr ⟨B,N,o,a1,a2,a3,a4.dead bodyB_nil⟩)
   refine ⟨ρ',r',s',fun j x e hne=>?_⟩
   cases j with
   | zero=>simp at e; subst e; exact absurd rfl hne
   | succ j=>
    have:=h' j x (by simpa using e) hne
    rw [<- this]
    congr 1
    show _=h0.size+1+j
    omega
  | cons y ys=>
   rcases hx with hx|⟨B,N,o,a1,a2,a3,a4⟩
   .cases hx
   .obtain ⟨ρ',r',s',h'⟩:=views_rel l (ρ.add h0.size (B,N)) (h0.push0 (bodyB raw ik (y :: ys))) (view_add r bodyB_view a2 (body_rel (a3 _)) a4) (fun x hx=>by
     rcases h x (by simp [hx]) with h1|⟨B',N',o',b1,b2,b3,b4⟩
     .exact .inl h1
     .exact .inr ⟨B',N',o',b1,b2,b3,b4.add bodyB_view⟩)
    refine ⟨ρ',r',(Sub.add r.fresh).trans s',fun j x e hne=>?_⟩
    cases j with
    | zero=>
     simp at e; subst e
     rw [Nat.add_zero,s' _ _ (add_here (σ:=ρ) (x:=(B,N)))]
     exact a1.symm
    | succ j=>
     have:=h' j x (by simpa using e) hne
     rw [<- this]
     congr 1
     show _=h0.size+1+j
     omega
inductive Pa where
 | n (sh:Sh)
 | s (shs:List Sh) (ik:IntKind)
inductive Itm where
 | n (xs:List Nu)
 | s (xs:List Nu) (n:Int) (ys:List Int)
def readA (hG h:Hp):List Pa->List AV->Option (List (Nat×IntKind×List Int)×List Itm)
 | [],[]=>some ([],[])
 | .n sh :: ps,v :: vs=>match Sh.read sh v with
  | none=>none
  | some (_,xs)=>match readA hG h ps vs with
   | none=>none
   | some (ls,its)=>some (ls,.n xs :: its)
 | .s shs ik :: ps,v :: vs=>match v with
  | .agg cells=>match splitL cells with
   | some (init,.lslice id n)=>match h.get id with
    | some ⟨_,.rows ik' ys⟩=>match decide (ik=ik')&&Nat.ble hG.size id with
     | true=>match Sh.readL shs init with
      | none=>none
      | some (_,xs)=>match readA hG h ps vs with
       | none=>none
       | some (ls,its)=>some ((id,ik,ys) :: ls,.s xs n ys :: its)
     | false=>none
    | _=>none
   | _=>none
  | _=>none
 | _,_=>none
def lists:List Pa->List Itm->List (IntKind×List Int)
 | .n _ :: ps,.n _ :: is=>lists ps is
 | .s _ ik :: ps,.s _ _ ys :: is=>(ik,ys) :: lists ps is
 | _,_=>[]
def listA (raw:Bool) (j:Nat) (n:Int):AV:=
 match raw with
 | true=>.lslice j n
 | false=>.pslice j n.toNat false n
def mkA (raw:Bool) (j:Nat):List Pa->List Itm->List AV
 | .n sh :: ps,.n xs :: is=>(Sh.mk sh xs).1 :: mkA raw j ps is
 | .s shs _ :: ps,.s xs n _ :: is=>.agg ((Sh.mkL shs xs).1++[listA raw j n]) :: mkA raw (j+1) ps is
 | _,_=>[]
def inits:List Pa->List Itm->List AV
 | .n sh :: ps,.n xs :: is=>(Sh.mk sh xs).1 :: inits ps is
 | .s shs _ :: ps,.s xs _ _ :: is=>(Sh.mkL shs xs).1++inits ps is
 | _,_=>[]
def okIts:List Itm->Prop
 | []=>True
 | .n _ :: l=>okIts l
 | .s _ n ys :: l=>(ys=[]->n=0)/\okIts l
theorem underL_app {n:Nat}:∀ {l m:List AV},AV.underL n (l++m)=(AV.underL n l&&AV.underL n m)
 | [],m=>by simp [AV.underL]
 | a :: l,m=>by simp only [List.cons_append,AV.underL,underL_app,Bool.and_assoc]
theorem readA_rel {raw:Bool} {hG h:Hp}:∀ (ps:List Pa) (args:List AV) (ls:List (Nat×IntKind×List Int)) (its:List Itm),readA hG h ps args=some (ls,its) ->
  ls.map (·.2)=lists ps its/\(∀ x∈ls,hG.size<=x.1/\∃ w,h.get x.1=some ⟨w,.rows x.2.1 x.2.2⟩) /\
  ∀ (σ ρ:Sg) (j:Nat) (L:List Value),Sub (σ.low hG.size) ρ->(∀ i x,ls[i]?=some x->x.2.2≠[]->ρ (j+i)=σ x.1)->okIts its->AV.underL hG.size (inits ps its)=true->VRels σ args L->VRels ρ (mkA raw j ps its) L
 | [],[],ls,its,e=>by
  cases e
  exact ⟨rfl,by simp,fun σ ρ j L _ _ _ _ h=>h⟩
 | .n sh :: ps,v :: vs,ls,its,e=>by
  simp only [readA] at e
  split at e
  .cases e
  .rename_i s xs h1
   split at e
   .cases e
   .rename_i ls' its' h2
    cases e
    obtain ⟨a1,a2,a3⟩:=readA_rel ps vs _ _ h2
    refine ⟨a1,a2,fun σ ρ j L hs hj hok hu hL=>?_⟩
    obtain ⟨V,L',rfl,q1,q2⟩:=hL
    simp only [inits,AV.underL,Bool.and_eq_true] at hu
    have:=(Sh.read_mk sh v s xs [] h1).2 σ V q1
    rw [List.append_nil] at this
    exact ⟨V,L',rfl,VRel.mono hs _ _ (VRel.low _ _ this hu.1),a3 σ ρ j L' hs hj hok hu.2 q2⟩
 | .s shs ik :: ps,v :: vs,ls,its,e=>by
  simp only [readA] at e
  split at e
  .rename_i cells
   split at e
   .rename_i init id n hsp
    split at e
    .rename_i w ik' ys hid
     split at e
     .rename_i hb
      simp only [Bool.and_eq_true,decide_eq_true_eq] at hb
      obtain ⟨rfl,hb⟩:=hb
      have hge:=Nat.le_of_ble_eq_true hb
      split at e
      .cases e
      .rename_i s xs h1
       split at e
       .cases e
       .rename_i ls' its' h2
        cases e
        obtain ⟨a1,a2,a3⟩:=readA_rel ps vs _ _ h2
        refine ⟨by simp [lists,a1],fun x hx=>?_,fun σ ρ j L hs hj hok hu hL=>?_⟩
        .rcases List.mem_cons.1 hx with rfl|hx
         .exact ⟨hge,w,hid⟩
         .exact a2 x hx
        .obtain ⟨V,L',rfl,q1,q2⟩:=hL
         simp only [inits,underL_app,Bool.and_eq_true] at hu
         obtain ⟨K,rfl,hK⟩:=q1
         rw [splitL_eq hsp] at hK
         obtain ⟨I,Z,hIZ,k1,k2⟩:=rels_split hK
         obtain ⟨zv,zl,rfl,k3,k4⟩:=k2
         obtain rfl:zl=[]:=k4
         have k5:=(Sh.readL_mk shs init s xs [] h1).2 σ I k1
         rw [List.append_nil] at k5
         have k6:=VRels.mono hs _ _ (VRels.low _ _ k5 hu.1)
         obtain ⟨p,len,c,rfl,hl,hp⟩:=k3
         refine ⟨_,L',rfl,⟨K,rfl,?_⟩,a3 σ ρ (j+1) L' hs (fun i x hx hne=>?_) hok.2 hu.2 q2⟩
         .rw [hIZ]
          refine VRels.append k6 ⟨_,[],rfl,?_,rfl⟩
          have hp':len=0\/∃ B N,ρ j=some (B,N)/\p=some ⟨B,N,none⟩:=by
           rcases hp with hp|⟨B,N,e1,e2⟩
           .exact .inl hp
           .by_cases h0:n=0
            .left; omega
            .have hne:ys≠[]:=fun hh=>h0 (hok.1 hh)
             have:=hj 0 (id,ik,ys) rfl hne
             rw [Nat.add_zero] at this
             exact .inr ⟨B,N,by rw [this]; exact e1,e2⟩
          cases raw with
          | true=>exact ⟨p,len,c,rfl,hl,hp'⟩
          | false=>exact ⟨p,len,c,rfl,hl,by omega,hp'.imp (fun h0=>by omega) _root_.id⟩
         .have:=hj (i+1) x (by simpa using hx) hne
          rw [<- this]
          congr 1
          omega
     .cases e
    .cases e
   .cases e
  .cases e
 | [],_ :: _,_,_,e=>by simp [readA] at e
 | .n _ :: _,[],_,_,e=>by simp [readA] at e
 | .s _ _ :: _,[],_,_,e=>by simp [readA] at e
def lSpec (hG:Hp) (ps:List Pa) (V:Nat->List Itm->Option (Prop×AV×List ABody)):NSpec:=fun args h=>
 match readA hG h ps args with
 | none=>none
 | some (_,its)=>match V h.size its with
  | none=>none
  | some (p,v,bs)=>some (.p p,v,bs)
theorem lsp_ok (raw:Bool) {P:Program} {glob:Nat->Option Nat} {hG:Hp} (ok:hG.ok) (pl:blksPlain hG.size hG.blks=true) (hgl:∀ g i,glob g=some i->i<hG.size) {f:FuncId} {ps:List Pa} {V:Nat->List Itm->Option (Prop×AV×List ABody)}
  (h:∀ sz its p v bs,V sz its=some (p,v,bs)->p->okIts its/\AV.underL hG.size (inits ps its)=true/\∃ (C:Ctx) (n:Nat) (as:List AV) (nd0:Nd) (v0:AV) (k:Hp),CtxOk C/\C.P=P/\C.glob=glob/\tellL (mkA raw hG.size ps its) as /\
   (run C n).call f as (viewsH raw hG (lists ps its))=some ⟨nd0,[⟨.tt,v0,k⟩]⟩/\v0.isPanic=false/\nd0.val/\allOld hG.clock (dropN (k.size - (viewsH raw hG (lists ps its)).size) k.blks)=true/\Tells (viewsH raw hG (lists ps its)).size k v0 sz v bs)
  (fn:∃ fn:Func,P.funcs[f]?=some fn/\fn.body.isSome=true):NOk P glob hG f (lSpec hG ps V):=by
 refine ⟨fun args nd v bs h' e same=>?_,fn⟩
 unfold lSpec at e
 split at e
 .cases e
 .rename_i ls its hr
  split at e
  .cases e
  .rename_i p v' bs' hV
   cases e
   obtain ⟨a1,a2,a3⟩:=readA_rel ps args ls its hr
   refine ref_call fun σ A W g r hA hn=>?_
   obtain ⟨b1,b2,C,n,as,nd0,v0,k,co,rfl,rfl,ht,hrun,hp,hn0,hold,tl⟩:=h _ _ _ _ _ hV hn
   have gs:=globsSame_get same
   obtain ⟨ρ,r0,sub,hj⟩:=views_rel (raw:=raw) (σ:=σ) ls (σ.low hG.size) hG (glob_rel ok pl same r) (fun x hx=>by
    obtain ⟨hge,w,hid⟩:=a2 x hx
    by_cases hne:x.2.2=[]
    .exact .inl hne
    .right
     have hd:(ABody.rows x.2.1 x.2.2).isDead=false:=by
      cases hxs:x.2.2 with
      | nil=>exact absurd hxs hne
      | cons y ys=>rfl
     obtain ⟨B,N,o,h1,h2,h3⟩:=r.blk x.1 _ hid hd
     refine ⟨B,N,o,h1,h2,fun τ=>h3,fun i b M hg hdb e1=>?_⟩
     have hi:=Hp.get_lt hg
     obtain ⟨b',c',hb',hc',hbc⟩:=gs i hi
     rw [hg] at hc'; cases hc'
     rcases r.inj i x.1 b' _ B M N hb' hid (by rw [hbc]; exact hdb) hd (Sg.low_sub σ _ _ _ e1) h1 with h8|⟨h8,_⟩
     .omega
     .rw [hbc] at h8; exact h8)
   rw [a1] at r0
   refine ⟨C,n,_,as,ρ,nd0,v0,k,co,rfl,rfl,r0,fun gl i hgi=>?_,tellL_rel _ _ _ ht (a3 σ ρ hG.size A.toList sub hj b1 b2 hA),hrun,hp,hn0,by rw [viewsH_clock]; exact hold,tl⟩
   obtain ⟨N,hN⟩:=g gl i hgi
   exact ⟨N,sub _ _ (by simp [Sg.low,hgl gl i hgi,hN])⟩
mutual
def AV.num:AV->Bool
 | .int _ _ _=>true
 | .bool _ _=>true
 | .str _ _=>true
 | .agg l=>AV.numL l
 | .tuple l=>AV.numL l
 | _=>false
def AV.numL:List AV->Bool
 | []=>true
 | a :: l=>a.num&&AV.numL l
end
mutual
theorem num_rel {σ τ:Sg}:∀ (a:AV) (V:Value),a.num=true->VRel σ a V->VRel τ a V
 | .int _ _ _,_,_,h=>h
 | .bool _ _,_,_,h=>h
 | .str _ _,_,_,h=>h
 | .agg l,_,hn,⟨K,e,h⟩=>⟨K,e,numL_rel l _ hn h⟩
 | .tuple l,_,hn,⟨K,e,h⟩=>⟨K,e,numL_rel l _ hn h⟩
theorem numL_rel {σ τ:Sg}:∀ (l:List AV) (L:List Value),AV.numL l=true->VRels σ l L->VRels τ l L
 | [],_,_,h=>h
 | a :: l,L,hn,h=>by
  simp only [AV.numL,Bool.and_eq_true] at hn
  obtain ⟨v,vs,e,h1,h2⟩:=h
  exact ⟨v,vs,e,num_rel a v hn.1 h1,numL_rel l vs hn.2 h2⟩
end
theorem oneG_tells {lo c:Nat} {q:Option CR} {nd:Nd} {v0:AV} (e:oneG lo c q=some (nd,v0)) (hn:v0.num=true):
  ∃ k,q=some ⟨nd,[⟨.tt,v0,k⟩]⟩/\v0.isPanic=false/\allOld c (dropN (k.size - lo) k.blks)=true/\∀ (sz:Nat) (v:AV),tell v0 v->Tells lo k v0 sz v []:=by
 obtain ⟨k,h1,h2,h3⟩:=oneG_some e
 exact ⟨k,h1,h3,h2,fun sz v ht=>tells_num fun τ σ V hV=>tell_rel _ _ _ ht (num_rel _ _ hn hV)⟩
end
end Go.Eng
namespace Go.Eng
open Go
noncomputable section
end
end Go.Eng
namespace Go.Eng
open Go
noncomputable section
theorem NOk.weaken {P:Program} {glob:Nat->Option Nat} {hG:Hp} {f:FuncId} {s t:NSpec} (g:NOk P glob hG f s)
  (h:∀ args hp nd v bs,t args hp=some (nd,v,bs)->∃ nd0 v0,s args hp=some (nd0,v0,bs)/\(nd.val->nd0.val/\∀ σ V,VRel σ v0 V->VRel σ v V)):NOk P glob hG f t:=by
 refine ⟨fun args nd v bs h' e same σ A W gr r hA hn cs=>?_,g.fn⟩
 obtain ⟨nd0,v0,e0,k0⟩:=h args h' nd v bs e
 obtain ⟨k1,k2⟩:=k0 hn
 obtain ⟨x,q1,τ,V,X,fr,q2,q3⟩:=g.call args nd0 v0 bs h' e0 same σ A W gr r hA k1 cs
 have:x=⟨.tt,v0,pushAll h' bs⟩:=one_tt q1
 subst this
 exact ⟨⟨.tt,v,pushAll h' bs⟩,rfl,τ,V,X,fr,k2 τ V q2,q3⟩
theorem lSpec_weaken {P:Program} {glob:Nat->Option Nat} {hG:Hp} {f:FuncId} {ps:List Pa} {V V':Nat->List Itm->Option (Prop×AV×List ABody)} (g:NOk P glob hG f (lSpec hG ps V))
  (h:∀ sz its p v bs,V' sz its=some (p,v,bs)->∃ p0 v0,V sz its=some (p0,v0,bs)/\(p->p0/\∀ σ U,VRel σ v0 U->VRel σ v U)):NOk P glob hG f (lSpec hG ps V'):=by
 refine g.weaken fun args hp nd v bs e=>?_
 unfold lSpec at e ⊢
 split at e
 .cases e
 .rename_i its hr
  split at e
  .cases e
  .rename_i p v' bs' hV
   cases e
   obtain ⟨p0,v0,h1,h2⟩:=h _ _ _ _ _ hV
   exact ⟨.p p0,v0,by simp only [h1],h2⟩
theorem tellL_app:∀ {l m l' m':List AV},tellL l m->tellL l' m'->tellL (l++l') (m++m')
 | [],[],_,_,_,h=>h
 | a :: l,b :: m,_,_,h,k=>⟨h.1,tellL_app h.2 k⟩
 | [],_ :: _,_,_,h,_=>h.elim
 | _ :: _,[],_,_,h,_=>h.elim
end
end Go.Eng
namespace Go.Eng
open Go
noncomputable section
end
end Go.Eng
namespace Go.Eng
open Go
noncomputable section
def RunsTo (P:Program) (glob:Nat->Option Nat) (hG:Hp) (f:FuncId) (raw:Bool) (ps:List Pa) (its:List Itm) (args:List AV) (sz:Nat) (v:AV) (bs:List ABody):Prop:=
 ∃ (C:Ctx) (n':Nat) (ar:List AV) (nd0:Nd) (v0:AV) (k:Hp),CtxOk C/\C.P=P/\C.glob=glob/\tellL args ar /\
  (run C n').call f ar (viewsH raw hG (lists ps its))=some ⟨nd0,[⟨.tt,v0,k⟩]⟩/\v0.isPanic=false/\nd0.val/\allOld hG.clock (dropN (k.size - (viewsH raw hG (lists ps its)).size) k.blks)=true/\Tells (viewsH raw hG (lists ps its)).size k v0 sz v bs
end
end Go.Eng
namespace Go.Eng
open Go
noncomputable section
end
end Go.Eng
namespace Go.Eng
open Go
noncomputable section
theorem lsp_okM {P:Program} {glob:Nat->Option Nat} {hG:Hp} (ok:hG.ok) (pl:blksPlain hG.size hG.blks=true) (hgl:∀ g i,glob g=some i->i<hG.size) {f:FuncId} {ps:List Pa} {V:Nat->List Itm->Option (Prop×AV×List ABody)}
  (h:∀ sz its p v bs,V sz its=some (p,v,bs)->p->okIts its/\AV.underL hG.size (inits ps its)=true/\∃ raw,RunsTo P glob hG f raw ps its (mkA raw hG.size ps its) sz v bs)
  (fn:∃ fn:Func,P.funcs[f]?=some fn/\fn.body.isSome=true):NOk P glob hG f (lSpec hG ps V):=by
 refine ⟨fun args nd v bs h' e same=>?_,fn⟩
 have e0:=e
 unfold lSpec at e
 split at e
 .cases e
 .rename_i ls its hr
  split at e
  .cases e
  .rename_i p v' bs' hV
   cases e
   classical
   by_cases hp:p
   .obtain ⟨b1,b2,raw,hr'⟩:=h _ _ _ _ _ hV hp
    exact (lsp_ok raw ok pl hgl (V:=fun sz' its'=>if sz'=h'.size/\its'=its then some (p,v,bs) else none) (fun sz its2 p2 v2 bs2 e2 hp2=>by
     split at e2
     .rename_i hc
      obtain ⟨rfl,rfl⟩:=hc
      cases e2
      exact ⟨b1,b2,hr'⟩
     .cases e2) fn).call args (.p p) v bs h' (by unfold lSpec; rw [hr]; simp) same
   .intro σ A W g r hA hn
    exact absurd hn hp
end
end Go.Eng
namespace Go.Eng
open Go
noncomputable section
theorem ref_call2 {P:Program} {glob:Nat->Option Nat} {hG:Hp} {f:FuncId} {args:List AV} {h:Hp} {nd:Nd} {v:AV} {bs:List ABody}
  (key:∀ (σ:Sg) (A:Array Value) (W:World),GRel (mkM P glob hG [] noExt) σ->HRel σ h W->VRels σ args A.toList->nd.val ->
   ∃ (h0:Hp) (ar:List AV) (ρ:Sg) (nd0:Nd) (v0:AV),HRel ρ h0 W/\GRel (mkM P glob hG [] noExt) ρ/\VRels ρ ar A.toList/\CallOk (mkM P glob hG [] noExt) f ar h0 ⟨nd0,[⟨.tt,v0,h0⟩]⟩/\nd0.val/\allOld h0.clock h0.blks=true/\Tells h0.size h0 v0 h.size v bs):
  CallOk (mkM P glob hG [] noExt) f args h ⟨nd,[⟨.tt,v,pushAll h bs⟩]⟩:=by
 intro σ A W g r hA hn cs
 obtain ⟨h0,ar,ρ,nd0,v0,r0,g0,hA0,hc,hn0,h2,tell⟩:=key σ A W g r hA hn
 obtain ⟨x,k1,τ,V,X,fr,k2,k3,k4,k5,k6⟩:=hc ρ A W g0 r0 hA0 hn0 cs
 obtain rfl:=one_tt k1
 have quiet:∀ i B N c,ρ i=some (B,N)->h0.get i=some c->c.wr<h0.clock:=fun i B N c _ e2=>allOld_mem h2 c (get_mem e2)
 have hq:Quiet W X:=⟨k4.ext,fun B hB=>k4.keep B hB (fun h=>h) fun i N c e e2=>quiet i B N c e e2⟩
 obtain ⟨υ,u1,u2,u3⟩:=tell σ h W τ X V rfl r k3 k2 (fun i B N e hi=>absurd (k3.dom i B N e).1 (Nat.not_lt.2 hi)) hq
 exact ⟨⟨.tt,v,pushAll h bs⟩,rfl,υ,V,X,fr,u3,u1,u2,k5,k6⟩
end
end Go.Eng
namespace Go.Eng
open Go
noncomputable section
theorem rows_take {τ:Sg} {N:Nat} {ik:IntKind} {ys:List Int} {o:Obj} (j:Nat) (h:BRel τ N (.rows ik ys) o):BRel τ N (.rows ik (ys.take j)) o:=by
 obtain ⟨K,e,fr,rfl,h1⟩:=h
 refine ⟨K,e,fr,rfl,?_⟩
 rw [List.map_take,<- h1,List.take_take,List.length_take]
def readT (hG:Hp) (m:Nat) (h:Hp):List Pa->List AV->Option (List (Nat×IntKind×List Int)×List Itm)
 | [],[]=>some ([],[])
 | .n sh :: ps,v :: vs=>match Sh.read sh v with
  | none=>none
  | some (_,xs)=>match readT hG m h ps vs with
   | none=>none
   | some (ls,its)=>some (ls,.n xs :: its)
 | .s shs ik :: ps,v :: vs=>match v with
  | .agg cells=>match splitL cells with
   | some (init,.lslice id n)=>match h.get id with
    | some ⟨_,.rows ik' ys⟩=>match decide (ik=ik')&&Nat.ble hG.size id with
     | true=>match Sh.readL shs init with
      | none=>none
      | some (_,xs)=>match readT hG m h ps vs with
       | none=>none
       | some (ls,its)=>some ((id,ik,ys.take (m*n.toNat)) :: ls,.s xs n (ys.take (m*n.toNat)) :: its)
     | false=>none
    | _=>none
   | some (init,.nilslice)=>match Sh.readL shs init with
    | none=>none
    | some (_,xs)=>match readT hG m h ps vs with
     | none=>none
     | some (ls,its)=>some ((0,ik,[]) :: ls,.s xs 0 [] :: its)
   | _=>none
  | _=>none
 | _,_=>none
theorem readT_rel {hG h:Hp} {m:Nat} {σ:Sg} {W:World} (r:HRel σ h W):∀ (ps:List Pa) (args:List AV) (ls:List (Nat×IntKind×List Int)) (its:List Itm),readT hG m h ps args=some (ls,its)->∀ L:List Value,VRels σ args L ->
  ls.map (·.2)=lists ps its/\(∀ x∈ls,x.2.2=[]\/hG.size<=x.1/\∃ B N o w ys,h.get x.1=some ⟨w,.rows x.2.1 ys⟩/\(ABody.rows x.2.1 ys).isDead=false/\σ x.1=some (B,N)/\W.heap[B]?=some o/\∀ τ,BRel τ N (.rows x.2.1 x.2.2) o) /\
  ∀ (ρ:Sg) (j:Nat),Sub (σ.low hG.size) ρ->(∀ i x,ls[i]?=some x->x.2.2≠[]->ρ (j+i)=σ x.1)->okIts its->AV.underL hG.size (inits ps its)=true->VRels ρ (mkA true j ps its) L
 | [],[],ls,its,e,L,hL=>by
  cases e
  exact ⟨rfl,by simp,fun ρ j _ _ _ _=>hL⟩
 | .n sh :: ps,v :: vs,ls,its,e,L,hL=>by
  simp only [readT] at e
  split at e
  .cases e
  .rename_i s xs h1
   split at e
   .cases e
   .rename_i ls' its' h2
    cases e
    obtain ⟨V,L',rfl,q1,q2⟩:=hL
    obtain ⟨a1,a2,a3⟩:=readT_rel r ps vs _ _ h2 L' q2
    refine ⟨a1,a2,fun ρ j hs hj hok hu=>?_⟩
    simp only [inits,AV.underL,Bool.and_eq_true] at hu
    have:=(Sh.read_mk sh v s xs [] h1).2 σ V q1
    rw [List.append_nil] at this
    exact ⟨V,L',rfl,VRel.mono hs _ _ (VRel.low _ _ this hu.1),a3 ρ j hs hj hok hu.2⟩
 | .s shs ik :: ps,v :: vs,ls,its,e,L,hL=>by
  simp only [readT] at e
  split at e
  .rename_i cells
   split at e
   .rename_i init id n hsp
    split at e
    .rename_i w ik' ys hg
     split at e
     .rename_i hb
      simp only [Bool.and_eq_true,decide_eq_true_eq] at hb
      obtain ⟨rfl,hb⟩:=hb
      have hge:=Nat.le_of_ble_eq_true hb
      split at e
      .cases e
      .rename_i s xs h1
       split at e
       .cases e
       .rename_i ls' its' h2
        cases e
        obtain ⟨V,L',rfl,q1,q2⟩:=hL
        obtain ⟨a1,a2,a3⟩:=readT_rel r ps vs _ _ h2 L' q2
        obtain ⟨K,rfl,hK⟩:=q1
        rw [splitL_eq hsp] at hK
        obtain ⟨I,Z,hIZ,k1,k2⟩:=rels_split hK
        obtain ⟨zv,zl,rfl,⟨p,len,c,rfl,hl,hp⟩,k4⟩:=k2
        obtain rfl:zl=[]:=k4
        have alive:ys.take (m*n.toNat)≠[]->(ABody.rows ik ys).isDead=false:=by
         intro hne
         cases hy:ys with
         | nil=>rw [hy] at hne; simp at hne
         | cons y l=>rfl
        refine ⟨by simp [lists,a1],fun y hy=>?_,fun ρ j hs hj hok hu=>?_⟩
        .rcases List.mem_cons.1 hy with rfl|hy
         .by_cases hne:ys.take (m*n.toNat)=[]
          .exact .inl hne
          .obtain ⟨B,N,o,g1,g2,g3⟩:=r.blk id _ hg (alive hne)
           exact .inr ⟨hge,B,N,o,w,ys,hg,alive hne,g1,g2,fun τ=>rows_take _ g3⟩
         .exact a2 y hy
        .simp only [inits,underL_app,Bool.and_eq_true] at hu
         have k5:=(Sh.readL_mk shs init s xs [] h1).2 σ I k1
         rw [List.append_nil] at k5
         have k6:=VRels.mono hs _ _ (VRels.low _ _ k5 hu.1)
         refine ⟨_,L',rfl,⟨K,rfl,?_⟩,a3 ρ (j+1) hs (fun i x hx hne=>?_) hok.2 hu.2⟩
         .rw [hIZ]
          refine VRels.append k6 ⟨_,[],rfl,⟨p,len,c,rfl,hl,?_⟩,rfl⟩
          by_cases h0:n=0
          .exact .inl (by omega)
          .rcases hp with hp|⟨B,N,g1,g2⟩
           .exact .inl hp
           .have hne:ys.take (m*n.toNat)≠[]:=fun hh=>h0 (hok.1 hh)
            have:=hj 0 (id,ik,ys.take (m*n.toNat)) rfl hne
            rw [Nat.add_zero] at this
            exact .inr ⟨B,N,by rw [this]; exact g1,g2⟩
         .have:=hj (i+1) x (by simpa using hx) hne
          rw [<- this]
          congr 1
          omega
     .cases e
    .cases e
   .rename_i init hsp
    split at e
    .cases e
    .rename_i s xs h1
     split at e
     .cases e
     .rename_i ls' its' h2
      cases e
      obtain ⟨V,L',rfl,q1,q2⟩:=hL
      obtain ⟨a1,a2,a3⟩:=readT_rel r ps vs _ _ h2 L' q2
      obtain ⟨K,rfl,hK⟩:=q1
      rw [splitL_eq hsp] at hK
      obtain ⟨I,Z,hIZ,k1,k2⟩:=rels_split hK
      obtain ⟨zv,zl,rfl,hz,k4⟩:=k2
      obtain rfl:zl=[]:=k4
      refine ⟨by simp [lists,a1],fun y hy=>?_,fun ρ j hs hj hok hu=>?_⟩
      .rcases List.mem_cons.1 hy with rfl|hy
       .exact .inl rfl
       .exact a2 y hy
      .simp only [inits,underL_app,Bool.and_eq_true] at hu
       have k5:=(Sh.readL_mk shs init s xs [] h1).2 σ I k1
       rw [List.append_nil] at k5
       have k6:=VRels.mono hs _ _ (VRels.low _ _ k5 hu.1)
       refine ⟨_,L',rfl,⟨K,rfl,?_⟩,a3 ρ (j+1) hs (fun i x hx hne=>?_) hok.2 hu.2⟩
       .rw [hIZ]
        exact VRels.append k6 ⟨_,[],rfl,⟨none,0,0,hz,by simp,.inl rfl⟩,rfl⟩
       .have:=hj (i+1) x (by simpa using hx) hne
        rw [<- this]
        congr 1
        omega
   .cases e
  .cases e
 | [],_ :: _,_,_,e,_,_=>by simp [readT] at e
 | .n _ :: _,[],_,_,e,_,_=>by simp [readT] at e
 | .s _ _ :: _,[],_,_,e,_,_=>by simp [readT] at e
def tSpec (hG:Hp) (m:Nat) (ps:List Pa) (V:List Itm->Option (Prop×AV)):NSpec:=fun args h=>match readT hG m h ps args with
 | none=>none
 | some (_,its)=>match V its with
  | some (p,v)=>some (.p p,v,[])
  | none=>none
theorem tSpec_ok {P:Program} {glob:Nat->Option Nat} {hG:Hp} {m:Nat} (ok:hG.ok) (pl:blksPlain hG.size hG.blks=true) (hgl:∀ g i,glob g=some i->i<hG.size) {f:FuncId} {ps:List Pa} {V:Nat->List Itm->Option (Prop×AV×List ABody)} {V':List Itm->Option (Prop×AV)} (g:NOk P glob hG f (lSpec hG ps V))
  (h:∀ its p v,V' its=some (p,v)->p->∃ p0,V (viewsH true hG (lists ps its)).size its=some (p0,v,[])/\p0/\v.num=true/\okIts its/\AV.underL hG.size (inits ps its)=true/\(∃ ls,readA hG (viewsH true hG (lists ps its)) ps (mkA true hG.size ps its)=some (ls,its))/\globsSame hG (viewsH true hG (lists ps its)) hG.size=true/\allOld (viewsH true hG (lists ps its)).clock (viewsH true hG (lists ps its)).blks=true):
  NOk P glob hG f (tSpec hG m ps V'):=by
 refine ⟨fun args nd v bs h' e same=>?_,g.fn⟩
 unfold tSpec at e
 split at e
 .cases e
 .rename_i ls its hr
  split at e
  .rename_i p v' hV
   cases e
   refine ref_call2 fun σ A W gr r hA hn=>?_
   obtain ⟨p0,e1,hp0,hnum,b1,b2,⟨ls',hrd⟩,hgs,hold⟩:=h its p v hV hn
   obtain ⟨a1,a2,a3⟩:=readT_rel r ps args ls its hr A.toList hA
   have gs:=globsSame_get same
   obtain ⟨ρ,r0,sub,hj⟩:=views_rel (raw:=true) (σ:=σ) ls (σ.low hG.size) hG (glob_rel ok pl same r) (fun x hx=>by
    rcases a2 x hx with h1|⟨hge,B,N,o,w,ys,h0,hd,h1,h2,h3⟩
    .exact .inl h1
    .refine .inr ⟨B,N,o,h1,h2,h3,fun i b M hg hdb e1=>?_⟩
     have hi:=Hp.get_lt hg
     obtain ⟨b',c',hb',hc',hbc⟩:=gs i hi
     rw [hg] at hc'; cases hc'
     rcases r.inj i x.1 b' _ B M N hb' h0 (by rw [hbc]; exact hdb) hd (Sg.low_sub σ _ _ _ e1) h1 with h8|⟨h8,_⟩
     .omega
     .rw [hbc] at h8; exact h8)
   rw [a1] at r0
   refine ⟨viewsH true hG (lists ps its),mkA true hG.size ps its,ρ,.p p0,v,r0,fun gl i hgi=>?_,a3 ρ hG.size sub hj b1 b2,g.call _ (.p p0) v [] _ (by unfold lSpec; rw [hrd]; simp only [e1]) hgs,hp0,hold,tells_num fun τ σ V hV=>num_rel _ _ hnum hV⟩
   obtain ⟨N,hN⟩:=gr gl i hgi
   exact ⟨N,sub _ _ (by simp [Sg.low,hgl gl i hgi,hN])⟩
  .cases e
end
end Go.Eng
namespace Go.Eng
open Go
noncomputable section
mutual
def AV.plain:AV->Bool
 | .int s _ _=>!s
 | .bool s _=>!s
 | .str s _=>!s
 | .agg l=>AV.plainL l
 | .tuple l=>AV.plainL l
 | _=>false
def AV.plainL:List AV->Bool
 | []=>true
 | a :: l=>AV.plain a&&AV.plainL l
end
mutual
def AV.told:AV->AV
 | .int _ k n=>mkInt false k n
 | .bool _ b=>mkBool false b
 | .agg l=>.agg (AV.toldL l)
 | .tuple l=>.tuple (AV.toldL l)
 | v=>v
def AV.toldL:List AV->List AV
 | []=>[]
 | a :: l=>AV.told a :: AV.toldL l
end
mutual
theorem told_rel {σ:Sg}:∀ (a:AV) (v:Value),VRel σ a v->VRel σ (AV.told a) v
 | .int _ _ _,v,h=>by rw [AV.told,mkInt_rel]; exact h
 | .bool _ _,v,h=>by rw [AV.told,mkBool_rel]; exact h
 | .agg l,v,⟨K,e,h⟩=>⟨K,e,toldL_rel l _ h⟩
 | .tuple l,v,⟨K,e,h⟩=>⟨K,e,toldL_rel l _ h⟩
 | .any _,_,h=>h
 | .str _ _,_,h=>h
 | .nil,_,h=>h
 | .ptr _ _,_,h=>h
 | .nilslice,_,h=>h
 | .eslice _,_,h=>h
 | .slice _ _ _ _,_,h=>h
 | .gslice _ _ _ _,_,h=>h
 | .func _ _ _,_,h=>h
 | .yield _,_,h=>h
 | .nilfunc,_,h=>h
 | .iface _ _,_,h=>h
 | .niliface,_,h=>h
 | .map _,_,h=>h
 | .nilmap,_,h=>h
 | .vslice _ _,_,h=>h
 | .pslice _ _ _ _,_,h=>h
 | .lslice _ _,_,h=>h
 | .panic _,_,h=>h
 | .vptr _ _,_,h=>h
theorem toldL_rel {σ:Sg}:∀ (l:List AV) (L:List Value),VRels σ l L->VRels σ (AV.toldL l) L
 | [],_,h=>h
 | a :: l,_,⟨v,vs,e,h1,h2⟩=>⟨v,vs,e,told_rel a v h1,toldL_rel l vs h2⟩
end
def plainS (s:PSpec):PSpec:=fun args=>match s args with
 | some (nd,v)=>match AV.plainL args with
  | true=>some (nd,AV.told v)
  | false=>some (nd,v)
 | none=>none
theorem PureOk.plainS {P:Program} {f:FuncId} {s:PSpec} (g:PureOk P f s):PureOk P f (plainS s):=by
 refine ⟨g.fn,fun args nd v e hn σ A W hA cs=>?_⟩
 unfold Eng.plainS at e
 split at e
 .rename_i nd' v' h
  split at e
  .cases e
   obtain ⟨V,X,fr,h1,h2,h3,h4⟩:=g.run args nd v' h hn σ A W hA cs
   exact ⟨V,X,fr,told_rel _ _ h1,h2,h3,h4⟩
  .cases e
   exact g.run _ _ _ h hn σ A W hA cs
 .cases e
end
end Go.Eng
namespace Go.Eng
open Go
noncomputable section
def tP (hG:Hp) (m:Nat) (ps:List Pa) (V:List Itm->Option AV):NSpec:=fun args h=>match readT hG m h ps args with
 | none=>none
 | some (_,its)=>match V its with
  | some v=>some (.tt,AV.told v,[])
  | none=>none
theorem tP_ok {P:Program} {glob:Nat->Option Nat} {hG:Hp} {m:Nat} {f:FuncId} {ps:List Pa} {V':List Itm->Option (Prop×AV)} {V:List Itm->Option AV} (g:NOk P glob hG f (tSpec hG m ps V'))
  (h:∀ its v,V its=some v->∃ p:Prop,V' its=some (p,v)/\p):NOk P glob hG f (tP hG m ps V):=by
 refine g.weaken fun args hp nd v bs e=>?_
 unfold tP at e
 split at e
 .cases e
 .rename_i its hr
  split at e
  .rename_i v' hV
   cases e
   obtain ⟨p,h1,h2⟩:=h _ _ hV
   exact ⟨.p p,v',by unfold tSpec; rw [hr]; simp only [h1],fun _=>⟨h2,fun σ U hU=>told_rel _ _ hU⟩⟩
  .cases e
def cSpec (v:AV):NSpec:=fun args _=>match args with
 | []=>some (.tt,v,[])
 | _=>none
theorem cSpec_ok {P:Program} {glob:Nat->Option Nat} {hG:Hp} (ok:hG.ok) (pl:blksPlain hG.size hG.blks=true) (hgl:∀ g i,glob g=some i->i<hG.size) {f:FuncId} {v:AV} {C:Ctx} {n:Nat} {nd:Nd} (co:CtxOk C) (hP:C.P=P) (hGl:C.glob=glob) (fn:∃ fn:Func,P.funcs[f]?=some fn/\fn.body.isSome=true)
  (r:oneG hG.size hG.clock ((run C n).call f [] hG)=some (nd,v)) (hn:nd.val) (hv:v.num=true) (ht:tell v v):NOk P glob hG f (cSpec v):=by
 have g:NOk P glob hG f (lSpec hG [] fun _ its=>match its with
  | []=>some (True,v,[])
  | _=>none):=by
  refine lsp_okM ok pl hgl (fun sz its p w bs e hp=>?_) fn
  split at e
  .cases e
   refine ⟨trivial,rfl,true,?_⟩
   obtain ⟨q,a1,a2,a3,a4⟩:=oneG_tells r hv
   exact ⟨C,n,[],nd,v,q,co,hP,hGl,trivial,a1,a2,hn,a3,a4 sz _ ht⟩
  .cases e
 refine g.weaken fun args hp nd' w bs e=>?_
 unfold cSpec at e
 split at e
 .cases e
  exact ⟨.p True,v,rfl,fun _=>⟨trivial,fun σ U h=>h⟩⟩
 .cases e
end
end Go.Eng
namespace Go.Eng
open Go
noncomputable section
def Alone (ρ:Sg) (h0:Hp) (B:Nat):Prop:=∀ i c M,h0.get i=some c->c.body.isDead=false->ρ i=some (B,M)->False
theorem own_add {ρ:Sg} {h0:Hp} {W:World} (r:HRel ρ h0 W) {B N:Nat} {b:ABody} {o:Obj} (ho:W.heap[B]?=some o) (hb:BRel (ρ.add h0.size (B,N)) N b o) (ap:Alone ρ h0 B):
  HRel (ρ.add h0.size (B,N)) (h0.push0 b) W:=by
 have hs:=Sub.add (x:=(B,N)) r.fresh
 have hB:B<W.heap.size:=by
  rcases Nat.lt_or_ge B W.heap.size with h1|h1
  .exact h1
  .rw [Array.getElem?_eq_none h1] at ho; cases ho
 refine ⟨by have:=r.ok; simp only [Hp.ok,Hp.push0,List.length_cons] at this ⊢; omega,fun i c hg hd=>?_,fun i B' M e=>?_,fun i j c d B' M M' hg hg' hd hd' e1 e2=>?_⟩
 .rw [Hp.get_push0] at hg
  split at hg
  .rename_i hi; subst hi; cases hg
   exact ⟨B,N,o,add_here,ho,hb⟩
  .obtain ⟨B',M,p,h1,h2,h3⟩:=r.blk i c hg hd
   exact ⟨B',M,p,hs _ _ h1,h2,h3.mono hs⟩
 .rcases add_cases e with ⟨rfl,hx⟩|⟨hi,hx⟩
  .cases hx; exact ⟨Nat.lt_succ_self _,hB⟩
  .have:=r.dom i B' M hx
   exact ⟨Nat.lt_succ_of_lt this.1,this.2⟩
 .rw [Hp.get_push0] at hg hg'
  rcases add_cases e1 with ⟨rfl,hx⟩|⟨hi,hx⟩ <;> rcases add_cases e2 with ⟨rfl,hy⟩|⟨hj,hy⟩
  .exact .inl rfl
  .cases hx
   rw [if_neg hj] at hg'
   exact (ap j d M' hg' hd' hy).elim
  .cases hy
   rw [if_neg hi] at hg
   exact (ap i c M hg hd hx).elim
  .rw [if_neg hi] at hg
   rw [if_neg hj] at hg'
   exact r.inj i j c d B' M M' hg hg' hd hd' hx hy
noncomputable def readX (hG h:Hp):List Nat->List (List Sh)->List AV->Option (List (List Nu))
 | _,[],[]=>some []
 | used,sh :: shs,v :: vs=>match v with
  | .ptr b 0=>match h.get b with
   | some ⟨_,.cells tc⟩=>match Sh.readL sh tc with
    | some (_,ts)=>match Nat.ble hG.size b&&!used.elem b with
     | true=>match readX hG h (b :: used) shs vs with
      | some r=>some (ts :: r)
      | none=>none
     | false=>none
    | none=>none
   | _=>none
  | _=>none
 | _,_,_=>none
noncomputable def readB (hG h:Hp) (g:FuncId) (shs:List Sh) (ik:IntKind) (bx:List (List Sh)):List AV->Option (List Nu×Int×List Int×List (List Nu))
 | [.func g' [] (.ptr a 0 :: vs)]=>match Nat.beq g g' with
  | true=>match h.get a with
   | some ⟨_,.cells [.ptr s 0]⟩=>match h.get s with
    | some ⟨_,.cells l⟩=>match splitL l with
     | some (init,.lslice c n)=>match Sh.readL shs init with
      | some (_,xs)=>match h.get c with
       | some ⟨_,.rows ik' ys⟩=>match decide (ik=ik')&&(Nat.ble hG.size a&&(Nat.ble hG.size s&&(Nat.ble hG.size c&&!Nat.beq a s))) with
        | true=>match readX hG h [a,s] bx vs with
         | some ts=>some (xs,n,ys,ts)
         | none=>none
        | false=>none
       | _=>none
      | none=>none
     | _=>none
    | _=>none
   | _=>none
  | false=>none
 | _=>none
noncomputable def boxesH (h:Hp):List (List Sh)->List (List Nu)->Hp
 | sh :: shs,ts :: tss=>boxesH (h.push0 (.cells (Sh.mkL sh ts).1)) shs tss
 | _,_=>h
def boxesA (j:Nat):List (List Sh)->List AV
 | []=>[]
 | _ :: shs=>.ptr j 0 :: boxesA (j+1) shs
def boxesU (n:Nat):List (List Sh)->List (List Nu)->Bool
 | sh :: shs,ts :: tss=>AV.underL n (Sh.mkL sh ts).1&&boxesU n shs tss
 | _,_=>true
noncomputable def heapB (hG:Hp) (shs:List Sh) (ik:IntKind) (bx:List (List Sh)) (xs:List Nu) (n:Int) (ys:List Int) (ts:List (List Nu)):Hp:=
 boxesH (((viewsH true hG [(ik,ys)]).push0 (.cells ((Sh.mkL shs xs).1++[.lslice hG.size n]))).push0 (.cells [.ptr (hG.size+1) 0])) bx ts
noncomputable def argB (hG:Hp) (g:FuncId) (bx:List (List Sh)):List AV:=[.func g [] (.ptr (hG.size+2) 0 :: boxesA (hG.size+3) bx)]
theorem readB_spec {hG h:Hp} {g:FuncId} {shs:List Sh} {ik:IntKind} {bx:List (List Sh)} {args:List AV} {xs:List Nu} {ts:List (List Nu)} {n:Int} {ys:List Int} (e:readB hG h g shs ik bx args=some (xs,n,ys,ts)):
  ∃ a s c vs,args=[.func g [] (.ptr a 0 :: vs)]/\(hG.size<=a/\hG.size<=s/\hG.size<=c)/\a≠s/\readX hG h [a,s] bx vs=some ts/\∃ w1 w3 w4 init sI,h.get a=some ⟨w1,.cells [.ptr s 0]⟩ /\
   h.get s=some ⟨w3,.cells (init++[.lslice c n])⟩/\Sh.readL shs init=some (sI,xs)/\h.get c=some ⟨w4,.rows ik ys⟩:=by
 unfold readB at e
 split at e
 .rename_i g' a' vs
  split at e
  .rename_i hg
   have hg:=Nat.eq_of_beq_eq_true hg
   subst hg
   split at e
   .rename_i w1 s' h1
    split at e
    .rename_i w3 l h4
     split at e
     .rename_i init c' n' h5
      split at e
      .rename_i sI xs' h6
       split at e
       .rename_i w4 ik' ys' h7
        split at e
        .rename_i hb
         simp only [Bool.and_eq_true,decide_eq_true_eq] at hb
         obtain ⟨rfl,b1,b3,b4,b6⟩:=hb
         split at e
         .rename_i ts' hX
          cases e
          have nb:∀ i j:Nat,(!Nat.beq i j)=true->i≠j:=fun i j k e=>by subst e; rw [Nat.beq_refl] at k; cases k
          refine ⟨a',s',c',vs,rfl,⟨Nat.le_of_ble_eq_true b1,Nat.le_of_ble_eq_true b3,Nat.le_of_ble_eq_true b4⟩,nb _ _ b6,hX,w1,w3,w4,init,sI,h1,?_,h6,h7⟩
          rw [h4,splitL_eq h5]
         .cases e
        .cases e
       .cases e
      .cases e
     .cases e
    .cases e
   .cases e
  .cases e
 .cases e
noncomputable def bSpec (hG:Hp) (g:FuncId) (shs:List Sh) (ik:IntKind) (bx:List (List Sh)) (V:List Nu->Int->List Int->List (List Nu)->Option (Prop×AV)):NSpec:=fun args h=>match readB hG h g shs ik bx args with
 | none=>none
 | some (xs,n,ys,ts)=>match V xs n ys ts with
  | none=>none
  | some (p,v)=>some (.p p,v,[])
theorem Alone.add {ρ:Sg} {h0:Hp} {B B' N:Nat} {b:ABody} (ap:Alone ρ h0 B') (hne:B≠B'):Alone (ρ.add h0.size (B,N)) (h0.push0 b) B':=by
 intro i c M hg hd e
 rw [Hp.get_push0] at hg
 rcases add_cases e with ⟨rfl,hx⟩|⟨hi,hx⟩
 .cases hx; exact hne rfl
 .rw [if_neg hi] at hg
  exact ap i c M hg hd hx
def Free (hG h':Hp) (σ ρ:Sg) (h0:Hp) (used:List Nat):Prop:=∀ (x:Nat) (bx:ABlk) (Bx Nx:Nat),hG.size<=x->x ∉ used->h'.get x=some bx->bx.body.isDead=false->bx.body.isView=false->σ x=some (Bx,Nx)->Alone ρ h0 Bx
theorem Free.add {hG h':Hp} {σ ρ:Sg} {h0:Hp} {used:List Nat} {W:World} (r:HRel σ h' W) (fr:Free hG h' σ ρ h0 used) {y:Nat} {cy:ABlk} {B N:Nat} {b:ABody} (hg:h'.get y=some cy) (hd:cy.body.isDead=false) (hy:σ y=some (B,N)):Free hG h' σ (ρ.add h0.size (B,N)) (h0.push0 b) (y :: used):=by
 intro x bx Bx Nx hge hu hgx hdx hv hx
 refine (fr x bx Bx Nx hge (fun h=>hu (List.mem_cons_of_mem _ h)) hgx hdx hv hx).add fun hBB=>?_
 subst hBB
 rcases r.inj x y bx cy B Nx N hgx hg hdx hd hx hy with h8|⟨h8,_⟩
 .exact hu (by rw [h8]; exact List.mem_cons_self)
 .rw [hv] at h8; cases h8
theorem boxes_rel {hG h':Hp} {σ:Sg} {W:World} (r:HRel σ h' W):∀ (bx:List (List Sh)) (vs:List AV) (used:List Nat) (ts:List (List Nu)) (ρ:Sg) (h0:Hp),readX hG h' used bx vs=some ts->HRel ρ h0 W->Sub (σ.low hG.size) ρ->Free hG h' σ ρ h0 used->boxesU hG.size bx ts=true ->
  ∃ ρ',HRel ρ' (boxesH h0 bx ts) W/\Sub ρ ρ'/\∀ L,VRels σ vs L->VRels ρ' (boxesA h0.size bx) L
 | [],[],used,ts,ρ,h0,e,r0,_,_,_=>by
  cases e
  exact ⟨ρ,r0,Sub.refl _,fun L hL=>hL⟩
 | sh :: shs,v :: vs,used,ts,ρ,h0,e,r0,sub,fr,hu=>by
  simp only [readX] at e
  split at e
  .rename_i b
   split at e
   .rename_i w tc hb
    split at e
    .rename_i sT t hT
     split at e
     .rename_i hc
      simp only [Bool.and_eq_true,Bool.not_eq_true',List.elem_eq_mem,decide_eq_false_iff_not] at hc
      have hge:=Nat.le_of_ble_eq_true hc.1
      split at e
      .rename_i rest hX
       cases e
       simp only [boxesU,Bool.and_eq_true] at hu
       obtain ⟨Bb,Nb,ob,sb,hob,rb⟩:=r.blk b _ hb rfl
       obtain ⟨Kb,eb,rfl,rb1,rb2⟩:=rb
       have s1:Sub ρ (ρ.add h0.size (Bb,Nb)):=Sub.add r0.fresh
       have cellsT:VRels (ρ.add h0.size (Bb,Nb)) (Sh.mkL sh t).1 Kb.toList:=by
        have k6:=(Sh.readL_mk _ tc sT t [] hT).2 σ _ rb1
        rw [List.append_nil] at k6
        exact VRels.mono (sub.trans s1) _ _ (VRels.low _ _ k6 hu.1)
       have r1:=own_add (N:=Nb) r0 (b:=.cells (Sh.mkL sh t).1) hob ⟨Kb,eb,rfl,cellsT,rb2⟩ (fr b _ Bb Nb hge hc.2 hb rfl rfl sb)
       obtain ⟨ρ',q1,q2,q3⟩:=boxes_rel r shs vs (b :: used) rest _ _ hX r1 (sub.trans s1) (fr.add r hb rfl sb) hu.2
       refine ⟨ρ',q1,s1.trans q2,fun L hL=>?_⟩
       obtain ⟨V,L',rfl,⟨B,N,k1,rfl⟩,k2⟩:=hL
       rw [sb] at k1; cases k1
       exact ⟨_,L',rfl,⟨Bb,Nb,q2 _ _ add_here,rfl⟩,q3 L' k2⟩
      .cases e
     .cases e
    .cases e
   .cases e
  .cases e
 | [],_ :: _,_,_,_,_,e,_,_,_,_=>by simp [readX] at e
 | _ :: _,[],_,_,_,_,e,_,_,_,_=>by simp [readX] at e
theorem bsp_ok {P:Program} {glob:Nat->Option Nat} {hG:Hp} (ok:hG.ok) (pl:blksPlain hG.size hG.blks=true) (hgl:∀ g i,glob g=some i->i<hG.size) {f g:FuncId} {shs:List Sh} {ik:IntKind} {bx:List (List Sh)} {V:List Nu->Int->List Int->List (List Nu)->Option (Prop×AV)}
  (h:∀ xs n ys ts p v,V xs n ys ts=some (p,v)->p->(ys=[]->n=0)/\AV.underL hG.size (Sh.mkL shs xs).1=true/\boxesU hG.size bx ts=true/\v.num=true/\∃ (C:Ctx) (m:Nat) (nd0:Nd) (v0:AV),CtxOk C/\C.P=P/\C.glob=glob /\
   oneG (heapB hG shs ik bx xs n ys ts).size hG.clock ((run C m).call f (argB hG g bx) (heapB hG shs ik bx xs n ys ts))=some (nd0,v0)/\nd0.val/\v0.num=true/\tell v0 v)
  (fn:∃ fn:Func,P.funcs[f]?=some fn/\fn.body.isSome=true):NOk P glob hG f (bSpec hG g shs ik bx V):=by
 refine ⟨fun args nd v bs h' e same=>?_,fn⟩
 unfold bSpec at e
 split at e
 .cases e
 .rename_i xs n ys ts hr
  split at e
  .cases e
  .rename_i p v' hV
   cases e
   obtain ⟨a,s,c,vs,rfl,⟨la,ls,lc⟩,nas,hX,w1,w3,w4,init,sI,ga,gs,rI,gc⟩:=readB_spec hr
   refine ref_call fun σ A W gr r hA hn=>?_
   obtain ⟨hz,u1,u2,hvn,C,m,nd0,v0,co,rfl,rfl,hrun,hn0,hv0,htl⟩:=h _ _ _ _ _ _ hV hn
   have gsm:=globsSame_get same
   obtain ⟨Ba,Na,oa,sa,ha,ra⟩:=r.blk a _ ga rfl
   obtain ⟨Bs,Ns,os,ss,hs,rs⟩:=r.blk s _ gs rfl
   have apart:∀ (x:Nat) (bx:ABlk) (Bx Nx:Nat),hG.size<=x->h'.get x=some bx->bx.body.isDead=false->bx.body.isView=false->σ x=some (Bx,Nx)->Alone (σ.low hG.size) hG Bx:=by
    intro x bx Bx Nx hge hg hd hv hx i d M hgi hdi hi
    have hlt:=Hp.get_lt hgi
    obtain ⟨b',c',hb',hc',hbc⟩:=gsm i hlt
    rw [hgi] at hc'; cases hc'
    rcases r.inj i x b' bx Bx M Nx hb' hg (by rw [hbc]; exact hdi) hd (Sg.low_sub σ _ _ _ hi) hx with h8|⟨_,h8⟩
    .omega
    .rw [hv] at h8; cases h8
   have r1:∃ ρ,HRel ρ (viewsH true hG [(ik,ys)]) W/\Sub (σ.low hG.size) ρ/\(ys≠[]->ρ hG.size=σ c)/\Free hG h' σ ρ (viewsH true hG [(ik,ys)]) []:=by
    have r0:=glob_rel ok pl same r
    by_cases hys:ys=[]
    .subst hys
     refine ⟨σ.low hG.size,view_dead r0 rfl,Sub.refl _,fun h=>absurd rfl h,fun x bx Bx Nx hge _ hg hd hv hx i d M hgi hdi hi=>?_⟩
     simp only [viewsH,bodyB] at hgi
     rw [Hp.get_push0] at hgi
     split at hgi
     .cases hgi; cases hdi
     .exact apart x bx Bx Nx hge hg hd hv hx i d M hgi hdi hi
    .have hd:(ABody.rows ik ys).isDead=false:=by
      cases ys with
      | nil=>exact absurd rfl hys
      | cons y ys=>rfl
     obtain ⟨Bc,Nc,oc,sc,hc,rc⟩:=r.blk c _ gc hd
     refine ⟨(σ.low hG.size).add hG.size (Bc,Nc),view_add r0 rfl hc rc (fun i b M hg hdb e1=>?_),Sub.add r0.fresh,fun _=>by rw [add_here,sc],fun x bx Bx Nx hge _ hg hdx hv hx i d M hgi hdi hi=>?_⟩
     .have hi:=Hp.get_lt hg
      obtain ⟨b',c',hb',hc',hbc⟩:=gsm i hi
      rw [hg] at hc'; cases hc'
      rcases r.inj i c b' _ Bc M Nc hb' gc (by rw [hbc]; exact hdb) hd (Sg.low_sub σ _ _ _ e1) sc with h8|⟨h8,_⟩
      .omega
      .rw [hbc] at h8; exact h8
     .simp only [viewsH,bodyB] at hgi
      rw [Hp.get_push0] at hgi
      rcases add_cases hi with ⟨rfl,hx'⟩|⟨hne,hx'⟩
      .cases hx'
       rcases r.inj c x _ bx Bc Nc Nx gc hg hd hdx sc hx with h8|⟨_,h8⟩
       .subst h8; rw [gc] at hg; cases hg; cases hv
       .rw [hv] at h8; cases h8
      .rw [if_neg hne] at hgi
       exact apart x bx Bx Nx hge hg hdx hv hx i d M hgi hdi hx'
   obtain ⟨ρ1,q1,sub1,hρc,al1⟩:=r1
   obtain ⟨Ks,es,rfl,rs1,rs2⟩:=rs
   have k5:=(Sh.readL_mk shs init sI xs [] rI)
   have cellsS:VRels (ρ1.add (hG.size+1) (Bs,Ns)) ((Sh.mkL shs xs).1++[.lslice hG.size n]) Ks.toList:=by
    obtain ⟨I,Z,hIZ,k1,k2⟩:=rels_split rs1
    obtain ⟨zv,zl,rfl,k3,k4⟩:=k2
    obtain rfl:zl=[]:=k4
    have k6:=k5.2 σ I k1
    rw [List.append_nil] at k6
    have s2:Sub ρ1 (ρ1.add (hG.size+1) (Bs,Ns)):=Sub.add q1.fresh
    have k7:=VRels.mono (sub1.trans s2) _ _ (VRels.low _ _ k6 u1)
    obtain ⟨pp,len,cc,rfl,hl,hp⟩:=k3
    rw [hIZ]
    refine VRels.append k7 ⟨_,[],rfl,⟨pp,len,cc,rfl,hl,?_⟩,rfl⟩
    by_cases hys:ys=[]
    .have:=hz hys
     exact .inl (by omega)
    .refine hp.imp id fun ⟨B,N,e1,e2⟩=>⟨B,N,s2 _ _ (by rw [hρc hys]; exact e1),e2⟩
   have r2:=own_add (N:=Ns) q1 (b:=.cells ((Sh.mkL shs xs).1++[.lslice hG.size n])) hs (show BRel (ρ1.add (hG.size+1) (Bs,Ns)) Ns _ _ from ⟨Ks,es,rfl,cellsS,rs2⟩) (al1 s _ Bs Ns ls (fun h=>by cases h) gs rfl rfl ss)
   have s2:Sub ρ1 (ρ1.add (hG.size+1) (Bs,Ns)):=Sub.add q1.fresh
   have al2:Free hG h' σ (ρ1.add (hG.size+1) (Bs,Ns)) ((viewsH true hG [(ik,ys)]).push0 (.cells ((Sh.mkL shs xs).1++[.lslice hG.size n]))) [s]:=Free.add r al1 gs rfl ss
   obtain ⟨Ka,ea,rfl,ra1,ra2⟩:=ra
   have cellsA:VRels ((ρ1.add (hG.size+1) (Bs,Ns)).add (hG.size+2) (Ba,Na)) [.ptr (hG.size+1) 0] Ka.toList:=by
    obtain ⟨v,vs,e1,⟨B,N,k1,rfl⟩,k2⟩:=ra1
    rw [ss] at k1; cases k1
    refine ⟨_,vs,e1,⟨Bs,Ns,?_,rfl⟩,k2⟩
    exact Sub.add r2.fresh _ _ add_here
   have r3:=own_add (N:=Na) r2 (b:=.cells [.ptr (hG.size+1) 0]) ha (show BRel ((ρ1.add (hG.size+1) (Bs,Ns)).add (hG.size+2) (Ba,Na)) Na _ _ from ⟨Ka,ea,rfl,cellsA,ra2⟩) (al2 a _ Ba Na la (by simp [nas]) ga rfl rfl sa)
   have al3:Free hG h' σ ((ρ1.add (hG.size+1) (Bs,Ns)).add (hG.size+2) (Ba,Na)) (((viewsH true hG [(ik,ys)]).push0 (.cells ((Sh.mkL shs xs).1++[.lslice hG.size n]))).push0 (.cells [.ptr (hG.size+1) 0])) [a,s]:=Free.add r al2 ga rfl sa
   have s3:=(sub1.trans s2).trans (Sub.add r2.fresh (x:=(Ba,Na)))
   obtain ⟨ρ4,r4,s4,hbx⟩:=boxes_rel r bx vs [a,s] ts _ _ hX r3 s3 al3 u2
   have sAll:=s3.trans s4
   obtain ⟨k,e1,e2,e3,e4⟩:=oneG_tells hrun hv0
   have hck:(heapB hG shs ik bx xs n ys ts).clock=hG.clock:=by
    have:∀ (bx:List (List Sh)) (ts:List (List Nu)) (h:Hp),(boxesH h bx ts).clock=h.clock:=by
     intro bx
     induction bx with
     | nil=>intro ts h; rfl
     | cons b bx ih=>intro ts h; cases ts with
      | nil=>rfl
      | cons t ts=>exact ih ts _
    exact this _ _ _
   refine ⟨C,m,_,argB hG g bx,_,nd0,v0,k,co,rfl,rfl,r4,fun gl i hgi=>?_,?_,e1,e2,hn0,by rw [show (boxesH _ bx ts).clock=_ from hck]; exact e3,e4 _ _ htl⟩
   .obtain ⟨N,hN⟩:=gr gl i hgi
    exact ⟨N,sAll _ _ (by simp [Sg.low,hgl gl i hgi,hN])⟩
   .obtain ⟨v,vs',e5,⟨F,K,rfl,e6,e7⟩,e8⟩:=hA
    refine ⟨_,vs',e5,⟨F,K,rfl,e6,?_⟩,e8⟩
    obtain ⟨v1,vs1,f1,⟨B1,N1,f2,rfl⟩,f3⟩:=e7
    rw [sa] at f2; cases f2
    exact ⟨_,vs1,f1,⟨Ba,Na,s4 _ _ add_here,rfl⟩,hbx vs1 f3⟩
end
end Go.Eng
namespace Go.Eng
def lc (q r y0 u:Int):Bool:=bif decide (q>=4294967296) then true else decide (IntKind.u64.wrap (q*y0)>IntKind.u64.wrap (IntKind.u64.wrap (4294967296*r)+u))
def lq (q r y1 y0 u:Int):Int:=
 bif (lc q r y0 u&&decide (IntKind.u64.wrap (r+y1)>=4294967296))||!lc q r y0 u then
  bif lc q r y0 u&&decide (IntKind.u64.wrap (r+y1)>=4294967296) then IntKind.u64.wrap (q - 1) else q
 else
  bif (lc (IntKind.u64.wrap (q - 1)) (IntKind.u64.wrap (r+y1)) y0 u&&decide (IntKind.u64.wrap (IntKind.u64.wrap (r+y1)+y1)>=4294967296))||!lc (IntKind.u64.wrap (q - 1)) (IntKind.u64.wrap (r+y1)) y0 u then
   bif lc (IntKind.u64.wrap (q - 1)) (IntKind.u64.wrap (r+y1)) y0 u&&decide (IntKind.u64.wrap (IntKind.u64.wrap (r+y1)+y1)>=4294967296) then IntKind.u64.wrap (IntKind.u64.wrap (q - 1) - 1) else IntKind.u64.wrap (q - 1)
  else
   bif lc (IntKind.u64.wrap (IntKind.u64.wrap (q - 1) - 1)) (IntKind.u64.wrap (IntKind.u64.wrap (r+y1)+y1)) y0 u&&decide (IntKind.u64.wrap (IntKind.u64.wrap (IntKind.u64.wrap (r+y1)+y1)+y1)>=4294967296) then
    IntKind.u64.wrap (IntKind.u64.wrap (IntKind.u64.wrap (q - 1) - 1) - 1)
   else IntKind.u64.wrap (IntKind.u64.wrap (q - 1) - 1)
def lneed (q r y1 y0 u:Int):Prop:=
 (lc q r y0 u&&!decide (IntKind.u64.wrap (r+y1)>=4294967296))=true ->
  (lc (IntKind.u64.wrap (q - 1)) (IntKind.u64.wrap (r+y1)) y0 u&&!decide (IntKind.u64.wrap (IntKind.u64.wrap (r+y1)+y1)>=4294967296))=true ->
   (lc (IntKind.u64.wrap (IntKind.u64.wrap (q - 1) - 1)) (IntKind.u64.wrap (IntKind.u64.wrap (r+y1)+y1)) y0 u&&!decide (IntKind.u64.wrap (IntKind.u64.wrap (IntKind.u64.wrap (r+y1)+y1)+y1)>=4294967296))=true->False
theorem wrapU {n:Int} (h0:0<=n) (h1:n<18446744073709551616):IntKind.u64.wrap n=n:=by rw [IntKind.wrap_u64]; omega
section step
variable {u Y y1 y0 d Q:Int}
theorem over_iff (hY:9223372036854775808<=Y) (e:Y=y1*4294967296+y0) (hQ1:Q*Y<=u*4294967296+d) (hQ2:u*4294967296+d<(Q+1)*Y) {q r:Int} (hu:u=q*y1+r):
  q*y0>r*4294967296+d ↔ q>Q:=by
 have h1:q*Y=q*y1*4294967296+q*y0:=by rw [e,Int.mul_add,Int.mul_assoc]
 constructor
 .intro h
  rcases Int.lt_or_le Q q with h2|h2
  .exact h2
  .have:=Int.mul_le_mul_of_nonneg_right h2 (show 0<=Y by omega)
   omega
 .intro h
  have:=Int.mul_le_mul_of_nonneg_right (show Q+1<=q by omega) (show 0<=Y by omega)
  omega
theorem lc_iff (hY:9223372036854775808<=Y) (e:Y=y1*4294967296+y0) (h0:0<=y0) (h0':y0<4294967296) (hd:0<=d) (hd':d<4294967296) (hQ:Q<4294967296) (hQ1:Q*Y<=u*4294967296+d) (hQ2:u*4294967296+d<(Q+1)*Y)
  {q r:Int} (hu:u=q*y1+r) (hq:0<=q) (hr:0<=r) (hr':r<4294967296):lc q r y0 d=decide (q>Q):=by
 unfold lc
 by_cases h:q>=4294967296
 .simp only [h,decide_true,cond_true]
  symm; simp; omega
 .simp only [h,decide_false,cond_false]
  have h1:q*y0<=4294967295*y0:=Int.mul_le_mul_of_nonneg_right (by omega) h0
  have h2:0<=q*y0:=Int.mul_nonneg hq h0
  rw [wrapU h2 (by omega),wrapU (n:=4294967296*r) (by omega) (by omega),wrapU (by omega) (by omega)]
  have:=over_iff hY e hQ1 hQ2 hu
  congr 1
  apply propext
  rw [<- this]
  omega
theorem lq_spec (hY:9223372036854775808<=Y) (hY':Y<18446744073709551616) (e:Y=y1*4294967296+y0) (h0:0<=y0) (h0':y0<4294967296) (hu:0<=u) (hu':u<Y) (hd:0<=d) (hd':d<4294967296):
  lq (u / y1) (u % y1) y1 y0 d=(u*4294967296+d) / Y/\lneed (u / y1) (u % y1) y1 y0 d:=by
 have hy1:2147483648<=y1:=by omega
 have hy1':y1<4294967296:=by omega
 generalize hQ:(u*4294967296+d) / Y=Q
 have hdm:=Int.mul_ediv_add_emod (u*4294967296+d) Y
 rw [hQ] at hdm
 have hm0:=Int.emod_nonneg (u*4294967296+d) (show Y≠0 by omega)
 have hm1:=Int.emod_lt_of_pos (u*4294967296+d) (show 0<Y by omega)
 have hc:Y*Q=Q*Y:=Int.mul_comm _ _
 have hQ1:Q*Y<=u*4294967296+d:=by omega
 have hQ2:u*4294967296+d<(Q+1)*Y:=by rw [Int.add_mul]; omega
 have hQ0:0<=Q:=by rw [<- hQ]; exact Int.ediv_nonneg (by omega) (by omega)
 have hQlt:Q<4294967296:=by
  rcases Int.lt_or_le Q 4294967296 with h|h
  .exact h
  .have:=Int.mul_le_mul_of_nonneg_right h (show 0<=Y by omega)
   omega
 have hqr:=Int.mul_ediv_add_emod u y1
 have hr0:=Int.emod_nonneg u (show y1≠0 by omega)
 have hr1:=Int.emod_lt_of_pos u (show 0<y1 by omega)
 generalize hq:u / y1=q at *
 generalize hr:u % y1=r at *
 have hq0:0<=q:=by rw [<- hq]; exact Int.ediv_nonneg hu (by omega)
 have hc1:y1*q=q*y1:=Int.mul_comm _ _
 have hu1:u=q*y1+r:=by omega
 have hqle:q<=4294967297:=by
  rcases Int.lt_or_le 4294967297 q with h|h
  .have:=Int.mul_le_mul_of_nonneg_right (show 4294967298<=q by omega) (show 0<=y1 by omega)
   omega
  .exact h
 have hge:Q<=q:=by
  rcases Int.lt_or_le q Q with h|h
  .have h1:=Int.mul_le_mul_of_nonneg_right (show q+1<=Q by omega) (show 0<=Y by omega)
   have h2:(q+1)*Y=q*y1*4294967296+y1*4294967296+(q+1)*y0:=by rw [e,Int.mul_add,Int.add_mul,<- Int.mul_assoc,Int.add_mul,Int.one_mul,Int.one_mul]
   have h3:0<=(q+1)*y0:=Int.mul_nonneg (by omega) h0
   omega
  .exact h
 have hle:q<=Q+2:=by
  rcases Int.lt_or_le (Q+2) q with h|h
  .have h1:=Int.mul_le_mul_of_nonneg_right (show Q+1<=q - 2 by omega) (show 0<=Y by omega)
   have h2:(q - 2)*Y=q*y1*4294967296 - 2*y1*4294967296+(q - 2)*y0:=by rw [e,Int.mul_add,Int.sub_mul,<- Int.mul_assoc,Int.sub_mul,Int.mul_assoc 2]
   have h3:(q - 2)*y0<=4294967295*y0:=Int.mul_le_mul_of_nonneg_right (by omega) h0
   omega
  .exact h
 have C1:lc q r y0 d=decide (q>Q):=lc_iff hY e h0 h0' hd hd' hQlt hQ1 hQ2 hu1 hq0 hr0 (by omega)
 have w1:IntKind.u64.wrap (r+y1)=r+y1:=wrapU (by omega) (by omega)
 by_cases g1:q>Q
 .have v1:IntKind.u64.wrap (q - 1)=q - 1:=wrapU (by omega) (by omega)
  have hu2:u=(q - 1)*y1+(r+y1):=by rw [Int.sub_mul]; omega
  by_cases b1:r+y1>=4294967296
  .-- the second guess must be right
   have hq1:q - 1=Q:=by
    have:=over_iff hY e hQ1 hQ2 hu2
    have h3:(q - 1)*y0<=4294967296*y0:=Int.mul_le_mul_of_nonneg_right (by omega) h0
    rcases Int.lt_or_le Q (q - 1) with h|h
    .have:=this.2 h
     omega
    .omega
   refine ⟨?_,?_⟩
   .simp only [lq,C1,w1,v1,g1,b1,decide_true,Bool.and_self,Bool.true_or,cond_true]
    exact hq1
   .intro h
    simp [C1,w1,b1] at h
  .have C2:lc (q - 1) (r+y1) y0 d=decide (q - 1>Q):=lc_iff hY e h0 h0' hd hd' hQlt hQ1 hQ2 hu2 (by omega) (by omega) (by omega)
   by_cases g2:q - 1>Q
   .have v2:IntKind.u64.wrap (q - 1 - 1)=q - 1 - 1:=wrapU (by omega) (by omega)
    have w2:IntKind.u64.wrap (r+y1+y1)=r+y1+y1:=wrapU (by omega) (by omega)
    have hq2:q - 1 - 1=Q:=by omega
    by_cases b2:r+y1+y1>=4294967296
    .refine ⟨?_,?_⟩
     .simp only [lq,C1,w1,v1,g1,b1,C2,g2,v2,w2,b2,decide_true,decide_false,Bool.and_self,Bool.and_false,Bool.not_true,Bool.or_self,Bool.true_or,Bool.or_false,cond_true,cond_false]
      exact hq2
     .intro _ h
      simp [C2,w1,v1,w2,b2] at h
    .have hu3:u=(q - 1 - 1)*y1+(r+y1+y1):=by rw [Int.sub_mul]; omega
     have C3:lc (q - 1 - 1) (r+y1+y1) y0 d=decide (q - 1 - 1>Q):=lc_iff hY e h0 h0' hd hd' hQlt hQ1 hQ2 hu3 (by omega) (by omega) (by omega)
     have g3:¬ q - 1 - 1>Q:=by omega
     refine ⟨?_,?_⟩
     .simp only [lq,C1,w1,v1,g1,b1,C2,g2,v2,w2,b2,C3,g3,decide_true,decide_false,Bool.and_self,Bool.and_false,Bool.false_and,Bool.not_true,Bool.or_self,Bool.true_or,Bool.or_false,cond_true,cond_false]
      exact hq2
     .intro _ _ h
      simp [v1,w1,v2,w2,C3,g3] at h
   .refine ⟨?_,?_⟩
    .simp only [lq,C1,w1,v1,g1,b1,C2,g2,decide_true,decide_false,Bool.and_self,Bool.and_false,Bool.false_and,Bool.not_true,Bool.not_false,Bool.or_self,Bool.true_or,Bool.or_true,Bool.or_false,cond_true,cond_false]
     omega
    .intro _ h
     simp [v1,w1,C2,g2] at h
 .refine ⟨?_,?_⟩
  .simp only [lq,C1,g1,decide_false,Bool.false_and,Bool.not_false,Bool.or_true,cond_true,cond_false]
   omega
  .intro h
   simp [C1,g1] at h
end step
end Go.Eng
namespace Go.Eng
def dS (y:Int):Int:=IntKind.u64.wrap (64 - ((Lib.bitLen y.toNat:Nat):Int))
def dP (y:Int):Int:=2 ^ min (dS y).toNat IntKind.u64.bits
def dH:Int:=2 ^ min (Int.toNat 32) IntKind.u64.bits
def dLow (n:Int):Int:=IntKind.u64.wrap ((BitVec.ofInt IntKind.u64.bits n &&& BitVec.ofInt IntKind.u64.bits 4294967295).toNat:Int)
def dY (y:Int):Int:=IntKind.u64.wrap (y*dP y)
def dY1 (y:Int):Int:=(dY y).fdiv dH
def dY0 (y:Int):Int:=dLow (dY y)
def dU32 (hi lo y:Int):Int:=IntKind.u64.wrap ((BitVec.ofInt IntKind.u64.bits (IntKind.u64.wrap (hi*dP y)) ||| BitVec.ofInt IntKind.u64.bits (lo.fdiv (2 ^ min (IntKind.u64.wrap (64 - dS y)).toNat IntKind.u64.bits))).toNat:Int)
def dU10 (lo y:Int):Int:=IntKind.u64.wrap (lo*dP y)
def dU1 (lo y:Int):Int:=(dU10 lo y).fdiv dH
def dU0 (lo y:Int):Int:=dLow (dU10 lo y)
def dq (u y:Int):Int:=IntKind.u64.wrap (u.tdiv (dY1 y))
def dr (u y:Int):Int:=IntKind.u64.wrap (u - IntKind.u64.wrap (dq u y*dY1 y))
def dStep (u y d:Int):Int:=lq (dq u y) (dr u y) (dY1 y) (dY0 y) d
def dStepNeed (u y d:Int):Prop:=lneed (dq u y) (dr u y) (dY1 y) (dY0 y) d
def dLeft (u y d:Int):Int:=IntKind.u64.wrap (IntKind.u64.wrap (IntKind.u64.wrap (u*4294967296)+d) - IntKind.u64.wrap (dStep u y d*dY y))
def dU21 (hi lo y:Int):Int:=dLeft (dU32 hi lo y) y (dU1 lo y)
def dQuo (hi lo y:Int):Int:=bif hi==0 then IntKind.u64.wrap (lo.tdiv y) else IntKind.u64.wrap (IntKind.u64.wrap (dStep (dU32 hi lo y) y (dU1 lo y)*4294967296)+dStep (dU21 hi lo y) y (dU0 lo y))
def dRem (hi lo y:Int):Int:=bif hi==0 then lo.tmod y else (dLeft (dU21 hi lo y) y (dU0 lo y)).fdiv (dP y)
def dNeed (hi lo y:Int):Prop:=
 ((y==0)=true->False)/\(decide (y<=hi)=true->False)/\((hi==0)=true->y≠0/\y≠0)/\((!(hi==0))=true->(0<=y/\y<=18446744073709551615)/\0<=dS y/\(0<=dS y/\0<=IntKind.u64.wrap (64 - dS y))/\0<=dS y /\
  dY1 y≠0/\dStepNeed (dU32 hi lo y) y (dU1 lo y)/\dY1 y≠0/\dStepNeed (dU21 hi lo y) y (dU0 lo y)/\0<=dS y)
end Go.Eng
namespace Go.Eng
theorem bitLenAux_bounds:∀ (f x:Nat),x<2 ^ f->0<x->2 ^ (Lib.bitLenAux f x - 1)<=x/\x<2 ^ (Lib.bitLenAux f x)/\1<=Lib.bitLenAux f x
 | 0,x,h,h0=>by simp at h; omega
 | f+1,x,h,h0=>by
  simp only [Lib.bitLenAux,if_neg (show ¬ x=0 by omega)]
  rw [Nat.pow_succ] at h
  by_cases hx:x / 2=0
  .have:x=1:=by omega
   subst this
   have hz:Lib.bitLenAux f (1 / 2)=0:=by cases f <;> simp [Lib.bitLenAux]
   rw [hz]; simp
  .obtain ⟨h1,h2,h3⟩:=bitLenAux_bounds f (x / 2) (by omega) (by omega)
   obtain ⟨k,hk⟩:∃ k,Lib.bitLenAux f (x / 2)=k+1:=⟨_,(Nat.sub_add_cancel h3).symm⟩
   rw [hk] at h1 h2 ⊢
   rw [show 1+(k+1) - 1=k+1 from by omega,show 1+(k+1)=(k+1)+1 from by omega]
   rw [show k+1 - 1=k from rfl] at h1
   rw [Nat.pow_succ] at h2 ⊢
   rw [Nat.pow_succ]
   refine ⟨by omega,by rw [Nat.pow_succ]; omega,by omega⟩
theorem bitLen_bounds (x:Nat) (h:x<2 ^ 64) (h0:0<x):2 ^ (Lib.bitLen x - 1)<=x/\x<2 ^ (Lib.bitLen x)/\1<=Lib.bitLen x:=bitLenAux_bounds 64 x h h0
theorem dLow_eq (n:Nat) (h:n<18446744073709551616):dLow (n:Int)=((n % 4294967296:Nat):Int):=by
 have h1:=bits_and_u64_nat n 4294967295 h (by omega)
 have e:n &&& 4294967295=n % 4294967296:=Nat.and_two_pow_sub_one_eq_mod n 32
 rw [e] at h1
 exact h1
theorem dOr_eq (a b:Nat) (ha:a<18446744073709551616) (hb:b<18446744073709551616):IntKind.u64.wrap ((BitVec.ofInt IntKind.u64.bits (a:Int) ||| BitVec.ofInt IntKind.u64.bits (b:Int)).toNat:Int)=((a ||| b:Nat):Int):=bits_or_u64_nat a b ha hb
theorem dH_eq:dH=4294967296:=rfl
theorem step_ok {y Y u d:Int} (hy:dY y=Y) (hY:9223372036854775808<=Y) (hY':Y<18446744073709551616) (hu:0<=u) (hu':u<Y) (hd:0<=d) (hd':d<4294967296):
  dStep u y d=(u*4294967296+d) / Y/\dStepNeed u y d/\dLeft u y d=(u*4294967296+d) % Y/\dY1 y≠0:=by
 have h1:dY1 y=Y / 4294967296:=by unfold dY1; rw [hy,dH_eq,Int.fdiv_eq_ediv_of_nonneg _ (by omega)]
 have h0:dY0 y=Y % 4294967296:=by
  unfold dY0; rw [hy]
  have:=dLow_eq Y.toNat (by omega)
  rw [Int.toNat_of_nonneg (by omega)] at this
  rw [this]; omega
 have hp:0<Y / 4294967296:=by omega
 have hq:dq u y=u / (Y / 4294967296):=by
  unfold dq; rw [h1,Int.tdiv_eq_ediv_of_nonneg hu]
  have a1:=Int.ediv_nonneg hu (show 0<=Y / 4294967296 by omega)
  have a2:u / (Y / 4294967296)<=u:=Int.ediv_le_self _ hu
  exact wrapU a1 (by omega)
 have hdm:=Int.mul_ediv_add_emod u (Y / 4294967296)
 have hm0:=Int.emod_nonneg u (show Y / 4294967296≠0 by omega)
 have hc:=Int.mul_comm (Y / 4294967296) (u / (Y / 4294967296))
 have hn:0<=u / (Y / 4294967296)*(Y / 4294967296):=Int.mul_nonneg (Int.ediv_nonneg hu (by omega)) (by omega)
 have hr:dr u y=u % (Y / 4294967296):=by
  unfold dr; rw [hq,h1,wrapU hn (by omega),wrapU (by omega) (by omega)]; omega
 have main:=lq_spec (u:=u) (y1:=Y / 4294967296) (y0:=Y % 4294967296) (d:=d) hY hY' (by omega) (by omega) (by omega) hu hu' hd hd'
 have hs:dStep u y d=(u*4294967296+d) / Y:=by unfold dStep; rw [hq,hr,h1,h0]; exact main.1
 refine ⟨hs,by unfold dStepNeed; rw [hq,hr,h1,h0]; exact main.2,?_,by omega⟩
 unfold dLeft
 rw [hs,hy]
 have e1:=Int.mul_ediv_add_emod (u*4294967296+d) Y
 have e2:=Int.mul_comm Y ((u*4294967296+d) / Y)
 have e3:=Int.emod_nonneg (u*4294967296+d) (show Y≠0 by omega)
 have e4:=Int.emod_lt_of_pos (u*4294967296+d) (show 0<Y by omega)
 rw [IntKind.wrap_u64,IntKind.wrap_u64,IntKind.wrap_u64,IntKind.wrap_u64]
 omega
theorem div_spec (h l z:Nat) (hz:h<z) (hz':z<18446744073709551616) (hl:l<18446744073709551616):
  dNeed h l z/\dQuo h l z=(h*18446744073709551616+l) / z/\dRem h l z=(h*18446744073709551616+l) % z:=by
 by_cases hh:h=0
 .subst hh
  have e:(((0:Nat):Int)==0)=true:=rfl
  refine ⟨⟨?_,?_,?_,?_⟩,?_,?_⟩
  .simp; omega
  .simp; omega
  .intro _; constructor <;> omega
  .rw [e]; intro h; cases h
  .unfold dQuo
   rw [e,cond_true,Int.tdiv_eq_ediv_of_nonneg (by omega)]
   have a1:=Int.ediv_nonneg (show (0:Int)<=l by omega) (show (0:Int)<=z by omega)
   have a2:(l:Int) / z<=l:=Int.ediv_le_self _ (by omega)
   rw [wrapU a1 (by omega)]; simp
  .unfold dRem
   rw [e,cond_true,Int.tmod_eq_emod_of_nonneg (by omega)]; simp
 .have e:(((h:Nat):Int)==0)=false:=by simp; omega
  obtain ⟨b1,b2,b3⟩:=bitLen_bounds z hz' (by omega)
  have b4:=Lib.bitLen_le z 64 (by omega) hz'
  generalize hL:Lib.bitLen z=L at *
  have s1:dS z=((64 - L:Nat):Int):=by
   unfold dS
   rw [Int.toNat_natCast,hL,wrapU (by omega) (by omega)]; omega
  have s2:dP z=((2 ^ (64 - L):Nat):Int):=by
   unfold dP
   rw [s1,Int.toNat_natCast,show IntKind.u64.bits=64 from rfl,Nat.min_eq_left (by omega)]
   simp
  have s3:IntKind.u64.wrap (64 - dS z)=(L:Int):=by rw [s1,wrapU (by omega) (by omega)]; omega
  have s4:((2:Int) ^ min (IntKind.u64.wrap (64 - dS z)).toNat IntKind.u64.bits)=((2 ^ L:Nat):Int):=by
   rw [s3,Int.toNat_natCast,show IntKind.u64.bits=64 from rfl,Nat.min_eq_left b4]
   simp
  have pr:2 ^ L*2 ^ (64 - L)=18446744073709551616:=by rw [<- Nat.pow_add,show L+(64 - L)=64 by omega]
  have pr2:2 ^ (L - 1)*2 ^ (64 - L)=9223372036854775808:=by rw [<- Nat.pow_add,show L - 1+(64 - L)=63 by omega]
  have hPpos:0<2 ^ (64 - L):=Nat.pow_pos (by omega)
  have hRpos:0<2 ^ L:=Nat.pow_pos (by omega)
  have hlt2:∀ x:Nat,x<2 ^ (64 - L)->2 ^ (64 - L)*h+x=2 ^ (64 - L)*h ||| x:=fun x hx=>Nat.two_pow_add_eq_or_of_lt hx h
  generalize hPn:2 ^ (64 - L)=Pn at *
  generalize hR:2 ^ L=R at *
  generalize hR1:2 ^ (L - 1)=R1 at *
  have Y1:9223372036854775808<=z*Pn:=by rw [<- pr2]; exact Nat.mul_le_mul_right _ b1
  have Y2:z*Pn<18446744073709551616:=by rw [<- pr]; exact Nat.mul_lt_mul_of_pos_right b2 hPpos
  have hYe:dY z=((z*Pn:Nat):Int):=by
   unfold dY
   rw [s2,<- Int.natCast_mul,wrapU (by omega) (by omega)]
  have hhP:h*Pn<z*Pn:=Nat.mul_lt_mul_of_pos_right hz hPpos
  have hlR:l / R<Pn:=by rw [Nat.div_lt_iff_lt_mul hRpos,Nat.mul_comm,pr]; exact hl
  have hU:dU32 h l z=((h*Pn+l / R:Nat):Int):=by
   unfold dU32
   rw [s4,s2,Int.fdiv_eq_ediv_of_nonneg _ (by omega),<- Int.natCast_mul,<- Int.natCast_ediv,wrapU (n:=((h*Pn:Nat):Int)) (by omega) (by omega),dOr_eq _ _ (by omega) (Nat.lt_of_le_of_lt (Nat.div_le_self _ _) hl)]
   have:=hlt2 (l / R) hlR
   rw [Nat.mul_comm Pn h] at this
   rw [this]
  have hlm:=Nat.div_add_mod l R
  have hlm2:=Nat.mod_lt l hRpos
  have hlP:l*Pn=l / R*18446744073709551616+l % R*Pn:=by
   conv=>lhs; rw [<- hlm]
   rw [Nat.add_mul,Nat.mul_comm R,Nat.mul_assoc,pr]
  have hlP2:l % R*Pn<18446744073709551616:=by rw [<- pr]; exact Nat.mul_lt_mul_of_pos_right hlm2 hPpos
  have hU10:dU10 l z=((l % R*Pn:Nat):Int):=by
   unfold dU10
   rw [s2,<- Int.natCast_mul,hlP,IntKind.wrap_u64]
   omega
  generalize hV:l % R*Pn=V at *
  generalize hUn:h*Pn+l / R=U at *
  have hN:(h*18446744073709551616+l)*Pn=U*18446744073709551616+V:=by
   rw [Nat.add_mul,hlP,<- hUn,Nat.add_mul,Nat.mul_assoc,Nat.mul_comm 18446744073709551616 Pn,<- Nat.mul_assoc]; omega
  have hUY:U<z*Pn:=by
   have:(h*18446744073709551616+l)*Pn<z*18446744073709551616*Pn:=Nat.mul_lt_mul_of_pos_right (by omega) hPpos
   rw [hN,Nat.mul_assoc,Nat.mul_comm 18446744073709551616 Pn,<- Nat.mul_assoc] at this
   omega
  generalize hY:z*Pn=Y at *
  have hU1:dU1 l z=((V / 4294967296:Nat):Int):=by
   unfold dU1; rw [hU10,dH_eq,Int.fdiv_eq_ediv_of_nonneg _ (by omega)]; omega
  have hU0:dU0 l z=((V % 4294967296:Nat):Int):=by unfold dU0; rw [hU10,dLow_eq _ hlP2]
  obtain ⟨p1,p2,p3,p4⟩:=step_ok (u:=(U:Int)) (d:=((V / 4294967296:Nat):Int)) hYe (by omega) (by omega) (by omega) (by omega) (by omega) (by omega)
  have hU21:dU21 h l z=((U:Int)*4294967296+((V / 4294967296:Nat):Int)) % (Y:Int):=by unfold dU21; rw [hU,hU1]; exact p3
  have e1:=Int.mul_ediv_add_emod ((U:Int)*4294967296+((V / 4294967296:Nat):Int)) (Y:Int)
  have e3:=Int.emod_nonneg ((U:Int)*4294967296+((V / 4294967296:Nat):Int)) (show (Y:Int)≠0 by omega)
  have e4:=Int.emod_lt_of_pos ((U:Int)*4294967296+((V / 4294967296:Nat):Int)) (show (0:Int)<Y by omega)
  have a0:=Int.ediv_nonneg (show (0:Int)<=(U:Int)*4294967296+((V / 4294967296:Nat):Int) by omega) (show (0:Int)<=Y by omega)
  have a1:((U:Int)*4294967296+((V / 4294967296:Nat):Int)) / Y<4294967296:=Int.ediv_lt_of_lt_mul (by omega) (by omega)
  rw [<- hU21] at e1 e3 e4
  obtain ⟨q1,q2,q3,_⟩:=step_ok (u:=dU21 h l z) (d:=((V % 4294967296:Nat):Int)) hYe (by omega) (by omega) e3 e4 (by omega) (by omega)
  have f1:=Int.mul_ediv_add_emod (dU21 h l z*4294967296+((V % 4294967296:Nat):Int)) (Y:Int)
  have f3:=Int.emod_nonneg (dU21 h l z*4294967296+((V % 4294967296:Nat):Int)) (show (Y:Int)≠0 by omega)
  have f4:=Int.emod_lt_of_pos (dU21 h l z*4294967296+((V % 4294967296:Nat):Int)) (show (0:Int)<Y by omega)
  have c0:=Int.ediv_nonneg (show (0:Int)<=dU21 h l z*4294967296+((V % 4294967296:Nat):Int) by omega) (show (0:Int)<=Y by omega)
  have c1:(dU21 h l z*4294967296+((V % 4294967296:Nat):Int)) / Y<4294967296:=Int.ediv_lt_of_lt_mul (by omega) (by omega)
  generalize hA:((U:Int)*4294967296+((V / 4294967296:Nat):Int)) / (Y:Int)=A at *
  generalize hB:(dU21 h l z*4294967296+((V % 4294967296:Nat):Int)) / (Y:Int)=B at *
  generalize hM:(dU21 h l z*4294967296+((V % 4294967296:Nat):Int)) % (Y:Int)=M at *
  have hNI:((h:Int)*18446744073709551616+l)*Pn=(U:Int)*18446744073709551616+V:=by
   have:=congrArg (fun n:Nat=>(n:Int)) hN
   simp only [Int.natCast_mul,Int.natCast_add,Int.cast_ofNat_Int] at this
   exact this
  have hYI:(z:Int)*Pn=Y:=by rw [<- Int.natCast_mul,hY]
  have tot:((h:Int)*18446744073709551616+l)*Pn=Y*(A*4294967296+B)+M:=by
   rw [hNI,Int.mul_add,<- Int.mul_assoc]
   omega
  have hdiv:((h:Int)*18446744073709551616+l) / z=A*4294967296+B:=by
   have k1:((h:Int)*18446744073709551616+l) / z=((h:Int)*18446744073709551616+l)*Pn / (z*Pn):=(Int.mul_ediv_mul_of_pos_left _ _ (by omega)).symm
   rw [k1,hYI,tot,Int.mul_add_ediv_left _ _ (by omega),Int.ediv_eq_zero_of_lt f3 f4]; omega
  have hmod:((h:Int)*18446744073709551616+l) % z*Pn=M:=by
   have k1:((h:Int)*18446744073709551616+l) % z*Pn=(((h:Int)*18446744073709551616+l)*Pn) % (z*Pn):=by
    rw [Int.mul_comm _ (Pn:Int),Int.mul_comm _ (Pn:Int),Int.mul_comm _ (Pn:Int),Int.mul_emod_mul_of_pos _ _ (by omega)]
   rw [k1,hYI,tot,Int.mul_add_emod_self_left,Int.emod_eq_of_lt f3 f4]
  refine ⟨⟨?_,?_,?_,fun _=>⟨⟨by omega,by omega⟩,by omega,⟨by omega,by rw [s3]; omega⟩,by omega,p4,?_,p4,?_,by omega⟩⟩,?_,?_⟩
  .simp; omega
  .simp; omega
  .rw [e]; intro h; cases h
  .rw [hU,hU1]; exact p2
  .rw [hU0]; exact q2
  .unfold dQuo
   rw [e,cond_false,hU,hU1,p1,hU0,q1,hdiv,wrapU (n:=A*4294967296) (by omega) (by omega),wrapU (by omega) (by omega)]
  .unfold dRem
   rw [e,cond_false,hU0,q3,s2,Int.fdiv_eq_ediv_of_nonneg _ (by omega),<- hmod]
   exact Int.mul_ediv_cancel _ (by omega)
end Go.Eng
