/- What is proved: MtfTwo returns true, whatever the input (part 3). No conditions beyond those of the row. -/
import Derived.Test.YtbiiiloimbjpaaaGreatDoorPB
set_option linter.unusedVariables false
set_option linter.unusedSimpArgs false
set_option linter.unusedSectionVars false
namespace Go.Eng
theorem AX {P:Program} {t:TypeId} {k:IntKind} (h:NZ P t=some k):∃ e,P.underlying t=some (.slice e)/\P.underlying e=some (.int k)/\iJ P e=some 1:=by
 unfold NZ at h;split at h
 .rename_i e a;split at h
  .rename_i d b;split at h
   .rename_i c;cases h;exact ⟨e,a,b,c⟩
   .cases h
  .cases h
 .cases h
theorem nE {σ:Sg} {k:IntKind}:∀ {l:List AV} {L:List Value} {b:List Int},VRels σ l L->xg k l=some b->L=b.map (Value.int k)
 | [],_,b,h,e=>by cases e;exact h
 | a :: l,_,b,⟨v,f,rfl,h1,h2⟩,e=>by
  cases a with
  | int s g n=>
   simp only [xg] at e;split at e
   .rename_i c;obtain rfl:=bK c;split at e
    .rename_i i d;cases e;obtain rfl:=h1;rw [nE h2 d];rfl
    .cases e
   .cases e
  | _=>cases e
theorem Au {P:Program} {W:World} {B q:Nat} {K:Array Value} {b:TypeId} {fr:Nat×Nat} (c:W.heap[B]?=some (.cells K b fr)) {L:List Value} (h:(K.toList.drop q).take L.length=L):(loadCells ⟨B,q,none⟩ L.length).run P W=.ok L.toArray W:=by
 refine oI (P:=P) W ⟨B,q,none⟩ L fun j v a=>?_;rw [iG,oZ W B _ K b fr c,<- ic];rw [<- h,jL] at a;split at a
 .rwa [ig] at a
 .cases a
theorem xQ {P:Program} {σ:Sg} {h:Hp} {W:World} (r:HRel σ h W) {k:IntKind} {x:AV} {X:Value} (u:VRel σ x X) {nd:Nd} {n:Int} {a:List Int} (e:TK h k x=some (nd,n,a)) (hn:nd.val):
  n=a.length/\∀ V:World,V.heap=W.heap->(Builtin.lenOf X).run P V=.ok a.length V/\(Builtin.firstCells 1 a.length X).run P V=.ok (a.map (Value.int k)).toArray V:=by
 have fin:∀ (p:Option Addr) (len c:Nat) (B q:Nat) (K:Array Value) (f:TypeId) (fr:Nat×Nat),X=.slice p len c->len=a.length->p=some ⟨B,q,none⟩->W.heap[B]?=some (.cells K f fr)->(K.toList.drop q).take a.length=a.map (Value.int k) ->
   ∀ V:World,V.heap=W.heap->(Builtin.lenOf X).run P V=.ok a.length V/\(Builtin.firstCells 1 a.length X).run P V=.ok (a.map (Value.int k)).toArray V:=by
  intro p len c B q K f fr v z hp hB hK V A;subst v hp z;refine ⟨by simp [Builtin.lenOf],?_⟩;have:=Au (P:=P) (W:=V) (B:=B) (q:=q) (by rw [A];exact hB) (L:=a.map (Value.int k)) (by rw [iO];exact hK);rw [iO] at this;simp [Builtin.firstCells,this]
 have zero:∀ (p:Option Addr) (c:Nat),X=.slice p 0 c->a=[]->∀ V:World,V.heap=W.heap->(Builtin.lenOf X).run P V=.ok a.length V/\(Builtin.firstCells 1 a.length X).run P V=.ok (a.map (Value.int k)).toArray V:=by intro p c v D V _;subst v D;refine ⟨by simp [Builtin.lenOf],?_⟩;cases p <;> simp [Builtin.firstCells,loadCells,loadCellsFrom]
 unfold TK at e;split at e
 .rename_i i g;obtain ⟨p,len,c,rfl,⟨z,E⟩,hp⟩:=u;split at e
  .rename_i w I xs s;split at e
   .rename_i t;obtain rfl:=bK t;cases e;have hn:n=(a.length:Int):=hn;refine ⟨hn,?_⟩;have b:len=a.length:=by omega
    by_cases j:len=0
    .subst j;exact zero p c rfl (gK.1 b.symm)
    .rcases hp with hp|⟨B,N,d,rfl⟩
     .exact absurd hp j
     .obtain ⟨J,O,o,h1,h2,K,f,fr,rfl,h3⟩:=r.blk i _ s (by cases a with|nil=>simp at b;omega|cons y ys=>rfl);rw [d] at h1;cases h1;exact fin _ len c B N K f fr rfl b rfl h2 h3
   .cases e
  .cases e
 .rename_i w i o g;obtain ⟨p,len,c,rfl,⟨z,E⟩,hp⟩:=u;have tail:∀ (xs:List Int) (Q:List Value) (q:Nat),(0<=o/\0<=g/\o+g<=xs.length)->(Q.drop q).take xs.length=xs.map (Value.int k) ->
    ((xs.drop o.toNat).take g.toNat).length=len/\(Q.drop (q+o.toNat)).take ((xs.drop o.toNat).take g.toNat).length=((xs.drop o.toNat).take g.toNat).map (Value.int k):=by
   intro xs Q q hh hQ;have F:((xs.drop o.toNat).take g.toNat).length=g.toNat:=by rw [dD,iq];omega
   refine ⟨by omega,?_⟩;rw [F,D7,D8,<- hQ,List.drop_take,nk,List.take_take]
   congr 1
   omega
  split at e
  .rename_i w' I xs s;split at e
   .cases e
   .split at e
    .rename_i t;obtain rfl:=bK t;cases e;have hn:0<=o/\0<=n/\o+n<=xs.length:=hn;have F:((xs.drop o.toNat).take n.toNat).length=n.toNat:=by rw [dD,iq];omega
     refine ⟨by omega,?_⟩;by_cases j:len=0
     .subst j;exact zero p c rfl (gK.1 (by omega))
     .rcases hp with hp|⟨B,N,d,q,rfl,hq,_⟩
      .exact absurd hp j
      .obtain ⟨J,O,ob,h1,h2,K,f,fr,rfl,h3⟩:=r.blk i _ s (by cases xs with|nil=>simp at hn;omega|cons y ys=>rfl);rw [d] at h1;cases h1;obtain ⟨t1,H⟩:=tail xs K.toList N hn h3;simp only [aR] at hq;have l:q=N+o.toNat:=by omega
       subst l;exact fin _ len c B _ K f fr rfl t1.symm rfl h2 H
    .cases e
  .rename_i w' I xs s;split at e
   .split at e
    .rename_i t;obtain rfl:=bK t;cases e;have hn:0<=o/\0<=n/\o+n<=xs.length:=hn;have F:((xs.drop o.toNat).take n.toNat).length=n.toNat:=by rw [dD,iq];omega
     refine ⟨by omega,?_⟩;by_cases j:len=0
     .subst j;exact zero p c rfl (gK.1 (by omega))
     .rcases hp with hp|⟨B,N,d,q,rfl,hq,_⟩
      .exact absurd hp j
      .obtain ⟨J,O,ob,h1,h2,K,f,Z,rfl,h3,_⟩:=r.blk i _ s (nD (by omega));rw [d] at h1;cases h1;obtain ⟨t1,H⟩:=tail xs K.toList 0 hn (by rw [iA,h3,oF (by simp),ib (by simp)]);simp only [aQ] at hq;have l:q=0+o.toNat:=by omega
       subst l;exact fin _ len c B _ K f (0,0) rfl t1.symm rfl h2 H
    .cases e
   .cases e
  .cases e
 .split at e
  .rename_i m cs E;split at e
   .rename_i ms hm;cases e;obtain ⟨M,h1,h2,h3⟩:=wz (P:=P) r u E;have Y:=nE h2 hm;have h5:a.length=m:=by rw [Y] at h3;simpa using h3
    refine ⟨by rw [h5],fun V A=>?_⟩;obtain ⟨h6,h7⟩:=h1 V A;rw [h5];exact ⟨h6,by rw [<- Y];exact h7⟩
   .cases e
  .cases e
theorem Hq {P:Program} {σ:Sg} {h:Hp} {W:World} (r:HRel σ h W) {k:IntKind} {xs:List Int} {Z:List Value} {K:Array Value} (e:TypeId) (f:K.toList=xs.map (Value.int k)++Z) {n c:Nat} {m:Int} (a:m=n) (g:n<=c) (b:c<=K.size) (nd:Nd) (d:Sem Value)
  (i:nd.val->d.run P W=.ok (.slice (some ⟨W.heap.size,0,none⟩) n c) (W.drew.alloc (.cells K e))):OpOk P (do pure (.value (<- d))) σ h W ⟨nd,.islice true h.size 0 m,h.push (.ints k xs)⟩:=fun hn=>by
 have j:=r.world (V:=W.drew) rfl;obtain ⟨h1,h2⟩:=j.alloc (.ints k xs) (.cells K e) K.size ⟨K,e,Z,rfl,f,rfl⟩;refine ⟨_,.slice (some ⟨W.heap.size,0,none⟩) n c,_,_,by simp [i hn],.inl rfl,⟨_,n,c,rfl,⟨a.symm,g⟩,.inr ⟨W.heap.size,K.size,fF,0,rfl,by simp,fun _=>by omega⟩⟩,h1,?_⟩;exact (Good.drew r).trans r.ok h1.ok h2
theorem BS (k:IntKind) (a:List Int):∀ v∈a.map (Value.int k),v.oneCell'=true:=by intro v b;obtain ⟨n,_,rfl⟩:=gy.1 b;rfl
theorem TS {P:Program} {σ:Sg} {h:Hp} {W:World} (r:HRel σ h W) {t u ty e J:TypeId} (A:P.underlying t=some (.slice e)) (D:P.underlying u=some (.slice J)) {i:TypeInfo} (hi:P.info? e=some i) {zv:Value} (Q:i.zero=some zv) (s:zv.cells.size=i.size)
  (a:i.size=1) (v:i.bytes<=65536) {id w:Nat} {b:ABody} (E:h.get id=some ⟨w,b⟩) (hd:b.isDead=false) (l:∀ c,b≠.loop c) (hnv:b.isView=false) {d N:Nat} (x:σ id=some (d,N)) {k:IntKind} {xs ys:List Int} {K:Array Value} {y:TypeId} {Z:List Value}
  (z:W.heap[d]?=some (.cells K y (0,0))) (F:K.toList=xs.map (Value.int k)++Z) (hN:N=K.size) {c:Nat} (Y:xs.length<=c) (aa:c<=N) (o:xs.length+ys.length<=1048576) {X:Value}
  (hX:∀ V:World,V.heap=W.heap->(Builtin.lenOf X).run P V=.ok ys.length V/\(Builtin.firstCells 1 ys.length X).run P V=.ok (ys.map (Value.int k)).toArray V) {m:Int} (H:m=(xs.length+ys.length:Nat)) (nd:Nd):
  OpOk P (do pure (.value (<- Builtin.append_ #[t,u] ty #[.slice (some ⟨d,0,none⟩) xs.length c,X]))) σ h W ⟨nd,.islice true h.size 0 m,(h.put id .dead).push (.ints k (xs++ys))⟩:=by
 have p:∀ V:World,V.heap=W.heap->(Builtin.lenOf X).run P V=.ok ys.length V/\(Builtin.firstCells i.size ys.length X).run P V=.ok (ys.map (Value.int k)).toArray V:=by rw [a];exact hX
 by_cases f:xs.length+ys.length<=c
 .have g:=uu (P:=P) (ty:=ty) A D hi z (off:=0) (len:=xs.length) p (BS k ys) f (by rw [a];simp;omega);obtain ⟨q7,q8⟩:=r.move (V:=W.setRow d (K.toList.take (0+xs.length*i.size)++ys.map (Value.int k)++K.toList.drop (0+xs.length*i.size+(ys.map (Value.int k)).length)).toArray) E hd l x (.ints k (xs++ys)) _ (setRow_heap W d K _ y (0,0) z)
   ⟨_,y,Z.drop ys.length,rfl,by
    rw [a,F];simp only [fJ,rX,jN,iO];rw [show xs.length=(xs.map (Value.int k)).length from by simp,DZ,<- nk,List.drop_left],by
    subst hN;rw [a];simp;omega⟩
   (setRow_size W d _) (fun j hj=>setRow_other W d j _ hj) rfl rfl rfl (hnv:=hnv)
  refine fun _=>⟨_,_,_,_,by simp [g];rfl,.inl rfl,?_,q7,q8⟩;exact ⟨_,_,c,rfl,⟨by rw [H],f⟩,.inr ⟨d,N,fF,0,rfl,by simp,fun _=>by omega⟩⟩
 .obtain ⟨k1,k2⟩:=r.kill E l;have hO:∀ V:World,V.heap=W.heap->(Builtin.firstCells i.size xs.length (.slice (some ⟨d,0,none⟩) xs.length c)).run P V=.ok (xs.map (Value.int k)).toArray V:=by
   intro V hV;have:=Au (P:=P) (W:=V) (B:=d) (q:=0) (by rw [hV];exact z) (L:=xs.map (Value.int k)) (by rw [iA,F,DZ]);rw [iO] at this;simp [Builtin.firstCells,a,this]
  have g:=jT (P:=P) (W:=W) (ty:=ty) A D hi Q (base:=some ⟨d,0,none⟩) (len:=xs.length) (cap:=c) hO p (by omega) o v;have:=Hq k1 e (k:=k) (xs:=xs++ys) (Z:=(Builtin.zeroCells zv.cells (grownCap W (xs.length+ys.length) c e - (xs.length+ys.length))).toList)
   (K:=(xs.map (Value.int k)).toArray++(ys.map (Value.int k)).toArray++Builtin.zeroCells zv.cells (grownCap W (xs.length+ys.length) c e - (xs.length+ys.length))) (by simp) (n:=xs.length+ys.length) (c:=grownCap W (xs.length+ys.length) c e) H (o5 _ _ _ _) (by have:=lg (W:=W) (len:=xs.length) (n:=ys.length) (cap:=c) (e:=e) s (O:=xs.map (Value.int k)) (M:=ys.map (Value.int k)) (by simp [a]) (by simp [a]);rw [a,rX] at this;exact this) nd _ (fun _=>g)
  intro hn;obtain ⟨τ,V,X',rr,p1,p2,p3,I,p5⟩:=this hn;exact ⟨τ,V,X',rr,p1,p2,p3,I,k2.trans k1.ok I.ok p5⟩
theorem adI {P:Program} {σ:Sg} {h:Hp} {W:World} (r:HRel σ h W) {t u ty eu:TypeId} (hu:P.underlying u=some (.slice eu)) {a b:AV} {A B:Value} (ha:VRel σ a A) (hb:VRel σ b B) {q:S1} (e:ai0 P h t a b=some q):
  OpOk P (do pure (.value (<- Builtin.append_ #[t,u] ty #[A,B]))) σ h W q:=by
 unfold ai0 at e;split at e
 .cases e
 .rename_i k hk;obtain ⟨d,s,al,ae⟩:=AX hk;split at e
  .rename_i el ht;rw [s] at ht;cases ht;split at e
   .cases e
   .rename_i i hi;split at e
    .cases e
    .rename_i z hz;obtain ⟨i',zv,H,y,af,_⟩:=fZ (σ:=σ) hz;rw [hi] at H;cases H;split at e
     .cases e
     .rename_i I;simp only [aF,iT,nA] at I;have D:zv.cells.size=i.size:=by have:=VRels.length af;simp at this;omega
      have f:i.size=1:=by obtain ⟨i2,e1,e2⟩:=mH ae;rw [hi] at e1;cases e1;exact e2
      split at e
      .cases e
      .rename_i nd m ys j;split at e
       .cases e;obtain rfl:=ha;intro hn;obtain ⟨ag,ah⟩:=Nd.rv hn;obtain ⟨v,E⟩:=xQ (P:=P) r hb j (Nd.lv hn);have F:∀ V:World,V.heap=W.heap->(Builtin.lenOf B).run P V=.ok ys.length V/\(Builtin.firstCells i.size ys.length B).run P V=.ok (ys.map (Value.int k)).toArray V:=by rw [f];exact E
        have g:=jT (P:=P) (W:=W) (ty:=ty) s hu hi y (base:=none) (len:=0) (cap:=0) (O:=[]) (fun V _=>by simp [Builtin.firstCells]) F (by omega) (by omega) I.2;rw [fJ] at g;exact Hq r d (k:=k) (xs:=ys) (Z:=(Builtin.zeroCells zv.cells (grownCap W ys.length 0 d - ys.length)).toList) (K:=([]:List Value).toArray++(ys.map (Value.int k)).toArray++Builtin.zeroCells zv.cells (grownCap W ys.length 0 d - ys.length)) (by simp) (n:=ys.length) (c:=grownCap W ys.length 0 d) v (by simpa using o5 W ys.length 0 d)
         (by have:=lg (W:=W) (len:=0) (n:=ys.length) (cap:=0) (e:=d) D (O:=[]) (M:=ys.map (Value.int k)) (by simp) (by simp [f]);rw [f,rX,fJ] at this;exact this) _ _ (fun _=>g) hn
       .rename_i an J;cases e;obtain ⟨b0,N0,_,rfl⟩:=ha;intro hn;obtain ⟨ag,ah⟩:=Nd.rv hn;obtain ⟨v,E⟩:=xQ (P:=P) r hb j (Nd.lv hn);have F:∀ V:World,V.heap=W.heap->(Builtin.lenOf B).run P V=.ok ys.length V/\(Builtin.firstCells i.size ys.length B).run P V=.ok (ys.map (Value.int k)).toArray V:=by rw [f];exact E
        have g:=jT (P:=P) (W:=W) (ty:=ty) s hu hi y (base:=some ⟨b0,J,none⟩) (len:=0) (cap:=0) (O:=[]) (fun V _=>by simp [Builtin.firstCells,loadCells,loadCellsFrom]) F (by omega) (by omega) I.2;rw [fJ] at g;exact Hq r d (k:=k) (xs:=ys) (Z:=(Builtin.zeroCells zv.cells (grownCap W ys.length 0 d - ys.length)).toList) (K:=([]:List Value).toArray++(ys.map (Value.int k)).toArray++Builtin.zeroCells zv.cells (grownCap W ys.length 0 d - ys.length)) (by simp) (n:=ys.length) (c:=grownCap W ys.length 0 d) v (by simpa using o5 W ys.length 0 d)
         (by have:=lg (W:=W) (len:=0) (n:=ys.length) (cap:=0) (e:=d) D (O:=[]) (M:=ys.map (Value.int k)) (by simp) (by simp [f]);rw [f,rX,fJ] at this;exact this) _ _ (fun _=>g) hn
       .rename_i id o n;split at e
        .rename_i w k' xs L;split at e
         .rename_i ai;obtain rfl:=bK ai;rw [Hp.set_eq] at e;cases e;intro hn;obtain ⟨rfl,ao,ap,Q⟩:=Nd.rv hn;obtain ⟨v,E⟩:=xQ (P:=P) r hb j (Nd.lv hn);obtain ⟨p,len,c,rfl,⟨hl,X⟩,hp⟩:=ha;rcases hp with hp|⟨Bl,N,x,q0,rfl,hq,Y⟩
          .omega
          .have Y:=Y rfl;simp only [aQ] at hq;obtain rfl:q0=0:=by omega
           have aa:=nD (k:=k) (xs:=xs) (by omega);obtain ⟨B',N',ob,h1,h2,K,ek,Z,rfl,h3,h4⟩:=r.blk id _ L aa;rw [x] at h1;cases h1;obtain rfl:len=xs.length:=by omega
           have:=TS r (ty:=ty) s hu hi y D f I.2 L aa (fun _ h=>by cases h) rfl x h2 h3 h4 (c:=c) X (by omega) (by omega) E (m:=n+m) (by omega) (nd.and (.p ((0:Int)=0/\0<n/\n=xs.length/\n+m<=1048576)));exact this hn
         .cases e
        .cases e
       .rename_i id off len cap _;obtain ⟨Bl,N,x,rfl⟩:=ha;split at e
        .rename_i w l L;split at e
         .rename_i ab;simp only [aF,nA,kX,iT] at ab;obtain ⟨⟨⟨rfl,aq⟩,ar⟩,X⟩:=ab;split at e
          .cases e
          .rename_i q1 aj;split at e
           .cases e
           .rename_i xs ak;rw [Hp.set_eq] at e;cases e;intro hn;have Q:(len:Int)+m<=1048576:=Nd.rv hn;obtain ⟨v,E⟩:=xQ (P:=P) r hb j (Nd.lv hn);obtain ⟨B',N',ob,h1,h2,K,ek,rfl,h3,h4⟩:=r.blk id _ L rfl;rw [x] at h1;cases h1;obtain ⟨t1,t2⟩:=VRels.take _ h3 aj;have t3:=nE t1 ak;have ac:K.toList.length=l.length:=VRels.length h3;have t4:xs.length=len:=by
             have:=bL List.length t3;simp at this ac;omega
            have hK:K.toList=xs.map (Value.int k)++K.toList.drop len:=by rw [<- t3,yU]
            have:=TS r (ty:=ty) s hu hi y D f I.2 L rfl (fun _ h=>by cases h) rfl x h2 hK h4 (c:=cap) (by omega) (by rw [h4];simp at ac;omega) (by omega) E (m:=(len:Int)+m) (by omega) (nd.and (.p ((len:Int)+m<=1048576)));rw [t4] at this;exact this hn
         .cases e
        .cases e
       .cases e
  .cases e
theorem X0 {P:Program} {σ:Sg} {h:Hp} {W:World} (r:HRel σ h W) {t:TypeId} {l c:AV} {L C:Value} (I:VRel σ l L) (J:VRel σ c C) {q:S1} (e:Lx P h t l c=some q):
  OpOk P (do pure (.value (<- Instr.makeSlice t L C))) σ h W q:=by
 unfold Lx at e;split at e
 .cases e
 .rename_i k K;obtain ⟨a,b,M,u⟩:=AX K;split at e
  .rename_i s1 N n;obtain rfl:=I;split at e
   .rename_i s2 k2 m;obtain rfl:=J;split at e
    .rename_i el z;rw [b] at z;cases z;split at e
     .cases e
     .rename_i i hi;split at e
      .rename_i k' O;split at e
       .rename_i hb;simp only [aF,aT,iT] at hb;obtain ⟨rfl,Q⟩:=hb;cases e;obtain ⟨i',zv,f,v,w,_⟩:=fZ (σ:=σ) O;rw [hi] at f;cases f;obtain ⟨i2,A,g⟩:=mH u;rw [hi] at A;cases A;obtain ⟨x,X,o,Y,z2⟩:=w;obtain rfl:X=[]:=z2;obtain rfl:x=.int k 0:=Y;intro hn;obtain ⟨rfl,k1,k4⟩:=(show n=m/\0<=n/\n<=1048576 from hn);have d:zv.cells.size=1:=by have:=bL List.length o;simpa using this
        have D:IntKind.i64.wrap n=n:=by have:n % 18446744073709551616=n:=mV k1 (by omega);simp [IntKind.wrap,IntKind.bits,IntKind.signed,this];omega
        have E:(i.bytes:Int)*n<=65536*1048576:=bC (by omega) k4 k1 (by decide);have F:¬ (281474976710656<(i.bytes:Int)*n):=by omega
        have p:((Array.range (n.toNat*zv.cells.size)).map (fun i=>zv.cells[i % zv.cells.size]!)).toList=(List.replicate n.toNat 0).map (Value.int k):=by
         rw [AR,o];generalize n.toNat=j
         induction j with
         | zero=>rfl
         | succ j ih=>simp only [Ak,Dv,dL,List.singleton_append,ih]
        have H:(sizeOf a).run P W=.ok i.size W:=by simp [sizeOf,typeInfo,hi]
        have c2:¬ n<0:=by omega
        have s:(Instr.makeSlice t (.int N n) (.int k2 n)).run P W=.ok (.slice (some ⟨W.heap.size,0,none⟩) n.toNat n.toNat) (W.alloc (.cells ((Array.range (n.toNat*zv.cells.size)).map (fun i=>zv.cells[i % zv.cells.size]!)) a)):=by
         by_cases h0:n.toNat=0
         .have y:n=0:=by omega
          subst y;simp [Instr.makeSlice,aK b,asInt,asIntOf,typeInfo,hi,D,F,c2,H,g,newRow,uJ]
         .simp only [d];simp [Instr.makeSlice,aK b,asInt,asIntOf,typeInfo,hi,D,F,c2,H,g,h0,newRow,sQ hi v,d]
        obtain ⟨h1,h2⟩:=r.alloc (.ints k (List.replicate n.toNat 0)) (.cells ((Array.range (n.toNat*zv.cells.size)).map (fun i=>zv.cells[i % zv.cells.size]!)) a) _ ⟨_,a,[],rfl,by rw [p,kT],rfl⟩;refine ⟨_,_,_,_,by simp [s],.inl rfl,⟨_,n.toNat,n.toNat,rfl,⟨by omega,bD _⟩,.inr ⟨W.heap.size,_,fF,0,rfl,by simp,fun _=>?_⟩⟩,h1,h2⟩;simp [d]
       .cases e
      .cases e
    .cases e
   .cases e
  .cases e
theorem X3 {P:Program} {σ:Sg} {h:Hp} {W:World} (r:HRel σ h W) {t ty:TypeId} {ts:Array TypeId} (s:ts[0]?=some t) {a b:AV} {A B:Value} (ha:VRel σ a A) (hb:VRel σ b B) {q:S1} (e:XM P h t a b=some q):
  OpOk P (do pure (.value (<- Builtin.copy_ ts ty #[A,B]))) σ h W q:=by
 unfold XM at e;split at e
 .cases e
 .rename_i k I;obtain ⟨J,u,L,v⟩:=AX I;split at e
  .cases e
  .rename_i nd m ys d;split at e
   .rename_i id o n;split at e
    .rename_i w k' xs E;split at e
     .rename_i x;obtain rfl:=bK x;rw [Hp.set_eq] at e;cases e;intro hn;obtain ⟨ho,M,O,Q⟩:=(show 0<=o/\0<m/\m<=n/\o+n<=xs.length from Nd.rv hn);obtain ⟨y,X⟩:=xQ (P:=P) r hb d (Nd.lv hn);obtain ⟨p,len,c,rfl,⟨hl,Y⟩,hp⟩:=ha;rcases hp with hp|⟨F,N,f,q0,rfl,hq,aa⟩
      .omega
      .simp only [aQ] at hq;obtain rfl:q0=o.toNat:=by omega
       have g:=nD (k:=k) (xs:=xs) (by omega);obtain ⟨B',N',ob,h1,h2,K,H,Z,rfl,h3,h4⟩:=r.blk id _ E g;rw [f] at h1;cases h1;obtain ⟨z,D⟩:=X W rfl;have i:K.toList.length=xs.length+Z.length:=by rw [h3];simp
       have j:=oN P F o.toNat H (ys.map (Value.int k)) 0 K W h2 (by simp at i ⊢;omega) (BS k ys);simp only [gP] at j;obtain ⟨q7,q8⟩:=r.row E g (fun _ h=>by cases h) f (K':=(K.toList.take o.toNat++ys.map (Value.int k)++K.toList.drop (o.toNat+(ys.map (Value.int k)).length)).toArray) h2 (.ints k (Vy xs o.toNat ys)) ⟨_,H,Z,rfl,by simp only [Vy,h3,jN,D7,D8,iO];rw [oF (by simp;omega),uH (by simp;omega)];simp,by subst h4;simp at i ⊢;omega⟩;have l:ys.length.min len=ys.length:=by show min ys.length len=ys.length;omega
       have hA:(Builtin.lenOf (.slice (some ⟨F,o.toNat,none⟩) len c)).run P W=.ok len W:=by simp [Builtin.lenOf]
       refine ⟨σ,.int .i64 ys.length,_,_,?_,.inl rfl,by rw [y];rfl,q7,q8⟩;simp [Builtin.copy_,s,aK u,z,hA,l,bM v,D,j,goInt]
     .cases e
    .cases e
   .cases e
theorem J8 {P:Program} {σ:Sg} {x:AV} {X:Value} {n:Nat} (a:VRel σ x X) (e:El x=some n) (W:World):(Builtin.lenOf X).run P W=.ok n W:=by
 unfold El at e;split at e <;> cases e
 .obtain rfl:=a;rfl
 .obtain ⟨_,_,_,rfl⟩:=a;rfl
 .obtain ⟨_,_,_,_,_,rfl,_⟩:=a;rfl
theorem VG {P:Program} {σ:Sg} {h:Hp} {W:World} (r:HRel σ h W) {x:AV} {X:Value} {n size ln:Nat} {m:List AV} (y:VRel σ x X) (s:El x=some ln) (g:ln≠0) (e:Q4 h (n*size) x=some m):
  ∃ M,(Builtin.firstCells size n X).run P W=.ok M.toArray W/\VRels σ m M/\M.length=n*size:=by
 unfold Q4 at e;split at e
 .rename_i i off len cap;obtain ⟨B,N,f,rfl⟩:=y;split at e
  .rename_i w l j;obtain ⟨z,D,o,h1,h2,K,E,rfl,h3,F⟩:=r.blk i _ j rfl;rw [f] at h1;cases h1;obtain ⟨M,k,p,q,_⟩:=ky (P:=P) h2 (A:=K.toList) (Z:=[]) (by simp) h3 e;exact ⟨M,by simp [Builtin.firstCells,k],p,q⟩
  .rename_i w l j;obtain ⟨z,D,o,h1,h2,K,E,A,Z,rfl,t,h3,F⟩:=r.blk i _ j rfl;rw [f] at h1;cases h1;obtain ⟨M,k,p,q,_⟩:=ky (P:=P) h2 t h3 e;exact ⟨M,by simp [Builtin.firstCells,k],p,q⟩
  .cases e
 .rename_i i off len H;obtain ⟨B,N,I,c,f,rfl,hq,J⟩:=y;cases s;obtain ⟨rfl,_⟩:=hq g;split at e
  .rename_i w l j;obtain ⟨z,D,o,h1,h2,K,E,A,Z,rfl,t,h3,F⟩:=r.blk i _ j rfl;rw [f] at h1;cases h1;obtain ⟨M,k,p,q,_⟩:=ky (P:=P) h2 t h3 e;exact ⟨M,by simp [Builtin.firstCells,k],p,q⟩
  .cases e
 .rename_i u v;exfalso
  cases x with
  | slice a b c d=>exact u a b c d rfl
  | gslice a b c d=>exact v a b c d rfl
  | nilslice=>cases s;exact g rfl
  | _=>cases s
theorem VH {P:Program} {σ:Sg} {h:Hp} {W:World} (r:HRel σ h W) {id off n B N:Nat} (b:σ id=some (B,N)) {cs:List AV} {M:List Value} (u:VRels σ cs M) (h1:∀ v∈M,v.oneCell'=true) {q:S1}
  (e:G8 h id off n cs none (fun v h=>some ⟨.tt,v,h⟩)=some q):
  ∃ V,(storeCells ⟨B,off,none⟩ M).run P W=.ok () V/\HRel σ q.h V/\Good σ h W σ q.h V/\q.v=gB false .i64 n/\q.nd=.tt:=by
 unfold G8 at e;split at e
 .rename_i w l c;split at e
  .cases e
  .rename_i d hp;rw [Hp.set_eq] at e;cases e;obtain ⟨x,y,o,f,g,K,i,rfl,k,q4⟩:=r.blk id _ c rfl;rw [b] at f;cases f;obtain ⟨m,p⟩:=iL l _ _ d k u hp;have a:=oN P B off i M 0 K W g (by simpa using p) h1;simp only [gP] at a;obtain ⟨s,t⟩:=r.row c rfl (fun _ h=>by cases h) b (K':=(K.toList.take off++M++K.toList.drop (off+M.length)).toArray) g (.cells d) ⟨_,i,rfl,by simpa using m,by
    subst q4;simp at p ⊢;omega⟩
   exact ⟨_,a,s,t,rfl,rfl⟩
 .rename_i w l c;split at e
  .cases e
  .rename_i d hp;rw [Hp.set_eq] at e;cases e;obtain ⟨x,y,o,f,g,K,i,X,Y,rfl,j,k,q4⟩:=r.blk id _ c rfl;rw [b] at f;cases f;obtain ⟨m,p⟩:=iL l _ _ d k u hp;have z:X.length<=K.size:=by have:=bL List.length j;simp at this;omega
   have a:=oN P B off i M 0 K W g (by omega) h1;simp only [gP] at a;obtain ⟨s,t⟩:=r.row c rfl (fun _ h=>by cases h) b (K':=(K.toList.take off++M++K.toList.drop (off+M.length)).toArray) g (.grown d) ⟨_,i,X.take off++M++X.drop (off+M.length),Y,rfl,by
    simp only [j];rw [oF (by omega),uH (by omega)];simp,m,by
    subst q4;simp;omega⟩
   exact ⟨_,a,s,t,rfl,rfl⟩
 .cases e
theorem X4 {P:Program} {σ:Sg} {h:Hp} {W:World} (r:HRel σ h W) {t ty:TypeId} {ts:Array TypeId} (o:ts[0]?=some t) {a b:AV} {A B:Value} (ha:VRel σ a A) (hb:VRel σ b B) {q:S1} (e:XK P h t a b none (fun v h=>some ⟨.tt,v,h⟩)=some q):
  OpOk P (do pure (.value (<- Builtin.copy_ ts ty #[A,B]))) σ h W q:=by
 unfold XK at e;split at e
 .rename_i el F;split at e
  .cases e
  .rename_i size m;split at e
   .cases e
   .rename_i ld f;split at e
    .cases e
    .rename_i E u;obtain ⟨i,hi,L⟩:=mH m;have r1:=J8 (P:=P) ha f W;have w:=J8 (P:=P) hb u W;split at e
     .rename_i g;cases e;refine OpOk.pure r fun _=>⟨.int .i64 0,?_,rfl⟩;have K:∀ X,(Builtin.lenOf X).run P W=.ok E W->(Builtin.firstCells size 0 X).run P W=.ok #[] W:=by
       intro X O;cases X <;> simp [Builtin.lenOf] at O
       case slice a l c=>cases a <;> simp [Builtin.firstCells,loadCells,loadCellsFrom]
       case string s=>simp [Builtin.firstCells]
      have H:∀ a:Addr,(storeCells a []).run P W=.ok () W:=fun _=>rfl;have p:∃ j l c,A=.slice j l c/\l=ld:=by
       unfold El at f;split at f <;> cases f
       .obtain rfl:=ha;exact ⟨_,_,_,rfl,rfl⟩
       .obtain ⟨_,_,_,rfl⟩:=ha;exact ⟨_,_,_,rfl,rfl⟩
       .obtain ⟨_,_,_,_,_,rfl,_⟩:=ha;exact ⟨_,_,_,rfl,rfl⟩
      obtain ⟨j,l,c,rfl,rfl⟩:=p;have d:E.min l=0:=g
      cases j with
      | none=>simp [Builtin.copy_,o,aK F,w,d,bM m,K B w,goInt]
      | some ad=>simp [Builtin.copy_,o,aK F,w,d,bM m,K B w,goInt,H]
     .rename_i n g;have d:E.min ld=n+1:=g;split at e
      .cases e
      .rename_i cs I;split at e
       .cases e
       .rename_i x;have y:E≠0:=by intro J;subst J;simp at d
        have z:ld≠0:=by intro J;subst J;simp at d
        obtain ⟨M,Q,p2,p3⟩:=VG (P:=P) r hb u y I;have h1:=qy p2 x;have fin:∀ id off l c D N,σ id=some (D,N)->A=.slice (some ⟨D,off,none⟩) l c->l=ld->G8 h id off (n+1) cs none (fun v h=>some ⟨.tt,v,h⟩)=some q->OpOk P (do pure (.value (<- Builtin.copy_ ts ty #[A,B]))) σ h W q:=by intro id off l c D N k p Y e;subst p;subst Y;obtain ⟨V,v1,v2,v3,v4,v5⟩:=VH (P:=P) r k p2 h1 e;intro _;refine ⟨σ,.int .i64 (n+1:Nat),V,_,?_,.inl rfl,by rw [v4];simp,v2,v3⟩;simp [Builtin.copy_,o,aK F,w,d,bM m,Q,v1,goInt]
        split at e
        .cases f;obtain ⟨D,N,k,p⟩:=ha;exact fin _ _ _ _ _ _ k p rfl e
        .cases f;obtain ⟨D,N,qo,c,k,p,hq,hc⟩:=ha;obtain ⟨rfl,_⟩:=hq z;exact fin _ _ _ _ _ _ k p rfl e
        .cases e
 .cases e
theorem JA {P:Program} {σ:Sg} {h:Hp} {W:World} (r:HRel σ h W) {t:TypeId} {l c:AV} {L C:Value} (A:VRel σ l L) (D:VRel σ c C) {q:S1} (e:vW P h t l c=some q):
  OpOk P (do pure (.value (<- Instr.makeSlice t L C))) σ h W q:=by
 unfold vW at e;split at e
 .rename_i p s;split at e
  .rename_i k n;obtain rfl:=A;split at e
   .rename_i J m;obtain rfl:=D;split at e
    .cases e
    .rename_i i hi;split at e
     .cases e
     .rename_i z E;split at e
      .rename_i u;simp only [aF,aT,nA] at u;obtain ⟨⟨⟨k1,k2,F,k4⟩,K⟩,k6⟩:=u;simp only [cK] at e;cases e;obtain ⟨M,zv,b,o,d,_⟩:=fZ (σ:=σ) E;rw [hi] at b;cases b;have a:zv.cells.size=i.size:=by have:=VRels.length d;simp at this;omega
       have v:IntKind.i64.wrap n=n:=by have:n % 18446744073709551616=n:=mV k1 (by omega);simp [IntKind.wrap,IntKind.bits,IntKind.signed,this];omega
       have w:IntKind.i64.wrap m=m:=by have:m % 18446744073709551616=m:=mV (by omega) (by omega);simp [IntKind.wrap,IntKind.bits,IntKind.signed,this];omega
       have H:(i.bytes:Int)*m<=140737488355328:=by rw [eO];exact F
       have x:¬ (281474976710656<(i.bytes:Int)*m):=by omega
       have f:VRels σ (Ak z m.toNat) ((Array.range (m.toNat*zv.cells.size)).map (fun i=>zv.cells[i % zv.cells.size]!)).toList:=by rw [AR];exact VRels.rep d _
       refine BO r p f _ _ (.slice (some ⟨W.heap.size,0,none⟩) n.toNat m.toNat) ?_ ⟨W.heap.size,_,fF,rfl⟩;have y:(sizeOf p).run P W=.ok i.size W:=by simp [sizeOf,typeInfo,hi]
       have c1:¬ m<0:=by omega
       have c2:¬ n<0:=by omega
       have c3:¬ m<n:=by omega
       by_cases j:m.toNat*i.size=0
       .have I:m=0\/i.size=0:=by rcases Nat.mul_eq_zero.1 j with h|h <;> omega
        have g:((Array.range (m.toNat*zv.cells.size)).map (fun i=>zv.cells[i % zv.cells.size]!))=#[]:=by rw [a,j,uJ];simp
        rw [g];simp [Instr.makeSlice,aK s,asInt,asIntOf,typeInfo,hi,v,w,x,c1,c2,c3,y,j,newRow,uJ]
       .simp only [a];simp [Instr.makeSlice,aK s,asInt,asIntOf,typeInfo,hi,v,w,x,c1,c2,c3,y,j,newRow,sQ hi o,a]
      .cases e
   .cases e
  .cases e
 .cases e
theorem LZ {P:Program} {σ:Sg} {h:Hp} {W:World} (r:HRel σ h W) {t:TypeId} {l c:AV} {L C:Value} (a:VRel σ l L) (b:VRel σ c C) {q:S1} (e:xH P h t l c=some q):
  OpOk P (do pure (.value (<- Instr.makeSlice t L C))) σ h W q:=by
 unfold xH at e;split at e
 .rename_i d hq;cases e;exact JA r a b hq
 .exact X0 r a b e
theorem VI {P:Program} {σ:Sg} {h:Hp} {W:World} (r:HRel σ h W) {t u ty:TypeId} {a b:AV} {A B:Value} (ha:VRel σ a A) (hb:VRel σ b B) {q:S1} (e:G9 P h t u a b=some q):
  OpOk P (do pure (.value (<- Builtin.append_ #[t,u] ty #[A,B]))) σ h W q:=by
 unfold G9 at e;split at e
 .rename_i d hq;cases e;exact Rk r ha hb hq
 .split at e
  .rename_i f c;exact adI r c ha hb e
  .cases e
theorem adJ {P:Program} {σ:Sg} {h:Hp} {W:World} (r:HRel σ h W) {t ty:TypeId} {ts:Array TypeId} (c:ts[0]?=some t) {a b:AV} {A B:Value} (ha:VRel σ a A) (hb:VRel σ b B) {q:S1} (e:Q5 P h t a b=some q):
  OpOk P (do pure (.value (<- Builtin.copy_ ts ty #[A,B]))) σ h W q:=by
 unfold Q5 at e;split at e
 .rename_i d hq;cases e;exact X4 r c ha hb hq
 .exact X3 r c ha hb e
theorem ai3 {P:Program} {σ:Sg} {t ty:TypeId} {ts:Array TypeId} (a:ts[0]?=some t) {x v:AV} {X:Value} (d:VRel σ x X) {nd:Nd} (e:adz P t x=some (nd,v)) (W:World):∃ V,(Builtin.len_ ts ty #[X]).run P W=.ok V W/\VRel σ v V:=by
 unfold adz at e;split at e
 .split at e
  .rename_i f b;cases e;obtain ⟨_,_,_,_,rfl⟩:=d;exact ⟨_,by simp [Builtin.len_,a,aK b,goInt],rfl⟩
  .cases e
 .split at e
  .rename_i f b;cases e;obtain ⟨p,len,c,rfl,h1,_⟩:=d;exact ⟨.int .i64 len,by simp [Builtin.len_,a,aK b,goInt],by rw [mkInt_rel,h1.1]⟩
  .cases e
 .split at e
  .rename_i f b;cases e;obtain ⟨p,len,c,rfl,h1,_⟩:=d;exact ⟨.int .i64 len,by simp [Builtin.len_,a,aK b,goInt],by rw [<- h1.1];rfl⟩
  .cases e
 .split at e
  .rename_i f b;cases e;obtain ⟨p,len,c,rfl,h1,_⟩:=d;exact ⟨.int .i64 len,by simp [Builtin.len_,a,aK b,goInt],by rw [<- h1.1];rfl⟩
  .cases e
 .split at e
  .rename_i f b;cases e;obtain ⟨_,_,_,rfl⟩:=d;exact ⟨_,by simp [Builtin.len_,a,aK b,goInt],rfl⟩
  .cases e
 .split at e
  .rename_i f b;cases e;obtain ⟨_,_,_,_,_,rfl,_⟩:=d;exact ⟨_,by simp [Builtin.len_,a,aK b,goInt],rfl⟩
  .cases e
 .split at e
  .rename_i f b;cases e;obtain rfl:=d;exact ⟨.int .i64 0,by simp [Builtin.len_,a,aK b,goInt],rfl⟩
  .cases e
 .split at e
  .rename_i b;cases e;obtain rfl:=d;exact ⟨_,by simp [Builtin.len_,a,aK b,goInt];rfl,by simp⟩
  .cases e
 .split at e
  .rename_i n f b;cases e;exact ⟨.int .i64 n,by simp [Builtin.len_,a,aK b,goInt],rfl⟩
  .cases e
theorem Hr {P:Program} {σ:Sg} {f:AV->AV->Option AV} {F:Value->Value->Sem Value} (g:∀ a b v A B (W:World),VRel σ a A->VRel σ b B->f a b=some v->∃ V,(F A B).run P W=.ok V W/\VRel σ v V) (W:World):
  ∀ (l:List AV) (a v:AV) (A:Value) (L:List Value),VRel σ a A->VRels σ l L->TG f a l=some v->∃ V,(L.foldlM F A).run P W=.ok V W/\VRel σ v V
 | [],a,v,A,L,ha,d,e=>by
  rw [show L=[] from d];cases e;exact ⟨A,rfl,ha⟩
 | b :: l,a,v,A,_,ha,⟨B,L,rfl,hb,d⟩,e=>by
  simp only [TG] at e;split at e
  .cases e
  .rename_i c h;obtain ⟨V,h1,h2⟩:=g a b c A B W ha hb h;obtain ⟨U,h3,i⟩:=Hr g W l c v V L h2 d e;exact ⟨U,by simp [List.foldlM_cons,h1,h3],i⟩
theorem ai4 {P:Program} {σ:Sg} {ts:Array TypeId} {ty:TypeId} {h:Hp} {W:World} (r:HRel σ h W) {l:List AV} {L:Array Value} (f:VRels σ l L.toList) {q:S1} (e:vY h min2 l=some q):
  OpOk P (do pure (.value (<- Builtin.min_ ts ty L))) σ h W q:=by
 unfold vY at e;split at e
 .cases e
 .rename_i a l;obtain ⟨v,h1,rfl⟩:=jq e;obtain ⟨A,M,d,ha,g⟩:=f;obtain ⟨V,h2,h3⟩:=Hr (P:=P) (σ:=σ) (F:=Builtin.min2) (fun a b v A B W ha hb c=>by
   unfold min2 at c;split at c
   .cases c;obtain rfl:=ha;obtain rfl:=hb;exact ⟨_,by simp [Builtin.min2];rfl,by simp⟩
   .cases c) W l a v A M ha g h1
  exact OpOk.pure r fun _=>⟨V,by simp [Builtin.min_,d,h2],h3⟩
theorem ai5 {P:Program} {σ:Sg} {ts:Array TypeId} {ty:TypeId} {h:Hp} {W:World} (r:HRel σ h W) {l:List AV} {L:Array Value} (f:VRels σ l L.toList) {q:S1} (e:vY h max2 l=some q):
  OpOk P (do pure (.value (<- Builtin.max_ ts ty L))) σ h W q:=by
 unfold vY at e;split at e
 .cases e
 .rename_i a l;obtain ⟨v,h1,rfl⟩:=jq e;obtain ⟨A,M,d,ha,g⟩:=f;obtain ⟨V,h2,h3⟩:=Hr (P:=P) (σ:=σ) (F:=Builtin.max2) (fun a b v A B W ha hb c=>by
   unfold max2 at c;split at c
   .cases c;obtain rfl:=ha;obtain rfl:=hb;exact ⟨_,by simp [Builtin.max2];rfl,by simp⟩
   .cases c) W l a v A M ha g h1
  exact OpOk.pure r fun _=>⟨V,by simp [Builtin.max_,d,h2],h3⟩
theorem Ht {σ:Sg} {c:TypeDesc} {a b:AV} {A B:Value} (ha:VRel σ a A) (hb:VRel σ b B) {p:Bool} (e:nC c a b=some p):Instr.sameNow c A B=some p:=by
 unfold nC at e;split at e
 .split at e
  .rename_i k x f y;split at e
   .rename_i d;subst d;cases e;obtain rfl:=ha;obtain rfl:=hb;simp [Instr.sameNow]
   .cases e
  .cases e
 .split at e
  .cases e;obtain rfl:=ha;obtain rfl:=hb;rfl
  .cases e
 .split at e
  .cases e;obtain rfl:=ha;obtain rfl:=hb;simp only [Instr.sameNow,wu]
  .cases e
 .cases e
theorem xR {σ:Sg} {d:TypeDesc} {k:AV} {K:Value} (b:VRel σ k K):∀ (es:List (AV×AV)) (E:List MapEntry) (j:Nat) (res:Option AV),VRels σ (es.map (·.1)) (E.map (·.key))->VRels σ (es.map (·.2)) (E.map (·.val))->Fq d k es=some res ->
  ∃ R,Instr.findNow d K E j=some R/\(match res,R with|none,none=>True|some v,some (_,V)=>VRel σ v V|_,_=>False)
 | [],E,j,res,h1,_,e=>by
  cases e;have:E=[]:=by have:=VRels.length h1;simpa using this
  subst this;exact ⟨none,rfl,trivial⟩
 | (a,v) :: es,E,j,res,h1,h2,e=>by
  cases E with
  | nil=>obtain ⟨_,_,h,_⟩:=h1;cases h
  | cons m E=>
   obtain ⟨A,n,f,ra,i⟩:=h1;obtain ⟨V,o,g,rv,c⟩:=h2;simp only [dL,lV] at f g;obtain ⟨rfl,rfl⟩:=f;obtain ⟨rfl,rfl⟩:=g;simp only [Fq] at e;split at e
   .cases e
   .rename_i hq;cases e;exact ⟨some (j,m.val),by simp [Instr.findNow,Ht b ra hq],rv⟩
   .rename_i hq;obtain ⟨R,h3,l⟩:=xR b es E (j+1) res i c e;exact ⟨R,by simp [Instr.findNow,Ht b ra hq,h3],l⟩
theorem wB {c:TypeDesc} {a b:AV} (e:nC c a b=some true):a=b:=by
 unfold nC at e;split at e
 .split at e
  .split at e
   .rename_i d;subst d;simp only [bi,dV] at e;rw [e]
   .cases e
  .cases e
 .split at e
  .simp only [bi,dV] at e;rw [e]
  .cases e
 .split at e
  .simp only [bi] at e;rw [(lI _ _).1 e]
  .cases e
 .cases e
theorem wC {b:TypeDesc} {k:AV}:∀ {es:List (AV×AV)},lH b k es=true->(∃ v,Fq b k es=some (some v)/\(k,v)∈es)\/(Fq b k es=some none/\∀ v,(k,v)∈es->nC b k k=some false)
 | [],_=>.inr ⟨rfl,fun v h=>by cases h⟩
 | (a,v) :: es,h=>by
  simp only [lH] at h;simp only [Fq]
  cases hq:nC b k a with
  | none=>rw [hq] at h;cases h
  | some p=>
   rw [hq] at h
   cases p with
   | true=>
    have:=wB hq;subst this;exact .inl ⟨v,rfl,by simp⟩
   | false=>
    rcases wC h with ⟨w,h1,h2⟩|⟨h1,h2⟩
    .exact .inl ⟨w,h1,by simp [h2]⟩
    .refine .inr ⟨h1,fun w c=>?_⟩;rcases aN.1 c with c|c
     .cases c;exact hq
     .exact h2 w c
theorem nW {b:TypeDesc} {k:AV}:∀ {es:List (AV×AV)},lH b k es=true ↔ ∀ x∈es,nC b k x.1≠none
 | []=>by simp [lH]
 | (a,v) :: es=>by
  simp only [lH,aN,forall_eq_or_imp]
  cases hq:nC b k a with
  | none=>simp
  | some p=>simp [nW (es:=es)]
theorem J9:∀ {es:List (AV×AV)} {k v w:AV},(es.map (·.1)).Nodup->(k,v)∈es->(k,w)∈es->v=w
 | [],k,v,w,_,h,_=>by cases h
 | (a,x) :: es,k,v,w,hn,h1,h2=>by
  simp only [dL,mZ] at hn;rcases aN.1 h1 with b|b <;> rcases aN.1 h2 with c|c
  .cases b;cases c;rfl
  .cases b;exact absurd (gy.2 ⟨_,c,rfl⟩) hn.1
  .cases c;exact absurd (gy.2 ⟨_,b,rfl⟩) hn.1
  .exact J9 hn.2 b c
theorem Ka {a:TypeDesc} {k:AV} (h:nC a k k=some false):False:=by
 cases a with
 | int q=>cases k with
  | int s c n=>cases s with
   | false=>simp [nC] at h
   | true=>cases h
  | _=>cases h
 | bool=>cases k with
  | bool s b=>cases s with
   | false=>simp [nC] at h
   | true=>cases h
  | _=>cases h
 | string=>cases k with
  | str s b=>cases s with
   | false=>
    simp only [nC,bi] at h;rw [(lI _ _).2 rfl] at h;cases h
   | true=>cases h
  | _=>cases h
 | _=>cases h
theorem wD {c:TypeDesc} {k:AV} {es a:List (AV×AV)} (hp:a.Perm es) (hn:(es.map (·.1)).Nodup) {res:Option AV} (e:J3 c k es=some res):Fq c k a=some res:=by
 unfold J3 at e;split at e
 .rename_i hd;have d:lH c k a=true:=nW.2 fun x f=>nW.1 hd x (hp.mem_iff.1 f);rcases wC hd with ⟨v,h1,h2⟩|⟨h1,h2⟩ <;> rcases wC d with ⟨w,h3,b⟩|⟨h3,b⟩
  .rw [h1] at e;cases e;rw [h3,J9 hn h2 (hp.mem_iff.1 b)]
  .exact (Ka (b v (hp.mem_iff.2 h2))).elim
  .exact (Ka (h2 w (hp.mem_iff.1 b))).elim
  .rw [h1] at e;cases e;exact h3
 .cases e
theorem Hu {P:Program} {σ:Sg} {t:TypeId} {v:AV} (e:TB P t=some v) (W:World):∃ V,(zeroValue t).run P W=.ok V W/\VRel σ v V:=by
 unfold TB at e;split at e
 .cases e
 .rename_i i hi;split at e
  .cases e
  .rename_i cs a
   cases b:Vv vP cs.toList with
   | none=>rw [b] at e;cases e
   | some l=>
    rw [b] at e;cases e;exact ⟨.agg cs,sQ hi a W,cs,rfl,(xO b).1⟩
  .rename_i z hn a;exact ⟨z,sQ hi a W,(AQ e).1⟩
theorem xS {P:Program} {W:World} {b:Bool} {t:TypeId} {a:TypeDesc} (c:P.underlying t=some a) (d:Lv a=true) (v:Value) (n:Nat):(Instr.checkKey b (n+1) t v).run P W=.ok () W:=by cases a <;> simp [Lv] at d <;> simp [Instr.checkKey,aK c]
theorem VJ {P:Program} {σ:Sg} {h:Hp} {W:World} (r:HRel σ h W) {t:TypeId} {x k v:AV} {X K:Value} (H:VRel σ x X) (p:VRel σ k K) {ok:Bool} (e:mG P h t x k ok=some v):
  ∃ V,(Instr.lookup t X K ok).run P W=.ok V W/\VRel σ v V:=by
 unfold mG at e;split at e
 .rename_i l Q q;split at e
  .cases e
  .rename_i Y b;split at e
   .cases e
   .rename_i d;split at e
    .rename_i i;obtain ⟨B,N,m,rfl⟩:=H;split at e
     .rename_i w es I;obtain ⟨B',N',o,s,J,E,L,f,rfl,y,A,D,q4⟩:=r.blk i _ I rfl;rw [m] at s;cases s;have a:(getObj B).run P W=.ok (.map E L) W:=by
       simp only [getObj,Sem.run,J]
      have g:(Instr.checkKey E.isEmpty 10000 l K).run P W=.ok () W:=xS b d K 9999;split at e
      .cases e
      .rename_i u n;obtain ⟨R,h1,h2⟩:=xR p f E.toList 0 _ D q4 (wD y A n)
       cases R with
       | none=>exact h2.elim
       | some R=>
        obtain ⟨j,V⟩:=R;have c:(Instr.findKey l K E.toList).run P W=.ok (some (j,V)) W:=by simp [Instr.findKey,aK b,h1]
        cases e;refine ⟨if ok then .tuple #[V,.bool true] else V,?_,?_⟩
        .simp only [Instr.lookup,bO,aK q,bR,a,dn,g,c]
        .cases ok
         .exact h2
         .exact ⟨_,rfl,_,_,rfl,h2,_,_,rfl,rfl,rfl⟩
      .rename_i n;obtain ⟨R,h1,h2⟩:=xR p f E.toList 0 _ D q4 (wD y A n)
       cases R with
       | some R=>exact h2.elim
       | none=>
        have c:(Instr.findKey l K E.toList).run P W=.ok none W:=by simp [Instr.findKey,aK b,h1]
        split at e
        .cases e
        .rename_i z M;cases e;obtain ⟨Z,O,F⟩:=Hu (P:=P) (σ:=σ) M W;refine ⟨if ok then .tuple #[Z,.bool false] else Z,?_,?_⟩
         .simp only [Instr.lookup,bO,aK q,bR,a,dn,g,c,O]
         .cases ok
          .exact F
          .exact ⟨_,rfl,_,_,rfl,F,_,_,rfl,rfl,rfl⟩
     .cases e
    .cases e
 .cases e
theorem VK {σ:Sg} {d:TypeDesc} {a b:AV} (h:nC d a b=some true) {A B:Value} (ha:VRel σ a A) (hb:VRel σ b B):A=B/\∀ n,Instr.sameBits n A A=true:=by
 have c:=wB h;subst c;unfold nC at h;split at h
 .split at h
  .obtain rfl:=ha;obtain rfl:=hb;exact ⟨rfl,fun n=>by cases n <;> simp [Instr.sameBits]⟩
  .cases h
 .split at h
  .obtain rfl:=ha;obtain rfl:=hb;exact ⟨rfl,fun n=>by cases n <;> simp [Instr.sameBits]⟩
  .cases h
 .split at h
  .obtain rfl:=ha;obtain rfl:=hb;refine ⟨rfl,fun n=>?_⟩;have:∀ b:ByteArray,(b==b)=true:=fun b=>by rw [<- wu];exact (lI _ _).2 rfl
   cases n <;> simp only [Instr.sameBits,this]
  .cases h
 .cases h
theorem Kb {b:TypeDesc} {k v:AV}:∀ {es:List (AV×AV)},k ∉ es.map (·.1)->Ej b k v es=es
 | [],_=>rfl
 | (a,x) :: es,h=>by
  simp only [dL,aN,not_or] at h;simp only [Ej,Kb h.2];split
  .rename_i hq;exact absurd (wB hq) h.1
  .rfl
theorem Ey {b:TypeDesc} {k v:AV}:∀ (es:List (AV×AV)),(Ej b k v es).map (·.1)=es.map (·.1)
 | []=>rfl
 | (a,x) :: es=>by
  simp only [Ej,dL,Ey es];split <;> rfl
theorem Hw (b:TypeDesc) (k v:AV):∀ (es:List (AV×AV)),Ej b k v es=es.map fun e=>match nC b k e.1 with
  | some true=>(e.1,v)
  | _=>e
 | []=>rfl
 | (a,x) :: es=>by rw [Ej,dL,Hw b k v es];rfl
theorem TU {σ:Sg} {f:TypeDesc} {k v:AV} {K V:Value} (g:VRel σ k K) (o:VRel σ v V):∀ (es:List (AV×AV)) (E:List MapEntry) (b j:Nat) (U:Value),VRels σ (es.map (·.1)) (E.map (·.key))->VRels σ (es.map (·.2)) (E.map (·.val))->(es.map (·.1)).Nodup->lH f k es=true ->
  Instr.findNow f K E b=some (some (j,U))->∃ i m,j=b+i/\E[i]?=some m/\m.key=K/\(∀ n,Instr.sameBits n K K=true)/\VRels σ ((Ej f k v es).map (·.2)) ((E.modify i fun e=>{ e with key:=K,val:=V }).map (·.val))/\VRels σ (es.map (·.1)) ((E.modify i fun e=>{ e with key:=K,val:=V }).map (·.key))
 | [],E,b,j,U,h1,_,_,_,e=>by
  have:E=[]:=by have:=VRels.length h1;simpa using this
  subst this;cases e
 | (a,x) :: es,E,b,j,U,h1,h2,hn,hd,e=>by
  cases E with
  | nil=>obtain ⟨_,_,h,_⟩:=h1;cases h
  | cons m E=>
   obtain ⟨A,I,q,ra,r⟩:=h1;obtain ⟨X,J,s,t,c⟩:=h2;simp only [dL,lV] at q s;obtain ⟨rfl,rfl⟩:=q;obtain ⟨rfl,rfl⟩:=s;simp only [dL,mZ] at hn;simp only [lH] at hd;simp only [Instr.findNow] at e
   cases hq:nC f k a with
   | none=>rw [hq] at hd;cases hd
   | some p=>
    rw [hq] at hd;rw [Ht g ra hq] at e
    cases p with
    | true=>
     cases e;obtain ⟨d,u⟩:=VK hq g ra;have l:=wB hq;refine ⟨0,m,rfl,rfl,d.symm,u,?_,?_⟩
     .simp only [Ej,hq,dL,List.modify_zero_cons];rw [Kb (by rw [l];exact hn.1)];exact ⟨V,_,rfl,o,c⟩
     .simp only [dL,List.modify_zero_cons];exact ⟨K,_,rfl,by rw [d];exact ra,r⟩
    | false=>
     obtain ⟨i,w,h3,y,z,D,F,H⟩:=TU g o es E (b+1) j U r c hn.2 hd e;refine ⟨i+1,w,by omega,by simpa using y,z,D,?_,?_⟩
     .simp only [Ej,hq,dL,List.modify_succ_cons];exact ⟨_,_,rfl,t,F⟩
     .simp only [dL,List.modify_succ_cons];exact ⟨_,_,rfl,ra,H⟩
theorem Rl {P:Program} {σ:Sg} {h:Hp} {W:World} (r:HRel σ h W) {t:TypeId} {x:Option AV} {X:Option Value} (c:match x,X with|none,none=>True|some a,some A=>VRel σ a A|_,_=>False) {q:S1} (e:Eo P h t x=some q):
  OpOk P (do pure (.value (<- Instr.makeMap t X))) σ h W q:=by
 have b:∀ m:Sem Value,m.run P W=.ok (.map (some W.heap.size)) (W.alloc (.map #[] 0))->OpOk P (do pure (.value (<- m))) σ h W ⟨.tt,.map h.size,h.push (.map [])⟩:=fun m d _=>by
  obtain ⟨h1,h2⟩:=r.alloc (.map []) (.map #[] 0) 0 ⟨#[],0,[],rfl,.refl _,by simp,rfl,rfl⟩;exact ⟨_,.map (some W.heap.size),_,_,by simp [d],.inl rfl,⟨W.heap.size,0,fF,rfl⟩,h1,h2⟩
 unfold Eo at e;split at e
 .cases e
  cases X with
  | some _=>exact c.elim
  | none=>exact b _ (by simp [Instr.makeMap,newObj,Sem.run])
 .split at e
  .rename_i f;cases e
   cases X with
   | none=>exact c.elim
   | some A=>
    obtain rfl:=c;exact b _ (by simp [Instr.makeMap,newObj,Sem.run,aK f,asInt,asIntOf])
  .cases e
 .cases e
theorem BU {P:Program} {σ:Sg} {h:Hp} {W:World} (r:HRel σ h W) {t:TypeId} {x k v:AV} {X K V:Value} (hx:VRel σ x X) (M:VRel σ k K) (hv:VRel σ v V) {q:S1} (e:uf P h t x k v=some q):
  OpOk P (do Instr.mapUpdate t X K V;pure .skip) σ h W q:=by
 intro hn;unfold uf at e;split at e
 .rename_i Y el hu;split at e
  .cases e
  .rename_i kd n;split at e
   .cases e
   .rename_i D;split at e
    .rename_i i;obtain ⟨B,N,F,rfl⟩:=hx;split at e
     .rename_i w es hg;obtain ⟨B',N',o,q1,q2,E,z,a,rfl,A,H,O,q4⟩:=r.blk i _ hg rfl;rw [F] at q1;cases q1;have aa:B<W.heap.size:=(jd.1 q2).1;have g:(getObj B).run P W=.ok (.map E z) W:=by simp only [getObj,Sem.run,q2]
      have l:∀ f,(setObj B f).run P W=.ok () { W with heap:=W.heap.setIfInBounds B f }:=fun f=>by simp only [setObj,Sem.run,q2,Dx,bn]
      have I:(Instr.checkKey false 10000 Y K).run P W=.ok () W:=xS n D K 9999;have ab:(a.map (·.1)).Nodup:=(A.map (·.1)).nodup_iff.2 H;have wr:∀ (f:Obj) (d:ABody),BRel σ N d f->Fu f->HRel σ (h.put i d) { W with heap:=W.heap.setIfInBounds B f }/\Good σ h W σ (h.put i d) { W with heap:=W.heap.setIfInBounds B f }:=fun f d hb hc=>
       r.write hg rfl F d (qw fun c h=>by cases h) f (by simp [jG,aa]) hb (by simp) (fun j hj=>by simp [jG,gQ hj]) rfl rfl rfl hc
      split at e
      .rename_i p;split at e
       .cases e
       .rename_i u b;rw [Hp.set_eq] at e;cases e;have J:lH kd k a=true:=by
         unfold J3 at b;split at b
         .rename_i hd;exact nW.2 fun y hy=>nW.1 hd y (A.mem_iff.1 hy)
         .cases b
        obtain ⟨R,h1,h2⟩:=xR M a E.toList 0 _ O q4 (wD A H b)
        cases R with
        | none=>exact h2.elim
        | some R=>
         obtain ⟨j,U⟩:=R;have s:(Instr.findKey Y K E.toList).run P W=.ok (some (j,U)) W:=by simp [Instr.findKey,aK n,h1]
         obtain ⟨i',m,h3,Q,h5,h6,h7,h8⟩:=TU (V:=V) M hv a E.toList 0 j U O q4 ab J h1;rw [fJ] at h3;subst h3;have ac:E[j]?=some m:=by rw [<- ic];exact Q
         have ae:(Instr.keyThatStays (((E[j]?).map (·.key)).getD K) K).run P W=.ok K W:=by rw [ac];simp only [zi,uN,h5,Instr.keyThatStays,h6,bn,dn]
         obtain ⟨w1,w2⟩:=wr (.map (E.modify j fun e=>{ e with key:=K,val:=V }) z) (.map (Ej kd k v es)) ⟨_,z,Ej kd k v a,rfl,by
           rw [Hw,Hw];exact A.map _,by rw [Ey];exact H,by
           rw [Ey,Array.toList_modify];exact h8,by
           rw [Array.toList_modify];exact h7⟩ (fun _ _ _ h=>by cases h)
         refine ⟨σ,undef,_,_,?_,.inr ⟨rfl,rfl⟩,⟨#[],rfl,rfl⟩,w1,w2⟩;simp only [Instr.mapUpdate,bO,aK hu,bR,g,I,s,ae,l,dn]
       .rename_i b;rw [Hp.set_eq] at e;cases e;obtain ⟨R,h1,h2⟩:=xR M a E.toList 0 _ O q4 (wD A H b)
        cases R with
        | some R=>exact h2.elim
        | none=>
         have s:(Instr.findKey Y K E.toList).run P W=.ok none W:=by simp [Instr.findKey,aK n,h1]
         have L:k ∉ es.map (·.1):=fun hm=>by
          obtain ⟨y,hy,rfl⟩:=gy.1 hm;unfold J3 at b;split at b
          .rename_i hd;rcases wC hd with ⟨v',h3,Q⟩|⟨h3,Q⟩
           .rw [h3] at b;cases b
           .have:=Q y.2 hy;rw [p] at this;cases this
          .cases b
         obtain ⟨w1,w2⟩:=wr (.map (E.push { key:=K,val:=V,born:=z }) (z+1)) (.map ((k,v) :: es)) ⟨_,z+1,a++[(k,v)],rfl,(List.perm_append_singleton _ _).trans (A.cons _),by
           simp only [dL,mZ];exact ⟨L,H⟩,by
           simp only [jN,Array.toList_push];exact VRels.append O ⟨_,_,rfl,M,rfl⟩,by
           simp only [jN,Array.toList_push];exact VRels.append q4 ⟨_,_,rfl,hv,rfl⟩⟩ (fun _ _ _ h=>by cases h)
         refine ⟨σ,undef,_,_,?_,.inr ⟨rfl,rfl⟩,⟨#[],rfl,rfl⟩,w1,w2⟩;simp only [Instr.mapUpdate,bO,aK hu,bR,g,I,s,l,dn]
      .cases e
     .cases e
    .cases e
 .cases e
theorem L6 {P:Program} {σ:Sg} {h:Hp} {W:World} (r:HRel σ h W) {t:TypeId} {v:AV} {V:Value} (b:VRel σ v V) {q:S1} (e:xI P h t v=some q):
  OpOk P (do pure (.value (<- Instr.makeInterface t V))) σ h W q:=by
 unfold xI at e;split at e
 .cases e
 .cases e
 .rename_i d a hd;cases e;refine OpOk.pure r fun _=>⟨.iface t V,?_,V,rfl,b⟩;simp only [Instr.makeInterface,bO,aK hd,bR];cases d <;> first|(exact absurd hd (a _))|simp
theorem JB {P:Program} {σ:Sg} {h:Hp} {W:World} (r:HRel σ h W) {xt t:TypeId} {v:AV} {V:Value} {ok:Bool} (m:VRel σ v V) {q:S1} (e:vX P h v t ok=some q):
  OpOk P (do pure (.value (<- Instr.typeAssert V xt t ok))) σ h W q:=by
 unfold vX at e;split at e
 .cases e
 .cases e
 .rename_i d c hd;simp only at e;have g:∀ (F:Option TypeId->Option TypeId->String->Sem Value) (a b:Option TypeId) (s:String),True:=fun _ _ _ _=>trivial;split at e
  .rename_i o a;obtain ⟨x,rfl,n⟩:=m;split at e
   .rename_i f;have:=aP f;subst this;cases e
    cases ok with
    | true=>
     refine OpOk.pure r fun _=>⟨.tuple #[x,.bool true],?_,_,rfl,_,_,rfl,n,_,_,rfl,rfl,rfl⟩;simp only [Instr.typeAssert,bO,aK hd,bR];cases d <;> first|(exact absurd hd (c _))|simp
    | false=>
     refine OpOk.pure r fun _=>⟨x,?_,n⟩;simp only [Instr.typeAssert,bO,aK hd,bR];cases d <;> first|(exact absurd hd (c _))|simp
   .rename_i f;have i:o≠t:=fun h=>by subst h;rw [zy] at f;cases f
    split at e
    .split at e
     .cases e
     .rename_i z j;cases e;obtain ⟨Z,k,l⟩:=Hu (P:=P) (σ:=σ) j W;refine OpOk.pure r fun _=>⟨.tuple #[Z,.bool false],?_,_,rfl,_,_,rfl,l,_,_,rfl,rfl,rfl⟩;simp only [Instr.typeAssert,bO,aK hd,bR];cases d <;> first|(exact absurd hd (c _))|simp [i,k]
    .cases e
  .obtain rfl:=m;split at e
   .split at e
    .cases e
    .rename_i z j;cases e;obtain ⟨Z,k,l⟩:=Hu (P:=P) (σ:=σ) j W;refine OpOk.pure r fun _=>⟨.tuple #[Z,.bool false],?_,_,rfl,_,_,rfl,l,_,_,rfl,rfl,rfl⟩;simp only [Instr.typeAssert,bO,aK hd,bR];cases d <;> first|(exact absurd hd (c _))|simp [k]
   .cases e
  .cases e
theorem L8 {σ:Sg} {C:Ctx} {s:St} {T:Array Value} (g:GRel C σ) (h:TRel σ s.tmps T) (l:Array Operand):VRels σ (jB C s l.toList) (l.map (ev T)).toList:=by simpa using J5 g h l.toList
theorem zU {C:Ctx} {σ:Sg} {s:St} {T:Array Value} {W:World} (g:GRel C σ) (p:TRel σ s.tmps T) (r:HRel σ s.hp W) {o:Oper} {q:S1} (e:dW C s o.op=some q):OpOk C.P (execOp (ev T) o) σ s.hp W q:=by
 have E:=fun x=>iU (C:=C) (s:=s) g p x;unfold dW at e;split at e
 .rename_i x d;cases e;exact OpOk.pure r fun _=>⟨ev T x,by simp [execOp,d],E x⟩
 .rename_i x d;cases e;exact OpOk.pure r fun _=>⟨ev T x,by simp [execOp,d],E x⟩
 .rename_i c a b d;have:=VA (P:=C.P) r (E c) (E a) (E b) e;simpa [execOp,d] using this
 .rename_i t d;have:=Rf (P:=C.P) r e;simpa [execOp,d] using this
 .rename_i t x d;have:=XU (P:=C.P) r (t:=t) (E x) e;simpa [execOp,d] using this
 .rename_i t h d;obtain ⟨v,h1,rfl⟩:=jq e;obtain ⟨z,p2⟩:=pR (C:=C) (s:=s) g p h.toList;obtain ⟨V,h2,h3⟩:=build_ok (P:=C.P) (σ:=σ) (Ps:=h.map fun (i,x)=>(i,ev T x)) (by simpa using z) (by simpa using p2) h1 W;exact OpOk.pure r fun _=>⟨V,by simp [execOp,d,h2],h3⟩
 .rename_i t len h d;obtain ⟨z,p2⟩:=pR (C:=C) (s:=s) g p h.toList;have:=Jz (P:=C.P) r (Ps:=h.map fun (i,x)=>(i,ev T x)) (by simpa using z) (by simpa using p2) e;simpa [execOp,d] using this
 .rename_i t x d;obtain ⟨nd,v,h1,rfl⟩:=pg e;refine OpOk.pure r fun hn=>?_;obtain ⟨B,off,V,h2,h3,A⟩:=TQ r (E x) h1 hn;exact ⟨V,by simp [execOp,d,Instr.loadAt,h2,Instr.sureAddr,h3],A⟩
 .rename_i t x y d;have:=XV (P:=C.P) r (E x) (E y) e;simpa [execOp,d] using this
 .rename_i x d;exact Oh r (E x) e rfl d
 .rename_i op t x y I d;obtain ⟨nd,v,h1,rfl⟩:=pg e;refine OpOk.pure r fun hn=>?_;obtain ⟨V,h2,h3,A⟩:=adH (P:=C.P) (E x) (E y) h1 hn x y W;exact ⟨V,by simp [execOp,d,h2,h3],A⟩
 .rename_i op t x d;obtain ⟨v,h1,rfl⟩:=jq e;obtain ⟨V,h2,h3⟩:=ai2 (P:=C.P) (E x) h1 W;exact OpOk.pure r fun _=>⟨V,by simp [execOp,d,h2],h3⟩
 .rename_i F dst x d;obtain ⟨v,h1,rfl⟩:=jq e;obtain ⟨V,h2,h3⟩:=XY (P:=C.P) (E x) h1 W;exact OpOk.pure r fun _=>⟨V,by simp [execOp,d,h2],h3⟩
 .rename_i f first cap d
  unfold AL at e;split at e
  .rename_i f;cases e;exact OpOk.pure r fun _=>⟨.func (.func f) (first.map (ev T)) (cap.map (ev T)),by simp [execOp,d,Instr.makeFunc],_,_,rfl,L8 g p first,L8 g p cap⟩
  .cases e
 .rename_i t x lo hi mx d;obtain ⟨nd,v,h1,rfl⟩:=pg e;refine OpOk.pure r fun hn=>?_;obtain ⟨V,h2,h3⟩:=VE (P:=C.P) (E x) (Ev g p lo) (Ev g p hi) (Ev g p mx) h1 hn W;exact ⟨V,by simp [execOp,d,h2],h3⟩
 .rename_i t x f d;obtain ⟨v,h1,rfl⟩:=jq e;obtain ⟨V,h2,h3⟩:=LX (P:=C.P) (E x) h1 W;exact OpOk.pure r fun _=>⟨V,by simp [execOp,d,h2],h3⟩
 .rename_i t x f d;obtain ⟨v,h1,rfl⟩:=jq e;obtain ⟨V,h2,h3⟩:=XZ (P:=C.P) (E x) h1 W;exact OpOk.pure r fun _=>⟨V,by simp [execOp,d,h2],h3⟩
 .rename_i t x i d;obtain ⟨nd,v,h1,rfl⟩:=pg e;refine OpOk.pure r fun hn=>?_;obtain ⟨V,h2,h3⟩:=LW (P:=C.P) (E x) (E i) h1 hn W;exact ⟨V,by simp [execOp,d,h2],h3⟩
 .rename_i t x i d;obtain ⟨nd,v,h1,rfl⟩:=pg e;refine OpOk.pure r fun hn=>?_;obtain ⟨V,h2,h3⟩:=VD (P:=C.P) (E x) (E i) h1 hn W;exact ⟨V,by simp [execOp,d,h2],h3⟩
 .rename_i t x i ok d;obtain ⟨v,h1,rfl⟩:=jq e;obtain ⟨V,h2,h3⟩:=VJ (P:=C.P) r (E x) (E i) h1;exact OpOk.pure r fun _=>⟨V,by simp [execOp,d,h2],h3⟩
 .rename_i t i d;have:=Rj (P:=C.P) r (E t) e;simpa [execOp,d] using this
 .rename_i t l c d;have:=LZ (P:=C.P) r (E l) (E c) e;simpa [execOp,d] using this
 .rename_i t x d;have:=Rl (P:=C.P) r (X:=x.map (ev T)) (by cases x with|none=>trivial|some y=>exact E y) e;simpa [execOp,d] using this
 .rename_i t m k v d;have:=BU (P:=C.P) r (E m) (E k) (E v) e;simpa [execOp,d] using this
 .rename_i t m k v d;have:=BU (P:=C.P) r (E m) (E k) (E v) e;simpa [execOp,d] using this
 .rename_i t x d;have:=L6 (P:=C.P) r (E x) e;simpa [execOp,d] using this
 .rename_i x H t ok d;have:=JB (P:=C.P) r (xt:=H) (E x) e;simpa [execOp,d] using this
 .rename_i c d;unfold AJ at e;split at e
  .rename_i b hb;have D:execOp (ev T) o=builtin b c.argTypes o.type (c.args.map fun|.const _=>true|_=>false) (c.args.map (ev T)):=by
    simp only [execOp,d,resolve,hb];rfl
   rw [D];unfold o9 at e;split at e
   .split at e
    .rename_i x t ha n;obtain ⟨nd,v,h1,rfl⟩:=pg e;have w:c.argTypes[0]?=some t:=by rw [<- ic,n];rfl
     have j:c.args.map (ev T)=#[ev T x]:=by apply kR.1;simp [ha]
     obtain ⟨V,h2,h3⟩:=ai3 (P:=C.P) (ty:=o.type) w (E x) h1 W;rw [j];exact OpOk.pure r fun _=>⟨V,by simp [builtin,h2],h3⟩
    .cases e
   .split at e
    .rename_i x y t J ha n;have w:c.argTypes[0]?=some t:=by rw [<- ic,n];rfl
     have j:c.args.map (ev T)=#[ev T x,ev T y]:=by apply kR.1;simp [ha]
     rw [j];have:=adJ (P:=C.P) r (ty:=o.type) w (E x) (E y) e;simpa [builtin] using this
    .cases e
   .split at e
    .rename_i x y t u ha n;have w:c.argTypes=#[t,u]:=by apply kR.1;simp [n]
     have j:c.args.map (ev T)=#[ev T x,ev T y]:=by apply kR.1;simp [ha]
     rw [j,w];have:=VI (P:=C.P) r (ty:=o.type) (E x) (E y) e;simpa [builtin] using this
    .cases e
   .have:=ai4 (P:=C.P) r (ts:=c.argTypes) (ty:=o.type) (L8 g p c.args) e;simpa [builtin] using this
   .have:=ai5 (P:=C.P) r (ts:=c.argTypes) (ty:=o.type) (L8 g p c.args) e;simpa [builtin] using this
   .cases e
  .cases e
 .cases e
def Sg.low (σ:Sg) (n:Nat):Sg:=fun i=>if i<n then σ i else none
theorem Sg.low_sub (σ:Sg) (n:Nat):Sub (σ.low n) σ:=fun i x e=>by
 unfold Sg.low at e;split at e
 .exact e
 .cases e
mutual
theorem VRel.low {σ:Sg} {n:Nat}:∀ (a:AV) (v:Value),VRel σ a v->a.under n=true->VRel (σ.low n) a v
 | .any false,_,_,_=>trivial
 | .any true,_,h,_=>h
 | .bool _ _,_,h,_=>h
 | .int _ _ _,_,h,_=>h
 | .str _ _,_,h,_=>h
 | .nil,_,h,_=>h
 | .nilslice,_,h,_=>h
 | .eslice _,_,h,_=>h
 | .nilfunc,_,h,_=>h
 | .niliface,_,h,_=>h
 | .nilmap,_,h,_=>h
 | .ptr i o,_,⟨b,N,e,r⟩,u=>⟨b,N,by simp [AV.under] at u;simp [Sg.low,u,e],r⟩
 | .slice i _ _ _,_,⟨b,N,e,r⟩,u=>⟨b,N,by simp [AV.under] at u;simp [Sg.low,u,e],r⟩
 | .gslice i _ _ _,_,⟨b,N,q,c,e,r⟩,u=>⟨b,N,q,c,by simp [AV.under] at u;simp [Sg.low,u,e],r⟩
 | .func _ O cs,_,⟨F,K,e,r,s⟩,u=>by
  simp [AV.under] at u;exact ⟨F,K,e,VRels.low O _ r u.1,VRels.low cs _ s u.2⟩
 | .yield i,_,⟨b,N,e,r⟩,u=>⟨b,N,by simp [AV.under] at u;simp [Sg.low,u,e],r⟩
 | .iface _ a,_,⟨x,e,r⟩,u=>⟨x,e,VRel.low a _ r (by simpa [AV.under] using u)⟩
 | .map i,_,⟨b,N,e,r⟩,u=>⟨b,N,by simp [AV.under] at u;simp [Sg.low,u,e],r⟩
 | .vslice i _,_,⟨b,N,c,e,r⟩,u=>⟨b,N,c,by simp [AV.under] at u;simp [Sg.low,u,e],r⟩
 | .pslice i _ _ _,_,⟨p,len,c,E,J,e3,r⟩,u=>⟨p,len,c,E,J,e3,r.imp id fun ⟨b,N,h1,h2⟩=>⟨b,N,by simp [AV.under] at u;simp [Sg.low,u,h1],h2⟩⟩
 | .lslice i _,_,⟨p,len,c,E,J,r⟩,u=>⟨p,len,c,E,J,r.imp id fun ⟨b,N,h1,h2⟩=>⟨b,N,by simp [AV.under] at u;simp [Sg.low,u,h1],h2⟩⟩
 | .islice _ i _ _,_,⟨p,len,c,E,J,r⟩,u=>⟨p,len,c,E,J,r.imp id fun ⟨b,N,h1,h2⟩=>⟨b,N,by simp [AV.under] at u;simp [Sg.low,u,h1],h2⟩⟩
 | .panic a,v,h,u=>VRel.low a v h (by simpa [AV.under] using u)
 | .vptr i _,_,⟨b,N,e,r⟩,u=>⟨b,N,by simp [AV.under] at u;simp [Sg.low,u,e],r⟩
 | .agg l,_,⟨K,e,r⟩,u=>⟨K,e,VRels.low l _ r (by simpa [AV.under] using u)⟩
 | .tuple l,_,⟨K,e,r⟩,u=>⟨K,e,VRels.low l _ r (by simpa [AV.under] using u)⟩
theorem VRels.low {σ:Sg} {n:Nat}:∀ (l:List AV) (L:List Value),VRels σ l L->AV.underL n l=true->VRels (σ.low n) l L
 | [],_,h,_=>h
 | a :: l,_,⟨v,E,e,r,s⟩,u=>by
  simp [AV.underL] at u;exact ⟨v,E,e,VRel.low a _ r u.1,VRels.low l _ s u.2⟩
end
mutual
theorem VRel.names {σ τ:Sg} {n:Nat} (dom:∀ i B N,σ i=some (B,N)->i<n) (s:Sub σ τ):∀ (a:AV) (u v:Value),VRel σ a u->VRel τ a v->VRel (τ.low n) a v
 | .any false,_,_,_,_=>trivial
 | .any true,_,_,_,h=>h
 | .bool _ _,_,_,_,h=>h
 | .int _ _ _,_,_,_,h=>h
 | .str _ _,_,_,_,h=>h
 | .nil,_,_,_,h=>h
 | .nilslice,_,_,_,h=>h
 | .eslice _,_,_,_,h=>h
 | .nilfunc,_,_,_,h=>h
 | .niliface,_,_,_,h=>h
 | .nilmap,_,_,_,h=>h
 | .ptr i o,_,_,⟨O,Q,E,_⟩,⟨b,N,e,r⟩=>⟨b,N,by simp [Sg.low,dom _ _ _ E,e],r⟩
 | .slice i _ _ _,_,_,⟨O,Q,E,_⟩,⟨b,N,e,r⟩=>⟨b,N,by simp [Sg.low,dom _ _ _ E,e],r⟩
 | .gslice i _ _ _,_,_,⟨O,Q,_,_,E,_⟩,⟨b,N,q,c,e,r⟩=>⟨b,N,q,c,by simp [Sg.low,dom _ _ _ E,e],r⟩
 | .func _ fs cs,_,_,⟨F',K',_,J,s'⟩,⟨F,K,e,r,s2⟩=>⟨F,K,e,VRels.names dom s fs _ _ J r,VRels.names dom s cs _ _ s' s2⟩
 | .yield i,_,_,⟨O,Q,E,_⟩,⟨b,N,e,r⟩=>⟨b,N,by simp [Sg.low,dom _ _ _ E,e],r⟩
 | .iface _ a,_,_,⟨_,_,J⟩,⟨x,e,r⟩=>⟨x,e,VRel.names dom s a _ _ J r⟩
 | .map i,_,_,⟨O,Q,E,_⟩,⟨b,N,e,r⟩=>⟨b,N,by simp [Sg.low,dom _ _ _ E,e],r⟩
 | .vslice i _,_,_,⟨O,Q,_,E,_⟩,⟨b,N,c,e,r⟩=>⟨b,N,c,by simp [Sg.low,dom _ _ _ E,e],r⟩
 | .pslice i l _ _,_,_,⟨_,_,_,_,_,_,J⟩,⟨p,len,c,Y,e2,e3,r⟩=>⟨p,len,c,Y,e2,e3,by
  rcases J with h|⟨O,Q,E,_⟩
  .exact .inl h
  .exact r.imp id fun ⟨b,N,h1,h2⟩=>⟨b,N,by simp [Sg.low,dom _ _ _ E,h1],h2⟩⟩
 | .lslice i _,_,_,⟨_,aa,_,e0,ab,J⟩,⟨p,len,c,Y,e2,r⟩=>⟨p,len,c,Y,e2,by
  rcases J with h|⟨O,Q,E,_⟩
  .left;omega
  .exact r.imp id fun ⟨b,N,h1,h2⟩=>⟨b,N,by simp [Sg.low,dom _ _ _ E,h1],h2⟩⟩
 | .islice _ i _ _,_,_,⟨_,aa,_,e0,ab,J⟩,⟨p,len,c,Y,e2,r⟩=>⟨p,len,c,Y,e2,by
  rcases J with h|⟨O,Q,E,_⟩
  .left;omega
  .exact r.imp id fun ⟨b,N,h1,h2⟩=>⟨b,N,by simp [Sg.low,dom _ _ _ E,h1],h2⟩⟩
 | .panic a,u,v,h,k=>VRel.names dom s a u v h k
 | .vptr i _,_,_,⟨O,Q,E,_⟩,⟨b,N,e,r⟩=>⟨b,N,by simp [Sg.low,dom _ _ _ E,e],r⟩
 | .agg l,_,_,⟨_,_,J⟩,⟨K,e,r⟩=>⟨K,e,VRels.names dom s l _ _ J r⟩
 | .tuple l,_,_,⟨_,_,J⟩,⟨K,e,r⟩=>⟨K,e,VRels.names dom s l _ _ J r⟩
theorem VRels.names {σ τ:Sg} {n:Nat} (dom:∀ i B N,σ i=some (B,N)->i<n) (s:Sub σ τ):∀ (l:List AV) (L M:List Value),VRels σ l L->VRels τ l M->VRels (τ.low n) l M
 | [],_,_,_,h=>h
 | a :: l,_,_,⟨_,_,_,E,s'⟩,⟨v,J,e,r,O⟩=>⟨v,J,e,VRel.names dom s a _ _ E r,VRels.names dom s l _ _ s' O⟩
end
mutual
theorem VRel.cut {σ:Sg} {n:Nat}:∀ (a:AV) (v:Value),VRel σ a v->VRel (σ.low n) (a.cut n) v
 | .any false,_,_=>trivial
 | .any true,_,h=>h
 | .bool _ _,_,h=>h
 | .int _ _ _,_,h=>h
 | .str _ _,_,h=>h
 | .nil,_,h=>h
 | .nilslice,_,h=>h
 | .eslice _,_,h=>h
 | .nilfunc,_,h=>h
 | .niliface,_,h=>h
 | .nilmap,_,h=>h
 | .ptr i o,_,h=>by
  unfold AV.cut
  cases e:Nat.blt i n with
  | true=>exact VRel.low _ _ h (by simpa [AV.under] using e)
  | false=>exact eQ (fC h rfl)
 | .slice i o l c,_,h=>by
  unfold AV.cut
  cases e:Nat.blt i n with
  | true=>exact VRel.low _ _ h (by simpa [AV.under] using e)
  | false=>exact eQ (fC h rfl)
 | .gslice i o l c,_,h=>by
  unfold AV.cut
  cases e:Nat.blt i n with
  | true=>exact VRel.low _ _ h (by simpa [AV.under] using e)
  | false=>exact eQ (fC h rfl)
 | .func f E cs,_,h=>by
  unfold AV.cut
  cases e:AV.underL n E&&AV.underL n cs with
  | true=>exact VRel.low _ _ h (by simpa [AV.under] using e)
  | false=>exact eQ (fC h rfl)
 | .yield i,_,h=>by
  unfold AV.cut
  cases e:Nat.blt i n with
  | true=>exact VRel.low _ _ h (by simpa [AV.under] using e)
  | false=>exact eQ (fC h rfl)
 | .iface _ a,_,⟨x,e,r⟩=>⟨x,e,VRel.cut a _ r⟩
 | .map i,_,h=>by
  unfold AV.cut
  cases e:Nat.blt i n with
  | true=>exact VRel.low _ _ h (by simpa [AV.under] using e)
  | false=>exact eQ (fC h rfl)
 | .pslice i l s k,_,h=>by
  unfold AV.cut
  cases e:Nat.blt i n with
  | true=>exact VRel.low _ _ h (by simpa [AV.under] using e)
  | false=>exact eQ (fC h rfl)
 | .vslice i l,_,h=>by
  unfold AV.cut
  cases e:Nat.blt i n with
  | true=>exact VRel.low _ _ h (by simpa [AV.under] using e)
  | false=>exact eQ (fC h rfl)
 | .lslice i k,_,h=>by
  unfold AV.cut
  cases e:Nat.blt i n with
  | true=>exact VRel.low _ _ h (by simpa [AV.under] using e)
  | false=>exact eQ (fC h rfl)
 | .islice w i o k,_,h=>by
  unfold AV.cut
  cases e:Nat.blt i n with
  | true=>exact VRel.low _ _ h (by simpa [AV.under] using e)
  | false=>exact eQ (fC h rfl)
 | .panic a,v,h=>VRel.cut a v h
 | .vptr i o,_,h=>by
  unfold AV.cut
  cases e:Nat.blt i n with
  | true=>exact VRel.low _ _ h (by simpa [AV.under] using e)
  | false=>exact eQ (fC h rfl)
 | .agg l,_,⟨K,e,r⟩=>⟨K,e,VRels.cut l _ r⟩
 | .tuple l,_,⟨K,e,r⟩=>⟨K,e,VRels.cut l _ r⟩
theorem VRels.cut {σ:Sg} {n:Nat}:∀ (l:List AV) (L:List Value),VRels σ l L->VRels (σ.low n) (AV.cutL n l) L
 | [],_,h=>h
 | a :: l,_,⟨v,E,e,r,s⟩=>⟨v,E,e,VRel.cut a _ r,VRels.cut l _ s⟩
end
def DRel (σ:Sg):List ADef->List Deferred->Prop
 | [],D=>D=[]
 | .collected i :: l,D=>∃ B N E,σ i=some (B,N)/\D={ target:=.collected B,args:=#[] } :: E/\DRel σ l E
 | .call f as :: l,D=>∃ F K E,VRels σ as (F++K).toList/\D={ target:=.fn (.func f) K,args:=F } :: E/\DRel σ l E
theorem DRel.mono {σ τ:Sg} (h:Sub σ τ):∀ {l:List ADef} {D:List Deferred},DRel σ l D->DRel τ l D
 | [],_,e=>e
 | .collected _ :: _,_,⟨B,N,E,h1,h2,h3⟩=>⟨B,N,E,h _ _ h1,h2,DRel.mono h h3⟩
 | .call _ _ :: _,_,⟨F,K,E,h1,h2,h3⟩=>⟨F,K,E,VRels.mono h _ _ h1,h2,DRel.mono h h3⟩
theorem DRel.low {σ:Sg} {n:Nat}:∀ {l:List ADef} {D:List Deferred},o7 n l=true->DRel σ l D->DRel (σ.low n) l D
 | [],_,_,e=>e
 | .collected i :: l,_,u,⟨B,N,E,h1,h2,h3⟩=>by
  simp only [o7,aF,kX] at u;exact ⟨B,N,E,by simp [Sg.low,u.1,h1],h2,DRel.low u.2 h3⟩
 | .call f as :: l,_,u,⟨F,K,E,h1,h2,h3⟩=>by
  simp only [o7,aF] at u;exact ⟨F,K,E,VRels.low _ _ h1 u.1,h2,DRel.low u.2 h3⟩
structure SRel (σ:Sg) (s:St) (T:Array Value) (D:List Deferred) (W:World):Prop where
 t:TRel σ s.tmps T
 d:DRel σ s.defs D
 h:HRel σ s.hp W
structure TMon (s k:St):Prop where
 len:k.tmps.length=s.tmps.length
 same:∀ (t:Nat) (x:AT),k.tmps[t]?=some x->s.tmps[t]?=some x\/s.hp.clock<=x.st
theorem TMon.refl (s:St):TMon s s:=⟨rfl,fun _ _ h=>.inl h⟩
theorem TMon.trans {a b c:St} (E:a.hp.clock<=b.hp.clock) (x:TMon a b) (y:TMon b c):TMon a c:=
 ⟨y.len.trans x.len,fun t u e=>by
  rcases y.same t u e with h|h
  .exact x.same t u h
  .exact .inr (dF E h)⟩
structure StepH (H:Nat->Prop) (σ:Sg) (s:St) (W:World) (τ:Sg) (k:St) (V:World):Prop where
 good:GoodH H σ s.hp W τ k.hp V
 tm:TMon s k
abbrev Step:=StepH fun _=>False
theorem StepH.next {H E:Nat->Prop} {σ τ υ:Sg} {s k m:St} {W V X:World} (ko:k.hp.ok) (J:m.hp.ok) (x:StepH H σ s W τ k V) (y:StepH E τ k V υ m X) (O:∀ B,E B->B<W.heap.size->H B):StepH H σ s W υ m X:=
 ⟨x.good.next ko J y.good O,x.tm.trans x.good.mon.clock y.tm⟩
theorem Step.trans {σ τ υ:Sg} {s k m:St} {W V X:World} (ko:k.hp.ok) (E:m.hp.ok) (x:Step σ s W τ k V) (y:Step τ k V υ m X):Step σ s W υ m X:=
 StepH.next ko E x y fun _ h _=>h
theorem ug:∀ (l m:List ADef),jR l m=true->l=m
 | [],[],_=>rfl
 | .collected a :: l,.collected b :: m,h=>by
  simp [jR] at h;rw [h.1,ug l m h.2]
 | .call f as :: l,.call g bs :: m,h=>by
  simp only [jR,aF] at h;rw [aP h.1.1,kC as bs h.1.2,ug l m h.2]
 | [],.collected _ :: _,h=>by simp [jR] at h
 | .collected _ :: _,[],h=>by simp [jR] at h
 | [],.call _ _ :: _,h=>by simp [jR] at h
 | .call _ _ :: _,[],h=>by simp [jR] at h
 | .collected _ :: _,.call _ _ :: _,h=>by simp [jR] at h
 | .call _ _ :: _,.collected _ :: _,h=>by simp [jR] at h
theorem Fx {c0:Nat} {p:Bool}:∀ (d l m r:List AT),xB c0 p d l m=some r->r.length=d.length/\l.length=d.length/\m.length=d.length /\
  ∀ (t:Nat) (c:AT),r[t]?=some c->∃ x a b:AT,d[t]?=some x/\l[t]?=some a/\m[t]?=some b/\((a.st<c0/\b.st<c0/\c=x)\/((c0<=a.st\/c0<=b.st)/\c=⟨max a.st b.st,Ei p a.v b.v⟩))
 | [],[],[],r,h=>by
  cases h;exact ⟨rfl,rfl,rfl,fun t c e=>by simp at e⟩
 | x :: d,a :: l,b :: m,r,h=>by
  simp only [xB] at h;split at h
  .cases h
  .rename_i q hq;obtain ⟨h1,h2,h3,j⟩:=Fx d l m q hq;split at h
   .rename_i f;cases h;simp only [aF,kX] at f;refine ⟨by simp [h1],by simp [h2],by simp [h3],fun t c e=>?_⟩
    cases t with
    | zero=>simp at e;subst e;exact ⟨x,a,b,rfl,rfl,rfl,.inl ⟨f.1,f.2,rfl⟩⟩
    | succ t=>simpa using j t c (by simpa using e)
   .rename_i f;cases h;refine ⟨by simp [h1],by simp [h2],by simp [h3],fun t c e=>?_⟩
    cases t with
    | zero=>
     simp at e;subst e;refine ⟨x,a,b,rfl,rfl,rfl,.inr ⟨?_,rfl⟩⟩;rw [kQ] at f;rcases aX a.st c0 with g|g
     .rcases aX b.st c0 with i|i
      .exact absurd (by simp [g,i]) f
      .exact .inr i
     .exact .inl g
    | succ t=>simpa using j t c (by simpa using e)
 | [],[],_ :: _,_,h=>by simp [xB] at h
 | [],_ :: _,_,_,h=>by simp [xB] at h
 | _ :: _,[],_,_,h=>by simp [xB] at h
 | _ :: _,_ :: _,[],_,h=>by simp [xB] at h
theorem Av {p:Bool}:∀ (l m r:List ABlk),u6 p l m=some r->r.length=l.length/\m.length=l.length /\
  ∀ (t:Nat) (c:ABlk),r[t]?=some c->∃ (a b:ABlk) (d:ABody),l[t]?=some a/\m[t]?=some b/\l8 p none a.body b.body=some d/\c=⟨max a.wr b.wr,d⟩
 | [],[],r,h=>by
  cases h;exact ⟨rfl,rfl,fun t c e=>by simp at e⟩
 | a :: l,b :: m,r,h=>by
  simp only [u6] at h;split at h
  .cases h
  .rename_i q hq;obtain ⟨h1,h2,f⟩:=Av l m q hq;split at h
   .cases h
   .rename_i d hd;cases h;refine ⟨by simp [h1],by simp [h2],fun t c e=>?_⟩
    cases t with
    | zero=>simp at e;subst e;exact ⟨a,b,d,rfl,rfl,hd,rfl⟩
    | succ t=>simpa using f t c (by simpa using e)
 | [],_ :: _,_,h=>by simp [u6] at h
 | _ :: _,[],_,h=>by simp [u6] at h
theorem Aw {c0:Nat} {p:Bool}:∀ (f l m r:List ABlk),qg c0 p f l m=some r->r.length=f.length/\l.length=f.length/\m.length=f.length /\
  ∀ (t:Nat) (c:ABlk),r[t]?=some c->∃ x a b:ABlk,f[t]?=some x/\l[t]?=some a/\m[t]?=some b/\((a.wr<c0/\b.wr<c0/\c=x)\/((c0<=a.wr\/c0<=b.wr)/\∃ d,l8 p (some x.body) a.body b.body=some d/\c=⟨max a.wr b.wr,d⟩))
 | [],[],[],r,h=>by
  cases h;exact ⟨rfl,rfl,rfl,fun t c e=>by simp at e⟩
 | x :: f,a :: l,b :: m,r,h=>by
  simp only [qg] at h;split at h
  .cases h
  .rename_i q hq;obtain ⟨h1,h2,h3,k⟩:=Aw f l m q hq;split at h
   .rename_i g;cases h;simp only [aF,kX] at g;refine ⟨by simp [h1],by simp [h2],by simp [h3],fun t c e=>?_⟩
    cases t with
    | zero=>simp at e;subst e;exact ⟨x,a,b,rfl,rfl,rfl,.inl ⟨g.1,g.2,rfl⟩⟩
    | succ t=>simpa using k t c (by simpa using e)
   .rename_i g;split at h
    .cases h
    .rename_i d hd;cases h;refine ⟨by simp [h1],by simp [h2],by simp [h3],fun t c e=>?_⟩
     cases t with
     | zero=>
      simp at e;subst e;refine ⟨x,a,b,rfl,rfl,rfl,.inr ⟨?_,d,hd,rfl⟩⟩;rw [kQ] at g;rcases aX a.wr c0 with i|i
      .rcases aX b.wr c0 with j|j
       .exact absurd (by simp [i,j]) g
       .exact .inr j
      .exact .inl i
     | succ t=>simpa using k t c (by simpa using e)
 | [],[],_ :: _,_,h=>by simp [qg] at h
 | [],_ :: _,_,_,h=>by simp [qg] at h
 | _ :: _,[],_,_,h=>by simp [qg] at h
 | _ :: _,_ :: _,[],_,h=>by simp [qg] at h
theorem Hy {α:Type}:∀ (n:Nat) (l m:List α),iK n l=some m->m=l.take n/\m.length=n
 | 0,l,m,h=>by cases h;simp
 | n+1,[],m,h=>by simp [iK] at h
 | n+1,a :: l,m,h=>by
  simp only [iK] at h;split at h
  .cases h
  .rename_i r b;cases h;obtain ⟨h1,h2⟩:=Hy n l r b;exact ⟨by simp [h1],by simp [h2]⟩
theorem Ol {c0:Nat} {p:Bool} {n k:Nat} (H:k<=n) {j t w h:List ABlk} (I:j.length=k) (e:Q3 c0 p (n - k) j t w=some h):
  h.length=n/\∀ (i:Nat) (c:ABlk),i<n->h[n - 1 - i]?=some c->∃ a b:ABlk,t[n - 1 - i]?=some a/\w[n - 1 - i]?=some b /\
   ((k<=i/\∃ d,l8 p none a.body b.body=some d/\c=⟨max a.wr b.wr,d⟩) ∨
    (i<k/\∃ x,j[k - 1 - i]?=some x/\((a.wr<c0/\b.wr<c0/\c=x)\/((c0<=a.wr\/c0<=b.wr)/\∃ d,l8 p (some x.body) a.body b.body=some d/\c=⟨max a.wr b.wr,d⟩)))):=by
 unfold Q3 at e;split at e
 .cases e
 .rename_i J l;split at e
  .cases e
  .rename_i K m;split at e
   .cases e
   .rename_i u y;split at e
    .cases e
    .rename_i v z;rw [LV] at e;cases e;obtain ⟨rfl,f⟩:=Hy _ _ _ l;obtain ⟨rfl,A⟩:=Hy _ _ _ m;obtain ⟨o,L,D⟩:=Av _ _ _ y;obtain ⟨v1,E,F,q⟩:=Aw _ _ _ _ z;rw [nU] at E q;rw [nU] at F q;refine ⟨by simp [v1,o,f];omega,fun i c hi g=>?_⟩;rw [f] at o;by_cases r:k<=i
     .rw [kJ (by omega)] at g;obtain ⟨a,b,d,h1,h2,h3,s⟩:=D _ c g;rw [jL] at h1 h2;rw [aC (by omega)] at h1 h2;exact ⟨a,b,h1,h2,.inl ⟨r,d,h3,s⟩⟩
     .rw [mP (by omega),o,show n - 1 - i - (n - k)=k - 1 - i by omega] at g;obtain ⟨x,a,b,h1,h2,h3,s⟩:=q _ c g;rw [ig,show n - k+(k - 1 - i)=n - 1 - i by omega] at h2 h3;exact ⟨a,b,h2,h3,.inr ⟨by omega,x,h1,s⟩⟩
theorem L9 {a b:LoopState} (h:JZ a b=true):a=b:=by cases a <;> cases b <;> first|rfl|cases h
theorem Om {a b:Option Code} (h:GY a b=true):a=b:=by
 unfold GY at h;split at h
 .rfl
 .rfl
 .rename_i i j;rw [aP h]
 .cases h
def ABody.flat:ABody->Bool
 | .loop _=>false
 | .map _=>false
 | .view _=>false
 | .hold _=>false
 | .rows _ _=>false
 | _=>true
theorem Hz {τ:Sg} {p:Bool} {k:Option ABody} (g:∀ c,k≠some (.loop c)) {a b d:ABody} {N:Nat} {o:Obj} (e:l8 p k a b=some d) (hd:d.isDead=false)
  (ha:p=true->a.flat=true->BRel τ N a o) (hb:p=false->b.flat=true->BRel τ N b o):BRel τ N d o:=by
 unfold l8 at e;split at e
 .exact absurd rfl (g _)
 .split at e
  .split at e
   .split at e
    .cases e;cases hd
    .rename_i l m r f;cases e;cases p
     .obtain ⟨K,t,h1,h2,h3⟩:=hb rfl rfl;exact ⟨K,t,h1,jw false _ _ _ _ f (fun h=>by cases h) (fun _=>h2),h3⟩
     .obtain ⟨K,t,h1,h2,h3⟩:=ha rfl rfl;exact ⟨K,t,h1,jw true _ _ _ _ f (fun _=>h2) (fun h=>by cases h),h3⟩
   .cases e;cases hd
  .split at e
   .split at e
    .cases e;cases hd
    .rename_i l m r f;cases e;cases p
     .obtain ⟨K,t,X,Y,h1,h2,h3,i⟩:=hb rfl rfl;exact ⟨K,t,X,Y,h1,h2,jw false _ _ _ _ f (fun h=>by cases h) (fun _=>h3),i⟩
     .obtain ⟨K,t,X,Y,h1,h2,h3,i⟩:=ha rfl rfl;exact ⟨K,t,X,Y,h1,h2,jw true _ _ _ _ f (fun _=>h3) (fun h=>by cases h),i⟩
   .cases e;cases hd
  .split at e
   .split at e
    .rename_i j;subst j;cases e;cases p
     .exact hb rfl rfl
     .exact ha rfl rfl
    .cases e;cases hd
   .cases e;cases hd
  .split at e
   .split at e
    .rename_i j;subst j;cases e;cases p
     .exact hb rfl rfl
     .exact ha rfl rfl
    .cases e;cases hd
   .cases e;cases hd
  .cases e;cases hd
theorem Oo {p:Bool} {c:Option ABody} {a b d:ABody} (e:l8 p c a b=some d) (hd:d.isDead=false):(p=true->a.isDead=false)/\(p=false->b.isDead=false):=by
 unfold l8 at e;split at e
 .split at e
  .split at e
   .exact ⟨fun _=>rfl,fun _=>rfl⟩
   .cases e
  .cases e
 .split at e
  .split at e
   .exact ⟨fun _=>rfl,fun _=>rfl⟩
   .cases e;cases hd
  .split at e
   .exact ⟨fun _=>rfl,fun _=>rfl⟩
   .cases e;cases hd
  .split at e
   .split at e
    .cases e;exact ⟨fun hp=>by subst hp;exact hd,fun hp=>by subst hp;exact hd⟩
    .cases e;cases hd
   .cases e;cases hd
  .split at e
   .exact ⟨fun _=>rfl,fun _=>rfl⟩
   .cases e;cases hd
  .cases e;cases hd
theorem Mc {p:Bool} {c:Option ABody} {a b d:ABody} (e:l8 p c a b=some d) (hd:d.isDead=false):a.isView=false/\b.isView=false:=by
 unfold l8 at e;split at e
 .split at e
  .split at e
   .exact ⟨rfl,rfl⟩
   .cases e
  .cases e
 .split at e
  .split at e
   .exact ⟨rfl,rfl⟩
   .cases e;cases hd
  .split at e
   .exact ⟨rfl,rfl⟩
   .cases e;cases hd
  .split at e
   .exact ⟨rfl,rfl⟩
   .cases e;cases hd
  .split at e
   .exact ⟨rfl,rfl⟩
   .cases e;cases hd
  .cases e;cases hd
theorem Sg.low_all {σ:Sg} {n:Nat} (dom:∀ i B N,σ i=some (B,N)->i<n):σ.low n=σ:=by
 funext i;unfold Sg.low;split
 .rfl
 .rename_i h
  cases e:σ i with
  | none=>rfl
  | some x=>exact absurd (dom i _ _ e) h
theorem VRels.mem {σ:Sg}:∀ {l:List AV} {L:List Value},VRels σ l L->∀ a∈l,∃ u,VRel σ a u
 | [],_,_,a,h=>by cases h
 | b :: l,L,⟨v,E,e,r,s⟩,a,h=>by
  rcases aN.1 h with rfl|h
  .exact ⟨v,r⟩
  .exact VRels.mem s a h
theorem VRels.of_mem {σ:Sg}:∀ {l:List AV},(∀ a∈l,∃ u,VRel σ a u)->∃ L,VRels σ l L
 | [],_=>⟨[],rfl⟩
 | a :: l,h=>by
  obtain ⟨v,E⟩:=h a (by simp);obtain ⟨L,J⟩:=VRels.of_mem (l:=l) fun b hb=>h b (jJ _ hb);exact ⟨v :: L,v,L,rfl,E,J⟩
theorem BRel.names {σ τ:Sg} {n N0 N:Nat} (dom:∀ i B N,σ i=some (B,N)->i<n) (s:Sub σ τ) {b:ABody} {o p:Obj} (h:BRel σ N0 b o) (k:BRel τ N b p):BRel (τ.low n) N b p:=by
 cases b with
 | dead=>trivial
 | cells l=>obtain ⟨_,_,_,h2,_⟩:=h;obtain ⟨K,e,k1,k2,O⟩:=k;exact ⟨K,e,k1,VRels.names dom s _ _ _ h2 k2,O⟩
 | view l=>obtain ⟨_,_,_,_,h2⟩:=h;obtain ⟨K,e,fr,k1,k2⟩:=k;exact ⟨K,e,fr,k1,VRels.names dom s _ _ _ h2 k2⟩
 | hold l=>obtain ⟨_,_,_,_,h2⟩:=h;obtain ⟨K,e,fr,k1,k2⟩:=k;exact ⟨K,e,fr,k1,VRels.names dom s _ _ _ h2 k2⟩
 | grown l=>obtain ⟨_,_,_,_,_,_,h2,_⟩:=h;obtain ⟨K,e,X,Y,k1,k2,O,k4⟩:=k;exact ⟨K,e,X,Y,k1,k2,VRels.names dom s _ _ _ h2 O,k4⟩
 | ints q xs=>exact k
 | rows q xs=>exact k
 | map es=>
  obtain ⟨_,_,Q,_,hp,_,h1,h2⟩:=h;obtain ⟨E,c,J,k1,kp,kn,k2,O⟩:=k;have pp:J.Perm Q:=kp.trans hp.symm;obtain ⟨L1,g1⟩:=VRels.of_mem (σ:=σ) (l:=J.map (·.1)) fun a ha=>VRels.mem h1 a ((pp.map _).mem_iff.1 ha);obtain ⟨L2,g2⟩:=VRels.of_mem (σ:=σ) (l:=J.map (·.2)) fun a ha=>VRels.mem h2 a ((pp.map _).mem_iff.1 ha);exact ⟨E,c,J,k1,kp,kn,VRels.names dom s _ _ _ g1 k2,VRels.names dom s _ _ _ g2 O⟩
 | loop r=>
  obtain ⟨_,_,_,_,_,h4,_,_,_,M0,h8⟩:=h;obtain ⟨L,k1,k2,O,k4,k5,k6,k7,k8,M,k9⟩:=k;exact ⟨L,k1,k2,O,k4,VRels.names dom s _ _ _ h4 k5,k6,k7,k8,M,by simp [Sg.low,dom _ _ _ h8,k9]⟩
 | defers t=>exact k
theorem Oq (n:Nat):∀ (l:List AT) (t:Nat),(Vw n l)[t]?=(l[t]?).map fun a=>⟨a.st,a.v.cut n⟩
 | [],t=>by simp [Vw]
 | a :: l,0=>by simp [Vw]
 | a :: l,t+1=>by simpa [Vw] using Oq n l t
theorem TV (n:Nat):∀ (k:Nat) (l:List ABlk),Vx n k l=(l.drop k).map fun b=>⟨b.wr,b.body.cut n⟩
 | 0,l=>by simp [Vx]
 | k+1,[]=>by simp [Vx]
 | k+1,a :: l=>by simpa [Vx] using TV n k l
theorem BRel.cut {σ:Sg} {n N:Nat} {b:ABody} {o:Obj} (h:BRel σ N b o) (E:b.flat=true):BRel (σ.low n) N (b.cut n) o:=by
 cases b with
 | dead=>trivial
 | cells l=>obtain ⟨K,e,h1,h2,h3⟩:=h;exact ⟨K,e,h1,VRels.cut _ _ h2,h3⟩
 | grown l=>obtain ⟨K,e,X,Y,h1,h2,h3,J⟩:=h;exact ⟨K,e,X,Y,h1,h2,VRels.cut _ _ h3,J⟩
 | ints k xs=>exact h
 | map es=>cases E
 | view l=>cases E
 | hold l=>cases E
 | rows k xs=>cases E
 | loop r=>cases E
 | defers t=>exact h
structure CutOk (σ:Sg) (n:Nat) (s:St):Prop where
 t:∀ (t:Nat) (c:AT),(Ap n s).1[t]?=some c->∃ c',s.tmps[t]?=some c'/\c'.st=c.st/\∀ V,VRel σ c'.v V->VRel (σ.low n) c.v V
 h:∀ (i:Nat) (c:ABlk),i<n->(Ap n s).2[n - 1 - i]?=some c->∃ c',s.hp.get i=some c'/\c'.wr=c.wr/\c'.body.isDead=c.body.isDead/\c'.body.flat=c.body.flat/\(c.body.flat=false->c=c') /\
  ∀ N o,c.body.flat=true->BRel σ N c'.body o->BRel (σ.low n) N c.body o
theorem X5 (n:Nat) (b:ABody):(b.cut n).flat=b.flat/\(b.cut n).isDead=b.isDead/\(b.flat=false->b.cut n=b):=by cases b <;> exact ⟨rfl,rfl,fun h=>by first|rfl|cases h⟩
theorem ai6 {σ:Sg} {n:Nat} {s:St} {T:Array Value} {D:List Deferred} {W:World} (r:SRel σ s T D W) (hn:n<=s.hp.size):CutOk σ n s:=by
 cases b:Nat.beq s.hp.size n with
 | true=>
  have e:=aP b;have j:σ.low n=σ:=Sg.low_all fun i B N h=>by rw [<- e];exact (r.h.dom i B N h).1
  constructor
  .intro t c h;simp only [Ap,b] at h;exact ⟨c,h,rfl,fun V d=>by rw [j];exact d⟩
  .intro i c hi h;simp only [Ap,b] at h;refine ⟨c,?_,rfl,rfl,rfl,fun _=>rfl,fun N o _ hb=>by rw [j];exact hb⟩;rw [Hp.get_eq,e,aC hi];exact h
 | false=>
  constructor
  .intro t c h;simp only [Ap,b] at h;rw [Oq] at h
   cases h1:s.tmps[t]? with
   | none=>rw [h1] at h;cases h
   | some a=>
    rw [h1] at h;cases h;exact ⟨a,rfl,rfl,fun V d=>VRel.cut _ _ d⟩
  .intro i c hi h;simp only [Ap,b] at h;rw [TV,rG,ig,show s.hp.size - n+(n - 1 - i)=s.hp.size - 1 - i by omega] at h
   cases h1:s.hp.blks[s.hp.size - 1 - i]? with
   | none=>rw [h1] at h;cases h
   | some a=>
    rw [h1] at h;cases h;obtain ⟨f,k,f3⟩:=X5 n a.body;refine ⟨a,?_,rfl,k.symm,f.symm,fun g=>?_,fun N o g hb=>BRel.cut hb (by rw [<- f];exact g)⟩
    .rw [Hp.get_eq,aC (by omega)];exact h1
    .have:=f3 (by rw [<- f];exact g);show (⟨a.wr,ABody.cut n a.body⟩:ABlk)=a;rw [this]
theorem wE {σ:Sg} {n:Nat} {i:Nat} {x:Nat×Nat} (h:σ.low n i=some x):i<n/\σ i=some x:=by
 unfold Sg.low at h;split at h
 .exact ⟨by assumption,h⟩
 .cases h
theorem wF {H:Nat->Prop} {P:Sg} {s0:St} {T0:Array Value} {D0:List Deferred} {W0:World} (r0:SRel P s0 T0 D0 W0) {p:Bool} {a b m:St} (e:qX s0 p a b=some m) {σ:Sg} {T:Array Value} {D:List Deferred} {W:World}
  (ra:p=true->SRel σ a T D W/\StepH H P s0 W0 σ a W) (rb:p=false->SRel σ b T D W/\StepH H P s0 W0 σ b W):∃ τ,SRel τ m T D W/\StepH H P s0 W0 τ m W:=by
 unfold qX at e;simp only at e;split at e
 .cases e
 split at e
 .cases e
 .rename_i F;simp only [aF,iT] at F;obtain ⟨⟨hn,K⟩,a4⟩:=F;have K:=ug _ _ K;split at e
  .cases e
  .rename_i t ht;split at e
   .cases e
   .rename_i h hh;cases e;generalize hN:Nat.min a.hp.size b.hp.size=n at *
    have bd:n<=a.hp.size:=by rw [<- hN];exact Nat.min_le_left _ _
    have be:n<=b.hp.size:=by rw [<- hN];exact Nat.min_le_right _ _
    obtain ⟨t1,t2,t3,t4⟩:=Fx _ _ _ _ ht;obtain ⟨g1,g2⟩:=Ol hn r0.h.ok hh;obtain ⟨E,k⟩:∃ E,E=bif p then a else b:=⟨_,rfl⟩;have hr:SRel σ E T D W/\StepH H P s0 W0 σ E W:=by
     cases p
     .rw [k];exact rb rfl
     .rw [k];exact ra rfl
    obtain ⟨r,st⟩:=hr;have ai:n<=E.hp.size:=by cases p <;> (rw [k];assumption)
    have cu:=ai6 r ai;have al:Sub P (σ.low n):=fun i x hx=>by
     have h1:=st.good.sub i x hx;have h2:=(r0.h.dom i _ _ hx).1;unfold Sg.low;rw [aC (by omega)];exact h1
    have af:∀ i c,(⟨h,n,max a.hp.clock b.hp.clock⟩:Hp).get i=some c->i<n/\h[n - 1 - i]?=some c:=by
     intro i c hi;rw [Hp.get_eq] at hi;by_cases q:i<n
     .rw [aC q] at hi;exact ⟨q,hi⟩
     .rw [aB q] at hi;cases hi
    have A:∀ i c,(⟨h,n,max a.hp.clock b.hp.clock⟩:Hp).get i=some c->∃ x,E.hp.get i=some x/\(c.wr<s0.hp.clock->i<s0.hp.size->x.wr<s0.hp.clock)/\(i<s0.hp.size->x.wr<s0.hp.clock/\s0.hp.get i=some c\/s0.hp.clock<=c.wr) /\
      (c.body.isDead=false->x.body.isDead=false/\∀ N B o,σ i=some (B,N)->BRel σ N x.body o->W.heap[B]?=some o->BRel (σ.low n) N c.body o)/\(c.body.isDead=false->x.body.isView=true->c.body.isView=true)/\(s0.hp.clock<=x.wr->i<s0.hp.size->s0.hp.clock<=c.wr):=by
     intro i c F;obtain ⟨q,F⟩:=af i c F;obtain ⟨xa,xb,a5,a6,f⟩:=g2 i c q F;obtain ⟨Q,g⟩:∃ Q,Q=bif p then xa else xb:=⟨_,rfl⟩;have aa:(Ap n E).2[n - 1 - i]?=some Q:=by
      cases p
      .rw [k,g];exact a6
      .rw [k,g];exact a5
     obtain ⟨x,x1,x2,x3,x4,x5,x6⟩:=cu.h i Q q aa;have aj:Q.wr=xa.wr\/Q.wr=xb.wr:=by cases p <;> simp [g]
     have pa:∀ {N:Nat} {o:Obj},BRel σ N x.body o->p=true->xa.body.flat=true->BRel (σ.low n) N xa.body o:=fun hb hp hf=>by
      subst hp;simp at g;subst g;exact x6 _ _ hf hb
     have pb:∀ {N:Nat} {o:Obj},BRel σ N x.body o->p=false->xb.body.flat=true->BRel (σ.low n) N xb.body o:=fun hb hp hf=>by
      subst hp;simp at g;subst g;exact x6 _ _ hf hb
     have ag:∀ {b0 d},l8 p b0 xa.body xb.body=some d->d.isDead=false->x.body.isDead=false:=fun hd s=>by
      obtain ⟨l1,l2⟩:=Oo hd s;rw [x3];cases p
      .rw [g];exact l2 rfl
      .rw [g];exact l1 rfl
     have ab:∀ {b0 d},l8 p b0 xa.body xb.body=some d->d.isDead=false->x.body.isView=true->d.isView=true:=fun hd s Y=>by
      obtain ⟨l1,l2⟩:=Mc hd s;have an:Q.body.isView=false:=by
       cases p
       .rw [g];exact l2
       .rw [g];exact l1
      have hf:x.body.flat=false:=by
       unfold ABody.isView at Y;split at Y
       .rename_i l hb;rw [hb];rfl
       .rename_i l hb;rw [hb];rfl
       .rename_i l hb;rw [hb];rfl
       .cases Y
      have:=x5 (by rw [<- x4];exact hf);rw [this,Y] at an;cases an
     refine ⟨x,x1,?_⟩;rcases f with ⟨hk,d,hd,rfl⟩|⟨hk,y,hy,f⟩
     .refine ⟨fun _ hi=>absurd hi (eP.2 hk),fun hi=>absurd hi (eP.2 hk),fun s=>⟨ag hd s,fun N B o _ hb _=>Hz (by simp) hd s (pa hb) (pb hb)⟩,fun s Y=>ab hd s Y,fun _ hi=>absurd hi (eP.2 hk)⟩
     .have O:s0.hp.get i=some y:=by rw [Hp.get_eq,aC hk];exact hy
      rcases f with ⟨w1,w2,rfl⟩|⟨w,d,hd,rfl⟩
      .-- ao bf written
       have ap:x.wr<s0.hp.clock:=by rcases aj with h1|h1 <;> omega
       have a7:x=c:=by
        rcases st.good.mon.same i c x O x1 with h1|h1
        .exact h1
        .omega
       subst a7;refine ⟨fun _ _=>ap,fun _=>.inl ⟨ap,O⟩,fun s=>⟨s,fun N B o hB hb ho=>?_⟩,fun _ Y=>Y,fun h1 _=>by omega⟩;obtain ⟨B0,N0,o0,X,q2,q3⟩:=r0.h.blk i x O s;exact BRel.names (fun i B N h=>dZ (r0.h.dom i B N h).1 hn) st.good.sub q3 hb
      .refine ⟨fun h1 _=>by rcases aj with h2|h2 <;> (simp only at h1;omega),fun _=>.inr (by simp only;omega),fun s=>⟨ag hd s,fun N B o hB hb ho=>?_⟩,fun s Y=>ab hd s Y,fun h1 _=>by rcases aj with h2|h2 <;> (simp only;omega)⟩;by_cases aq:∃ L,y.body=.loop L
       .obtain ⟨L,hL⟩:=aq;obtain ⟨yw,yb⟩:=y;simp only at hL;subst hL;obtain ⟨w',s',ar,au⟩:=st.good.mon.loop i yw L O;rw [x1] at au;cases au;simp only [l8] at hd;split at hd
        .rename_i u hu;split at hd
         .rename_i v Y;split at hd
          .rename_i hs;simp only [aF] at hs;have e1:=L9 hs.1;have e2:=Om hs.2;cases hd;have ac:Q.body=.loop { L with state:=s',pending:=ar }:=by
            have:=x5 (by rw [<- x4];rfl);rw [this]
           have aw:u.state=s'/\u.pending=ar:=by
            cases p
            .simp at g;subst g;rw [Y] at ac;cases ac;exact ⟨e1,e2⟩
            .simp at g;subst g;rw [hu] at ac;cases ac;exact ⟨rfl,rfl⟩
           obtain ⟨B0,N0,o0,X,q2,L0,rfl,_,_,_,c4,_,_,_,M0,c9⟩:=r0.h.blk i _ O rfl;obtain ⟨L1,rfl,d1,d2,d3,d4,d5,d6,d7,M1,d8⟩:=hb;refine ⟨L1,rfl,by rw [d1,aw.1],by rw [d2,aw.2],d3,?_,d5,d6,d7,M1,?_⟩
           .exact VRels.names (fun i B N h=>dZ (r0.h.dom i B N h).1 hn) st.good.sub _ _ _ c4 d4
           .have:=(r0.h.dom _ _ _ c9).1;unfold Sg.low;rw [aC (by simp only at this ⊢;omega)];exact d8
          .cases hd
         .cases hd
        .cases hd
       .exact Hz (fun c F=>aq ⟨c,by injection F⟩) hd s (pa hb) (pb hb)
    refine ⟨σ.low n,⟨?_,?_,⟨g1,?_,?_,?_⟩⟩,⟨⟨al,?_,st.good.ext,⟨?_,hn,?_,?_⟩,?_,?_⟩,?_,?_⟩⟩
    .-- a8 ae
     have ax:T.size=s0.tmps.length:=by have h1:=VRels.length r.t;have h2:=st.tm.len;simp at h1;omega
     have build:∀ (l:List AT) (L:List Value),l.length=L.length->(∀ (j:Nat) (c:AT) (V:Value),l[j]?=some c->L[j]?=some V->VRel (σ.low n) c.v V)->VRels (σ.low n) (l.map (·.v)) L:=by
      intro l
      induction l with
      | nil=>intro L s _;cases L with|nil=>rfl|cons _ _=>simp at s
      | cons c l ih=>
       intro L s hj
       cases L with
       | nil=>simp at s
       | cons V L=>exact ⟨V,L,rfl,hj 0 c V rfl rfl,ih L (by simpa using s) fun j c V h1 h2=>hj (j+1) c V (by simpa using h1) (by simpa using h2)⟩
     refine build t T.toList (by simp [t1,ax]) fun j c V h1 h2=>?_;obtain ⟨x,xa,xb,X,q2,q3,f⟩:=t4 j c h1;obtain ⟨Q,g⟩:∃ Q,Q=bif p then xa else xb:=⟨_,rfl⟩;have aa:(Ap n E).1[j]?=some Q:=by
      cases p
      .rw [k,g];exact q3
      .rw [k,g];exact q2
     obtain ⟨z,z1,z2,z3⟩:=cu.t j Q aa;have hz:VRel σ z.v V:=by
      obtain ⟨V',v1,v2⟩:=r.t.nth (t:=j) (a:=z) (by rw [iX];exact z1);have:T.toList[j]?=some V':=by simpa using v1
      rw [h2] at this;cases this;exact v2
     rcases f with ⟨w1,w2,rfl⟩|⟨w,rfl⟩
     .have bg:z.st<s0.hp.clock:=by rw [z2];cases p <;> simp [g] <;> omega
      have a9:z=c:=by
       rcases st.tm.same j z z1 with h3|h3
       .rw [X] at h3;cases h3;rfl
       .omega
      subst a9;obtain ⟨V0,v1,v2⟩:=r0.t.nth (t:=j) (a:=z) (by rw [iX];exact X);exact VRel.names (fun i B N h=>dZ (r0.h.dom i B N h).1 hn) st.good.sub _ _ _ v2 hz
     .refine ww p _ _ _ (fun hp=>?_) (fun hp=>?_)
      .subst hp;simp at g;subst g;exact z3 _ hz
      .subst hp;simp at g;subst g;exact z3 _ hz
    .-- a8 ak ba
     have hd:E.defs=a.defs:=by cases p <;> rw [k] <;> simp [K]
     have h1:=r.d;rw [hd] at h1;exact DRel.low a4 h1
    .intro i c F hd;obtain ⟨x,x1,_,_,x4,_⟩:=A i c F;obtain ⟨x5,x6⟩:=x4 hd;obtain ⟨B,N,o,X,q2,q3⟩:=r.h.blk i x x1 x5;exact ⟨B,N,o,by unfold Sg.low;rw [aC (af i c F).1];exact X,q2,x6 N B o X q3 q2⟩
    .intro i B N hi;obtain ⟨h1,h2⟩:=wE hi;exact ⟨h1,(r.h.dom i B N h2).2⟩
    .intro i j c d B N M F hd ay az h1 h2;obtain ⟨x,x1,_,_,x4,x9,_⟩:=A i c F;obtain ⟨y,y1,_,_,y4,y9,_⟩:=A j d hd;exact (r.h.inj i j x y B N M x1 y1 (x4 ay).1 (y4 az).1 (wE h1).2 (wE h2).2).imp_right fun h=>⟨x9 ay h.1,y9 az h.2⟩
    .intro i x hi q;exact st.good.only i x (wE hi).2 q
    .have:=st.good.mon.clock;show s0.hp.clock<=max a.hp.clock b.hp.clock;cases p <;> rw [k] at this <;> simp at this <;> omega
    .intro i y c hy F;obtain ⟨x,x1,x2,x3,_,_⟩:=A i c F;rcases x3 (Hp.get_lt hy) with ⟨_,h1⟩|h1
     .rw [hy] at h1;cases h1;exact .inl rfl
     .exact .inr h1
    .intro i w c hy;have q:=Hp.get_lt hy;have ah:i<n:=dZ q hn;obtain ⟨d,hd⟩:∃ d,h[n - 1 - i]?=some d:=⟨_,dh (by rw [g1];omega)⟩;have I:(⟨h,n,max a.hp.clock b.hp.clock⟩:Hp).get i=some d:=by rw [Hp.get_eq,aC ah];exact hd
     obtain ⟨xa,xb,_,_,f⟩:=g2 i d ah hd;rcases f with ⟨hk,_⟩|⟨hk,y,O,f⟩
     .omega
     .have a3:s0.hp.get i=some y:=by rw [Hp.get_eq,aC hk];exact O
      rw [hy] at a3;cases a3;rcases f with ⟨_,_,rfl⟩|⟨_,d',J,rfl⟩
      .exact ⟨w,c.state,c.pending,I⟩
      .simp only [l8] at J;split at J
       .split at J
        .split at J
         .cases J;exact ⟨_,_,_,I⟩
         .cases J
        .cases J
       .cases J
    .intro i B N hi hs hB;obtain ⟨h1,h2⟩:=wE hi;refine (st.good.old i B N h2 hs hB).imp id ?_
     rintro ⟨j,M,c,X,q2,q3,q4⟩
     have bb:j<n:=dZ X hn;obtain ⟨d,hd⟩:∃ d,h[n - 1 - j]?=some d:=⟨_,dh (by rw [g1];omega)⟩;have I:(⟨h,n,max a.hp.clock b.hp.clock⟩:Hp).get j=some d:=by rw [Hp.get_eq,aC bb];exact hd
     obtain ⟨x,x1,_,_,_,_,x5⟩:=A j d I;rw [q3] at x1;cases x1;exact ⟨j,M,d,X,q2,I,x5 q4 X⟩
    .intro B hB hH hw;refine st.good.keep B hB hH fun i N c hi hg=>?_;have q:=(r0.h.dom i B N hi).1;have bc:i<n:=dZ q hn;obtain ⟨d,hd⟩:∃ d,h[n - 1 - i]?=some d:=⟨_,dh (by rw [g1];omega)⟩;have I:(⟨h,n,max a.hp.clock b.hp.clock⟩:Hp).get i=some d:=by rw [Hp.get_eq,aC bc];exact hd
     obtain ⟨x,x1,x2,_,_,_⟩:=A i d I;rw [hg] at x1;cases x1;exact x2 (hw i N d hi I) q
    .exact t1
    .intro j c F;obtain ⟨x,xa,xb,X,_,_,f⟩:=t4 j c F;rcases f with ⟨_,_,rfl⟩|⟨w,rfl⟩
     .exact .inl X
     .exact .inr (by simp only;omega)
theorem Fy {c:Sg} {s0:St} {f:Array Value} {g:List Deferred} {d:World} (r0:SRel c s0 f g d) {p:Bool} {a b m:St} (e:qX s0 p a b=some m) {σ:Sg} {T:Array Value} {D:List Deferred} {W:World}
  (ra:p=true->SRel σ a T D W/\Step c s0 d σ a W) (h:p=false->SRel σ b T D W/\Step c s0 d σ b W):∃ τ,SRel τ m T D W/\Step c s0 d τ m W:=wF r0 e ra h
end Go.Eng
namespace Go.Eng
inductive Via (s0:St):St->St->Prop where
 | refl (s:St):Via s0 s s
 | left {s b t u:St}:qX s0 true s b=some t->Via s0 t u->Via s0 s u
 | right {s a t u:St}:qX s0 false a s=some t->Via s0 t u->Via s0 s u
theorem Via.trans {s0 a b c:St} (h:Via s0 a b) (k:Via s0 b c):Via s0 a c:=by
 induction h with
 | refl=>exact k
 | left e _ E=>exact .left e (E k)
 | right e _ E=>exact .right e (E k)
theorem X6 {H:Nat->Prop} {a:Sg} {s0:St} {g:Array Value} {i:List Deferred} {c:World} (r0:SRel a s0 g i c) {s s':St} (v:Via s0 s s'):∀ {σ:Sg} {T:Array Value} {D:List Deferred} {W:World},
  SRel σ s T D W->StepH H a s0 c σ s W->∃ τ,SRel τ s' T D W/\StepH H a s0 c τ s' W:=by
 induction v with
 | refl s=>intro σ T D W r st;exact ⟨σ,r,st⟩
 | left e _ d=>
  intro σ T D W r st;obtain ⟨τ,f,b⟩:=wF r0 e (σ:=σ) (T:=T) (D:=D) (W:=W) (fun _=>⟨r,st⟩) (fun h=>by cases h);exact d f b
 | right e _ d=>
  intro σ T D W r st;obtain ⟨τ,f,b⟩:=wF r0 e (σ:=σ) (T:=T) (D:=D) (W:=W) (fun h=>by cases h) (fun _=>⟨r,st⟩);exact d f b
def One (l:List Ent) (e:Ent):Prop:=l.filter (fun e=>e.g.val)=[e]
def Non (l:List Ent):Prop:=l.filter (fun e=>e.g.val)=[]
def Got (s0:St) (l:List Ent) (x:Ex) (s:St):Prop:=∃ e,One l e/\e.x=x/\Via s0 s e.s
theorem Kc {a b:Ex} (h:Lp a b=true):a=b:=by
 unfold Lp at h;split at h
 .rfl
 .rfl
 .rw [aP h]
 .rw [aP h]
 .rw [ve _ _ h]
 .cases h
@[simp] theorem G.val_and (p:Bool) (g:G):(g.and p).val=(p&&g.val):=by cases g <;> simp [G.and,G.val]
@[simp] theorem G.val_andG (g h:G):(g.andG h).val=(g.val&&h.val):=by cases g <;> cases h <;> simp [G.andG,G.and,G.val]
@[simp] theorem G.val_or (g h:G):(G.or g h).val=(g.val||h.val):=by cases g <;> cases h <;> simp [G.or,G.val]
@[simp] theorem G.val_ite (p:Bool) (g h:G):(G.ite p g h).val=(bif p then g.val else h.val):=by cases g <;> cases h <;> cases p <;> simp [G.ite,G.val]
theorem an1 {s0:St} {l:List Ent} {x:Ex} {s:St} (h:Got s0 l x s):Got s0 (BD l) x s:=by
 obtain ⟨e,h1,h2,h3⟩:=h;unfold BD;split
 .rename_i f;have:f=e:=by
   unfold One at h1;simp only [mW,List.filter_nil] at h1;split at h1
   .simpa using h1
   .cases h1
  subst this;exact ⟨⟨.tt,f.x,f.s⟩,rfl,h2,h3⟩
 .exact ⟨e,h1,h2,h3⟩
theorem gV {l:List Ent} {e:Ent} (h:e.g.val=true) (k:Non l):One (e :: l) e:=by
 unfold One Non at *
 simp [h,k]
theorem fG {l:List Ent} {e f:Ent} (h:e.g.val=false) (k:One l f):One (e :: l) f:=by
 unfold One at *
 simp [h,k]
theorem nX {l:List Ent} {e:Ent} (h:e.g.val=false) (k:Non l):Non (e :: l):=by
 unfold Non at *
 simp [h,k]
theorem fM {l:List Ent} {a e:Ent} (h:One (a :: l) e):(a.g.val=true/\a=e/\Non l)\/(a.g.val=false/\One l e):=by
 unfold One Non at *
 simp only [mW] at h
 cases ha:a.g.val with
 | true=>rw [ha] at h;simp at h;exact .inl ⟨rfl,h.1,by simpa using h.2⟩
 | false=>rw [ha] at h;exact .inr ⟨rfl,by simpa using h⟩
theorem iV {l:List Ent} {a:Ent} (h:Non (a :: l)):a.g.val=false/\Non l:=by
 unfold Non at *
 simp only [mW] at h
 cases ha:a.g.val with
 | true=>rw [ha] at h;simp at h
 | false=>rw [ha] at h;exact ⟨rfl,by simpa using h⟩
theorem pu {s0:St} {e:Ent} (b:e.g.val=false):∀ {l:List Ent},(∀ f,One l f->Got s0 (GZ s0 e l) f.x f.s)/\(Non l->Non (GZ s0 e l))
 | []=>⟨fun f h=>by simp [One] at h,fun _=>nX b rfl⟩
 | a :: l=>by
  obtain ⟨i1,c⟩:=pu (s0:=s0) b (l:=l);simp only [GZ,G.on_eq];split
  .rename_i d;have d:=Kc d;split
   .rename_i s n;rw [b] at n;refine ⟨fun f h=>?_,fun h=>?_⟩
    .rcases fM h with ⟨h1,rfl,h3⟩|⟨h1,h2⟩
     .exact ⟨_,gV (by simp [h1]) h3,d,.right n (.refl _)⟩
     .exact ⟨f,fG (by simp [h1,b]) h2,rfl,.refl _⟩
    .obtain ⟨h1,h2⟩:=iV h;exact nX (by simp [h1,b]) h2
   .refine ⟨fun f h=>?_,fun h=>?_⟩
    .rcases fM h with ⟨h1,rfl,h3⟩|⟨h1,h2⟩
     .exact ⟨a,gV h1 (c h3),rfl,.refl _⟩
     .obtain ⟨i,j,k,m⟩:=i1 f h2;exact ⟨i,fG h1 j,k,m⟩
    .obtain ⟨h1,h2⟩:=iV h;exact nX h1 (c h2)
  .refine ⟨fun f h=>?_,fun h=>?_⟩
   .rcases fM h with ⟨h1,rfl,h3⟩|⟨h1,h2⟩
    .exact ⟨a,gV h1 (c h3),rfl,.refl _⟩
    .obtain ⟨i,j,k,m⟩:=i1 f h2;exact ⟨i,fG h1 j,k,m⟩
   .obtain ⟨h1,h2⟩:=iV h;exact nX h1 (c h2)
theorem sV {s0:St} {e:Ent} (b:e.g.val=true):∀ {l:List Ent},Non l->Got s0 (GZ s0 e l) e.x e.s
 | [],_=>⟨e,gV b rfl,rfl,.refl _⟩
 | a :: l,h=>by
  obtain ⟨h1,h2⟩:=iV h;simp only [GZ,G.on_eq];split
  .rename_i k;split
   .rename_i s j;rw [b] at j;exact ⟨_,gV (by simp [b]) h2,rfl,.left j (.refl _)⟩
   .obtain ⟨c,d,f,i⟩:=sV (s0:=s0) b h2;exact ⟨c,fG h1 d,f,i⟩
  .obtain ⟨c,d,f,i⟩:=sV (s0:=s0) b h2;exact ⟨c,fG h1 d,f,i⟩
theorem BV {s0:St} {e:Ent} (a:e.g.val=false) {l:List Ent} {x:Ex} {s:St} (h:Got s0 l x s):Got s0 (GZ s0 e l) x s:=by obtain ⟨f,h1,h2,h3⟩:=h;obtain ⟨b,c,d,i⟩:=(pu (s0:=s0) a).1 f h1;exact ⟨b,c,d.trans h2,h3.trans i⟩
theorem wG {s0:St} {g:G} (a:g.val=false):∀ {m l:List Ent},(∀ x s,Got s0 l x s->Got s0 (vQ s0 g m l) x s)/\(Non l->Non (vQ s0 g m l))
 | [],_=>⟨fun _ _ h=>h,fun h=>h⟩
 | e :: m,l=>by
  obtain ⟨i1,b⟩:=wG (s0:=s0) a (m:=m) (l:=l);simp only [vQ];exact ⟨fun x s h=>BV (by simp [a]) (i1 x s h),fun h=>(pu (by simp [a])).2 (b h)⟩
theorem HV {s0:St} {g:G}:∀ {m l:List Ent},Non m->Non l->Non (vQ s0 g m l)
 | [],_,_,h=>h
 | e :: m,l,a,h=>by
  obtain ⟨h1,h2⟩:=iV a;simp only [vQ];exact (pu (by simp [h1])).2 (HV h2 h)
theorem BX {s0:St} {g:G} (b:g.val=true):∀ {m l:List Ent} {e:Ent},One m e->Non l->Got s0 (vQ s0 g m l) e.x e.s
 | [],_,_,h,_=>by simp [One] at h
 | a :: m,l,e,c,h=>by
  simp only [vQ];rcases fM c with ⟨h1,rfl,h3⟩|⟨h1,h2⟩
  .exact sV (by simp [b,h1]) (HV h3 h)
  .exact BV (by simp [h1]) (BX b h2 h)
theorem wH {s0:St} {p:Bool} {e:Ent}:∀ {l:List Ent} {r:Ent} {a:List Ent},J2 s0 p e l=some (r,a)->∃ l1 f l2 s,l=l1++f :: l2/\a=l1++l2/\e.x=f.x/\qX s0 p e.s f.s=some s/\r=⟨G.ite p e.g f.g,e.x,s⟩
 | [],r,a,h=>by simp [J2] at h
 | f :: l,r,a,h=>by
  simp only [J2] at h;split at h
  .rename_i k;split at h
   .rename_i s m;cases h;exact ⟨[],f,l,s,rfl,rfl,Kc k,m,rfl⟩
   .split at h
    .cases h
    .rename_i n b c;cases h;obtain ⟨l1,g,l2,s,rfl,rfl,d,i,j⟩:=wH c;exact ⟨f :: l1,g,l2,s,rfl,rfl,d,i,j⟩
  .split at h
   .cases h
   .rename_i n b c;cases h;obtain ⟨l1,g,l2,s,rfl,rfl,d,i,j⟩:=wH c;exact ⟨f :: l1,g,l2,s,rfl,rfl,d,i,j⟩
theorem Rm {l1 l2:List Ent} {f e:Ent} (h:One (l1++f :: l2) e):(f.g.val=true/\f=e/\Non (l1++l2))\/(f.g.val=false/\One (l1++l2) e):=by
 unfold One Non at *
 simp only [List.filter_append,mW] at h ⊢
 cases b:f.g.val with
 | false=>rw [b] at h;exact .inr ⟨rfl,by simpa using h⟩
 | true=>
  rw [b] at h;left;simp only [bn] at h;generalize h1:l1.filter (fun e=>e.g.val)=A at *
  generalize h2:l2.filter (fun e=>e.g.val)=B at *
  cases A with
  | nil=>simp at h;exact ⟨rfl,h.1,by simpa using h.2⟩
  | cons a A=>simp at h
theorem AY {s0:St}:∀ {l m:List Ent},(∀ e,One l e->Got s0 (xe s0 true l m) e.x e.s)/\(Non l->Non (xe s0 true l m))
 | [],m=>⟨fun e h=>by simp [One] at h,fun _=>by
  unfold Non;simp only [xe]
  induction m with
  | nil=>rfl
  | cons a m k=>simp⟩
 | a :: l,m=>by
  simp only [xe];split
  .rename_i r n i;obtain ⟨l1,f,l2,s,rfl,rfl,o,j,rfl⟩:=wH i;obtain ⟨i1,b⟩:=AY (s0:=s0) (l:=l) (m:=l1++l2);refine ⟨fun e h=>?_,fun h=>?_⟩
   .rcases fM h with ⟨h1,rfl,h3⟩|⟨h1,h2⟩
    .exact ⟨_,gV (by simp [h1]) (b h3),rfl,.left j (.refl _)⟩
    .obtain ⟨c,d,p2,g⟩:=i1 e h2;exact ⟨c,fG (by simp [h1]) d,p2,g⟩
   .obtain ⟨h1,h2⟩:=iV h;exact nX (by simp [h1]) (b h2)
  .obtain ⟨i1,b⟩:=AY (s0:=s0) (l:=l) (m:=m);refine ⟨fun e h=>?_,fun h=>?_⟩
   .rcases fM h with ⟨h1,rfl,h3⟩|⟨h1,h2⟩
    .exact ⟨_,gV (by simp [h1]) (b h3),rfl,.refl _⟩
    .obtain ⟨c,d,p2,g⟩:=i1 e h2;exact ⟨c,fG (by simp [h1]) d,p2,g⟩
   .obtain ⟨h1,h2⟩:=iV h;exact nX (by simp [h1]) (b h2)
theorem xU {s0:St}:∀ {l m:List Ent},(∀ e,One m e->Got s0 (xe s0 false l m) e.x e.s)/\(Non m->Non (xe s0 false l m))
 | [],m=>⟨fun e h=>by
   simp only [xe];refine ⟨⟨e.g.and !false,e.x,e.s⟩,?_,rfl,.refl _⟩;unfold One at *
   rw [DR];have:((fun e:Ent=>e.g.val) ∘ fun e:Ent=>(⟨e.g.and !false,e.x,e.s⟩:Ent))=fun e:Ent=>e.g.val:=by funext x;simp
   rw [this,h];rfl,fun h=>by
   unfold Non at *
   simp only [xe];rw [DR];have:((fun e:Ent=>e.g.val) ∘ fun e:Ent=>(⟨e.g.and !false,e.x,e.s⟩:Ent))=fun e:Ent=>e.g.val:=by funext x;simp
   rw [this,h];rfl⟩
 | a :: l,m=>by
  simp only [xe];split
  .rename_i r p k;obtain ⟨l1,f,l2,s,rfl,rfl,n,o,rfl⟩:=wH k;obtain ⟨i1,c⟩:=xU (s0:=s0) (l:=l) (m:=l1++l2);refine ⟨fun e h=>?_,fun h=>?_⟩
   .rcases Rm h with ⟨h1,rfl,h3⟩|⟨h1,h2⟩
    .exact ⟨_,gV (by simp [h1]) (c h3),n,.right o (.refl _)⟩
    .obtain ⟨d,i,p2,j⟩:=i1 e h2;exact ⟨d,fG (by simp [h1]) i,p2,j⟩
   .have b:f.g.val=false/\Non (l1++l2):=by
     unfold Non at *
     simp only [List.filter_append,mW] at h ⊢
     cases b:f.g.val with
     | true=>rw [b] at h;simp at h
     | false=>rw [b] at h;exact ⟨rfl,by simpa using h⟩
    exact nX (by simp [b.1]) (c b.2)
  .obtain ⟨i1,c⟩:=xU (s0:=s0) (l:=l) (m:=m);refine ⟨fun e h=>?_,fun h=>?_⟩
   .obtain ⟨d,i,p2,j⟩:=i1 e h;exact ⟨d,fG (by simp) i,p2,j⟩
   .exact nX (by simp) (c h)
def gI (Q:Ex->St->Prop) (q:R):Prop:=q.need->∃ e,One q.l e/\Q e.x e.s
def Closed (s0:St) (Q:Ex->St->Prop):Prop:=∀ x s s',Q x s->Via s0 s s'->Q x s'
theorem Closed.got {s0:St} {Q:Ex->St->Prop} (c:Closed s0 Q) {l:List Ent} {x:Ex} {s:St} (h:Q x s) (g:Got s0 l x s):∃ e,One l e/\Q e.x e.s:=by obtain ⟨e,h1,h2,h3⟩:=g;exact ⟨e,h1,by rw [h2];exact c x s e.s h h3⟩
theorem Ke {s0:St} {Q Q1:Ex->St->Prop} (c:Closed s0 Q) {f:St->Option R} (p:∀ s q,f s=some q->Q1 .normal s->gI Q q) (t:∀ x s,x≠.normal->Q1 x s->Q x s):
  ∀ {l:List Ent} {q:R},ady s0 f l=some q->(Non l->Non q.l)/\(∀ e,One l e->Q1 e.x e.s->q.need->∃ d,One q.l d/\Q d.x d.s)
 | [],q,h=>by cases h;exact ⟨fun _=>rfl,fun e k=>by simp [One] at k⟩
 | a :: l,q,h=>by
  simp only [ady] at h;split at h
  .cases h
  .rename_i r v;obtain ⟨i1,u⟩:=Ke c p t v;split at h
   .rename_i i;split at h
    .cases h
    .rename_i w o;cases h;refine ⟨fun hn=>?_,fun e k j b=>?_⟩
     .obtain ⟨h1,h2⟩:=iV hn;exact (wG h1).2 (i1 h2)
     .rcases fM k with ⟨h1,rfl,h3⟩|⟨h1,h2⟩
      .rw [i] at j;obtain ⟨d,m,n⟩:=p _ _ o j (Nd.iv (g:=a.g.val=true) (by have:=Nd.lv b;rw [G.on_eq] at this;exact this) h1);exact c.got n (BX h1 m (i1 h3))
      .obtain ⟨d,m,n⟩:=u e h2 j (Nd.rv b);exact c.got n ((wG h1).1 _ _ ⟨d,m,rfl,.refl _⟩)
   .rename_i i;cases h;refine ⟨fun hn=>?_,fun e k j b=>?_⟩
    .obtain ⟨h1,h2⟩:=iV hn;exact (pu h1).2 (i1 h2)
    .rcases fM k with ⟨h1,rfl,h3⟩|⟨h1,h2⟩
     .exact c.got (t _ _ (fun h=>i h) j) (sV h1 (i1 h3))
     .obtain ⟨d,m,n⟩:=u e h2 j b;exact c.got n (BV h1 ⟨d,m,rfl,.refl _⟩)
theorem zV {Q:Ex->St->Prop} {nd:Nd} {l:List Ent} (h:gI Q ⟨nd,l⟩):gI Q ⟨nd,BD l⟩:=fun hn=>by
 obtain ⟨e,h1,h2⟩:=h hn;unfold BD;split
 .rename_i f;rcases fM h1 with ⟨_,rfl,_⟩|⟨_,h3⟩
  .exact ⟨⟨.tt,f.x,f.s⟩,rfl,h2⟩
  .simp [One] at h3
 .exact ⟨e,h1,h2⟩
theorem pz {s0:St} {Q Q1:Ex->St->Prop} (c:Closed s0 Q) {f:St->Option R} (b:∀ s q,f s=some q->Q1 .normal s->gI Q q) (j:∀ x s,x≠.normal->Q1 x s->Q x s)
  {r:Option R} {q:R} (e:xn s0 r f=some q) (h:∀ d,r=some d->gI Q1 d):gI Q q:=by
 unfold xn at e;split at e
 .cases e
 .rename_i nd s;split at e
  .cases e
  .rename_i g a;cases e;intro hn;obtain ⟨i,h1,h2⟩:=h _ rfl (Nd.lv hn);rcases fM h1 with ⟨_,rfl,_⟩|⟨_,h3⟩
   .obtain ⟨k,m,p2⟩:=b _ g a h2 (Nd.rv hn);exact ⟨k,m,p2⟩
   .simp [One] at h3
 .rename_i nd l _;split at e
  .cases e
  .rename_i g a;cases e;refine zV (fun hn=>?_);obtain ⟨i,h1,h2⟩:=h _ rfl (Nd.lv hn);exact (Ke c b j a).2 i h1 h2 (Nd.rv hn)
theorem AZ {s0:St} {Q:Ex->St->Prop} (c:Closed s0 Q) {p:Bool} {a b:R} (ha:p=true->gI Q a) (hb:p=false->gI Q b):gI Q (NW s0 p a b):=by
 unfold NW;refine zV (fun hn=>?_)
 cases p with
 | true=>
  obtain ⟨e,h1,h2⟩:=ha rfl (Nd.iv (Nd.lv hn) rfl);exact c.got h2 (AY.1 e h1)
 | false=>
  obtain ⟨e,h1,h2⟩:=hb rfl (Nd.iv (Nd.rv hn) rfl);exact c.got h2 (xU.1 e h1)
end Go.Eng
