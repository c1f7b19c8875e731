/- What is proved: MtfTwo returns true, whatever the input (part 2). No conditions beyond those of the row. -/
import Derived.Test.YtbiiiloimbjpaaaGreatDoorPA
set_option linter.unusedVariables false
set_option linter.unusedSimpArgs false
set_option linter.unusedSectionVars false
namespace Go.Eng
theorem TP:∀ (l m:List UInt8),QZ l m=true ↔ l=m
 | [],[]=>by simp [QZ]
 | [],_ :: _=>by simp [QZ]
 | _ :: _,[]=>by simp [QZ]
 | a :: l,b :: m=>by
  simp only [QZ,aF,TP l m,lV];constructor
  .rintro ⟨h1,h2⟩
   exact ⟨UInt8.toNat_inj.1 (aP h1),h2⟩
  .rintro ⟨rfl,h2⟩
   exact ⟨zy _,h2⟩
theorem lI (x y:ByteArray):qW x y=true ↔ x=y:=by
 unfold qW;rw [TP];constructor
 .intro h;obtain ⟨⟨a⟩⟩:=x;obtain ⟨⟨b⟩⟩:=y;rw [show a=b from h]
 .rintro rfl;rfl
theorem wu (x y:ByteArray):qW x y=(x==y):=by rw [gq,lI];obtain ⟨⟨a⟩⟩:=x;obtain ⟨⟨b⟩⟩:=y;show _ ↔ ((⟨a⟩:Array UInt8)==⟨b⟩)=true;simp
mutual
theorem ve:∀ (a b:AV),lu a b=true->a=b
 | .bool false a,.bool false b,h=>by simp [lu] at h;rw [h]
 | .int false k a,.int false v b,h=>by simp [lu] at h;rw [h.1,h.2]
 | .nil,.nil,_=>rfl
 | .ptr i o,.ptr j q,h=>by simp [lu] at h;rw [h.1,h.2]
 | .nilslice,.nilslice,_=>rfl
 | .eslice a,.eslice b,h=>by simp [lu] at h;rw [h]
 | .slice i o l c,.slice j q m d,h=>by simp [lu] at h;rw [h.1.1.1,h.1.1.2,h.1.2,h.2]
 | .gslice i o l c,.gslice j q m d,h=>by simp [lu] at h;rw [h.1.1.1,h.1.1.2,h.1.2,h.2]
 | .func f p cs,.func g r s,h=>by
  simp [lu] at h;rw [h.1.1,kC p r h.1.2,kC cs s h.2]
 | .yield l,.yield m,h=>by simp [lu] at h;rw [h]
 | .nilfunc,.nilfunc,_=>rfl
 | .niliface,.niliface,_=>rfl
 | .nilmap,.nilmap,_=>rfl
 | .agg l,.agg m,h=>by simp only [lu] at h;rw [kC l m h]
 | .tuple l,.tuple m,h=>by simp only [lu] at h;rw [kC l m h]
 | .str false a,.str false b,h=>by
  simp only [lu] at h;rw [(lI a b).1 h]
 | .map i,.map j,h=>by simp [lu] at h;rw [h]
 | .vslice i l,.vslice j m,h=>by simp [lu] at h;rw [h.1,h.2]
 | .pslice i l false n,.pslice j m false k,h=>by simp [lu] at h;rw [h.1.1,h.1.2,h.2]
 | .vptr i o,.vptr j q,h=>by simp [lu] at h;rw [h.1,h.2]
 | .iface t a,.iface u b,h=>by
  simp only [lu,aF] at h;rw [aP h.1,ve a b h.2]
 | .panic a,.panic b,h=>by
  simp only [lu] at h;rw [ve a b h]
theorem kC:∀ (a b:List AV),qf a b=true->a=b
 | [],[],_=>rfl
 | a :: l,b :: m,h=>by
  simp [qf] at h;rw [ve a b h.1,kC l m h.2]
 | [],_ :: _,h=>by simp [qf] at h
 | _ :: _,[],h=>by simp [qf] at h
end
theorem eQ {σ:Sg} {v:Value} (h:v.oneCell'=true):VRel σ (.any true) v:=by refine ⟨fun c e=>?_,fun c e=>?_⟩ <;> (subst e;cases h)
theorem Gp {σ:Sg} {p:Bool} {a b:AV} {v:Value} (ha:p=true->VRel σ a v) (hb:p=false->VRel σ b v):VRel σ (.any (a.isCell&&b.isCell)) v:=by
 cases h:a.isCell&&b.isCell with
 | false=>trivial
 | true=>
  simp at h
  cases p with
  | true=>exact eQ (fC (ha rfl) h.1)
  | false=>exact eQ (fC (hb rfl) h.2)
mutual
theorem ww {σ:Sg} (p:Bool) (a b:AV) (v:Value) (ha:p=true->VRel σ a v) (hb:p=false->VRel σ b v):VRel σ (Ei p a b) v:=by
 unfold Ei;split
 .rename_i s k x s' q y;split
  .rename_i t;subst t;have d:v=.int k (bif p then x else y):=by
    cases p
    .exact hb rfl
    .exact ha rfl
   split
   .exact d
   .split
    .rename_i f;subst f;rw [d];cases p <;> rfl
    .exact d
  .exact Gp (a:=.int s k x) (b:=.int s' q y) ha hb
 .rename_i s x s' y;have d:v=.bool (bif p then x else y):=by
   cases p
   .exact hb rfl
   .exact ha rfl
  split
  .exact d
  .split
   .rename_i f;subst f;rw [d];cases p <;> rfl
   .exact d
 .rename_i _ x _ y;show v=.string (bif p then x else y);cases p
  .exact hb rfl
  .exact ha rfl
 .rename_i i x j y;split
  .rename_i c;have:=aP c;subst this;cases p
   .exact hb rfl
   .exact ha rfl
  .exact Gp (a:=.lslice i x) (b:=.lslice j y) ha hb
 .rename_i w i o x w' j u y;split
  .rename_i c;simp only [aF,dV] at c;have h1:=aP c.1;have h2:=c.2;subst h1 h2;cases p
   .exact hb rfl
   .exact ha rfl
  .exact Gp (a:=.islice w i o x) (b:=.islice w' j u y) ha hb
 .rename_i l m;split
  .trivial
  .rename_i r n;cases p
   .obtain ⟨K,rfl,g⟩:=hb rfl;exact ⟨K,rfl,jw false l m r K.toList n (fun h=>by cases h) (fun _=>g)⟩
   .obtain ⟨K,rfl,g⟩:=ha rfl;exact ⟨K,rfl,jw true l m r K.toList n (fun _=>g) (fun h=>by cases h)⟩
 .rename_i l m;split
  .trivial
  .rename_i r n;cases p
   .obtain ⟨K,rfl,g⟩:=hb rfl;exact ⟨K,rfl,jw false l m r K.toList n (fun h=>by cases h) (fun _=>g)⟩
   .obtain ⟨K,rfl,g⟩:=ha rfl;exact ⟨K,rfl,jw true l m r K.toList n (fun _=>g) (fun h=>by cases h)⟩
 .split
  .rename_i h;have:=ve _ _ h;cases p
   .rw [this];exact hb rfl
   .exact ha rfl
  .exact Gp ha hb
termination_by SizeOf.sizeOf a
theorem jw {σ:Sg} (p:Bool) (l m r:List AV) (L:List Value) (e:AC p l m=some r) (ha:p=true->VRels σ l L) (hb:p=false->VRels σ m L):VRels σ r L:=by
 unfold AC at e;split at e
 .cases e;cases p
  .exact hb rfl
  .exact ha rfl
 .rename_i a l b m;split at e
  .cases e
  .rename_i q hq;cases e;cases p
   .obtain ⟨v,c,rfl,h1,h2⟩:=hb rfl;exact ⟨v,c,rfl,ww false a b v (fun h=>by cases h) (fun _=>h1),jw false l m q c hq (fun h=>by cases h) (fun _=>h2)⟩
   .obtain ⟨v,c,rfl,h1,h2⟩:=ha rfl;exact ⟨v,c,rfl,ww true a b v (fun _=>h1) (fun h=>by cases h),jw true l m q c hq (fun _=>h2) (fun h=>by cases h)⟩
 .cases e
termination_by SizeOf.sizeOf l
end
theorem VA {P:Program} {σ:Sg} {h:Hp} {W:World} (r:HRel σ h W) {c a b:AV} {u v w:Value} (d:VRel σ c u) (ha:VRel σ a v) (hb:VRel σ b w) {q:S1} (e:Em h c a b=some q):
  OpOk P (do pure (.value (if<-asBool u then v else w))) σ h W q:=by
 unfold Em at e;split at e <;> cases e
 .rename_i p;obtain rfl:=d;refine OpOk.pure r fun _=>?_;cases p
  .exact ⟨w,by simp [asBool],hb⟩
  .exact ⟨v,by simp [asBool],ha⟩
 .rename_i p;obtain rfl:=d;refine OpOk.pure r fun _=>⟨if p then v else w,by simp [asBool],ww p a b _ (fun h=>?_) (fun h=>?_)⟩
  .subst h;exact ha
  .subst h;exact hb
theorem part_ok {P:Program} {σ:Sg} {t:TypeId} {l:List AV} {L:List Value} {off:Nat} {v:AV} (h:VRels σ l L) (e:partV P t l off=some v) (W:World):
  ∃ V,(part t L.toArray off).run P W=.ok V W/\VRel σ v V:=by
 unfold partV at e;split at e
 .cases e
 .rename_i a;split at e
  .cases e
  .rename_i n hn
   cases h1:iK n (fo off l) with
   | none=>rw [h1] at e;cases e
   | some m=>
    rw [h1] at e;cases e;obtain ⟨h2,h3⟩:=VRels.take n (VRels.drop off h) h1;refine ⟨.agg (L.toArray.extract off (off+n)),by simp [part,iH a,bM hn],_,rfl,?_⟩;have:(L.toArray.extract off (off+n)).toList=(L.drop off).take n:=by simp [List.extract]
    rw [this];exact h2
 .rename_i a;obtain ⟨V,h1,h2⟩:=VRels.nth h e;exact ⟨V,by simp [part,iH a,h1],h2⟩
theorem pq {P:Program} {W:World} {B N:Nat} {σ:Sg} {l:List AV} {A:List Value} (a:∀ j u,A[j]?=some u->W.cell? ⟨B,N+j,none⟩=some u)
  (g:VRels σ l A) {t:TypeId} {off:Nat} {v:AV} (ev:partV P t l off=some v):∃ V,(loadVar t ⟨B,N+off,none⟩).run P W=.ok V W/\VRel σ v V:=by
 unfold partV at ev;split at ev
 .cases ev
 .rename_i b;split at ev
  .cases ev
  .rename_i n hn
   cases h1:iK n (fo off l) with
   | none=>rw [h1] at ev;cases ev
   | some m=>
    rw [h1] at ev;cases ev;obtain ⟨h2,h3⟩:=VRels.take n (VRels.drop off g) h1;have c:((A.drop off).take n).length=n:=by rw [VRels.length h2,h3]
    have:=oI (P:=P) W ⟨B,N+off,none⟩ ((A.drop off).take n) (fun j u f=>by
     have d:(⟨B,N+off,none⟩:Addr).add j=⟨B,N+(off+j),none⟩:=by unfold Addr.add;split <;> simp_all [rW]
     rw [d];apply a;rw [jL] at f;split at f
     .simpa using f
     .cases f)
    rw [c] at this;refine ⟨.agg ((A.drop off).take n).toArray,by simp [loadVar,iH b,bM hn,this],_,rfl,by simpa using h2⟩
 .rename_i b;obtain ⟨V,h1,h2⟩:=VRels.nth g ev;exact ⟨V,by simp [loadVar,iH b,a _ _ h1],h2⟩
theorem xP {P:Program} {W:World} {B:Nat} {K:Array Value} {e:TypeId} {fz:Nat×Nat} (b:W.heap[B]?=some (.cells K e fz)) {σ:Sg} {l:List AV} {A Z:List Value}
  (c:K.toList=A++Z) (d:VRels σ l A) {t:TypeId} {off:Nat} {v:AV} (ev:partV P t l off=some v):∃ V,(loadVar t ⟨B,off,none⟩).run P W=.ok V W/\VRel σ v V:=by
 have:=pq (P:=P) (W:=W) (B:=B) (N:=0) (A:=A) (fun j u a=>by
  rw [fJ,oZ W B j K e fz b];rw [<- ic,c,kJ (by rcases aX j A.length with h|h;exact h;simp [dB h] at a)];exact a) d ev
 rwa [fJ] at this
theorem TQ {P:Program} {σ:Sg} {h:Hp} {W:World} (r:HRel σ h W) {t:TypeId} {a v:AV} {A:Value} (ha:VRel σ a A) {nd:Nd} (e:qQ P h t a=some (nd,v)) (hn:nd.val):
  ∃ B off V,A=.pointer (some ⟨B,off,none⟩)/\(loadVar t ⟨B,off,none⟩).run P W=.ok V W/\VRel σ v V:=by
 unfold qQ at e;split at e
 .rename_i i off;obtain ⟨B,N,b,rfl⟩:=ha;split at e
  .rename_i w l c
   cases hp:partV P t l off with
   | none=>rw [hp] at e;cases e
   | some u=>
    rw [hp] at e;cases e;obtain ⟨p,q,o,h1,h2,K,g,rfl,h3,_⟩:=r.blk i _ c rfl;rw [b] at h1;cases h1;obtain ⟨V,m,f⟩:=xP (P:=P) h2 (A:=K.toList) (Z:=[]) (by simp) h3 hp;exact ⟨B,off,V,rfl,m,f⟩
  .rename_i w l c
   cases hp:partV P t l off with
   | none=>rw [hp] at e;cases e
   | some u=>
    rw [hp] at e;cases e;obtain ⟨p,q,o,h1,h2,K,g,X,Y,rfl,h3,z,_⟩:=r.blk i _ c rfl;rw [b] at h1;cases h1;obtain ⟨V,m,f⟩:=xP (P:=P) h2 h3 z hp;exact ⟨B,off,V,rfl,m,f⟩
  .rename_i w l c
   cases hp:partV P t l off with
   | none=>rw [hp] at e;cases e
   | some u=>
    rw [hp] at e;cases e;obtain ⟨p,q,o,h1,h2,K,g,fr,rfl,h3⟩:=r.blk i _ c rfl;rw [b] at h1;cases h1;obtain ⟨V,m,f⟩:=pq (P:=P) (W:=W) (B:=B) (N:=0) (fun j u d=>by
     rw [oZ W B (0+j) K g fr h2,<- ic,fJ];exact d) h3 hp
    rw [fJ] at m;exact ⟨B,off,V,rfl,m,f⟩
  .rename_i w k xs c;split at e
   .rename_i D d;split at e
    .rename_i s;subst s;cases e;obtain ⟨p,q,o,h1,h2,K,g,Y,rfl,h3,_⟩:=r.blk i _ c (nD (y5 (kU off) (show off<xs.length from hn)));rw [b] at h1;cases h1;have x:W.cell? ⟨B,off,none⟩=some (.int k (xs.getD off 0)):=by
      rw [oZ W B off K g (0,0) h2,<- ic,h3,kJ (by simpa using hn)];simp [bY,hn]
     refine ⟨B,off,_,rfl,?_,rfl⟩;have n:fB P t=some false:=by unfold fB;rw [d]
     simp [loadVar,iH n,x]
    .cases e
   .cases e
  .cases e
 .rename_i i off;obtain ⟨B,N,b,rfl⟩:=ha;split at e
  .rename_i w l c
   cases hp:partV P t l off with
   | none=>rw [hp] at e;cases e
   | some u=>
    rw [hp] at e;cases e;obtain ⟨p,q,o,h1,h2,K,g,fr,rfl,h3⟩:=r.blk i _ c rfl;rw [b] at h1;cases h1;obtain ⟨V,m,f⟩:=pq (P:=P) (W:=W) (B:=B) (N:=N) (fun j u d=>by
     rw [oZ W B (N+j) K g fr h2,<- ic];rw [jL] at d;split at d
     .rw [ig] at d;exact d
     .cases d) h3 hp
    exact ⟨B,N+off,V,rfl,m,f⟩
  .rename_i w k xs c;split at e
   .rename_i D d;split at e
    .rename_i s;subst s;cases e;have hn:off<xs.length:=hn;obtain ⟨p,q,o,h1,h2,K,g,fr,rfl,h3⟩:=r.blk i _ c (by cases xs with|nil=>simp at hn|cons y ys=>rfl);rw [b] at h1;cases h1;have x:W.cell? ⟨B,N+off,none⟩=some (.int k (xs.getD off 0)):=by
      rw [oZ W B (N+off) K g fr h2,<- ic];have f:((K.toList.drop N).take xs.length)[off]?=(xs.map (Value.int k))[off]?:=by rw [h3]
      rw [jL,aC hn,ig] at f;rw [f];simp [bY,hn]
     refine ⟨B,N+off,_,rfl,?_,rfl⟩;have n:fB P t=some false:=by unfold fB;rw [d]
     simp [loadVar,iH n,x]
    .cases e
   .cases e
  .cases e
 .cases e
end Go.Eng
namespace Go.Eng
theorem iL {σ:Sg}:∀ (l:List AV) (off:Nat) (vs c:List AV) {L b:List Value},VRels σ l L->VRels σ vs b->iI l off vs=some c ->
  VRels σ c (L.take off++b++L.drop (off+b.length))/\off+b.length<=L.length
 | l,0,[],c,L,b,h,d,e=>by
  rw [show b=[] from d];unfold iI at e;cases e;simpa using h
 | [],0,v :: vs,c,L,b,h,d,e=>by simp [iI] at e
 | a :: l,0,v :: vs,c,L,b,⟨u,j,g,h1,h2⟩,⟨w,p,k,h3,m⟩,e=>by
  simp only [iI] at e
  cases e3:iI l 0 vs with
  | none=>rw [e3] at e;cases e
  | some r=>
   rw [e3] at e;cases e;obtain ⟨f,i⟩:=iL l 0 vs r h2 m e3;subst g;subst k;simp only [fJ,uS,List.nil_append,il] at f i ⊢;exact ⟨⟨w,_,rfl,h3,by simpa using f⟩,by omega⟩
 | [],n+1,vs,c,L,b,h,d,e=>by cases vs <;> simp [iI] at e
 | a :: l,n+1,vs,c,L,b,⟨u,j,g,h1,h2⟩,d,e=>by
  simp only [iI] at e
  cases e3:iI l n vs with
  | none=>rw [e3] at e;cases vs <;> simp at e
  | some r=>
   rw [e3] at e;obtain ⟨f,i⟩:=iL l n vs r h2 d e3;have o:c=a :: r:=by cases vs <;> simpa using e.symm
   subst o;subst g;refine ⟨⟨u,_,by simp [Nat.add_right_comm],h1,f⟩,by simp;omega⟩
theorem HRel.row {σ:Sg} {h:Hp} {W:World} (r:HRel σ h W) {i B N:Nat} {b:ABlk} (O:h.get i=some b) (Q:b.body.isDead=false) (E:∀ c,b.body≠.loop c) (J:σ i=some (B,N)) {K K':Array Value} {e:TypeId}
  (Y:W.heap[B]?=some (.cells K e (0,0))) (d:ABody) (hb:BRel σ N d (.cells K' e (0,0))) (hnv:b.body.isView=false:=by rfl):HRel σ (h.put i d) (W.setRow B K')/\Good σ h W σ (h.put i d) (W.setRow B K'):=
 r.write O Q J d (qw E) _ (setRow_heap W B K K' e (0,0) Y) hb (setRow_size W B K') (fun k hk=>setRow_other W B k K' hk) rfl rfl rfl (hnv:=hnv)
theorem XV {P:Program} {σ:Sg} {h:Hp} {W:World} (r:HRel σ h W) {t:TypeId} {a v:AV} {A V:Value} (ha:VRel σ a A) (J:VRel σ v V) {q:S1} (e:LA P h t a v=some q):
  OpOk P (do Instr.storeAt t A V;pure .skip) σ h W q:=by
 intro hn;unfold LA XG at e;split at e
 .rename_i i off;obtain ⟨B,N,d,rfl⟩:=ha;split at e
  .rename_i w l j;split at e
   .cases e
   .rename_i n f;simp only at e;split at e
    .rename_i u;simp only [aF,aT] at u;split at e
     .cases e
     .rename_i y hp;rw [Hp.set_eq] at e;cases e;obtain ⟨Q,N',o,h1,h2,K,m,rfl,h3,z⟩:=r.blk i _ j rfl;rw [d] at h1;cases h1;have c:=zT J u.2;obtain ⟨L,D⟩:=iL l off _ y h3 c hp;have g:V.cells.size=n:=by have:=VRels.length c;simp at this;omega
      have b:=oN P B off m V.cells.toList 0 K W h2 (by simpa using D) (qy c u.2);simp only [gP] at b;obtain ⟨E,F⟩:=r.row j rfl (fun _ h=>by cases h) d (K':=(K.toList.take off++V.cells.toList++K.toList.drop (off+V.cells.toList.length)).toArray) h2 (.cells y) ⟨_,m,rfl,by simpa using L,by subst z;simp at D ⊢;omega⟩;refine ⟨σ,undef,_,_,?_,.inr ⟨rfl,rfl⟩,⟨#[],rfl,rfl⟩,E,F⟩;simp [Instr.storeAt,Instr.sureAddr,storeVar,bM f,g,b]
    .cases e
  .rename_i w l j;split at e
   .cases e
   .rename_i n f;simp only at e;split at e
    .rename_i u;simp only [aF,aT] at u;split at e
     .cases e
     .rename_i y hp;rw [Hp.set_eq] at e;cases e;obtain ⟨Q,N',o,h1,h2,K,m,X,Y,rfl,H,h3,z⟩:=r.blk i _ j rfl;rw [d] at h1;cases h1;have c:=zT J u.2;obtain ⟨L,D⟩:=iL l off _ y h3 c hp;have g:V.cells.size=n:=by have:=VRels.length c;simp at this;omega
      have M:X.length<=K.size:=by have:=bL List.length H;simp at this;omega
      have b:=oN P B off m V.cells.toList 0 K W h2 (by simp at D ⊢;omega) (qy c u.2);simp only [gP] at b;obtain ⟨E,F⟩:=r.row j rfl (fun _ h=>by cases h) d (K':=(K.toList.take off++V.cells.toList++K.toList.drop (off+V.cells.toList.length)).toArray) h2 (.grown y) ⟨_,m,X.take off++V.cells.toList++X.drop (off+V.cells.toList.length),Y,rfl,by
       simp only [H];rw [oF (by omega),uH (by omega)];simp,L,by
       subst z;simp at D ⊢;omega⟩
      refine ⟨σ,undef,_,_,?_,.inr ⟨rfl,rfl⟩,⟨#[],rfl,rfl⟩,E,F⟩;simp [Instr.storeAt,Instr.sureAddr,storeVar,bM f,g,b]
    .cases e
  .rename_i w k xs j;split at e
   .rename_i s k' x;obtain rfl:=J;split at e
    .rename_i f;split at e
     .rename_i hk;subst hk;rw [Hp.set_eq] at e;cases e;have O:off<xs.length:=hn;have I:=nD (k:=k) (xs:=xs) (by omega);obtain ⟨Q,N',o,h1,h2,K,m,Y,rfl,h3,z⟩:=r.blk i _ j I;rw [d] at h1;cases h1;have M:xs.length<=K.size:=by have:=bL List.length h3;simp at this;omega
      have b:=oN P B off m [.int k x] 0 K W h2 (by simp;omega) (by simp [Value.oneCell']);simp only [gP] at b;obtain ⟨E,F⟩:=r.row j I (fun _ h=>by cases h) d (K':=(K.toList.take off++[Value.int k x]++K.toList.drop (off+1)).toArray) h2 (.ints k (xs.set off x)) ⟨_,m,Y,rfl,by simp only [h3];rw [oF (by simp;omega),uH (by simp;omega)];simp only [uW,<- rF];rw [List.set_eq_take_append_cons_drop,aC (by simpa using O)];simp,by subst z;simp;omega⟩;refine ⟨σ,undef,_,_,?_,.inr ⟨rfl,rfl⟩,⟨#[],rfl,rfl⟩,E,F⟩;have p:(storeCells ⟨B,off,none⟩ (Value.int k x).cells.toList).run P W=.ok () (W.setRow B (K.toList.take off++[Value.int k x]++K.toList.drop (off+1)).toArray):=b;simp [Instr.storeAt,Instr.sureAddr,storeVar,bM f,Value.cells] at p ⊢;simp [p]
     .cases e
    .cases e
   .cases e
  .cases e
 .cases e
theorem Oc (off:Nat):∀ (vs:List Value) (j:Nat) (cs:Array Value),off+j+vs.length<=cs.size ->
  (vs.zipIdx j).foldl (fun (cs:Array Value) (x:Value×Nat)=>cs.setIfInBounds (off+x.2) x.1) cs=(cs.toList.take (off+j)++vs++cs.toList.drop (off+j+vs.length)).toArray
 | [],j,cs,_=>by simp
 | v :: vs,j,cs,h=>by
  simp only [List.zipIdx_cons,zh];rw [Oc off vs (j+1) (cs.setIfInBounds (off+j) v) (by simp at h ⊢;omega)];have e:=list_seg_step cs.toList (off+j) v vs (by simp at h ⊢;omega)
  congr 1
  simpa [Dm,rW] using e
theorem Gq {σ:Sg} (Aq:Nat->Option (Nat×Nat)):∀ (a:List (Nat×AV)) (Ps:List (Nat×Value)) (l b:List AV) (L:Array Value),
  Ps.map (·.1)=a.map (·.1)->VRels σ (a.map (·.2)) (Ps.map (·.2))->VRels σ l L.toList->si Aq l a=some b->∃ f,Instr.fill Aq L Ps=some f/\VRels σ b f.toList
 | [],Ps,l,b,L,hi,h,g,e=>by
  have:Ps=[]:=by simpa using hi
  subst this;cases e;exact ⟨L,rfl,g⟩
 | (i,v) :: a,Ps,l,b,L,hi,h,g,e=>by
  cases Ps with
  | nil=>simp at hi
  | cons p Ps=>
   obtain ⟨t,V⟩:=p;simp only [dL,lV] at hi;obtain ⟨rfl,hi⟩:=hi;obtain ⟨u,w,j,h1,h2⟩:=h;simp only [dL,lV] at j;obtain ⟨rfl,rfl⟩:=j;simp only [si] at e;split at e
   .cases e
   .rename_i off n hp;split at e
    .rename_i k;simp only [aF,aT] at k;split at e
     .cases e
     .rename_i l2 c;have d:=zT h1 k.2;obtain ⟨q,m⟩:=iL l off _ l2 g d c;have o:V.cells.size=n:=by have:=VRels.length d;simp at this;omega
      obtain ⟨f,r,s⟩:=Gq Aq a Ps l2 b (L.toList.take off++V.cells.toList++L.toList.drop (off+V.cells.toList.length)).toArray hi h2 (by simpa using q) e;refine ⟨f,?_,s⟩;simp only [Instr.fill,hp];rw [aB (by simp at m ⊢;omega)];rw [<- r]
      congr 1
      have:=Oc off V.cells.toList 0 L (by simpa using m);simp only [gP] at this;rw [<- this,<- y7,Array.toList_zipIdx]
    .cases e
theorem pR {C:Ctx} {σ:Sg} {s:St} {T:Array Value} (g:GRel C σ) (h:TRel σ s.tmps T):∀ l:List (Nat×Operand),
  (l.map fun (i,x)=>(i,ev T x)).map (·.1)=(kY C s l).map (·.1)/\VRels σ ((kY C s l).map (·.2)) ((l.map fun (i,x)=>(i,ev T x)).map (·.2))
 | []=>⟨rfl,rfl⟩
 | (i,x) :: l=>⟨by simp [kY,(pR g h l).1],⟨_,_,rfl,iU g h x,by simpa using (pR g h l).2⟩⟩
theorem BP {P:Program}:∀ {b:List Field} {a:List (Nat×Nat)},Gm P b=some a->b.mapM (fun f=>(P.info? f.type).map fun i=>(f.offset,i.size))=some a
 | [],a,h=>by cases h;rfl
 | f :: b,a,h=>by
  simp only [Gm] at h;split at h
  .cases h
  .rename_i n hn;split at h
   .cases h
   .rename_i r c;cases h;obtain ⟨i,hi,rfl⟩:=mH hn;simp [DY,hi,BP c]
theorem build_ok {P:Program} {σ:Sg} {t:TypeId} {a:List (Nat×AV)} {Ps:Array (Nat×Value)} (hi:Ps.toList.map (·.1)=a.map (·.1)) (o:VRels σ (a.map (·.2)) (Ps.toList.map (·.2)))
  {v:AV} (e:Lu P t a=some v) (W:World):∃ V,(Instr.build t Ps).run P W=.ok V W/\VRel σ v V:=by
 unfold Lu at e;split at e
 .cases e
 .rename_i z p;obtain ⟨i,zv,b,c,h1,_⟩:=fZ (σ:=σ) p;split at e
  .rename_i s f;split at e
   .cases e
   .rename_i q g;split at e
    .cases e
    .rename_i l h;cases e;obtain ⟨d,h2,h3⟩:=Gq (nth q) a Ps.toList z l zv.cells hi o h1 h;refine ⟨.agg d,?_,d,rfl,h3⟩;apply run_build;unfold Program.built;rw [b,f];simp only [c,BP g];rw [<- h2]
     congr 1
     funext j;simp [iX]
  .rename_i n u f;split at e
   .cases e
   .rename_i m r;split at e
    .cases e
    .rename_i l h;cases e;obtain ⟨d,h2,h3⟩:=Gq _ a Ps.toList z l zv.cells hi o h1 h;obtain ⟨w,k,rfl⟩:=mH r;refine ⟨.agg d,?_,d,rfl,h3⟩;apply run_build;unfold Program.built;rw [b,f];simp only [c,k];exact h2
  .cases e
theorem Od {α:Type} (l:List α):∀ (k i:Nat),(Ak l k)[i]?=if i<k*l.length then l[i % l.length]? else none
 | 0,i=>by simp [Ak]
 | k+1,i=>by
  simp only [Ak];by_cases h:i<l.length
  .rw [kJ h,aC (by rw [dR];omega),DI h]
  .rw [mP (by omega),Od l k];by_cases a:l.length=0
   .simp [a]
   .have:(i - l.length) % l.length=i % l.length:=by
     conv=>rhs;rw [show i=(i - l.length)+l.length by omega]
     simp
    rw [this];by_cases h2:i - l.length<k*l.length
    .rw [aC h2,aC (by rw [dR];omega)]
    .rw [aB h2,aB (by rw [dR];omega)]
theorem AR (z:Array Value) (k:Nat):((Array.range (k*z.size)).map (fun i=>z[i % z.size]!)).toList=Ak z.toList k:=by
 apply zb;intro i;rw [Od];simp only [Array.toList_map,Array.toList_range,rG,Dt];by_cases h:i<k*z.size
 .rw [Du h,aC h];have b:0<z.size:=by
   rcases Nat.eq_zero_or_pos z.size with a|a
   .rw [a] at h;simp at h
   .exact a
  have c:i % z.size<z.size:=jQ _ b;simp [c]
 .rw [aB h];simp;omega
theorem VRels.rep {σ:Sg} {l:List AV} {L:List Value} (h:VRels σ l L):∀ k,VRels σ (Ak l k) (Ak L k)
 | 0=>rfl
 | k+1=>VRels.append h (VRels.rep h k)
theorem Jz {P:Program} {σ:Sg} {h:Hp} {W:World} (r:HRel σ h W) {t:TypeId} {len:Nat} {a:List (Nat×AV)} {Ps:Array (Nat×Value)} (hi:Ps.toList.map (·.1)=a.map (·.1))
  (m:VRels σ (a.map (·.2)) (Ps.toList.map (·.2))) {q:S1} (e:vV P h t len a=some q):OpOk P (do pure (.value (<- Instr.buildSlice t len Ps))) σ h W q:=by
 unfold vV at e;split at e
 .rename_i o k;split at e
  .cases e
  .rename_i n hn;split at e
   .cases e
   .rename_i z p;split at e
    .cases e
    .rename_i s;simp only [aF,iT,nA] at s;split at e
     .cases e
     .rename_i l u;cases e;obtain ⟨i,zv,d,f,h1,_⟩:=fZ (σ:=σ) p;have c:zv.cells.size=n:=by have:=VRels.length h1;simp at this;omega
      obtain ⟨g,h2,h3⟩:=Gq _ a Ps.toList (Ak z len) l ((Array.range (len*zv.cells.size)).map (fun i=>zv.cells[i % zv.cells.size]!)) hi m (by rw [AR];exact VRels.rep h1 len) u;refine BO r o h3 _ _ (.slice (some ⟨W.heap.size,0,none⟩) len len) ?_ ⟨W.heap.size,g.size,fF,rfl⟩;have hb:¬ (16777216<len*n):=by omega
      by_cases j:len*n=0
      .have b:Instr.fill (fun i=>some (i*n,n)) #[] Ps.toList=some g:=by
        rw [<- h2,c,j,uJ];simp
       simp [Instr.buildSlice,aK k,bM hn,j,uJ,b,newRow]
      .have b:Instr.fill (fun i=>some (i*n,n)) ((Array.range (len*n)).map (fun i=>zv.cells[i % zv.cells.size]!)) Ps.toList=some g:=by
        rw [<- h2,c]
       simp [Instr.buildSlice,aK k,bM hn,hb,j,sQ d f,b,newRow]
 .cases e
theorem sU:∀ (k1 k2:List LK) (l m:List AV) (s p:Bool),fU (k1++k2) l m=some (s,p) ->
  ∃ l1 l2 c d g f i p2,l=l1++l2/\m=c++d/\l1.length=k1.length/\c.length=k1.length/\fU k1 l1 c=some (g,f)/\fU k2 l2 d=some (i,p2)/\p=(f&&p2)
 | [],k2,l,m,s,p,h=>⟨[],l,[],m,false,true,s,p,rfl,rfl,rfl,rfl,rfl,h,by simp⟩
 | k :: k1,k2,l,m,s,p,h=>by
  cases l with
  | nil=>simp [fU] at h
  | cons a l=>
   cases m with
   | nil=>simp [fU] at h
   | cons b m=>
    simp only [zf,fU] at h;split at h
    .cases h
    .rename_i j n ha;split at h
     .cases h
     .rename_i sb pb hb;cases h;obtain ⟨l1,l2,c,d,g,f,i,p2,rfl,rfl,h1,h2,h3,o,rfl⟩:=sU k1 k2 l m sb pb hb;exact ⟨a :: l1,l2,b :: c,d,j||g,n&&f,i,p2,rfl,rfl,by simp [h1],by simp [h2],by simp [fU,ha,h3],o,by simp [Bool.and_assoc]⟩
theorem Fv:∀ (c:List LK) (l m:List AV) (s p:Bool),fU c l m=some (s,p)->l.length=c.length/\m.length=c.length
 | [],[],[],_,_,_=>⟨rfl,rfl⟩
 | k :: c,a :: l,b :: m,s,p,h=>by
  simp only [fU] at h;split at h
  .cases h
  .split at h
   .cases h
   .rename_i sb pb hb;have:=Fv c l m sb pb hb;simp [this.1,this.2]
 | [],[],_ :: _,_,_,h=>by simp [fU] at h
 | [],_ :: _,_,_,_,h=>by simp [fU] at h
 | _ :: _,[],_,_,_,h=>by simp [fU] at h
 | _ :: _,_ :: _,[],_,_,h=>by simp [fU] at h
def IsV (P:Program) (t:TypeId) (L:List Value) (X:Value):Prop:=(fB P t=some true/\X=.agg L.toArray)\/(fB P t=some false/\L=[X])
theorem jy {P:Program} {t:TypeId} {l a:List LK} (h:GX P t l=some a):a=l/\iJ P t=some a.length:=by
 unfold GX at h;split at h
 .cases h
 .rename_i n hn;split at h
  .rename_i hb;cases h;exact ⟨rfl,by rw [hn,aP hb]⟩
  .cases h
theorem mI {P:Program} {d:Nat} {t:TypeId} {c:List LK} (h:BC P d t=some c):iJ P t=some c.length/\(fB P t=some true\/(fB P t=some false/\c.length=1)):=by
 cases d with
 | zero=>cases h
 | succ d=>
  simp only [BC] at h;split at h
  .rename_i a;obtain ⟨rfl,b⟩:=jy h;exact ⟨b,.inr ⟨by unfold fB;rw [a],rfl⟩⟩
  .rename_i k a;obtain ⟨rfl,b⟩:=jy h;exact ⟨b,.inr ⟨by unfold fB;rw [a],rfl⟩⟩
  .rename_i a;obtain ⟨rfl,b⟩:=jy h;exact ⟨b,.inr ⟨by unfold fB;rw [a],rfl⟩⟩
  .rename_i f a;split at h
   .cases h
   .split at h
    .cases h
    .obtain ⟨rfl,b⟩:=jy h;exact ⟨b,.inl (by unfold fB;rw [a])⟩
  .rename_i n e a;split at h
   .cases h
   .obtain ⟨rfl,b⟩:=jy h;exact ⟨b,.inl (by unfold fB;rw [a])⟩
  .cases h
theorem BQ {P:Program} {d:Nat} {t:TypeId} {b:List LK} (h:BC P d t=some b) (L:List Value) (off:Nat) (g:off+b.length<=L.length) (W:World):
  ∃ X,(part t L.toArray off).run P W=.ok X W/\IsV P t ((L.drop off).take b.length) X:=by
 obtain ⟨c,f⟩:=mI h;rcases f with ha|⟨ha,h1⟩
 .refine ⟨.agg (L.toArray.extract off (off+b.length)),by simp [part,iH ha,bM c],.inl ⟨ha,?_⟩⟩
  congr 1
  apply kR.1;simp [List.extract]
 .have a:off<L.length:=by omega
  refine ⟨L[off],by simp [part,iH ha,a],.inr ⟨ha,?_⟩⟩;rw [h1,Dn a,List.take_succ_cons,uS]
theorem VRels.split {σ:Sg}:∀ (l m:List AV) {L:List Value},VRels σ (l++m) L->VRels σ l (L.take l.length)/\VRels σ m (L.drop l.length)
 | [],m,L,h=>⟨rfl,h⟩
 | a :: l,m,_,⟨v,E,e,r,s⟩=>by
  obtain ⟨h1,h2⟩:=VRels.split l m s;subst e;exact ⟨⟨v,_,rfl,r,h1⟩,h2⟩
theorem BR {P:Program} {σ:Sg}:∀ (d:Nat) (t:TypeId) (I:List LK),BC P d t=some I->∀ (D:Nat),d<=D->∀ (l m:List AV) (L M:List Value) (X Y:Value) (s p:Bool),
  fU I l m=some (s,p)->VRels σ l L->VRels σ m M->IsV P t L X->IsV P t M Y->∀ W,(Op.equalIn D t X Y).run P W=.ok p W
 | 0,_,_,h,_,_,_,_,_,_,_,_,_,_,_,_,_,_,_,_=>by cases h
 | d+1,t,I,h,D,hD,l,m,L,M,X,Y,s,p,g,O,Q,hX,hY,W=>by
  obtain ⟨D,rfl⟩:∃ E,D=E+1:=⟨D - 1,by omega⟩;have an:=mI h;simp only [BC] at h;have x:∀ k:LK,I=[k]->fB P t=some false->∃ a b,l=[a]/\m=[b]/\VRel σ a X/\VRel σ b Y/\Lh k a b=some (s,p):=by
   intro k r ha;subst r;have N:=Fv _ _ _ _ _ g;obtain ⟨a,rfl⟩:∃ a,l=[a]:=JV.1 N.1;obtain ⟨b,rfl⟩:∃ b,m=[b]:=JV.1 N.2;refine ⟨a,b,rfl,rfl,?_,?_,?_⟩
   .rcases hX with ⟨h1,_⟩|⟨_,rfl⟩
    .rw [ha] at h1;cases h1
    .obtain ⟨v,vs,y,r1,_⟩:=O;cases y;exact r1
   .rcases hY with ⟨h1,_⟩|⟨_,rfl⟩
    .rw [ha] at h1;cases h1
    .obtain ⟨v,vs,y,r1,_⟩:=Q;cases y;exact r1
   .simp only [fU] at g;split at g
    .cases g
    .rename_i s1 p1 h1;simp at g;rw [h1,g.1,g.2]
  split at h
  .rename_i w;obtain ⟨rfl,_⟩:=jy h;obtain ⟨a,b,rfl,rfl,ra,rb,u⟩:=x _ rfl (by unfold fB;rw [w]);simp only [Lh] at u;split at u
   .cases u;obtain rfl:=ra;obtain rfl:=rb;exact run_equalIn_bool W D t _ _ w
   .cases u
  .rename_i k w;obtain ⟨rfl,_⟩:=jy h;obtain ⟨a,b,rfl,rfl,ra,rb,u⟩:=x _ rfl (by unfold fB;rw [w]);simp only [Lh] at u;split at u
   .split at u
    .rename_i r;obtain ⟨rfl,rfl⟩:=r;cases u;obtain rfl:=ra;obtain rfl:=rb;exact run_equalIn_int W D t _ _ _ _ w
    .cases u
   .cases u
  .rename_i w;obtain ⟨rfl,_⟩:=jy h;obtain ⟨a,b,rfl,rfl,ra,rb,u⟩:=x _ rfl (by unfold fB;rw [w]);simp only [Lh] at u;split at u
   .cases u;obtain rfl:=ra;obtain rfl:=rb;rw [run_equalIn_string W D t _ _ w,wu,beq_toListBytes]
   .cases u
  .rename_i fs w;split at h
   .cases h
   .rename_i ai;split at h
    .cases h
    .rename_i l' aj;obtain ⟨rfl,_⟩:=jy h;have q:fB P t=some true:=by unfold fB;rw [w]
     obtain rfl:X=.agg L.toArray:=by
      rcases hX with ⟨_,e⟩|⟨e,_⟩
      .exact e
      .rw [q] at e;cases e
     obtain rfl:Y=.agg M.toArray:=by
      rcases hY with ⟨_,e⟩|⟨e,_⟩
      .exact e
      .rw [q] at e;cases e
     have hF:P.fieldsOf t=fs:=by unfold Program.fieldsOf;rw [w]
     rw [run_equalIn_struct W D t _ _ (by rw [hF];exact w) ai,hF];have aa:∀ (gs:List Field) (off:Nat) (I:List LK),Lg (BC P d) off gs=some I->∀ (l m:List AV) (s p:Bool),fU I l m=some (s,p)->VRels σ l (L.drop off)->VRels σ m (M.drop off) ->
       (Op.eqFields D L.toArray M.toArray gs).run P W=.ok p W:=by
      intro gs
      induction gs with
      | nil=>
       intro off I r l m s p g _ _;cases r;cases l <;> cases m <;> simp [fU] at g;simp [Op.eqFields,g]
      | cons f gs ih=>
       intro off I r l m s p g O Q;simp only [Lg] at r;split at r
       .cases r
       .rename_i z;split at r
        .cases r
        .rename_i af;split at r
         .cases r
         .rename_i k1 c;split at r
          .cases r
          .rename_i k2 ag;cases r;obtain rfl:=aP af;obtain ⟨l1,l2,m1,m2,s1,p1,s2,p2,rfl,rfl,J,K,y,e2,rfl⟩:=sU k1 k2 l m s p g;obtain ⟨a1,a2⟩:=VRels.split l1 l2 O;obtain ⟨b1,b2⟩:=VRels.split m1 m2 Q;have A:=VRels.length a1;have F:=VRels.length b1;simp only [dD,iq] at A F;by_cases hz:k1.length=0
           .-- a ak ah cells
            obtain rfl:k1=[]:=gK.1 hz;obtain rfl:l1=[]:=gK.1 J;obtain rfl:m1=[]:=gK.1 K;simp [fU] at y;obtain ⟨rfl,rfl⟩:=y;have o:fB P f.type=some true:=by
             rcases (mI c).2 with h1|⟨_,h1⟩
             .exact h1
             .simp at h1
            have H:=(mI c).1;have ab:(part f.type L.toArray f.offset).run P W=.ok (.agg #[]) W:=by simp [part,iH o,bM H]
            have ac:(part f.type M.toArray f.offset).run P W=.ok (.agg #[]) W:=by simp [part,iH o,bM H]
            have hq:=BR (σ:=σ) d f.type [] c D (by omega) [] [] [] [] (.agg #[]) (.agg #[]) false true rfl rfl rfl (.inl ⟨o,rfl⟩) (.inl ⟨o,rfl⟩) W;have hr:=ih f.offset k2 (by simpa using ag) l2 m2 s2 p2 e2 (by simpa using a2) (by simpa using b2);have ae:f.name≠"_" :=by simpa using z
            simp [Op.eqFields,ae,ab,ac,hq,hr]
           .obtain ⟨X1,x1,x2⟩:=BQ c L f.offset (by omega) W;obtain ⟨Y1,y1,y2⟩:=BQ c M f.offset (by omega) W;have hq:=BR (σ:=σ) d f.type k1 c D (by omega) l1 m1 _ _ X1 Y1 s1 p1 y (by rw [<- J];exact a1) (by rw [<- K];exact b1) x2 y2 W;have hr:=ih (f.offset+k1.length) k2 ag l2 m2 s2 p2 e2 (by rw [<- J,<- nk];exact a2) (by rw [<- K,<- nk];exact b2);have ae:f.name≠"_" :=by simpa using z
            cases p1 <;> simp [Op.eqFields,ae,x1,y1,hq,hr]
     exact aa fs.toList 0 _ aj l m s p g (by simpa using O) (by simpa using Q)
  .rename_i n e w;split at h
   .cases h
   .rename_i k1 c;obtain ⟨rfl,_⟩:=jy h;have q:fB P t=some true:=by unfold fB;rw [w]
    obtain rfl:X=.agg L.toArray:=by
     rcases hX with ⟨_,e⟩|⟨e,_⟩
     .exact e
     .rw [q] at e;cases e
    obtain rfl:Y=.agg M.toArray:=by
     rcases hY with ⟨_,e⟩|⟨e,_⟩
     .exact e
     .rw [q] at e;cases e
    obtain ⟨i,hi,al⟩:=mH (mI c).1;have hc:P.cellsOf e=k1.length:=by simp [Program.cellsOf,hi,al]
    rw [run_equalIn_array W D _ _ w hi,hc];have aa:∀ (k j:Nat) (l m:List AV) (s p:Bool),fU (Ak k1 k) l m=some (s,p)->VRels σ l (L.drop (j*k1.length))->VRels σ m (M.drop (j*k1.length)) ->
      (Op.eqItems D e k1.length L.toArray M.toArray (List.range' j k)).run P W=.ok p W:=by
     intro k
     induction k with
     | zero=>
      intro j l m s p g _ _;cases l <;> cases m <;> simp [fU,Ak] at g;simp [Op.eqItems,g]
     | succ k ih=>
      intro j l m s p g O Q;simp only [Ak] at g;obtain ⟨l1,l2,m1,m2,s1,p1,s2,p2,rfl,rfl,J,K,y,e2,rfl⟩:=sU k1 _ l m s p g;obtain ⟨a1,a2⟩:=VRels.split l1 l2 O;obtain ⟨b1,b2⟩:=VRels.split m1 m2 Q;have A:=VRels.length a1;have F:=VRels.length b1;simp only [dD,iq] at A F;have hr:=ih (j+1) l2 m2 s2 p2 e2 (by rw [dR,Nat.one_mul,<- J,<- nk,J];rw [J] at a2;exact a2) (by rw [dR,Nat.one_mul,<- K,<- nk,K];rw [K] at b2;exact b2);by_cases hz:k1.length=0
      .obtain rfl:k1=[]:=gK.1 hz;obtain rfl:l1=[]:=gK.1 J;obtain rfl:m1=[]:=gK.1 K;simp [fU] at y;obtain ⟨rfl,rfl⟩:=y;have o:fB P e=some true:=by
        rcases (mI c).2 with h1|⟨_,h1⟩
        .exact h1
        .simp at h1
       have H:=(mI c).1;have ab:(part e L.toArray (j*0)).run P W=.ok (.agg #[]) W:=by simp [part,iH o,bM H]
       have ac:(part e M.toArray (j*0)).run P W=.ok (.agg #[]) W:=by simp [part,iH o,bM H]
       have hq:=BR (σ:=σ) d e [] c D (by omega) [] [] [] [] (.agg #[]) (.agg #[]) false true rfl rfl rfl (.inl ⟨o,rfl⟩) (.inl ⟨o,rfl⟩) W;simp only [DJ,Op.eqItems,mY,bO,ab,ac,hq,bR];simpa using hr
      .obtain ⟨X1,x1,x2⟩:=BQ c L (j*k1.length) (by omega) W;obtain ⟨Y1,y1,y2⟩:=BQ c M (j*k1.length) (by omega) W;have hq:=BR (σ:=σ) d e k1 c D (by omega) l1 m1 _ _ X1 Y1 s1 p1 y (by rw [J] at a1;exact a1) (by rw [K] at b1;exact b1) x2 y2 W;simp only [DJ,Op.eqItems,bO,x1,y1,hq,bR];cases p1
       .simp
       .simpa using hr
    rw [List.range_eq_range'];exact aa n 0 l m s p g (by simpa using O) (by simpa using Q)
  .cases h
theorem ou {P:Program} {t:TypeId} {A B:Value} {p:Bool} {W:World} (a:∀ d,(Op.equalIn (d+1) t A B).run P W=.ok p W) (h1:binOp .eql t A B=(do pure (.bool (<- Op.equal t A B)))) (h2:binOp .neq t A B=(do pure (.bool (!(<- Op.equal t A B))))):
  (binOp .eql t A B).run P W=.ok (.bool p) W/\(binOp .neq t A B).run P W=.ok (.bool !p) W:=by
 have h3:(Op.equal t A B).run P W=.ok p W:=a 9999;rw [h1,h2];simp [h3]
def VB (P:Program) (t:TypeId) (A B:Value) (p:Bool) (x y:Operand) (W:World):Prop:=
 (eqGuard .eql t x y A B).run P W=.ok () W/\(eqGuard .neq t x y A B).run P W=.ok () W/\(binOp .eql t A B).run P W=.ok (.bool p) W/\(binOp .neq t A B).run P W=.ok (.bool !p) W
theorem XW {P:Program} {σ:Sg} {t f:TypeId} (c:P.underlying t=some (.pointer f)) {a b:AV} {A B:Value} (ha:VRel σ a A) (hb:VRel σ b B) {s p:Bool} (e:XH a b=some (s,p)) (x y:Operand) (W:World):VB P t A B p x y W:=by
 unfold XH at e;split at e <;> cases e
 .obtain rfl:=ha;obtain rfl:=hb;exact ⟨rfl,rfl,ou (fun d=>by simp [Op.equalIn,aK c]) rfl rfl⟩
 .obtain rfl:=ha;obtain ⟨_,_,_,rfl⟩:=hb;exact ⟨rfl,rfl,ou (fun d=>by simp [Op.equalIn,aK c]) rfl rfl⟩
 .obtain ⟨_,_,_,rfl⟩:=ha;obtain rfl:=hb;exact ⟨rfl,rfl,ou (fun d=>by simp [Op.equalIn,aK c]) rfl rfl⟩
theorem AU {P:Program} {σ:Sg} {t h:TypeId} (f:P.underlying t=some (.slice h)) {a b:AV} {A B:Value} (ha:VRel σ a A) (hb:VRel σ b B) {s p:Bool} (e:Li a b=some (s,p)) (x y:Operand) (W:World):VB P t A B p x y W:=by
 unfold Li at e;split at e <;> cases e
 .obtain rfl:=ha;obtain rfl:=hb;exact ⟨rfl,rfl,ou (fun d=>by simp [Op.equalIn,aK f]) rfl rfl⟩
 .obtain rfl:=ha;obtain ⟨_,_,_,rfl⟩:=hb;exact ⟨rfl,rfl,ou (fun d=>by simp [Op.equalIn,aK f]) rfl rfl⟩
 .obtain ⟨_,_,_,rfl⟩:=ha;obtain rfl:=hb;exact ⟨rfl,rfl,ou (fun d=>by simp [Op.equalIn,aK f]) rfl rfl⟩
 .obtain rfl:=ha;obtain ⟨_,_,_,_,_,rfl,_⟩:=hb;exact ⟨rfl,rfl,ou (fun d=>by simp [Op.equalIn,aK f]) rfl rfl⟩
 .obtain ⟨_,_,_,_,_,rfl,_⟩:=ha;obtain rfl:=hb;exact ⟨rfl,rfl,ou (fun d=>by simp [Op.equalIn,aK f]) rfl rfl⟩
 .obtain rfl:=ha;obtain ⟨a,_,rfl,rfl⟩:=hb;cases a <;> exact ⟨rfl,rfl,ou (fun d=>by simp [Op.equalIn,aK f]) rfl rfl⟩
 .obtain ⟨a,_,rfl,rfl⟩:=ha;obtain rfl:=hb;cases a <;> exact ⟨rfl,rfl,ou (fun d=>by simp [Op.equalIn,aK f]) rfl rfl⟩
 .obtain rfl:=ha;obtain ⟨p,len,c,rfl,_,h3,g⟩:=hb;rcases g with g|⟨_,_,_,rfl⟩
  .omega
  .exact ⟨rfl,rfl,ou (fun d=>by simp [Op.equalIn,aK f]) rfl rfl⟩
 .obtain ⟨p,len,c,rfl,_,h3,g⟩:=ha;obtain rfl:=hb;rcases g with g|⟨_,_,_,rfl⟩
  .omega
  .exact ⟨rfl,rfl,ou (fun d=>by simp [Op.equalIn,aK f]) rfl rfl⟩
theorem VC {P:Program} {σ:Sg} {t:TypeId} {f g:Array TypeId} {h:Bool} (c:P.underlying t=some (.func f g h)) {a b:AV} {A B:Value} (ha:VRel σ a A) (hb:VRel σ b B) {s p:Bool} (e:Q0 a b=some (s,p)) (x y:Operand) (W:World):VB P t A B p x y W:=by
 unfold Q0 at e;split at e <;> cases e
 .obtain rfl:=ha;obtain rfl:=hb;exact ⟨rfl,rfl,ou (fun d=>by simp [Op.equalIn,aK c]) rfl rfl⟩
 .obtain rfl:=ha;obtain ⟨_,_,rfl,_⟩:=hb;exact ⟨rfl,rfl,ou (fun d=>by simp [Op.equalIn,aK c]) rfl rfl⟩
 .obtain ⟨_,_,rfl,_⟩:=ha;obtain rfl:=hb;exact ⟨rfl,rfl,ou (fun d=>by simp [Op.equalIn,aK c]) rfl rfl⟩
theorem Rh {P:Program} {σ:Sg} {t:TypeId} {f:Array (String×TypeId)} (c:P.underlying t=some (.interface f)) {a b:AV} {A B:Value} (ha:VRel σ a A) (hb:VRel σ b B) {s p:Bool} (e:Lj f.isEmpty a b=some (s,p)) (x y:Operand) (W:World):VB P t A B p x y W:=by
 unfold Lj at e;split at e
 .cases h:f.isEmpty with
  | false=>rw [h] at e;cases e
  | true=>
   rw [h] at e;cases e;obtain rfl:=ha;obtain rfl:=hb;have j:∀ d,(Op.eqGuardIn (d+1) t .nilIface .nilIface).run P W=.ok false W:=fun d=>by
    simp [Op.eqGuardIn,aK c,h]
   have g:(Op.eqGuardIn Op.maxDepth t .nilIface .nilIface).run P W=.ok false W:=j 9999;have i:∀ op,op=.eql\/op=.neq->(eqGuard op t x y .nilIface .nilIface).run P W=.ok () W:=by
    intro op k;rcases k with rfl|rfl <;>
    .simp only [eqGuard];split
     .rfl
     .simp [g]
   refine ⟨i _ (.inl rfl),i _ (.inr rfl),ou (fun d=>by simp [Op.equalIn,aK c]) rfl rfl⟩
 .cases e;obtain rfl:=ha;obtain ⟨_,rfl,_⟩:=hb;exact ⟨rfl,rfl,ou (fun d=>by simp [Op.equalIn,aK c]) rfl rfl⟩
 .cases e;obtain ⟨_,rfl,_⟩:=ha;obtain rfl:=hb;exact ⟨rfl,rfl,ou (fun d=>by simp [Op.equalIn,aK c]) rfl rfl⟩
 .cases e
theorem Oe {P:Program} {σ:Sg} {t:TypeId} (c:fB P t=some true) {a b:AV} {A B:Value} (ha:VRel σ a A) (hb:VRel σ b B) {s p:Bool} (e:TC P t a b=some (s,p)) (x y:Operand) (W:World):VB P t A B p x y W:=by
 unfold TC at e;split at e
 .split at e
  .cases e
  .rename_i f;split at e
   .cases e
   .rename_i g h;obtain ⟨K,rfl,i⟩:=ha;obtain ⟨M,rfl,j⟩:=hb;have hq:=BR (σ:=σ) 20 t g h 10000 (by omega) _ _ K.toList M.toList (.agg K) (.agg M) s p e i j (.inl ⟨c,by simp⟩) (.inl ⟨c,by simp⟩) W;have d:(Op.equal t (.agg K) (.agg M)).run P W=.ok p W:=hq;refine ⟨run_eqGuard_agg W .eql t x y K M f,run_eqGuard_agg W .neq t x y K M f,?_,?_⟩
    .rw [run_eql_struct,hq];rfl
    .have:binOp .neq t (.agg K) (.agg M)=(do pure (.bool (!(<- Op.equal t (.agg K) (.agg M))))):=rfl;rw [this];simp [d]
 .cases e
theorem XX {P:Program} {σ:Sg} {t:TypeId} {a b:AV} {A B:Value} (ha:VRel σ a A) (hb:VRel σ b B) {s p:Bool} (e:eqV P t a b=some (s,p)) (x y:Operand) (W:World):VB P t A B p x y W:=by
 unfold eqV at e;split at e
 .rename_i c;simp only [Lh] at e;split at e
  .cases e;obtain rfl:=ha;obtain rfl:=hb;exact ⟨rfl,rfl,run_eql_bool W t _ _ c,run_neq_bool W t _ _ c⟩
  .cases e
 .rename_i c;simp only [Lh] at e;split at e
  .cases e;obtain rfl:=ha;obtain rfl:=hb;refine ⟨rfl,rfl,?_,?_⟩ <;> simp [binOp,Op.stringOp,wu,beq_toListBytes]
  .cases e
 .rename_i d c;exact XW c ha hb e x y W
 .rename_i d c;exact AU c ha hb e x y W
 .rename_i c;exact VC c ha hb e x y W
 .rename_i f c;exact Oe (by unfold fB;rw [c]) ha hb e x y W
 .rename_i n d c;exact Oe (by unfold fB;rw [c]) ha hb e x y W
 .rename_i g c;exact Rh c ha hb e x y W
 .cases e
def Fw (P:Program) (σ:Sg) (op:BinOp) (t:TypeId) (x y:Operand) (A B:Value) (v:AV) (W:World):Prop:=
 ∃ V,(eqGuard op t x y A B).run P W=.ok () W/\(binOp op t A B).run P W=.ok V W/\VRel σ v V
theorem adF {P:Program} {σ:Sg} {op:BinOp} {t:TypeId} {a b:AV} {A B:Value} (ha:VRel σ a A) (hb:VRel σ b B) {nd:Nd} {v:AV} (e:cmpV P op t a b=some (nd,v)) (x y:Operand) (W:World):Fw P σ op t x y A B v W:=by
 unfold cmpV at e;split at e
 .split at e
  .cases e
  .rename_i s p h;cases e;obtain ⟨h1,h2,h3,c⟩:=XX ha hb h x y W;exact ⟨_,h1,h3,by simp⟩
 .split at e
  .cases e
  .rename_i s p h;cases e;obtain ⟨h1,h2,h3,c⟩:=XX ha hb h x y W;exact ⟨_,h2,c,by simp⟩
 .cases e
theorem adG {P:Program} {σ:Sg} {op:BinOp} {t:TypeId} {a b:AV} {A B:Value} (ha:VRel σ a A) (hb:VRel σ b B) {nd:Nd} {v:AV} (e:aiZ P op t a b=some (nd,v)) (hn:nd.val) (x y:Operand) (W:World):Fw P σ op t x y A B v W:=by
 unfold aiZ at e;split at e
 .rename_i i n;split at e
  .rename_i k g;split at e
   .cases e;have hn:0<n:=hn;obtain ⟨p,len,c,rfl,d,hp⟩:=ha;have f:VRel σ (.pslice i (len - 1+1) false n) (.slice p len c):=⟨p,len,c,rfl,d,by omega,hp.imp (fun h=>by omega) id⟩;obtain ⟨h1,h2,h3,j⟩:=AU g f hb (s:=false) (p:=false) rfl x y W;exact ⟨_,h1,h3,rfl⟩
   .cases e;have hn:0<n:=hn;obtain ⟨p,len,c,rfl,d,hp⟩:=ha;have f:VRel σ (.pslice i (len - 1+1) false n) (.slice p len c):=⟨p,len,c,rfl,d,by omega,hp.imp (fun h=>by omega) id⟩;obtain ⟨h1,h2,h3,j⟩:=AU g f hb (s:=false) (p:=false) rfl x y W;exact ⟨_,h2,j,rfl⟩
   .cases e
  .cases e
 .cases e
theorem J6 {P:Program} {σ:Sg} {op:BinOp} {s:Bool} {k:IntKind} {m n:Int} {v:AV} (e:Lf op s k m n=some v) (t:TypeId) (x y:Operand) (W:World):Fw P σ op t x y (.int k m) (.int k n) v W:=by
 unfold Lf at e;split at e <;> first|cases e;done|skip
 all_goals
  cases e;refine ⟨_,by simp [uT],by simp [binOp,Op.intArith,Op.intBits,Op.intCmp];rfl,by simp⟩
theorem J7 {P:Program} {σ:Sg} {op:BinOp} (i:op=.shl\/op=.shr) {t:TypeId} {a b:AV} {A B:Value} (ha:VRel σ a A) (hb:VRel σ b B) {nd:Nd} {v:AV} (e:Ll op a b=some (nd,v)) (hn:nd.val) (x y:Operand) (W:World):
  Fw P σ op t x y A B v W:=by
 unfold Ll at e;split at e
 .rename_i s k m s' j n;obtain rfl:=ha;obtain rfl:=hb;have c:∀ (s:Bool) (v:AV),0<=n->BB op s k m (min n.toNat k.bits)=some v->Fw P σ op t x y (.int k m) (.int j n) v W:=by
   intro s v l h;have d:¬ n<0:=by omega
   unfold BB at h;split at h
   .cases h;exact ⟨_,by simp [uT],by simp [binOp,Op.shift,d];rfl,by simp⟩
   .cases h;exact ⟨_,by simp [uT],by simp [binOp,Op.shift,d];rfl,by simp⟩
   .cases h
  split at e
  .split at e
   .cases e
   .rename_i f;split at e
    .cases e
    .rename_i w g;cases e;exact c s v (by simpa using f) g
  .split at e
   .cases e
   .rename_i w g;cases e;exact c true v hn g
 .cases e
theorem TR {P:Program} {σ:Sg} {op:BinOp} (g:op=.quo\/op=.rem) {t:TypeId} {a b:AV} {A B:Value} (ha:VRel σ a A) (hb:VRel σ b B) {nd:Nd} {v:AV} (e:adv op a b=some (nd,v)) (hn:nd.val) (x y:Operand) (W:World):
  Fw P σ op t x y A B v W:=by
 unfold adv at e;split at e
 .rename_i s k m s' l n;obtain rfl:=ha;obtain rfl:=hb;split at e
  .rename_i i;subst i;have c:∀ (s:Bool) (v:AV),n≠0->Lm op s k m n=some v->Fw P σ op t x y (.int k m) (.int k n) v W:=by
    intro s v d h;unfold Lm at h;split at h
    .cases h;exact ⟨_,by simp [uT],by simp [binOp,Op.intDiv,d];rfl,by simp⟩
    .cases h;exact ⟨_,by simp [uT],by simp [binOp,Op.intDiv,d];rfl,by simp⟩
    .cases h
   split at e
   .split at e
    .cases e
    .rename_i j;split at e
     .cases e
     .rename_i w f;cases e;exact c s v (by simpa using j) f
   .split at e
    .cases e
    .rename_i w f;cases e;exact c true v hn f
  .cases e
 .cases e
theorem adH {P:Program} {σ:Sg} {op:BinOp} {t:TypeId} {a b:AV} {A B:Value} (ha:VRel σ a A) (hb:VRel σ b B) {nd:Nd} {v:AV} (e:adw P op t a b=some (nd,v)) (hn:nd.val) (x y:Operand) (W:World):
  Fw P σ op t x y A B v W:=by
 unfold adw at e;split at e
 .exact J7 (.inl rfl) ha hb e hn x y W
 .exact J7 (.inr rfl) ha hb e hn x y W
 .exact TR (.inl rfl) ha hb e hn x y W
 .exact TR (.inr rfl) ha hb e hn x y W
 .unfold XI at e;split at e
  .rename_i s k m s' f n;obtain rfl:=ha;obtain rfl:=hb;split at e
   .rename_i c;subst c;split at e
    .cases e
    .rename_i w d;cases e;exact J6 d t x y W
   .cases e
  .split at e
   .rename_i r h;cases e;exact adG ha hb h hn x y W
   .exact adF ha hb e x y W
theorem ai2 {P:Program} {σ:Sg} {op:UnOp} {a v:AV} {A:Value} (ha:VRel σ a A) (e:unV op a=some v) (W:World):∃ V,(Op.unary op A).run P W=.ok V W/\VRel σ v V:=by
 unfold unV at e;split at e
 .rename_i s k n;obtain rfl:=ha;split at e
  .cases e;exact ⟨.int k (k.wrap (0 - n)),by simp [Op.unary,Op.intArith],by simp⟩
  .obtain ⟨V,_,h2,h3⟩:=J6 (P:=P) (σ:=σ) e 0 (.const undef) (.const undef) W;refine ⟨V,?_,h3⟩;simp only [binOp] at h2;simpa [Op.unary] using h2
  .cases e
 .rename_i s b;obtain rfl:=ha;split at e
  .cases e;exact ⟨.bool !b,by simp [Op.unary],by simp⟩
  .cases e
 .cases e
theorem XY {P:Program} {σ:Sg} {b dst:TypeId} {a v:AV} {A:Value} (ha:VRel σ a A) (e:TD P b dst a=some v) (W:World):∃ V,(convert b dst A).run P W=.ok V W/\VRel σ v V:=by
 unfold TD at e;split at e
 .rename_i s k n;obtain rfl:=ha;split at e
  .cases e
  .rename_i d c;split at e
   .rename_i f hd;cases e;refine ⟨.int f (f.wrap n),?_,by simp⟩;simp [convert,aK c,aK hd,Conv.intToInt]
   .cases e
 .cases e
theorem iG (B o n:Nat):(⟨B,o,none⟩:Addr).add n=⟨B,o+n,none⟩:=by unfold Addr.add;split <;> simp_all
theorem vg {len:Nat} {s:Bool} {i:Int} {nd:Nd} {j:Nat} (e:xD len s i=some (nd,j)) (hn:nd.val):(0<=i/\i<len)/\j=i.toNat:=by
 unfold xD at e;split at e
 .split at e
  .rename_i h;cases e;exact ⟨h,rfl⟩
  .cases e
 .cases e;exact ⟨hn,rfl⟩
theorem LW {P:Program} {σ:Sg} {t:TypeId} {x ix v:AV} {X I:Value} (m:VRel σ x X) (hi:VRel σ ix I) {nd:Nd} (e:vR P t x ix=some (nd,v)) (hn:nd.val) (W:World):
  ∃ V,(Instr.indexAt t X I).run P W=.ok V W/\VRel σ v V:=by
 unfold vR at e;split at e
 .rename_i s k i;obtain rfl:=hi;split at e
  .rename_i len f id off g;obtain ⟨B,N,a,rfl⟩:=m;split at e
   .rename_i n q j d hb;have b:∀ h,h=nd->q=nd->∃ V,(Instr.indexAt t (.pointer (some ⟨B,off,none⟩)) (.int k i)).run P W=.ok V W/\V=.pointer (some ⟨B,off+j*n,none⟩):=by
     intro _ _ hq;subst hq;obtain ⟨h1,rfl⟩:=vg hb hn;exact ⟨_,by simp [Instr.indexAt,asIntOf,aK g,Instr.sureAddr,h1.1,h1.2,bM d,iG];rfl,by rfl⟩
    split at e <;> cases e
    .obtain ⟨V,h1,rfl⟩:=b _ rfl rfl;exact ⟨_,h1,by simp only [xG,cK];exact ⟨B,N,a,rfl⟩⟩
    .obtain ⟨V,h1,rfl⟩:=b _ rfl rfl;exact ⟨_,h1,B,N,a,rfl⟩
   .cases e
  .rename_i f id off len cap g;obtain ⟨B,N,a,rfl⟩:=m;split at e
   .rename_i n q j d hb;have b:∀ h,h=nd->q=nd->∃ V,(Instr.indexAt t (.slice (some ⟨B,off,none⟩) len cap) (.int k i)).run P W=.ok V W/\V=.pointer (some ⟨B,off+j*n,none⟩):=by
     intro _ _ hq;subst hq;obtain ⟨h1,rfl⟩:=vg hb hn;exact ⟨_,by simp [Instr.indexAt,asIntOf,aK g,h1.1,h1.2,bM d,iG];rfl,by rfl⟩
    split at e <;> cases e
    .obtain ⟨V,h1,rfl⟩:=b _ rfl rfl;exact ⟨_,h1,by simp only [xG,cK];exact ⟨B,N,a,rfl⟩⟩
    .obtain ⟨V,h1,rfl⟩:=b _ rfl rfl;exact ⟨_,h1,B,N,a,rfl⟩
   .cases e
  .rename_i f id len g;obtain ⟨B,N,c,a,rfl⟩:=m;split at e
   .rename_i n q j d hb;have b:∀ h,h=nd->q=nd->∃ V,(Instr.indexAt t (.slice (some ⟨B,N,none⟩) len c) (.int k i)).run P W=.ok V W/\V=.pointer (some ⟨B,N+j*n,none⟩):=by
     intro _ _ hq;subst hq;obtain ⟨h1,rfl⟩:=vg hb hn;exact ⟨_,by simp [Instr.indexAt,asIntOf,aK g,h1.1,h1.2,bM d,iG];rfl,by rfl⟩
    split at e <;> cases e
    .obtain ⟨V,h1,rfl⟩:=b _ rfl rfl;exact ⟨_,h1,by simp only [cK];exact ⟨B,N,a,rfl⟩⟩
    .obtain ⟨V,h1,rfl⟩:=b _ rfl rfl;exact ⟨_,h1,B,N,a,rfl⟩
   .cases e
  .rename_i f id l K L g;obtain ⟨p,len,c,rfl,E,F,hp⟩:=m;split at e
   .split at e
    .rename_i n q j d hb;cases e;obtain ⟨h1,rfl⟩:=vg hb hn;have u:l≠0:=by omega
     rcases hp with hp|⟨B,N,a,rfl⟩
     .exact absurd hp u
     .have h2:i<(len:Int):=by omega
      exact ⟨.pointer (some ⟨B,N+i.toNat*n,none⟩),by simp [Instr.indexAt,asIntOf,aK g,h1.1,h2,bM d,iG],by simp only [cK];exact ⟨B,N,a,rfl⟩⟩
    .cases e
   .cases e
  .rename_i f id off len M g;obtain ⟨B,N,H,c,a,rfl,hq,O⟩:=m;split at e
   .rename_i n q j d hb;split at e
    .rename_i y;subst y;have b:∀ h,h=nd->q=nd->∃ V,(Instr.indexAt t (.slice (some ⟨B,H,none⟩) len c) (.int k i)).run P W=.ok V W/\V=.pointer (some ⟨B,off+j*n,none⟩):=by
      intro _ _ z;subst z;obtain ⟨h1,rfl⟩:=vg hb hn;obtain ⟨rfl,_⟩:=hq (by omega);exact ⟨_,by simp [Instr.indexAt,asIntOf,aK g,h1.1,h1.2,bM d,iG];rfl,by rfl⟩
     split at e <;> cases e
     .obtain ⟨V,h1,rfl⟩:=b _ rfl rfl;exact ⟨_,h1,by simp only [xG,cK];exact ⟨B,N,a,rfl⟩⟩
     .obtain ⟨V,h1,rfl⟩:=b _ rfl rfl;exact ⟨_,h1,B,N,a,rfl⟩
    .cases e
   .cases e
  .rename_i f id n g;obtain ⟨p,len,c,rfl,⟨J,A⟩,hp⟩:=m;split at e
   .rename_i d;cases e;obtain ⟨r,h1⟩:=hn;have h2:i<(len:Int):=by omega
    rcases hp with hp|⟨B,N,a,rfl⟩
    .omega
    .exact ⟨.pointer (some ⟨B,N+i.toNat*1,none⟩),by simp [Instr.indexAt,asIntOf,aK g,r,h2,bM d,iG],B,N,a,by rw [rX]⟩
   .cases e
  .rename_i f w id o n g;obtain ⟨p,len,c,rfl,⟨J,A⟩,hp⟩:=m;split at e
   .rename_i d;have b:0<=i->i<n->∃ B N q:Nat,σ id=some (B,N)/\(q:Int)=(bif w then 0 else (N:Int))+o/\(Instr.indexAt t (.slice p len c) (.int k i)).run P W=.ok (.pointer (some ⟨B,q+i.toNat,none⟩)) W:=by
     intro r h1;have h2:i<(len:Int):=by omega
     rcases hp with hp|⟨B,N,a,q,rfl,hq,_⟩
     .omega
     .exact ⟨B,N,q,a,hq,by simp [Instr.indexAt,asIntOf,aK g,r,h2,bM d,iG]⟩
    split at e
    .cases e;obtain ⟨r,h1⟩:=hn;obtain ⟨B,N,q,a,hq,D⟩:=b r h1;refine ⟨_,D,B,N,a,?_⟩;rw [show (o+i).toNat=q+i.toNat by simp only [aQ] at hq;omega]
    .cases e;obtain ⟨Q,r,h1⟩:=hn;obtain ⟨B,N,q,a,hq,D⟩:=b r h1;refine ⟨_,D,B,N,a,?_⟩;rw [show q+i.toNat=N+(o+i).toNat by simp only [aR] at hq;omega]
   .cases e
  .rename_i len f id off g;obtain ⟨B,N,a,rfl⟩:=m;split at e
   .split at e
    .rename_i n q j d hb;cases e;obtain ⟨h1,rfl⟩:=vg hb hn;exact ⟨.pointer (some ⟨B,N+off+i.toNat*n,none⟩),by simp [Instr.indexAt,asIntOf,aK g,Instr.sureAddr,h1.1,h1.2,bM d,iG],by simp only [cK];exact ⟨B,N,a,by rw [rW]⟩⟩
    .cases e
   .cases e
  .cases e
 .cases e
theorem Og {P:Program} {σ:Sg} {t:TypeId} {x ix v:AV} {X I:Value} (g:VRel σ x X) (hi:VRel σ ix I) (e:G5 P t x ix=some v) (W:World):
  ∃ V,(Instr.index t X I).run P W=.ok V W/\VRel σ v V:=by
 unfold G5 at e;split at e
 .rename_i k i cs;obtain rfl:=hi;obtain ⟨K,rfl,m⟩:=g;split at e
  .rename_i len j d;split at e
   .cases e
   .rename_i n f;split at e
    .rename_i hb;obtain ⟨V,h1,h2⟩:=part_ok (P:=P) m e W;have:K.toList.toArray=K:=by simp
     rw [this] at h1;exact ⟨V,by simp [Instr.index,asIntOf,aK d,hb.1,hb.2,bM f,h1],h2⟩
    .cases e
  .cases e
 .rename_i k i b;obtain rfl:=hi;obtain rfl:=g;split at e
  .rename_i d;split at e
   .rename_i hb;split at e
    .rename_i c a;cases e;have o:b[i.toNat]?=some c:=by
      have l:i.toNat<b.size:=by
       rcases aX i.toNat b.size with h|h
       .exact h
       .have:b.data.toList.length<=i.toNat:=h;rw [dB this] at a;cases a
      rw [getElem?_pos b i.toNat l];have:b.data.toList[i.toNat]?=some b[i.toNat]:=by rw [dh (by exact l)];rfl
      rw [this] at a;exact a
     exact ⟨.int .u8 c.toNat,by simp [Instr.index,asIntOf,aK d,hb,o],rfl⟩
    .cases e
   .cases e
  .cases e
 .cases e
theorem XZ {P:Program} {σ:Sg} {t:TypeId} {x v:AV} {X:Value} {f:Nat} (a:VRel σ x X) (e:Lr P t x f=some v) (W:World):
  ∃ V,(Instr.field t X f).run P W=.ok V W/\VRel σ v V:=by
 unfold Lr at e;split at e
 .rename_i g cs b;obtain ⟨K,rfl,c⟩:=a;split at e
  .cases e
  .rename_i h d;obtain ⟨V,h1,h2⟩:=part_ok (P:=P) c e W;have:K.toList.toArray=K:=by simp
   rw [this] at h1;exact ⟨V,by simp [Instr.field,aK b,d,asAgg,h1],h2⟩
 .cases e
theorem LX {P:Program} {σ:Sg} {t:TypeId} {x v:AV} {X:Value} {f:Nat} (c:VRel σ x X) (e:vU P t x f=some v) (W:World):
  ∃ V,(Instr.fieldAt t X f).run P W=.ok V W/\VRel σ v V:=by
 unfold vU at e;split at e
 .rename_i i id off d;obtain ⟨B,N,a,rfl⟩:=c;split at e
  .cases e
  .rename_i g h;split at e
   .rename_i m b;cases e;refine ⟨.pointer (some ⟨B,off+g.offset,none⟩),by simp [Instr.fieldAt,aK d,h,Instr.sureAddr,fieldPlace,bM b,iG],?_⟩;simp only [xG,cK];exact ⟨B,N,a,rfl⟩
   .cases e
 .cases e
theorem Oh {P:Program} {σ:Sg} {h:Hp} {W:World} (r:HRel σ h W) {a:AV} {A:Value} (ha:VRel σ a A) {q:S1} (e:o8 h a=some q) {T:Array Value} {x:Operand} (c:ev T x=A) {o:Oper} (d:o.op=.nilCheck x):
  OpOk P (execOp (ev T) o) σ h W q:=by
 unfold o8 at e;split at e
 .cases e;obtain ⟨B,N,b,rfl⟩:=ha;exact OpOk.pure r fun _=>⟨_,by simp [execOp,d,c],B,N,b,rfl⟩
 .cases e;obtain ⟨F,K,rfl,h1,h2⟩:=ha;exact OpOk.pure r fun _=>⟨_,by simp [execOp,d,c],F,K,rfl,h1,h2⟩
 .cases e
theorem Rj {P:Program} {σ:Sg} {h:Hp} {W:World} (r:HRel σ h W) {a:AV} {A:Value} (ha:VRel σ a A) {i:Nat} {q:S1} (e:sj h a i=some q):
  OpOk P (do pure (.value (<- Instr.extract A i))) σ h W q:=by
 unfold sj at e;split at e
 .rename_i l;obtain ⟨v,h1,rfl⟩:=jq e;obtain ⟨K,rfl,c⟩:=ha;obtain ⟨V,h2,h3⟩:=VRels.nth c h1;have b:K[i]?=some V:=by simpa using h2
  exact OpOk.pure r fun _=>⟨V,by simp [Instr.extract,b],h3⟩
 .cases e
def Al (σ:Sg) (a:Option AV) (A:Option Value):Prop:=match a,A with
 | none,none=>True
 | some a,some A=>VRel σ a A
 | _,_=>False
theorem Ev {C:Ctx} {σ:Sg} {s:St} {T:Array Value} (g:GRel C σ) (h:TRel σ s.tmps T) (x:Option Operand):Al σ (qi C s x) (x.map (ev T)):=by
 cases x with
 | none=>trivial
 | some x=>exact iU g h x
theorem sw {P:Program} {σ:Sg} {y n:Nat} {a:AV} {A:Value} (e:jv y a=some n) (h:VRel σ a A) (code:BoundsCode) (W:World):
  (Instr.sliceBound A y code).run P W=.ok n W/\n<=y:=by
 unfold jv at e;split at e
 .rename_i k i;obtain rfl:=h;split at e
  .rename_i hb;cases e;have hb:=bK hb;exact ⟨by simp [Instr.sliceBound,asIntOf,hb.1,hb.2],by omega⟩
  .cases e
 .cases e
theorem kZ {P:Program} {σ:Sg} {len cap l h m:Nat} {lo hi mx:Option AV} {L H M:Option Value} (d:Al σ lo L) (i:Al σ hi H) (k:Al σ mx M) (e:iE len cap lo hi mx=some (l,h,m)) (q:Bool) (W:World):
  (Instr.sliceBounds q len cap L H M).run P W=.ok (l,h,m) W/\l<=h/\(h=len\/h<=m)/\m<=cap:=by
 unfold iE at e;split at e
 .cases e
 .rename_i n g;split at e
  .cases e
  .rename_i o b;split at e
   .cases e
   .rename_i p a;simp only [bi,eH] at e;obtain ⟨rfl,rfl,rfl⟩:=e;unfold Instr.sliceBounds
    cases mx with
    | none=>
     cases M with
     | some M=>exact k.elim
     | none=>
      simp only [qY,bi] at g;subst g
      cases hi with
      | none=>
       cases H with
       | some H=>exact i.elim
       | none=>
        simp only [nQ,bi] at b;subst b
        cases lo with
        | none=>
         cases L with
         | some L=>exact d.elim
         | none=>
          simp only [mF,bi] at a;subst a;exact ⟨by simp,kU _,.inl rfl,bD _⟩
        | some lo=>
         cases L with
         | none=>exact d.elim
         | some L=>
          obtain ⟨h1,h2⟩:=sw (P:=P) a d .sliceB W;exact ⟨by simp [h1],h2,.inl rfl,bD _⟩
      | some hi=>
       cases H with
       | none=>exact i.elim
       | some H=>
        have hq:=fun c=>sw (P:=P) b i c W
        cases lo with
        | none=>
         cases L with
         | some L=>exact d.elim
         | none=>
          simp only [mF,bi] at a;subst a;exact ⟨by simp [(hq _).1],kU _,.inr (hq .index).2,bD _⟩
        | some lo=>
         cases L with
         | none=>exact d.elim
         | some L=>
          obtain ⟨h1,h2⟩:=sw (P:=P) a d .sliceB W;exact ⟨by simp [(hq _).1,h1],h2,.inr (hq .index).2,bD _⟩
    | some mx=>
     cases M with
     | none=>exact k.elim
     | some M=>
      have f:=fun c=>sw (P:=P) (show jv cap mx=some n from g) k c W
      cases hi with
      | none=>simp [nQ] at b
      | some hi=>
       cases H with
       | none=>exact i.elim
       | some H=>
        have hq:=fun c=>sw (P:=P) b i c W
        cases lo with
        | none=>
         cases L with
         | some L=>exact d.elim
         | none=>
          simp only [mF,bi] at a;subst a;exact ⟨by simp [(f _).1,(hq _).1],kU _,.inr (hq .index).2,(f .index).2⟩
        | some lo=>
         cases L with
         | none=>exact d.elim
         | some L=>
          have j:=fun c=>sw (P:=P) a d c W;exact ⟨by simp [(f _).1,(hq _).1,(j _).1],(j .index).2,.inr (hq .index).2,(f .index).2⟩
theorem LY {α:Type} (m l:Nat) (x y:α):(bif Nat.beq m l then x else y)=if m=l then x else y:=by
 by_cases h:m=l
 .subst h;simp
 .have:Nat.beq m l=false:=by rw [kQ];intro e;exact h (aP e)
  rw [this,aB h];rfl
theorem Oi {P:Program} {σ:Sg} {t:TypeId} {x v:AV} {X:Value} {lo hi mx:Option AV} {L H M:Option Value} (u:VRel σ x X) (p:Al σ lo L) (q:Al σ hi H) (g:Al σ mx M) (e:G6 P t x lo hi mx=some v) (W:World):
  ∃ V,(Instr.sliceAt t X L H M).run P W=.ok V W/\VRel σ v V:=by
 unfold G6 at e;split at e
 .rename_i y o;split at e
  .cases e
  .rename_i n b;split at e
   .rename_i id off len cap;obtain ⟨B,N,a,rfl⟩:=u;split at e
    .cases e
    .rename_i l h m hb;cases e;obtain ⟨h1,_⟩:=kZ (P:=P) p q g hb true W;refine ⟨.slice (some (if m=l then ⟨B,off,none⟩ else ⟨B,off+l*n,none⟩)) (h - l) (m - l),by simp [Instr.sliceAt,Instr.slice,aK o,h1,bM b,iG];split <;> rfl,?_⟩;simp only [cK,LY];refine ⟨B,N,a,?_⟩;split <;> rfl
   .rename_i id off len Y;obtain ⟨B,N,s,c,a,rfl,hq,hc⟩:=u;split at e
    .rename_i j;split at e
     .cases e
     .rename_i l h m hb;split at e
      .rename_i d;rw [aF] at d;obtain rfl:=aP d.1;have D:0<len:=dI d.2;cases e;obtain ⟨rfl,_⟩:=hq (by omega);have r:iE len c lo hi (some j)=some (l,h,m):=by
        have:jv c j=jv len j\/jv len j=none:=by
         unfold jv;split
         .rename_i k i;by_cases h1:0<=i/\i<=len
          .left;have h2:0<=i/\i<=c:=⟨h1.1,by omega⟩;simp [h1,h2]
          .right;simp only [h1,iB]
         .right;rfl
        simp only [iE,qY] at hb ⊢;rcases this with h1|h1
        .rw [h1];exact hb
        .rw [h1] at hb;cases hb
       obtain ⟨h1,_⟩:=kZ (P:=P) p q g r true W;refine ⟨.slice (some (if m=l then ⟨B,s,none⟩ else ⟨B,s+l*n,none⟩)) (h - l) (m - l),by simp [Instr.sliceAt,Instr.slice,aK o,h1,bM b,iG];split <;> rfl,?_⟩;simp only [cK,LY];refine ⟨B,N,a,?_⟩;split <;> rfl
      .cases e
    .split at e
     .cases e
     .rename_i l h m hb;split at e
      .rename_i d;obtain rfl:=aP d;cases e;obtain ⟨_,E,F,I⟩:=kZ (P:=P) p q g hb true W
       cases M with
       | some M=>exact g.elim
       | none=>
        have r:iE len c lo hi none=some (l,h,c):=by
         simp only [iE,qY] at hb ⊢
         cases hi with
         | none=>
          simp only [nQ] at hb ⊢
          cases f:mF len lo with
          | none=>rw [f] at hb;cases hb
          | some J=>rw [f] at hb;simp at hb ⊢;exact ⟨hb.1,hb.2.1⟩
         | some hi=>
          simp only [nQ] at hb ⊢;have:jv c hi=jv len hi\/jv len hi=none:=by
           unfold jv;split
           .rename_i k i;by_cases h1:0<=i/\i<=len
            .left;have h2:0<=i/\i<=c:=⟨h1.1,by omega⟩;simp [h1,h2]
            .right;simp only [h1,iB]
           .right;rfl
          rcases this with h1|h1
          .rw [h1]
           cases z:jv len hi with
           | none=>rw [z] at hb;cases hb
           | some K=>
            rw [z] at hb;simp only at hb ⊢
            cases f:mF K lo with
            | none=>rw [f] at hb;cases hb
            | some J=>rw [f] at hb;simp at hb ⊢;exact ⟨hb.1,hb.2.1⟩
          .rw [h1] at hb;cases hb
        obtain ⟨h1,_⟩:=kZ (P:=P) p q g r true W;refine ⟨.slice (some (if c=l then ⟨B,s,none⟩ else ⟨B,s+l*n,none⟩)) (h - l) (c - l),by simp [Instr.sliceAt,Instr.slice,aK o,h1,bM b,iG];split <;> rfl,?_⟩;simp only [cK];have O:m=len:=by
         simp only [iE,qY] at hb;split at hb
         .cases hb
         .split at hb
          .cases hb
          .simp at hb;exact hb.2.2.symm
        by_cases A:c=l
        .rw [aC A];refine ⟨B,N,s,c - l,a,rfl,fun D=>by omega,by omega⟩
        .rw [aB A];refine ⟨B,N,s+l*n,c - l,a,rfl,fun D=>?_,by omega⟩;obtain ⟨rfl,Q⟩:=hq (by omega);refine ⟨rfl,?_⟩;have:(c - l)*n=c*n - l*n:=Nat.sub_mul c l n;have:l*n<=c*n:=jI n (by omega);omega
      .cases e
   .obtain rfl:=u;split at e
    .cases e
    .rename_i w hb;obtain ⟨l,h,m⟩:=w;cases e;obtain ⟨h1,h2,h3,Q⟩:=kZ (P:=P) p q g hb true W;obtain rfl:m=0:=by omega
     obtain rfl:h=0:=by omega
     obtain rfl:l=0:=by omega
     exact ⟨.slice none 0 0,by simp [Instr.sliceAt,Instr.slice,aK o,h1,bM b],rfl⟩
   .cases e
 .rename_i len y o;split at e
  .cases e
  .rename_i n b;split at e
   .rename_i id off;obtain ⟨B,N,a,rfl⟩:=u;split at e
    .cases e
    .rename_i l h m hb;cases e;obtain ⟨h1,_⟩:=kZ (P:=P) p q g hb false W;refine ⟨.slice (some (if m=l then ⟨B,off,none⟩ else ⟨B,off+l*n,none⟩)) (h - l) (m - l),by simp [Instr.sliceAt,Instr.sureAddr,aK o,h1,bM b,iG],?_⟩;simp only [cK,LY];refine ⟨B,N,a,?_⟩;split <;> rfl
   .cases e
 .rename_i o;split at e
  .obtain rfl:=u;split at e
   .cases e
   .split at e
    .cases e
    .rename_i l h m hb;cases e
     cases M with
     | some M=>exact g.elim
     | none=>
      obtain ⟨h1,_⟩:=kZ (P:=P) p q g hb false W;exact ⟨_,by simp [Instr.sliceAt,Instr.slice,aK o,h1],rfl⟩
  .cases e
 .cases e
def nV:Option AV->Option AV
 | some (.int _ k i)=>some (.int false k i)
 | x=>x
theorem wy {σ:Sg} {a:Option AV} {A:Option Value} (h:Al σ a A):Al σ (nV a) A:=by
 unfold nV;split
 .cases A with
  | none=>exact h
  | some A=>exact h
 .exact h
theorem rf {y:Nat} {k:IntKind} {i:Int} (a:0<=i) (h1:i<=y):jv y (.int false k i)=some i.toNat:=by simp only [jv,a,h1,and_self,iD]
theorem VD {P:Program} {σ:Sg} {t:TypeId} {x ix v:AV} {nd:Nd} {X I:Value} (a:VRel σ x X) (hi:VRel σ ix I) (e:Ls P t x ix=some (nd,v)) (hn:nd.val) (W:World):
  ∃ V,(Instr.index t X I).run P W=.ok V W/\VRel σ v V:=by
 unfold Ls at e;split at e
 .rename_i j h;cases e;exact Og a hi h W
 .split at e
  .rename_i s k i _;split at e
   .rename_i s' b _;split at e
    .rename_i c;cases e;obtain ⟨d,h1⟩:=hn;have f:i.toNat<b.data.toList.length:=by
      have:b.data.toList.length=b.size:=rfl;omega
     have g:G5 P t (.str false b) (.int false k i)=some (.int false .u8 (b.data.toList.getD i.toNat 0).toNat):=by
      have e3:b.data.toList[i.toNat]?=some (b.data.toList.getD i.toNat 0):=by rw [bY,dh f];rfl
      simp only [G5,c,d,bn,e3]
     exact Og (σ:=σ) (x:=.str false b) (ix:=.int false k i) a hi g W
    .cases e
   .cases e
  .cases e
theorem Oj {P:Program} {σ:Sg} {t a:TypeId} {lo hi:Option AV} {L H M:Option Value} {len c:Nat} (g:P.underlying t=some (.slice a)) (f:iJ P a=some 1)
  (i:Al σ lo L) (j:Al σ hi H) (k:Al σ none M) {l h:Int} (b:G7 0 lo=some l) (d:G7 len hi=some h) (m:0<=l) (h1:l<=h) (h2:h<=len) (q:len<=c) (p:Option Addr) (W:World):
  ∃ V,V=Value.slice (if c - l.toNat=0 then p else p.map (·.add (l.toNat*1))) (h.toNat - l.toNat) (c - l.toNat)/\(Instr.sliceAt t (.slice p len c) L H M).run P W=.ok V W:=by
 have n:nQ len c none (nV hi)=some h.toNat:=by
  unfold G7 at d;split at d
  .cases d;rfl
  .cases d;simp only [nV,nQ];exact rf (by omega) (by omega)
  .cases d
 have o:mF h.toNat (nV lo)=some l.toNat:=by
  unfold G7 at b;split at b
  .cases b;rfl
  .cases b;simp only [nV,mF];exact rf m (by omega)
  .cases b
 have hb:iE len c (nV lo) (nV hi) none=some (l.toNat,h.toNat,c):=by simp only [iE,qY,n,o]
 obtain ⟨h3,_⟩:=kZ (P:=P) (wy i) (wy j) k hb true W;refine ⟨_,rfl,?_⟩;simp [Instr.sliceAt,Instr.slice,aK g,h3,bM f];split <;> split <;> first|rfl|omega
theorem VE {P:Program} {σ:Sg} {t:TypeId} {x v:AV} {nd:Nd} {X:Value} {lo hi mx:Option AV} {L H M:Option Value} (J:VRel σ x X) (K:Al σ lo L) (A:Al σ hi H) (O:Al σ mx M) (e:Lt P t x lo hi mx=some (nd,v)) (hn:nd.val) (W:World):
  ∃ V,(Instr.sliceAt t X L H M).run P W=.ok V W/\VRel σ v V:=by
 unfold Lt at e;split at e
 .rename_i v' h;cases e;exact Oi J K A O h W
 .split at e
  .cases e
  .split at e
   .rename_i s b _;split at e
    .rename_i y;split at e
     .cases e
     .rename_i l d;split at e
      .cases e
      .rename_i h a;cases e;obtain ⟨D,h1,h2⟩:=hn;have e2:G6 P t (.str false b) (nV lo) (nV hi) none=some (.str false (b.extract l.toNat h.toNat)):=by
        have u:nQ b.size b.size none (nV hi)=some h.toNat:=by
         unfold G7 at a;split at a
         .cases a;rfl
         .cases a;simp only [nV,nQ];exact rf (by omega) h2
         .cases a
        have q2:mF h.toNat (nV lo)=some l.toNat:=by
         unfold G7 at d;split at d
         .cases d;rfl
         .cases d;simp only [nV,mF];exact rf D (by omega)
         .cases d
        simp only [G6,y,iE,qY,u,q2]
       exact Oi (σ:=σ) (x:=.str false b) J (wy K) (wy A) O e2 W
    .cases e
   .rename_i id l s' n g;clear g;split at e
    .rename_i z y;split at e
     .cases e
     .rename_i k f;split at e
      .cases e
      .split at e
       .cases e
       .rename_i v0;split at e
        .cases e
        .rename_i h hb;cases e;obtain ⟨p,len,c,rfl,⟨j,m⟩,ab,hp⟩:=J;have E:h<=l/\jv c v0=some h:=by
          unfold jv at hb ⊢;split at hb
          .rename_i k' i;split at hb
           .rename_i hd;cases hb;have hd:=bK hd;have h2:0<=i/\i<=c:=⟨hd.1,by omega⟩;refine ⟨by omega,?_⟩;simp [h2]
           .cases hb
          .cases hb
         have F:iE len c none (some v0) none=some (0,h,c):=by simp only [iE,qY,nQ,E.2,mF]
         obtain ⟨h1,_⟩:=kZ (P:=P) K A O F true W;refine ⟨.slice (if c=0 then p else p.map (·.add (0*k))) (h - 0) (c - 0),by simp [Instr.sliceAt,Instr.slice,aK y,h1,bM f],?_⟩;rw [cK];refine ⟨_,_,_,rfl,⟨rfl,by omega⟩,bD _,?_⟩;by_cases Q:h=0
         .exact .inl Q
         .rcases hp with hp|⟨B,N,u,rfl⟩
          .omega
          .refine .inr ⟨B,N,u,?_⟩;split
           .rfl
           .simp [iG]
    .cases e
   .rename_i id n g;clear g;split at e
    .rename_i z y;split at e
     .cases e
     .rename_i k f;split at e
      .rename_i s0 k0 l;split at e
       .cases e
       .rename_i I;have I:=aP I;subst I;split at e
        .cases e
        .rename_i h a;cases e;obtain ⟨p,len,c,rfl,⟨j,m⟩,hp⟩:=J;obtain ⟨D,h1,h2⟩:=hn;obtain ⟨V,Y,r⟩:=Oj (c:=c) (len:=len) y f K A O (l:=l) rfl (by rw [j];exact a) D h1 (by omega) (by omega) p W;refine ⟨_,r,_,_,_,Y,⟨by omega,by omega⟩,?_⟩;by_cases Q:h.toNat - l.toNat=0
         .exact .inl Q
         .rcases hp with hp|⟨B,N,u,rfl⟩
          .omega
          .refine .inr ⟨B,N,u,N+l.toNat,?_,by simp only [aR];omega,fun hw=>by cases hw⟩;rw [aB (by omega)];simp [iG]
      .cases e
      .split at e
       .rename_i s0 k0 h;cases e;obtain ⟨p,len,c,rfl,⟨j,m⟩,hp⟩:=J;obtain ⟨D,h1⟩:=hn;have F:iE len c none (some (.int false k0 h)) none=some (0,h.toNat,c):=by
         have h2:0<=h/\h<=c:=⟨D,by omega⟩;simp only [iE,qY,nQ,jv,mF,h2,and_self,iD]
        have E:Al σ (some (.int false k0 h)) H:=by
         cases H with
         | none=>exact A.elim
         | some H=>exact A
        obtain ⟨h3,_⟩:=kZ (P:=P) K E O F true W;refine ⟨.slice (if c=0 then p else p.map (·.add (0*k))) (h.toNat - 0) (c - 0),by simp [Instr.sliceAt,Instr.slice,aK y,h3,bM f],?_⟩;refine ⟨_,_,_,rfl,⟨by omega,by omega⟩,?_⟩;by_cases Q:h.toNat=0
        .exact .inl (by omega)
        .rcases hp with hp|⟨B,N,u,rfl⟩
         .omega
         .refine .inr ⟨B,N,u,?_⟩;split
          .rfl
          .simp [iG]
       .cases e
    .cases e
   .rename_i w id o n g;clear g;split at e
    .rename_i z y;split at e
     .rename_i f;split at e
      .cases e
      .rename_i l d;split at e
       .cases e
       .rename_i h a;cases e;obtain ⟨p,len,c,rfl,⟨j,m⟩,hp⟩:=J;obtain ⟨D,h1,h2⟩:=hn;obtain ⟨V,Y,r⟩:=Oj (c:=c) (len:=len) y f K A O d (by rw [j];exact a) D h1 (by omega) (by omega) p W;refine ⟨_,r,_,_,_,Y,⟨by omega,by omega⟩,?_⟩;by_cases Q:h.toNat - l.toNat=0
        .exact .inl Q
        .rcases hp with hp|⟨B,N,u,q,rfl,hq,aa⟩
         .omega
         .refine .inr ⟨B,N,u,q+l.toNat,?_,by omega,fun hw=>by have:=aa hw;omega⟩;rw [aB (by omega)];simp [iG]
     .cases e
    .cases e
   .cases e
theorem HRel.world {σ:Sg} {h:Hp} {W V:World} (r:HRel σ h W) (e:V.heap=W.heap):HRel σ h V:=
 ⟨r.ok,fun i b E hd=>let ⟨B,N,o,h1,h2,h3⟩:=r.blk i b E hd;⟨B,N,o,h1,by rw [e];exact h2,h3⟩,fun i B N h=>by rw [e];exact r.dom i B N h,r.inj⟩
theorem Good.drew {σ:Sg} {h:Hp} {W:World} (r:HRel σ h W):Good σ h W σ h W.drew:=
 ⟨Sub.refl _,fun _ _ e _=>e,⟨rfl,rfl,rfl,bD _,fun _=>rfl⟩,Mon.refl _,fun i B N e hi _=>absurd (r.dom i B N e).1 (eP.2 hi),fun _ _ _ _=>rfl⟩
theorem HRel.kill {σ:Sg} {h:Hp} {W:World} (r:HRel σ h W) {i:Nat} {b:ABlk} (Y:h.get i=some b) (Q:∀ c,b.body≠.loop c):HRel σ (h.put i .dead) W/\Good σ h W σ (h.put i .dead) W:=by
 have hi:=Hp.get_lt Y;refine ⟨⟨Hp.ok_put r.ok i _,?_,fun j B M e=>r.dom j B M e,?_⟩,⟨Sub.refl _,fun _ _ e _=>e,Ext.refl _,Mon.put r.ok Y _ (qw Q),fun j B M e E _=>absurd (r.dom j B M e).1 (eP.2 E),fun _ _ _ _=>rfl⟩⟩
 .intro j c e hd;rw [Hp.get_put r.ok i j hi] at e;by_cases E:j=i
  .simp only [E,bn,bi] at e;subst e;cases hd
  .simp only [E,bz] at e;exact r.blk j c e hd
 .intro j k c e B' M K J O q3 q4 q5 q6;rw [Hp.get_put r.ok i j hi] at J;rw [Hp.get_put r.ok i k hi] at O;by_cases E:j=i
  .simp only [E,bn,bi] at J;subst J;cases q3
  .by_cases hk:k=i
   .simp only [hk,bn,bi] at O;subst O;cases q4
   .simp only [E,hk,bz] at J O;exact r.inj j k c e B' M K J O q3 q4 q5 q6
theorem HRel.move {σ:Sg} {h:Hp} {W V:World} (r:HRel σ h W) {i B N:Nat} {b:ABlk} (hg:h.get i=some b) (hl:b.body.isDead=false) (ac:∀ c,b.body≠.loop c) (aa:σ i=some (B,N)) (d:ABody) (o:Obj)
  (ho:V.heap[B]?=some o) (hb:BRel (σ.add h.size (B,N)) N d o) (ag:V.heap.size=W.heap.size) (hold:∀ k,k≠B->V.heap[k]?=W.heap[k]?) (h1:V.os=W.os) (h2:V.tape=W.tape) (h3:V.output=W.output) (hc:Fu o:=by intro _ _ _ h;first|(cases h;rfl)|cases h) (hnv:b.body.isView=false:=by rfl):
  HRel (σ.add h.size (B,N)) ((h.put i .dead).push d) V/\Good σ h W (σ.add h.size (B,N)) ((h.put i .dead).push d) V:=by
 have hi:=Hp.get_lt hg;have ae:∀ a,V.frozen? a=W.frozen? a:=fun a=>by
  by_cases h:a.block=B
  .obtain ⟨B',N',o',O,E,q3⟩:=r.blk i b hg hl;rw [aa] at O;cases O;rw [qp (by rw [h];exact ho) hc,qp (by rw [h];exact E) (Oa q3 hl hnv)]
  .unfold World.frozen?;rw [hold _ h]
 have hs:=Sub.add (x:=(B,N)) r.fresh;have hB:=(r.dom _ _ _ aa).2;have Q:∀ j,((h.put i .dead).push d).get j=if j=h.size then some ⟨h.clock,d⟩ else if j=i then some ⟨h.clock,.dead⟩ else h.get j:=by intro j;rw [Hp.get_push,Hp.get_put r.ok i j hi];rfl
 refine ⟨⟨Hp.ok_push (Hp.ok_put r.ok i _) d,?_,?_,?_⟩,⟨hs,?_,⟨h1,h2,h3,by omega,ae⟩,⟨bD _,by simp [Hp.push,Hp.put],?_,?_⟩,?_,?_⟩⟩
 .intro j c e hd;rw [Q] at e;by_cases Y:j=h.size
  .simp only [Y,bn,bi] at e;subst e;exact ⟨B,N,o,by simp [Sg.add,Y],ho,hb⟩
  .by_cases J:j=i
   .simp only [J,bn] at e;rw [aB (by omega)] at e;cases e;cases hd
   .simp only [Y,J,bz] at e;obtain ⟨B',M,p,O,E,q3⟩:=r.blk j c e hd;refine ⟨B',M,p,hs _ _ O,?_,BRel.mono hs q3⟩;rw [hold];exact E;intro eB;subst eB;exact J ((r.inj j i c b B' M N e hg hd hl O aa).resolve_right fun h=>by rw [hnv] at h;cases h.2)
 .intro j B' M e;unfold Sg.add at e;by_cases Y:j=h.size
  .simp only [Y,bn,bi,eH] at e;obtain ⟨rfl,rfl⟩:=e;exact ⟨by simp [Hp.push,Hp.put,Y],by omega⟩
  .simp only [Y,bz] at e;have:=r.dom _ _ _ e;exact ⟨by simp [Hp.push,Hp.put];omega,by omega⟩
 .intro j k c e B' M K O E q3 q4 q5 q6;rw [Q] at O E;unfold Sg.add at q5 q6;by_cases Y:j=h.size <;> by_cases hk:k=h.size
  .omega
  .simp only [Y,bn,bi,eH] at q5;simp only [hk,bz] at E q6;obtain ⟨rfl,rfl⟩:=q5;by_cases ab:k=i
   .simp only [ab,bn,bi] at E;subst E;cases q4
   .simp only [ab,bz] at E;exact absurd ((r.inj k i e b B K N E hg q4 hl q6 aa).resolve_right fun h=>by rw [hnv] at h;cases h.2) ab
  .simp only [hk,bn,bi,eH] at q6;simp only [Y,bz] at O q5;obtain ⟨rfl,rfl⟩:=q6;by_cases J:j=i
   .simp only [J,bn,bi] at O;subst O;cases q3
   .simp only [J,bz] at O;exact absurd ((r.inj j i c b B M N O hg q3 hl q5 aa).resolve_right fun h=>by rw [hnv] at h;cases h.2) J
  .simp only [Y,hk,bz] at O E q5 q6;by_cases J:j=i
   .simp only [J,bn,bi] at O;subst O;cases q3
   .by_cases ab:k=i
    .simp only [ab,bn,bi] at E;subst E;cases q4
    .simp only [J,ab,bz] at O E;exact r.inj j k c e B' M K O E q3 q4 q5 q6
 .intro j x e Y;unfold Sg.add at e;rw [aB (by omega)] at e;exact e
 .intro j c e O E;rw [Q] at E;have:=Hp.get_lt O;rw [aB (by omega)] at E;by_cases Y:j=i
  .simp only [Y,bn,bi] at E;subst E;exact .inr (bD _)
  .simp only [Y,bz,O,bi] at E;subst E;exact .inl rfl
 .intro j w c e;have:=Hp.get_lt e;rw [Q,aB (by omega)];by_cases Y:j=i
  .subst Y;rw [hg] at e;cases e;exact absurd rfl (ac c)
  .rw [aB Y];exact ⟨w,c.state,c.pending,e⟩
 .intro j B' M e Y af;unfold Sg.add at e;by_cases h1:j=h.size
  .simp only [h1,bn,bi,eH] at e;obtain ⟨rfl,rfl⟩:=e;exact .inr ⟨i,N,⟨h.clock,.dead⟩,hi,aa,by rw [Q,aB (by omega),aC rfl],bD _⟩
  .simp only [h1,bz] at e;have:=(r.dom _ _ _ e).1;omega
 .intro B' af _ hw;apply hold;intro e;subst e;have:=hw i N ⟨h.clock,.dead⟩ aa (by rw [Q,aB (by omega),aC rfl]);exact absurd this (zx _)
theorem ky {P:Program} {W:World} {B:Nat} {K:Array Value} {e:TypeId} {fz:Nat×Nat} (f:W.heap[B]?=some (.cells K e fz)) {σ:Sg} {l m:List AV} {A Z:List Value} (d:K.toList=A++Z) (g:VRels σ l A) {n off:Nat}
  (h:iK n (fo off l)=some m):∃ M,(loadCells ⟨B,off,none⟩ n).run P W=.ok M.toArray W/\VRels σ m M/\M.length=n/\(n≠0->off+n<=K.size)/\∀ j v,M[j]?=some v->W.cell? ((⟨B,off,none⟩:Addr).add j)=some v:=by
 obtain ⟨h2,h3⟩:=VRels.take n (VRels.drop off g) h;have a:((A.drop off).take n).length=n:=by rw [VRels.length h2,h3]
 have b:∀ j v,((A.drop off).take n)[j]?=some v->W.cell? ((⟨B,off,none⟩:Addr).add j)=some v:=by
  intro j u c;rw [iG,oZ W B _ K e fz f,<- ic,d];rw [jL] at c;split at c
  .rw [ig] at c;rw [kJ (by rcases aX (off+j) A.length with h|h;exact h;simp [dB h] at c)];exact c
  .cases c
 have:=oI (P:=P) W ⟨B,off,none⟩ ((A.drop off).take n) b;rw [a] at this;refine ⟨_,this,h2,a,fun hn=>?_,b⟩;have i:=bL List.length d;simp at i a;omega
theorem wz {P:Program} {σ:Sg} {h:Hp} {W:World} (r:HRel σ h W) {size n:Nat} {x:AV} {X:Value} {m:List AV} (u:VRel σ x X) (e:qj h size x=some (n,m)):
  ∃ M,(∀ V:World,V.heap=W.heap->(Builtin.lenOf X).run P V=.ok n V/\(Builtin.firstCells size n X).run P V=.ok M.toArray V)/\VRels σ m M/\M.length=n*size:=by
 unfold qj at e;split at e
 .cases e;obtain rfl:=u;exact ⟨[],fun V _=>⟨by simp [Builtin.lenOf],by simp [Builtin.firstCells]⟩,rfl,by simp⟩
 .cases e;obtain ⟨a,c,rfl,_⟩:=u;refine ⟨[],fun V _=>⟨by simp [Builtin.lenOf],?_⟩,rfl,by simp⟩
  cases a with
  | none=>simp [Builtin.firstCells]
  | some a=>
   have:=oI (P:=P) V a [] (fun j v h=>by simp at h);simpa [Builtin.firstCells] using this
 .rename_i i off len cap;obtain ⟨B,N,d,rfl⟩:=u;split at e
  .rename_i w l s;obtain ⟨H,I,o,h1,h2,K,J,rfl,h3,h4⟩:=r.blk i _ s rfl;rw [d] at h1;cases h1
   cases b:iK (len*size) (fo off l) with
   | none=>rw [b] at e;cases e
   | some q=>
    rw [b] at e;cases e;obtain ⟨M,q1,y,t,q4,z⟩:=ky (P:=P) h2 (A:=K.toList) (Z:=[]) (by simp) h3 b;refine ⟨M,fun V f=>⟨by simp [Builtin.lenOf],?_⟩,y,t⟩;obtain ⟨M',p1,p2,p3,p4,p5⟩:=ky (P:=P) (W:=V) (by rw [f];exact h2) (A:=K.toList) (Z:=[]) (by simp) h3 b;have:M'=M:=by
     apply zb;intro j;rcases aX j (n*size) with L|L
     .have a1:=p5 j M'[j] (by rw [dh]);have a2:=z j M[j] (by rw [dh]);have D:V.cell? ((⟨B,off,none⟩:Addr).add j)=W.cell? ((⟨B,off,none⟩:Addr).add j):=by simp [World.cell?,f]
      rw [D,a2] at a1;rw [dh (by omega),dh (by omega)];exact a1.symm
     .rw [dB (by omega),dB (by omega)]
    subst this;simp [Builtin.firstCells,p1]
  .rename_i w l s;obtain ⟨H,I,o,h1,h2,K,J,A,Z,rfl,O,h3,h4⟩:=r.blk i _ s rfl;rw [d] at h1;cases h1
   cases b:iK (len*size) (fo off l) with
   | none=>rw [b] at e;cases e
   | some q=>
    rw [b] at e;cases e;obtain ⟨M,q1,y,t,q4,z⟩:=ky (P:=P) h2 O h3 b;refine ⟨M,fun V f=>⟨by simp [Builtin.lenOf],?_⟩,y,t⟩;have:=oI (P:=P) V ⟨B,off,none⟩ M (fun j v g=>by
     have D:V.cell? ((⟨B,off,none⟩:Addr).add j)=W.cell? ((⟨B,off,none⟩:Addr).add j):=by simp [World.cell?,f]
     rw [D];exact z j v g)
    rw [t] at this;simp [Builtin.firstCells,this]
  .cases e
 .rename_i i off len ee;obtain ⟨B,N,Q,c,d,rfl,hq,hc⟩:=u;split at e
  .rename_i w l s;obtain ⟨H,I,o,h1,h2,K,J,A,Z,rfl,O,h3,h4⟩:=r.blk i _ s rfl;rw [d] at h1;cases h1
   cases b:iK (len*size) (fo off l) with
   | none=>rw [b] at e;cases e
   | some q=>
    rw [b] at e;cases e;by_cases hz:n=0
    .subst hz;simp [iK] at b;subst b;exact ⟨[],fun V _=>⟨by simp [Builtin.lenOf],by simp [Builtin.firstCells,loadCells,loadCellsFrom]⟩,rfl,by simp⟩
    .obtain ⟨rfl,_⟩:=hq hz;obtain ⟨M,q1,y,t,q4,z⟩:=ky (P:=P) h2 O h3 b;refine ⟨M,fun V f=>⟨by simp [Builtin.lenOf],?_⟩,y,t⟩;have:=oI (P:=P) V ⟨B,Q,none⟩ M (fun j v g=>by
      have D:V.cell? ((⟨B,Q,none⟩:Addr).add j)=W.cell? ((⟨B,Q,none⟩:Addr).add j):=by simp [World.cell?,f]
      rw [D];exact z j v g)
     rw [t] at this;simp [Builtin.firstCells,this]
  .cases e
 .rename_i i l n';obtain ⟨p,len,c,rfl,⟨E,aa⟩,ab,hp⟩:=u;split at e
  .cases e
  .cases e;obtain rfl:len=0:=by simpa using E
   refine ⟨[],fun V _=>⟨by simp [Builtin.lenOf],?_⟩,rfl,by simp⟩;cases p <;> simp [Builtin.firstCells,loadCells,loadCellsFrom]
  .rename_i k;obtain rfl:len=k+1:=by have:(len:Int)=(k+1:Nat):=E;omega
   split at e
   .rename_i w cs s;split at e
    .rename_i hb;have hb:=dI hb;rcases hp with hp|⟨B,N,d,rfl⟩
     .omega
     obtain ⟨H,I,o,h1,h2,K,J,fr,rfl,h3⟩:=r.blk i _ s rfl;rw [d] at h1;cases h1
     cases b:iK ((k+1)*size) cs with
     | none=>rw [b] at e;cases e
     | some q=>
      rw [b] at e;cases e;obtain ⟨k1,k2⟩:=VRels.take _ h3 b;have F:(List.take ((k+1)*size) ((K.toList.drop N).take cs.length)).length=(k+1)*size:=by rw [VRels.length k1,k2]
      refine ⟨_,fun V f=>⟨by simp [Builtin.lenOf],?_⟩,k1,F⟩;have:=oI (P:=P) V ⟨B,N,none⟩ (List.take ((k+1)*size) ((K.toList.drop N).take cs.length)) (fun j v g=>by
       have L:j<(k+1)*size:=by
        rcases aX j ((k+1)*size) with h|h
        .exact h
        .rw [dB (by rw [F];exact h)] at g;cases g
       have Y:j<cs.length:=by have:=VRels.length h3;rw [dD] at F;omega
       rw [jL,aC L,jL,aC Y,ig,ic] at g;unfold World.cell? Addr.add;by_cases h0:j=0
       .subst h0;simp [f,h2];simpa using g
       .simp [h0,f,h2];simpa using g)
      rw [F] at this;simp [Builtin.firstCells,this]
    .cases e
   .cases e
 .cases e
theorem jT {P:Program} {W:World} {t u ty e j:TypeId} {i:TypeInfo} {z:Value} (k:P.underlying t=some (.slice e)) (l:P.underlying u=some (.slice j)) (hi:P.info? e=some i) (m:i.zero=some z)
  {base:Option Addr} {len cap n:Nat} {X:Value} {O M:List Value}
  (o:∀ V:World,V.heap=W.heap->(Builtin.firstCells i.size len (.slice base len cap)).run P V=.ok O.toArray V)
  (g:∀ V:World,V.heap=W.heap->(Builtin.lenOf X).run P V=.ok n V/\(Builtin.firstCells i.size n X).run P V=.ok M.toArray V)
  (p:cap<len+n) (a:len+n<=1048576) (d:i.bytes<=65536):
  (Builtin.append_ #[t,u] ty #[.slice base len cap,X]).run P W =
   .ok (.slice (some ⟨W.heap.size,0,none⟩) (len+n) (grownCap W (len+n) cap e))
    (W.drew.alloc (.cells (O.toArray++M.toArray++Builtin.zeroCells z.cells (grownCap W (len+n) cap e - (len+n))) e)):=by
 have hn:¬ (len+n<=cap):=by omega
 have b:¬ (9223372036854775807<((len:Int)+(n:Int))):=by omega
 have h:=growslice_fits p (show (len+n)*i.bytes<=140737488355328 from dF (rU a d) (by decide));have c:¬ (281474976710656<Builtin.nextslicecap (len+n) cap*i.bytes):=by omega
 have q:=(g W.drew rfl).2;have f:=o W.drew rfl;have r:=(g W rfl).1;simp [Builtin.append_,aK k,aK l,sizeOf,typeInfo,zeroValue,hi,m,r,hn,b,c,Question.forced,q,f,newRow,grownCap]
 congr 2
 apply kR.1;simp
theorem uu {P:Program} {W:World} {t u ty e f:TypeId} {i:TypeInfo} (g:P.underlying t=some (.slice e)) (h:P.underlying u=some (.slice f)) (hi:P.info? e=some i)
  {B off len cap n:Nat} {X:Value} {M:List Value} {K:Array Value} {c:TypeId} (j:W.heap[B]?=some (.cells K c (0,0)))
  (d:∀ V:World,V.heap=W.heap->(Builtin.lenOf X).run P V=.ok n V/\(Builtin.firstCells i.size n X).run P V=.ok M.toArray V)
  (h1:∀ v∈M,v.oneCell'=true) (k:len+n<=cap) (a:off+len*i.size+M.length<=K.size):
  (Builtin.append_ #[t,u] ty #[.slice (some ⟨B,off,none⟩) len cap,X]).run P W =
   .ok (.slice (some ⟨B,off,none⟩) (len+n) cap) (W.setRow B (K.toList.take (off+len*i.size)++M++K.toList.drop (off+len*i.size+M.length)).toArray):=by
 have l:=(d W rfl).2;have m:=(d W rfl).1;have b:=oN P B (off+len*i.size) c M 0 K W j (by simpa using a) h1;simp only [gP] at b;simp [Builtin.append_,aK g,aK h,sizeOf,typeInfo,hi,m,k,l,iG,b]
theorem Ew {P:Program} {σ:Sg} {h:Hp} {W:World} (r:HRel σ h W) {l:List AV} {A Z:List Value} {K:Array Value} (e:TypeId) (b:K.toList=A++Z) (d:VRels σ l A) {n c esz:Nat} (f:n<=c) (a:c*esz<=K.size) (m:Sem Value)
  (g:m.run P W=.ok (.slice (some ⟨W.heap.size,0,none⟩) n c) (W.drew.alloc (.cells K e))):OpOk P (do pure (.value (<- m))) σ h W ⟨.tt,.gslice h.size 0 n esz,h.push (.grown l)⟩:=fun _=>by
 have i:=r.world (V:=W.drew) rfl;obtain ⟨h1,h2⟩:=i.alloc (.grown l) (.cells K e) K.size ⟨K,e,A,Z,rfl,b,VRels.mono (Sub.add r.fresh) _ _ d,rfl⟩;refine ⟨_,.slice (some ⟨W.heap.size,0,none⟩) n c,_,_,by simp [g],.inl rfl,⟨W.heap.size,K.size,0,c,fF,rfl,fun _=>⟨rfl,by omega⟩,f⟩,h1,?_⟩;exact (Good.drew r).trans r.ok h1.ok h2
theorem lg {W:World} {len n cap:Nat} {e:TypeId} {z:Value} {size:Nat} (a:z.cells.size=size) {O M:List Value} (b:O.length=len*size) (c:M.length=n*size):
  (grownCap W (len+n) cap e)*size<=(O.toArray++M.toArray++Builtin.zeroCells z.cells (grownCap W (len+n) cap e - (len+n))).size:=by
 have d:=o5 W (len+n) cap e;simp only [Array.size_append,List.size_toArray,b,c,size_zeroCells,a];rw [<- dR,<- dR];apply jI;omega
theorem Rk {P:Program} {σ:Sg} {h:Hp} {W:World} (r:HRel σ h W) {t u ty:TypeId} {a b:AV} {A B:Value} (ha:VRel σ a A) (hb:VRel σ b B) {q:S1} (e:Ep P h t u a b=some q):
  OpOk P (do pure (.value (<- Builtin.append_ #[t,u] ty #[A,B]))) σ h W q:=by
 unfold Ep at e;split at e
 .rename_i eu J;split at e
  .cases e
  .rename_i v h' f;cases e;unfold TJ at f;split at f
   .rename_i D L;split at f
    .cases f
    .rename_i i hi;split at f
     .cases f
     .rename_i z hz;obtain ⟨i',zv,af,Q,al,_⟩:=fZ (σ:=σ) hz;rw [hi] at af;cases af;split at f
      .cases f
      .rename_i hc;simp only [aF,iT,nA] at hc;have Y:zv.cells.size=i.size:=by have:=VRels.length al;simp at this;omega
       split at f
       .cases f
       .rename_i n new ag;obtain ⟨M,E,hM,y⟩:=wz (P:=P) r hb ag;split at f
        .cases f
        .rename_i ah;have h1:=qy hM ah;split at f
         .-- a nil slice
          obtain rfl:=ha;unfold XJ at f;split at f
          .cases f;have aa:M=[]:=gK.1 (by rw [y];simp);subst aa;refine OpOk.pure r fun _=>⟨.slice none 0 0,?_,rfl⟩;have hl:=(E W rfl).1;have hf:=(E W rfl).2;simp [Builtin.append_,aK L,aK J,sizeOf,typeInfo,hi,hl,hf]
          .rename_i m;split at f
           .rename_i g;cases f;have g:=dI g;have j:=jT (P:=P) (W:=W) (ty:=ty) L J hi Q (base:=none) (len:=0) (cap:=0) (O:=[]) (fun V _=>by simp [Builtin.firstCells]) E (by omega) (by unfold zM at g;omega) hc.2;have:=Ew r D (l:=new) (A:=M) (Z:=(Builtin.zeroCells zv.cells (grownCap W (0+(m+1)) 0 D - (0+(m+1)))).toList) (K:=([]:List Value).toArray++M.toArray++Builtin.zeroCells zv.cells (grownCap W (0+(m+1)) 0 D - (0+(m+1)))) (by simp) hM (n:=0+(m+1)) (c:=grownCap W (0+(m+1)) 0 D) (esz:=i.size) (o5 _ _ _ _) (lg Y (by simp) y) _ j;rw [fJ] at this;exact this
           .cases f
         .rename_i id off len cap;obtain ⟨s,N,p,rfl⟩:=ha;split at f
          .-- ai
           rename_i d;have d:=dI d;unfold TH at f;split at f
           .rename_i w l H;split at f
            .cases f
            .rename_i l' hp;rw [Hp.set_eq] at f;cases f;obtain ⟨B',N',o,q1,q2,K,ek,rfl,q3,q4⟩:=r.blk id _ H rfl;rw [p] at q1;cases q1;obtain ⟨q5,q6⟩:=iL l _ _ l' q3 hM hp;have j:=uu (P:=P) (ty:=ty) L J hi q2 E h1 d (by simpa using q6);obtain ⟨q7,q8⟩:=r.row H rfl (fun _ h=>by cases h) p (K':=(K.toList.take (off+len*i.size)++M++K.toList.drop (off+len*i.size+M.length)).toArray) q2 (.cells l') ⟨_,ek,rfl,by simpa using q5,by
              subst q4;simp at q6 ⊢;omega⟩
             exact fun _=>⟨σ,_,_,_,by simp [j];rfl,.inl rfl,by simp only [cK];exact ⟨s,N,p,rfl⟩,q7,q8⟩
           .cases f
          .-- no ai
           rename_i d;have d:cap<len+n:=by
            rcases aX cap (len+n) with h|h
            .exact h
            .rw [Nat.ble_eq_true_of_le h] at d;cases d
           unfold TI at f;split at f
           .cases f
           .rename_i n' old hold;split at f
            .rename_i g;have g:=dI g;rw [LV] at f;cases f;obtain ⟨O,F,hO,ab⟩:=wz (P:=P) r (x:=.slice id off len cap) (X:=.slice (some ⟨s,off,none⟩) len cap) ⟨s,N,p,rfl⟩ hold;have an:n'=len:=by
              have:=(F W rfl).1;simp [Builtin.lenOf] at this;omega
             subst an;have j:=jT (P:=P) (W:=W) (ty:=ty) L J hi Q (base:=some ⟨s,off,none⟩) (O:=O) (fun V hV=>(F V hV).2) E d (by unfold zM at g;omega) hc.2;have:=Ew r D (l:=old++new) (A:=O++M) (Z:=(Builtin.zeroCells zv.cells (grownCap W (n'+n) cap D - (n'+n))).toList) (K:=O.toArray++M.toArray++Builtin.zeroCells zv.cells (grownCap W (n'+n) cap D - (n'+n))) (by simp) (VRels.append hO hM) (n:=n'+n) (c:=grownCap W (n'+n) cap D) (esz:=i.size) (o5 _ _ _ _) (lg Y ab y) _ j;simpa using this
            .cases f
         .rename_i id off len esz;unfold ah1 at f;split at f
          .cases f;have aa:M=[]:=gK.1 (by rw [y];simp);subst aa;obtain ⟨s,N,qo,c,p,rfl,hq,ac⟩:=ha;refine OpOk.pure r fun _=>⟨.slice (some ⟨s,qo,none⟩) len c,?_,s,N,qo,c,p,rfl,hq,ac⟩;have hl:=(E W rfl).1;have hf:=(E W rfl).2;have ao:∀ a:Addr,(storeCells a []).run P W=.ok () W:=fun _=>rfl;simp [Builtin.append_,aK L,aK J,sizeOf,typeInfo,hi,hl,hf,ac,ao]
          .rename_i m;split at f
           .rename_i w l H;split at f
            .rename_i hk;simp only [aF,nA,kX,iT] at hk;obtain ⟨⟨⟨⟨rfl,rfl⟩,aq⟩,ae⟩,g⟩:=hk;rw [Hp.set_eq,LV] at f;cases f;have hA:VRel σ (.gslice id 0 len i.size) A:=ha;obtain ⟨s,N,qo,c,p,rfl,hq,ac⟩:=ha;obtain ⟨rfl,aj⟩:=hq (by omega);obtain ⟨B',N',o,q1,q2,K,ek,X,Z,rfl,ap,q3,q4⟩:=r.blk id _ H rfl;rw [p] at q1;cases q1;have ak:X.length=len*i.size:=by rw [VRels.length q3,ae]
             by_cases d:len+(m+1)<=c
             .have I:(len+(m+1))*i.size<=c*i.size:=jI _ d;rw [dR] at I;have ar:len*i.size+M.length<=K.size:=by
               rw [y,<- q4];exact dF I (by simpa using aj)
              have j:=uu (P:=P) (ty:=ty) L J hi q2 (off:=0) E h1 d (by omega);obtain ⟨q7,q8⟩:=r.move (V:=W.setRow s (K.toList.take (0+len*i.size)++M++K.toList.drop (0+len*i.size+M.length)).toArray) H rfl (fun _ h=>by cases h) p (.grown (l++new)) _ (setRow_heap W s K _ ek (0,0) q2)
               ⟨_,ek,X++M,Z.drop M.length,rfl,by
                simp only [fJ,ap];rw [<- ak,DZ,<- nk,List.drop_left],VRels.append (VRels.mono (Sub.add r.fresh) _ _ q3) (VRels.mono (Sub.add r.fresh) _ _ hM),by
                subst q4;simp;omega⟩
               (setRow_size W s _) (fun k hk=>setRow_other W s k _ hk) rfl rfl rfl
              refine fun _=>⟨_,_,_,_,by simp [j];rfl,.inl rfl,?_,q7,q8⟩;simp only [cK];exact ⟨s,N,0,c,fF,rfl,fun _=>⟨rfl,aj⟩,d⟩
             .obtain ⟨k1,k2⟩:=r.kill H (fun _ h=>by cases h);have hold:qj h i.size (.gslice id 0 len i.size)=some (len,l):=by
               simp only [qj,H,fo];have:iK (len*i.size) l=some l:=by
                rw [<- ae];clear ae q3 H ak
                induction l with
                | nil=>rfl
                | cons a l ih=>simp [iK,ih]
               rw [this];rfl
              obtain ⟨O,F,hO,ab⟩:=wz (P:=P) r hA hold;have j:=jT (P:=P) (W:=W) (ty:=ty) L J hi Q (base:=some ⟨s,0,none⟩) (cap:=c) (O:=O) (fun V hV=>(F V hV).2) E (by omega) (by unfold zM at g;omega) hc.2;have:=Ew k1 D (l:=l++new) (A:=O++M) (Z:=(Builtin.zeroCells zv.cells (grownCap W (len+(m+1)) c D - (len+(m+1)))).toList) (K:=O.toArray++M.toArray++Builtin.zeroCells zv.cells (grownCap W (len+(m+1)) c D - (len+(m+1)))) (by simp) (VRels.append hO hM) (n:=len+(m+1)) (c:=grownCap W (len+(m+1)) c D) (esz:=i.size) (o5 _ _ _ _) (lg Y ab y) _ j;intro _;obtain ⟨τ,V,X',rr,p1,p2,p3,p4,p5⟩:=this trivial;exact ⟨τ,V,X',rr,p1,p2,by simpa using p3,p4,k2.trans k1.ok p4.ok p5⟩
            .cases f
           .cases f
         .cases f
   .cases f
 .cases e
end Go.Eng
