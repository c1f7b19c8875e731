/- What is proved: MtfMoves returns true, whatever the input (part 6). No conditions beyond those of the row. -/
import Derived.Test.YtbiiiloimbjpaaaDoorPE
import Derived.WideKeyElems2
import Derived.ChangeSlices
import Derived.MakeChecks
import Derived.WalkKit
import Derived.ProofKit
import Derived.OpenShut
import Derived.WideKeyArgs
set_option linter.unusedVariables false
set_option linter.unusedSimpArgs false
set_option linter.unusedSectionVars false
namespace Go.Eng
noncomputable section
def plc (m:Nat) (l:List Nat) (j:Nat):Option Nat:=
 match Nat.blt j m with
 | true=>some j
 | false=>nth l (j - m)
def gL (f:Nat->Option Nat) (i j:Nat):Bool:=
 match f j with
 | none=>false
 | some k=>Nat.beq i k
mutual
def wkA (f:Nat->Option Nat):AV->AV->Option Nd
 | a,.any c=>match c with
  | false=>some .tt
  | true=>bif a.isCell then some .tt else none
 | .bool s b,.bool s' b'=>match s||s' with
  | true=>some (.p (b=b'))
  | false=>bif b==b' then some .tt else none
 | .int s k x,.int s' k' y=>if k=k' then (match s||s' with
  | true=>some (.p (x=y))
  | false=>if x=y then some .tt else none) else none
 | .str s b,.str s' b'=>match s||s' with
  | true=>some (.p (b=b'))
  | false=>bif jI b b' then some .tt else none
 | .nil,.nil=>some .tt
 | .ptr i o,.ptr j q=>bif gL f i j&&Nat.beq o q then some .tt else none
 | .nilslice,.nilslice=>some .tt
 | .slice i o l c,.slice j o' l' c'=>bif gL f i j&&Nat.beq o o'&&Nat.beq l l'&&Nat.beq c c' then some .tt else none
 | .gslice i o l c,.gslice j o' l' c'=>bif gL f i j&&Nat.beq o o'&&Nat.beq l l'&&Nat.beq c c' then some .tt else none
 | .yield i,.yield j=>bif gL f i j then some .tt else none
 | .nilfunc,.nilfunc=>some .tt
 | .niliface,.niliface=>some .tt
 | .map i,.map j=>bif gL f i j then some .tt else none
 | .nilmap,.nilmap=>some .tt
 | .vslice i l,.vslice j l'=>bif gL f i j&&Nat.beq l l' then some .tt else none
 | .vptr i o,.vptr j o'=>bif gL f i j&&Nat.beq o o' then some .tt else none
 | .lslice i n,.lslice j m=>bif gL f i j then some (.p (n=m)) else none
 | .islice w i o n,.islice w' j o' m=>bif gL f i j&&w==w' then some (.p (o=o'/\n=m)) else none
 | .gslice i o l e,.islice w j o' m=>bif gL f i j&&Nat.beq e 1&&w then some (.p (0<l/\(o:Int)=o'/\(l:Int)=m)) else none
 | .agg l,.agg m=>wkL f l m
 | .tuple l,.tuple m=>wkL f l m
 | .func g a b,.func h c d=>if g=h then (match wkL f a c with
  | none=>none
  | some p=>match wkL f b d with
   | none=>none
   | some q=>some (p.and q)) else none
 | _,_=>none
def wkL (f:Nat->Option Nat):List AV->List AV->Option Nd
 | [],[]=>some .tt
 | a :: l,b :: m=>match wkA f a b with
  | none=>none
  | some p=>match wkL f l m with
   | none=>none
   | some q=>some (p.and q)
 | _,_=>none
end
theorem fo {f:Nat->Option Nat} {i j:Nat} (h:gL f i j=true):f j=some i:=by
 unfold gL at h
 split at h
 .cases h
 .rename_i k hk
  rw [hk,Nat.eq_of_beq_eq_true h]
def Sg.via (τ:Sg) (f:Nat->Option Nat):Sg:=fun j=>match f j with
 | none=>none
 | some i=>τ i
theorem dR {τ:Sg} {f:Nat->Option Nat} {i j:Nat} {x:Nat×Nat} (h:f j=some i) (k:τ i=some x):τ.via f j=some x:=by
 unfold Sg.via; rw [h]; exact k
theorem TI {τ:Sg}:∀ {a:AV} {V:Value},a.isCell=true->VRel τ a V->(∀ c,V≠.agg c)/\(∀ c,V≠.tuple c)
 | .any true,_,_,h=>h
 | .any false,_,e,_=>by cases e
 | .bool _ _,_,_,h=>by rw [show _=_ from h]; exact ⟨fun _=>nofun,fun _=>nofun⟩
 | .int _ _ _,_,_,h=>by rw [show _=_ from h]; exact ⟨fun _=>nofun,fun _=>nofun⟩
 | .str _ _,_,_,h=>by rw [show _=_ from h]; exact ⟨fun _=>nofun,fun _=>nofun⟩
 | .nil,_,_,h=>by rw [show _=_ from h]; exact ⟨fun _=>nofun,fun _=>nofun⟩
 | .ptr _ _,_,_,⟨_,_,_,h⟩=>by rw [h]; exact ⟨fun _=>nofun,fun _=>nofun⟩
 | .nilslice,_,_,h=>by rw [show _=_ from h]; exact ⟨fun _=>nofun,fun _=>nofun⟩
 | .eslice _,_,_,⟨_,_,h,_⟩=>by rw [h]; exact ⟨fun _=>nofun,fun _=>nofun⟩
 | .slice _ _ _ _,_,_,⟨_,_,_,h⟩=>by rw [h]; exact ⟨fun _=>nofun,fun _=>nofun⟩
 | .gslice _ _ _ _,_,_,⟨_,_,_,_,_,h,_⟩=>by rw [h]; exact ⟨fun _=>nofun,fun _=>nofun⟩
 | .func _ _ _,_,_,⟨_,_,h,_⟩=>by rw [h]; exact ⟨fun _=>nofun,fun _=>nofun⟩
 | .yield _,_,_,⟨_,_,_,h⟩=>by rw [h]; exact ⟨fun _=>nofun,fun _=>nofun⟩
 | .nilfunc,_,_,h=>by rw [show _=_ from h]; exact ⟨fun _=>nofun,fun _=>nofun⟩
 | .iface _ _,_,_,⟨_,h,_⟩=>by rw [h]; exact ⟨fun _=>nofun,fun _=>nofun⟩
 | .niliface,_,_,h=>by rw [show _=_ from h]; exact ⟨fun _=>nofun,fun _=>nofun⟩
 | .map _,_,_,⟨_,_,_,h⟩=>by rw [h]; exact ⟨fun _=>nofun,fun _=>nofun⟩
 | .nilmap,_,_,h=>by rw [show _=_ from h]; exact ⟨fun _=>nofun,fun _=>nofun⟩
 | .vslice _ _,_,_,⟨_,_,_,_,h⟩=>by rw [h]; exact ⟨fun _=>nofun,fun _=>nofun⟩
 | .pslice _ _ _ _,_,_,⟨_,_,_,h,_⟩=>by rw [h]; exact ⟨fun _=>nofun,fun _=>nofun⟩
 | .vptr _ _,_,_,⟨_,_,_,h⟩=>by rw [h]; exact ⟨fun _=>nofun,fun _=>nofun⟩
 | .lslice _ _,_,_,⟨_,_,_,h,_⟩=>by rw [h]; exact ⟨fun _=>nofun,fun _=>nofun⟩
 | .islice _ _ _ _,_,_,⟨_,_,_,h,_⟩=>by rw [h]; exact ⟨fun _=>nofun,fun _=>nofun⟩
 | .panic _,_,e,_=>by cases e
 | .agg _,_,e,_=>by cases e
 | .tuple _,_,e,_=>by cases e
theorem kG {b:Bool} {x p:Nd} (h:(bif b then some x else none)=some p):b=true:=by
 cases b with
 | true=>rfl
 | false=>cases h
mutual
theorem VRel.wk {τ:Sg} {f:Nat->Option Nat}:∀ (b a:AV) (p:Nd),wkA f a b=some p->p.val->∀ V,VRel τ a V->VRel (τ.via f) b V:=by
 intro b a p e hp V h
 unfold wkA at e
 split at e
 .split at e
  .trivial
  .exact TI (kG e) h
 .split at e
  .cases e; rw [show _=_ from hp] at h; exact h
  .have:=kG e
   have:=eq_of_beq this
   subst this; exact h
 .split at e
  .rename_i hk; subst hk
   split at e
   .cases e; rw [show _=_ from hp] at h; exact h
   .split at e
    .rename_i hx; subst hx; exact h
    .cases e
  .cases e
 .split at e
  .cases e; rw [show _=_ from hp] at h; exact h
  .have:=kG e
   have:=(fB _ _).1 this
   subst this; exact h
 .exact h
 .have:=kG e
  simp only [Bool.and_eq_true] at this
  obtain ⟨b,N,h1,h2⟩:=h
  exact ⟨b,N,dR (fo this.1) h1,by rw [<- Nat.eq_of_beq_eq_true this.2]; exact h2⟩
 .exact h
 .have:=kG e
  simp only [Bool.and_eq_true] at this
  obtain ⟨b,N,h1,h2⟩:=h
  exact ⟨b,N,dR (fo this.1.1.1) h1,by rw [<- Nat.eq_of_beq_eq_true this.1.1.2,<- Nat.eq_of_beq_eq_true this.1.2,<- Nat.eq_of_beq_eq_true this.2]; exact h2⟩
 .have:=kG e
  simp only [Bool.and_eq_true] at this
  obtain ⟨b,N,q,c,h1,h2⟩:=h
  exact ⟨b,N,q,c,dR (fo this.1.1.1) h1,by rw [<- Nat.eq_of_beq_eq_true this.1.1.2,<- Nat.eq_of_beq_eq_true this.1.2,<- Nat.eq_of_beq_eq_true this.2]; exact h2⟩
 .have:=kG e
  obtain ⟨b,N,h1,h2⟩:=h
  exact ⟨b,N,dR (fo this) h1,h2⟩
 .exact h
 .exact h
 .have:=kG e
  obtain ⟨b,N,h1,h2⟩:=h
  exact ⟨b,N,dR (fo this) h1,h2⟩
 .exact h
 .have:=kG e
  simp only [Bool.and_eq_true] at this
  obtain ⟨b,N,c,h1,h2⟩:=h
  exact ⟨b,N,c,dR (fo this.1) h1,by rw [<- Nat.eq_of_beq_eq_true this.2]; exact h2⟩
 .have:=kG e
  simp only [Bool.and_eq_true] at this
  obtain ⟨b,N,h1,h2⟩:=h
  exact ⟨b,N,dR (fo this.1) h1,by rw [<- Nat.eq_of_beq_eq_true this.2]; exact h2⟩
 .rename_i i n j m
  cases hs:gL f i j with
  | false=>rw [hs] at e; cases e
  | true=>
   rw [hs] at e; cases e
   obtain ⟨p,len,c,h1,h2,h3⟩:=h
   have hp:n=m:=hp
   subst hp
   exact ⟨p,len,c,h1,h2,h3.imp id fun ⟨b,N,h4,h5⟩=>⟨b,N,dR (fo hs) h4,h5⟩⟩
 .rename_i w i o n w' j o' m
  cases hs:(gL f i j&&w==w') with
  | false=>rw [hs] at e; cases e
  | true=>
   rw [hs] at e; cases e
   simp only [Bool.and_eq_true,beq_iff_eq] at hs
   obtain ⟨p,len,c,h1,h2,h3⟩:=h
   obtain ⟨rfl,rfl⟩:=(show o=o'/\n=m from hp)
   obtain ⟨hs,rfl⟩:=hs
   exact ⟨p,len,c,h1,h2,h3.imp id fun ⟨b,N,h4,h5⟩=>⟨b,N,dR (fo hs) h4,h5⟩⟩
 .rename_i i o l ee w j o' m
  cases hs:(gL f i j&&Nat.beq ee 1&&w) with
  | false=>rw [hs] at e; cases e
  | true=>
   rw [hs] at e; cases e
   simp only [Bool.and_eq_true] at hs
   obtain ⟨⟨hs,h1⟩,rfl⟩:=hs
   have h1:=Nat.eq_of_beq_eq_true h1
   subst h1
   obtain ⟨hl,ho,rfl⟩:=(show 0<l/\(o:Int)=o'/\(l:Int)=m from hp)
   obtain ⟨b,N,q,c,h2,rfl,h3,h4⟩:=h
   obtain ⟨rfl,h5⟩:=h3 (by omega)
   exact ⟨_,l,c,rfl,⟨rfl,h4⟩,.inr ⟨b,N,dR (fo hs) h2,q,rfl,by simp only [cond_true]; omega,fun _=>by omega⟩⟩
 .obtain ⟨K,h1,h2⟩:=h
  exact ⟨K,h1,VRels.wk _ _ _ e hp _ h2⟩
 .obtain ⟨K,h1,h2⟩:=h
  exact ⟨K,h1,VRels.wk _ _ _ e hp _ h2⟩
 .split at e
  .rename_i hg; subst hg
   split at e
   .cases e
   .rename_i p1 e1
    split at e
    .cases e
    .rename_i p2 e2
     cases e
     obtain ⟨F,K,h1,h2,h3⟩:=h
     exact ⟨F,K,h1,VRels.wk _ _ _ e1 (Nd.lv hp) _ h2,VRels.wk _ _ _ e2 (Nd.rv hp) _ h3⟩
  .cases e
 .cases e
theorem VRels.wk {τ:Sg} {f:Nat->Option Nat}:∀ (m l:List AV) (p:Nd),wkL f l m=some p->p.val->∀ L,VRels τ l L->VRels (τ.via f) m L:=by
 intro m l p e hp L h
 unfold wkL at e
 split at e
 .exact h
 .split at e
  .cases e
  .rename_i p1 e1
   split at e
   .cases e
   .rename_i p2 e2
    cases e
    obtain ⟨v,vs,h1,h2,h3⟩:=h
    exact ⟨v,vs,h1,VRel.wk _ _ _ e1 (Nd.lv hp) _ h2,VRels.wk _ _ _ e2 (Nd.rv hp) _ h3⟩
 .cases e
end
def wkB (f:Nat->Option Nat):ABody->ABody->Option Nd
 | _,.dead=>some .tt
 | .cells l,.cells m=>wkL f l m
 | .grown l,.grown m=>wkL f l m
 | .cells l,.grown m=>wkL f l m
 | .view l,.view m=>wkL f l m
 | .ints k xs,.ints k' ys=>if k=k' then some (.p (xs=ys)) else none
 | .rows k xs,.rows k' ys=>if k=k' then some (.p (xs=ys)) else none
 | .grown l,.ints k ys=>match nK k l with
  | some ns=>some (.p (ns=ys))
  | none=>none
 | .cells l,.ints k ys=>match nK k l with
  | some ns=>some (.p (ns=ys))
  | none=>none
 | .defers a,.defers b=>bif a==b then some .tt else none
 | _,_=>none
theorem ug {f:Nat->Option Nat} {a b:ABody} {p:Nd} (e:wkB f a b=some p) (hp:p.val) (hd:b.isDead=false):a.isDead=false/\(a.isView=true->b.isView=true):=by
 unfold wkB at e
 split at e
 case h_7=>
  split at e
  .cases e
   rename_i k xs k' ys _
   have hp:xs=ys:=hp
   subst hp
   exact ⟨hd,fun _=>rfl⟩
  .cases e
 case h_6=>
  split at e
  .cases e
   rename_i k xs k' ys _
   have hp:xs=ys:=hp
   subst hp
   exact ⟨hd,fun h=>by cases h⟩
  .cases e
 all_goals first|(cases hd; done)|(cases e; done)|exact ⟨rfl,fun h=>by first|exact h|cases h⟩
theorem BRel.wk {τ:Sg} {f:Nat->Option Nat} {a b:ABody} {p:Nd} (e:wkB f a b=some p) (hp:p.val) {N:Nat} {o:Obj} (h:BRel τ N a o):BRel (τ.via f) N b o:=by
 unfold wkB at e
 split at e
 .trivial
 .obtain ⟨K,d,h1,h2,h3⟩:=h; exact ⟨K,d,h1,VRels.wk _ _ _ e hp _ h2,h3⟩
 .obtain ⟨K,d,X,Y,h1,h2,h3,h4⟩:=h; exact ⟨K,d,X,Y,h1,h2,VRels.wk _ _ _ e hp _ h3,h4⟩
 .obtain ⟨K,d,h1,h2,h3⟩:=h; exact ⟨K,d,K.toList,[],h1,by simp,VRels.wk _ _ _ e hp _ h2,h3⟩
 .obtain ⟨K,d,fr,h1,h2⟩:=h
  have h3:=VRels.wk _ _ _ e hp _ h2
  refine ⟨K,d,fr,h1,?_⟩
  have l1:=VRels.length h2
  have l2:=VRels.length h3
  rw [<- l2,l1]; exact h3
 .split at e
  .rename_i hk; subst hk; cases e
   rw [show _=_ from hp] at h; exact h
  .cases e
 .split at e
  .rename_i hk; subst hk; cases e
   rw [show _=_ from hp] at h; exact h
  .cases e
 .split at e
  .rename_i ns hns
   cases e
   obtain ⟨K,d,X,Y,h1,h2,h3,h4⟩:=h
   have hp:ns=_:=hp
   exact ⟨K,d,Y,h1,by rw [h2,gQ h3 hns,hp],h4⟩
  .cases e
 .split at e
  .rename_i ns hns
   cases e
   obtain ⟨K,d,h1,h2,h3⟩:=h
   have hp:ns=_:=hp
   exact ⟨K,d,[],h1,by rw [gQ h2 hns,hp,List.append_nil],h3⟩
  .cases e
 .have:=eq_of_beq (kG e)
  subst this; exact h
 .cases e
def TJ (c:Nat) (f:Nat->Option Nat):List AT->List AT->Option Nd
 | [],[]=>some .tt
 | x :: l,y :: m=>match TJ c f l m with
  | none=>none
  | some q=>match Nat.blt y.st c with
   | true=>match Nat.blt x.st c with
    | true=>some q
    | false=>none
   | false=>match wkA f x.v y.v with
    | none=>none
    | some p=>some (p.and q)
 | _,_=>none
theorem Fx {c:Nat} {f:Nat->Option Nat}:∀ {l m:List AT} {nd:Nd},TJ c f l m=some nd->nd.val->l.length=m.length/\∀ (t:Nat) (y:AT),m[t]?=some y->∃ x,l[t]?=some x/\((y.st<c/\x.st<c)\/(c<=y.st/\∃ p,wkA f x.v y.v=some p/\p.val))
 | [],[],_,_,_=>⟨rfl,fun t y h=>by simp at h⟩
 | x :: l,y :: m,nd,e,hn=>by
  simp only [TJ] at e
  split at e
  .cases e
  .rename_i q hq
   have key:q.val/\((y.st<c/\x.st<c)\/(c<=y.st/\∃ p,wkA f x.v y.v=some p/\p.val)):=by
    split at e
    .rename_i hy
     split at e
     .rename_i hx; cases e; exact ⟨hn,.inl ⟨jD hy,jD hx⟩⟩
     .cases e
    .rename_i hy
     have hy:c<=y.st:=by
      rcases Nat.lt_or_ge y.st c with h1|h1
      .rw [show Nat.blt y.st c=true from by simpa [Nat.blt_eq] using h1] at hy; cases hy
      .exact h1
     split at e
     .cases e
     .rename_i p hp; cases e; exact ⟨Nd.rv hn,.inr ⟨hy,p,hp,Nd.lv hn⟩⟩
   obtain ⟨i1,i2⟩:=Fx hq key.1
   refine ⟨by simp [i1],fun t z h=>?_⟩
   cases t with
   | zero=>cases h; exact ⟨x,rfl,key.2⟩
   | succ t=>exact i2 t z (by simpa using h)
 | [],_ :: _,_,e,_=>by cases e
 | _ :: _,[],_,e,_=>by cases e
def TK (c:Nat) (f:Nat->Option Nat):List ABlk->List ABlk->Option Nd
 | [],[]=>some .tt
 | x :: l,y :: m=>match TK c f l m with
  | none=>none
  | some q=>match Nat.blt y.wr c with
   | true=>match Nat.blt x.wr c with
    | true=>some q
    | false=>none
   | false=>match wkB f x.body y.body with
    | none=>none
    | some p=>some (p.and q)
 | _,_=>none
theorem Fy {c:Nat} {f:Nat->Option Nat}:∀ {l m:List ABlk} {nd:Nd},TK c f l m=some nd->nd.val->l.length=m.length/\∀ (t:Nat) (y:ABlk),m[t]?=some y->∃ x,l[t]?=some x/\((y.wr<c/\x.wr<c)\/(c<=y.wr/\∃ p,wkB f x.body y.body=some p/\p.val))
 | [],[],_,_,_=>⟨rfl,fun t y h=>by simp at h⟩
 | x :: l,y :: m,nd,e,hn=>by
  simp only [TK] at e
  split at e
  .cases e
  .rename_i q hq
   have key:q.val/\((y.wr<c/\x.wr<c)\/(c<=y.wr/\∃ p,wkB f x.body y.body=some p/\p.val)):=by
    split at e
    .rename_i hy
     split at e
     .rename_i hx; cases e; exact ⟨hn,.inl ⟨jD hy,jD hx⟩⟩
     .cases e
    .rename_i hy
     have hy:c<=y.wr:=by
      rcases Nat.lt_or_ge y.wr c with h1|h1
      .rw [show Nat.blt y.wr c=true from by simpa [Nat.blt_eq] using h1] at hy; cases hy
      .exact h1
     split at e
     .cases e
     .rename_i p hp; cases e; exact ⟨Nd.rv hn,.inr ⟨hy,p,hp,Nd.lv hn⟩⟩
   obtain ⟨i1,i2⟩:=Fy hq key.1
   refine ⟨by simp [i1],fun t z h=>?_⟩
   cases t with
   | zero=>cases h; exact ⟨x,rfl,key.2⟩
   | succ t=>exact i2 t z (by simpa using h)
 | [],_ :: _,_,e,_=>by cases e
 | _ :: _,[],_,e,_=>by cases e
def TL (f:Nat->Option Nat) (h:Hp):List Nat->List ABlk->Option Nd
 | [],[]=>some .tt
 | i :: l,y :: m=>match TL f h l m with
  | none=>none
  | some q=>match h.get i with
   | none=>none
   | some x=>match wkB f x.body y.body with
    | none=>none
    | some p=>some (p.and q)
 | _,_=>none
theorem Fz {f:Nat->Option Nat} {h:Hp}:∀ {l:List Nat} {m:List ABlk} {nd:Nd},TL f h l m=some nd->nd.val->l.length=m.length/\∀ (t:Nat) (y:ABlk),m[t]?=some y->∃ i x p,l[t]?=some i/\h.get i=some x/\wkB f x.body y.body=some p/\p.val
 | [],[],_,_,_=>⟨rfl,fun t y h=>by simp at h⟩
 | i :: l,y :: m,nd,e,hn=>by
  simp only [TL] at e
  split at e
  .cases e
  .rename_i q hq
   split at e
   .cases e
   .rename_i x hx
    split at e
    .cases e
    .rename_i p hp
     cases e
     obtain ⟨i1,i2⟩:=Fz hq (Nd.rv hn)
     refine ⟨by simp [i1],fun t z h=>?_⟩
     cases t with
     | zero=>cases h; exact ⟨i,x,p,rfl,hx,hp,Nd.lv hn⟩
     | succ t=>exact i2 t z (by simpa using h)
 | [],_ :: _,_,e,_=>by cases e
 | _ :: _,[],_,e,_=>by cases e
def CX (m n:Nat):List Nat->List Nat->Bool
 | [],_=>true
 | i :: l,aJ=>Nat.ble m i&&Nat.blt i n&&!aJ.elem i&&CX m n l (i :: aJ)
theorem wI {m n:Nat}:∀ {l aJ:List Nat},CX m n l aJ=true->(∀ i∈l,m<=i/\i<n/\i ∉ aJ)/\l.Nodup
 | [],_,_=>⟨fun _ h=>(by cases h),List.nodup_nil⟩
 | i :: l,aJ,e=>by
  simp only [CX,Bool.and_eq_true] at e
  obtain ⟨⟨⟨h1,h2⟩,h3⟩,h4⟩:=e
  obtain ⟨k1,k2⟩:=wI h4
  refine ⟨fun j hj=>?_,List.nodup_cons.2 ⟨fun hi=>?_,k2⟩⟩
  .rcases List.mem_cons.1 hj with rfl|hj
   .exact ⟨Nat.le_of_ble_eq_true h1,jD h2,by simpa using h3⟩
   .obtain ⟨a,b,c⟩:=k1 j hj
    exact ⟨a,b,fun h=>c (List.mem_cons_of_mem _ h)⟩
  .exact (k1 i hi).2.2 (by simp)
def fit (s0 s1 t:St) (ids:List Nat):Option Nd:=
 match Nat.ble s0.hp.size t.hp.size&&Nat.beq (s0.hp.size+ids.length) t.hp.size&&CX s0.hp.size s1.hp.size ids []&&dL s1.defs s0.defs&&iJ s0.hp.size s0.defs with
 | false=>none
 | true=>match TJ s0.hp.clock (plc s0.hp.size ids) s1.tmps t.tmps with
  | none=>none
  | some a=>match TK s0.hp.clock (plc s0.hp.size ids) (aP (s1.hp.size - s0.hp.size) s1.hp.blks) (aP (t.hp.size - s0.hp.size) t.hp.blks) with
   | none=>none
   | some b=>match TL (plc s0.hp.size ids) s1.hp ids.reverse (t.hp.blks.take (t.hp.size - s0.hp.size)) with
    | none=>none
    | some c=>some (a.and (b.and c))
structure Next1 (s0 t:St):Prop where
 tm:TMon s0 t
 mon:Mon s0.hp t.hp
 ok:t.hp.ok
 defs:t.defs=s0.defs
theorem uh {m:Nat} {l:List Nat} {j:Nat} (h:j<m):plc m l j=some j:=by
 unfold plc
 rw [show Nat.blt j m=true from by simpa [Nat.blt_eq] using h]
theorem qc {m:Nat} {l:List Nat} {j:Nat} (h:m<=j):plc m l j=l[j - m]?:=by
 unfold plc
 rw [show Nat.blt j m=false from by rw [Bool.eq_false_iff]; intro e; have:=jD e; omega,bX]
theorem vg {σ τ:Sg} {s0 s1 t:St} {ids:List Nat} {T0 T:Array Value} {D0 D:List Deferred} {W0 W:World} (r0:SRel σ s0 T0 D0 W0) (r:SRel τ s1 T D W) (st:Step σ s0 W0 τ s1 W) (n1:Next1 s0 t) {nd:Nd} (e:fit s0 s1 t ids=some nd) (hn:nd.val):
  ∃ υ,SRel υ t T D W/\Step σ s0 W0 υ t W:=by
 unfold fit at e
 split at e
 .cases e
 .rename_i hc
  simp only [Bool.and_eq_true,Nat.ble_eq,Nat.beq_eq] at hc
  obtain ⟨⟨⟨⟨hle,hlen⟩,hids⟩,hdefs⟩,hdu⟩:=hc
  have hdefs:=kR _ _ hdefs
  obtain ⟨hids1,hids2⟩:=wI hids
  split at e
  .cases e
  .rename_i na ea
   split at e
   .cases e
   .rename_i nb eb
    split at e
    .cases e
    .rename_i nc ec
     cases e
     generalize hf:plc s0.hp.size ids=f at *
     obtain ⟨ta,tb⟩:=Fx ea (Nd.lv hn)
     obtain ⟨oa,ob⟩:=Fy eb (Nd.lv (Nd.rv hn))
     obtain ⟨ca,cb⟩:=Fz ec (Nd.rv (Nd.rv hn))
     rw [il,il] at ob oa
     have hs1:s0.hp.size<=s1.hp.size:=st.good.mon.size
     have dom0:∀ i B N,σ i=some (B,N)->i<s0.hp.size:=fun i B N h=>(r0.h.dom i B N h).1
     have fold:∀ {j},j<s0.hp.size->f j=some j:=fun h=>by rw [<- hf]; exact uh h
     have low_sub:Sub (τ.low s0.hp.size) (τ.via f):=fun i x h=>by
      obtain ⟨h1,h2⟩:=mX h
      exact dR (fold h1) h2
     have getO:∀ j y,j<s0.hp.size->t.hp.get j=some y->∃ x,s1.hp.get j=some x/\((y.wr<s0.hp.clock/\x.wr<s0.hp.clock)\/(s0.hp.clock<=y.wr/\∃ p,wkB f x.body y.body=some p/\p.val)):=by
      intro j y hj hy
      rw [Hp.get_eq,if_pos (by omega)] at hy
      obtain ⟨x,h1,h2⟩:=ob (s0.hp.size - 1 - j) y (by rw [List.getElem?_drop,show t.hp.size - s0.hp.size+(s0.hp.size - 1 - j)=t.hp.size - 1 - j by omega]; exact hy)
      refine ⟨x,?_,h2⟩
      rw [List.getElem?_drop,show s1.hp.size - s0.hp.size+(s0.hp.size - 1 - j)=s1.hp.size - 1 - j by omega] at h1
      rw [Hp.get_eq,if_pos (by omega)]; exact h1
     have getN:∀ j y,s0.hp.size<=j->t.hp.get j=some y->∃ i x p,f j=some i/\i∈ids/\s1.hp.get i=some x/\wkB f x.body y.body=some p/\p.val:=by
      intro j y hj hy
      have hlt:=Hp.get_lt hy
      rw [Hp.get_eq,if_pos hlt] at hy
      obtain ⟨i,x,p,h1,h2,h3,h4⟩:=cb (t.hp.size - 1 - j) y (by rw [List.getElem?_take,if_pos (by omega)]; exact hy)
      rw [List.getElem?_reverse (by omega),show ids.length - 1 - (t.hp.size - 1 - j)=j - s0.hp.size by omega] at h1
      exact ⟨i,x,p,by rw [<- hf,qc hj]; exact h1,List.mem_of_getElem? h1,h2,h3,h4⟩
     have viaS:∀ j x,τ.via f j=some x->(j<s0.hp.size/\τ j=some x)\/(s0.hp.size<=j/\j<t.hp.size/\∃ i,f j=some i/\i∈ids/\τ i=some x):=by
      intro j x h
      unfold Sg.via at h
      split at h
      .cases h
      .rename_i i hi
       rcases Nat.lt_or_ge j s0.hp.size with hj|hj
       .rw [fold hj] at hi; cases hi; exact .inl ⟨hj,h⟩
       .have hi':=hi
        rw [<- hf,qc hj] at hi'
        have:=(List.getElem?_eq_some_iff.1 hi').1
        exact .inr ⟨hj,by omega,i,hi,List.mem_of_getElem? hi',h⟩
     have sub0:Sub σ (τ.via f):=fun i x h=>dR (fold (dom0 i x.1 x.2 h)) (st.good.sub i x h)
     have blk:∀ j y,t.hp.get j=some y->y.body.isDead=false->∃ i x,f j=some i/\s1.hp.get i=some x/\x.body.isDead=false/\(x.body.isView=true->y.body.isView=true)/\∀ B N o,τ i=some (B,N)->BRel τ N x.body o->BRel (τ.via f) N y.body o:=by
      intro j y hy hd
      rcases Nat.lt_or_ge j s0.hp.size with hj|hj
      .obtain ⟨x,h1,h2⟩:=getO j y hj hy
       rcases h2 with ⟨w1,w2⟩|⟨w1,p,h2,h3⟩
       .obtain ⟨z,hz⟩:=Hp.get_some r0.h.ok hj
        have e1:y=z:=by
         rcases n1.mon.same j z y hz hy with h|h
         .exact h
         .omega
        have e2:x=z:=by
         rcases st.good.mon.same j z x hz h1 with h|h
         .exact h
         .omega
        subst e1 e2
        obtain ⟨B0,N0,o0,q1,q2,q3⟩:=r0.h.blk j x hz hd
        exact ⟨j,x,fold hj,h1,hd,id,fun B N o hB hb=>BRel.mono low_sub (BRel.names dom0 st.good.sub q3 hb)⟩
       .exact ⟨j,x,fold hj,h1,(ug h2 h3 hd).1,(ug h2 h3 hd).2,fun B N o _ hb=>BRel.wk h2 h3 hb⟩
      .obtain ⟨i,x,p,h1,_,h2,h3,h4⟩:=getN j y hj hy
       exact ⟨i,x,h1,h2,(ug h3 h4 hd).1,(ug h3 h4 hd).2,fun B N o _ hb=>BRel.wk h3 h4 hb⟩
     have finj:∀ a b c,f a=some c->f b=some c->a=b:=by
      intro a b c ha hb
      rw [<- hf] at ha hb
      have Kn:∀ i∈ids,s0.hp.size<=i:=fun i hi=>(hids1 i hi).1
      rcases Nat.lt_or_ge a s0.hp.size with h1|h1 <;> rcases Nat.lt_or_ge b s0.hp.size with h2|h2
      .rw [uh h1] at ha; rw [uh h2] at hb; cases ha; cases hb; rfl
      .rw [uh h1] at ha; rw [qc h2] at hb; cases ha
       have:=Kn _ (List.mem_of_getElem? hb); omega
      .rw [qc h1] at ha; rw [uh h2] at hb; cases hb
       have:=Kn _ (List.mem_of_getElem? ha); omega
      .rw [qc h1] at ha; rw [qc h2] at hb
       have l1:=(List.getElem?_eq_some_iff.1 ha).1
       have:=(List.getElem?_inj l1 hids2).1 (ha.trans hb.symm)
       omega
     refine ⟨τ.via f,⟨?_,?_,⟨n1.ok,?_,?_,?_⟩⟩,⟨⟨sub0,?_,st.good.ext,n1.mon,?_,?_⟩,n1.tm⟩⟩
     .-- the temporaries
      have build:∀ (l:List AT) (L:List Value),l.length=L.length->(∀ (j:Nat) (c:AT) (V:Value),l[j]?=some c->L[j]?=some V->VRel (τ.via f) c.v V)->VRels (τ.via f) (l.map (·.v)) L:=by
       intro l
       induction l with
       | nil=>intro L hl _; cases L with|nil=>rfl|cons _ _=>simp at hl
       | cons c l ih=>
        intro L hl hj
        cases L with
        | nil=>simp at hl
        | cons V L=>exact ⟨V,L,rfl,hj 0 c V rfl rfl,ih L (by simpa using hl) fun j c V h1 h2=>hj (j+1) c V (by simpa using h1) (by simpa using h2)⟩
      have hl1:T.toList.length=s1.tmps.length:=by have:=VRels.length r.t; simpa using this
      refine build t.tmps T.toList (by omega) fun j y V h1 h2=>?_
      obtain ⟨x,q1,q2⟩:=tb j y h1
      have hx:VRel τ x.v V:=by
       obtain ⟨V',v1,v2⟩:=r.t.nth (t:=j) (a:=x) (by rw [bX]; exact q1)
       have:T.toList[j]?=some V':=by simpa using v1
       rw [h2] at this; cases this; exact v2
      rcases q2 with ⟨w1,w2⟩|⟨w,p,h3,h4⟩
      .have e1:s0.tmps[j]?=some y:=by
        rcases n1.tm.same j y h1 with h|h
        .exact h
        .omega
       have e2:s0.tmps[j]?=some x:=by
        rcases st.tm.same j x q1 with h|h
        .exact h
        .omega
       rw [e1] at e2; cases e2
       obtain ⟨V0,v1,v2⟩:=r0.t.nth (t:=j) (a:=y) (by rw [bX]; exact e1)
       exact VRel.mono low_sub _ _ (VRel.names dom0 st.good.sub _ _ _ v2 hx)
      .exact VRel.wk _ _ _ h3 h4 _ hx
     .have h1:=r.d
      rw [hdefs] at h1
      rw [n1.defs]
      exact DRel.mono low_sub (DRel.low hdu h1)
     .intro j y hy hd
      obtain ⟨i,x,h1,h2,h3,_,h4⟩:=blk j y hy hd
      obtain ⟨B,N,o,q1,q2,q3⟩:=r.h.blk i x h2 h3
      exact ⟨B,N,o,dR h1 q1,q2,h4 B N o q1 q3⟩
     .intro j B N h
      rcases viaS j _ h with ⟨h1,h2⟩|⟨h1,h2,i,h3,h4,h5⟩
      .exact ⟨by omega,(r.h.dom j B N h2).2⟩
      .exact ⟨h2,(r.h.dom i B N h5).2⟩
     .intro j k y z B N M hy hz hyd hzd h1 h2
      obtain ⟨i,x,a1,a2,a3,a4,_⟩:=blk j y hy hyd
      obtain ⟨i',x',b1,b2,b3,b4,_⟩:=blk k z hz hzd
      have c1:τ i=some (B,N):=by unfold Sg.via at h1; rw [a1] at h1; exact h1
      have c2:τ i'=some (B,M):=by unfold Sg.via at h2; rw [b1] at h2; exact h2
      rcases r.h.inj i i' x x' B N M a2 b2 a3 b3 c1 c2 with h|⟨h,h'⟩
      .subst h; exact .inl (finj j k i a1 b1)
      .exact .inr ⟨a4 h,b4 h'⟩
     .intro j x h hj
      rcases viaS j x h with ⟨_,h2⟩|⟨h1,_⟩
      .exact st.good.only j x h2 hj
      .omega
     .intro j B N h hj hB
      rcases viaS j _ h with ⟨h1,_⟩|⟨_,_,i,h3,h4,h5⟩
      .omega
      .rcases st.good.old i B N h5 (hids1 i h4).1 hB with h|⟨k,M,c,q1,q2,q3,q4⟩
       .exact h.elim
       .obtain ⟨y,hy⟩:=Hp.get_some n1.ok (i:=k) (by omega)
        refine .inr ⟨k,M,y,q1,q2,hy,?_⟩
        obtain ⟨x,x1,x2⟩:=getO k y q1 hy
        rw [q3] at x1; cases x1
        rcases x2 with ⟨_,w⟩|⟨w,_⟩
        .omega
        .exact w
     .intro B hB hH hw
      refine st.good.keep B hB hH fun i N c hi hg=>?_
      have hlt:=dom0 i B N hi
      obtain ⟨y,hy⟩:=Hp.get_some n1.ok (i:=i) (by omega)
      have:=hw i N y hi hy
      obtain ⟨x,x1,x2⟩:=getO i y hlt hy
      rw [hg] at x1; cases x1
      rcases x2 with ⟨_,w⟩|⟨w,_⟩
      .exact w
      .omega
end
end Go.Eng
namespace Go.Eng
noncomputable section
structure Patch where
 tm:List (Nat×AV)
 old:List (Nat×ABody)
 new:List ABody
def JL {β:Type} (c:Nat):List (Nat×AV)->List AT->(List AT->β)->β
 | [],l,k=>k l
 | (i,v) :: p,l,k=>wR l i ⟨c,v⟩ fun l=>JL c p l k
def JM {β:Type} (c size:Nat):List (Nat×ABody)->List ABlk->(List ABlk->β)->β
 | [],l,k=>k l
 | (i,b) :: p,l,k=>wR l (size - 1 - i) ⟨c,b⟩ fun l=>JM c size p l k
def xm (c:Nat):List ABody->List ABlk->List ABlk
 | [],l=>l
 | b :: p,l=>⟨c,b⟩ :: xm c p l
def ah (s:St) (p:Patch):St:=
 JL s.hp.clock p.tm s.tmps fun t=>JM s.hp.clock s.hp.size p.old s.hp.blks fun b=>aC (s.hp.size+p.new.length) fun n=>aC (s.hp.clock+1) fun c=>
  ⟨t,s.defs,⟨xm s.hp.clock p.new b,n,c⟩⟩
def NF:Option ABlk->Bool
 | some ⟨_,.loop _⟩=>true
 | _=>false
def fU (h:Hp):List (Nat×ABody)->Bool
 | []=>true
 | (i,_) :: p=>Nat.blt i h.size&&!NF (h.get i)&&fU h p
def y7 (c:Nat):List (Nat×AV)->List AT->List AT
 | [],l=>l
 | (i,v) :: p,l=>y7 c p (l.set i ⟨c,v⟩)
def qK (c size:Nat):List (Nat×ABody)->List ABlk->List ABlk
 | [],l=>l
 | (i,b) :: p,l=>qK c size p (l.set (size - 1 - i) ⟨c,b⟩)
theorem FB {β:Type} (c:Nat):∀ (p:List (Nat×AV)) (l:List AT) (k:List AT->β),JL c p l k=k (y7 c p l)
 | [],_,_=>rfl
 | (i,v) :: p,l,k=>by simp only [JL,jM,y7]; exact FB c p _ k
theorem FC {β:Type} (c size:Nat):∀ (p:List (Nat×ABody)) (l:List ABlk) (k:List ABlk->β),JM c size p l k=k (qK c size p l)
 | [],_,_=>rfl
 | (i,v) :: p,l,k=>by simp only [JM,jM,qK]; exact FC c size p _ k
theorem y8 (c:Nat):∀ (p:List ABody) (l:List ABlk),xm c p l=p.map (fun b=>⟨c,b⟩)++l
 | [],_=>rfl
 | b :: p,l=>by simp [xm,y8 c p l]
theorem NG (s:St) (p:Patch):ah s p=⟨y7 s.hp.clock p.tm s.tmps,s.defs,⟨p.new.map (fun b=>⟨s.hp.clock,b⟩)++qK s.hp.clock s.hp.size p.old s.hp.blks,s.hp.size+p.new.length,s.hp.clock+1⟩⟩:=by
 simp [ah,FB,FC,y8]
theorem za (c:Nat):∀ (p:List (Nat×AV)) (l:List AT),(y7 c p l).length=l.length/\∀ (t:Nat) (x:AT),(y7 c p l)[t]?=some x->l[t]?=some x\/x.st=c
 | [],l=>⟨rfl,fun t x h=>.inl h⟩
 | (i,v) :: p,l=>by
  obtain ⟨h1,h2⟩:=za c p (l.set i ⟨c,v⟩)
  refine ⟨by simp only [y7]; rw [h1]; simp,fun t x h=>?_⟩
  rcases h2 t x h with h3|h3
  .by_cases he:t=i
   .subst he
    by_cases hl:t<l.length
    .rw [List.getElem?_set_self hl] at h3; cases h3; exact .inr rfl
    .rw [List.getElem?_eq_none (by simpa using hl)] at h3; cases h3
   .rw [List.getElem?_set_ne (Ne.symm he)] at h3; exact .inl h3
  .exact .inr h3
theorem zb (c size:Nat):∀ (p:List (Nat×ABody)) (l:List ABlk),(qK c size p l).length=l.length /\
  ∀ (t:Nat) (x:ABlk),(qK c size p l)[t]?=some x->(l[t]?=some x)\/(x.wr=c/\∃ i b,(i,b)∈p/\t=size - 1 - i)
 | [],l=>⟨rfl,fun t x h=>.inl h⟩
 | (i,v) :: p,l=>by
  obtain ⟨h1,h2⟩:=zb c size p (l.set (size - 1 - i) ⟨c,v⟩)
  refine ⟨by simp only [qK]; rw [h1]; simp,fun t x h=>?_⟩
  rcases h2 t x h with h3|⟨h3,j,b,h4,h5⟩
  .by_cases he:t=size - 1 - i
   .subst he
    by_cases hl:size - 1 - i<l.length
    .rw [List.getElem?_set_self hl] at h3; cases h3; exact .inr ⟨rfl,i,v,by simp,rfl⟩
    .rw [List.getElem?_eq_none (by simpa using hl)] at h3; cases h3
   .rw [List.getElem?_set_ne (Ne.symm he)] at h3; exact .inl h3
  .exact .inr ⟨h3,j,b,by simp [h4],h5⟩
theorem wJ {h:Hp}:∀ {p:List (Nat×ABody)},fU h p=true->∀ i b,(i,b)∈p->i<h.size/\NF (h.get i)=false
 | [],_,i,b,hm=>by cases hm
 | (j,d) :: p,e,i,b,hm=>by
  simp only [fU,Bool.and_eq_true] at e
  rcases List.mem_cons.1 hm with h1|h1
  .cases h1
   exact ⟨jD e.1.1,by simpa using e.1.2⟩
  .exact wJ e.2 i b h1
theorem iW {s:St} (ok:s.hp.ok) {p:Patch} (h:fU s.hp p.old=true):Next1 s (ah s p):=by
 rw [NG]
 obtain ⟨t1,t2⟩:=za s.hp.clock p.tm s.tmps
 obtain ⟨b1,b2⟩:=zb s.hp.clock s.hp.size p.old s.hp.blks
 have ol:=wJ h
 have ok:s.hp.blks.length=s.hp.size:=ok
 have get:∀ i,i<s.hp.size->(⟨p.new.map (fun b=>⟨s.hp.clock,b⟩)++qK s.hp.clock s.hp.size p.old s.hp.blks,s.hp.size+p.new.length,s.hp.clock+1⟩:Hp).get i=(qK s.hp.clock s.hp.size p.old s.hp.blks)[s.hp.size - 1 - i]?:=by
  intro i hi
  rw [Hp.get_eq,if_pos (by simp only; omega),List.getElem?_append_right (by simp; omega)]
  congr 1
  simp only [List.length_map]
  omega
 refine ⟨⟨t1,fun t x hx=>?_⟩,⟨Nat.le_succ _,Nat.le_add_right _ _,fun i b c hb hc=>?_,fun i w c hb=>?_⟩,?_,rfl⟩
 .rcases t2 t x hx with h1|h1
  .exact .inl h1
  .exact .inr (by omega)
 .have hi:=Hp.get_lt hb
  rw [get i hi] at hc
  rw [Hp.get_eq,if_pos hi] at hb
  rcases b2 _ c hc with h1|⟨h1,_⟩
  .rw [hb] at h1; cases h1; exact .inl rfl
  .exact .inr (by omega)
 .have hi:=Hp.get_lt hb
  have hb':=hb
  rw [Hp.get_eq,if_pos hi] at hb'
  obtain ⟨x,hx⟩:∃ x,(qK s.hp.clock s.hp.size p.old s.hp.blks)[s.hp.size - 1 - i]?=some x:=⟨_,List.getElem?_eq_getElem (by omega)⟩
  rcases b2 _ x hx with h1|⟨_,j,d,h2,h3⟩
  .rw [hb'] at h1; cases h1
   exact ⟨w,c.state,c.pending,by rw [get i hi]; exact hx⟩
  .obtain ⟨o1,o2⟩:=ol j d h2
   have:i=j:=by omega
   subst this
   rw [hb] at o2; cases o2
 .simp only [Hp.ok,List.length_append,List.length_map]; omega
def TM (s0:St) (P:Ex->Option (Patch×List Nat×Prop)):List Ent->Option Nd
 | []=>some .tt
 | e :: l=>match TM s0 P l with
  | none=>none
  | some q=>match P e.x with
   | none=>some ((e.g.on fun g=>Nd.p (g=false)).and q)
   | some (p,ids,x)=>match fU s0.hp p.old with
    | false=>none
    | true=>match fit s0 e.s (ah s0 p) ids with
     | none=>none
     | some nd=>some ((e.g.on fun g=>Nd.imp (g=true) (nd.and (.p x))).and q)
def d9 (s0:St) (P:Ex->Option (Patch×List Nat×Prop)):Option R->Option Nd
 | none=>none
 | some ⟨nd,l⟩=>match TM s0 P l with
  | none=>none
  | some m=>some (nd.and m)
theorem ui {s0:St} {P:Ex->Option (Patch×List Nat×Prop)}:∀ {l:List Ent} {nd:Nd},TM s0 P l=some nd->nd.val->∀ e,One l e->∃ p ids x m,P e.x=some (p,ids,x)/\fU s0.hp p.old=true/\fit s0 e.s (ah s0 p) ids=some m/\m.val/\x
 | [],_,_,_,e,h=>by simp [One] at h
 | a :: l,nd,h,hn,e,ho=>by
  simp only [TM] at h
  split at h
  .cases h
  .rename_i q hq
   rcases aY ho with ⟨h1,h2,_⟩|⟨_,h2⟩
   .subst h2
    split at h
    .cases h
     have h3:=Nd.lv hn
     rw [G.on_eq] at h3
     rw [show _=_ from h3] at h1
     cases h1
    .rename_i p ids x hP
     split at h
     .cases h
     .rename_i hold
      split at h
      .cases h
      .rename_i m hm
       cases h
       have h3:=Nd.lv hn
       rw [G.on_eq] at h3
       have h4:=Nd.iv h3 h1
       exact ⟨p,ids,x,m,hP,hold,hm,Nd.lv h4,Nd.rv h4⟩
   .refine ui hq ?_ e h2
    split at h
    .cases h; exact Nd.rv hn
    .split at h
     .cases h
     .split at h
      .cases h
      .cases h; exact Nd.rv hn
structure Sum (α:Type) where
 S:α->Patch
 I:α->Prop
 μ:α->Nat
 F:α->Ex×Patch
 next:α->α
 ids:List Nat
 X:α->Ex->Option (Patch×List Nat)
def Sum.way {α:Type} (u:Sum α) (y:α):Ex->Option (Patch×List Nat×Prop)
 | .normal=>some (u.S (u.next y),u.ids,u.I (u.next y)/\u.μ (u.next y)<u.μ y/\u.F (u.next y)=u.F y)
 | x=>match u.X y x with
  | none=>none
  | some (p,ids)=>some (p,ids,u.F y=(x,p))
def jG (o:Option Nd):Prop:=∃ nd,o=some nd/\nd.val
theorem Ia {C:Ctx} {r:Rec} (ro:RecOk C r) {fr:AFr} {a:Code} {s0:St} {α:Type} (u:Sum α) {y0:α} {ids0:List Nat} (hI:u.I y0) (start:jG (fit s0 s0 (ah s0 (u.S y0)) ids0)) (hs:fU s0.hp (u.S y0).old=true)
  (body:∀ y,u.I y->jG (d9 s0 (u.way y) (r.code fr a (ah s0 (u.S y))))) {q:R} (hq:∃ e,One q.l e/\e.x=(u.F y0).1/\e.s=ah s0 (u.F y0).2):CodeOk C fr (.loop a) s0 q:=by
 intro σ T0 D0 W0 g sr b k todo cs hst fb _
 obtain ⟨e0,h1,h2,h3⟩:=hq
 refine ⟨e0,h1,?_⟩
 rw [h2,h3]
 have main:∀ (n:Nat) (y:α),u.μ y<n->u.I y->∀ (τ:Sg) (T:Array Value) (D:List Deferred) (W:World),SRel τ (ah s0 (u.S y)) T D W->Step σ s0 W0 τ (ah s0 (u.S y)) W ->
   Post σ s0 W0 (Arr C.P (lone (b.fr T D (.code a :: .inLoop a :: k)) cs W) b k cs) (u.F y).1 (ah s0 (u.F y).2):=by
  intro n
  induction n with
  | zero=>intro y h; exact absurd h (Nat.not_lt_zero _)
  | succ n ih=>
   intro y hlt hy τ T D W sr1 st1
   obtain ⟨nd,e1,hn⟩:=body y hy
   unfold d9 at e1
   split at e1
   .cases e1
   .rename_i nd1 l hl
    split at e1
    .cases e1
    .rename_i m hm
     cases e1
     obtain ⟨e,o1,τ2,T2,D2,V2,sr2,st2,arr⟩:=ro.code _ _ _ _ hl τ T D W (g.mono st1.good.sub) sr1 b (.inLoop a :: k) _ cs (.inl rfl) (fb.mono st1.good.sub) (Nd.lv hn)
     obtain ⟨p,ids,x,m',hP,hold,hf,hm',hx⟩:=ui hm (Nd.rv hn) e o1
     have st3:=Step.trans sr1.ko sr2.ko st1 st2
     obtain ⟨υ,sr4,st4⟩:=vg sr sr2 st3 (iW sr.ko hold) hf hm'
     have later:∀ ex,ex≠.normal->(match u.X y ex with|none=>none|some (p,ids)=>some (p,ids,u.F y=(ex,p)))=some (p,ids,x)->Arr C.P (lone (b.fr T D (.code a :: .inLoop a :: k)) cs W) b (.inLoop a :: k) cs ex T2 D2 V2 ->
       Post σ s0 W0 (Arr C.P (lone (b.fr T D (.code a :: .inLoop a :: k)) cs W) b k cs) (u.F y).1 (ah s0 (u.F y).2):=by
      intro ex hne hP arr
      split at hP
      .cases hP
      .cases hP
       rw [show u.F y=_ from hx]
       exact ⟨υ,T2,D2,V2,sr4,st4,arr.pass rfl hne⟩
     cases hex:e.x with
     | normal=>
      rw [hex] at hP arr
      simp only [Sum.way] at hP
      cases hP
      obtain ⟨x1,x2,x3⟩:=hx
      have:=ih (u.next y) (by omega) x1 υ T2 D2 V2 sr4 st4
      rw [x3] at this
      refine this.imp fun T3 D3 V3 h=>.of_steps (Steps.trans arr (.one gT)) h
     | exit i=>rw [hex] at hP arr; exact later (.exit i) (fun h=>by cases h) hP arr
     | goto i=>rw [hex] at hP arr; exact later (.goto i) (fun h=>by cases h) hP arr
     | ret=>rw [hex] at hP arr; exact later .ret (fun h=>by cases h) hP arr
     | raise v=>rw [hex] at hP arr; exact later (.raise v) (fun h=>by cases h) hP arr
 obtain ⟨nd,e1,hn⟩:=start
 have refl:Step σ s0 W0 σ s0 W0:=⟨Good.refl σ s0.hp W0 fun i B N h=>(sr.h.dom i B N h).1,TMon.refl s0⟩
 obtain ⟨υ,sr1,st1⟩:=vg sr sr refl (iW sr.ko hs) e1 hn
 have:=main _ y0 (Nat.lt_succ_self _) hI υ T0 D0 W0 sr1 st1
 refine this.imp fun T3 D3 V3 h=>?_
 rcases hst with rfl|⟨c,hc,rfl⟩
 .exact .of_steps (.one sV) h
 .cases hc
  exact .of_steps (.one gT) h
def At (fr fr':AFr) (a a':Code) (s s':St):Prop:=fr=fr'/\a=a'/\s=s'
structure Known where
 fn:FuncId
 clock:Nat
 fr:AFr
 a:Code
 s:St
 l:List Ent
def vk:List Known->AFr->Code->St->Option R
 | [],_,_,_=>none
 | x :: l,fr,a,s=>match Nat.beq fr.fn x.fn&&Nat.beq s.hp.clock x.clock with
  | true=>some ⟨.p (At fr x.fr a x.a s x.s),x.l⟩
  | false=>vk l fr a s
def jb:Code->List Code
 | .seq a b=>jb a++jb b
 | .cond _ a b=>jb a++jb b
 | .block _ a=>jb a
 | .scope a=>jb a
 | .loop a=>a :: jb a
 | .rangeFunc _ _ a b=>jb a++jb b
 | _=>[]
noncomputable def iX (P:Program) (f:FuncId) (k:Nat):Code:=
 match P.funcs[f]? with
 | none=>.skip
 | some fn=>match fn.body with
  | none=>.skip
  | some c=>(jb c).getD k .skip
theorem A7 {P:Program} {f:FuncId} {spec:bC} (h:∀ args nd v,spec args=some (nd,v)->nd.val->∃ (C:Ctx) (n:Nat) (args0:List AV) (nd0:Nd) (v0:AV),CtxOk C/\C.P=P/\(∀ g,C.glob g=none) /\
  (∀ σ L,VRels σ args L->VRels (fun _=>none) args0 L)/\kN ((run C n).call f args0 ⟨[],0,1⟩)=some (nd0,v0)/\nd0.val/\∀ τ V,VRel τ v0 V->∀ σ,VRel σ v V) (fn:∃ fn:Func,P.funcs[f]?=some fn/\fn.body.isSome=true):PureOk P f spec:=by
 refine ⟨fn,fun args nd v e hn σ A W ha cs=>?_⟩
 obtain ⟨C,n,args0,nd0,v0,co,hP,hg,h1,h2,h3,h4⟩:=h args nd v e hn
 subst hP
 obtain ⟨hp,h5,htm⟩:=AZ h2
 have r:HRel (fun _=>none) ⟨[],0,1⟩ W:=⟨rfl,fun i b h=>(by rw [Hp.get_eq] at h; simp at h),fun i B N h=>(by cases h),fun i j b c B N M h=>(by rw [Hp.get_eq] at h; simp at h)⟩
 obtain ⟨x,k1,τ,V,X,fr,k2,k3,k4,k5,k6⟩:=(((bL co n).call f args0 _ _ h5).1.ok (uf htm)) (fun _=>none) A W (fun g i h=>(by rw [hg] at h; cases h)) r (h1 σ _ ha) h3 cs
 have:x=⟨.tt,v0,hp⟩:=by
  unfold fT at k1
  simp [G.val] at k1
  exact k1.symm
 subst this
 exact ⟨V,X,fr,h4 τ V k2 σ,⟨k4.ext,fun B hB=>k4.keep B hB id fun i N c e=>by cases e⟩,k5,k6⟩
inductive Sh where
 | i (k:IntKind)
 | b
 | c (v:AV)
 | a (l:List Sh)
 | str
 | one
inductive Nu where
 | n (x:Int)
 | t (b:Bool)
 | s (b:ByteArray)
mutual
def Sh.read:Sh->AV->Option (Bool×List Nu)
 | .i k,v=>match v with
  | .int s k' x=>if k=k' then some (s,[.n x]) else none
  | _=>none
 | .b,v=>match v with
  | .bool s x=>some (s,[.t x])
  | _=>none
 | .c w,v=>match fq v w with
  | true=>some (false,[])
  | false=>none
 | .a l,v=>match v with
  | .agg m=>Sh.readL l m
  | _=>none
 | .str,v=>match v with
  | .str s x=>some (s,[.s x])
  | _=>none
 | .one,v=>match v.isCell with
  | true=>some (false,[])
  | false=>none
def Sh.readL:List Sh->List AV->Option (Bool×List Nu)
 | [],[]=>some (false,[])
 | h :: l,v :: m=>match Sh.read h v with
  | none=>none
  | some (s,xs)=>match Sh.readL l m with
   | none=>none
   | some (s',ys)=>some (s||s',xs++ys)
 | _,_=>none
end
mutual
def Sh.mk:Sh->List Nu->AV×List Nu
 | .i k,l=>match l with
  | .n x :: l=>(.int true k x,l)
  | _=>(.nil,[])
 | .b,l=>match l with
  | .t x :: l=>(.bool true x,l)
  | _=>(.nil,[])
 | .c w,l=>(w,l)
 | .a hs,l=>match Sh.mkL hs l with
  | (vs,l)=>(.agg vs,l)
 | .str,l=>match l with
  | .s x :: l=>(.str true x,l)
  | _=>(.nil,[])
 | .one,l=>(.any true,l)
def Sh.mkL:List Sh->List Nu->List AV×List Nu
 | [],l=>([],l)
 | h :: hs,l=>match Sh.mk h l with
  | (v,l)=>match Sh.mkL hs l with
   | (vs,l)=>(v :: vs,l)
end
mutual
theorem Sh.read_mk:∀ (h:Sh) (v:AV) (s:Bool) (xs ys:List Nu),Sh.read h v=some (s,xs)->(Sh.mk h (xs++ys)).2=ys/\∀ σ V,VRel σ v V->VRel σ (Sh.mk h (xs++ys)).1 V
 | .i k,v,s,xs,ys,e=>by
  simp only [Sh.read] at e
  split at e
  .split at e
   .rename_i hk; subst hk; cases e
    exact ⟨rfl,fun σ V h=>h⟩
   .cases e
  .cases e
 | .b,v,s,xs,ys,e=>by
  simp only [Sh.read] at e
  split at e
  .cases e
   exact ⟨rfl,fun σ V h=>h⟩
  .cases e
 | .c w,v,s,xs,ys,e=>by
  simp only [Sh.read] at e
  split at e
  .rename_i hs; cases e
   rw [lL _ _ hs]
   exact ⟨rfl,fun σ V h=>h⟩
  .cases e
 | .a l,v,s,xs,ys,e=>by
  simp only [Sh.read] at e
  split at e
  .obtain ⟨h1,h2⟩:=Sh.readL_mk l _ s xs ys e
   refine ⟨h1,fun σ V h=>?_⟩
   obtain ⟨K,k1,k2⟩:=h
   exact ⟨K,k1,h2 σ _ k2⟩
  .cases e
 | .str,v,s,xs,ys,e=>by
  simp only [Sh.read] at e
  split at e
  .cases e
   exact ⟨rfl,fun σ V h=>h⟩
  .cases e
 | .one,v,s,xs,ys,e=>by
  simp only [Sh.read] at e
  split at e
  .rename_i hc; cases e
   exact ⟨rfl,fun σ V h=>aN (aR h hc)⟩
  .cases e
theorem Sh.readL_mk:∀ (h:List Sh) (v:List AV) (s:Bool) (xs ys:List Nu),Sh.readL h v=some (s,xs)->(Sh.mkL h (xs++ys)).2=ys/\∀ σ L,VRels σ v L->VRels σ (Sh.mkL h (xs++ys)).1 L
 | [],[],s,xs,ys,e=>by
  simp only [Sh.readL] at e; cases e
  exact ⟨rfl,fun σ L h=>h⟩
 | h :: l,v :: m,s,xs,ys,e=>by
  simp only [Sh.readL] at e
  split at e
  .cases e
  .rename_i s1 x1 e1
   split at e
   .cases e
   .rename_i s2 x2 e2
    cases e
    obtain ⟨a1,a2⟩:=Sh.read_mk h v s1 x1 (x2++ys) e1
    obtain ⟨b1,b2⟩:=Sh.readL_mk l m s2 x2 ys e2
    have e3:x1++x2++ys=x1++(x2++ys):=List.append_assoc ..
    simp only [Sh.mkL,e3]
    rw [show Sh.mk h (x1++(x2++ys))=((Sh.mk h (x1++(x2++ys))).1,x2++ys) from Prod.ext rfl a1]
    refine ⟨b1,fun σ L hL=>?_⟩
    obtain ⟨V,L',q1,q2,q3⟩:=hL
    exact ⟨V,L',q1,a2 σ V q2,b2 σ L' q3⟩
 | [],_ :: _,_,_,_,e=>by simp [Sh.readL] at e
 | _ :: _,[],_,_,_,e=>by simp [Sh.readL] at e
end
inductive Tm where
 | n (k:IntKind) (x:Int)
 | t (b:Bool)
 | a (l:List Tm)
 | u (l:List Tm)
 | str (b:ByteArray)
mutual
def Tm.av (s:Bool):Tm->AV
 | .n k x=>bB s k x
 | .t b=>iI s b
 | .a l=>.agg (Tm.avL s l)
 | .u l=>.tuple (Tm.avL s l)
 | .str b=>.str s b
def Tm.avL (s:Bool):List Tm->List AV
 | []=>[]
 | x :: l=>x.av s :: Tm.avL s l
end
mutual
theorem Tm.av_rel {σ τ:Sg} {s s':Bool}:∀ (x:Tm) (V:Value),VRel σ (x.av s) V->VRel τ (x.av s') V
 | .n k x,V,h=>by simp only [Tm.av,mkInt_rel] at h ⊢; exact h
 | .t b,V,h=>by simp only [Tm.av,yf] at h ⊢; exact h
 | .a l,V,h=>by
  simp only [Tm.av] at h ⊢
  obtain ⟨K,h1,h2⟩:=h
  exact ⟨K,h1,Tm.avL_rel l _ h2⟩
 | .u l,V,h=>by
  simp only [Tm.av] at h ⊢
  obtain ⟨K,h1,h2⟩:=h
  exact ⟨K,h1,Tm.avL_rel l _ h2⟩
 | .str b,V,h=>by
  simp only [Tm.av] at h ⊢
  exact h
theorem Tm.avL_rel {σ τ:Sg} {s s':Bool}:∀ (x:List Tm) (L:List Value),VRels σ (Tm.avL s x) L->VRels τ (Tm.avL s' x) L
 | [],L,h=>h
 | x :: l,L,h=>by
  simp only [Tm.avL] at h ⊢
  obtain ⟨V,L',h1,h2,h3⟩:=h
  exact ⟨V,L',h1,Tm.av_rel x V h2,Tm.avL_rel l L' h3⟩
end
def Nu.isN:Nu->Nat
 | .n _=>0
 | .t _=>1
 | .s _=>2
mutual
def Sh.kinds:Sh->List Nat
 | .i _=>[0]
 | .b=>[1]
 | .str=>[2]
 | .one=>[]
 | .c _=>[]
 | .a l=>Sh.kindsL l
def Sh.kindsL:List Sh->List Nat
 | []=>[]
 | h :: l=>h.kinds++Sh.kindsL l
end
mutual
theorem Sh.read_kinds:∀ (h:Sh) (v:AV) (s:Bool) (xs:List Nu),Sh.read h v=some (s,xs)->xs.map Nu.isN=h.kinds
 | .i k,v,s,xs,e=>by
  simp only [Sh.read] at e
  split at e
  .split at e
   .cases e; rfl
   .cases e
  .cases e
 | .b,v,s,xs,e=>by
  simp only [Sh.read] at e
  split at e
  .cases e; rfl
  .cases e
 | .c w,v,s,xs,e=>by
  simp only [Sh.read] at e
  split at e
  .cases e; rfl
  .cases e
 | .a l,v,s,xs,e=>by
  simp only [Sh.read] at e
  split at e
  .exact Sh.readL_kinds l _ s xs e
  .cases e
 | .str,v,s,xs,e=>by
  simp only [Sh.read] at e
  split at e
  .cases e; rfl
  .cases e
 | .one,v,s,xs,e=>by
  simp only [Sh.read] at e
  split at e
  .cases e; rfl
  .cases e
theorem Sh.readL_kinds:∀ (h:List Sh) (v:List AV) (s:Bool) (xs:List Nu),Sh.readL h v=some (s,xs)->xs.map Nu.isN=Sh.kindsL h
 | [],[],s,xs,e=>by simp only [Sh.readL] at e; cases e; rfl
 | h :: l,v :: m,s,xs,e=>by
  simp only [Sh.readL] at e
  split at e
  .cases e
  .rename_i s1 x1 e1
   split at e
   .cases e
   .rename_i s2 x2 e2
    cases e
    simp only [List.map_append,Sh.kindsL,Sh.read_kinds h v s1 x1 e1,Sh.readL_kinds l m s2 x2 e2]
 | [],_ :: _,_,_,e=>by simp [Sh.readL] at e
 | _ :: _,[],_,_,e=>by simp [Sh.readL] at e
end
theorem kn {xs:List Nu} {l:List Nat} (h:xs.map Nu.isN=0 :: l):∃ a ys,xs=.n a :: ys/\ys.map Nu.isN=l:=by
 cases xs with
 | nil=>cases h
 | cons x ys=>
  simp only [List.map_cons,List.cons.injEq] at h
  cases x with
  | n a=>exact ⟨a,ys,rfl,h.2⟩
  | t b=>exact absurd h.1 (by simp [Nu.isN])
  | s b=>exact absurd h.1 (by simp [Nu.isN])
theorem kt {xs:List Nu} {l:List Nat} (h:xs.map Nu.isN=1 :: l):∃ a ys,xs=.t a :: ys/\ys.map Nu.isN=l:=by
 cases xs with
 | nil=>cases h
 | cons x ys=>
  simp only [List.map_cons,List.cons.injEq] at h
  cases x with
  | n a=>exact absurd h.1 (by simp [Nu.isN])
  | t b=>exact ⟨b,ys,rfl,h.2⟩
  | s b=>exact absurd h.1 (by simp [Nu.isN])
theorem ks {xs:List Nu} {l:List Nat} (h:xs.map Nu.isN=2 :: l):∃ a ys,xs=.s a :: ys/\ys.map Nu.isN=l:=by
 cases xs with
 | nil=>cases h
 | cons x ys=>
  simp only [List.map_cons,List.cons.injEq] at h
  cases x with
  | n a=>exact absurd h.1 (by simp [Nu.isN])
  | t b=>exact absurd h.1 (by simp [Nu.isN])
  | s b=>exact ⟨b,ys,rfl,h.2⟩
theorem k0 {xs:List Nu} (h:xs.map Nu.isN=[]):xs=[]:=by
 cases xs with
 | nil=>rfl
 | cons x ys=>cases h
def bG (ss:List Sh) (N:Option (List Nu->Bool)) (V:List Nu->Tm):bC:=fun args=>
 match Sh.readL ss args with
 | none=>none
 | some (s,xs)=>match N with
  | none=>some (.tt,(V xs).av s)
  | some N=>match s with
   | true=>some (.p (N xs=true),(V xs).av true)
   | false=>match N xs with
    | true=>some (.tt,(V xs).av false)
    | false=>none
def okN (N:Option (List Nu->Bool)) (xs:List Nu):Prop:=
 match N with
 | none=>True
 | some N=>N xs=true
theorem lF {P:Program} {f:FuncId} {ss:List Sh} {N:Option (List Nu->Bool)} {V:List Nu->Tm}
  (h:∀ xs,xs.map Nu.isN=Sh.kindsL ss->okN N xs->∃ (C:Ctx) (n:Nat) (nd:Nd),CtxOk C/\C.P=P/\(∀ g,C.glob g=none)/\AV.underL 0 (Sh.mkL ss xs).1=true/\kN ((run C n).call f (Sh.mkL ss xs).1 ⟨[],0,1⟩)=some (nd,(V xs).av true)/\nd.val)
  (fn:∃ fn:Func,P.funcs[f]?=some fn/\fn.body.isSome=true):PureOk P f (bG ss N V):=by
 refine A7 (fun args nd v e hn=>?_) fn
 unfold bG at e
 split at e
 .cases e
 .rename_i s xs hr
  have key:okN N xs/\∃ s',v=(V xs).av s':=by
   split at e
   .cases e; exact ⟨trivial,s,rfl⟩
   .split at e
    .cases e; exact ⟨hn,true,rfl⟩
    .split at e
     .rename_i hN; cases e; exact ⟨hN,false,rfl⟩
     .cases e
  obtain ⟨k1,s',rfl⟩:=key
  obtain ⟨C,n,nd0,co,hP,hg,h0,h1,h2⟩:=h xs (Sh.readL_kinds ss args s xs hr) k1
  refine ⟨C,n,_,nd0,_,co,hP,hg,fun σ L hL=>?_,h1,h2,fun τ W hW σ=>Tm.av_rel _ _ hW⟩
  have:=(Sh.readL_mk ss args s xs [] hr).2 σ L hL
  rw [List.append_nil] at this
  have:=VRels.low _ _ this h0
  rwa [show σ.low 0=fun _=>none from funext fun i=>by simp [Sg.low]] at this
def fD:Nat->Nat->List (Nat×AV)
 | _,0=>[]
 | a,n+1=>(a,.any false) :: fD (a+1) n
noncomputable def ax (C:Ctx) (f k:Nat):Ctx:={ C with loop:=fun fr a s=>match Nat.beq fr.fn f with
 | true=>u7 (run C 300) fr a k s
 | false=>C.loop fr a s }
theorem aj {C:Ctx} (co:CtxOk C) (f k:Nat):CtxOk (ax C f k):=by
 refine ⟨co.prog,co.con,co.ext,fun fr a s q e=>?_,co.two⟩
 have e:(match Nat.beq fr.fn f with|true=>u7 (run C 300) fr a k s|false=>C.loop fr a s)=some q:=e
 split at e
 .exact ve (bL co 300) k s q e
 .exact co.loop fr a s q e
noncomputable def bg (C:Ctx) (l:List Known):Ctx:={ C with loop:=fun fr a s=>match vk l fr a s with
 | some q=>some q
 | none=>C.loop fr a s }
theorem TN {C:Ctx} {r:Rec} (ro:RecOk C r) {fr:AFr} {a:Code} {s0:St} {α:Type} (u:Sum α) {y0:α} {ids0:List Nat} (hI:u.I y0) (start:jG (fit s0 s0 (ah s0 (u.S y0)) ids0)) (hs:fU s0.hp (u.S y0).old=true)
  (body:∀ y,u.I y->jG (d9 s0 (u.way y) (r.code fr a (ah s0 (u.S y))))) {x:Ex} {p:Patch} (hF:u.F y0=(x,p)):CodeOk C fr (.loop a) s0 ⟨.tt,[⟨.tt,x,ah s0 p⟩]⟩:=
 Ia ro u hI start hs body ⟨⟨.tt,x,ah s0 p⟩,rfl,by rw [hF],by rw [hF]⟩
@[reducible] def bY (f clock:Nat) (fr:AFr) (a:Code) (s:St) (x:Ex) (p:Patch):Known:=⟨f,clock,fr,a,s,[⟨.tt,x,ah s p⟩]⟩
theorem aO {C:Ctx} (co:CtxOk C) {f clock:Nat} {fr:AFr} {a:Code} {s:St} {x:Ex} {p:Patch} (h:CodeOk C fr (.loop a) s ⟨.tt,[⟨.tt,x,ah s p⟩]⟩) {l:List Known} (k:CtxOk (bg C l)):CtxOk (bg C (bY f clock fr a s x p :: l)):=by
 refine ⟨co.prog,co.con,co.ext,fun fr' a' s' q e=>?_,co.two⟩
 have e:(match vk (bY f clock fr a s x p :: l) fr' a' s' with|some q=>some q|none=>C.loop fr' a' s')=some q:=e
 simp only [vk] at e
 by_cases hc:(Nat.beq fr'.fn f&&Nat.beq s'.hp.clock clock)=true
 .rw [hc] at e
  simp only at e
  cases e
  intro σ T D W g sr b k todo cs hst fb hn
  obtain ⟨rfl,rfl,rfl⟩:=hn
  exact h σ T D W g sr b k todo cs hst fb trivial
 .rw [Bool.not_eq_true] at hc
  rw [hc] at e
  exact k.loop fr' a' s' q e
@[reducible] def CY (f clock:Nat) (fr:AFr) (a:Code) (s:St) (g:Bool) (x:Ex) (p:Patch) (x':Ex) (p':Patch):Known:=⟨f,clock,fr,a,s,[⟨.b g,x,ah s p⟩,⟨.b (!g),x',ah s p'⟩]⟩
theorem ad4 {C:Ctx} {r:Rec} (ro:RecOk C r) {fr:AFr} {a:Code} {s0:St} {α:Type} (u:Sum α) {y0:α} {ids0:List Nat} (hI:u.I y0) (start:jG (fit s0 s0 (ah s0 (u.S y0)) ids0)) (hs:fU s0.hp (u.S y0).old=true)
  (body:∀ y,u.I y->jG (d9 s0 (u.way y) (r.code fr a (ah s0 (u.S y))))) {g:Bool} {x x':Ex} {p p':Patch} (hF:u.F y0=bif g then (x,p) else (x',p')):CodeOk C fr (.loop a) s0 ⟨.tt,[⟨.b g,x,ah s0 p⟩,⟨.b (!g),x',ah s0 p'⟩]⟩:=by
 cases g with
 | true=>exact Ia ro u hI start hs body ⟨⟨.b true,x,ah s0 p⟩,by simp [One,G.val],by rw [hF]; rfl,by rw [hF]; rfl⟩
 | false=>exact Ia ro u hI start hs body ⟨⟨.b true,x',ah s0 p'⟩,by simp [One,G.val],by rw [hF]; rfl,by rw [hF]; rfl⟩
theorem Ib {C:Ctx} (co:CtxOk C) {f clock:Nat} {fr:AFr} {a:Code} {s:St} {g:Bool} {x x':Ex} {p p':Patch} (h:CodeOk C fr (.loop a) s ⟨.tt,[⟨.b g,x,ah s p⟩,⟨.b (!g),x',ah s p'⟩]⟩) {l:List Known} (k:CtxOk (bg C l)):CtxOk (bg C (CY f clock fr a s g x p x' p' :: l)):=by
 refine ⟨co.prog,co.con,co.ext,fun fr' a' s' q e=>?_,co.two⟩
 have e:(match vk (CY f clock fr a s g x p x' p' :: l) fr' a' s' with|some q=>some q|none=>C.loop fr' a' s')=some q:=e
 simp only [vk] at e
 by_cases hc:(Nat.beq fr'.fn f&&Nat.beq s'.hp.clock clock)=true
 .rw [hc] at e
  simp only at e
  cases e
  intro σ T D W g sr b k todo cs hst fb hn
  obtain ⟨rfl,rfl,rfl⟩:=hn
  exact h σ T D W g sr b k todo cs hst fb trivial
 .rw [Bool.not_eq_true] at hc
  rw [hc] at e
  exact k.loop fr' a' s' q e
theorem cK {C:Ctx} (co:CtxOk C):CtxOk (bg C []):=⟨co.prog,co.con,co.ext,fun fr a s q e=>co.loop fr a s q e,co.two⟩
theorem num_ok' {P:Program} {f:FuncId} {ss:List Sh} {N:Option (List Nu->Bool)} {V:List Nu->Tm}
  (h:∀ xs,xs.map Nu.isN=Sh.kindsL ss->okN N xs->∃ (C:Ctx) (n:Nat) (nd:Nd) (v0:AV),CtxOk C/\C.P=P/\(∀ g,C.glob g=none)/\AV.underL 0 (Sh.mkL ss xs).1=true/\kN ((run C n).call f (Sh.mkL ss xs).1 ⟨[],0,1⟩)=some (nd,v0)/\nd.val/\∀ τ W,VRel τ v0 W->VRel τ ((V xs).av true) W)
  (fn:∃ fn:Func,P.funcs[f]?=some fn/\fn.body.isSome=true):PureOk P f (bG ss N V):=by
 refine A7 (fun args nd v e hn=>?_) fn
 unfold bG at e
 split at e
 .cases e
 .rename_i s xs hr
  have key:okN N xs/\∃ s',v=(V xs).av s':=by
   split at e
   .cases e; exact ⟨trivial,s,rfl⟩
   .split at e
    .cases e; exact ⟨hn,true,rfl⟩
    .split at e
     .rename_i hN; cases e; exact ⟨hN,false,rfl⟩
     .cases e
  obtain ⟨k1,s',rfl⟩:=key
  obtain ⟨C,n,nd0,v0,co,hP,hg,h0,h1,h2,h3⟩:=h xs (Sh.readL_kinds ss args s xs hr) k1
  refine ⟨C,n,_,nd0,_,co,hP,hg,fun σ L hL=>?_,h1,h2,fun τ W hW σ=>Tm.av_rel _ _ (h3 τ W hW)⟩
  have:=(Sh.readL_mk ss args s xs [] hr).2 σ L hL
  rw [List.append_nil] at this
  have:=VRels.low _ _ this h0
  rwa [show σ.low 0=fun _=>none from funext fun i=>by simp [Sg.low]] at this
end
end Go.Eng
namespace Go.Eng
noncomputable section
structure GOk (P:Program) (glob:Nat->Option Nat) (hG:Hp) (f:FuncId) (spec:bC):Prop where
 call:∀ args nd v,spec args=some (nd,v)->∀ h,bz hG h hG.size=true->CallOk (mkM P glob hG [] kV) f args h ⟨nd,[⟨.tt,v,h⟩]⟩
 fn:∃ fn:Func,P.funcs[f]?=some fn/\fn.body.isSome=true
theorem PureOk.g {P:Program} {f:FuncId} {spec:bC} (p:PureOk P f spec) (glob:Nat->Option Nat) (hG:Hp):GOk P glob hG f spec:=
 ⟨fun args nd v e h _=>p.call (C:=mkM P glob hG [] kV) e h,p.fn⟩
def FD (as:List AV) (v:AV):bC:=fun args=>match je args as with
 | true=>some (.tt,v)
 | false=>none
theorem MemoOk.g {P:Program} {glob:Nat->Option Nat} {hG:Hp} {f:FuncId} {as:List AV} {v:AV} (m:MemoOk P glob hG (f,as,v)):GOk P glob hG f (FD as v):=by
 refine ⟨fun args nd w e h same=>?_,m.fn⟩
 unfold FD at e
 split at e
 .rename_i hs
  cases e
  rw [eG _ _ hs]
  exact m.call h same
 .cases e
def dK (n c:Nat):Option CR->Option (Nd×AV)
 | some ⟨nd,[⟨.tt,v,hp⟩]⟩=>match v.isPanic with
  | true=>none
  | false=>match allOld c (aP (hp.size - n) hp.blks) with
   | true=>some (nd,v)
   | false=>none
 | _=>none
theorem vo {n c:Nat} {q:Option CR} {nd:Nd} {v:AV} (e:dK n c q=some (nd,v)):∃ hp,q=some ⟨nd,[⟨.tt,v,hp⟩]⟩/\allOld c (aP (hp.size - n) hp.blks)=true/\v.isPanic=false:=by
 unfold dK at e
 split at e
 .split at e
  .cases e
  .rename_i hv
   split at e
   .rename_i h
    cases e
    exact ⟨_,rfl,h,hv⟩
   .cases e
 .cases e
mutual
theorem Tm.under {s:Bool} {n:Nat}:∀ x:Tm,(x.av s).under n=true
 | .n k x=>by
  cases s with
  | true=>rfl
  | false=>
   simp only [Tm.av,bB,Es]; rfl
 | .t b=>by
  cases s with
  | true=>rfl
  | false=>cases b <;> rfl
 | .a l=>by simp only [Tm.av,AV.under]; exact Tm.underL l
 | .u l=>by simp only [Tm.av,AV.under]; exact Tm.underL l
 | .str b=>by simp only [Tm.av,AV.under]
theorem Tm.underL {s:Bool} {n:Nat}:∀ l:List Tm,AV.underL n (Tm.avL s l)=true
 | []=>rfl
 | x :: l=>by simp only [Tm.avL,AV.underL,Bool.and_eq_true]; exact ⟨Tm.under x,Tm.underL l⟩
end
theorem GOk.weaken {P:Program} {glob:Nat->Option Nat} {hG:Hp} {f:FuncId} {s t:bC} (g:GOk P glob hG f s) (h:∀ args nd v,t args=some (nd,v)->∃ nd0 v0,s args=some (nd0,v0)/\(nd.val->nd0.val/\∀ σ V,VRel σ v0 V->VRel σ v V)):GOk P glob hG f t:=by
 refine ⟨fun args nd v e h' same σ A W gr r hA hn cs=>?_,g.fn⟩
 obtain ⟨nd0,v0,e0,k0⟩:=h args nd v e
 obtain ⟨k1,k2⟩:=k0 hn
 obtain ⟨x,q1,τ,V,X,fr,q2,q3⟩:=g.call args nd0 v0 e0 h' same σ A W gr r hA k1 cs
 have:x=⟨.tt,v0,h'⟩:=by
  unfold fT at q1
  simp [G.val] at q1
  exact q1.symm
 subst this
 exact ⟨⟨.tt,v,h'⟩,rfl,τ,V,X,fr,k2 τ V q2,q3⟩
def Sh.of (P:Program) (t:TypeId):Sh:=
 match P.underlying t with
 | some (.int k)=>.i k
 | some .bool=>.b
 | some .string=>.str
 | _=>.c (.any true)
def Sh.ofL (P:Program):List TypeId->List Sh
 | []=>[]
 | t :: l=>Sh.of P t :: Sh.ofL P l
def ay:List Sh->List Nu->Prop
 | [],[]=>True
 | .i k :: l,.n x :: m=>k.has x/\ay l m
 | .b :: l,.t _ :: m=>ay l m
 | .str :: l,.s _ :: m=>ay l m
 | .c _ :: l,m=>ay l m
 | _,_=>False
theorem NH {P:Program} {W:World} {base:Nat} {t:TypeId} {v:Value} (h:Cell.okWide P W .any base t v):(∀ c,v≠.agg c)/\(∀ c,v≠.tuple c):=by
 refine ⟨fun c e=>?_,fun c e=>?_⟩
 .subst e
  unfold Cell.okWide at h
  split at h <;> first|(rename_i e1 e2; cases e2; done)|skip
  all_goals first|(unfold Cell.ok at h; split at h <;> first|(rename_i e1 e2; cases e2; done)|exact h)|simp_all
 .subst e
  unfold Cell.okWide at h
  split at h <;> first|(rename_i e1 e2; cases e2; done)|skip
  all_goals first|(unfold Cell.ok at h; split at h <;> first|(rename_i e1 e2; cases e2; done)|exact h)|simp_all
theorem A8 {P:Program} {W:World} {base:Nat} {σ:Sg}:∀ {ts:List TypeId} {cs:List Value},cs.length=ts.length->(∀ (i:Nat) v,cs[i]?=some v->∃ u,ts[i]?=some u/\Cell.okWide P W .any base u v) ->
  ∃ xs,xs.map Nu.isN=Sh.kindsL (Sh.ofL P ts)/\ay (Sh.ofL P ts) xs/\∀ ys,(Sh.mkL (Sh.ofL P ts) (xs++ys)).2=ys/\VRels σ (Sh.mkL (Sh.ofL P ts) (xs++ys)).1 cs
 | [],[],_,_=>⟨[],rfl,trivial,fun ys=>⟨rfl,rfl⟩⟩
 | [],_ :: _,h,_=>by simp at h
 | _ :: _,[],h,_=>by simp at h
 | t :: ts,v :: cs,hl,h=>by
  obtain ⟨xs,i1,i2,i3⟩:=A8 (σ:=σ) (ts:=ts) (cs:=cs) (by simpa using hl) fun i v hv=>h (i+1) v (by simpa using hv)
  obtain ⟨u,hu,hc⟩:=h 0 v rfl
  cases hu
  have main:∃ x,x.map Nu.isN=(Sh.of P t).kinds/\(∀ m l,ay l m->ay (Sh.of P t :: l) (x++m))/\∀ ys,(Sh.mk (Sh.of P t) (x++ys)).2=ys/\VRel σ (Sh.mk (Sh.of P t) (x++ys)).1 v:=by
   unfold Sh.of
   split
   .rename_i k hk
    unfold Cell.okWide at hc
    rw [hk] at hc
    unfold Cell.ok at hc
    simp only at hc
    rw [hk] at hc
    cases v <;> simp only at hc <;> first|exact hc.elim|skip
    rename_i k' n
    obtain ⟨rfl,hn⟩:=hc
    exact ⟨[.n n],rfl,fun m l hm=>⟨hn,hm⟩,fun ys=>⟨rfl,rfl⟩⟩
   .rename_i hk
    unfold Cell.okWide at hc
    rw [hk] at hc
    unfold Cell.ok at hc
    simp only at hc
    rw [hk] at hc
    cases v <;> simp only at hc <;> first|exact hc.elim|skip
    rename_i b
    exact ⟨[.t b],rfl,fun m l hm=>hm,fun ys=>⟨rfl,rfl⟩⟩
   .rename_i hk
    unfold Cell.okWide at hc
    rw [hk] at hc
    unfold Cell.ok at hc
    simp only at hc
    rw [hk] at hc
    cases v <;> simp only at hc <;> first|exact hc.elim|skip
    rename_i b
    exact ⟨[.s b],rfl,fun m l hm=>hm,fun ys=>⟨rfl,rfl⟩⟩
   .exact ⟨[],rfl,fun m l hm=>hm,fun ys=>⟨rfl,NH hc⟩⟩
  obtain ⟨x,j1,j2,j3⟩:=main
  refine ⟨x++xs,by simp [Sh.ofL,Sh.kindsL,i1,j1],j2 xs _ i2,fun ys=>?_⟩
  obtain ⟨a1,a2⟩:=j3 (xs++ys)
  obtain ⟨b1,b2⟩:=i3 ys
  have e3:x++xs++ys=x++(xs++ys):=List.append_assoc ..
  simp only [Sh.ofL,Sh.mkL,e3]
  rw [show Sh.mk (Sh.of P t) (x++(xs++ys))=((Sh.mk (Sh.of P t) (x++(xs++ys))).1,xs++ys) from Prod.ext rfl a1]
  exact ⟨b1,v,cs,rfl,a2,b2⟩
theorem Lh {C:Ctx} (co:CtxOk C) {hG:Hp} (old:allOld hG.clock hG.blks=true) {n:Nat} {f:FuncId} {args:List AV} {nd:Nd} {s p:Bool} (e:dK hG.size hG.clock ((run C n).call f args hG)=some (nd,.bool s p)) (hn:nd.val) (hp:p=true) {σ:Sg} {W:World} {A:Array Value}
  (g:GRel C σ) (r:HRel σ hG W) (hA:VRels σ args A.toList):Calls C.P f A W fun en w'=>en=.returned (.bool true)/\RowKit.Grown W w'/\∀ B,B<W.heap.size->w'.heap[B]?=W.heap[B]?:=by
 intro cs
 obtain ⟨k,h1,h2,htm⟩:=vo e
 obtain ⟨hc,hf⟩:=(bL co n).call f args hG _ h1
 replace hc:=hc.ok (uf htm)
 obtain ⟨x,k1,τ,V,X,fr,k2,k3,k4,k5,k6,k7,k8,k9,k10⟩:=hc σ A W g r hA hn cs
 have:x=⟨.tt,.bool s p,k⟩:=by
  unfold fT at k1
  simp [G.val] at k1
  exact k1.symm
 subst this
 have hk:∀ B,B<W.heap.size->X.heap[B]?=W.heap[B]?:=fun B hB=>k4.keep B hB id fun i N c e e2=>by
  have hi:=(r.dom i B N e).1
  have e2:k.get i=some c:=e2
  have hlt:=Hp.get_lt e2
  rw [Hp.get_eq,if_pos hlt] at e2
  refine rE h2 c ?_
  rw [il]
  have:(k.blks.drop (k.size - hG.size))[hG.size - 1 - i]?=some c:=by
   rw [List.getElem?_drop,<- e2]
   congr 1
   have:=k4.mon.size
   simp only at this
   omega
  exact List.mem_of_getElem? this
 refine ⟨.returned V,X,fr,⟨by rw [show V=_ from k2,hp],⟨⟨k4.ext.os,k4.ext.output,fun i hi=>?_⟩,k4.ext.fz,k4.ext.size⟩,hk⟩,k5,k9,k6,k7,k8,k9 ▸ k10⟩
 rw [hk i hi]
 cases W.heap[i]? with
 | none=>rfl
 | some o=>cases o with
  | cells c t fr=>exact ⟨rfl,rfl,rfl,fun _ _=>rfl⟩
  | map es c=>exact .inr ⟨rfl,rfl⟩
  | _=>rfl
end
end Go.Eng
namespace Go.Eng
open Go
noncomputable def gG (C:Ctx) (h:Nat->Nat->Option AV):Ctx:={ C with hint:=h }
theorem dh {C:Ctx} (co:CtxOk C) (h:Nat->Nat->Option AV):CtxOk (gG C h):=⟨co.prog,co.con,co.ext,fun fr a s q e=>co.loop fr a s q e,co.two⟩
theorem FE {P:Program} {w:World}:∀ {laid:List (String×DataW Unit)} {ps:List MemPlace},DataW.LaidVars P w laid ps->∀ {n:String} {d:DataW Unit},(n,d)∈laid ->
  ∃ g t cs fuel p,P.globalNamed n=some g/\(P.globals[g]?).map (·.type)=some t/\w.var? P n=some cs/\DataW.trod (fun _=>()) P w 0 (fun _=>true) false fuel t cs.toList=some (d,p)/\∀ x∈MemPlace.row ⟨g,0,none⟩ cs.size,x∈ps
 | [],_,_,_,_,h=>by cases h
 | (m,e) :: laid,ps,h,n,d,hm=>by
  obtain ⟨g,t,cs,fuel,p,q,h1,h2,h3,h4,h5,rfl⟩:=h
  rcases List.mem_cons.1 hm with hm|hm
  .cases hm
   exact ⟨g,t,cs,fuel,p,h1,h2,h3,h4,fun x hx=>by simp [hx]⟩
  .obtain ⟨g',t',cs',fuel',p',k1,k2,k3,k4,k5⟩:=FE h5 hm
   exact ⟨g',t',cs',fuel',p',k1,k2,k3,k4,fun x hx=>by simp [k5 x hx]⟩
theorem FH {P:Program} {w:World} {t e:Nat} {k:IntKind} {f0 f1:Field} (ht:P.underlying t=some (.struct #[f0,f1])) (e0:f0.type=e) (e1:f1.type=e) (o0:f0.offset=0) (o1:f1.offset=1) (he:P.underlying e=some (.int k)) (c1:P.cellsOf e=1) (c2:P.cellsOf t=2) {x y:Int} {fuel:Nat} {cs:List Value} {p:List MemPlace}
  (h:DataW.trod (fun _=>()) P w 0 (fun _=>true) false fuel t cs=some (.agg [.lit (.int k x),.lit (.int k y)],p)):cs=[.int k x,.int k y]:=by
 obtain ⟨y0,y1,n,hx,hl,h0,h1⟩:=ChangeShapes.trod_struct2 ht h
 rw [c2] at hl
 rw [e0,o0,c1] at h0
 rw [e1,o1,c1] at h1
 obtain ⟨n0,m1,m2,_⟩:=DataW.trod_int he h0
 obtain ⟨n1,m3,m4,_⟩:=DataW.trod_int he h1
 obtain ⟨hx1,_⟩:=Prod.mk.inj hx
 injection hx1 with hx1
 rw [m2,m4] at hx1
 match cs,hl with
 | [a,b],_=>
  simp only [List.drop_zero,List.take_succ_cons,List.take_zero,List.cons.injEq,List.drop_succ_cons,and_true] at m1 m3
  simp only [List.cons.injEq,DataW.lit.injEq,Lit.int.injEq,true_and,and_true] at hx1
  rw [m1,m3,hx1.1,hx1.2]
theorem nM {P:Program} {w:World} {t:Nat} {fs:Array Field} (ht:P.underlying t=some (.struct fs)) {d:DataW Unit} (fuel:Nat) (cs:List Value) (p:List MemPlace) (h:DataW.trod (fun _=>()) P w 0 (fun _=>true) false fuel t cs=some (d,p)):cs.length=P.cellsOf t:=by
 obtain ⟨_,_,_,_,hl,_⟩:=DataW.trod_struct ht h
 exact hl
def jc:List (Nat×IntKind×List Int)->List ABlk
 | []=>[]
 | (_,k,ns) :: l=>⟨0,.cells (ns.map fun n=>.int false k n)⟩ :: jc l
def A9 (l:List (Nat×IntKind×List Int)):Sg:=fun i=>match l[l.length - 1 - i]? with
 | some (g,_,ns)=>if i<l.length then some (g,ns.length) else none
 | none=>none
theorem Ba {σ:Sg} {k:IntKind}:∀ ns:List Int,VRels σ (ns.map fun n=>.int false k n) (ns.map (Value.int k))
 | []=>rfl
 | n :: ns=>⟨_,_,rfl,rfl,Ba ns⟩
theorem TP {W:World} {l:List (Nat×IntKind×List Int)} (hd:(l.map (·.1)).Nodup) (h:∀ x∈l,∃ cs e,W.heap[x.1]?=some (.cells cs e (0,0))/\cs.toList=x.2.2.map (Value.int x.2.1)):HRel (A9 l) ⟨jc l,l.length,1⟩ W:=by
 have blk:∀ (m:List (Nat×IntKind×List Int)) (j:Nat),(jc m)[j]?=(m[j]?).map fun x=>⟨0,.cells (x.2.2.map fun n=>.int false x.2.1 n)⟩:=by
  intro m
  induction m with
  | nil=>intro j; rfl
  | cons x m ih=>intro j; cases j with
   | zero=>rfl
   | succ j=>simpa [jc] using ih j
 have len:∀ m:List (Nat×IntKind×List Int),(jc m).length=m.length:=by
  intro m
  induction m with
  | nil=>rfl
  | cons x m ih=>simp [jc,ih]
 have get:∀ i b,(⟨jc l,l.length,1⟩:Hp).get i=some b->i<l.length/\∃ x,l[l.length - 1 - i]?=some x/\b=⟨0,.cells (x.2.2.map fun n=>.int false x.2.1 n)⟩:=by
  intro i b hb
  have hi:=Hp.get_lt hb
  rw [Hp.get_eq,if_pos hi] at hb
  simp only at hb hi
  rw [blk] at hb
  cases hx:l[l.length - 1 - i]? with
  | none=>rw [hx] at hb; cases hb
  | some x=>rw [hx] at hb; cases hb; exact ⟨hi,x,rfl,rfl⟩
 have sg:∀ i x,i<l.length->l[l.length - 1 - i]?=some x->A9 l i=some (x.1,x.2.2.length):=by
  intro i x hi hx
  unfold A9
  rw [hx]
  simp [hi]
 refine ⟨len l,fun i b hb hdd=>?_,fun i B N e=>?_,fun i j b c B N M hb hc _ _ e1 e2=>?_⟩
 .obtain ⟨hi,x,hx,rfl⟩:=get i b hb
  obtain ⟨cs,e,h1,h2⟩:=h x (List.mem_of_getElem? hx)
  exact ⟨x.1,x.2.2.length,_,sg i x hi hx,h1,cs,e,rfl,by rw [h2]; exact Ba _,by rw [<- Array.length_toList,h2,List.length_map]⟩
 .unfold A9 at e
  split at e
  .rename_i x g k ns hx
   split at e
   .rename_i hi
    cases e
    obtain ⟨cs,e',h1,_⟩:=h _ (List.mem_of_getElem? hx)
    exact ⟨hi,(Array.getElem?_eq_some_iff.1 h1).1⟩
   .cases e
  .cases e
 .obtain ⟨hi,x,hx,_⟩:=get i b hb
  obtain ⟨hj,y,hy,_⟩:=get j c hc
  rw [sg i x hi hx] at e1
  rw [sg j y hj hy] at e2
  left
  have hxy:x.1=y.1:=by
   simp only [Option.some.injEq,Prod.mk.injEq] at e1 e2
   rw [e1.1,e2.1]
  have hx':(l.map (·.1))[l.length - 1 - i]?=some x.1:=by rw [List.getElem?_map,hx]; rfl
  have hy':(l.map (·.1))[l.length - 1 - j]?=some x.1:=by rw [List.getElem?_map,hy,hxy]; rfl
  have:=(List.getElem?_inj (by simp; omega) hd).1 (hx'.trans hy'.symm)
  omega
mutual
def Sh.leaves:Sh->List Sh
 | .a l=>Sh.leavesL l
 | .i k=>[.i k]
 | .b=>[.b]
 | .c v=>[.c v]
 | .str=>[.str]
 | .one=>[.one]
def Sh.leavesL:List Sh->List Sh
 | []=>[]
 | h :: l=>h.leaves++Sh.leavesL l
end
theorem fE:∀ {l m:List Sh} {xs ys:List Nu},ay l xs->ay m ys->ay (l++m) (xs++ys)
 | [],_,[],_,_,h=>h
 | [],_,_ :: _,_,h,_=>by simp [ay] at h
 | .i k :: l,m,.n x :: xs,ys,h,h'=>⟨h.1,fE (l:=l) h.2 h'⟩
 | .b :: l,m,.t x :: xs,ys,h,h'=>fE (l:=l) (show ay l xs from h) h'
 | .str :: l,m,.s x :: xs,ys,h,h'=>fE (l:=l) (show ay l xs from h) h'
 | .c v :: l,m,xs,ys,h,h'=>by
  have h1:ay l xs:=by cases xs <;> simpa [ay] using h
  have:=fE h1 h'
  show ay (.c v :: (l++m)) (xs++ys)
  cases hz:xs++ys <;> rw [hz] at this <;> simpa [ay] using this
 | .i _ :: _,_,[],_,h,_=>by simp [ay] at h
 | .i _ :: _,_,.t _ :: _,_,h,_=>by simp [ay] at h
 | .b :: _,_,[],_,h,_=>by simp [ay] at h
 | .str :: _,_,[],_,h,_=>by simp [ay] at h
 | .str :: _,_,.n _ :: _,_,h,_=>by simp [ay] at h
 | .str :: _,_,.t _ :: _,_,h,_=>by simp [ay] at h
 | .b :: _,_,.s _ :: _,_,h,_=>by simp [ay] at h
 | .i _ :: _,_,.s _ :: _,_,h,_=>by simp [ay] at h
 | .one :: _,_,[],_,h,_=>by simp [ay] at h
 | .one :: _,_,_ :: _,_,h,_=>by simp [ay] at h
 | .b :: _,_,.n _ :: _,_,h,_=>by simp [ay] at h
 | .a _ :: _,_,[],_,h,_=>by simp [ay] at h
 | .a _ :: _,_,_ :: _,_,h,_=>by simp [ay] at h
theorem ze {P:Program}:∀ ts:List TypeId,Sh.leavesL (Sh.ofL P ts)=Sh.ofL P ts
 | []=>rfl
 | t :: ts=>by
  simp only [Sh.ofL,Sh.leavesL,ze ts]
  unfold Sh.of
  split <;> rfl
def shapeT (P:Program) (t:TypeId):Option Sh:=
 match P.underlying t with
 | some (.int k)=>some (.i k)
 | some .bool=>some .b
 | some (.struct _)=>match P.cellTypes P.depth t with
  | some ts=>match Nat.beq (P.cellsOf t) ts.length&&Nat.blt 0 ts.length with
   | true=>some (.a (Sh.ofL P ts))
   | false=>none
  | none=>none
 | some (.array _ _)=>match P.cellTypes P.depth t with
  | some ts=>match Nat.beq (P.cellsOf t) ts.length&&Nat.blt 0 ts.length with
   | true=>some (.a (Sh.ofL P ts))
   | false=>none
  | none=>none
 | _=>none
def shapesT (P:Program):List TypeId->Option (List Sh)
 | []=>some []
 | t :: ts=>match shapeT P t with
  | none=>none
  | some s=>match shapesT P ts with
   | none=>none
   | some l=>some (s :: l)
theorem JN {P:Program} {W:World} {base:Nat} {σ:Sg} {t:TypeId} {v:Value} {s:Sh} (hs:shapeT P t=some s) (h:Value.okWide P W .any base t v):
  ∃ xs,xs.map Nu.isN=s.kinds/\ay s.leaves xs/\∀ ys,(Sh.mk s (xs++ys)).2=ys/\VRel σ (Sh.mk s (xs++ys)).1 v:=by
 have agg:∀ ts,aQ P t=some true->P.cellTypes P.depth t=some ts->(Nat.beq (P.cellsOf t) ts.length&&Nat.blt 0 ts.length)=true->∃ xs,xs.map Nu.isN=(Sh.a (Sh.ofL P ts)).kinds/\ay (Sh.a (Sh.ofL P ts)).leaves xs/\∀ ys,(Sh.mk (.a (Sh.ofL P ts)) (xs++ys)).2=ys/\VRel σ (Sh.mk (.a (Sh.ofL P ts)) (xs++ys)).1 v:=by
  intro ts hag hts hc
  simp only [Bool.and_eq_true] at hc
  have hsz:=Nat.eq_of_beq_eq_true hc.1
  have key:∃ cs,v=.agg cs/\cs.size=P.cellsOf t/\Row.okWide P W .any base t cs:=by
   unfold Value.okWide at h
   unfold aQ at hag
   split at h
   .exact h
   .exact h
   .rename_i h1 h2
    split at hag
    .cases hag
    .rename_i fs hu; exact absurd hu (h1 fs)
    .rename_i n e hu; exact absurd hu (h2 n e)
    .cases hag
  obtain ⟨cs,rfl,hcs,ts',ht',_,hcell⟩:=key
  rw [hts] at ht'; cases ht'
  obtain ⟨xs,h1,h2,h3⟩:=A8 (P:=P) (W:=W) (base:=base) (σ:=σ) (ts:=ts) (cs:=cs.toList) (by simp [hcs,hsz]) fun i v hv=>by
   rw [Array.getElem?_toList] at hv
   obtain ⟨u,hu,ho⟩:=hcell i v hv
   have hi:i<ts.length:=by
    have:=(Array.getElem?_eq_some_iff.1 hv).1
    omega
   rw [Nat.mod_eq_of_lt hi] at hu
   exact ⟨u,hu,ho⟩
  refine ⟨xs,h1,by show ay (Sh.leavesL (Sh.ofL P ts)) xs; rw [ze]; exact h2,fun ys=>?_⟩
  obtain ⟨a1,a2⟩:=h3 ys
  have e:Sh.mk (.a (Sh.ofL P ts)) (xs++ys)=(.agg (Sh.mkL (Sh.ofL P ts) (xs++ys)).1,(Sh.mkL (Sh.ofL P ts) (xs++ys)).2):=rfl
  rw [e]
  exact ⟨a1,cs,rfl,a2⟩
 unfold shapeT at hs
 split at hs
 .rename_i k hu
  cases hs
  have hc:Cell.okWide P W .any base t v:=by
   unfold Value.okWide at h
   rw [hu] at h
   exact h
  unfold Cell.okWide at hc
  rw [hu] at hc
  unfold Cell.ok at hc
  simp only at hc
  rw [hu] at hc
  cases v <;> simp only at hc <;> first|exact hc.elim|skip
  rename_i k' n
  obtain ⟨rfl,hn⟩:=hc
  exact ⟨[.n n],rfl,⟨hn,trivial⟩,fun ys=>⟨rfl,rfl⟩⟩
 .rename_i hu
  cases hs
  have hc:Cell.okWide P W .any base t v:=by
   unfold Value.okWide at h
   rw [hu] at h
   exact h
  unfold Cell.okWide at hc
  rw [hu] at hc
  unfold Cell.ok at hc
  simp only at hc
  rw [hu] at hc
  cases v <;> simp only at hc <;> first|exact hc.elim|skip
  rename_i b
  exact ⟨[.t b],rfl,trivial,fun ys=>⟨rfl,rfl⟩⟩
 .rename_i fs hu
  split at hs
  .rename_i ts hts
   split at hs
   .rename_i hc
    cases hs
    exact agg ts (by unfold aQ; rw [hu]) hts hc
   .cases hs
  .cases hs
 .rename_i n e hu
  split at hs
  .rename_i ts hts
   split at hs
   .rename_i hc
    cases hs
    exact agg ts (by unfold aQ; rw [hu]) hts hc
   .cases hs
  .cases hs
 .cases hs
theorem zf {P:Program} {W:World} {base:Nat} {σ:Sg}:∀ {ts:List TypeId} {shs:List Sh} {vs:List Value},shapesT P ts=some shs->vs.length=ts.length->(∀ (j:Nat) t v,ts[j]?=some t->vs[j]?=some v->Value.okWide P W .any base t v) ->
  ∃ xs,xs.map Nu.isN=Sh.kindsL shs/\ay (Sh.leavesL shs) xs/\∀ ys,(Sh.mkL shs (xs++ys)).2=ys/\VRels σ (Sh.mkL shs (xs++ys)).1 vs
 | [],shs,vs,hs,hl,_=>by
  cases hs
  have:vs=[]:=by simpa using hl
  subst this
  exact ⟨[],rfl,trivial,fun ys=>⟨rfl,rfl⟩⟩
 | t :: ts,shs,[],_,hl,_=>by simp at hl
 | t :: ts,shs,v :: vs,hs,hl,h=>by
  simp only [shapesT] at hs
  split at hs
  .cases hs
  .rename_i s h1
   split at hs
   .cases hs
   .rename_i l h2
    cases hs
    obtain ⟨x,a1,a2,a3⟩:=JN (σ:=σ) h1 (h 0 t v rfl rfl)
    obtain ⟨xs,b1,b2,b3⟩:=zf (σ:=σ) (ts:=ts) (vs:=vs) h2 (by simpa using hl) fun j t' v' k1 k2=>h (j+1) t' v' (by simpa using k1) (by simpa using k2)
    refine ⟨x++xs,by simp [Sh.kindsL,a1,b1],fE a2 b2,fun ys=>?_⟩
    obtain ⟨c1,c2⟩:=a3 (xs++ys)
    obtain ⟨d1,d2⟩:=b3 ys
    have e:x++xs++ys=x++(xs++ys):=List.append_assoc ..
    simp only [Sh.mkL,e]
    rw [show Sh.mk s (x++(xs++ys))=((Sh.mk s (x++(xs++ys))).1,xs++ys) from Prod.ext rfl c1]
    exact ⟨d1,v,vs,rfl,c2,d2⟩
theorem same_at {W W':World} (h:∀ B,B<W.heap.size->W'.heap[B]?=W.heap[B]?) {p:MemPlace} (hp:p.block<W.heap.size):W.sameAt W' p:=by
 cases p with
 | cell b off=>
  show W'.cell? _=W.cell? _
  unfold World.cell?
  rw [h b hp]
 | map b=>exact h b hp
theorem trodAll_stays {H:Type} {enc:TypeId×Value->H} {P:Program} {base:Nat} (hl:laidOutB P=true):∀ {ts:List TypeId} {vs:List Value} {ds:List (DataW H)} {ps:List MemPlace} {W W':World} {sp:Nat->Bool},(ts.all fun t=>P.readableRec t&&decide (t<P.types.size))=true ->
  DataW.TrodAll enc P W base (fun _=>true) true ts vs ds ps->(∀ p∈ps,W.sameAt W' p)->(∀ p∈ps,sp p.block=true)->DataW.TrodAll enc P W' base sp true ts vs ds ps
 | [],[],[],_,_,_,_,_,h,_,_=>h
 | [],_ :: _,_,_,_,_,_,_,h,_,_=>by simp [DataW.TrodAll] at h
 | [],[],_ :: _,_,_,_,_,_,h,_,_=>by simp [DataW.TrodAll] at h
 | _ :: _,[],_,_,_,_,_,_,h,_,_=>by simp [DataW.TrodAll] at h
 | _ :: _,_ :: _,[],_,_,_,_,_,h,_,_=>by simp [DataW.TrodAll] at h
 | t :: ts,v :: vs,d :: ds,ps,W,W',sp,hr,h,h1,h2=>by
  obtain ⟨p,p',a,b,rfl⟩:=h
  simp only [List.all_cons,Bool.and_eq_true,decide_eq_true_eq] at hr
  exact ⟨p,p',Go.WideElems.Trod_stays hl hr.1.1 hr.1.2 a (fun x hx=>h1 x (by simp [hx])) (fun x hx=>h2 x (by simp [hx])),trodAll_stays hl hr.2 b (fun x hx=>h1 x (by simp [hx])) (fun x hx=>h2 x (by simp [hx])),rfl⟩
theorem trod_lens {H:Type} {enc:TypeId×Value->H} {P:Program} {W:World} {base:Nat} {sp:Nat->Bool} {hd:Bool}:∀ {ts:List TypeId} {vs:List Value} {ds:List (DataW H)} {ps:List MemPlace},DataW.TrodAll enc P W base sp hd ts vs ds ps->vs.length=ts.length/\ds.length=ts.length
 | [],[],[],_,_=>⟨rfl,rfl⟩
 | [],_ :: _,_,_,h=>by simp [DataW.TrodAll] at h
 | [],[],_ :: _,_,h=>by simp [DataW.TrodAll] at h
 | _ :: _,[],_,_,h=>by simp [DataW.TrodAll] at h
 | _ :: _,_ :: _,[],_,h=>by simp [DataW.TrodAll] at h
 | t :: ts,v :: vs,d :: ds,ps,h=>by
  obtain ⟨p,p',a,b,rfl⟩:=h
  obtain ⟨h1,h2⟩:=trod_lens b
  simp [h1,h2]
end Go.Eng
namespace Go.Eng
open Go
def Hp.push0 (h:Hp) (b:ABody):Hp:=⟨⟨0,b⟩ :: h.blks,h.size+1,h.clock⟩
theorem Hp.get_push0 {h:Hp} (b:ABody) (j:Nat):(h.push0 b).get j=if j=h.size then some ⟨0,b⟩ else h.get j:=by
 rw [Hp.get_eq,Hp.get_eq]
 simp only [Hp.push0]
 by_cases e:j=h.size
 .subst e; simp
 .by_cases hj:j<h.size
  .have:j<h.size+1:=by omega
   simp only [this,if_true,e,if_false,hj]
   rw [show h.size+1 - 1 - j=(h.size - 1 - j)+1 by omega]
   simp
  .have:¬ j<h.size+1:=by omega
   simp [this,e,hj]
def noK (k:IntKind):ABody->Bool
 | .cells l=>l.all fun v=>match v with
  | .int _ k' _=>!(k'==k)
  | .map _=>true
  | _=>false
 | .view _=>true
 | .hold _=>true
 | .map _=>true
 | _=>false
structure Bytes (W:World) (v:Value) (n:Int) (zs:List Int):Prop where
 val:∃ p c,v=.slice p zs.length c/\zs.length<=c/\(zs≠[]->∃ B N,p=some ⟨B,N,none⟩/\∀ i,i<zs.length->W.cell? ⟨B,N+i,none⟩=some (.int .u8 (zs.getD i 0)))
 len:n=zs.length
 rng:∀ z∈zs,0<=z/\z<=255
def FI (P:Program) (glob:Nat->Option Nat) (h:Hp) (f:FuncId) (args:List AV):Prop:=
 ∃ (C:Ctx) (n:Nat) (nd:Nd) (s p:Bool),CtxOk C/\C.P=P/\C.glob=glob/\dK h.size h.clock ((run C n).call f args h)=some (nd,.bool s p)/\nd.val/\p=true
end Go.Eng
namespace Go.Eng
open Go
noncomputable section
abbrev FJ:=List AV->Hp->Option (Nd×AV)
structure HOk (P:Program) (glob:Nat->Option Nat) (hG:Hp) (f:FuncId) (spec:FJ):Prop where
 call:∀ args nd v h,spec args h=some (nd,v)->bz hG h hG.size=true->CallOk (mkM P glob hG [] kV) f args h ⟨nd,[⟨.tt,v,h⟩]⟩
 fn:∃ fn:Func,P.funcs[f]?=some fn/\fn.body.isSome=true
def gH (s:bC):FJ:=fun args _=>s args
theorem GOk.h {P:Program} {glob:Nat->Option Nat} {hG:Hp} {f:FuncId} {s:bC} (g:GOk P glob hG f s):HOk P glob hG f (gH s):=
 ⟨fun args nd v h e same=>g.call args nd v e h same,g.fn⟩
def vv:List AV->Option (List AV×AV)
 | []=>none
 | [a]=>some ([],a)
 | a :: l=>match vv l with
  | none=>none
  | some (i,z)=>some (a :: i,z)
theorem Bb:∀ {l i:List AV} {z:AV},vv l=some (i,z)->l=i++[z]
 | [],_,_,e=>by cases e
 | [a],i,z,e=>by simp only [vv,Option.some.injEq,Prod.mk.injEq] at e; rw [<- e.1,<- e.2]; rfl
 | a :: b :: l,i,z,e=>by
  simp only [vv] at e
  split at e
  .cases e
  .rename_i i' z' h
   cases e
   rw [Bb h]; rfl
theorem zg {σ:Sg}:∀ {l m:List AV} {L:List Value},VRels σ (l++m) L->∃ A B,L=A++B/\VRels σ l A/\VRels σ m B
 | [],m,L,h=>⟨[],L,rfl,rfl,h⟩
 | a :: l,m,L,h=>by
  obtain ⟨v,vs,rfl,h1,h2⟩:=h
  obtain ⟨A,B,rfl,h3,h4⟩:=zg h2
  exact ⟨v :: A,B,rfl,⟨v,A,rfl,h1,h3⟩,h4⟩
theorem CallOk.tell {C:Ctx} {f:FuncId} {args:List AV} {h:Hp} {nd:Nd} {v v':AV} (c:CallOk C f args h ⟨nd,[⟨.tt,v,h⟩]⟩) (hv:∀ σ V,VRel σ v V->VRel σ v' V):CallOk C f args h ⟨nd,[⟨.tt,v',h⟩]⟩:=by
 intro σ A W g r hA hn cs
 obtain ⟨x,q1,τ,V,X,fr,q2,q3⟩:=c σ A W g r hA hn cs
 have:x=⟨.tt,v,h⟩:=by
  unfold fT at q1
  simp [G.val] at q1
  exact q1.symm
 subst this
 exact ⟨⟨.tt,v',h⟩,rfl,τ,V,X,fr,hv τ V q2,q3⟩
abbrev Bc:=List AV->Hp->Option (Nd×Bool×AV×AV)
structure TOk (P:Program) (glob:Nat->Option Nat) (hG:Hp) (f:FuncId) (spec:Bc):Prop where
 call:∀ args nd p v w h,spec args h=some (nd,p,v,w)->bz hG h hG.size=true->CallOk (mkM P glob hG [] kV) f args h ⟨nd,[⟨.b p,v,h⟩,⟨.b !p,w,h⟩]⟩
 fn:∃ fn:Func,P.funcs[f]?=some fn/\fn.body.isSome=true
def NI (hG:Hp):List (FuncId×Bc)->FuncId->List AV->Hp->Option (Nd×Bool×AV×AV)
 | [],_,_,_=>none
 | (g,s) :: l,f,args,h=>match Nat.beq f g with
  | true=>match s args h with
   | some x=>match bz hG h hG.size with
    | true=>some x
    | false=>none
   | none=>NI hG l f args h
  | false=>NI hG l f args h
theorem vw {hG:Hp}:∀ {l:List (FuncId×Bc)} {f:FuncId} {args:List AV} {h:Hp} {x:Nd×Bool×AV×AV},NI hG l f args h=some x->bz hG h hG.size=true/\∃ s,(f,s)∈l/\s args h=some x
 | [],_,_,_,_,e=>by cases e
 | (g,s) :: l,f,args,h,x,e=>by
  simp only [NI] at e
  split at e
  .rename_i hb
   have:=Nat.eq_of_beq_eq_true hb
   subst this
   split at e
   .rename_i hs
    split at e
    .rename_i hg
     cases e
     exact ⟨hg,s,by simp,hs⟩
    .cases e
   .obtain ⟨h2,s',h3,h4⟩:=vw e
    exact ⟨h2,s',by simp [h3],h4⟩
  .obtain ⟨h2,s',h3,h4⟩:=vw e
   exact ⟨h2,s',by simp [h3],h4⟩
theorem two_of {P:Program} {glob:Nat->Option Nat} {hG:Hp} {f:FuncId} {s:FJ} {t:Bc} (g:HOk P glob hG f s)
  (h:∀ args hp nd p v w,t args hp=some (nd,p,v,w)->∃ nd0 v0,s args hp=some (nd0,v0)/\(nd.val->nd0.val/\(p=true->∀ σ V,VRel σ v0 V->VRel σ v V)/\(p=false->∀ σ V,VRel σ v0 V->VRel σ w V))):TOk P glob hG f t:=by
 refine ⟨fun args nd p v w hp e same=>?_,g.fn⟩
 obtain ⟨nd0,v0,h1,h2⟩:=h args hp nd p v w e
 intro σ A W gr r hA hn cs
 obtain ⟨k0,k1,k2⟩:=h2 hn
 obtain ⟨x,q1,τ,V,X,fr,q2,q3⟩:=g.call args nd0 v0 hp h1 same σ A W gr r hA k0 cs
 have:x=⟨.tt,v0,hp⟩:=by
  unfold fT at q1
  simp [G.val] at q1
  exact q1.symm
 subst this
 cases p with
 | true=>exact ⟨⟨.b true,v,hp⟩,rfl,τ,V,X,fr,k1 rfl τ V q2,q3⟩
 | false=>exact ⟨⟨.b (!false),w,hp⟩,rfl,τ,V,X,fr,k2 rfl τ V q2,q3⟩
theorem NJ {v:AV} {k:Hp} {e:CEnt} (h:fT [⟨.tt,v,k⟩] e):e=⟨.tt,v,k⟩:=by
 unfold fT at h
 simp [G.val] at h
 exact h.symm
def Be (lo:Nat) (k:Hp) (v0:AV) (sz:Nat) (v:AV) (bs:List ABody):Prop:=
 ∀ (σ:Sg) (h:Hp) (W:World) (τ:Sg) (X:World) (V:Value),h.size=sz->HRel σ h W->HRel τ k X->VRel τ v0 V->(∀ i B N,τ i=some (B,N)->lo<=i->W.heap.size<=B)->Quiet W X ->
  ∃ υ,HRel υ (bT h bs) X/\Good σ h W υ (bT h bs) X/\VRel υ v V
theorem zh {P:Program} {glob:Nat->Option Nat} {hG:Hp} {f:FuncId} {args:List AV} {h:Hp} {nd:Nd} {v:AV} {bs:List ABody}
  (key:∀ (σ:Sg) (A:Array Value) (W:World),GRel (mkM P glob hG [] kV) σ->HRel σ h W->VRels σ args A.toList->nd.val ->
   ∃ (C:Ctx) (n:Nat) (h0:Hp) (as:List AV) (ρ:Sg) (nd0:Nd) (v0:AV) (k:Hp),CtxOk C/\C.P=P/\C.glob=glob/\HRel ρ h0 W/\GRel C ρ/\VRels ρ as A.toList/\(run C n).call f as h0=some ⟨nd0,[⟨.tt,v0,k⟩]⟩/\v0.isPanic=false/\nd0.val/\allOld h0.clock (aP (k.size - h0.size) k.blks)=true /\
    Be h0.size k v0 h.size v bs):
  CallOk (mkM P glob hG [] kV) f args h ⟨nd,[⟨.tt,v,bT h bs⟩]⟩:=by
 intro σ A W g r hA hn cs
 obtain ⟨C,n,h0,as,ρ,nd0,v0,k,co,rfl,hgl,r0,g0,hA0,hrun,hv0,hn0,h2,tell⟩:=key σ A W g r hA hn
 obtain ⟨hc,hfn⟩:=(bL co n).call f as h0 _ hrun
 replace hc:=hc.ok (uf hv0)
 obtain ⟨x,k1,τ,V,X,fr,k2,k3,k4,k5,k6⟩:=hc ρ A W g0 r0 hA0 hn0 cs
 obtain rfl:=NJ k1
 have quiet:∀ i B N c,ρ i=some (B,N)->k.get i=some c->c.wr<h0.clock:=by
  intro i B N c e e2
  have hi:=(r0.dom i B N e).1
  have hlt:=Hp.get_lt e2
  rw [Hp.get_eq,if_pos hlt] at e2
  refine rE h2 c ?_
  rw [il]
  have:(k.blks.drop (k.size - h0.size))[h0.size - 1 - i]?=some c:=by
   rw [List.getElem?_drop,<- e2]
   congr 1
   have h9:h0.size<=k.size:=k4.mon.size
   omega
  exact List.mem_of_getElem? this
 have hq:Quiet W X:=⟨k4.ext,fun B hB=>k4.keep B hB (fun h=>h) fun i N c e e2=>quiet i B N c e e2⟩
 obtain ⟨υ,u1,u2,u3⟩:=tell σ h W τ X V rfl r k3 k2 (fun i B N e hi=>by
  rcases Nat.lt_or_ge B W.heap.size with hB|hB
  .rcases k4.old i B N e hi hB with h8|⟨j,M,c,j1,j2,j3,j4⟩
   .exact absurd h8 id
   .exact absurd (quiet j B M c j2 j3) (Nat.not_lt.2 j4)
  .exact hB) hq
 exact ⟨⟨.tt,v,bT h bs⟩,rfl,υ,V,X,fr,u3,u1,u2,k5,k6⟩
theorem Bf {lo sz:Nat} {k:Hp} {v0 v:AV} (hv:∀ (τ σ:Sg) V,VRel τ v0 V->VRel σ v V):Be lo k v0 sz v []:=by
 intro σ h W τ X V _ r _ k2 _ hq
 obtain ⟨r1,g1⟩:=r.quiet hq
 exact ⟨σ,r1,g1,hv τ σ V k2⟩
def oN (ik:IntKind):List AV->Option (List Int)
 | []=>some []
 | .int _ k x :: l=>match decide (k=ik) with
  | true=>match oN ik l with
   | some xs=>some (x :: xs)
   | none=>none
  | false=>none
 | _ :: _=>none
theorem uj {σ:Sg} {ik:IntKind}:∀ {l:List AV} {L:List Value} {xs:List Int},VRels σ l L->oN ik l=some xs->L=xs.map (Value.int ik)
 | [],L,xs,h,e=>by cases e; exact h
 | a :: l,L,xs,h,e=>by
  cases a with
  | int b k x=>
   simp only [oN] at e
   split at e
   .rename_i hk
    obtain rfl:=of_decide_eq_true hk
    split at e
    .rename_i ys hy
     cases e
     obtain ⟨v,vs,rfl,h1,h2⟩:=h
     obtain rfl:=h1
     rw [uj h2 hy]
     rfl
    .cases e
   .cases e
  | _=>cases e
def abU (lo:Nat):AV->Bool
 | .nilslice=>true
 | .slice i _ l c=>Nat.ble lo i&&Nat.ble l c
 | .gslice i _ _ _=>Nat.ble lo i
 | _=>false
abbrev fO:=List AV->Hp->Option (Nd×AV×List ABody)
structure NOk (P:Program) (glob:Nat->Option Nat) (hG:Hp) (f:FuncId) (spec:fO):Prop where
 call:∀ args nd v bs h,spec args h=some (nd,v,bs)->bz hG h hG.size=true->CallOk (mkM P glob hG [] kV) f args h ⟨nd,[⟨.tt,v,bT h bs⟩]⟩
 fn:∃ fn:Func,P.funcs[f]?=some fn/\fn.body.isSome=true
def hN (s:FJ):fO:=fun args h=>match s args h with
 | some (nd,v)=>some (nd,v,[])
 | none=>none
theorem HOk.n {P:Program} {glob:Nat->Option Nat} {hG:Hp} {f:FuncId} {s:FJ} (g:HOk P glob hG f s):NOk P glob hG f (hN s):=by
 refine ⟨fun args nd v bs h e same=>?_,g.fn⟩
 unfold hN at e
 split at e
 .rename_i nd' v' h1
  cases e
  exact g.call args nd v h h1 same
 .cases e
noncomputable def Wt {α:Type} (l:List α) (n:Nat):List α:=
 List.rec (motive:=fun _=>Nat->List α) (fun _=>[]) (fun a l ih n=>Nat.rec (motive:=fun _=>List α) (a :: l) (fun m _=>ih m) n) l n
theorem FK {α:Type}:∀ (l:List α) (n:Nat),Wt l n=l.drop n
 | [],n=>by cases n <;> rfl
 | a :: l,0=>rfl
 | a :: l,n+1=>(FK l n).trans rfl
def CZ:Nat->List ABlk->List ABlk->Bool
 | 0,_,_=>true
 | n+1,a :: l,b :: m=>oM a.body b.body&&CZ n l m
 | _,_,_=>false
theorem zi:∀ {n:Nat} {l m:List ABlk},CZ n l m=true->∀ j,j<n->∃ b c,l[j]?=some b/\m[j]?=some c/\oM b.body c.body=true
 | 0,_,_,_,j,hj=>absurd hj (Nat.not_lt_zero j)
 | n+1,[],_,e,_,_=>by cases e
 | n+1,_ :: _,[],e,_,_=>by cases e
 | n+1,a :: l,b :: m,e,j,hj=>by
  simp only [CZ,Bool.and_eq_true] at e
  cases j with
  | zero=>exact ⟨a,b,rfl,rfl,e.1⟩
  | succ j=>
   obtain ⟨b',c',h1,h2,h3⟩:=zi e.2 j (by omega)
   exact ⟨b',c',by simpa using h1,by simpa using h2,h3⟩
def Ic (hG h:Hp):Bool:=match Nat.ble hG.size h.size with
 | true=>CZ hG.size (Wt h.blks (h.size - hG.size)) hG.blks
 | false=>false
theorem FL {hG h:Hp} (e:Ic hG h=true):bz hG h hG.size=true:=by
 unfold Ic at e
 split at e
 .rename_i hb
  have hb:=Nat.le_of_ble_eq_true hb
  have key:∀ n,n<=hG.size->bz hG h n=true:=by
   intro n
   induction n with
   | zero=>intro _; rfl
   | succ n ih=>
    intro hn
    obtain ⟨b,c,h1,h2,h3⟩:=zi e (hG.size - 1 - n) (by omega)
    rw [FK,List.getElem?_drop] at h1
    have e1:h.get n=some b:=by
     unfold Hp.get
     have:Nat.ble h.size n=false:=by rw [Bool.eq_false_iff]; intro k; have:=Nat.le_of_ble_eq_true k; omega
     have e4:h.size - 1 - n=h.size - hG.size+(hG.size - 1 - n):=by omega
     rw [this]
     show nth h.blks (h.size - 1 - n)=some b
     rw [bX,e4]
     exact h1
    have e2:hG.get n=some c:=by
     unfold Hp.get
     have:Nat.ble hG.size n=false:=by rw [Bool.eq_false_iff]; intro k; have:=Nat.le_of_ble_eq_true k; omega
     rw [this]
     show nth hG.blks (hG.size - 1 - n)=some c
     rw [bX]
     exact h2
    simp only [bz,ih (by omega),e1,e2,h3,Bool.and_self]
  exact key _ (Nat.le_refl _)
 .cases e
def NK (hG:Hp):List (FuncId×fO)->FuncId->List AV->Hp->Option (Nd×AV×List ABody)
 | [],_,_,_=>none
 | (g,s) :: l,f,args,h=>match Nat.beq f g with
  | true=>match s args h with
   | some x=>match Ic hG h with
    | true=>some x
    | false=>none
   | none=>NK hG l f args h
  | false=>NK hG l f args h
theorem vz {hG:Hp}:∀ {l:List (FuncId×fO)} {f:FuncId} {args:List AV} {h:Hp} {x:Nd×AV×List ABody},NK hG l f args h=some x->bz hG h hG.size=true/\∃ s,(f,s)∈l/\s args h=some x
 | [],_,_,_,_,e=>by cases e
 | (g,s) :: l,f,args,h,x,e=>by
  simp only [NK] at e
  split at e
  .rename_i hb
   have:=Nat.eq_of_beq_eq_true hb
   subst this
   split at e
   .rename_i hs
    split at e
    .rename_i hg
     cases e
     exact ⟨FL hg,s,by simp,hs⟩
    .cases e
   .obtain ⟨h2,s',h3,h4⟩:=vz e
    exact ⟨h2,s',by simp [h3],h4⟩
  .obtain ⟨h2,s',h3,h4⟩:=vz e
   exact ⟨h2,s',by simp [h3],h4⟩
noncomputable def mkN (P:Program) (glob:Nat->Option Nat) (hG:Hp) (tbl:List (FuncId×fO)) (tt:List (FuncId×Bc)) (ext:FuncId->List AV->Option (Nd×AV)):Ctx:={ P,glob,con:=NK hG tbl,ext,loop:=fun _ _ _=>none,two:=NI hG tt }
theorem oO {P:Program} {glob:Nat->Option Nat} {hG:Hp} (hp:ProgOk P) {tbl:List (FuncId×fO)} {tt:List (FuncId×Bc)} {ext:FuncId->List AV->Option (Nd×AV)} (he:Fv P ext) (ht:∀ x∈tbl,NOk P glob hG x.1 x.2) (h2:∀ x∈tt,TOk P glob hG x.1 x.2):CtxOk (mkN P glob hG tbl tt ext):=by
 refine ⟨hp,fun f args h nd v bs e=>?_,he,fun _ _ _ _ e=>(by cases e),fun f args h nd p v w e=>?_⟩
 .obtain ⟨hg,s,h1,h3⟩:=vz e
  have g:=ht _ h1
  exact ⟨g.call args nd v bs h h3 hg,g.fn⟩
 .obtain ⟨hg,s,h1,h3⟩:=vw e
  have g:=h2 _ h1
  exact ⟨g.call args nd p v w h h3 hg,g.fn⟩
mutual
def tell:AV->AV->Prop
 | .int _ k x,.int _ k' y=>k=k'/\x=y
 | .bool _ a,.bool _ b=>a=b
 | .str _ a,.str _ b=>a=b
 | .agg l,.agg m=>uk l m
 | .tuple l,.tuple m=>uk l m
 | .pslice i l _ n,.pslice i' l' _ n'=>i=i'/\l'<=l/\n=n'
 | .any _,_=>False
 | a,b=>a=b
def uk:List AV->List AV->Prop
 | [],[]=>True
 | a :: l,b :: m=>tell a b/\uk l m
 | _,_=>False
end
mutual
theorem zk {σ:Sg}:∀ (a b:AV) (V:Value),tell a b->VRel σ a V->VRel σ b V
 | .int _ k x,.int _ k' y,V,h,r=>by obtain ⟨rfl,rfl⟩:=h; exact r
 | .bool _ a,.bool _ b,V,h,r=>by obtain rfl:=h; exact r
 | .str _ a,.str _ b,V,h,r=>by obtain rfl:=h; exact r
 | .pslice i l _ n,.pslice i' l' _ n',V,h,r=>by
  obtain ⟨rfl,hl,rfl⟩:=h
  obtain ⟨p,len,c,e1,e2,e3,e4⟩:=r
  exact ⟨p,len,c,e1,e2,Nat.le_trans hl e3,e4.imp (fun h0=>by omega) id⟩
 | .agg l,.agg m,V,h,r=>by obtain ⟨K,rfl,hK⟩:=r; exact ⟨K,rfl,iY l m _ h hK⟩
 | .tuple l,.tuple m,V,h,r=>by obtain ⟨K,rfl,hK⟩:=r; exact ⟨K,rfl,iY l m _ h hK⟩
 | a,b,V,h,r=>by
  unfold tell at h
  split at h <;> first
   | (subst h; exact r)
   | exact h.elim
   | (obtain ⟨rfl,rfl⟩:=h; exact r)
   | (
     obtain ⟨rfl,hl,rfl⟩:=h
     obtain ⟨p,len,c,e1,e2,e3,e4⟩:=r
     exact ⟨p,len,c,e1,e2,Nat.le_trans hl e3,e4.imp (fun h0=>by omega) id⟩)
   | (obtain ⟨K,rfl,hK⟩:=r; exact ⟨K,rfl,iY _ _ _ h hK⟩)
theorem iY {σ:Sg}:∀ (l m:List AV) (L:List Value),uk l m->VRels σ l L->VRels σ m L
 | [],[],L,_,r=>r
 | a :: l,b :: m,L,h,r=>by
  obtain ⟨v,vs,rfl,h1,h2⟩:=r
  exact ⟨v,vs,rfl,zk a b v h.1 h1,iY l m vs h.2 h2⟩
 | [],_ :: _,_,h,_=>h.elim
 | _ :: _,[],_,h,_=>h.elim
end
theorem oP {hG:Hp} (ok:hG.ok) (pl:fe hG.size hG.blks=true) {h:Hp} (same:bz hG h hG.size=true) {σ:Sg} {W:World} (r:HRel σ h W):HRel (σ.low hG.size) hG W:=by
 have gs:=gz same
 refine ⟨ok,fun i c hg hd=>?_,fun i B N e=>?_,fun i j b c B N M hb hc' hd hd' e1 e2=>?_⟩
 .have hi:=Hp.get_lt hg
  obtain ⟨b,c',hb,hc',hbc⟩:=gs i hi
  rw [hg] at hc'; cases hc'
  obtain ⟨B,N,o,q1,q2,q3⟩:=r.blk i b hb (by rw [hbc]; exact hd)
  refine ⟨B,N,o,by simp [Sg.low,hi,q1],q2,?_⟩
  rw [hbc] at q3
  exact q3.low (qJ pl c (TH hg))
 .unfold Sg.low at e
  split at e
  .rename_i hi
   exact ⟨hi,(r.dom i B N e).2⟩
  .cases e
 .have hi:=Hp.get_lt hb
  have hj:=Hp.get_lt hc'
  obtain ⟨b1,b2,p1,p2,p3⟩:=gs i hi
  obtain ⟨c1,c2,q1,q2,q3⟩:=gs j hj
  rw [hb] at p2; cases p2
  rw [hc'] at q2; cases q2
  have:=r.inj i j b1 c1 B N M p1 q1 (by rw [p3]; exact hd) (by rw [q3]; exact hd') (Sg.low_sub σ _ _ _ e1) (Sg.low_sub σ _ _ _ e2)
  rw [p3,q3] at this
  exact this
def wK (ik:IntKind):List Int->ABody
 | []=>.dead
 | x :: l=>.view ((x :: l).map fun n=>.int true ik n)
def Bg (raw:Bool) (ik:IntKind) (xs:List Int):ABody:=
 match raw with
 | true=>.rows ik xs
 | false=>wK ik xs
def fF (raw:Bool) (h:Hp):List (IntKind×List Int)->Hp
 | []=>h
 | (ik,xs) :: l=>fF raw (h.push0 (Bg raw ik xs)) l
theorem nE {raw:Bool}:∀ (l:List (IntKind×List Int)) (h:Hp),(fF raw h l).clock=h.clock
 | [],_=>rfl
 | (_,_) :: l,h=>nE l (h.push0 _)
theorem Bh {raw:Bool} {ik:IntKind}:(Bg raw ik []).isDead=true:=by cases raw <;> rfl
theorem zm {raw:Bool} {ik:IntKind} {y:Int} {ys:List Int}:(Bg raw ik (y :: ys)).isView=true:=by cases raw <;> rfl
def Apart (ρ:Sg) (h:Hp) (B:Nat):Prop:=∀ i b M,h.get i=some b->b.body.isDead=false->ρ i=some (B,M)->b.body.isView=true
theorem Bi {τ:Sg} {N:Nat} {ik:IntKind} {xs:List Int} {o:Obj} (h:BRel τ N (.rows ik xs) o):BRel τ N (.view (xs.map fun n=>.int true ik n)) o:=by
 obtain ⟨K,e,fr,rfl,h1⟩:=h
 refine ⟨K,e,fr,rfl,?_⟩
 rw [List.length_map,h1]
 have rels:∀ l:List Int,VRels τ (l.map fun n=>.int true ik n) (l.map (Value.int ik)):=by
  intro l
  induction l with
  | nil=>exact rfl
  | cons a l ih=>exact ⟨_,_,rfl,rfl,ih⟩
 exact rels xs
theorem bM {ρ:Sg} {n:Nat} {x:Nat×Nat} {i:Nat} {y:Nat×Nat} (e:(ρ.add n x) i=some y):(i=n/\y=x)\/(i≠n/\ρ i=some y):=by
 unfold Sg.add at e
 split at e
 .rename_i hi; cases e; exact .inl ⟨hi,rfl⟩
 .rename_i hi; exact .inr ⟨hi,e⟩
theorem NL {ρ:Sg} {h0:Hp} {W:World} (r:HRel ρ h0 W) {B N:Nat} {b:ABody} {o:Obj} (hv:b.isView=true) (ho:W.heap[B]?=some o) (hb:BRel (ρ.add h0.size (B,N)) N b o) (ap:Apart ρ h0 B):
  HRel (ρ.add h0.size (B,N)) (h0.push0 b) W:=by
 have hs:=Sub.add (x:=(B,N)) r.fresh
 have hB:B<W.heap.size:=by
  rcases Nat.lt_or_ge B W.heap.size with h1|h1
  .exact h1
  .rw [Array.getElem?_eq_none h1] at ho; cases ho
 refine ⟨by have:=r.ok; simp only [Hp.ok,Hp.push0,List.length_cons] at this ⊢; omega,fun i c hg hd=>?_,fun i B' M e=>?_,fun i j c d B' M M' hg hg' hd hd' e1 e2=>?_⟩
 .rw [Hp.get_push0] at hg
  split at hg
  .rename_i hi; subst hi; cases hg
   exact ⟨B,N,o,aM,ho,hb⟩
  .obtain ⟨B',M,p,h1,h2,h3⟩:=r.blk i c hg hd
   exact ⟨B',M,p,hs _ _ h1,h2,h3.mono hs⟩
 .rcases bM e with ⟨rfl,hx⟩|⟨hi,hx⟩
  .cases hx; exact ⟨Nat.lt_succ_self _,hB⟩
  .have:=r.dom i B' M hx
   exact ⟨Nat.lt_succ_of_lt this.1,this.2⟩
 .rw [Hp.get_push0] at hg hg'
  rcases bM e1 with ⟨rfl,hx⟩|⟨hi,hx⟩ <;> rcases bM e2 with ⟨rfl,hy⟩|⟨hj,hy⟩
  .exact .inl rfl
  .cases hx
   rw [if_pos rfl] at hg; cases hg
   rw [if_neg hj] at hg'
   exact .inr ⟨hv,ap j d M' hg' hd' hy⟩
  .cases hy
   rw [if_pos rfl] at hg'; cases hg'
   rw [if_neg hi] at hg
   exact .inr ⟨ap i c M hg hd hx,hv⟩
  .rw [if_neg hi] at hg
   rw [if_neg hj] at hg'
   exact r.inj i j c d B' M M' hg hg' hd hd' hx hy
theorem Bj {ρ:Sg} {h0:Hp} {W:World} (r:HRel ρ h0 W) {b:ABody} (hb:b.isDead=true):HRel ρ (h0.push0 b) W:=by
 refine ⟨by have:=r.ok; simp only [Hp.ok,Hp.push0,List.length_cons] at this ⊢; omega,fun i c hg hd=>?_,fun i B' M e=>?_,fun i j c d B' M M' hg hg' hd hd' e1 e2=>?_⟩
 .rw [Hp.get_push0] at hg
  split at hg
  .cases hg; rw [show _=_ from hb] at hd; cases hd
  .exact r.blk i c hg hd
 .have:=r.dom i B' M e
  exact ⟨Nat.lt_succ_of_lt this.1,this.2⟩
 .rw [Hp.get_push0] at hg hg'
  rw [if_neg (Nat.ne_of_lt (r.dom i _ _ e1).1)] at hg
  rw [if_neg (Nat.ne_of_lt (r.dom j _ _ e2).1)] at hg'
  exact r.inj i j c d B' M M' hg hg' hd hd' e1 e2
theorem Apart.add {ρ:Sg} {h0:Hp} {B B' N:Nat} {b:ABody} (hv:b.isView=true) (ap:Apart ρ h0 B'):Apart (ρ.add h0.size (B,N)) (h0.push0 b) B':=by
 intro i c M hg hd e
 rw [Hp.get_push0] at hg
 rcases bM e with ⟨rfl,hx⟩|⟨hi,hx⟩
 .rw [if_pos rfl] at hg; cases hg; exact hv
 .rw [if_neg hi] at hg
  exact ap i c M hg hd hx
theorem Apart.dead {ρ:Sg} {h0:Hp} {B':Nat} {b:ABody} (hb:b.isDead=true) (ap:Apart ρ h0 B'):Apart ρ (h0.push0 b) B':=by
 intro i c M hg hd e
 rw [Hp.get_push0] at hg
 split at hg
 .cases hg; rw [show _=_ from hb] at hd; cases hd
 .exact ap i c M hg hd e
theorem NM {raw:Bool} {τ:Sg} {N:Nat} {ik:IntKind} {y:Int} {ys:List Int} {o:Obj} (h:BRel τ N (.rows ik (y :: ys)) o):BRel τ N (Bg raw ik (y :: ys)) o:=by
 cases raw with
 | true=>exact h
 | false=>exact Bi h
theorem qf {raw:Bool} {σ:Sg} {W:World}:∀ (l:List (Nat×IntKind×List Int)) (ρ:Sg) (h0:Hp),HRel ρ h0 W ->
  (∀ x∈l,x.2.2=[]\/∃ B N o,σ x.1=some (B,N)/\W.heap[B]?=some o/\(∀ τ,BRel τ N (.rows x.2.1 x.2.2) o)/\Apart ρ h0 B) ->
  ∃ ρ',HRel ρ' (fF raw h0 (l.map (·.2))) W/\Sub ρ ρ'/\∀ j x,l[j]?=some x->x.2.2≠[]->ρ' (h0.size+j)=σ x.1
 | [],ρ,h0,r,_=>⟨ρ,r,Sub.refl _,fun j x e=>by simp at e⟩
 | (id,ik,xs) :: l,ρ,h0,r,h=>by
  have hx:=h (id,ik,xs) (by simp)
  cases xs with
  | nil=>
   obtain ⟨ρ',r',s',h'⟩:=qf l ρ (h0.push0 (Bg raw ik [])) (Bj r Bh) (fun x hx=>by
    rcases h x (by simp [hx]) with h1|⟨B,N,o,a1,a2,a3,a4⟩
    .exact .inl h1
    .exact .inr ⟨B,N,o,a1,a2,a3,a4.dead Bh⟩)
   refine ⟨ρ',r',s',fun j x e hne=>?_⟩
   cases j with
   | zero=>simp at e; subst e; exact absurd rfl hne
   | succ j=>
    have:=h' j x (by simpa using e) hne
    rw [<- this]
    congr 1
    show _=h0.size+1+j
    omega
  | cons y ys=>
   rcases hx with hx|⟨B,N,o,a1,a2,a3,a4⟩
   .cases hx
   .obtain ⟨ρ',r',s',h'⟩:=qf l (ρ.add h0.size (B,N)) (h0.push0 (Bg raw ik (y :: ys))) (NL r zm a2 (NM (a3 _)) a4) (fun x hx=>by
     rcases h x (by simp [hx]) with h1|⟨B',N',o',b1,b2,b3,b4⟩
     .exact .inl h1
     .exact .inr ⟨B',N',o',b1,b2,b3,b4.add zm⟩)
    refine ⟨ρ',r',(Sub.add r.fresh).trans s',fun j x e hne=>?_⟩
    cases j with
    | zero=>
     simp at e; subst e
     rw [Nat.add_zero,s' _ _ (aM (σ:=ρ) (x:=(B,N)))]
     exact a1.symm
    | succ j=>
     have:=h' j x (by simpa using e) hne
     rw [<- this]
     congr 1
     show _=h0.size+1+j
     omega
inductive Pa where
 | n (sh:Sh)
 | s (shs:List Sh) (ik:IntKind)
inductive Itm where
 | n (xs:List Nu)
 | s (xs:List Nu) (n:Int) (ys:List Int)
def ul (hG h:Hp):List Pa->List AV->Option (List (Nat×IntKind×List Int)×List Itm)
 | [],[]=>some ([],[])
 | .n sh :: ps,v :: vs=>match Sh.read sh v with
  | none=>none
  | some (_,xs)=>match ul hG h ps vs with
   | none=>none
   | some (ls,its)=>some (ls,.n xs :: its)
 | .s shs ik :: ps,v :: vs=>match v with
  | .agg cells=>match vv cells with
   | some (init,.lslice id n)=>match h.get id with
    | some ⟨_,.rows ik' ys⟩=>match decide (ik=ik')&&Nat.ble hG.size id with
     | true=>match Sh.readL shs init with
      | none=>none
      | some (_,xs)=>match ul hG h ps vs with
       | none=>none
       | some (ls,its)=>some ((id,ik,ys) :: ls,.s xs n ys :: its)
     | false=>none
    | _=>none
   | _=>none
  | _=>none
 | _,_=>none
def qL:List Pa->List Itm->List (IntKind×List Int)
 | .n _ :: ps,.n _ :: is=>qL ps is
 | .s _ ik :: ps,.s _ _ ys :: is=>(ik,ys) :: qL ps is
 | _,_=>[]
def abV (raw:Bool) (j:Nat) (n:Int):AV:=
 match raw with
 | true=>.lslice j n
 | false=>.pslice j n.toNat false n
def mkA (raw:Bool) (j:Nat):List Pa->List Itm->List AV
 | .n sh :: ps,.n xs :: is=>(Sh.mk sh xs).1 :: mkA raw j ps is
 | .s shs _ :: ps,.s xs n _ :: is=>.agg ((Sh.mkL shs xs).1++[abV raw j n]) :: mkA raw (j+1) ps is
 | _,_=>[]
def zn:List Pa->List Itm->List AV
 | .n sh :: ps,.n xs :: is=>(Sh.mk sh xs).1 :: zn ps is
 | .s shs _ :: ps,.s xs _ _ :: is=>(Sh.mkL shs xs).1++zn ps is
 | _,_=>[]
def FM:List Itm->Prop
 | []=>True
 | .n _ :: l=>FM l
 | .s _ n ys :: l=>(ys=[]->n=0)/\FM l
theorem zo {n:Nat}:∀ {l m:List AV},AV.underL n (l++m)=(AV.underL n l&&AV.underL n m)
 | [],m=>by simp [AV.underL]
 | a :: l,m=>by simp only [List.cons_append,AV.underL,zo,Bool.and_assoc]
theorem vB {raw:Bool} {hG h:Hp}:∀ (ps:List Pa) (args:List AV) (ls:List (Nat×IntKind×List Int)) (its:List Itm),ul hG h ps args=some (ls,its) ->
  ls.map (·.2)=qL ps its/\(∀ x∈ls,hG.size<=x.1/\∃ w,h.get x.1=some ⟨w,.rows x.2.1 x.2.2⟩) /\
  ∀ (σ ρ:Sg) (j:Nat) (L:List Value),Sub (σ.low hG.size) ρ->(∀ i x,ls[i]?=some x->x.2.2≠[]->ρ (j+i)=σ x.1)->FM its->AV.underL hG.size (zn ps its)=true->VRels σ args L->VRels ρ (mkA raw j ps its) L
 | [],[],ls,its,e=>by
  cases e
  exact ⟨rfl,by simp,fun σ ρ j L _ _ _ _ h=>h⟩
 | .n sh :: ps,v :: vs,ls,its,e=>by
  simp only [ul] at e
  split at e
  .cases e
  .rename_i s xs h1
   split at e
   .cases e
   .rename_i ls' its' h2
    cases e
    obtain ⟨a1,a2,a3⟩:=vB ps vs _ _ h2
    refine ⟨a1,a2,fun σ ρ j L hs hj hok hu hL=>?_⟩
    obtain ⟨V,L',rfl,q1,q2⟩:=hL
    simp only [zn,AV.underL,Bool.and_eq_true] at hu
    have:=(Sh.read_mk sh v s xs [] h1).2 σ V q1
    rw [List.append_nil] at this
    exact ⟨V,L',rfl,VRel.mono hs _ _ (VRel.low _ _ this hu.1),a3 σ ρ j L' hs hj hok hu.2 q2⟩
 | .s shs ik :: ps,v :: vs,ls,its,e=>by
  simp only [ul] at e
  split at e
  .rename_i cells
   split at e
   .rename_i init id n hsp
    split at e
    .rename_i w ik' ys hid
     split at e
     .rename_i hb
      simp only [Bool.and_eq_true,decide_eq_true_eq] at hb
      obtain ⟨rfl,hb⟩:=hb
      have hge:=Nat.le_of_ble_eq_true hb
      split at e
      .cases e
      .rename_i s xs h1
       split at e
       .cases e
       .rename_i ls' its' h2
        cases e
        obtain ⟨a1,a2,a3⟩:=vB ps vs _ _ h2
        refine ⟨by simp [qL,a1],fun x hx=>?_,fun σ ρ j L hs hj hok hu hL=>?_⟩
        .rcases List.mem_cons.1 hx with rfl|hx
         .exact ⟨hge,w,hid⟩
         .exact a2 x hx
        .obtain ⟨V,L',rfl,q1,q2⟩:=hL
         simp only [zn,zo,Bool.and_eq_true] at hu
         obtain ⟨K,rfl,hK⟩:=q1
         rw [Bb hsp] at hK
         obtain ⟨I,Z,hIZ,k1,k2⟩:=zg hK
         obtain ⟨zv,zl,rfl,k3,k4⟩:=k2
         obtain rfl:zl=[]:=k4
         have k5:=(Sh.readL_mk shs init s xs [] h1).2 σ I k1
         rw [List.append_nil] at k5
         have k6:=VRels.mono hs _ _ (VRels.low _ _ k5 hu.1)
         obtain ⟨p,len,c,rfl,hl,hp⟩:=k3
         refine ⟨_,L',rfl,⟨K,rfl,?_⟩,a3 σ ρ (j+1) L' hs (fun i x hx hne=>?_) hok.2 hu.2 q2⟩
         .rw [hIZ]
          refine VRels.append k6 ⟨_,[],rfl,?_,rfl⟩
          have hp':len=0\/∃ B N,ρ j=some (B,N)/\p=some ⟨B,N,none⟩:=by
           rcases hp with hp|⟨B,N,e1,e2⟩
           .exact .inl hp
           .by_cases h0:n=0
            .left; omega
            .have hne:ys≠[]:=fun hh=>h0 (hok.1 hh)
             have:=hj 0 (id,ik,ys) rfl hne
             rw [Nat.add_zero] at this
             exact .inr ⟨B,N,by rw [this]; exact e1,e2⟩
          cases raw with
          | true=>exact ⟨p,len,c,rfl,hl,hp'⟩
          | false=>exact ⟨p,len,c,rfl,hl,by omega,hp'.imp (fun h0=>by omega) _root_.id⟩
         .have:=hj (i+1) x (by simpa using hx) hne
          rw [<- this]
          congr 1
          omega
     .cases e
    .cases e
   .cases e
  .cases e
 | [],_ :: _,_,_,e=>by simp [ul] at e
 | .n _ :: _,[],_,_,e=>by simp [ul] at e
 | .s _ _ :: _,[],_,_,e=>by simp [ul] at e
def Bn (hG:Hp) (ps:List Pa) (V:Nat->List Itm->Option (Prop×AV×List ABody)):fO:=fun args h=>
 match ul hG h ps args with
 | none=>none
 | some (_,its)=>match V h.size its with
  | none=>none
  | some (p,v,bs)=>some (.p p,v,bs)
theorem XN (raw:Bool) {P:Program} {glob:Nat->Option Nat} {hG:Hp} (ok:hG.ok) (pl:fe hG.size hG.blks=true) (hgl:∀ g i,glob g=some i->i<hG.size) {f:FuncId} {ps:List Pa} {V:Nat->List Itm->Option (Prop×AV×List ABody)}
  (h:∀ sz its p v bs,V sz its=some (p,v,bs)->p->FM its/\AV.underL hG.size (zn ps its)=true/\∃ (C:Ctx) (n:Nat) (as:List AV) (nd0:Nd) (v0:AV) (k:Hp),CtxOk C/\C.P=P/\C.glob=glob/\uk (mkA raw hG.size ps its) as /\
   (run C n).call f as (fF raw hG (qL ps its))=some ⟨nd0,[⟨.tt,v0,k⟩]⟩/\v0.isPanic=false/\nd0.val/\allOld hG.clock (aP (k.size - (fF raw hG (qL ps its)).size) k.blks)=true/\Be (fF raw hG (qL ps its)).size k v0 sz v bs)
  (fn:∃ fn:Func,P.funcs[f]?=some fn/\fn.body.isSome=true):NOk P glob hG f (Bn hG ps V):=by
 refine ⟨fun args nd v bs h' e same=>?_,fn⟩
 unfold Bn at e
 split at e
 .cases e
 .rename_i ls its hr
  split at e
  .cases e
  .rename_i p v' bs' hV
   cases e
   obtain ⟨a1,a2,a3⟩:=vB ps args ls its hr
   refine zh fun σ A W g r hA hn=>?_
   obtain ⟨b1,b2,C,n,as,nd0,v0,k,co,rfl,rfl,ht,hrun,hp,hn0,hold,tl⟩:=h _ _ _ _ _ hV hn
   have gs:=gz same
   obtain ⟨ρ,r0,sub,hj⟩:=qf (raw:=raw) (σ:=σ) ls (σ.low hG.size) hG (oP ok pl same r) (fun x hx=>by
    obtain ⟨hge,w,hid⟩:=a2 x hx
    by_cases hne:x.2.2=[]
    .exact .inl hne
    .right
     have hd:(ABody.rows x.2.1 x.2.2).isDead=false:=by
      cases hxs:x.2.2 with
      | nil=>exact absurd hxs hne
      | cons y ys=>rfl
     obtain ⟨B,N,o,h1,h2,h3⟩:=r.blk x.1 _ hid hd
     refine ⟨B,N,o,h1,h2,fun τ=>h3,fun i b M hg hdb e1=>?_⟩
     have hi:=Hp.get_lt hg
     obtain ⟨b',c',hb',hc',hbc⟩:=gs i hi
     rw [hg] at hc'; cases hc'
     rcases r.inj i x.1 b' _ B M N hb' hid (by rw [hbc]; exact hdb) hd (Sg.low_sub σ _ _ _ e1) h1 with h8|⟨h8,_⟩
     .omega
     .rw [hbc] at h8; exact h8)
   rw [a1] at r0
   refine ⟨C,n,_,as,ρ,nd0,v0,k,co,rfl,rfl,r0,fun gl i hgi=>?_,iY _ _ _ ht (a3 σ ρ hG.size A.toList sub hj b1 b2 hA),hrun,hp,hn0,by rw [nE]; exact hold,tl⟩
   obtain ⟨N,hN⟩:=g gl i hgi
   exact ⟨N,sub _ _ (by simp [Sg.low,hgl gl i hgi,hN])⟩
def outL (lo c size:Nat) (ik:IntKind):Option CR->Option (Nd×List AV×Nat×List Int)
 | some ⟨nd,[⟨.tt,.agg cells,k⟩]⟩=>match vv cells with
  | some (init,x)=>match ji k (size+1) x with
   | some (n,cs)=>match oN ik cs with
    | some xs=>match abU lo x&&allOld c (aP (k.size - lo) k.blks) with
     | true=>some (nd,init,n,xs)
     | false=>none
    | none=>none
   | none=>none
  | none=>none
 | _=>none
mutual
def AV.num:AV->Bool
 | .int _ _ _=>true
 | .bool _ _=>true
 | .str _ _=>true
 | .agg l=>AV.numL l
 | .tuple l=>AV.numL l
 | _=>false
def AV.numL:List AV->Bool
 | []=>true
 | a :: l=>a.num&&AV.numL l
end
mutual
theorem xn {σ τ:Sg}:∀ (a:AV) (V:Value),a.num=true->VRel σ a V->VRel τ a V
 | .int _ _ _,_,_,h=>h
 | .bool _ _,_,_,h=>h
 | .str _ _,_,_,h=>h
 | .agg l,_,hn,⟨K,e,h⟩=>⟨K,e,zq l _ hn h⟩
 | .tuple l,_,hn,⟨K,e,h⟩=>⟨K,e,zq l _ hn h⟩
theorem zq {σ τ:Sg}:∀ (l:List AV) (L:List Value),AV.numL l=true->VRels σ l L->VRels τ l L
 | [],_,_,h=>h
 | a :: l,L,hn,h=>by
  simp only [AV.numL,Bool.and_eq_true] at hn
  obtain ⟨v,vs,e,h1,h2⟩:=h
  exact ⟨v,vs,e,xn a v hn.1 h1,zq l vs hn.2 h2⟩
end
theorem Ie {lo c:Nat} {q:Option CR} {nd:Nd} {v0:AV} (e:dK lo c q=some (nd,v0)) (hn:v0.num=true):
  ∃ k,q=some ⟨nd,[⟨.tt,v0,k⟩]⟩/\v0.isPanic=false/\allOld c (aP (k.size - lo) k.blks)=true/\∀ (sz:Nat) (v:AV),tell v0 v->Be lo k v0 sz v []:=by
 obtain ⟨k,h1,h2,h3⟩:=vo e
 exact ⟨k,h1,h3,h2,fun sz v ht=>Bf fun τ σ V hV=>zk _ _ _ ht (xn _ _ hn hV)⟩
end
end Go.Eng
namespace Go.Eng
open Go
noncomputable section
theorem NN {τ:Sg} {h:Hp} {W:World} {b b':ABody} (r:HRel τ (h.push0 b) W) (hd:b.isDead=false) (hv:b'.isView=true) (hv':b.isView=true) (hb:∀ N o,BRel τ N b o->BRel τ N b' o):HRel τ (h.push0 b') W:=by
 refine ⟨r.ok,fun i c hg hdc=>?_,r.dom,fun i j c d B N M hg hg' hdc hdd e1 e2=>?_⟩
 .rw [Hp.get_push0] at hg
  split at hg
  .rename_i hi; cases hg; subst hi
   obtain ⟨B,N,o,h1,h2,h3⟩:=r.blk h.size ⟨0,b⟩ (by rw [Hp.get_push0,if_pos rfl]) hd
   exact ⟨B,N,o,h1,h2,hb N o h3⟩
  .rename_i hi
   exact r.blk i c (by rw [Hp.get_push0,if_neg hi]; exact hg) hdc
 .rw [Hp.get_push0] at hg hg'
  by_cases hi:i=h.size <;> by_cases hj:j=h.size
  .exact .inl (hi.trans hj.symm)
  .rw [if_pos hi] at hg; cases hg
   rw [if_neg hj] at hg'
   rcases r.inj i j ⟨0,b⟩ d B N M (by rw [Hp.get_push0,if_pos hi]) (by rw [Hp.get_push0,if_neg hj]; exact hg') hd hdd e1 e2 with h8|⟨_,h8⟩
   .exact .inl h8
   .exact .inr ⟨hv,h8⟩
  .rw [if_neg hi] at hg
   rw [if_pos hj] at hg'; cases hg'
   rcases r.inj i j c ⟨0,b⟩ B N M (by rw [Hp.get_push0,if_neg hi]; exact hg) (by rw [Hp.get_push0,if_pos hj]) hdc hd e1 e2 with h8|⟨h8,_⟩
   .exact .inl h8
   .exact .inr ⟨h8,hv⟩
  .rw [if_neg hi] at hg
   rw [if_neg hj] at hg'
   exact r.inj i j c d B N M (by rw [Hp.get_push0,if_neg hi]; exact hg) (by rw [Hp.get_push0,if_neg hj]; exact hg') hdc hdd e1 e2
theorem FN (ik:IntKind):∀ xs:List Int,oN ik (xs.map fun n=>.int true ik n)=some xs
 | []=>rfl
 | x :: l=>by simp only [List.map_cons,oN,decide_true,FN ik l]
theorem Li {τ:Sg} {N:Nat} {ik:IntKind} {xs:List Int} {o:Obj} (h:BRel τ N (.view (xs.map fun n=>.int true ik n)) o):BRel τ N (.rows ik xs) o:=by
 obtain ⟨K,e,fr,rfl,h1⟩:=h
 refine ⟨K,e,fr,rfl,?_⟩
 have:=uj h1 (FN ik xs)
 rwa [List.length_map] at this
theorem NOk.weaken {P:Program} {glob:Nat->Option Nat} {hG:Hp} {f:FuncId} {s t:fO} (g:NOk P glob hG f s)
  (h:∀ args hp nd v bs,t args hp=some (nd,v,bs)->∃ nd0 v0,s args hp=some (nd0,v0,bs)/\(nd.val->nd0.val/\∀ σ V,VRel σ v0 V->VRel σ v V)):NOk P glob hG f t:=by
 refine ⟨fun args nd v bs h' e same σ A W gr r hA hn cs=>?_,g.fn⟩
 obtain ⟨nd0,v0,e0,k0⟩:=h args h' nd v bs e
 obtain ⟨k1,k2⟩:=k0 hn
 obtain ⟨x,q1,τ,V,X,fr,q2,q3⟩:=g.call args nd0 v0 bs h' e0 same σ A W gr r hA k1 cs
 have:x=⟨.tt,v0,bT h' bs⟩:=NJ q1
 subst this
 exact ⟨⟨.tt,v,bT h' bs⟩,rfl,τ,V,X,fr,k2 τ V q2,q3⟩
def XO (P:Program) (glob:Nat->Option Nat) (hG:Hp) (f:FuncId) (raw:Bool) (ps:List Pa) (its:List Itm) (args:List AV) (sz:Nat) (v:AV) (bs:List ABody):Prop:=
 ∃ (C:Ctx) (n':Nat) (ar:List AV) (nd0:Nd) (v0:AV) (k:Hp),CtxOk C/\C.P=P/\C.glob=glob/\uk args ar /\
  (run C n').call f ar (fF raw hG (qL ps its))=some ⟨nd0,[⟨.tt,v0,k⟩]⟩/\v0.isPanic=false/\nd0.val/\allOld hG.clock (aP (k.size - (fF raw hG (qL ps its)).size) k.blks)=true/\Be (fF raw hG (qL ps its)).size k v0 sz v bs
theorem TQ {P:Program} {glob:Nat->Option Nat} {hG:Hp} (ok:hG.ok) (pl:fe hG.size hG.blks=true) (hgl:∀ g i,glob g=some i->i<hG.size) {f:FuncId} {ps:List Pa} {V:Nat->List Itm->Option (Prop×AV×List ABody)}
  (h:∀ sz its p v bs,V sz its=some (p,v,bs)->p->FM its/\AV.underL hG.size (zn ps its)=true/\∃ raw,XO P glob hG f raw ps its (mkA raw hG.size ps its) sz v bs)
  (fn:∃ fn:Func,P.funcs[f]?=some fn/\fn.body.isSome=true):NOk P glob hG f (Bn hG ps V):=by
 refine ⟨fun args nd v bs h' e same=>?_,fn⟩
 have e0:=e
 unfold Bn at e
 split at e
 .cases e
 .rename_i ls its hr
  split at e
  .cases e
  .rename_i p v' bs' hV
   cases e
   classical
   by_cases hp:p
   .obtain ⟨b1,b2,raw,hr'⟩:=h _ _ _ _ _ hV hp
    exact (XN raw ok pl hgl (V:=fun sz' its'=>if sz'=h'.size/\its'=its then some (p,v,bs) else none) (fun sz its2 p2 v2 bs2 e2 hp2=>by
     split at e2
     .rename_i hc
      obtain ⟨rfl,rfl⟩:=hc
      cases e2
      exact ⟨b1,b2,hr'⟩
     .cases e2) fn).call args (.p p) v bs h' (by unfold Bn; rw [hr]; simp) same
   .intro σ A W g r hA hn
    exact absurd hn hp
theorem Lj {τ:Sg} {N:Nat} {ik:IntKind} {ys:List Int} {o:Obj} (j:Nat) (h:BRel τ N (.rows ik ys) o):BRel τ N (.rows ik (ys.take j)) o:=by
 obtain ⟨K,e,fr,rfl,h1⟩:=h
 refine ⟨K,e,fr,rfl,?_⟩
 rw [List.map_take,<- h1,List.take_take,List.length_take]
mutual
def AV.plain:AV->Bool
 | .int s _ _=>!s
 | .bool s _=>!s
 | .str s _=>!s
 | .agg l=>AV.plainL l
 | .tuple l=>AV.plainL l
 | _=>false
def AV.plainL:List AV->Bool
 | []=>true
 | a :: l=>AV.plain a&&AV.plainL l
end
mutual
def AV.told:AV->AV
 | .int _ k n=>bB false k n
 | .bool _ b=>iI false b
 | .agg l=>.agg (AV.toldL l)
 | .tuple l=>.tuple (AV.toldL l)
 | v=>v
def AV.toldL:List AV->List AV
 | []=>[]
 | a :: l=>AV.told a :: AV.toldL l
end
mutual
theorem NP {σ:Sg}:∀ (a:AV) (v:Value),VRel σ a v->VRel σ (AV.told a) v
 | .int _ _ _,v,h=>by rw [AV.told,mkInt_rel]; exact h
 | .bool _ _,v,h=>by rw [AV.told,yf]; exact h
 | .agg l,v,⟨K,e,h⟩=>⟨K,e,vD l _ h⟩
 | .tuple l,v,⟨K,e,h⟩=>⟨K,e,vD l _ h⟩
 | .any _,_,h=>h
 | .str _ _,_,h=>h
 | .nil,_,h=>h
 | .ptr _ _,_,h=>h
 | .nilslice,_,h=>h
 | .eslice _,_,h=>h
 | .slice _ _ _ _,_,h=>h
 | .gslice _ _ _ _,_,h=>h
 | .func _ _ _,_,h=>h
 | .yield _,_,h=>h
 | .nilfunc,_,h=>h
 | .iface _ _,_,h=>h
 | .niliface,_,h=>h
 | .map _,_,h=>h
 | .nilmap,_,h=>h
 | .vslice _ _,_,h=>h
 | .pslice _ _ _ _,_,h=>h
 | .lslice _ _,_,h=>h
 | .islice _ _ _ _,_,h=>h
 | .panic _,_,h=>h
 | .vptr _ _,_,h=>h
theorem vD {σ:Sg}:∀ (l:List AV) (L:List Value),VRels σ l L->VRels σ (AV.toldL l) L
 | [],_,h=>h
 | a :: l,_,⟨v,vs,e,h1,h2⟩=>⟨v,vs,e,NP a v h1,vD l vs h2⟩
end
end
end Go.Eng
namespace Go.Eng
open Go
noncomputable section
def JO (v:AV):fO:=fun args _=>match args with
 | []=>some (.tt,v,[])
 | _=>none
theorem NQ {P:Program} {glob:Nat->Option Nat} {hG:Hp} (ok:hG.ok) (pl:fe hG.size hG.blks=true) (hgl:∀ g i,glob g=some i->i<hG.size) {f:FuncId} {v:AV} {C:Ctx} {n:Nat} {nd:Nd} (co:CtxOk C) (hP:C.P=P) (hGl:C.glob=glob) (fn:∃ fn:Func,P.funcs[f]?=some fn/\fn.body.isSome=true)
  (r:dK hG.size hG.clock ((run C n).call f [] hG)=some (nd,v)) (hn:nd.val) (hv:v.num=true) (ht:tell v v):NOk P glob hG f (JO v):=by
 have g:NOk P glob hG f (Bn hG [] fun _ its=>match its with
  | []=>some (True,v,[])
  | _=>none):=by
  refine TQ ok pl hgl (fun sz its p w bs e hp=>?_) fn
  split at e
  .cases e
   refine ⟨trivial,rfl,true,?_⟩
   obtain ⟨q,a1,a2,a3,a4⟩:=Ie r hv
   exact ⟨C,n,[],nd,v,q,co,hP,hGl,trivial,a1,a2,hn,a3,a4 sz _ ht⟩
  .cases e
 refine g.weaken fun args hp nd' w bs e=>?_
 unfold JO at e
 split at e
 .cases e
  exact ⟨.p True,v,rfl,fun _=>⟨trivial,fun σ U h=>h⟩⟩
 .cases e
def Alone (ρ:Sg) (h0:Hp) (B:Nat):Prop:=∀ i c M,h0.get i=some c->c.body.isDead=false->ρ i=some (B,M)->False
theorem Alone.add {ρ:Sg} {h0:Hp} {B B' N:Nat} {b:ABody} (ap:Alone ρ h0 B') (hne:B≠B'):Alone (ρ.add h0.size (B,N)) (h0.push0 b) B':=by
 intro i c M hg hd e
 rw [Hp.get_push0] at hg
 rcases bM e with ⟨rfl,hx⟩|⟨hi,hx⟩
 .cases hx; exact hne rfl
 .rw [if_neg hi] at hg
  exact ap i c M hg hd hx
def Free (hG h':Hp) (σ ρ:Sg) (h0:Hp) (used:List Nat):Prop:=∀ (x:Nat) (bx:ABlk) (Bx Nx:Nat),hG.size<=x->x ∉ used->h'.get x=some bx->bx.body.isDead=false->bx.body.isView=false->σ x=some (Bx,Nx)->Alone ρ h0 Bx
theorem Free.add {hG h':Hp} {σ ρ:Sg} {h0:Hp} {used:List Nat} {W:World} (r:HRel σ h' W) (fr:Free hG h' σ ρ h0 used) {y:Nat} {cy:ABlk} {B N:Nat} {b:ABody} (hg:h'.get y=some cy) (hd:cy.body.isDead=false) (hy:σ y=some (B,N)):Free hG h' σ (ρ.add h0.size (B,N)) (h0.push0 b) (y :: used):=by
 intro x bx Bx Nx hge hu hgx hdx hv hx
 refine (fr x bx Bx Nx hge (fun h=>hu (List.mem_cons_of_mem _ h)) hgx hdx hv hx).add fun hBB=>?_
 subst hBB
 rcases r.inj x y bx cy B Nx N hgx hg hdx hd hx hy with h8|⟨h8,_⟩
 .exact hu (by rw [h8]; exact List.mem_cons_self)
 .rw [hv] at h8; cases h8
end
end Go.Eng
