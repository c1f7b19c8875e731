/- What is proved: MtfTwo returns true, whatever the input (part 6). No conditions beyond those of the row. -/
import Derived.Test.YtbiiiloimbjpaaaGreatDoorPE
import Derived.WideKeyElems2
import Derived.ChangeSlices
import Derived.MakeChecks
import Derived.WalkKit
import Derived.ProofKit
import Derived.OpenShut
import Derived.WideKeyArgs
set_option linter.unusedVariables false
set_option linter.unusedSimpArgs false
set_option linter.unusedSectionVars false
namespace Go.Eng
noncomputable section
def plc (m:Nat) (l:List Nat) (j:Nat):Option Nat:=
 match Nat.blt j m with
 | true=>some j
 | false=>nth l (j - m)
def mJ (f:Nat->Option Nat) (i j:Nat):Bool:=
 match f j with
 | none=>false
 | some k=>Nat.beq i k
mutual
def wkA (f:Nat->Option Nat):AV->AV->Option Nd
 | a,.any c=>match c with
  | false=>some .tt
  | true=>bif a.isCell then some .tt else none
 | .bool s b,.bool s' t=>match s||s' with
  | true=>some (.p (b=t))
  | false=>bif b==t then some .tt else none
 | .int s k x,.int s' v y=>if k=v then (match s||s' with
  | true=>some (.p (x=y))
  | false=>if x=y then some .tt else none) else none
 | .str s b,.str s' t=>match s||s' with
  | true=>some (.p (b=t))
  | false=>bif qW b t then some .tt else none
 | .nil,.nil=>some .tt
 | .ptr i o,.ptr j q=>bif mJ f i j&&Nat.beq o q then some .tt else none
 | .nilslice,.nilslice=>some .tt
 | .slice i o l c,.slice j r u c'=>bif mJ f i j&&Nat.beq o r&&Nat.beq l u&&Nat.beq c c' then some .tt else none
 | .gslice i o l c,.gslice j r u c'=>bif mJ f i j&&Nat.beq o r&&Nat.beq l u&&Nat.beq c c' then some .tt else none
 | .yield i,.yield j=>bif mJ f i j then some .tt else none
 | .nilfunc,.nilfunc=>some .tt
 | .niliface,.niliface=>some .tt
 | .map i,.map j=>bif mJ f i j then some .tt else none
 | .nilmap,.nilmap=>some .tt
 | .vslice i l,.vslice j u=>bif mJ f i j&&Nat.beq l u then some .tt else none
 | .vptr i o,.vptr j r=>bif mJ f i j&&Nat.beq o r then some .tt else none
 | .lslice i n,.lslice j m=>bif mJ f i j then some (.p (n=m)) else none
 | .islice w i o n,.islice w' j r m=>bif mJ f i j&&w==w' then some (.p (o=r/\n=m)) else none
 | .gslice i o l e,.islice w j r m=>bif mJ f i j&&Nat.beq e 1&&w then some (.p (0<l/\(o:Int)=r/\(l:Int)=m)) else none
 | .agg l,.agg m=>wkL f l m
 | .tuple l,.tuple m=>wkL f l m
 | .func g a b,.func h c d=>if g=h then (match wkL f a c with
  | none=>none
  | some p=>match wkL f b d with
   | none=>none
   | some q=>some (p.and q)) else none
 | _,_=>none
def wkL (f:Nat->Option Nat):List AV->List AV->Option Nd
 | [],[]=>some .tt
 | a :: l,b :: m=>match wkA f a b with
  | none=>none
  | some p=>match wkL f l m with
   | none=>none
   | some q=>some (p.and q)
 | _,_=>none
end
theorem lh {f:Nat->Option Nat} {i j:Nat} (h:mJ f i j=true):f j=some i:=by
 unfold mJ at h;split at h
 .cases h
 .rename_i k a;rw [a,aP h]
def Sg.via (τ:Sg) (f:Nat->Option Nat):Sg:=fun j=>match f j with
 | none=>none
 | some i=>τ i
theorem jW {τ:Sg} {f:Nat->Option Nat} {i j:Nat} {x:Nat×Nat} (h:f j=some i) (k:τ i=some x):τ.via f j=some x:=by unfold Sg.via;rw [h];exact k
theorem adU {τ:Sg}:∀ {a:AV} {V:Value},a.isCell=true->VRel τ a V->(∀ c,V≠.agg c)/\(∀ c,V≠.tuple c)
 | .any true,_,_,h=>h
 | .any false,_,e,_=>by cases e
 | .bool _ _,_,_,h=>by rw [show _=_ from h];exact ⟨fun _=>nofun,fun _=>nofun⟩
 | .int _ _ _,_,_,h=>by rw [show _=_ from h];exact ⟨fun _=>nofun,fun _=>nofun⟩
 | .str _ _,_,_,h=>by rw [show _=_ from h];exact ⟨fun _=>nofun,fun _=>nofun⟩
 | .nil,_,_,h=>by rw [show _=_ from h];exact ⟨fun _=>nofun,fun _=>nofun⟩
 | .ptr _ _,_,_,⟨_,_,_,h⟩=>by rw [h];exact ⟨fun _=>nofun,fun _=>nofun⟩
 | .nilslice,_,_,h=>by rw [show _=_ from h];exact ⟨fun _=>nofun,fun _=>nofun⟩
 | .eslice _,_,_,⟨_,_,h,_⟩=>by rw [h];exact ⟨fun _=>nofun,fun _=>nofun⟩
 | .slice _ _ _ _,_,_,⟨_,_,_,h⟩=>by rw [h];exact ⟨fun _=>nofun,fun _=>nofun⟩
 | .gslice _ _ _ _,_,_,⟨_,_,_,_,_,h,_⟩=>by rw [h];exact ⟨fun _=>nofun,fun _=>nofun⟩
 | .func _ _ _,_,_,⟨_,_,h,_⟩=>by rw [h];exact ⟨fun _=>nofun,fun _=>nofun⟩
 | .yield _,_,_,⟨_,_,_,h⟩=>by rw [h];exact ⟨fun _=>nofun,fun _=>nofun⟩
 | .nilfunc,_,_,h=>by rw [show _=_ from h];exact ⟨fun _=>nofun,fun _=>nofun⟩
 | .iface _ _,_,_,⟨_,h,_⟩=>by rw [h];exact ⟨fun _=>nofun,fun _=>nofun⟩
 | .niliface,_,_,h=>by rw [show _=_ from h];exact ⟨fun _=>nofun,fun _=>nofun⟩
 | .map _,_,_,⟨_,_,_,h⟩=>by rw [h];exact ⟨fun _=>nofun,fun _=>nofun⟩
 | .nilmap,_,_,h=>by rw [show _=_ from h];exact ⟨fun _=>nofun,fun _=>nofun⟩
 | .vslice _ _,_,_,⟨_,_,_,_,h⟩=>by rw [h];exact ⟨fun _=>nofun,fun _=>nofun⟩
 | .pslice _ _ _ _,_,_,⟨_,_,_,h,_⟩=>by rw [h];exact ⟨fun _=>nofun,fun _=>nofun⟩
 | .vptr _ _,_,_,⟨_,_,_,h⟩=>by rw [h];exact ⟨fun _=>nofun,fun _=>nofun⟩
 | .lslice _ _,_,_,⟨_,_,_,h,_⟩=>by rw [h];exact ⟨fun _=>nofun,fun _=>nofun⟩
 | .islice _ _ _ _,_,_,⟨_,_,_,h,_⟩=>by rw [h];exact ⟨fun _=>nofun,fun _=>nofun⟩
 | .panic _,_,e,_=>by cases e
 | .agg _,_,e,_=>by cases e
 | .tuple _,_,e,_=>by cases e
theorem tJ {b:Bool} {x p:Nd} (h:(bif b then some x else none)=some p):b=true:=by
 cases b with
 | true=>rfl
 | false=>cases h
mutual
theorem VRel.wk {τ:Sg} {f:Nat->Option Nat}:∀ (b a:AV) (p:Nd),wkA f a b=some p->p.val->∀ V,VRel τ a V->VRel (τ.via f) b V:=by
 intro b a p e hp V h;unfold wkA at e;split at e
 .split at e
  .trivial
  .exact adU (tJ e) h
 .split at e
  .cases e;rw [show _=_ from hp] at h;exact h
  .have:=tJ e;have:=eq_of_beq this;subst this;exact h
 .split at e
  .rename_i Y;subst Y;split at e
   .cases e;rw [show _=_ from hp] at h;exact h
   .split at e
    .rename_i hx;subst hx;exact h
    .cases e
  .cases e
 .split at e
  .cases e;rw [show _=_ from hp] at h;exact h
  .have:=tJ e;have:=(lI _ _).1 this;subst this;exact h
 .exact h
 .have:=tJ e;simp only [aF] at this;obtain ⟨b,N,h1,h2⟩:=h;exact ⟨b,N,jW (lh this.1) h1,by rw [<- aP this.2];exact h2⟩
 .exact h
 .have:=tJ e;simp only [aF] at this;obtain ⟨b,N,h1,h2⟩:=h;exact ⟨b,N,jW (lh this.1.1.1) h1,by rw [<- aP this.1.1.2,<- aP this.1.2,<- aP this.2];exact h2⟩
 .have:=tJ e;simp only [aF] at this;obtain ⟨b,N,q,c,h1,h2⟩:=h;exact ⟨b,N,q,c,jW (lh this.1.1.1) h1,by rw [<- aP this.1.1.2,<- aP this.1.2,<- aP this.2];exact h2⟩
 .have:=tJ e;obtain ⟨b,N,h1,h2⟩:=h;exact ⟨b,N,jW (lh this) h1,h2⟩
 .exact h
 .exact h
 .have:=tJ e;obtain ⟨b,N,h1,h2⟩:=h;exact ⟨b,N,jW (lh this) h1,h2⟩
 .exact h
 .have:=tJ e;simp only [aF] at this;obtain ⟨b,N,c,h1,h2⟩:=h;exact ⟨b,N,c,jW (lh this.1) h1,by rw [<- aP this.2];exact h2⟩
 .have:=tJ e;simp only [aF] at this;obtain ⟨b,N,h1,h2⟩:=h;exact ⟨b,N,jW (lh this.1) h1,by rw [<- aP this.2];exact h2⟩
 .rename_i i n j m
  cases E:mJ f i j with
  | false=>rw [E] at e;cases e
  | true=>
   rw [E] at e;cases e;obtain ⟨p,len,c,h1,h2,h3⟩:=h;have hp:n=m:=hp;subst hp;exact ⟨p,len,c,h1,h2,h3.imp id fun ⟨b,N,J,O⟩=>⟨b,N,jW (lh E) J,O⟩⟩
 .rename_i w i o n w' j Q m
  cases E:(mJ f i j&&w==w') with
  | false=>rw [E] at e;cases e
  | true=>
   rw [E] at e;cases e;simp only [aF,dV] at E;obtain ⟨p,len,c,h1,h2,h3⟩:=h;obtain ⟨rfl,rfl⟩:=(show o=Q/\n=m from hp);obtain ⟨E,rfl⟩:=E;exact ⟨p,len,c,h1,h2,h3.imp id fun ⟨b,N,J,O⟩=>⟨b,N,jW (lh E) J,O⟩⟩
 .rename_i i o l ee w j Q m
  cases E:(mJ f i j&&Nat.beq ee 1&&w) with
  | false=>rw [E] at e;cases e
  | true=>
   rw [E] at e;cases e;simp only [aF] at E;obtain ⟨⟨E,h1⟩,rfl⟩:=E;have h1:=aP h1;subst h1;obtain ⟨hl,ho,rfl⟩:=(show 0<l/\(o:Int)=Q/\(l:Int)=m from hp);obtain ⟨b,N,q,c,h2,rfl,h3,J⟩:=h;obtain ⟨rfl,O⟩:=h3 (by omega);exact ⟨_,l,c,rfl,⟨rfl,J⟩,.inr ⟨b,N,jW (lh E) h2,q,rfl,by simp only [aQ];omega,fun _=>by omega⟩⟩
 .obtain ⟨K,h1,h2⟩:=h;exact ⟨K,h1,VRels.wk _ _ _ e hp _ h2⟩
 .obtain ⟨K,h1,h2⟩:=h;exact ⟨K,h1,VRels.wk _ _ _ e hp _ h2⟩
 .split at e
  .rename_i hg;subst hg;split at e
   .cases e
   .rename_i p1 e1;split at e
    .cases e
    .rename_i p2 e2;cases e;obtain ⟨F,K,h1,h2,h3⟩:=h;exact ⟨F,K,h1,VRels.wk _ _ _ e1 (Nd.lv hp) _ h2,VRels.wk _ _ _ e2 (Nd.rv hp) _ h3⟩
  .cases e
 .cases e
theorem VRels.wk {τ:Sg} {f:Nat->Option Nat}:∀ (m l:List AV) (p:Nd),wkL f l m=some p->p.val->∀ L,VRels τ l L->VRels (τ.via f) m L:=by
 intro m l p e hp L h;unfold wkL at e;split at e
 .exact h
 .split at e
  .cases e
  .rename_i Q E;split at e
   .cases e
   .rename_i p2 J;cases e;obtain ⟨v,O,h1,h2,h3⟩:=h;exact ⟨v,O,h1,VRel.wk _ _ _ E (Nd.lv hp) _ h2,VRels.wk _ _ _ J (Nd.rv hp) _ h3⟩
 .cases e
end
def wkB (f:Nat->Option Nat):ABody->ABody->Option Nd
 | _,.dead=>some .tt
 | .cells l,.cells m=>wkL f l m
 | .grown l,.grown m=>wkL f l m
 | .cells l,.grown m=>wkL f l m
 | .view l,.view m=>wkL f l m
 | .ints k xs,.ints c ys=>if k=c then some (.p (xs=ys)) else none
 | .rows k xs,.rows c ys=>if k=c then some (.p (xs=ys)) else none
 | .grown l,.ints k ys=>match xg k l with
  | some d=>some (.p (d=ys))
  | none=>none
 | .cells l,.ints k ys=>match xg k l with
  | some d=>some (.p (d=ys))
  | none=>none
 | .defers a,.defers b=>bif a==b then some .tt else none
 | _,_=>none
theorem Ct {f:Nat->Option Nat} {a b:ABody} {p:Nd} (e:wkB f a b=some p) (hp:p.val) (hd:b.isDead=false):a.isDead=false/\(a.isView=true->b.isView=true):=by
 unfold wkB at e;split at e
 case h_7=>
  split at e
  .cases e;rename_i k xs c ys _;have hp:xs=ys:=hp;subst hp;exact ⟨hd,fun _=>rfl⟩
  .cases e
 case h_6=>
  split at e
  .cases e;rename_i k xs c ys _;have hp:xs=ys:=hp;subst hp;exact ⟨hd,fun h=>by cases h⟩
  .cases e
 all_goals first|(cases hd;done)|(cases e;done)|exact ⟨rfl,fun h=>by first|exact h|cases h⟩
theorem BRel.wk {τ:Sg} {f:Nat->Option Nat} {a b:ABody} {p:Nd} (e:wkB f a b=some p) (hp:p.val) {N:Nat} {o:Obj} (h:BRel τ N a o):BRel (τ.via f) N b o:=by
 unfold wkB at e;split at e
 .trivial
 .obtain ⟨K,d,h1,h2,h3⟩:=h;exact ⟨K,d,h1,VRels.wk _ _ _ e hp _ h2,h3⟩
 .obtain ⟨K,d,X,Y,h1,h2,h3,J⟩:=h;exact ⟨K,d,X,Y,h1,h2,VRels.wk _ _ _ e hp _ h3,J⟩
 .obtain ⟨K,d,h1,h2,h3⟩:=h;exact ⟨K,d,K.toList,[],h1,by simp,VRels.wk _ _ _ e hp _ h2,h3⟩
 .obtain ⟨K,d,fr,h1,h2⟩:=h;have h3:=VRels.wk _ _ _ e hp _ h2;refine ⟨K,d,fr,h1,?_⟩;have l1:=VRels.length h2;have l2:=VRels.length h3;rw [<- l2,l1];exact h3
 .split at e
  .rename_i O;subst O;cases e;rw [show _=_ from hp] at h;exact h
  .cases e
 .split at e
  .rename_i O;subst O;cases e;rw [show _=_ from hp] at h;exact h
  .cases e
 .split at e
  .rename_i Q E;cases e;obtain ⟨K,d,X,Y,h1,h2,h3,J⟩:=h;have hp:Q=_:=hp;exact ⟨K,d,Y,h1,by rw [h2,nE h3 E,hp],J⟩
  .cases e
 .split at e
  .rename_i Q E;cases e;obtain ⟨K,d,h1,h2,h3⟩:=h;have hp:Q=_:=hp;exact ⟨K,d,[],h1,by rw [nE h2 E,hp,kT],h3⟩
  .cases e
 .have:=eq_of_beq (tJ e);subst this;exact h
 .cases e
def adV (c:Nat) (f:Nat->Option Nat):List AT->List AT->Option Nd
 | [],[]=>some .tt
 | x :: l,y :: m=>match adV c f l m with
  | none=>none
  | some q=>match Nat.blt y.st c with
   | true=>match Nat.blt x.st c with
    | true=>some q
    | false=>none
   | false=>match wkA f x.v y.v with
    | none=>none
    | some p=>some (p.and q)
 | _,_=>none
theorem O4 {c:Nat} {f:Nat->Option Nat}:∀ {l m:List AT} {nd:Nd},adV c f l m=some nd->nd.val->l.length=m.length/\∀ (t:Nat) (y:AT),m[t]?=some y->∃ x,l[t]?=some x/\((y.st<c/\x.st<c)\/(c<=y.st/\∃ p,wkA f x.v y.v=some p/\p.val))
 | [],[],_,_,_=>⟨rfl,fun t y h=>by simp at h⟩
 | x :: l,y :: m,nd,e,hn=>by
  simp only [adV] at e;split at e
  .cases e
  .rename_i q hq;have b:q.val/\((y.st<c/\x.st<c)\/(c<=y.st/\∃ p,wkA f x.v y.v=some p/\p.val)):=by
    split at e
    .rename_i a;split at e
     .rename_i d;cases e;exact ⟨hn,.inl ⟨qL a,qL d⟩⟩
     .cases e
    .rename_i a;have a:c<=y.st:=by
      rcases aX y.st c with h1|h1
      .rw [show Nat.blt y.st c=true from by simpa [kX] using h1] at a;cases a
      .exact h1
     split at e
     .cases e
     .rename_i p hp;cases e;exact ⟨Nd.rv hn,.inr ⟨a,p,hp,Nd.lv hn⟩⟩
   obtain ⟨i1,g⟩:=O4 hq b.1;refine ⟨by simp [i1],fun t z h=>?_⟩
   cases t with
   | zero=>cases h;exact ⟨x,rfl,b.2⟩
   | succ t=>exact g t z (by simpa using h)
 | [],_ :: _,_,e,_=>by cases e
 | _ :: _,[],_,e,_=>by cases e
def adW (c:Nat) (f:Nat->Option Nat):List ABlk->List ABlk->Option Nd
 | [],[]=>some .tt
 | x :: l,y :: m=>match adW c f l m with
  | none=>none
  | some q=>match Nat.blt y.wr c with
   | true=>match Nat.blt x.wr c with
    | true=>some q
    | false=>none
   | false=>match wkB f x.body y.body with
    | none=>none
    | some p=>some (p.and q)
 | _,_=>none
theorem O5 {c:Nat} {f:Nat->Option Nat}:∀ {l m:List ABlk} {nd:Nd},adW c f l m=some nd->nd.val->l.length=m.length/\∀ (t:Nat) (y:ABlk),m[t]?=some y->∃ x,l[t]?=some x/\((y.wr<c/\x.wr<c)\/(c<=y.wr/\∃ p,wkB f x.body y.body=some p/\p.val))
 | [],[],_,_,_=>⟨rfl,fun t y h=>by simp at h⟩
 | x :: l,y :: m,nd,e,hn=>by
  simp only [adW] at e;split at e
  .cases e
  .rename_i q hq;have b:q.val/\((y.wr<c/\x.wr<c)\/(c<=y.wr/\∃ p,wkB f x.body y.body=some p/\p.val)):=by
    split at e
    .rename_i a;split at e
     .rename_i d;cases e;exact ⟨hn,.inl ⟨qL a,qL d⟩⟩
     .cases e
    .rename_i a;have a:c<=y.wr:=by
      rcases aX y.wr c with h1|h1
      .rw [show Nat.blt y.wr c=true from by simpa [kX] using h1] at a;cases a
      .exact h1
     split at e
     .cases e
     .rename_i p hp;cases e;exact ⟨Nd.rv hn,.inr ⟨a,p,hp,Nd.lv hn⟩⟩
   obtain ⟨i1,g⟩:=O5 hq b.1;refine ⟨by simp [i1],fun t z h=>?_⟩
   cases t with
   | zero=>cases h;exact ⟨x,rfl,b.2⟩
   | succ t=>exact g t z (by simpa using h)
 | [],_ :: _,_,e,_=>by cases e
 | _ :: _,[],_,e,_=>by cases e
def adX (f:Nat->Option Nat) (h:Hp):List Nat->List ABlk->Option Nd
 | [],[]=>some .tt
 | i :: l,y :: m=>match adX f h l m with
  | none=>none
  | some q=>match h.get i with
   | none=>none
   | some x=>match wkB f x.body y.body with
    | none=>none
    | some p=>some (p.and q)
 | _,_=>none
theorem O6 {f:Nat->Option Nat} {h:Hp}:∀ {l:List Nat} {m:List ABlk} {nd:Nd},adX f h l m=some nd->nd.val->l.length=m.length/\∀ (t:Nat) (y:ABlk),m[t]?=some y->∃ i x p,l[t]?=some i/\h.get i=some x/\wkB f x.body y.body=some p/\p.val
 | [],[],_,_,_=>⟨rfl,fun t y h=>by simp at h⟩
 | i :: l,y :: m,nd,e,hn=>by
  simp only [adX] at e;split at e
  .cases e
  .rename_i q hq;split at e
   .cases e
   .rename_i x a;split at e
    .cases e
    .rename_i p hp;cases e;obtain ⟨i1,b⟩:=O6 hq (Nd.rv hn);refine ⟨by simp [i1],fun t z h=>?_⟩
     cases t with
     | zero=>cases h;exact ⟨i,x,p,rfl,a,hp,Nd.lv hn⟩
     | succ t=>exact b t z (by simpa using h)
 | [],_ :: _,_,e,_=>by cases e
 | _ :: _,[],_,e,_=>by cases e
def Mk (m n:Nat):List Nat->List Nat->Bool
 | [],_=>true
 | i :: l,dG=>Nat.ble m i&&Nat.blt i n&&!dG.elem i&&Mk m n l (i :: dG)
theorem FM {m n:Nat}:∀ {l dG:List Nat},Mk m n l dG=true->(∀ i∈l,m<=i/\i<n/\i ∉ dG)/\l.Nodup
 | [],_,_=>⟨fun _ h=>(by cases h),List.nodup_nil⟩
 | i :: l,dG,e=>by
  simp only [Mk,aF] at e;obtain ⟨⟨⟨h1,h2⟩,h3⟩,f⟩:=e;obtain ⟨k1,k2⟩:=FM f;refine ⟨fun j d=>?_,mZ.2 ⟨fun hi=>?_,k2⟩⟩
  .rcases aN.1 d with rfl|d
   .exact ⟨dI h1,qL h2,by simpa using h3⟩
   .obtain ⟨a,b,c⟩:=k1 j d;exact ⟨a,b,fun h=>c (jJ _ h)⟩
  .exact (k1 i hi).2.2 (by simp)
def fit (s0 d t:St) (ids:List Nat):Option Nd:=
 match Nat.ble s0.hp.size t.hp.size&&Nat.beq (s0.hp.size+ids.length) t.hp.size&&Mk s0.hp.size d.hp.size ids []&&jR d.defs s0.defs&&o7 s0.hp.size s0.defs with
 | false=>none
 | true=>match adV s0.hp.clock (plc s0.hp.size ids) d.tmps t.tmps with
  | none=>none
  | some a=>match adW s0.hp.clock (plc s0.hp.size ids) (fo (d.hp.size - s0.hp.size) d.hp.blks) (fo (t.hp.size - s0.hp.size) t.hp.blks) with
   | none=>none
   | some b=>match adX (plc s0.hp.size ids) d.hp ids.reverse (t.hp.blks.take (t.hp.size - s0.hp.size)) with
    | none=>none
    | some c=>some (a.and (b.and c))
structure Next1 (s0 t:St):Prop where
 tm:TMon s0 t
 mon:Mon s0.hp t.hp
 ok:t.hp.ok
 defs:t.defs=s0.defs
theorem Cu {m:Nat} {l:List Nat} {j:Nat} (h:j<m):plc m l j=some j:=by unfold plc;rw [show Nat.blt j m=true from by simpa [kX] using h]
theorem Ac {m:Nat} {l:List Nat} {j:Nat} (h:m<=j):plc m l j=l[j - m]?:=by unfold plc;rw [show Nat.blt j m=false from by rw [kQ];intro e;have:=qL e;omega,iX]
theorem EG {σ τ:Sg} {s0 H t:St} {ids:List Nat} {T0 T:Array Value} {D0 D:List Deferred} {W0 W:World} (r0:SRel σ s0 T0 D0 W0) (r:SRel τ H T D W) (st:Step σ s0 W0 τ H W) (K:Next1 s0 t) {nd:Nd} (e:fit s0 H t ids=some nd) (hn:nd.val):
  ∃ υ,SRel υ t T D W/\Step σ s0 W0 υ t W:=by
 unfold fit at e;split at e
 .cases e
 .rename_i hc;simp only [aF,iT,nA] at hc;obtain ⟨⟨⟨⟨ai,ah⟩,Y⟩,q⟩,ae⟩:=hc;have q:=ug _ _ q;obtain ⟨A,O⟩:=FM Y;split at e
  .cases e
  .rename_i na ea;split at e
   .cases e
   .rename_i nb eb;split at e
    .cases e
    .rename_i nc ec;cases e;generalize hf:plc s0.hp.size ids=f at *
     obtain ⟨ta,tb⟩:=O4 ea (Nd.lv hn);obtain ⟨oa,ob⟩:=O5 eb (Nd.lv (Nd.rv hn));obtain ⟨ca,cb⟩:=O6 ec (Nd.rv (Nd.rv hn));rw [nU,nU] at ob oa;have aj:s0.hp.size<=H.hp.size:=st.good.mon.size;have s:∀ i B N,σ i=some (B,N)->i<s0.hp.size:=fun i B N h=>(r0.h.dom i B N h).1;have n:∀ {j},j<s0.hp.size->f j=some j:=fun h=>by rw [<- hf];exact Cu h
     have low_sub:Sub (τ.low s0.hp.size) (τ.via f):=fun i x h=>by
      obtain ⟨h1,h2⟩:=wE h;exact jW (n h1) h2
     have E:∀ j y,j<s0.hp.size->t.hp.get j=some y->∃ x,H.hp.get j=some x/\((y.wr<s0.hp.clock/\x.wr<s0.hp.clock)\/(s0.hp.clock<=y.wr/\∃ p,wkB f x.body y.body=some p/\p.val)):=by intro j y g m;rw [Hp.get_eq,aC (by omega)] at m;obtain ⟨x,h1,h2⟩:=ob (s0.hp.size - 1 - j) y (by rw [ig,show t.hp.size - s0.hp.size+(s0.hp.size - 1 - j)=t.hp.size - 1 - j by omega];exact m);refine ⟨x,?_,h2⟩;rw [ig,show H.hp.size - s0.hp.size+(s0.hp.size - 1 - j)=H.hp.size - 1 - j by omega] at h1;rw [Hp.get_eq,aC (by omega)];exact h1
     have aa:∀ j y,s0.hp.size<=j->t.hp.get j=some y->∃ i x p,f j=some i/\i∈ids/\H.hp.get i=some x/\wkB f x.body y.body=some p/\p.val:=by intro j y g m;have P:=Hp.get_lt m;rw [Hp.get_eq,aC P] at m;obtain ⟨i,x,p,h1,h2,h3,u⟩:=cb (t.hp.size - 1 - j) y (by rw [jL,aC (by omega)];exact m);rw [List.getElem?_reverse (by omega),show ids.length - 1 - (t.hp.size - 1 - j)=j - s0.hp.size by omega] at h1;exact ⟨i,x,p,by rw [<- hf,Ac g];exact h1,jg h1,h2,h3,u⟩
     have F:∀ j x,τ.via f j=some x->(j<s0.hp.size/\τ j=some x)\/(s0.hp.size<=j/\j<t.hp.size/\∃ i,f j=some i/\i∈ids/\τ i=some x):=by
      intro j x h;unfold Sg.via at h;split at h
      .cases h
      .rename_i i hi;rcases aX j s0.hp.size with g|g
       .rw [n g] at hi;cases hi;exact .inl ⟨g,h⟩
       .have Q:=hi;rw [<- hf,Ac g] at Q;have:=(je.1 Q).1;exact .inr ⟨g,by omega,i,hi,jg Q,h⟩
     have ab:Sub σ (τ.via f):=fun i x h=>jW (n (s i x.1 x.2 h)) (st.good.sub i x h);have blk:∀ j y,t.hp.get j=some y->y.body.isDead=false->∃ i x,f j=some i/\H.hp.get i=some x/\x.body.isDead=false/\(x.body.isView=true->y.body.isView=true)/\∀ B N o,τ i=some (B,N)->BRel τ N x.body o->BRel (τ.via f) N y.body o:=by
      intro j y m hd;rcases aX j s0.hp.size with g|g
      .obtain ⟨x,h1,h2⟩:=E j y g m;rcases h2 with ⟨w1,w2⟩|⟨w1,p,h2,h3⟩
       .obtain ⟨z,hz⟩:=Hp.get_some r0.h.ok g;have e1:y=z:=by
         rcases K.mon.same j z y hz m with h|h
         .exact h
         .omega
        have e2:x=z:=by
         rcases st.good.mon.same j z x hz h1 with h|h
         .exact h
         .omega
        subst e1 e2;obtain ⟨B0,N0,o0,I,X,q3⟩:=r0.h.blk j x hz hd;exact ⟨j,x,n g,h1,hd,id,fun B N o hB hb=>BRel.mono low_sub (BRel.names s st.good.sub q3 hb)⟩
       .exact ⟨j,x,n g,h1,(Ct h2 h3 hd).1,(Ct h2 h3 hd).2,fun B N o _ hb=>BRel.wk h2 h3 hb⟩
      .obtain ⟨i,x,p,h1,_,h2,h3,u⟩:=aa j y g m;exact ⟨i,x,h1,h2,(Ct h3 u hd).1,(Ct h3 u hd).2,fun B N o _ hb=>BRel.wk h3 u hb⟩
     have ac:∀ a b c,f a=some c->f b=some c->a=b:=by
      intro a b c ha hb;rw [<- hf] at ha hb;have U4:∀ i∈ids,s0.hp.size<=i:=fun i hi=>(A i hi).1;rcases aX a s0.hp.size with h1|h1 <;> rcases aX b s0.hp.size with h2|h2
      .rw [Cu h1] at ha;rw [Cu h2] at hb;cases ha;cases hb;rfl
      .rw [Cu h1] at ha;rw [Ac h2] at hb;cases ha;have:=U4 _ (jg hb);omega
      .rw [Ac h1] at ha;rw [Cu h2] at hb;cases hb;have:=U4 _ (jg ha);omega
      .rw [Ac h1] at ha;rw [Ac h2] at hb;have l1:=(je.1 ha).1;have:=(List.getElem?_inj l1 O).1 (ha.trans hb.symm);omega
     refine ⟨τ.via f,⟨?_,?_,⟨K.ok,?_,?_,?_⟩⟩,⟨⟨ab,?_,st.good.ext,K.mon,?_,?_⟩,K.tm⟩⟩
     .-- ak J
      have build:∀ (l:List AT) (L:List Value),l.length=L.length->(∀ (j:Nat) (c:AT) (V:Value),l[j]?=some c->L[j]?=some V->VRel (τ.via f) c.v V)->VRels (τ.via f) (l.map (·.v)) L:=by
       intro l
       induction l with
       | nil=>intro L hl _;cases L with|nil=>rfl|cons _ _=>simp at hl
       | cons c l ih=>
        intro L hl g
        cases L with
        | nil=>simp at hl
        | cons V L=>exact ⟨V,L,rfl,g 0 c V rfl rfl,ih L (by simpa using hl) fun j c V h1 h2=>g (j+1) c V (by simpa using h1) (by simpa using h2)⟩
      have al:T.toList.length=H.tmps.length:=by have:=VRels.length r.t;simpa using this
      refine build t.tmps T.toList (by omega) fun j y V h1 h2=>?_;obtain ⟨x,I,X⟩:=tb j y h1;have hx:VRel τ x.v V:=by
       obtain ⟨V',v1,v2⟩:=r.t.nth (t:=j) (a:=x) (by rw [iX];exact I);have:T.toList[j]?=some V':=by simpa using v1
       rw [h2] at this;cases this;exact v2
      rcases X with ⟨w1,w2⟩|⟨w,p,h3,u⟩
      .have e1:s0.tmps[j]?=some y:=by
        rcases K.tm.same j y h1 with h|h
        .exact h
        .omega
       have e2:s0.tmps[j]?=some x:=by
        rcases st.tm.same j x I with h|h
        .exact h
        .omega
       rw [e1] at e2;cases e2;obtain ⟨V0,v1,v2⟩:=r0.t.nth (t:=j) (a:=y) (by rw [iX];exact e1);exact VRel.mono low_sub _ _ (VRel.names s st.good.sub _ _ _ v2 hx)
      .exact VRel.wk _ _ _ h3 u _ hx
     .have h1:=r.d;rw [q] at h1;rw [K.defs];exact DRel.mono low_sub (DRel.low ae h1)
     .intro j y m hd;obtain ⟨i,x,h1,h2,h3,_,u⟩:=blk j y m hd;obtain ⟨B,N,o,I,X,q3⟩:=r.h.blk i x h2 h3;exact ⟨B,N,o,jW h1 I,X,u B N o I q3⟩
     .intro j B N h;rcases F j _ h with ⟨h1,h2⟩|⟨h1,h2,i,h3,u,h5⟩
      .exact ⟨by omega,(r.h.dom j B N h2).2⟩
      .exact ⟨h2,(r.h.dom i B N h5).2⟩
     .intro j k y z B N M m hz af ag h1 h2;obtain ⟨i,x,a1,a2,a3,a4,_⟩:=blk j y m af;obtain ⟨i',x',b1,b2,b3,b4,_⟩:=blk k z hz ag;have c1:τ i=some (B,N):=by unfold Sg.via at h1;rw [a1] at h1;exact h1
      have c2:τ i'=some (B,M):=by unfold Sg.via at h2;rw [b1] at h2;exact h2
      rcases r.h.inj i i' x x' B N M a2 b2 a3 b3 c1 c2 with h|⟨h,h'⟩
      .subst h;exact .inl (ac j k i a1 b1)
      .exact .inr ⟨a4 h,b4 h'⟩
     .intro j x h g;rcases F j x h with ⟨_,h2⟩|⟨h1,_⟩
      .exact st.good.only j x h2 g
      .omega
     .intro j B N h g hB;rcases F j _ h with ⟨h1,_⟩|⟨_,_,i,h3,u,h5⟩
      .omega
      .rcases st.good.old i B N h5 (A i u).1 hB with h|⟨k,M,c,I,X,q3,q4⟩
       .exact h.elim
       .obtain ⟨y,m⟩:=Hp.get_some K.ok (i:=k) (by omega);refine .inr ⟨k,M,y,I,X,m,?_⟩;obtain ⟨x,x1,x2⟩:=E k y I m;rw [q3] at x1;cases x1;rcases x2 with ⟨_,w⟩|⟨w,_⟩
        .omega
        .exact w
     .intro B hB hH hw;refine st.good.keep B hB hH fun i N c hi hg=>?_;have P:=s i B N hi;obtain ⟨y,m⟩:=Hp.get_some K.ok (i:=i) (by omega);have:=hw i N y hi m;obtain ⟨x,x1,x2⟩:=E i y P m;rw [hg] at x1;cases x1;rcases x2 with ⟨_,w⟩|⟨w,_⟩
      .exact w
      .omega
end
end Go.Eng
namespace Go.Eng
noncomputable section
structure Patch where
 tm:List (Nat×AV)
 old:List (Nat×ABody)
 new:List ABody
def Ug {a:Type} (c:Nat):List (Nat×AV)->List AT->(List AT->a)->a
 | [],l,k=>k l
 | (i,v) :: p,l,k=>Gg l i ⟨c,v⟩ fun l=>Ug c p l k
def Uh {a:Type} (c size:Nat):List (Nat×ABody)->List ABlk->(List ABlk->a)->a
 | [],l,k=>k l
 | (i,b) :: p,l,k=>Gg l (size - 1 - i) ⟨c,b⟩ fun l=>Uh c size p l k
def Gw (c:Nat):List ABody->List ABlk->List ABlk
 | [],l=>l
 | b :: p,l=>⟨c,b⟩ :: Gw c p l
def aJ (s:St) (p:Patch):St:=
 Ug s.hp.clock p.tm s.tmps fun t=>Uh s.hp.clock s.hp.size p.old s.hp.blks fun b=>cz (s.hp.size+p.new.length) fun n=>cz (s.hp.clock+1) fun c=>
  ⟨t,s.defs,⟨Gw s.hp.clock p.new b,n,c⟩⟩
def YC:Option ABlk->Bool
 | some ⟨_,.loop _⟩=>true
 | _=>false
def kz (h:Hp):List (Nat×ABody)->Bool
 | []=>true
 | (i,_) :: p=>Nat.blt i h.size&&!YC (h.get i)&&kz h p
def IA (c:Nat):List (Nat×AV)->List AT->List AT
 | [],l=>l
 | (i,v) :: p,l=>IA c p (l.set i ⟨c,v⟩)
def AA (c size:Nat):List (Nat×ABody)->List ABlk->List ABlk
 | [],l=>l
 | (i,b) :: p,l=>AA c size p (l.set (size - 1 - i) ⟨c,b⟩)
theorem O7 {a:Type} (c:Nat):∀ (p:List (Nat×AV)) (l:List AT) (k:List AT->a),Ug c p l k=k (IA c p l)
 | [],_,_=>rfl
 | (i,v) :: p,l,k=>by simp only [Ug,q9,IA];exact O7 c p _ k
theorem O8 {a:Type} (c size:Nat):∀ (p:List (Nat×ABody)) (l:List ABlk) (k:List ABlk->a),Uh c size p l k=k (AA c size p l)
 | [],_,_=>rfl
 | (i,v) :: p,l,k=>by simp only [Uh,q9,AA];exact O8 c size p _ k
theorem IB (c:Nat):∀ (p:List ABody) (l:List ABlk),Gw c p l=p.map (fun b=>⟨c,b⟩)++l
 | [],_=>rfl
 | b :: p,l=>by simp [Gw,IB c p l]
theorem YD (s:St) (p:Patch):aJ s p=⟨IA s.hp.clock p.tm s.tmps,s.defs,⟨p.new.map (fun b=>⟨s.hp.clock,b⟩)++AA s.hp.clock s.hp.size p.old s.hp.blks,s.hp.size+p.new.length,s.hp.clock+1⟩⟩:=by simp [aJ,O7,O8,IB]
theorem IC (c:Nat):∀ (p:List (Nat×AV)) (l:List AT),(IA c p l).length=l.length/\∀ (t:Nat) (x:AT),(IA c p l)[t]?=some x->l[t]?=some x\/x.st=c
 | [],l=>⟨rfl,fun t x h=>.inl h⟩
 | (i,v) :: p,l=>by
  obtain ⟨h1,h2⟩:=IC c p (l.set i ⟨c,v⟩);refine ⟨by simp only [IA];rw [h1];simp,fun t x h=>?_⟩;rcases h2 t x h with h3|h3
  .by_cases a:t=i
   .subst a;by_cases b:t<l.length
    .rw [gZ b] at h3;cases h3;exact .inr rfl
    .rw [dB (by simpa using b)] at h3;cases h3
   .rw [iM (gQ a)] at h3;exact .inl h3
  .exact .inr h3
theorem IE (c size:Nat):∀ (p:List (Nat×ABody)) (l:List ABlk),(AA c size p l).length=l.length /\
  ∀ (t:Nat) (x:ABlk),(AA c size p l)[t]?=some x->(l[t]?=some x)\/(x.wr=c/\∃ i b,(i,b)∈p/\t=size - 1 - i)
 | [],l=>⟨rfl,fun t x h=>.inl h⟩
 | (i,v) :: p,l=>by
  obtain ⟨h1,h2⟩:=IE c size p (l.set (size - 1 - i) ⟨c,v⟩);refine ⟨by simp only [AA];rw [h1];simp,fun t x h=>?_⟩;rcases h2 t x h with h3|⟨h3,j,b,f,g⟩
  .by_cases a:t=size - 1 - i
   .subst a;by_cases d:size - 1 - i<l.length
    .rw [gZ d] at h3;cases h3;exact .inr ⟨rfl,i,v,by simp,rfl⟩
    .rw [dB (by simpa using d)] at h3;cases h3
   .rw [iM (gQ a)] at h3;exact .inl h3
  .exact .inr ⟨h3,j,b,by simp [f],g⟩
theorem FN {h:Hp}:∀ {p:List (Nat×ABody)},kz h p=true->∀ i b,(i,b)∈p->i<h.size/\YC (h.get i)=false
 | [],_,i,b,a=>by cases a
 | (j,d) :: p,e,i,b,a=>by
  simp only [kz,aF] at e;rcases aN.1 a with h1|h1
  .cases h1;exact ⟨qL e.1.1,by simpa using e.1.2⟩
  .exact FN e.2 i b h1
theorem pM {s:St} (ok:s.hp.ok) {p:Patch} (h:kz s.hp p.old=true):Next1 s (aJ s p):=by
 rw [YD];obtain ⟨t1,m⟩:=IC s.hp.clock p.tm s.tmps;obtain ⟨o,g⟩:=IE s.hp.clock s.hp.size p.old s.hp.blks;have n:=FN h;have ok:s.hp.blks.length=s.hp.size:=ok;have get:∀ i,i<s.hp.size->(⟨p.new.map (fun b=>⟨s.hp.clock,b⟩)++AA s.hp.clock s.hp.size p.old s.hp.blks,s.hp.size+p.new.length,s.hp.clock+1⟩:Hp).get i=(AA s.hp.clock s.hp.size p.old s.hp.blks)[s.hp.size - 1 - i]?:=by
  intro i hi;rw [Hp.get_eq,aC (by simp only;omega),mP (by simp;omega)]
  congr 1
  simp only [iO];omega
 refine ⟨⟨t1,fun t x f=>?_⟩,⟨Nat.le_succ _,Nat.le_add_right _ _,fun i b c hb k=>?_,fun i w c hb=>?_⟩,?_,rfl⟩
 .rcases m t x f with h1|h1
  .exact .inl h1
  .exact .inr (by omega)
 .have hi:=Hp.get_lt hb;rw [get i hi] at k;rw [Hp.get_eq,aC hi] at hb;rcases g _ c k with h1|⟨h1,_⟩
  .rw [hb] at h1;cases h1;exact .inl rfl
  .exact .inr (by omega)
 .have hi:=Hp.get_lt hb;have a:=hb;rw [Hp.get_eq,aC hi] at a;obtain ⟨x,f⟩:∃ x,(AA s.hp.clock s.hp.size p.old s.hp.blks)[s.hp.size - 1 - i]?=some x:=⟨_,dh (by omega)⟩;rcases g _ x f with h1|⟨_,j,d,h2,h3⟩
  .rw [a] at h1;cases h1;exact ⟨w,c.state,c.pending,by rw [get i hi];exact f⟩
  .obtain ⟨q,l⟩:=n j d h2;have:i=j:=by omega
   subst this;rw [hb] at l;cases l
 .simp only [Hp.ok,jM,iO];omega
def adY (s0:St) (P:Ex->Option (Patch×List Nat×Prop)):List Ent->Option Nd
 | []=>some .tt
 | e :: l=>match adY s0 P l with
  | none=>none
  | some q=>match P e.x with
   | none=>some ((e.g.on fun g=>Nd.p (g=false)).and q)
   | some (p,ids,x)=>match kz s0.hp p.old with
    | false=>none
    | true=>match fit s0 e.s (aJ s0 p) ids with
     | none=>none
     | some nd=>some ((e.g.on fun g=>Nd.imp (g=true) (nd.and (.p x))).and q)
def dQ (s0:St) (P:Ex->Option (Patch×List Nat×Prop)):Option R->Option Nd
 | none=>none
 | some ⟨nd,l⟩=>match adY s0 P l with
  | none=>none
  | some m=>some (nd.and m)
theorem Cv {s0:St} {P:Ex->Option (Patch×List Nat×Prop)}:∀ {l:List Ent} {nd:Nd},adY s0 P l=some nd->nd.val->∀ e,One l e->∃ p ids x m,P e.x=some (p,ids,x)/\kz s0.hp p.old=true/\fit s0 e.s (aJ s0 p) ids=some m/\m.val/\x
 | [],_,_,_,e,h=>by simp [One] at h
 | a :: l,nd,h,hn,e,c=>by
  simp only [adY] at h;split at h
  .cases h
  .rename_i q hq;rcases fM c with ⟨h1,h2,_⟩|⟨_,h2⟩
   .subst h2;split at h
    .cases h;have h3:=Nd.lv hn;rw [G.on_eq] at h3;rw [show _=_ from h3] at h1;cases h1
    .rename_i p ids x d;split at h
     .cases h
     .rename_i hold;split at h
      .cases h
      .rename_i m f;cases h;have h3:=Nd.lv hn;rw [G.on_eq] at h3;have b:=Nd.iv h3 h1;exact ⟨p,ids,x,m,d,hold,f,Nd.lv b,Nd.rv b⟩
   .refine Cv hq ?_ e h2;split at h
    .cases h;exact Nd.rv hn
    .split at h
     .cases h
     .split at h
      .cases h
      .cases h;exact Nd.rv hn
structure Sum (α:Type) where
 S:α->Patch
 I:α->Prop
 μ:α->Nat
 F:α->Ex×Patch
 next:α->α
 ids:List Nat
 X:α->Ex->Option (Patch×List Nat)
def Sum.way {α:Type} (u:Sum α) (y:α):Ex->Option (Patch×List Nat×Prop)
 | .normal=>some (u.S (u.next y),u.ids,u.I (u.next y)/\u.μ (u.next y)<u.μ y/\u.F (u.next y)=u.F y)
 | x=>match u.X y x with
  | none=>none
  | some (p,ids)=>some (p,ids,u.F y=(x,p))
def qC (o:Option Nd):Prop:=∃ nd,o=some nd/\nd.val
theorem sum_ok {C:Ctx} {r:Rec} (ro:RecOk C r) {fr:AFr} {a:Code} {s0:St} {α:Type} (u:Sum α) {y0:α} {E:List Nat} (hI:u.I y0) (start:qC (fit s0 s0 (aJ s0 (u.S y0)) E)) (hs:kz s0.hp (u.S y0).old=true)
  (body:∀ y,u.I y->qC (dQ s0 (u.way y) (r.code fr a (aJ s0 (u.S y))))) {q:R} (hq:∃ e,One q.l e/\e.x=(u.F y0).1/\e.s=aJ s0 (u.F y0).2):CodeOk C fr (.loop a) s0 q:=by
 intro σ T0 D0 A g sr b k af cs O fb _;obtain ⟨e0,h1,h2,h3⟩:=hq;refine ⟨e0,h1,?_⟩;rw [h2,h3];have H:∀ (n:Nat) (y:α),u.μ y<n->u.I y->∀ (τ:Sg) (T:Array Value) (D:List Deferred) (W:World),SRel τ (aJ s0 (u.S y)) T D W->Step σ s0 A τ (aJ s0 (u.S y)) W ->
   Post σ s0 A (Arr C.P (lone (b.fr T D (.code a :: .inLoop a :: k)) cs W) b k cs) (u.F y).1 (aJ s0 (u.F y).2):=by
  intro n
  induction n with
  | zero=>intro y h;exact absurd h (rM _)
  | succ n ih=>
   intro y ag hy τ T D W w o;obtain ⟨nd,z,hn⟩:=body y hy;unfold dQ at z;split at z
   .cases z
   .rename_i ah l hl;split at z
    .cases z
    .rename_i m hm;cases z;obtain ⟨e,o1,ai,Q,Y,V2,J,aa,d⟩:=ro.code _ _ _ _ hl τ T D W (g.mono o.good.sub) w b (.inLoop a :: k) _ cs (.inl rfl) (fb.mono o.good.sub) (Nd.lv hn);obtain ⟨p,ids,x,m',j,hold,hf,ab,hx⟩:=Cv hm (Nd.rv hn) e o1;have ac:=Step.trans w.ko J.ko o aa;obtain ⟨υ,K,L⟩:=EG sr J ac (pM sr.ko hold) hf ab;have f:∀ M,M≠.normal->(match u.X y M with|none=>none|some (p,ids)=>some (p,ids,u.F y=(M,p)))=some (p,ids,x)->Arr C.P (lone (b.fr T D (.code a :: .inLoop a :: k)) cs W) b (.inLoop a :: k) cs M Q Y V2 ->
       Post σ s0 A (Arr C.P (lone (b.fr T D (.code a :: .inLoop a :: k)) cs W) b k cs) (u.F y).1 (aJ s0 (u.F y).2):=by
      intro M ae j d;split at j
      .cases j
      .cases j;rw [show u.F y=_ from hx];exact ⟨υ,Q,Y,V2,K,L,d.pass rfl ae⟩
     cases t:e.x with
     | normal=>
      rw [t] at j d;simp only [Sum.way] at j;cases j;obtain ⟨x1,x2,x3⟩:=hx;have:=ih (u.next y) (by omega) x1 υ Q Y V2 K L;rw [x3] at this;refine this.imp fun T3 D3 V3 h=>.of_steps (Steps.trans d (.one nG)) h
     | exit i=>rw [t] at j d;exact f (.exit i) (fun h=>by cases h) j d
     | goto i=>rw [t] at j d;exact f (.goto i) (fun h=>by cases h) j d
     | ret=>rw [t] at j d;exact f .ret (fun h=>by cases h) j d
     | raise v=>rw [t] at j d;exact f (.raise v) (fun h=>by cases h) j d
 obtain ⟨nd,z,hn⟩:=start;have refl:Step σ s0 A σ s0 A:=⟨Good.refl σ s0.hp A fun i B N h=>(sr.h.dom i B N h).1,TMon.refl s0⟩;obtain ⟨υ,w,o⟩:=EG sr sr refl (pM sr.ko hs) z hn;have:=H _ y0 (rH _) hI υ T0 D0 A w o;refine this.imp fun T3 D3 V3 h=>?_;rcases O with rfl|⟨c,hc,rfl⟩
 .exact .of_steps (.one BZ) h
 .cases hc;exact .of_steps (.one nG) h
def At (fr b:AFr) (a a':Code) (s s':St):Prop:=fr=b/\a=a'/\s=s'
structure Known where
 fn:FuncId
 clock:Nat
 fr:AFr
 a:Code
 s:St
 l:List Ent
def EH:List Known->AFr->Code->St->Option R
 | [],_,_,_=>none
 | x :: l,fr,a,s=>match Nat.beq fr.fn x.fn&&Nat.beq s.hp.clock x.clock with
  | true=>some ⟨.p (At fr x.fr a x.a s x.s),x.l⟩
  | false=>EH l fr a s
def pW:Code->List Code
 | .seq a b=>pW a++pW b
 | .cond _ a b=>pW a++pW b
 | .block _ a=>pW a
 | .scope a=>pW a
 | .loop a=>a :: pW a
 | .rangeFunc _ _ a b=>pW a++pW b
 | _=>[]
def fP (P:Program) (f:FuncId) (k:Nat):Code:=
 match P.funcs[f]? with
 | none=>.skip
 | some fn=>match fn.body with
  | none=>.skip
  | some c=>(pW c).getD k .skip
theorem Ku {P:Program} {f:FuncId} {spec:eT} (h:∀ args nd v,spec args=some (nd,v)->nd.val->∃ (C:Ctx) (n:Nat) (a:List AV) (nd0:Nd) (v0:AV),CtxOk C/\C.P=P/\(∀ g,C.glob g=none) /\
  (∀ σ L,VRels σ args L->VRels (fun _=>none) a L)/\jr ((run C n).call f a ⟨[],0,1⟩)=some (nd0,v0)/\nd0.val/\∀ τ V,VRel τ v0 V->∀ σ,VRel σ v V) (fn:∃ fn:Func,P.funcs[f]?=some fn/\fn.body.isSome=true):PureOk P f spec:=by
 refine ⟨fn,fun args nd v e hn σ A W ha cs=>?_⟩;obtain ⟨C,n,a,nd0,v0,k,l,m,h1,h2,h3,o⟩:=h args nd v e hn;subst l;obtain ⟨hp,p,d⟩:=Kt h2;have r:HRel (fun _=>none) ⟨[],0,1⟩ W:=⟨rfl,fun i b h=>(by rw [Hp.get_eq] at h;simp at h),fun i B N h=>(by cases h),fun i j b c B N M h=>(by rw [Hp.get_eq] at h;simp at h)⟩;obtain ⟨x,k1,τ,V,X,fr,k2,t,k4,q,k6⟩:=(((dw k n).call f a _ _ p).1.ok (Cs d)) (fun _=>none) A W (fun g i h=>(by rw [m] at h;cases h)) r (h1 σ _ ha) h3 cs;have:x=⟨.tt,v0,hp⟩:=by unfold l9 at k1;simp [G.val] at k1;exact k1.symm
 subst this;exact ⟨V,X,fr,o τ V k2 σ,⟨k4.ext,fun B s=>k4.keep B s id fun i N c e=>by cases e⟩,q,k6⟩
inductive Sh where
 | i (k:IntKind)
 | b
 | c (v:AV)
 | a (l:List Sh)
 | str
 | one
inductive Nu where
 | n (x:Int)
 | t (b:Bool)
 | s (b:ByteArray)
mutual
def Sh.read:Sh->AV->Option (Bool×List Nu)
 | .i k,v=>match v with
  | .int s E x=>if k=E then some (s,[.n x]) else none
  | _=>none
 | .b,v=>match v with
  | .bool s x=>some (s,[.t x])
  | _=>none
 | .c w,v=>match lu v w with
  | true=>some (false,[])
  | false=>none
 | .a l,v=>match v with
  | .agg m=>Sh.readL l m
  | _=>none
 | .str,v=>match v with
  | .str s x=>some (s,[.s x])
  | _=>none
 | .one,v=>match v.isCell with
  | true=>some (false,[])
  | false=>none
def Sh.readL:List Sh->List AV->Option (Bool×List Nu)
 | [],[]=>some (false,[])
 | h :: l,v :: m=>match Sh.read h v with
  | none=>none
  | some (s,xs)=>match Sh.readL l m with
   | none=>none
   | some (s',ys)=>some (s||s',xs++ys)
 | _,_=>none
end
mutual
def Sh.mk:Sh->List Nu->AV×List Nu
 | .i k,l=>match l with
  | .n x :: l=>(.int true k x,l)
  | _=>(.nil,[])
 | .b,l=>match l with
  | .t x :: l=>(.bool true x,l)
  | _=>(.nil,[])
 | .c w,l=>(w,l)
 | .a E,l=>match Sh.mkL E l with
  | (J,l)=>(.agg J,l)
 | .str,l=>match l with
  | .s x :: l=>(.str true x,l)
  | _=>(.nil,[])
 | .one,l=>(.any true,l)
def Sh.mkL:List Sh->List Nu->List AV×List Nu
 | [],l=>([],l)
 | h :: E,l=>match Sh.mk h l with
  | (v,l)=>match Sh.mkL E l with
   | (J,l)=>(v :: J,l)
end
mutual
theorem Sh.read_mk:∀ (h:Sh) (v:AV) (s:Bool) (xs ys:List Nu),Sh.read h v=some (s,xs)->(Sh.mk h (xs++ys)).2=ys/\∀ σ V,VRel σ v V->VRel σ (Sh.mk h (xs++ys)).1 V
 | .i k,v,s,xs,ys,e=>by
  simp only [Sh.read] at e;split at e
  .split at e
   .rename_i E;subst E;cases e;exact ⟨rfl,fun σ V h=>h⟩
   .cases e
  .cases e
 | .b,v,s,xs,ys,e=>by
  simp only [Sh.read] at e;split at e
  .cases e;exact ⟨rfl,fun σ V h=>h⟩
  .cases e
 | .c w,v,s,xs,ys,e=>by
  simp only [Sh.read] at e;split at e
  .rename_i J;cases e;rw [ve _ _ J];exact ⟨rfl,fun σ V h=>h⟩
  .cases e
 | .a l,v,s,xs,ys,e=>by
  simp only [Sh.read] at e;split at e
  .obtain ⟨h1,h2⟩:=Sh.readL_mk l _ s xs ys e;refine ⟨h1,fun σ V h=>?_⟩;obtain ⟨K,k1,k2⟩:=h;exact ⟨K,k1,h2 σ _ k2⟩
  .cases e
 | .str,v,s,xs,ys,e=>by
  simp only [Sh.read] at e;split at e
  .cases e;exact ⟨rfl,fun σ V h=>h⟩
  .cases e
 | .one,v,s,xs,ys,e=>by
  simp only [Sh.read] at e;split at e
  .rename_i O;cases e;exact ⟨rfl,fun σ V h=>eQ (fC h O)⟩
  .cases e
theorem Sh.readL_mk:∀ (h:List Sh) (v:List AV) (s:Bool) (xs ys:List Nu),Sh.readL h v=some (s,xs)->(Sh.mkL h (xs++ys)).2=ys/\∀ σ L,VRels σ v L->VRels σ (Sh.mkL h (xs++ys)).1 L
 | [],[],s,xs,ys,e=>by
  simp only [Sh.readL] at e;cases e;exact ⟨rfl,fun σ L h=>h⟩
 | h :: l,v :: m,s,xs,ys,e=>by
  simp only [Sh.readL] at e;split at e
  .cases e
  .rename_i O x1 Q;split at e
   .cases e
   .rename_i Y E e2;cases e;obtain ⟨a1,a2⟩:=Sh.read_mk h v O x1 (E++ys) Q;obtain ⟨b1,b2⟩:=Sh.readL_mk l m Y E ys e2;have e3:x1++E++ys=x1++(E++ys):=rF ..;simp only [Sh.mkL,e3];rw [show Sh.mk h (x1++(E++ys))=((Sh.mk h (x1++(E++ys))).1,E++ys) from r9 rfl a1];refine ⟨b1,fun σ L hL=>?_⟩;obtain ⟨V,J,q1,q2,q3⟩:=hL;exact ⟨V,J,q1,a2 σ V q2,b2 σ J q3⟩
 | [],_ :: _,_,_,_,e=>by simp [Sh.readL] at e
 | _ :: _,[],_,_,_,e=>by simp [Sh.readL] at e
end
inductive Tm where
 | n (k:IntKind) (x:Int)
 | t (b:Bool)
 | a (l:List Tm)
 | u (l:List Tm)
 | str (b:ByteArray)
mutual
def Tm.av (s:Bool):Tm->AV
 | .n k x=>gB s k x
 | .t b=>o6 s b
 | .a l=>.agg (Tm.avL s l)
 | .u l=>.tuple (Tm.avL s l)
 | .str b=>.str s b
def Tm.avL (s:Bool):List Tm->List AV
 | []=>[]
 | x :: l=>x.av s :: Tm.avL s l
end
mutual
theorem Tm.av_rel {σ τ:Sg} {s s':Bool}:∀ (x:Tm) (V:Value),VRel σ (x.av s) V->VRel τ (x.av s') V
 | .n k x,V,h=>by simp only [Tm.av,mkInt_rel] at h ⊢;exact h
 | .t b,V,h=>by simp only [Tm.av,Hm] at h ⊢;exact h
 | .a l,V,h=>by
  simp only [Tm.av] at h ⊢;obtain ⟨K,h1,h2⟩:=h;exact ⟨K,h1,Tm.avL_rel l _ h2⟩
 | .u l,V,h=>by
  simp only [Tm.av] at h ⊢;obtain ⟨K,h1,h2⟩:=h;exact ⟨K,h1,Tm.avL_rel l _ h2⟩
 | .str b,V,h=>by
  simp only [Tm.av] at h ⊢;exact h
theorem Tm.avL_rel {σ τ:Sg} {s s':Bool}:∀ (x:List Tm) (L:List Value),VRels σ (Tm.avL s x) L->VRels τ (Tm.avL s' x) L
 | [],L,h=>h
 | x :: l,L,h=>by
  simp only [Tm.avL] at h ⊢;obtain ⟨V,E,h1,h2,h3⟩:=h;exact ⟨V,E,h1,Tm.av_rel x V h2,Tm.avL_rel l E h3⟩
end
def Nu.isN:Nu->Nat
 | .n _=>0
 | .t _=>1
 | .s _=>2
mutual
def Sh.kinds:Sh->List Nat
 | .i _=>[0]
 | .b=>[1]
 | .str=>[2]
 | .one=>[]
 | .c _=>[]
 | .a l=>Sh.kindsL l
def Sh.kindsL:List Sh->List Nat
 | []=>[]
 | h :: l=>h.kinds++Sh.kindsL l
end
mutual
theorem Sh.read_kinds:∀ (h:Sh) (v:AV) (s:Bool) (xs:List Nu),Sh.read h v=some (s,xs)->xs.map Nu.isN=h.kinds
 | .i k,v,s,xs,e=>by
  simp only [Sh.read] at e;split at e
  .split at e
   .cases e;rfl
   .cases e
  .cases e
 | .b,v,s,xs,e=>by
  simp only [Sh.read] at e;split at e
  .cases e;rfl
  .cases e
 | .c w,v,s,xs,e=>by
  simp only [Sh.read] at e;split at e
  .cases e;rfl
  .cases e
 | .a l,v,s,xs,e=>by
  simp only [Sh.read] at e;split at e
  .exact Sh.readL_kinds l _ s xs e
  .cases e
 | .str,v,s,xs,e=>by
  simp only [Sh.read] at e;split at e
  .cases e;rfl
  .cases e
 | .one,v,s,xs,e=>by
  simp only [Sh.read] at e;split at e
  .cases e;rfl
  .cases e
theorem Sh.readL_kinds:∀ (h:List Sh) (v:List AV) (s:Bool) (xs:List Nu),Sh.readL h v=some (s,xs)->xs.map Nu.isN=Sh.kindsL h
 | [],[],s,xs,e=>by simp only [Sh.readL] at e;cases e;rfl
 | h :: l,v :: m,s,xs,e=>by
  simp only [Sh.readL] at e;split at e
  .cases e
  .rename_i E x1 J;split at e
   .cases e
   .rename_i O Q Y;cases e;simp only [jN,Sh.kindsL,Sh.read_kinds h v E x1 J,Sh.readL_kinds l m O Q Y]
 | [],_ :: _,_,_,e=>by simp [Sh.readL] at e
 | _ :: _,[],_,_,e=>by simp [Sh.readL] at e
end
theorem kn {xs:List Nu} {l:List Nat} (h:xs.map Nu.isN=0 :: l):∃ a ys,xs=.n a :: ys/\ys.map Nu.isN=l:=by
 cases xs with
 | nil=>cases h
 | cons x ys=>
  simp only [dL,lV] at h
  cases x with
  | n a=>exact ⟨a,ys,rfl,h.2⟩
  | t b=>exact absurd h.1 (by simp [Nu.isN])
  | s b=>exact absurd h.1 (by simp [Nu.isN])
theorem k0 {xs:List Nu} (h:xs.map Nu.isN=[]):xs=[]:=by
 cases xs with
 | nil=>rfl
 | cons x ys=>cases h
def fD (a:List Sh) (N:Option (List Nu->Bool)) (V:List Nu->Tm):eT:=fun args=>
 match Sh.readL a args with
 | none=>none
 | some (s,xs)=>match N with
  | none=>some (.tt,(V xs).av s)
  | some N=>match s with
   | true=>some (.p (N xs=true),(V xs).av true)
   | false=>match N xs with
    | true=>some (.tt,(V xs).av false)
    | false=>none
def okN (N:Option (List Nu->Bool)) (xs:List Nu):Prop:=
 match N with
 | none=>True
 | some N=>N xs=true
theorem ma {P:Program} {f:FuncId} {a:List Sh} {N:Option (List Nu->Bool)} {V:List Nu->Tm}
  (h:∀ xs,xs.map Nu.isN=Sh.kindsL a->okN N xs->∃ (C:Ctx) (n:Nat) (nd:Nd),CtxOk C/\C.P=P/\(∀ g,C.glob g=none)/\AV.underL 0 (Sh.mkL a xs).1=true/\jr ((run C n).call f (Sh.mkL a xs).1 ⟨[],0,1⟩)=some (nd,(V xs).av true)/\nd.val)
  (fn:∃ fn:Func,P.funcs[f]?=some fn/\fn.body.isSome=true):PureOk P f (fD a N V):=by
 refine Ku (fun args nd v e hn=>?_) fn;unfold fD at e;split at e
 .cases e
 .rename_i s xs c;have b:okN N xs/\∃ s',v=(V xs).av s':=by
   split at e
   .cases e;exact ⟨trivial,s,rfl⟩
   .split at e
    .cases e;exact ⟨hn,true,rfl⟩
    .split at e
     .rename_i hN;cases e;exact ⟨hN,false,rfl⟩
     .cases e
  obtain ⟨k1,s',rfl⟩:=b;obtain ⟨C,n,nd0,d,j,k,l,h1,h2⟩:=h xs (Sh.readL_kinds a args s xs c) k1;refine ⟨C,n,_,nd0,_,d,j,k,fun σ L m=>?_,h1,h2,fun τ W o σ=>Tm.av_rel _ _ o⟩;have:=(Sh.readL_mk a args s xs [] c).2 σ L m;rw [kT] at this;have:=VRels.low _ _ this l;rwa [show σ.low 0=fun _=>none from funext fun i=>by simp [Sg.low]] at this
def bS:Nat->Nat->List (Nat×AV)
 | _,0=>[]
 | a,n+1=>(a,.any false) :: bS (a+1) n
def Ml:Nat->List AT
 | 0=>[]
 | n+1=>⟨0,.tuple []⟩ :: Ml n
def tK (C:Ctx) (f k:Nat):Ctx:={ C with loop:=fun fr a s=>match Nat.beq fr.fn f with
 | true=>ED (run C 300) fr a k s
 | false=>C.loop fr a s }
theorem pX {C:Ctx} (b:CtxOk C) (f k:Nat):CtxOk (tK C f k):=by
 refine ⟨b.prog,b.con,b.ext,fun fr a s q e=>?_,b.two⟩;have e:(match Nat.beq fr.fn f with|true=>ED (run C 300) fr a k s|false=>C.loop fr a s)=some q:=e;split at e
 .exact EF (dw b 300) k s q e
 .exact b.loop fr a s q e
def bN (C:Ctx) (l:List Known):Ctx:={ C with loop:=fun fr a s=>match EH l fr a s with
 | some q=>some q
 | none=>C.loop fr a s }
theorem Ui {C:Ctx} {r:Rec} (d:RecOk C r) {fr:AFr} {a:Code} {s0:St} {α:Type} (u:Sum α) {y0:α} {b:List Nat} (f:u.I y0) (start:qC (fit s0 s0 (aJ s0 (u.S y0)) b)) (g:kz s0.hp (u.S y0).old=true)
  (body:∀ y,u.I y->qC (dQ s0 (u.way y) (r.code fr a (aJ s0 (u.S y))))) {x:Ex} {p:Patch} (c:u.F y0=(x,p)):CodeOk C fr (.loop a) s0 ⟨.tt,[⟨.tt,x,aJ s0 p⟩]⟩:=
 sum_ok d u f start g body ⟨⟨.tt,x,aJ s0 p⟩,rfl,by rw [c],by rw [c]⟩
@[reducible] def dK (f clock:Nat) (fr:AFr) (a:Code) (s:St) (x:Ex) (p:Patch):Known:=⟨f,clock,fr,a,s,[⟨.tt,x,aJ s p⟩]⟩
theorem bE {C:Ctx} (i:CtxOk C) {f clock:Nat} {fr:AFr} {a:Code} {s:St} {x:Ex} {p:Patch} (h:CodeOk C fr (.loop a) s ⟨.tt,[⟨.tt,x,aJ s p⟩]⟩) {l:List Known} (k:CtxOk (bN C l)):CtxOk (bN C (dK f clock fr a s x p :: l)):=by
 refine ⟨i.prog,i.con,i.ext,fun c a' s' q e=>?_,i.two⟩;have e:(match EH (dK f clock fr a s x p :: l) c a' s' with|some q=>some q|none=>C.loop c a' s')=some q:=e;simp only [EH] at e;by_cases j:(Nat.beq c.fn f&&Nat.beq s'.hp.clock clock)=true
 .rw [j] at e;simp only at e;cases e;intro σ T D W g sr b k d cs m n hn;obtain ⟨rfl,rfl,rfl⟩:=hn;exact h σ T D W g sr b k d cs m n trivial
 .rw [DK] at j;rw [j] at e;exact k.loop c a' s' q e
@[reducible] def Ad (f clock:Nat) (fr:AFr) (a:Code) (s:St) (g:Bool) (x:Ex) (p:Patch) (c:Ex) (d:Patch):Known:=⟨f,clock,fr,a,s,[⟨.b g,x,aJ s p⟩,⟨.b (!g),c,aJ s d⟩]⟩
theorem adZ {C:Ctx} {r:Rec} (i:RecOk C r) {fr:AFr} {a:Code} {s0:St} {α:Type} (u:Sum α) {y0:α} {c:List Nat} (j:u.I y0) (start:qC (fit s0 s0 (aJ s0 (u.S y0)) c)) (k:kz s0.hp (u.S y0).old=true)
  (body:∀ y,u.I y->qC (dQ s0 (u.way y) (r.code fr a (aJ s0 (u.S y))))) {g:Bool} {x f:Ex} {p h:Patch} (d:u.F y0=bif g then (x,p) else (f,h)):CodeOk C fr (.loop a) s0 ⟨.tt,[⟨.b g,x,aJ s0 p⟩,⟨.b (!g),f,aJ s0 h⟩]⟩:=by
 cases g with
 | true=>exact sum_ok i u j start k body ⟨⟨.b true,x,aJ s0 p⟩,by simp [One,G.val],by rw [d];rfl,by rw [d];rfl⟩
 | false=>exact sum_ok i u j start k body ⟨⟨.b true,f,aJ s0 h⟩,by simp [One,G.val],by rw [d];rfl,by rw [d];rfl⟩
theorem wP {C:Ctx} (i:CtxOk C) {f clock:Nat} {fr:AFr} {a:Code} {s:St} {g:Bool} {x j:Ex} {p m:Patch} (h:CodeOk C fr (.loop a) s ⟨.tt,[⟨.b g,x,aJ s p⟩,⟨.b (!g),j,aJ s m⟩]⟩) {l:List Known} (k:CtxOk (bN C l)):CtxOk (bN C (Ad f clock fr a s g x p j m :: l)):=by
 refine ⟨i.prog,i.con,i.ext,fun c a' s' q e=>?_,i.two⟩;have e:(match EH (Ad f clock fr a s g x p j m :: l) c a' s' with|some q=>some q|none=>C.loop c a' s')=some q:=e;simp only [EH] at e;by_cases n:(Nat.beq c.fn f&&Nat.beq s'.hp.clock clock)=true
 .rw [n] at e;simp only at e;cases e;intro σ T D W g sr b k d cs o r hn;obtain ⟨rfl,rfl,rfl⟩:=hn;exact h σ T D W g sr b k d cs o r trivial
 .rw [DK] at n;rw [n] at e;exact k.loop c a' s' q e
theorem bJ {C:Ctx} (b:CtxOk C):CtxOk (bN C []):=⟨b.prog,b.con,b.ext,fun fr a s q e=>b.loop fr a s q e,b.two⟩
theorem num_ok' {P:Program} {f:FuncId} {a:List Sh} {N:Option (List Nu->Bool)} {V:List Nu->Tm}
  (h:∀ xs,xs.map Nu.isN=Sh.kindsL a->okN N xs->∃ (C:Ctx) (n:Nat) (nd:Nd) (v0:AV),CtxOk C/\C.P=P/\(∀ g,C.glob g=none)/\AV.underL 0 (Sh.mkL a xs).1=true/\jr ((run C n).call f (Sh.mkL a xs).1 ⟨[],0,1⟩)=some (nd,v0)/\nd.val/\∀ τ W,VRel τ v0 W->VRel τ ((V xs).av true) W)
  (fn:∃ fn:Func,P.funcs[f]?=some fn/\fn.body.isSome=true):PureOk P f (fD a N V):=by
 refine Ku (fun args nd v e hn=>?_) fn;unfold fD at e;split at e
 .cases e
 .rename_i s xs c;have b:okN N xs/\∃ s',v=(V xs).av s':=by
   split at e
   .cases e;exact ⟨trivial,s,rfl⟩
   .split at e
    .cases e;exact ⟨hn,true,rfl⟩
    .split at e
     .rename_i hN;cases e;exact ⟨hN,false,rfl⟩
     .cases e
  obtain ⟨k1,s',rfl⟩:=b;obtain ⟨C,n,nd0,v0,d,j,k,l,h1,h2,h3⟩:=h xs (Sh.readL_kinds a args s xs c) k1;refine ⟨C,n,_,nd0,_,d,j,k,fun σ L m=>?_,h1,h2,fun τ W o σ=>Tm.av_rel _ _ (h3 τ W o)⟩;have:=(Sh.readL_mk a args s xs [] c).2 σ L m;rw [kT] at this;have:=VRels.low _ _ this l;rwa [show σ.low 0=fun _=>none from funext fun i=>by simp [Sg.low]] at this
end
end Go.Eng
namespace Go.Eng
noncomputable section
structure GOk (P:Program) (glob:Nat->Option Nat) (hG:Hp) (f:FuncId) (spec:eT):Prop where
 call:∀ args nd v,spec args=some (nd,v)->∀ h,gz hG h hG.size=true->CallOk (mkM P glob hG [] lw) f args h ⟨nd,[⟨.tt,v,h⟩]⟩
 fn:∃ fn:Func,P.funcs[f]?=some fn/\fn.body.isSome=true
theorem PureOk.g {P:Program} {f:FuncId} {spec:eT} (p:PureOk P f spec) (glob:Nat->Option Nat) (hG:Hp):GOk P glob hG f spec:=
 ⟨fun args nd v e h _=>p.call (C:=mkM P glob hG [] lw) e h,p.fn⟩
def O9 (as:List AV) (v:AV):eT:=fun args=>match qf args as with
 | true=>some (.tt,v)
 | false=>none
theorem MemoOk.g {P:Program} {glob:Nat->Option Nat} {hG:Hp} {f:FuncId} {as:List AV} {v:AV} (m:MemoOk P glob hG (f,as,v)):GOk P glob hG f (O9 as v):=by
 refine ⟨fun args nd w e h same=>?_,m.fn⟩;unfold O9 at e;split at e
 .rename_i E;cases e;rw [kC _ _ E];exact m.call h same
 .cases e
def Pb (n c:Nat):Option CR->Option (Nd×AV)
 | some ⟨nd,[⟨.tt,v,hp⟩]⟩=>match v.isPanic with
  | true=>none
  | false=>match allOld c (fo (hp.size - n) hp.blks) with
   | true=>some (nd,v)
   | false=>none
 | _=>none
theorem Kv {n c:Nat} {q:Option CR} {nd:Nd} {v:AV} (e:Pb n c q=some (nd,v)):∃ hp,q=some ⟨nd,[⟨.tt,v,hp⟩]⟩/\allOld c (fo (hp.size - n) hp.blks)=true/\v.isPanic=false:=by
 unfold Pb at e;split at e
 .split at e
  .cases e
  .rename_i a;split at e
   .rename_i h;cases e;exact ⟨_,rfl,h,a⟩
   .cases e
 .cases e
mutual
theorem Tm.under {s:Bool} {n:Nat}:∀ x:Tm,(x.av s).under n=true
 | .n k x=>by
  cases s with
  | true=>rfl
  | false=>
   simp only [Tm.av,gB,Fs];rfl
 | .t b=>by
  cases s with
  | true=>rfl
  | false=>cases b <;> rfl
 | .a l=>by simp only [Tm.av,AV.under];exact Tm.underL l
 | .u l=>by simp only [Tm.av,AV.under];exact Tm.underL l
 | .str b=>by simp only [Tm.av,AV.under]
theorem Tm.underL {s:Bool} {n:Nat}:∀ l:List Tm,AV.underL n (Tm.avL s l)=true
 | []=>rfl
 | x :: l=>by simp only [Tm.avL,AV.underL,aF];exact ⟨Tm.under x,Tm.underL l⟩
end
theorem GOk.weaken {P:Program} {glob:Nat->Option Nat} {hG:Hp} {f:FuncId} {s t:eT} (g:GOk P glob hG f s) (h:∀ args nd v,t args=some (nd,v)->∃ nd0 v0,s args=some (nd0,v0)/\(nd.val->nd0.val/\∀ σ V,VRel σ v0 V->VRel σ v V)):GOk P glob hG f t:=by
 refine ⟨fun args nd v e E same σ A W O r Q hn cs=>?_,g.fn⟩;obtain ⟨nd0,v0,Y,k0⟩:=h args nd v e;obtain ⟨k1,k2⟩:=k0 hn;obtain ⟨x,J,τ,V,X,fr,q2,q3⟩:=g.call args nd0 v0 Y E same σ A W O r Q k1 cs;have:x=⟨.tt,v0,E⟩:=by unfold l9 at J;simp [G.val] at J;exact J.symm
 subst this;exact ⟨⟨.tt,v,E⟩,rfl,τ,V,X,fr,k2 τ V q2,q3⟩
def Sh.of (P:Program) (t:TypeId):Sh:=
 match P.underlying t with
 | some (.int k)=>.i k
 | some .bool=>.b
 | some .string=>.str
 | _=>.c (.any true)
def Sh.ofL (P:Program):List TypeId->List Sh
 | []=>[]
 | t :: l=>Sh.of P t :: Sh.ofL P l
def dz:List Sh->List Nu->Prop
 | [],[]=>True
 | .i k :: l,.n x :: m=>k.has x/\dz l m
 | .b :: l,.t _ :: m=>dz l m
 | .str :: l,.s _ :: m=>dz l m
 | .c _ :: l,m=>dz l m
 | _,_=>False
theorem YE {P:Program} {W:World} {base:Nat} {t:TypeId} {v:Value} (h:Cell.okWide P W .any base t v):(∀ c,v≠.agg c)/\(∀ c,v≠.tuple c):=by
 refine ⟨fun c e=>?_,fun c e=>?_⟩
 .subst e;unfold Cell.okWide at h;split at h <;> first|(rename_i b a;cases a;done)|skip
  all_goals first|(unfold Cell.ok at h;split at h <;> first|(rename_i b a;cases a;done)|exact h)|simp_all
 .subst e;unfold Cell.okWide at h;split at h <;> first|(rename_i b a;cases a;done)|skip
  all_goals first|(unfold Cell.ok at h;split at h <;> first|(rename_i b a;cases a;done)|exact h)|simp_all
theorem Kw {P:Program} {W:World} {base:Nat} {σ:Sg}:∀ {ts:List TypeId} {cs:List Value},cs.length=ts.length->(∀ (i:Nat) v,cs[i]?=some v->∃ u,ts[i]?=some u/\Cell.okWide P W .any base u v) ->
  ∃ xs,xs.map Nu.isN=Sh.kindsL (Sh.ofL P ts)/\dz (Sh.ofL P ts) xs/\∀ ys,(Sh.mkL (Sh.ofL P ts) (xs++ys)).2=ys/\VRels σ (Sh.mkL (Sh.ofL P ts) (xs++ys)).1 cs
 | [],[],_,_=>⟨[],rfl,trivial,fun ys=>⟨rfl,rfl⟩⟩
 | [],_ :: _,h,_=>by simp at h
 | _ :: _,[],h,_=>by simp at h
 | t :: ts,v :: cs,g,h=>by
  obtain ⟨xs,i1,j,o⟩:=Kw (σ:=σ) (ts:=ts) (cs:=cs) (by simpa using g) fun i v p=>h (i+1) v (by simpa using p);obtain ⟨u,q,a⟩:=h 0 v rfl;cases q;have f:∃ x,x.map Nu.isN=(Sh.of P t).kinds/\(∀ m l,dz l m->dz (Sh.of P t :: l) (x++m))/\∀ ys,(Sh.mk (Sh.of P t) (x++ys)).2=ys/\VRel σ (Sh.mk (Sh.of P t) (x++ys)).1 v:=by
   unfold Sh.of;split
   .rename_i k c;unfold Cell.okWide at a;rw [c] at a;unfold Cell.ok at a;simp only at a;rw [c] at a;cases v <;> simp only at a <;> first|exact a.elim|skip
    rename_i D n;obtain ⟨rfl,hn⟩:=a;exact ⟨[.n n],rfl,fun m l d=>⟨hn,d⟩,fun ys=>⟨rfl,rfl⟩⟩
   .rename_i c;unfold Cell.okWide at a;rw [c] at a;unfold Cell.ok at a;simp only at a;rw [c] at a;cases v <;> simp only at a <;> first|exact a.elim|skip
    rename_i b;exact ⟨[.t b],rfl,fun m l d=>d,fun ys=>⟨rfl,rfl⟩⟩
   .rename_i c;unfold Cell.okWide at a;rw [c] at a;unfold Cell.ok at a;simp only at a;rw [c] at a;cases v <;> simp only at a <;> first|exact a.elim|skip
    rename_i b;exact ⟨[.s b],rfl,fun m l d=>d,fun ys=>⟨rfl,rfl⟩⟩
   .exact ⟨[],rfl,fun m l d=>d,fun ys=>⟨rfl,YE a⟩⟩
  obtain ⟨x,r,w,y⟩:=f;refine ⟨x++xs,by simp [Sh.ofL,Sh.kindsL,i1,r],w xs _ j,fun ys=>?_⟩;obtain ⟨a1,a2⟩:=y (xs++ys);obtain ⟨z,A⟩:=o ys;have e3:x++xs++ys=x++(xs++ys):=rF ..;simp only [Sh.ofL,Sh.mkL,e3];rw [show Sh.mk (Sh.of P t) (x++(xs++ys))=((Sh.mk (Sh.of P t) (x++(xs++ys))).1,xs++ys) from r9 rfl a1];exact ⟨z,v,cs,rfl,a2,A⟩
theorem V7 {C:Ctx} (q:CtxOk C) {hG:Hp} (old:allOld hG.clock hG.blks=true) {n:Nat} {f:FuncId} {args:List AV} {nd:Nd} {s p:Bool} (e:Pb hG.size hG.clock ((run C n).call f args hG)=some (nd,.bool s p)) (hn:nd.val) (hp:p=true) {σ:Sg} {W:World} {A:Array Value}
  (g:GRel C σ) (r:HRel σ hG W) (u:VRels σ args A.toList):Calls C.P f A W fun v w'=>v=.returned (.bool true)/\RowKit.Grown W w'/\∀ B,B<W.heap.size->w'.heap[B]?=W.heap[B]?:=by
 intro cs;obtain ⟨k,h1,h2,b⟩:=Kv e;obtain ⟨d,E⟩:=(dw q n).call f args hG _ h1;replace d:=d.ok (Cs b);obtain ⟨x,k1,τ,V,X,fr,k2,F,k4,w,k6,y,z,l,h⟩:=d σ A W g r u hn cs;have:x=⟨.tt,.bool s p,k⟩:=by unfold l9 at k1;simp [G.val] at k1;exact k1.symm
 subst this;have m:∀ B,B<W.heap.size->X.heap[B]?=W.heap[B]?:=fun B D=>k4.keep B D id fun i N c e a=>by
  have hi:=(r.dom i B N e).1;have a:k.get i=some c:=a;have j:=Hp.get_lt a;rw [Hp.get_eq,aC j] at a;refine Bh h2 c ?_;rw [nU];have:(k.blks.drop (k.size - hG.size))[hG.size - 1 - i]?=some c:=by
   rw [ig,<- a]
   congr 1
   have:=k4.mon.size;simp only at this;omega
  exact jg this
 refine ⟨.returned V,X,fr,⟨by rw [show V=_ from k2,hp],⟨⟨k4.ext.os,k4.ext.output,fun i hi=>?_⟩,k4.ext.fz,k4.ext.size⟩,m⟩,w,l,k6,y,z,l ▸ h⟩;rw [m i hi]
 cases W.heap[i]? with
 | none=>rfl
 | some o=>cases o with
  | cells c t fr=>exact ⟨rfl,rfl,rfl,fun _ _=>rfl⟩
  | map es c=>exact .inr ⟨rfl,rfl⟩
  | _=>rfl
end
end Go.Eng
namespace Go.Eng
open Go
def eZ (C:Ctx) (h:Nat->Nat->Option AV):Ctx:={ C with hint:=h }
theorem bW {C:Ctx} (b:CtxOk C) (h:Nat->Nat->Option AV):CtxOk (eZ C h):=⟨b.prog,b.con,b.ext,fun fr a s q e=>b.loop fr a s q e,b.two⟩
theorem Pd {P:Program} {w:World}:∀ {a:List (String×DataW Unit)} {f:List MemPlace},DataW.LaidVars P w a f->∀ {n:String} {d:DataW Unit},(n,d)∈a ->
  ∃ g t cs fuel p,P.globalNamed n=some g/\(P.globals[g]?).map (·.type)=some t/\w.var? P n=some cs/\DataW.trod (fun _=>()) P w 0 (fun _=>true) false fuel t cs.toList=some (d,p)/\∀ x∈MemPlace.row ⟨g,0,none⟩ cs.size,x∈f
 | [],_,_,_,_,h=>by cases h
 | (m,e) :: a,f,h,n,d,c=>by
  obtain ⟨g,t,cs,fuel,p,q,h1,h2,h3,k,l,rfl⟩:=h;rcases aN.1 c with c|c
  .cases c;exact ⟨g,t,cs,fuel,p,h1,h2,h3,k,fun x i=>by simp [i]⟩
  .obtain ⟨o,r,j,b,s,k1,k2,u,k4,v⟩:=Pd l c;exact ⟨o,r,j,b,s,k1,k2,u,k4,fun x i=>by simp [v x i]⟩
theorem Pe {P:Program} {w:World} {t e:Nat} {k:IntKind} {d f:Field} (o:P.underlying t=some (.struct #[d,f])) (q:d.type=e) (r:f.type=e) (s:d.offset=0) (u:f.offset=1) (g:P.underlying e=some (.int k)) (c1:P.cellsOf e=1) (c2:P.cellsOf t=2) {x y:Int} {fuel:Nat} {cs:List Value} {p:List MemPlace}
  (h:DataW.trod (fun _=>()) P w 0 (fun _=>true) false fuel t cs=some (.agg [.lit (.int k x),.lit (.int k y)],p)):cs=[.int k x,.int k y]:=by
 obtain ⟨D,E,n,v,i,j,h1⟩:=ChangeShapes.trod_struct2 o h;rw [c2] at i;rw [q,s,c1] at j;rw [r,u,c1] at h1;obtain ⟨F,l,z,_⟩:=DataW.trod_int g j;obtain ⟨H,m,A,_⟩:=DataW.trod_int g h1;obtain ⟨c,_⟩:=Prod.mk.inj v;injection c with c
 rw [z,A] at c
 match cs,i with
 | [a,b],_=>
  simp only [iA,List.take_succ_cons,uS,lV,List.drop_succ_cons,and_true] at l m;simp only [lV,DataW.lit.injEq,Lit.int.injEq,true_and,and_true] at c;rw [l,m,c.1,c.2]
theorem xh {P:Program} {w:World} {t:Nat} {a:Array Field} (b:P.underlying t=some (.struct a)) {d:DataW Unit} (fuel:Nat) (cs:List Value) (p:List MemPlace) (h:DataW.trod (fun _=>()) P w 0 (fun _=>true) false fuel t cs=some (d,p)):cs.length=P.cellsOf t:=by obtain ⟨_,_,_,_,c,_⟩:=DataW.trod_struct b h;exact c
def pY:List (Nat×IntKind×List Int)->List ABlk
 | []=>[]
 | (_,k,a) :: l=>⟨0,.cells (a.map fun n=>.int false k n)⟩ :: pY l
def Ky (l:List (Nat×IntKind×List Int)):Sg:=fun i=>match l[l.length - 1 - i]? with
 | some (g,_,a)=>if i<l.length then some (g,a.length) else none
 | none=>none
theorem Kz {σ:Sg} {k:IntKind}:∀ a:List Int,VRels σ (a.map fun n=>.int false k n) (a.map (Value.int k))
 | []=>rfl
 | n :: a=>⟨_,_,rfl,rfl,Kz a⟩
theorem ad1 {W:World} {l:List (Nat×IntKind×List Int)} (hd:(l.map (·.1)).Nodup) (h:∀ x∈l,∃ cs e,W.heap[x.1]?=some (.cells cs e (0,0))/\cs.toList=x.2.2.map (Value.int x.2.1)):HRel (Ky l) ⟨pY l,l.length,1⟩ W:=by
 have blk:∀ (m:List (Nat×IntKind×List Int)) (j:Nat),(pY m)[j]?=(m[j]?).map fun x=>⟨0,.cells (x.2.2.map fun n=>.int false x.2.1 n)⟩:=by
  intro m
  induction m with
  | nil=>intro j;rfl
  | cons x m d=>intro j;cases j with
   | zero=>rfl
   | succ j=>simpa [pY] using d j
 have len:∀ m:List (Nat×IntKind×List Int),(pY m).length=m.length:=by
  intro m
  induction m with
  | nil=>rfl
  | cons x m d=>simp [pY,d]
 have get:∀ i b,(⟨pY l,l.length,1⟩:Hp).get i=some b->i<l.length/\∃ x,l[l.length - 1 - i]?=some x/\b=⟨0,.cells (x.2.2.map fun n=>.int false x.2.1 n)⟩:=by
  intro i b hb;have hi:=Hp.get_lt hb;rw [Hp.get_eq,aC hi] at hb;simp only at hb hi;rw [blk] at hb
  cases a:l[l.length - 1 - i]? with
  | none=>rw [a] at hb;cases hb
  | some x=>rw [a] at hb;cases hb;exact ⟨hi,x,rfl,rfl⟩
 have sg:∀ i x,i<l.length->l[l.length - 1 - i]?=some x->Ky l i=some (x.1,x.2.2.length):=by intro i x hi a;unfold Ky;rw [a];simp [hi]
 refine ⟨len l,fun i b hb t=>?_,fun i B N e=>?_,fun i j b c B N M hb u _ _ f o=>?_⟩
 .obtain ⟨hi,x,a,rfl⟩:=get i b hb;obtain ⟨cs,e,h1,h2⟩:=h x (jg a);exact ⟨x.1,x.2.2.length,_,sg i x hi a,h1,cs,e,rfl,by rw [h2];exact Kz _,by rw [<- Dt,h2,iO]⟩
 .unfold Ky at e;split at e
  .rename_i x g k w a;split at e
   .rename_i hi;cases e;obtain ⟨cs,z,h1,_⟩:=h _ (jg a);exact ⟨hi,(jd.1 h1).1⟩
   .cases e
  .cases e
 .obtain ⟨hi,x,a,_⟩:=get i b hb;obtain ⟨v,y,s,_⟩:=get j c u;rw [sg i x hi a] at f;rw [sg j y v s] at o;left;have p:x.1=y.1:=by
   simp only [bi,eH] at f o;rw [f.1,o.1]
  have q:(l.map (·.1))[l.length - 1 - i]?=some x.1:=by rw [rG,a];rfl
  have r:(l.map (·.1))[l.length - 1 - j]?=some x.1:=by rw [rG,s,p];rfl
  have:=(List.getElem?_inj (by simp;omega) hd).1 (q.trans r.symm);omega
mutual
def Sh.leaves:Sh->List Sh
 | .a l=>Sh.leavesL l
 | .i k=>[.i k]
 | .b=>[.b]
 | .c v=>[.c v]
 | .str=>[.str]
 | .one=>[.one]
def Sh.leavesL:List Sh->List Sh
 | []=>[]
 | h :: l=>h.leaves++Sh.leavesL l
end
theorem lK:∀ {l m:List Sh} {xs ys:List Nu},dz l xs->dz m ys->dz (l++m) (xs++ys)
 | [],_,[],_,_,h=>h
 | [],_,_ :: _,_,h,_=>by simp [dz] at h
 | .i k :: l,m,.n x :: xs,ys,h,d=>⟨h.1,lK (l:=l) h.2 d⟩
 | .b :: l,m,.t x :: xs,ys,h,d=>lK (l:=l) (show dz l xs from h) d
 | .str :: l,m,.s x :: xs,ys,h,d=>lK (l:=l) (show dz l xs from h) d
 | .c v :: l,m,xs,ys,h,d=>by
  have h1:dz l xs:=by cases xs <;> simpa [dz] using h
  have:=lK h1 d;show dz (.c v :: (l++m)) (xs++ys);cases f:xs++ys <;> rw [f] at this <;> simpa [dz] using this
 | .i _ :: _,_,[],_,h,_=>by simp [dz] at h
 | .i _ :: _,_,.t _ :: _,_,h,_=>by simp [dz] at h
 | .b :: _,_,[],_,h,_=>by simp [dz] at h
 | .str :: _,_,[],_,h,_=>by simp [dz] at h
 | .str :: _,_,.n _ :: _,_,h,_=>by simp [dz] at h
 | .str :: _,_,.t _ :: _,_,h,_=>by simp [dz] at h
 | .b :: _,_,.s _ :: _,_,h,_=>by simp [dz] at h
 | .i _ :: _,_,.s _ :: _,_,h,_=>by simp [dz] at h
 | .one :: _,_,[],_,h,_=>by simp [dz] at h
 | .one :: _,_,_ :: _,_,h,_=>by simp [dz] at h
 | .b :: _,_,.n _ :: _,_,h,_=>by simp [dz] at h
 | .a _ :: _,_,[],_,h,_=>by simp [dz] at h
 | .a _ :: _,_,_ :: _,_,h,_=>by simp [dz] at h
theorem IG {P:Program}:∀ ts:List TypeId,Sh.leavesL (Sh.ofL P ts)=Sh.ofL P ts
 | []=>rfl
 | t :: ts=>by
  simp only [Sh.ofL,Sh.leavesL,IG ts];unfold Sh.of;split <;> rfl
def Rz (P:Program) (t:TypeId):Option Sh:=
 match P.underlying t with
 | some (.int k)=>some (.i k)
 | some .bool=>some .b
 | some (.struct _)=>match P.cellTypes P.depth t with
  | some c=>match Nat.beq (P.cellsOf t) c.length&&Nat.blt 0 c.length with
   | true=>some (.a (Sh.ofL P c))
   | false=>none
  | none=>none
 | some (.array _ _)=>match P.cellTypes P.depth t with
  | some c=>match Nat.beq (P.cellsOf t) c.length&&Nat.blt 0 c.length with
   | true=>some (.a (Sh.ofL P c))
   | false=>none
  | none=>none
 | _=>none
def shapesT (P:Program):List TypeId->Option (List Sh)
 | []=>some []
 | t :: a=>match Rz P t with
  | none=>none
  | some s=>match shapesT P a with
   | none=>none
   | some l=>some (s :: l)
theorem ad2 {P:Program} {W:World} {base:Nat} {σ:Sg} {t:TypeId} {v:Value} {s:Sh} (g:Rz P t=some s) (h:Value.okWide P W .any base t v):
  ∃ xs,xs.map Nu.isN=s.kinds/\dz s.leaves xs/\∀ ys,(Sh.mk s (xs++ys)).2=ys/\VRel σ (Sh.mk s (xs++ys)).1 v:=by
 have agg:∀ d,fB P t=some true->P.cellTypes P.depth t=some d->(Nat.beq (P.cellsOf t) d.length&&Nat.blt 0 d.length)=true->∃ xs,xs.map Nu.isN=(Sh.a (Sh.ofL P d)).kinds/\dz (Sh.a (Sh.ofL P d)).leaves xs/\∀ ys,(Sh.mk (.a (Sh.ofL P d)) (xs++ys)).2=ys/\VRel σ (Sh.mk (.a (Sh.ofL P d)) (xs++ys)).1 v:=by
  intro d l j c;simp only [aF] at c;have p:=aP c.1;have q:∃ cs,v=.agg cs/\cs.size=P.cellsOf t/\Row.okWide P W .any base t cs:=by
   unfold Value.okWide at h;unfold fB at l;split at h
   .exact h
   .exact h
   .rename_i h1 h2;split at l
    .cases l
    .rename_i x f;exact absurd f (h1 x)
    .rename_i n e f;exact absurd f (h2 n e)
    .cases l
  obtain ⟨cs,rfl,r,y,o,_,m⟩:=q;rw [j] at o;cases o;obtain ⟨xs,h1,h2,h3⟩:=Kw (P:=P) (W:=W) (base:=base) (σ:=σ) (ts:=d) (cs:=cs.toList) (by simp [r,p]) fun i v w=>by
   rw [ic] at w;obtain ⟨u,f,z⟩:=m i v w;have hi:i<d.length:=by have:=(jd.1 w).1;omega
   rw [DI hi] at f;exact ⟨u,f,z⟩
  refine ⟨xs,h1,by show dz (Sh.leavesL (Sh.ofL P d)) xs;rw [IG];exact h2,fun ys=>?_⟩;obtain ⟨a1,a2⟩:=h3 ys;have e:Sh.mk (.a (Sh.ofL P d)) (xs++ys)=(.agg (Sh.mkL (Sh.ofL P d) (xs++ys)).1,(Sh.mkL (Sh.ofL P d) (xs++ys)).2):=rfl;rw [e];exact ⟨a1,cs,rfl,a2⟩
 unfold Rz at g;split at g
 .rename_i k f;cases g;have c:Cell.okWide P W .any base t v:=by
   unfold Value.okWide at h;rw [f] at h;exact h
  unfold Cell.okWide at c;rw [f] at c;unfold Cell.ok at c;simp only at c;rw [f] at c;cases v <;> simp only at c <;> first|exact c.elim|skip
  rename_i A n;obtain ⟨rfl,hn⟩:=c;exact ⟨[.n n],rfl,⟨hn,trivial⟩,fun ys=>⟨rfl,rfl⟩⟩
 .rename_i f;cases g;have c:Cell.okWide P W .any base t v:=by
   unfold Value.okWide at h;rw [f] at h;exact h
  unfold Cell.okWide at c;rw [f] at c;unfold Cell.ok at c;simp only at c;rw [f] at c;cases v <;> simp only at c <;> first|exact c.elim|skip
  rename_i b;exact ⟨[.t b],rfl,trivial,fun ys=>⟨rfl,rfl⟩⟩
 .rename_i x f;split at g
  .rename_i d j;split at g
   .rename_i c;cases g;exact agg d (by unfold fB;rw [f]) j c
   .cases g
  .cases g
 .rename_i n e f;split at g
  .rename_i d j;split at g
   .rename_i c;cases g;exact agg d (by unfold fB;rw [f]) j c
   .cases g
  .cases g
 .cases g
theorem Pf {P:Program} {W:World} {base:Nat} {σ:Sg}:∀ {ts:List TypeId} {shs:List Sh} {vs:List Value},shapesT P ts=some shs->vs.length=ts.length->(∀ (j:Nat) t v,ts[j]?=some t->vs[j]?=some v->Value.okWide P W .any base t v) ->
  ∃ xs,xs.map Nu.isN=Sh.kindsL shs/\dz (Sh.leavesL shs) xs/\∀ ys,(Sh.mkL shs (xs++ys)).2=ys/\VRels σ (Sh.mkL shs (xs++ys)).1 vs
 | [],shs,vs,a,b,_=>by
  cases a;have:vs=[]:=by simpa using b
  subst this;exact ⟨[],rfl,trivial,fun ys=>⟨rfl,rfl⟩⟩
 | t :: ts,shs,[],_,b,_=>by simp at b
 | t :: ts,shs,v :: vs,a,b,h=>by
  simp only [shapesT] at a;split at a
  .cases a
  .rename_i s h1;split at a
   .cases a
   .rename_i l h2;cases a;obtain ⟨x,a1,a2,c⟩:=ad2 (σ:=σ) h1 (h 0 t v rfl rfl);obtain ⟨xs,d,f,g⟩:=Pf (σ:=σ) (ts:=ts) (vs:=vs) h2 (by simpa using b) fun j i k k1 k2=>h (j+1) i k (by simpa using k1) (by simpa using k2);refine ⟨x++xs,by simp [Sh.kindsL,a1,d],lK a2 f,fun ys=>?_⟩;obtain ⟨c1,c2⟩:=c (xs++ys);obtain ⟨m,n⟩:=g ys;have e:x++xs++ys=x++(xs++ys):=rF ..;simp only [Sh.mkL,e];rw [show Sh.mk s (x++(xs++ys))=((Sh.mk s (x++(xs++ys))).1,xs++ys) from r9 rfl c1];exact ⟨m,v,vs,rfl,c2,n⟩
def Uj (P:Program) (glob:Nat->Option Nat) (hG:Hp) (f:FuncId) (args:List AV):Prop:=
 ∃ (C:Ctx) (n:Nat) (nd:Nd) (s p:Bool),CtxOk C/\C.P=P/\C.glob=glob/\Pb hG.size hG.clock ((run C n).call f args hG)=some (nd,.bool s p)/\nd.val/\p=true
theorem law_walk {P:Program} {glob:Nat->Option Nat} {hG:Hp} (old:allOld hG.clock hG.blks=true) {f:FuncId} {ts:List TypeId} {shs:List Sh} (b:shapesT P ts=some shs)
  (c:∀ xs,xs.map Nu.isN=Sh.kindsL shs->dz (Sh.leavesL shs) xs->Uj P glob hG f (Sh.mkL shs xs).1) {W:World} {base:Nat} {σ:Sg} {A:Array Value} (g:∀ gl i,glob gl=some i->∃ N,σ i=some (gl,N)) (r:HRel σ hG W) (d:A.toList.length=ts.length)
  (h:∀ (j:Nat) t v,ts[j]?=some t->A.toList[j]?=some v->Value.okWide P W .any base t v):
  Calls P f A W fun e w'=>e=.returned (.bool true)/\RowKit.Grown W w'/\∀ B,B<W.heap.size->w'.heap[B]?=W.heap[B]?:=by
 obtain ⟨xs,h1,h2,h3⟩:=Pf (σ:=σ) b d h;obtain ⟨_,a⟩:=h3 [];rw [kT] at a;obtain ⟨C,n,nd,s,p,k,rfl,rfl,l,m,o⟩:=c xs h1 h2;exact V7 k old l m o g r a
theorem same_at {W a:World} (h:∀ B,B<W.heap.size->a.heap[B]?=W.heap[B]?) {p:MemPlace} (hp:p.block<W.heap.size):W.sameAt a p:=by
 cases p with
 | cell b off=>
  show a.cell? _=W.cell? _;unfold World.cell?;rw [h b hp]
 | map b=>exact h b hp
theorem trodAll_stays {H:Type} {enc:TypeId×Value->H} {P:Program} {base:Nat} (j:laidOutB P=true):∀ {ts:List TypeId} {vs:List Value} {ds:List (DataW H)} {f:List MemPlace} {W i:World} {sp:Nat->Bool},(ts.all fun t=>P.readableRec t&&decide (t<P.types.size))=true ->
  DataW.TrodAll enc P W base (fun _=>true) true ts vs ds f->(∀ p∈f,W.sameAt i p)->(∀ p∈f,sp p.block=true)->DataW.TrodAll enc P i base sp true ts vs ds f
 | [],[],[],_,_,_,_,_,h,_,_=>h
 | [],_ :: _,_,_,_,_,_,_,h,_,_=>by simp [DataW.TrodAll] at h
 | [],[],_ :: _,_,_,_,_,_,h,_,_=>by simp [DataW.TrodAll] at h
 | _ :: _,[],_,_,_,_,_,_,h,_,_=>by simp [DataW.TrodAll] at h
 | _ :: _,_ :: _,[],_,_,_,_,_,h,_,_=>by simp [DataW.TrodAll] at h
 | t :: ts,v :: vs,d :: ds,f,W,i,sp,g,h,h1,h2=>by
  obtain ⟨p,k,a,b,rfl⟩:=h;simp only [List.all_cons,aF,aT] at g;exact ⟨p,k,Go.WideElems.Trod_stays j g.1.1 g.1.2 a (fun x c=>h1 x (by simp [c])) (fun x c=>h2 x (by simp [c])),trodAll_stays j g.2 b (fun x c=>h1 x (by simp [c])) (fun x c=>h2 x (by simp [c])),rfl⟩
theorem trod_lens {H:Type} {enc:TypeId×Value->H} {P:Program} {W:World} {base:Nat} {sp:Nat->Bool} {hd:Bool}:∀ {ts:List TypeId} {vs:List Value} {ds:List (DataW H)} {c:List MemPlace},DataW.TrodAll enc P W base sp hd ts vs ds c->vs.length=ts.length/\ds.length=ts.length
 | [],[],[],_,_=>⟨rfl,rfl⟩
 | [],_ :: _,_,_,h=>by simp [DataW.TrodAll] at h
 | [],[],_ :: _,_,h=>by simp [DataW.TrodAll] at h
 | _ :: _,[],_,_,h=>by simp [DataW.TrodAll] at h
 | _ :: _,_ :: _,[],_,h=>by simp [DataW.TrodAll] at h
 | t :: ts,v :: vs,d :: ds,c,h=>by
  obtain ⟨p,f,a,b,rfl⟩:=h;obtain ⟨h1,h2⟩:=trod_lens b;simp [h1,h2]
end Go.Eng
namespace Go.Eng
open Go
def Hp.push0 (h:Hp) (b:ABody):Hp:=⟨⟨0,b⟩ :: h.blks,h.size+1,h.clock⟩
theorem Hp.get_push0 {h:Hp} (b:ABody) (j:Nat):(h.push0 b).get j=if j=h.size then some ⟨0,b⟩ else h.get j:=by
 rw [Hp.get_eq,Hp.get_eq];simp only [Hp.push0];by_cases e:j=h.size
 .subst e;simp
 .by_cases E:j<h.size
  .have:j<h.size+1:=by omega
   simp only [this,bn,e,bz,E];rw [show h.size+1 - 1 - j=(h.size - 1 - j)+1 by omega];simp
  .have:¬ j<h.size+1:=by omega
   simp [this,e,E]
structure Bytes (W:World) (v:Value) (n:Int) (zs:List Int):Prop where
 val:∃ p c,v=.slice p zs.length c/\zs.length<=c/\(zs≠[]->∃ B N,p=some ⟨B,N,none⟩/\∀ i,i<zs.length->W.cell? ⟨B,N+i,none⟩=some (.int .u8 (zs.getD i 0)))
 len:n=zs.length
 rng:∀ z∈zs,0<=z/\z<=255
end Go.Eng
namespace Go.Eng
open Go
noncomputable section
abbrev Pg:=List AV->Hp->Option (Nd×AV)
structure HOk (P:Program) (glob:Nat->Option Nat) (hG:Hp) (f:FuncId) (spec:Pg):Prop where
 call:∀ args nd v h,spec args h=some (nd,v)->gz hG h hG.size=true->CallOk (mkM P glob hG [] lw) f args h ⟨nd,[⟨.tt,v,h⟩]⟩
 fn:∃ fn:Func,P.funcs[f]?=some fn/\fn.body.isSome=true
def gH (s:eT):Pg:=fun args _=>s args
theorem GOk.h {P:Program} {glob:Nat->Option Nat} {hG:Hp} {f:FuncId} {s:eT} (g:GOk P glob hG f s):HOk P glob hG f (gH s):=
 ⟨fun args nd v h e same=>g.call args nd v e h same,g.fn⟩
def EI:List AV->Option (List AV×AV)
 | []=>none
 | [a]=>some ([],a)
 | a :: l=>match EI l with
  | none=>none
  | some (i,z)=>some (a :: i,z)
theorem KA:∀ {l i:List AV} {z:AV},EI l=some (i,z)->l=i++[z]
 | [],_,_,e=>by cases e
 | [a],i,z,e=>by simp only [EI,bi,eH] at e;rw [<- e.1,<- e.2];rfl
 | a :: b :: l,i,z,e=>by
  simp only [EI] at e;split at e
  .cases e
  .rename_i c d h;cases e;rw [KA h];rfl
theorem II {σ:Sg}:∀ {l m:List AV} {L:List Value},VRels σ (l++m) L->∃ A B,L=A++B/\VRels σ l A/\VRels σ m B
 | [],m,L,h=>⟨[],L,rfl,rfl,h⟩
 | a :: l,m,L,h=>by
  obtain ⟨v,c,rfl,h1,h2⟩:=h;obtain ⟨A,B,rfl,h3,b⟩:=II h2;exact ⟨v :: A,B,rfl,⟨v,A,rfl,h1,h3⟩,b⟩
theorem CallOk.tell {C:Ctx} {f:FuncId} {args:List AV} {h:Hp} {nd:Nd} {v E:AV} (c:CallOk C f args h ⟨nd,[⟨.tt,v,h⟩]⟩) (O:∀ σ V,VRel σ v V->VRel σ E V):CallOk C f args h ⟨nd,[⟨.tt,E,h⟩]⟩:=by
 intro σ A W g r Q hn cs;obtain ⟨x,J,τ,V,X,fr,Y,q3⟩:=c σ A W g r Q hn cs;have:x=⟨.tt,v,h⟩:=by unfold l9 at J;simp [G.val] at J;exact J.symm
 subst this;exact ⟨⟨.tt,E,h⟩,rfl,τ,V,X,fr,O τ V Y,q3⟩
abbrev KC:=List AV->Hp->Option (Nd×Bool×AV×AV)
structure TOk (P:Program) (glob:Nat->Option Nat) (hG:Hp) (f:FuncId) (spec:KC):Prop where
 call:∀ args nd p v w h,spec args h=some (nd,p,v,w)->gz hG h hG.size=true->CallOk (mkM P glob hG [] lw) f args h ⟨nd,[⟨.b p,v,h⟩,⟨.b !p,w,h⟩]⟩
 fn:∃ fn:Func,P.funcs[f]?=some fn/\fn.body.isSome=true
def YF (hG:Hp):List (FuncId×KC)->FuncId->List AV->Hp->Option (Nd×Bool×AV×AV)
 | [],_,_,_=>none
 | (g,s) :: l,f,args,h=>match Nat.beq f g with
  | true=>match s args h with
   | some x=>match gz hG h hG.size with
    | true=>some x
    | false=>none
   | none=>YF hG l f args h
  | false=>YF hG l f args h
theorem EJ {hG:Hp}:∀ {l:List (FuncId×KC)} {f:FuncId} {args:List AV} {h:Hp} {x:Nd×Bool×AV×AV},YF hG l f args h=some x->gz hG h hG.size=true/\∃ s,(f,s)∈l/\s args h=some x
 | [],_,_,_,_,e=>by cases e
 | (g,s) :: l,f,args,h,x,e=>by
  simp only [YF] at e;split at e
  .rename_i hb;have:=aP hb;subst this;split at e
   .rename_i b;split at e
    .rename_i c;cases e;exact ⟨c,s,by simp,b⟩
    .cases e
   .obtain ⟨h2,s',h3,a⟩:=EJ e;exact ⟨h2,s',by simp [h3],a⟩
  .obtain ⟨h2,s',h3,a⟩:=EJ e;exact ⟨h2,s',by simp [h3],a⟩
theorem two_of {P:Program} {glob:Nat->Option Nat} {hG:Hp} {f:FuncId} {s:Pg} {t:KC} (g:HOk P glob hG f s)
  (h:∀ args hp nd p v w,t args hp=some (nd,p,v,w)->∃ nd0 v0,s args hp=some (nd0,v0)/\(nd.val->nd0.val/\(p=true->∀ σ V,VRel σ v0 V->VRel σ v V)/\(p=false->∀ σ V,VRel σ v0 V->VRel σ w V))):TOk P glob hG f t:=by
 refine ⟨fun args nd p v w hp e same=>?_,g.fn⟩;obtain ⟨nd0,v0,h1,h2⟩:=h args hp nd p v w e;intro σ A W i r j hn cs;obtain ⟨k0,k1,k2⟩:=h2 hn;obtain ⟨x,a,τ,V,X,fr,c,d⟩:=g.call args nd0 v0 hp h1 same σ A W i r j k0 cs;have:x=⟨.tt,v0,hp⟩:=by unfold l9 at a;simp [G.val] at a;exact a.symm
 subst this
 cases p with
 | true=>exact ⟨⟨.b true,v,hp⟩,rfl,τ,V,X,fr,k1 rfl τ V c,d⟩
 | false=>exact ⟨⟨.b (!false),w,hp⟩,rfl,τ,V,X,fr,k2 rfl τ V c,d⟩
theorem YG {v:AV} {k:Hp} {e:CEnt} (h:l9 [⟨.tt,v,k⟩] e):e=⟨.tt,v,k⟩:=by unfold l9 at h;simp [G.val] at h;exact h.symm
def KD (lo:Nat) (k:Hp) (v0:AV) (a:Nat) (v:AV) (bs:List ABody):Prop:=
 ∀ (σ:Sg) (h:Hp) (W:World) (τ:Sg) (X:World) (V:Value),h.size=a->HRel σ h W->HRel τ k X->VRel τ v0 V->(∀ i B N,τ i=some (B,N)->lo<=i->W.heap.size<=B)->Quiet W X ->
  ∃ υ,HRel υ (iF h bs) X/\Good σ h W υ (iF h bs) X/\VRel υ v V
theorem Ph {P:Program} {glob:Nat->Option Nat} {hG:Hp} {f:FuncId} {args:List AV} {h:Hp} {nd:Nd} {v:AV} {bs:List ABody}
  (key:∀ (σ:Sg) (A:Array Value) (W:World),GRel (mkM P glob hG [] lw) σ->HRel σ h W->VRels σ args A.toList->nd.val ->
   ∃ (C:Ctx) (n:Nat) (a:Hp) (as:List AV) (ρ:Sg) (nd0:Nd) (v0:AV) (k:Hp),CtxOk C/\C.P=P/\C.glob=glob/\HRel ρ a W/\GRel C ρ/\VRels ρ as A.toList/\(run C n).call f as a=some ⟨nd0,[⟨.tt,v0,k⟩]⟩/\v0.isPanic=false/\nd0.val/\allOld a.clock (fo (k.size - a.size) k.blks)=true /\
    KD a.size k v0 h.size v bs):
  CallOk (mkM P glob hG [] lw) f args h ⟨nd,[⟨.tt,v,iF h bs⟩]⟩:=by
 intro σ A W g r t hn cs;obtain ⟨C,n,a,as,ρ,nd0,v0,k,u,rfl,w,r0,y,m,b,o,p,h2,tell⟩:=key σ A W g r t hn;obtain ⟨q,z⟩:=(dw u n).call f as a _ b;replace q:=q.ok (Cs o);obtain ⟨x,k1,τ,V,X,fr,k2,D,k4,E,k6⟩:=q ρ A W y r0 m p cs;obtain rfl:=YG k1;have quiet:∀ i B N c,ρ i=some (B,N)->k.get i=some c->c.wr<a.clock:=by
  intro i B N c e d;have hi:=(r0.dom i B N e).1;have s:=Hp.get_lt d;rw [Hp.get_eq,aC s] at d;refine Bh h2 c ?_;rw [nU];have:(k.blks.drop (k.size - a.size))[a.size - 1 - i]?=some c:=by
   rw [ig,<- d]
   congr 1
   have Q:a.size<=k.size:=k4.mon.size;omega
  exact jg this
 have hq:Quiet W X:=⟨k4.ext,fun B l=>k4.keep B l (fun h=>h) fun i N c e d=>quiet i B N c e d⟩;obtain ⟨υ,F,H,I⟩:=tell σ h W τ X V rfl r D k2 (fun i B N e hi=>by
  rcases aX B W.heap.size with l|l
  .rcases k4.old i B N e hi l with J|⟨j,M,c,Y,K,L,O⟩
   .exact absurd J id
   .exact absurd (quiet j B M c K L) (eP.2 O)
  .exact l) hq
 exact ⟨⟨.tt,v,iF h bs⟩,rfl,υ,V,X,fr,I,F,H,E,k6⟩
theorem V8 {lo a:Nat} {k:Hp} {v0 v:AV} (b:∀ (τ σ:Sg) V,VRel τ v0 V->VRel σ v V):KD lo k v0 a v []:=by intro σ h W τ X V _ r _ k2 _ hq;obtain ⟨r1,c⟩:=r.quiet hq;exact ⟨σ,r1,c,b τ σ V k2⟩
def YH (ik:IntKind):List AV->Option (List Int)
 | []=>some []
 | .int _ k x :: l=>match decide (k=ik) with
  | true=>match YH ik l with
   | some xs=>some (x :: xs)
   | none=>none
  | false=>none
 | _ :: _=>none
def an3 (lo:Nat):AV->Bool
 | .nilslice=>true
 | .slice i _ l c=>Nat.ble lo i&&Nat.ble l c
 | .gslice i _ _ _=>Nat.ble lo i
 | _=>false
abbrev ku:=List AV->Hp->Option (Nd×AV×List ABody)
structure NOk (P:Program) (glob:Nat->Option Nat) (hG:Hp) (f:FuncId) (spec:ku):Prop where
 call:∀ args nd v bs h,spec args h=some (nd,v,bs)->gz hG h hG.size=true->CallOk (mkM P glob hG [] lw) f args h ⟨nd,[⟨.tt,v,iF h bs⟩]⟩
 fn:∃ fn:Func,P.funcs[f]?=some fn/\fn.body.isSome=true
def hN (s:Pg):ku:=fun args h=>match s args h with
 | some (nd,v)=>some (nd,v,[])
 | none=>none
theorem HOk.n {P:Program} {glob:Nat->Option Nat} {hG:Hp} {f:FuncId} {s:Pg} (g:HOk P glob hG f s):NOk P glob hG f (hN s):=by
 refine ⟨fun args nd v bs h e same=>?_,g.fn⟩;unfold hN at e;split at e
 .rename_i E J h1;cases e;exact g.call args nd v h h1 same
 .cases e
noncomputable def ah5 {α:Type} (l:List α) (n:Nat):List α:=
 List.rec (motive:=fun _=>Nat->List α) (fun _=>[]) (fun a l b n=>Nat.rec (motive:=fun _=>List α) (a :: l) (fun m _=>b m) n) l n
theorem Pi {α:Type}:∀ (l:List α) (n:Nat),ah5 l n=l.drop n
 | [],n=>by cases n <;> rfl
 | a :: l,0=>rfl
 | a :: l,n+1=>(Pi l n).trans rfl
def Mm:Nat->List ABlk->List ABlk->Bool
 | 0,_,_=>true
 | n+1,a :: l,b :: m=>ym a.body b.body&&Mm n l m
 | _,_,_=>false
theorem IJ:∀ {n:Nat} {l m:List ABlk},Mm n l m=true->∀ j,j<n->∃ b c,l[j]?=some b/\m[j]?=some c/\ym b.body c.body=true
 | 0,_,_,_,j,d=>absurd d (rM j)
 | n+1,[],_,e,_,_=>by cases e
 | n+1,_ :: _,[],e,_,_=>by cases e
 | n+1,a :: l,b :: m,e,j,d=>by
  simp only [Mm,aF] at e
  cases j with
  | zero=>exact ⟨a,b,rfl,rfl,e.1⟩
  | succ j=>
   obtain ⟨f,c',h1,h2,h3⟩:=IJ e.2 j (by omega);exact ⟨f,c',by simpa using h1,by simpa using h2,h3⟩
def RA (hG h:Hp):Bool:=match Nat.ble hG.size h.size with
 | true=>Mm hG.size (ah5 h.blks (h.size - hG.size)) hG.blks
 | false=>false
theorem Pj {hG h:Hp} (e:RA hG h=true):gz hG h hG.size=true:=by
 unfold RA at e;split at e
 .rename_i hb;have hb:=dI hb;have a:∀ n,n<=hG.size->gz hG h n=true:=by
   intro n
   induction n with
   | zero=>intro _;rfl
   | succ n d=>
    intro hn;obtain ⟨b,c,h1,h2,h3⟩:=IJ e (hG.size - 1 - n) (by omega);rw [Pi,ig] at h1;have f:h.get n=some b:=by
     unfold Hp.get;have:Nat.ble h.size n=false:=by rw [kQ];intro k;have:=dI k;omega
     have g:h.size - 1 - n=h.size - hG.size+(hG.size - 1 - n):=by omega
     rw [this];show nth h.blks (h.size - 1 - n)=some b;rw [iX,g];exact h1
    have i:hG.get n=some c:=by
     unfold Hp.get;have:Nat.ble hG.size n=false:=by rw [kQ];intro k;have:=dI k;omega
     rw [this];show nth hG.blks (hG.size - 1 - n)=some c;rw [iX];exact h2
    simp only [gz,d (by omega),f,i,h3,uU]
  exact a _ (bD _)
 .cases e
def YI (hG:Hp):List (FuncId×ku)->FuncId->List AV->Hp->Option (Nd×AV×List ABody)
 | [],_,_,_=>none
 | (g,s) :: l,f,args,h=>match Nat.beq f g with
  | true=>match s args h with
   | some x=>match RA hG h with
    | true=>some x
    | false=>none
   | none=>YI hG l f args h
  | false=>YI hG l f args h
theorem EK {hG:Hp}:∀ {l:List (FuncId×ku)} {f:FuncId} {args:List AV} {h:Hp} {x:Nd×AV×List ABody},YI hG l f args h=some x->gz hG h hG.size=true/\∃ s,(f,s)∈l/\s args h=some x
 | [],_,_,_,_,e=>by cases e
 | (g,s) :: l,f,args,h,x,e=>by
  simp only [YI] at e;split at e
  .rename_i hb;have:=aP hb;subst this;split at e
   .rename_i b;split at e
    .rename_i c;cases e;exact ⟨Pj c,s,by simp,b⟩
    .cases e
   .obtain ⟨h2,s',h3,a⟩:=EK e;exact ⟨h2,s',by simp [h3],a⟩
  .obtain ⟨h2,s',h3,a⟩:=EK e;exact ⟨h2,s',by simp [h3],a⟩
def mkN (P:Program) (glob:Nat->Option Nat) (hG:Hp) (a:List (FuncId×ku)) (tt:List (FuncId×KC)) (ext:FuncId->List AV->Option (Nd×AV)):Ctx:={ P,glob,con:=YI hG a,ext,loop:=fun _ _ _=>none,two:=YF hG tt }
theorem mf {P:Program} {glob:Nat->Option Nat} {hG:Hp} (hp:ProgOk P) {a:List (FuncId×ku)} {tt:List (FuncId×KC)} {ext:FuncId->List AV->Option (Nd×AV)} (c:O1 P ext) (d:∀ x∈a,NOk P glob hG x.1 x.2) (h2:∀ x∈tt,TOk P glob hG x.1 x.2):CtxOk (mkN P glob hG a tt ext):=by
 refine ⟨hp,fun f args h nd v bs e=>?_,c,fun _ _ _ _ e=>(by cases e),fun f args h nd p v w e=>?_⟩
 .obtain ⟨b,s,h1,h3⟩:=EK e;have g:=d _ h1;exact ⟨g.call args nd v bs h h3 b,g.fn⟩
 .obtain ⟨b,s,h1,h3⟩:=EJ e;have g:=h2 _ h1;exact ⟨g.call args nd p v w h h3 b,g.fn⟩
mutual
def tell:AV->AV->Prop
 | .int _ k x,.int _ c y=>k=c/\x=y
 | .bool _ a,.bool _ b=>a=b
 | .str _ a,.str _ b=>a=b
 | .agg l,.agg m=>FO l m
 | .tuple l,.tuple m=>FO l m
 | .pslice i l _ n,.pslice d f _ g=>i=d/\f<=l/\n=g
 | .any _,_=>False
 | a,b=>a=b
def FO:List AV->List AV->Prop
 | [],[]=>True
 | a :: l,b :: m=>tell a b/\FO l m
 | _,_=>False
end
mutual
theorem Pk {σ:Sg}:∀ (a b:AV) (V:Value),tell a b->VRel σ a V->VRel σ b V
 | .int _ k x,.int _ s y,V,h,r=>by obtain ⟨rfl,rfl⟩:=h;exact r
 | .bool _ a,.bool _ b,V,h,r=>by obtain rfl:=h;exact r
 | .str _ a,.str _ b,V,h,r=>by obtain rfl:=h;exact r
 | .pslice i l _ n,.pslice t u _ v,V,h,r=>by
  obtain ⟨rfl,f,rfl⟩:=h;obtain ⟨p,len,c,g,j,e3,o⟩:=r;exact ⟨p,len,c,g,j,dF f e3,o.imp (fun q=>by omega) id⟩
 | .agg l,.agg m,V,h,r=>by obtain ⟨K,rfl,d⟩:=r;exact ⟨K,rfl,sI l m _ h d⟩
 | .tuple l,.tuple m,V,h,r=>by obtain ⟨K,rfl,d⟩:=r;exact ⟨K,rfl,sI l m _ h d⟩
 | a,b,V,h,r=>by
  unfold tell at h;split at h <;> first
   | (subst h;exact r)
   | exact h.elim
   | (obtain ⟨rfl,rfl⟩:=h;exact r)
   | (
     obtain ⟨rfl,f,rfl⟩:=h;obtain ⟨p,len,c,g,j,e3,o⟩:=r;exact ⟨p,len,c,g,j,dF f e3,o.imp (fun q=>by omega) id⟩)
   | (obtain ⟨K,rfl,d⟩:=r;exact ⟨K,rfl,sI _ _ _ h d⟩)
theorem sI {σ:Sg}:∀ (l m:List AV) (L:List Value),FO l m->VRels σ l L->VRels σ m L
 | [],[],L,_,r=>r
 | a :: l,b :: m,L,h,r=>by
  obtain ⟨v,c,rfl,h1,h2⟩:=r;exact ⟨v,c,rfl,Pk a b v h.1 h1,sI l m c h.2 h2⟩
 | [],_ :: _,_,h,_=>h.elim
 | _ :: _,[],_,h,_=>h.elim
end
theorem Pm {hG:Hp} (ok:hG.ok) (pl:lZ hG.size hG.blks=true) {h:Hp} (same:gz hG h hG.size=true) {σ:Sg} {W:World} (r:HRel σ h W):HRel (σ.low hG.size) hG W:=by
 have k:=pU same;refine ⟨ok,fun i c l hd=>?_,fun i B N e=>?_,fun i j b c B N M hb a hd m q s=>?_⟩
 .have hi:=Hp.get_lt l;obtain ⟨b,c',hb,a,d⟩:=k i hi;rw [l] at a;cases a;obtain ⟨B,N,o,n,g,f⟩:=r.blk i b hb (by rw [d];exact hd);refine ⟨B,N,o,by simp [Sg.low,hi,n],g,?_⟩;rw [d] at f;exact f.low (Az pl c (adT l))
 .unfold Sg.low at e;split at e
  .rename_i hi;exact ⟨hi,(r.dom i B N e).2⟩
  .cases e
 .have hi:=Hp.get_lt hb;have t:=Hp.get_lt a;obtain ⟨u,w,v,p2,p⟩:=k i hi;obtain ⟨c1,c2,n,g,f⟩:=k j t;rw [hb] at p2;cases p2;rw [a] at g;cases g;have:=r.inj i j u c1 B N M v n (by rw [p];exact hd) (by rw [f];exact m) (Sg.low_sub σ _ _ _ q) (Sg.low_sub σ _ _ _ s);rw [p,f] at this;exact this
def an4 (ik:IntKind):List Int->ABody
 | []=>.dead
 | x :: l=>.view ((x :: l).map fun n=>.int true ik n)
def KE (raw:Bool) (ik:IntKind) (xs:List Int):ABody:=
 match raw with
 | true=>.rows ik xs
 | false=>an4 ik xs
def iZ (raw:Bool) (h:Hp):List (IntKind×List Int)->Hp
 | []=>h
 | (ik,xs) :: l=>iZ raw (h.push0 (KE raw ik xs)) l
theorem wQ {raw:Bool}:∀ (l:List (IntKind×List Int)) (h:Hp),(iZ raw h l).clock=h.clock
 | [],_=>rfl
 | (_,_) :: l,h=>wQ l (h.push0 _)
theorem KF {raw:Bool} {ik:IntKind}:(KE raw ik []).isDead=true:=by cases raw <;> rfl
theorem IK {raw:Bool} {ik:IntKind} {y:Int} {ys:List Int}:(KE raw ik (y :: ys)).isView=true:=by cases raw <;> rfl
def Apart (ρ:Sg) (h:Hp) (B:Nat):Prop:=∀ i b M,h.get i=some b->b.body.isDead=false->ρ i=some (B,M)->b.body.isView=true
theorem V9 {τ:Sg} {N:Nat} {ik:IntKind} {xs:List Int} {o:Obj} (h:BRel τ N (.rows ik xs) o):BRel τ N (.view (xs.map fun n=>.int true ik n)) o:=by
 obtain ⟨K,e,fr,rfl,h1⟩:=h;refine ⟨K,e,fr,rfl,?_⟩;rw [iO,h1];have b:∀ l:List Int,VRels τ (l.map fun n=>.int true ik n) (l.map (Value.int ik)):=by
  intro l
  induction l with
  | nil=>exact rfl
  | cons a l c=>exact ⟨_,_,rfl,rfl,c⟩
 exact b xs
theorem gT {ρ:Sg} {n:Nat} {x:Nat×Nat} {i:Nat} {y:Nat×Nat} (e:(ρ.add n x) i=some y):(i=n/\y=x)\/(i≠n/\ρ i=some y):=by
 unfold Sg.add at e;split at e
 .rename_i hi;cases e;exact .inl ⟨hi,rfl⟩
 .rename_i hi;exact .inr ⟨hi,e⟩
theorem YJ {ρ:Sg} {h:Hp} {W:World} (r:HRel ρ h W) {B N:Nat} {b:ABody} {o:Obj} (q:b.isView=true) (n:W.heap[B]?=some o) (hb:BRel (ρ.add h.size (B,N)) N b o) (s:Apart ρ h B):
  HRel (ρ.add h.size (B,N)) (h.push0 b) W:=by
 have t:=Sub.add (x:=(B,N)) r.fresh;have w:B<W.heap.size:=by
  rcases aX B W.heap.size with h1|h1
  .exact h1
  .rw [oG h1] at n;cases n
 refine ⟨by have:=r.ok;simp only [Hp.ok,Hp.push0,il] at this ⊢;omega,fun i c f hd=>?_,fun i k M e=>?_,fun i j c d k M u f a hd l y z=>?_⟩
 .rw [Hp.get_push0] at f;split at f
  .rename_i hi;subst hi;cases f;exact ⟨B,N,o,fF,n,hb⟩
  .obtain ⟨k,M,p,h1,h2,h3⟩:=r.blk i c f hd;exact ⟨k,M,p,t _ _ h1,h2,h3.mono t⟩
 .rcases gT e with ⟨rfl,g⟩|⟨hi,g⟩
  .cases g;exact ⟨rH _,w⟩
  .have:=r.dom i k M g;exact ⟨uL this.1,this.2⟩
 .rw [Hp.get_push0] at f a;rcases gT y with ⟨rfl,g⟩|⟨hi,g⟩ <;> rcases gT z with ⟨rfl,m⟩|⟨v,m⟩
  .exact .inl rfl
  .cases g;rw [aC rfl] at f;cases f;rw [aB v] at a;exact .inr ⟨q,s j d u a l m⟩
  .cases m;rw [aC rfl] at a;cases a;rw [aB hi] at f;exact .inr ⟨s i c M f hd g,q⟩
  .rw [aB hi] at f;rw [aB v] at a;exact r.inj i j c d k M u f a hd l g m
theorem Wd {ρ:Sg} {k:Hp} {W:World} (r:HRel ρ k W) {b:ABody} (hb:b.isDead=true):HRel ρ (k.push0 b) W:=by
 refine ⟨by have:=r.ok;simp only [Hp.ok,Hp.push0,il] at this ⊢;omega,fun i c a hd=>?_,fun i g M e=>?_,fun i j c d g M n a f hd h l m=>?_⟩
 .rw [Hp.get_push0] at a;split at a
  .cases a;rw [show _=_ from hb] at hd;cases hd
  .exact r.blk i c a hd
 .have:=r.dom i g M e;exact ⟨uL this.1,this.2⟩
 .rw [Hp.get_push0] at a f;rw [aB (jP (r.dom i _ _ l).1)] at a;rw [aB (jP (r.dom j _ _ m).1)] at f;exact r.inj i j c d g M n a f hd h l m
theorem Apart.add {ρ:Sg} {J:Hp} {B O N:Nat} {b:ABody} (Y:b.isView=true) (ap:Apart ρ J O):Apart (ρ.add J.size (B,N)) (J.push0 b) O:=by
 intro i c M E hd e;rw [Hp.get_push0] at E;rcases gT e with ⟨rfl,Q⟩|⟨hi,Q⟩
 .rw [aC rfl] at E;cases E;exact Y
 .rw [aB hi] at E;exact ap i c M E hd Q
theorem Apart.dead {ρ:Sg} {J:Hp} {O:Nat} {b:ABody} (hb:b.isDead=true) (Q:Apart ρ J O):Apart ρ (J.push0 b) O:=by
 intro i c M E hd e;rw [Hp.get_push0] at E;split at E
 .cases E;rw [show _=_ from hb] at hd;cases hd
 .exact Q i c M E hd e
theorem YK {raw:Bool} {τ:Sg} {N:Nat} {ik:IntKind} {y:Int} {ys:List Int} {o:Obj} (h:BRel τ N (.rows ik (y :: ys)) o):BRel τ N (KE raw ik (y :: ys)) o:=by
 cases raw with
 | true=>exact h
 | false=>exact V9 h
theorem Ae {raw:Bool} {σ:Sg} {W:World}:∀ (l:List (Nat×IntKind×List Int)) (ρ:Sg) (b:Hp),HRel ρ b W ->
  (∀ x∈l,x.2.2=[]\/∃ B N o,σ x.1=some (B,N)/\W.heap[B]?=some o/\(∀ τ,BRel τ N (.rows x.2.1 x.2.2) o)/\Apart ρ b B) ->
  ∃ a,HRel a (iZ raw b (l.map (·.2))) W/\Sub ρ a/\∀ j x,l[j]?=some x->x.2.2≠[]->a (b.size+j)=σ x.1
 | [],ρ,b,r,_=>⟨ρ,r,Sub.refl _,fun j x e=>by simp at e⟩
 | (id,ik,xs) :: l,ρ,b,r,h=>by
  have d:=h (id,ik,xs) (by simp)
  cases xs with
  | nil=>
   obtain ⟨a,f,s',g⟩:=Ae l ρ (b.push0 (KE raw ik [])) (Wd r KF) (fun x d=>by
    rcases h x (by simp [d]) with h1|⟨B,N,o,a1,a2,i,k⟩
    .exact .inl h1
    .exact .inr ⟨B,N,o,a1,a2,i,k.dead KF⟩)
   refine ⟨a,f,s',fun j x e c=>?_⟩
   cases j with
   | zero=>simp at e;subst e;exact absurd rfl c
   | succ j=>
    have:=g j x (by simpa using e) c;rw [<- this]
    congr 1
    show _=b.size+1+j;omega
  | cons y ys=>
   rcases d with d|⟨B,N,o,a1,a2,i,k⟩
   .cases d
   .obtain ⟨a,f,s',g⟩:=Ae l (ρ.add b.size (B,N)) (b.push0 (KE raw ik (y :: ys))) (YJ r IK a2 (YK (i _)) k) (fun x d=>by
     rcases h x (by simp [d]) with h1|⟨m,n,p,q,s,t,u⟩
     .exact .inl h1
     .exact .inr ⟨m,n,p,q,s,t,u.add IK⟩)
    refine ⟨a,f,(Sub.add r.fresh).trans s',fun j x e c=>?_⟩
    cases j with
    | zero=>
     simp at e;subst e;rw [gP,s' _ _ (fF (σ:=ρ) (x:=(B,N)))];exact a1.symm
    | succ j=>
     have:=g j x (by simpa using e) c;rw [<- this]
     congr 1
     show _=b.size+1+j;omega
inductive Pa where
 | n (sh:Sh)
 | s (shs:List Sh) (ik:IntKind)
inductive Itm where
 | n (xs:List Nu)
 | s (xs:List Nu) (n:Int) (ys:List Int)
def Cw (hG h:Hp):List Pa->List AV->Option (List (Nat×IntKind×List Int)×List Itm)
 | [],[]=>some ([],[])
 | .n sh :: c,v :: d=>match Sh.read sh v with
  | none=>none
  | some (_,xs)=>match Cw hG h c d with
   | none=>none
   | some (f,a)=>some (f,.n xs :: a)
 | .s shs ik :: c,v :: d=>match v with
  | .agg cells=>match EI cells with
   | some (b,.lslice id n)=>match h.get id with
    | some ⟨_,.rows g ys⟩=>match decide (ik=g)&&Nat.ble hG.size id with
     | true=>match Sh.readL shs b with
      | none=>none
      | some (_,xs)=>match Cw hG h c d with
       | none=>none
       | some (f,a)=>some ((id,ik,ys) :: f,.s xs n ys :: a)
     | false=>none
    | _=>none
   | _=>none
  | _=>none
 | _,_=>none
def AB:List Pa->List Itm->List (IntKind×List Int)
 | .n _ :: a,.n _ :: is=>AB a is
 | .s _ ik :: a,.s _ _ ys :: is=>(ik,ys) :: AB a is
 | _,_=>[]
def an5 (raw:Bool) (j:Nat) (n:Int):AV:=
 match raw with
 | true=>.lslice j n
 | false=>.pslice j n.toNat false n
def mkA (raw:Bool) (j:Nat):List Pa->List Itm->List AV
 | .n sh :: a,.n xs :: is=>(Sh.mk sh xs).1 :: mkA raw j a is
 | .s shs _ :: a,.s xs n _ :: is=>.agg ((Sh.mkL shs xs).1++[an5 raw j n]) :: mkA raw (j+1) a is
 | _,_=>[]
def IL:List Pa->List Itm->List AV
 | .n sh :: a,.n xs :: is=>(Sh.mk sh xs).1 :: IL a is
 | .s shs _ :: a,.s xs _ _ :: is=>(Sh.mkL shs xs).1++IL a is
 | _,_=>[]
def Pn:List Itm->Prop
 | []=>True
 | .n _ :: l=>Pn l
 | .s _ n ys :: l=>(ys=[]->n=0)/\Pn l
theorem IM {n:Nat}:∀ {l m:List AV},AV.underL n (l++m)=(AV.underL n l&&AV.underL n m)
 | [],m=>by simp [AV.underL]
 | a :: l,m=>by simp only [zf,AV.underL,IM,Bool.and_assoc]
theorem EL {raw:Bool} {hG h:Hp}:∀ (d:List Pa) (args:List AV) (f:List (Nat×IntKind×List Int)) (a:List Itm),Cw hG h d args=some (f,a) ->
  f.map (·.2)=AB d a/\(∀ x∈f,hG.size<=x.1/\∃ w,h.get x.1=some ⟨w,.rows x.2.1 x.2.2⟩) /\
  ∀ (σ ρ:Sg) (j:Nat) (L:List Value),Sub (σ.low hG.size) ρ->(∀ i x,f[i]?=some x->x.2.2≠[]->ρ (j+i)=σ x.1)->Pn a->AV.underL hG.size (IL d a)=true->VRels σ args L->VRels ρ (mkA raw j d a) L
 | [],[],f,a,e=>by
  cases e;exact ⟨rfl,by simp,fun σ ρ j L _ _ _ _ h=>h⟩
 | .n sh :: d,v :: y,f,a,e=>by
  simp only [Cw] at e;split at e
  .cases e
  .rename_i s xs h1;split at e
   .cases e
   .rename_i z l h2;cases e;obtain ⟨a1,a2,A⟩:=EL d y _ _ h2;refine ⟨a1,a2,fun σ ρ j L m u b g D=>?_⟩;obtain ⟨V,o,rfl,E,F⟩:=D;simp only [IL,AV.underL,aF] at g;have:=(Sh.read_mk sh v s xs [] h1).2 σ V E;rw [kT] at this;exact ⟨V,o,rfl,VRel.mono m _ _ (VRel.low _ _ this g.1),A σ ρ j o m u b g.2 F⟩
 | .s shs ik :: d,v :: y,f,a,e=>by
  simp only [Cw] at e;split at e
  .rename_i cells;split at e
   .rename_i q id n H;split at e
    .rename_i w Y ys J;split at e
     .rename_i hb;simp only [aF,aT] at hb;obtain ⟨rfl,hb⟩:=hb;have M:=dI hb;split at e
      .cases e
      .rename_i s xs h1;split at e
       .cases e
       .rename_i z l h2;cases e;obtain ⟨a1,a2,A⟩:=EL d y _ _ h2;refine ⟨by simp [AB,a1],fun x r=>?_,fun σ ρ j L m u b g D=>?_⟩
        .rcases aN.1 r with rfl|r
         .exact ⟨M,w,J⟩
         .exact a2 x r
        .obtain ⟨V,o,rfl,E,F⟩:=D;simp only [IL,IM,aF] at g;obtain ⟨K,rfl,P⟩:=E;rw [KA H] at P;obtain ⟨I,Z,O,k1,k2⟩:=II P;obtain ⟨zv,zl,rfl,k3,k4⟩:=k2;obtain rfl:zl=[]:=k4;have Q:=(Sh.readL_mk shs q s xs [] h1).2 σ I k1;rw [kT] at Q;have k6:=VRels.mono m _ _ (VRels.low _ _ Q g.1);obtain ⟨p,len,c,rfl,W,hp⟩:=k3;refine ⟨_,o,rfl,⟨K,rfl,?_⟩,A σ ρ (j+1) o m (fun i x r k=>?_) b.2 g.2 F⟩
         .rw [O];refine VRels.append k6 ⟨_,[],rfl,?_,rfl⟩;have t:len=0\/∃ B N,ρ j=some (B,N)/\p=some ⟨B,N,none⟩:=by
           rcases hp with hp|⟨B,N,e1,e2⟩
           .exact .inl hp
           .by_cases X:n=0
            .left;omega
            .have k:ys≠[]:=fun hh=>X (b.1 hh);have:=u 0 (id,ik,ys) rfl k;rw [gP] at this;exact .inr ⟨B,N,by rw [this];exact e1,e2⟩
          cases raw with
          | true=>exact ⟨p,len,c,rfl,W,t⟩
          | false=>exact ⟨p,len,c,rfl,W,by omega,t.imp (fun X=>by omega) _root_.id⟩
         .have:=u (i+1) x (by simpa using r) k;rw [<- this]
          congr 1
          omega
     .cases e
    .cases e
   .cases e
  .cases e
 | [],_ :: _,_,_,e=>by simp [Cw] at e
 | .n _ :: _,[],_,_,e=>by simp [Cw] at e
 | .s _ _ :: _,[],_,_,e=>by simp [Cw] at e
def KG (hG:Hp) (b:List Pa) (V:Nat->List Itm->Option (Prop×AV×List ABody)):ku:=fun args h=>
 match Cw hG h b args with
 | none=>none
 | some (_,a)=>match V h.size a with
  | none=>none
  | some (p,v,bs)=>some (.p p,v,bs)
theorem ai7 (raw:Bool) {P:Program} {glob:Nat->Option Nat} {hG:Hp} (ok:hG.ok) (pl:lZ hG.size hG.blks=true) (t:∀ g i,glob g=some i->i<hG.size) {f:FuncId} {c:List Pa} {V:Nat->List Itm->Option (Prop×AV×List ABody)}
  (h:∀ H a p v bs,V H a=some (p,v,bs)->p->Pn a/\AV.underL hG.size (IL c a)=true/\∃ (C:Ctx) (n:Nat) (as:List AV) (nd0:Nd) (v0:AV) (k:Hp),CtxOk C/\C.P=P/\C.glob=glob/\FO (mkA raw hG.size c a) as /\
   (run C n).call f as (iZ raw hG (AB c a))=some ⟨nd0,[⟨.tt,v0,k⟩]⟩/\v0.isPanic=false/\nd0.val/\allOld hG.clock (fo (k.size - (iZ raw hG (AB c a)).size) k.blks)=true/\KD (iZ raw hG (AB c a)).size k v0 H v bs)
  (fn:∃ fn:Func,P.funcs[f]?=some fn/\fn.body.isSome=true):NOk P glob hG f (KG hG c V):=by
 refine ⟨fun args nd v bs h' e same=>?_,fn⟩;unfold KG at e;split at e
 .cases e
 .rename_i I a L;split at e
  .cases e
  .rename_i p v' O Q;cases e;obtain ⟨a1,a2,X⟩:=EL c args I a L;refine Ph fun σ A W g r Y hn=>?_;obtain ⟨b1,b2,C,n,as,nd0,v0,k,co,rfl,rfl,ht,d,hp,u,hold,tl⟩:=h _ _ _ _ _ Q hn;have gs:=pU same;obtain ⟨J,r0,sub,hj⟩:=Ae (raw:=raw) (σ:=σ) I (σ.low hG.size) hG (Pm ok pl same r) (fun x hx=>by
    obtain ⟨aa,w,j⟩:=a2 x hx;by_cases l:x.2.2=[]
    .exact .inl l
    .right;have hd:(ABody.rows x.2.1 x.2.2).isDead=false:=by
      cases z:x.2.2 with
      | nil=>exact absurd z l
      | cons y ys=>rfl
     obtain ⟨B,N,o,h1,h2,h3⟩:=r.blk x.1 _ j hd;refine ⟨B,N,o,h1,h2,fun τ=>h3,fun i b M K D e1=>?_⟩;have hi:=Hp.get_lt K;obtain ⟨b',c',E,m,q⟩:=gs i hi;rw [K] at m;cases m;rcases r.inj i x.1 b' _ B M N E j (by rw [q];exact D) hd (Sg.low_sub σ _ _ _ e1) h1 with F|⟨F,_⟩
     .omega
     .rw [q] at F;exact F)
   rw [a1] at r0;refine ⟨C,n,_,as,J,nd0,v0,k,co,rfl,rfl,r0,fun gl i s=>?_,sI _ _ _ ht (X σ J hG.size A.toList sub hj b1 b2 Y),d,hp,u,by rw [wQ];exact hold,tl⟩;obtain ⟨N,hN⟩:=g gl i s;exact ⟨N,sub _ _ (by simp [Sg.low,t gl i s,hN])⟩
def outL (lo c size:Nat) (ik:IntKind):Option CR->Option (Nd×List AV×Nat×List Int)
 | some ⟨nd,[⟨.tt,.agg cells,k⟩]⟩=>match EI cells with
  | some (a,x)=>match qj k (size+1) x with
   | some (n,cs)=>match YH ik cs with
    | some xs=>match an3 lo x&&allOld c (fo (k.size - lo) k.blks) with
     | true=>some (nd,a,n,xs)
     | false=>none
    | none=>none
   | none=>none
  | none=>none
 | _=>none
mutual
def AV.num:AV->Bool
 | .int _ _ _=>true
 | .bool _ _=>true
 | .str _ _=>true
 | .agg l=>AV.numL l
 | .tuple l=>AV.numL l
 | _=>false
def AV.numL:List AV->Bool
 | []=>true
 | a :: l=>a.num&&AV.numL l
end
mutual
theorem Mo {σ τ:Sg}:∀ (a:AV) (V:Value),a.num=true->VRel σ a V->VRel τ a V
 | .int _ _ _,_,_,h=>h
 | .bool _ _,_,_,h=>h
 | .str _ _,_,_,h=>h
 | .agg l,_,hn,⟨K,e,h⟩=>⟨K,e,IP l _ hn h⟩
 | .tuple l,_,hn,⟨K,e,h⟩=>⟨K,e,IP l _ hn h⟩
theorem IP {σ τ:Sg}:∀ (l:List AV) (L:List Value),AV.numL l=true->VRels σ l L->VRels τ l L
 | [],_,_,h=>h
 | a :: l,L,hn,h=>by
  simp only [AV.numL,aF] at hn;obtain ⟨v,b,e,h1,h2⟩:=h;exact ⟨v,b,e,Mo a v hn.1 h1,IP l b hn.2 h2⟩
end
theorem RB {lo c:Nat} {q:Option CR} {nd:Nd} {v0:AV} (e:Pb lo c q=some (nd,v0)) (hn:v0.num=true):
  ∃ k,q=some ⟨nd,[⟨.tt,v0,k⟩]⟩/\v0.isPanic=false/\allOld c (fo (k.size - lo) k.blks)=true/\∀ (a:Nat) (v:AV),tell v0 v->KD lo k v0 a v []:=by
 obtain ⟨k,h1,h2,h3⟩:=Kv e;exact ⟨k,h1,h3,h2,fun a v b=>V8 fun τ σ V d=>Pk _ _ _ b (Mo _ _ hn d)⟩
end
end Go.Eng
namespace Go.Eng
open Go
noncomputable section
theorem NOk.weaken {P:Program} {glob:Nat->Option Nat} {hG:Hp} {f:FuncId} {s t:ku} (g:NOk P glob hG f s)
  (h:∀ args hp nd v bs,t args hp=some (nd,v,bs)->∃ nd0 v0,s args hp=some (nd0,v0,bs)/\(nd.val->nd0.val/\∀ σ V,VRel σ v0 V->VRel σ v V)):NOk P glob hG f t:=by
 refine ⟨fun args nd v bs E e same σ A W J r O hn cs=>?_,g.fn⟩;obtain ⟨nd0,v0,Q,k0⟩:=h args E nd v bs e;obtain ⟨k1,k2⟩:=k0 hn;obtain ⟨x,Y,τ,V,X,fr,q2,q3⟩:=g.call args nd0 v0 bs E Q same σ A W J r O k1 cs;have:x=⟨.tt,v0,iF E bs⟩:=YG Y;subst this;exact ⟨⟨.tt,v,iF E bs⟩,rfl,τ,V,X,fr,k2 τ V q2,q3⟩
def ai8 (P:Program) (glob:Nat->Option Nat) (hG:Hp) (f:FuncId) (raw:Bool) (b:List Pa) (a:List Itm) (args:List AV) (d:Nat) (v:AV) (bs:List ABody):Prop:=
 ∃ (C:Ctx) (g:Nat) (c:List AV) (nd0:Nd) (v0:AV) (k:Hp),CtxOk C/\C.P=P/\C.glob=glob/\FO args c /\
  (run C g).call f c (iZ raw hG (AB b a))=some ⟨nd0,[⟨.tt,v0,k⟩]⟩/\v0.isPanic=false/\nd0.val/\allOld hG.clock (fo (k.size - (iZ raw hG (AB b a)).size) k.blks)=true/\KD (iZ raw hG (AB b a)).size k v0 d v bs
theorem ad3 {P:Program} {glob:Nat->Option Nat} {hG:Hp} (ok:hG.ok) (pl:lZ hG.size hG.blks=true) (d:∀ g i,glob g=some i->i<hG.size) {f:FuncId} {c:List Pa} {V:Nat->List Itm->Option (Prop×AV×List ABody)}
  (h:∀ j a p v bs,V j a=some (p,v,bs)->p->Pn a/\AV.underL hG.size (IL c a)=true/\∃ raw,ai8 P glob hG f raw c a (mkA raw hG.size c a) j v bs)
  (fn:∃ fn:Func,P.funcs[f]?=some fn/\fn.body.isSome=true):NOk P glob hG f (KG hG c V):=by
 refine ⟨fun args nd v bs n e same=>?_,fn⟩;have D:=e;unfold KG at e;split at e
 .cases e
 .rename_i E a q;split at e
  .cases e
  .rename_i p F s t;cases e
   classical
   by_cases hp:p
   .obtain ⟨u,w,raw,k⟩:=h _ _ _ _ _ t hp;exact (ai7 raw ok pl d (V:=fun l b=>if l=n.size/\b=a then some (p,v,bs) else none) (fun j o p2 H x m y=>by
     split at m
     .rename_i z;obtain ⟨rfl,rfl⟩:=z;cases m;exact ⟨u,w,k⟩
     .cases m) fn).call args (.p p) v bs n (by unfold KG;rw [q];simp) same
   .intro σ A W g r I hn;exact absurd hn hp
mutual
def AV.plain:AV->Bool
 | .int s _ _=>!s
 | .bool s _=>!s
 | .str s _=>!s
 | .agg l=>AV.plainL l
 | .tuple l=>AV.plainL l
 | _=>false
def AV.plainL:List AV->Bool
 | []=>true
 | a :: l=>AV.plain a&&AV.plainL l
end
mutual
def AV.told:AV->AV
 | .int _ k n=>gB false k n
 | .bool _ b=>o6 false b
 | .agg l=>.agg (AV.toldL l)
 | .tuple l=>.tuple (AV.toldL l)
 | v=>v
def AV.toldL:List AV->List AV
 | []=>[]
 | a :: l=>AV.told a :: AV.toldL l
end
mutual
theorem YL {σ:Sg}:∀ (a:AV) (v:Value),VRel σ a v->VRel σ (AV.told a) v
 | .int _ _ _,v,h=>by rw [AV.told,mkInt_rel];exact h
 | .bool _ _,v,h=>by rw [AV.told,Hm];exact h
 | .agg l,v,⟨K,e,h⟩=>⟨K,e,EM l _ h⟩
 | .tuple l,v,⟨K,e,h⟩=>⟨K,e,EM l _ h⟩
 | .any _,_,h=>h
 | .str _ _,_,h=>h
 | .nil,_,h=>h
 | .ptr _ _,_,h=>h
 | .nilslice,_,h=>h
 | .eslice _,_,h=>h
 | .slice _ _ _ _,_,h=>h
 | .gslice _ _ _ _,_,h=>h
 | .func _ _ _,_,h=>h
 | .yield _,_,h=>h
 | .nilfunc,_,h=>h
 | .iface _ _,_,h=>h
 | .niliface,_,h=>h
 | .map _,_,h=>h
 | .nilmap,_,h=>h
 | .vslice _ _,_,h=>h
 | .pslice _ _ _ _,_,h=>h
 | .lslice _ _,_,h=>h
 | .islice _ _ _ _,_,h=>h
 | .panic _,_,h=>h
 | .vptr _ _,_,h=>h
theorem EM {σ:Sg}:∀ (l:List AV) (L:List Value),VRels σ l L->VRels σ (AV.toldL l) L
 | [],_,h=>h
 | a :: l,_,⟨v,b,e,h1,h2⟩=>⟨v,b,e,YL a v h1,EM l b h2⟩
end
end
end Go.Eng
namespace Go.Eng
open Go
noncomputable section
def Uk (v:AV):ku:=fun args _=>match args with
 | []=>some (.tt,v,[])
 | _=>none
theorem YM {P:Program} {glob:Nat->Option Nat} {hG:Hp} (ok:hG.ok) (pl:lZ hG.size hG.blks=true) (b:∀ g i,glob g=some i->i<hG.size) {f:FuncId} {v:AV} {C:Ctx} {n:Nat} {nd:Nd} (d:CtxOk C) (j:C.P=P) (c:C.glob=glob) (fn:∃ fn:Func,P.funcs[f]?=some fn/\fn.body.isSome=true)
  (r:Pb hG.size hG.clock ((run C n).call f [] hG)=some (nd,v)) (hn:nd.val) (k:v.num=true) (l:tell v v):NOk P glob hG f (Uk v):=by
 have g:NOk P glob hG f (KG hG [] fun _ a=>match a with
  | []=>some (True,v,[])
  | _=>none):=by
  refine ad3 ok pl b (fun m a p w bs e hp=>?_) fn;split at e
  .cases e;refine ⟨trivial,rfl,true,?_⟩;obtain ⟨q,a1,a2,o,s⟩:=RB r k;exact ⟨C,n,[],nd,v,q,d,j,c,trivial,a1,a2,hn,o,s m _ l⟩
  .cases e
 refine g.weaken fun args hp t w bs e=>?_;unfold Uk at e;split at e
 .cases e;exact ⟨.p True,v,rfl,fun _=>⟨trivial,fun σ U h=>h⟩⟩
 .cases e
def Alone (ρ:Sg) (a:Hp) (B:Nat):Prop:=∀ i c M,a.get i=some c->c.body.isDead=false->ρ i=some (B,M)->False
theorem Alone.add {ρ:Sg} {E:Hp} {B J N:Nat} {b:ABody} (ap:Alone ρ E J) (O:B≠J):Alone (ρ.add E.size (B,N)) (E.push0 b) J:=by
 intro i c M Q hd e;rw [Hp.get_push0] at Q;rcases gT e with ⟨rfl,Y⟩|⟨hi,Y⟩
 .cases Y;exact O rfl
 .rw [aB hi] at Q;exact ap i c M Q hd Y
def Free (hG h':Hp) (σ ρ:Sg) (d:Hp) (a:List Nat):Prop:=∀ (x:Nat) (b:ABlk) (c f:Nat),hG.size<=x->x ∉ a->h'.get x=some b->b.body.isDead=false->b.body.isView=false->σ x=some (c,f)->Alone ρ d c
theorem Free.add {hG h':Hp} {σ ρ:Sg} {Y:Hp} {E:List Nat} {W:World} (r:HRel σ h' W) (fr:Free hG h' σ ρ Y E) {y:Nat} {cy:ABlk} {B N:Nat} {b:ABody} (hg:h'.get y=some cy) (hd:cy.body.isDead=false) (hy:σ y=some (B,N)):Free hG h' σ (ρ.add Y.size (B,N)) (Y.push0 b) (y :: E):=by
 intro x bx Bx Nx aa hu J O hv hx;refine (fr x bx Bx Nx aa (fun h=>hu (jJ _ h)) J O hv hx).add fun ab=>?_;subst ab;rcases r.inj x y bx cy B Nx N J hg O hd hx hy with Q|⟨Q,_⟩
 .exact hu (by rw [Q];exact oJ)
 .rw [hv] at Q;cases Q
end
end Go.Eng
