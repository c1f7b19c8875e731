/- What is proved: a law of hits returns true, whatever the input (part 3). No conditions beyond those of the row. -/
import Derived.Test.YtjmhddncomglmaaGreatDoorPB
set_option linter.unusedVariables false
set_option linter.unusedSimpArgs false
set_option linter.unusedSectionVars false
namespace Go.Eng
def Sg.low (σ:Sg) (n:Nat):Sg:=fun i=>if i<n then σ i else none
theorem Sg.low_sub (σ:Sg) (n:Nat):Sub (σ.low n) σ:=fun i x e=>by
 unfold Sg.low at e; split at e
 .exact e
 .cases e
mutual
theorem VRel.low {σ:Sg} {n:Nat}:∀ (a:AV) (v:Value),VRel σ a v->a.under n=true->VRel (σ.low n) a v
 | .any false,_,_,_=>trivial
 | .any true,_,h,_=>h
 | .bool _ _,_,h,_=>h
 | .int _ _ _,_,h,_=>h
 | .str _ _,_,h,_=>h
 | .nil,_,h,_=>h
 | .nilslice,_,h,_=>h
 | .eslice _,_,h,_=>h
 | .nilfunc,_,h,_=>h
 | .niliface,_,h,_=>h
 | .nilmap,_,h,_=>h
 | .ptr i o,_,⟨b,N,e,r⟩,u=>⟨b,N,by simp [AV.under] at u; simp [Sg.low,u,e],r⟩
 | .slice i _ _ _,_,⟨b,N,e,r⟩,u=>⟨b,N,by simp [AV.under] at u; simp [Sg.low,u,e],r⟩
 | .gslice i _ _ _,_,⟨b,N,q,c,e,r⟩,u=>⟨b,N,q,c,by simp [AV.under] at u; simp [Sg.low,u,e],r⟩
 | .func _ fs cs,_,⟨F,K,e,r,s⟩,u=>by
  simp [AV.under] at u
  exact ⟨F,K,e,VRels.low fs _ r u.1,VRels.low cs _ s u.2⟩
 | .yield i,_,⟨b,N,e,r⟩,u=>⟨b,N,by simp [AV.under] at u; simp [Sg.low,u,e],r⟩
 | .iface _ a,_,⟨x,e,r⟩,u=>⟨x,e,VRel.low a _ r (by simpa [AV.under] using u)⟩
 | .map i,_,⟨b,N,e,r⟩,u=>⟨b,N,by simp [AV.under] at u; simp [Sg.low,u,e],r⟩
 | .vslice i _,_,⟨b,N,c,e,r⟩,u=>⟨b,N,c,by simp [AV.under] at u; simp [Sg.low,u,e],r⟩
 | .pslice i _ _ _,_,⟨p,len,c,e1,e2,e3,r⟩,u=>⟨p,len,c,e1,e2,e3,r.imp id fun ⟨b,N,h1,h2⟩=>⟨b,N,by simp [AV.under] at u; simp [Sg.low,u,h1],h2⟩⟩
 | .lslice i _,_,⟨p,len,c,e1,e2,r⟩,u=>⟨p,len,c,e1,e2,r.imp id fun ⟨b,N,h1,h2⟩=>⟨b,N,by simp [AV.under] at u; simp [Sg.low,u,h1],h2⟩⟩
 | .panic a,v,h,u=>VRel.low a v h (by simpa [AV.under] using u)
 | .vptr i _,_,⟨b,N,e,r⟩,u=>⟨b,N,by simp [AV.under] at u; simp [Sg.low,u,e],r⟩
 | .agg l,_,⟨K,e,r⟩,u=>⟨K,e,VRels.low l _ r (by simpa [AV.under] using u)⟩
 | .tuple l,_,⟨K,e,r⟩,u=>⟨K,e,VRels.low l _ r (by simpa [AV.under] using u)⟩
theorem VRels.low {σ:Sg} {n:Nat}:∀ (l:List AV) (L:List Value),VRels σ l L->AV.underL n l=true->VRels (σ.low n) l L
 | [],_,h,_=>h
 | a :: l,_,⟨v,vs,e,r,s⟩,u=>by
  simp [AV.underL] at u
  exact ⟨v,vs,e,VRel.low a _ r u.1,VRels.low l _ s u.2⟩
end
mutual
theorem VRel.names {σ τ:Sg} {n:Nat} (dom:∀ i B N,σ i=some (B,N)->i<n) (s:Sub σ τ):∀ (a:AV) (u v:Value),VRel σ a u->VRel τ a v->VRel (τ.low n) a v
 | .any false,_,_,_,_=>trivial
 | .any true,_,_,_,h=>h
 | .bool _ _,_,_,_,h=>h
 | .int _ _ _,_,_,_,h=>h
 | .str _ _,_,_,_,h=>h
 | .nil,_,_,_,h=>h
 | .nilslice,_,_,_,h=>h
 | .eslice _,_,_,_,h=>h
 | .nilfunc,_,_,_,h=>h
 | .niliface,_,_,_,h=>h
 | .nilmap,_,_,_,h=>h
 | .ptr i o,_,_,⟨b',N',e',_⟩,⟨b,N,e,r⟩=>⟨b,N,by simp [Sg.low,dom _ _ _ e',e],r⟩
 | .slice i _ _ _,_,_,⟨b',N',e',_⟩,⟨b,N,e,r⟩=>⟨b,N,by simp [Sg.low,dom _ _ _ e',e],r⟩
 | .gslice i _ _ _,_,_,⟨b',N',_,_,e',_⟩,⟨b,N,q,c,e,r⟩=>⟨b,N,q,c,by simp [Sg.low,dom _ _ _ e',e],r⟩
 | .func _ fs cs,_,_,⟨F',K',_,r',s'⟩,⟨F,K,e,r,s2⟩=>⟨F,K,e,VRels.names dom s fs _ _ r' r,VRels.names dom s cs _ _ s' s2⟩
 | .yield i,_,_,⟨b',N',e',_⟩,⟨b,N,e,r⟩=>⟨b,N,by simp [Sg.low,dom _ _ _ e',e],r⟩
 | .iface _ a,_,_,⟨_,_,r'⟩,⟨x,e,r⟩=>⟨x,e,VRel.names dom s a _ _ r' r⟩
 | .map i,_,_,⟨b',N',e',_⟩,⟨b,N,e,r⟩=>⟨b,N,by simp [Sg.low,dom _ _ _ e',e],r⟩
 | .vslice i _,_,_,⟨b',N',_,e',_⟩,⟨b,N,c,e,r⟩=>⟨b,N,c,by simp [Sg.low,dom _ _ _ e',e],r⟩
 | .pslice i l _ _,_,_,⟨_,_,_,_,_,_,r'⟩,⟨p,len,c,e1,e2,e3,r⟩=>⟨p,len,c,e1,e2,e3,by
  rcases r' with h|⟨b',N',e',_⟩
  .exact .inl h
  .exact r.imp id fun ⟨b,N,h1,h2⟩=>⟨b,N,by simp [Sg.low,dom _ _ _ e',h1],h2⟩⟩
 | .lslice i _,_,_,⟨_,len',_,e0,e0',r'⟩,⟨p,len,c,e1,e2,r⟩=>⟨p,len,c,e1,e2,by
  rcases r' with h|⟨b',N',e',_⟩
  .left; omega
  .exact r.imp id fun ⟨b,N,h1,h2⟩=>⟨b,N,by simp [Sg.low,dom _ _ _ e',h1],h2⟩⟩
 | .panic a,u,v,h,k=>VRel.names dom s a u v h k
 | .vptr i _,_,_,⟨b',N',e',_⟩,⟨b,N,e,r⟩=>⟨b,N,by simp [Sg.low,dom _ _ _ e',e],r⟩
 | .agg l,_,_,⟨_,_,r'⟩,⟨K,e,r⟩=>⟨K,e,VRels.names dom s l _ _ r' r⟩
 | .tuple l,_,_,⟨_,_,r'⟩,⟨K,e,r⟩=>⟨K,e,VRels.names dom s l _ _ r' r⟩
theorem VRels.names {σ τ:Sg} {n:Nat} (dom:∀ i B N,σ i=some (B,N)->i<n) (s:Sub σ τ):∀ (l:List AV) (L M:List Value),VRels σ l L->VRels τ l M->VRels (τ.low n) l M
 | [],_,_,_,h=>h
 | a :: l,_,_,⟨_,_,_,r',s'⟩,⟨v,vs,e,r,s2⟩=>⟨v,vs,e,VRel.names dom s a _ _ r' r,VRels.names dom s l _ _ s' s2⟩
end
mutual
theorem VRel.cut {σ:Sg} {n:Nat}:∀ (a:AV) (v:Value),VRel σ a v->VRel (σ.low n) (a.cut n) v
 | .any false,_,_=>trivial
 | .any true,_,h=>h
 | .bool _ _,_,h=>h
 | .int _ _ _,_,h=>h
 | .str _ _,_,h=>h
 | .nil,_,h=>h
 | .nilslice,_,h=>h
 | .eslice _,_,h=>h
 | .nilfunc,_,h=>h
 | .niliface,_,h=>h
 | .nilmap,_,h=>h
 | .ptr i o,_,h=>by
  unfold AV.cut
  cases e:Nat.blt i n with
  | true=>exact VRel.low _ _ h (by simpa [AV.under] using e)
  | false=>exact oneCell_any (isCell_one h rfl)
 | .slice i o l c,_,h=>by
  unfold AV.cut
  cases e:Nat.blt i n with
  | true=>exact VRel.low _ _ h (by simpa [AV.under] using e)
  | false=>exact oneCell_any (isCell_one h rfl)
 | .gslice i o l c,_,h=>by
  unfold AV.cut
  cases e:Nat.blt i n with
  | true=>exact VRel.low _ _ h (by simpa [AV.under] using e)
  | false=>exact oneCell_any (isCell_one h rfl)
 | .func f fs cs,_,h=>by
  unfold AV.cut
  cases e:AV.underL n fs&&AV.underL n cs with
  | true=>exact VRel.low _ _ h (by simpa [AV.under] using e)
  | false=>exact oneCell_any (isCell_one h rfl)
 | .yield i,_,h=>by
  unfold AV.cut
  cases e:Nat.blt i n with
  | true=>exact VRel.low _ _ h (by simpa [AV.under] using e)
  | false=>exact oneCell_any (isCell_one h rfl)
 | .iface _ a,_,⟨x,e,r⟩=>⟨x,e,VRel.cut a _ r⟩
 | .map i,_,h=>by
  unfold AV.cut
  cases e:Nat.blt i n with
  | true=>exact VRel.low _ _ h (by simpa [AV.under] using e)
  | false=>exact oneCell_any (isCell_one h rfl)
 | .pslice i l s k,_,h=>by
  unfold AV.cut
  cases e:Nat.blt i n with
  | true=>exact VRel.low _ _ h (by simpa [AV.under] using e)
  | false=>exact oneCell_any (isCell_one h rfl)
 | .vslice i l,_,h=>by
  unfold AV.cut
  cases e:Nat.blt i n with
  | true=>exact VRel.low _ _ h (by simpa [AV.under] using e)
  | false=>exact oneCell_any (isCell_one h rfl)
 | .lslice i k,_,h=>by
  unfold AV.cut
  cases e:Nat.blt i n with
  | true=>exact VRel.low _ _ h (by simpa [AV.under] using e)
  | false=>exact oneCell_any (isCell_one h rfl)
 | .panic a,v,h=>VRel.cut a v h
 | .vptr i o,_,h=>by
  unfold AV.cut
  cases e:Nat.blt i n with
  | true=>exact VRel.low _ _ h (by simpa [AV.under] using e)
  | false=>exact oneCell_any (isCell_one h rfl)
 | .agg l,_,⟨K,e,r⟩=>⟨K,e,VRels.cut l _ r⟩
 | .tuple l,_,⟨K,e,r⟩=>⟨K,e,VRels.cut l _ r⟩
theorem VRels.cut {σ:Sg} {n:Nat}:∀ (l:List AV) (L:List Value),VRels σ l L->VRels (σ.low n) (AV.cutL n l) L
 | [],_,h=>h
 | a :: l,_,⟨v,vs,e,r,s⟩=>⟨v,vs,e,VRel.cut a _ r,VRels.cut l _ s⟩
end
def DRel (σ:Sg):List ADef->List Deferred->Prop
 | [],D=>D=[]
 | .collected i :: l,D=>∃ B N E,σ i=some (B,N)/\D={ target:=.collected B,args:=#[] } :: E/\DRel σ l E
 | .call f as :: l,D=>∃ F K E,VRels σ as (F++K).toList/\D={ target:=.fn (.func f) K,args:=F } :: E/\DRel σ l E
theorem DRel.mono {σ τ:Sg} (h:Sub σ τ):∀ {l:List ADef} {D:List Deferred},DRel σ l D->DRel τ l D
 | [],_,e=>e
 | .collected _ :: _,_,⟨B,N,E,h1,h2,h3⟩=>⟨B,N,E,h _ _ h1,h2,DRel.mono h h3⟩
 | .call _ _ :: _,_,⟨F,K,E,h1,h2,h3⟩=>⟨F,K,E,VRels.mono h _ _ h1,h2,DRel.mono h h3⟩
theorem DRel.low {σ:Sg} {n:Nat}:∀ {l:List ADef} {D:List Deferred},defsUnder n l=true->DRel σ l D->DRel (σ.low n) l D
 | [],_,_,e=>e
 | .collected i :: l,_,u,⟨B,N,E,h1,h2,h3⟩=>by
  simp only [defsUnder,Bool.and_eq_true,Nat.blt_eq] at u
  exact ⟨B,N,E,by simp [Sg.low,u.1,h1],h2,DRel.low u.2 h3⟩
 | .call f as :: l,_,u,⟨F,K,E,h1,h2,h3⟩=>by
  simp only [defsUnder,Bool.and_eq_true] at u
  exact ⟨F,K,E,VRels.low _ _ h1 u.1,h2,DRel.low u.2 h3⟩
structure SRel (σ:Sg) (s:St) (T:Array Value) (D:List Deferred) (W:World):Prop where
 t:TRel σ s.tmps T
 d:DRel σ s.defs D
 h:HRel σ s.hp W
structure TMon (s k:St):Prop where
 len:k.tmps.length=s.tmps.length
 same:∀ (t:Nat) (x:AT),k.tmps[t]?=some x->s.tmps[t]?=some x\/s.hp.clock<=x.st
theorem TMon.refl (s:St):TMon s s:=⟨rfl,fun _ _ h=>.inl h⟩
theorem TMon.trans {a b c:St} (hc:a.hp.clock<=b.hp.clock) (x:TMon a b) (y:TMon b c):TMon a c:=
 ⟨y.len.trans x.len,fun t u e=>by
  rcases y.same t u e with h|h
  .exact x.same t u h
  .exact .inr (Nat.le_trans hc h)⟩
structure StepH (H:Nat->Prop) (σ:Sg) (s:St) (W:World) (τ:Sg) (k:St) (V:World):Prop where
 good:GoodH H σ s.hp W τ k.hp V
 tm:TMon s k
abbrev Step:=StepH fun _=>False
theorem StepH.next {H H':Nat->Prop} {σ τ υ:Sg} {s k m:St} {W V X:World} (ko:k.hp.ok) (mo:m.hp.ok) (x:StepH H σ s W τ k V) (y:StepH H' τ k V υ m X) (hh:∀ B,H' B->B<W.heap.size->H B):StepH H σ s W υ m X:=
 ⟨x.good.next ko mo y.good hh,x.tm.trans x.good.mon.clock y.tm⟩
theorem Step.trans {σ τ υ:Sg} {s k m:St} {W V X:World} (ko:k.hp.ok) (mo:m.hp.ok) (x:Step σ s W τ k V) (y:Step τ k V υ m X):Step σ s W υ m X:=
 StepH.next ko mo x y fun _ h _=>h
theorem sameDefs_eq:∀ (l m:List ADef),sameDefs l m=true->l=m
 | [],[],_=>rfl
 | .collected a :: l,.collected b :: m,h=>by
  simp [sameDefs] at h
  rw [h.1,sameDefs_eq l m h.2]
 | .call f as :: l,.call g bs :: m,h=>by
  simp only [sameDefs,Bool.and_eq_true] at h
  rw [Nat.eq_of_beq_eq_true h.1.1,sameL_eq as bs h.1.2,sameDefs_eq l m h.2]
 | [],.collected _ :: _,h=>by simp [sameDefs] at h
 | .collected _ :: _,[],h=>by simp [sameDefs] at h
 | [],.call _ _ :: _,h=>by simp [sameDefs] at h
 | .call _ _ :: _,[],h=>by simp [sameDefs] at h
 | .collected _ :: _,.call _ _ :: _,h=>by simp [sameDefs] at h
 | .call _ _ :: _,.collected _ :: _,h=>by simp [sameDefs] at h
theorem mergeT_spec {c0:Nat} {p:Bool}:∀ (l0 l m r:List AT),mergeT c0 p l0 l m=some r->r.length=l0.length/\l.length=l0.length/\m.length=l0.length /\
  ∀ (t:Nat) (c:AT),r[t]?=some c->∃ x a b:AT,l0[t]?=some x/\l[t]?=some a/\m[t]?=some b/\((a.st<c0/\b.st<c0/\c=x)\/((c0<=a.st\/c0<=b.st)/\c=⟨max a.st b.st,mergeV p a.v b.v⟩))
 | [],[],[],r,h=>by
  cases h
  exact ⟨rfl,rfl,rfl,fun t c e=>by simp at e⟩
 | x :: l0,a :: l,b :: m,r,h=>by
  simp only [mergeT] at h
  split at h
  .cases h
  .rename_i q hq
   obtain ⟨h1,h2,h3,h4⟩:=mergeT_spec l0 l m q hq
   split at h
   .rename_i hc
    cases h
    simp only [Bool.and_eq_true,Nat.blt_eq] at hc
    refine ⟨by simp [h1],by simp [h2],by simp [h3],fun t c e=>?_⟩
    cases t with
    | zero=>simp at e; subst e; exact ⟨x,a,b,rfl,rfl,rfl,.inl ⟨hc.1,hc.2,rfl⟩⟩
    | succ t=>simpa using h4 t c (by simpa using e)
   .rename_i hc
    cases h
    refine ⟨by simp [h1],by simp [h2],by simp [h3],fun t c e=>?_⟩
    cases t with
    | zero=>
     simp at e; subst e
     refine ⟨x,a,b,rfl,rfl,rfl,.inr ⟨?_,rfl⟩⟩
     rw [Bool.eq_false_iff] at hc
     rcases Nat.lt_or_ge a.st c0 with h5|h5
     .rcases Nat.lt_or_ge b.st c0 with h6|h6
      .exact absurd (by simp [h5,h6]) hc
      .exact .inr h6
     .exact .inl h5
    | succ t=>simpa using h4 t c (by simpa using e)
 | [],[],_ :: _,_,h=>by simp [mergeT] at h
 | [],_ :: _,_,_,h=>by simp [mergeT] at h
 | _ :: _,[],_,_,h=>by simp [mergeT] at h
 | _ :: _,_ :: _,[],_,h=>by simp [mergeT] at h
theorem mergeNew_spec {p:Bool}:∀ (l m r:List ABlk),mergeNew p l m=some r->r.length=l.length/\m.length=l.length /\
  ∀ (t:Nat) (c:ABlk),r[t]?=some c->∃ (a b:ABlk) (d:ABody),l[t]?=some a/\m[t]?=some b/\mergeB p none a.body b.body=some d/\c=⟨max a.wr b.wr,d⟩
 | [],[],r,h=>by
  cases h
  exact ⟨rfl,rfl,fun t c e=>by simp at e⟩
 | a :: l,b :: m,r,h=>by
  simp only [mergeNew] at h
  split at h
  .cases h
  .rename_i q hq
   obtain ⟨h1,h2,h4⟩:=mergeNew_spec l m q hq
   split at h
   .cases h
   .rename_i d hd
    cases h
    refine ⟨by simp [h1],by simp [h2],fun t c e=>?_⟩
    cases t with
    | zero=>simp at e; subst e; exact ⟨a,b,d,rfl,rfl,hd,rfl⟩
    | succ t=>simpa using h4 t c (by simpa using e)
 | [],_ :: _,_,h=>by simp [mergeNew] at h
 | _ :: _,[],_,h=>by simp [mergeNew] at h
theorem mergeOld_spec {c0:Nat} {p:Bool}:∀ (l0 l m r:List ABlk),mergeOld c0 p l0 l m=some r->r.length=l0.length/\l.length=l0.length/\m.length=l0.length /\
  ∀ (t:Nat) (c:ABlk),r[t]?=some c->∃ x a b:ABlk,l0[t]?=some x/\l[t]?=some a/\m[t]?=some b/\((a.wr<c0/\b.wr<c0/\c=x)\/((c0<=a.wr\/c0<=b.wr)/\∃ d,mergeB p (some x.body) a.body b.body=some d/\c=⟨max a.wr b.wr,d⟩))
 | [],[],[],r,h=>by
  cases h
  exact ⟨rfl,rfl,rfl,fun t c e=>by simp at e⟩
 | x :: l0,a :: l,b :: m,r,h=>by
  simp only [mergeOld] at h
  split at h
  .cases h
  .rename_i q hq
   obtain ⟨h1,h2,h3,h4⟩:=mergeOld_spec l0 l m q hq
   split at h
   .rename_i hc
    cases h
    simp only [Bool.and_eq_true,Nat.blt_eq] at hc
    refine ⟨by simp [h1],by simp [h2],by simp [h3],fun t c e=>?_⟩
    cases t with
    | zero=>simp at e; subst e; exact ⟨x,a,b,rfl,rfl,rfl,.inl ⟨hc.1,hc.2,rfl⟩⟩
    | succ t=>simpa using h4 t c (by simpa using e)
   .rename_i hc
    split at h
    .cases h
    .rename_i d hd
     cases h
     refine ⟨by simp [h1],by simp [h2],by simp [h3],fun t c e=>?_⟩
     cases t with
     | zero=>
      simp at e; subst e
      refine ⟨x,a,b,rfl,rfl,rfl,.inr ⟨?_,d,hd,rfl⟩⟩
      rw [Bool.eq_false_iff] at hc
      rcases Nat.lt_or_ge a.wr c0 with h5|h5
      .rcases Nat.lt_or_ge b.wr c0 with h6|h6
       .exact absurd (by simp [h5,h6]) hc
       .exact .inr h6
      .exact .inl h5
     | succ t=>simpa using h4 t c (by simpa using e)
 | [],[],_ :: _,_,h=>by simp [mergeOld] at h
 | [],_ :: _,_,_,h=>by simp [mergeOld] at h
 | _ :: _,[],_,_,h=>by simp [mergeOld] at h
 | _ :: _,_ :: _,[],_,h=>by simp [mergeOld] at h
theorem takeN_eq {α:Type}:∀ (n:Nat) (l m:List α),takeN n l=some m->m=l.take n/\m.length=n
 | 0,l,m,h=>by cases h; simp
 | n+1,[],m,h=>by simp [takeN] at h
 | n+1,a :: l,m,h=>by
  simp only [takeN] at h
  split at h
  .cases h
  .rename_i r hr
   cases h
   obtain ⟨h1,h2⟩:=takeN_eq n l r hr
   exact ⟨by simp [h1],by simp [h2]⟩
theorem mergeH_spec {c0:Nat} {p:Bool} {n k:Nat} (hk:k<=n) {l0 la lb h:List ABlk} (h0:l0.length=k) (e:mergeH c0 p (n - k) l0 la lb=some h):
  h.length=n/\∀ (i:Nat) (c:ABlk),i<n->h[n - 1 - i]?=some c->∃ a b:ABlk,la[n - 1 - i]?=some a/\lb[n - 1 - i]?=some b /\
   ((k<=i/\∃ d,mergeB p none a.body b.body=some d/\c=⟨max a.wr b.wr,d⟩) ∨
    (i<k/\∃ x,l0[k - 1 - i]?=some x/\((a.wr<c0/\b.wr<c0/\c=x)\/((c0<=a.wr\/c0<=b.wr)/\∃ d,mergeB p (some x.body) a.body b.body=some d/\c=⟨max a.wr b.wr,d⟩)))):=by
 unfold mergeH at e
 split at e
 .cases e
 .rename_i xa hxa
  split at e
  .cases e
  .rename_i xb hxb
   split at e
   .cases e
   .rename_i u hu
    split at e
    .cases e
    .rename_i v hv
     rw [catC_eq] at e
     cases e
     obtain ⟨rfl,hla⟩:=takeN_eq _ _ _ hxa
     obtain ⟨rfl,hlb⟩:=takeN_eq _ _ _ hxb
     obtain ⟨u1,u2,u3⟩:=mergeNew_spec _ _ _ hu
     obtain ⟨v1,v2,v3,v4⟩:=mergeOld_spec _ _ _ _ hv
     rw [dropN_eq] at v2 v4
     rw [dropN_eq] at v3 v4
     refine ⟨by simp [v1,u1,hla]; omega,fun i c hi hc=>?_⟩
     rw [hla] at u1
     by_cases hik:k<=i
     .rw [List.getElem?_append_left (by omega)] at hc
      obtain ⟨a,b,d,h1,h2,h3,h4⟩:=u3 _ c hc
      rw [List.getElem?_take] at h1 h2
      rw [if_pos (by omega)] at h1 h2
      exact ⟨a,b,h1,h2,.inl ⟨hik,d,h3,h4⟩⟩
     .rw [List.getElem?_append_right (by omega),u1,show n - 1 - i - (n - k)=k - 1 - i by omega] at hc
      obtain ⟨x,a,b,h1,h2,h3,h4⟩:=v4 _ c hc
      rw [List.getElem?_drop,show n - k+(k - 1 - i)=n - 1 - i by omega] at h2 h3
      exact ⟨a,b,h2,h3,.inr ⟨by omega,x,h1,h4⟩⟩
theorem sameState_eq {a b:LoopState} (h:sameState a b=true):a=b:=by
 cases a <;> cases b <;> first|rfl|cases h
theorem sameJump_eq {a b:Option Code} (h:sameJump a b=true):a=b:=by
 unfold sameJump at h
 split at h
 .rfl
 .rfl
 .rename_i i j
  rw [Nat.eq_of_beq_eq_true h]
 .cases h
def ABody.flat:ABody->Bool
 | .loop _=>false
 | .map _=>false
 | .view _=>false
 | .rows _ _=>false
 | _=>true
theorem mergeB_rel {τ:Sg} {p:Bool} {b0:Option ABody} (hb0:∀ c,b0≠some (.loop c)) {a b d:ABody} {N:Nat} {o:Obj} (e:mergeB p b0 a b=some d) (hd:d.isDead=false)
  (ha:p=true->a.flat=true->BRel τ N a o) (hb:p=false->b.flat=true->BRel τ N b o):BRel τ N d o:=by
 unfold mergeB at e
 split at e
 .exact absurd rfl (hb0 _)
 .split at e
  .split at e
   .split at e
    .cases e; cases hd
    .rename_i l m r hr
     cases e
     cases p
     .obtain ⟨K,t,h1,h2,h3⟩:=hb rfl rfl
      exact ⟨K,t,h1,mergeL_rel false _ _ _ _ hr (fun h=>by cases h) (fun _=>h2),h3⟩
     .obtain ⟨K,t,h1,h2,h3⟩:=ha rfl rfl
      exact ⟨K,t,h1,mergeL_rel true _ _ _ _ hr (fun _=>h2) (fun h=>by cases h),h3⟩
   .cases e; cases hd
  .split at e
   .split at e
    .cases e; cases hd
    .rename_i l m r hr
     cases e
     cases p
     .obtain ⟨K,t,X,Y,h1,h2,h3,h4⟩:=hb rfl rfl
      exact ⟨K,t,X,Y,h1,h2,mergeL_rel false _ _ _ _ hr (fun h=>by cases h) (fun _=>h3),h4⟩
     .obtain ⟨K,t,X,Y,h1,h2,h3,h4⟩:=ha rfl rfl
      exact ⟨K,t,X,Y,h1,h2,mergeL_rel true _ _ _ _ hr (fun _=>h3) (fun h=>by cases h),h4⟩
   .cases e; cases hd
  .split at e
   .split at e
    .rename_i hk; subst hk
     cases e
     cases p
     .exact hb rfl rfl
     .exact ha rfl rfl
    .cases e; cases hd
   .cases e; cases hd
  .split at e
   .split at e
    .rename_i hk; subst hk
     cases e
     cases p
     .exact hb rfl rfl
     .exact ha rfl rfl
    .cases e; cases hd
   .cases e; cases hd
  .cases e; cases hd
theorem mergeB_live {p:Bool} {b0:Option ABody} {a b d:ABody} (e:mergeB p b0 a b=some d) (hd:d.isDead=false):a.isDead=false/\b.isDead=false:=by
 unfold mergeB at e
 split at e
 .split at e
  .split at e
   .exact ⟨rfl,rfl⟩
   .cases e
  .cases e
 .split at e
  .split at e
   .exact ⟨rfl,rfl⟩
   .cases e; cases hd
  .split at e
   .exact ⟨rfl,rfl⟩
   .cases e; cases hd
  .split at e
   .exact ⟨rfl,rfl⟩
   .cases e; cases hd
  .split at e
   .exact ⟨rfl,rfl⟩
   .cases e; cases hd
  .cases e; cases hd
theorem mergeB_solid {p:Bool} {b0:Option ABody} {a b d:ABody} (e:mergeB p b0 a b=some d) (hd:d.isDead=false):a.isView=false/\b.isView=false:=by
 unfold mergeB at e
 split at e
 .split at e
  .split at e
   .exact ⟨rfl,rfl⟩
   .cases e
  .cases e
 .split at e
  .split at e
   .exact ⟨rfl,rfl⟩
   .cases e; cases hd
  .split at e
   .exact ⟨rfl,rfl⟩
   .cases e; cases hd
  .split at e
   .exact ⟨rfl,rfl⟩
   .cases e; cases hd
  .split at e
   .exact ⟨rfl,rfl⟩
   .cases e; cases hd
  .cases e; cases hd
theorem Sg.low_all {σ:Sg} {n:Nat} (dom:∀ i B N,σ i=some (B,N)->i<n):σ.low n=σ:=by
 funext i
 unfold Sg.low
 split
 .rfl
 .rename_i h
  cases e:σ i with
  | none=>rfl
  | some x=>exact absurd (dom i _ _ e) h
theorem VRels.mem {σ:Sg}:∀ {l:List AV} {L:List Value},VRels σ l L->∀ a∈l,∃ u,VRel σ a u
 | [],_,_,a,h=>by cases h
 | b :: l,L,⟨v,vs,e,r,s⟩,a,h=>by
  rcases List.mem_cons.1 h with rfl|h
  .exact ⟨v,r⟩
  .exact VRels.mem s a h
theorem VRels.of_mem {σ:Sg}:∀ {l:List AV},(∀ a∈l,∃ u,VRel σ a u)->∃ L,VRels σ l L
 | [],_=>⟨[],rfl⟩
 | a :: l,h=>by
  obtain ⟨v,hv⟩:=h a (by simp)
  obtain ⟨L,hL⟩:=VRels.of_mem (l:=l) fun b hb=>h b (List.mem_cons_of_mem _ hb)
  exact ⟨v :: L,v,L,rfl,hv,hL⟩
theorem BRel.names {σ τ:Sg} {n N0 N:Nat} (dom:∀ i B N,σ i=some (B,N)->i<n) (s:Sub σ τ) {b:ABody} {o p:Obj} (h:BRel σ N0 b o) (k:BRel τ N b p):BRel (τ.low n) N b p:=by
 cases b with
 | dead=>trivial
 | cells l=>obtain ⟨_,_,_,h2,_⟩:=h; obtain ⟨K,e,k1,k2,k3⟩:=k; exact ⟨K,e,k1,VRels.names dom s _ _ _ h2 k2,k3⟩
 | view l=>obtain ⟨_,_,_,_,h2⟩:=h; obtain ⟨K,e,fr,k1,k2⟩:=k; exact ⟨K,e,fr,k1,VRels.names dom s _ _ _ h2 k2⟩
 | grown l=>obtain ⟨_,_,_,_,_,_,h2,_⟩:=h; obtain ⟨K,e,X,Y,k1,k2,k3,k4⟩:=k; exact ⟨K,e,X,Y,k1,k2,VRels.names dom s _ _ _ h2 k3,k4⟩
 | ints q xs=>exact k
 | rows q xs=>exact k
 | map es=>
  obtain ⟨_,_,es0,_,hp,_,h1,h2⟩:=h
  obtain ⟨E,c,es1,k1,kp,kn,k2,k3⟩:=k
  have pp:es1.Perm es0:=kp.trans hp.symm
  obtain ⟨L1,g1⟩:=VRels.of_mem (σ:=σ) (l:=es1.map (·.1)) fun a ha=>VRels.mem h1 a ((pp.map _).mem_iff.1 ha)
  obtain ⟨L2,g2⟩:=VRels.of_mem (σ:=σ) (l:=es1.map (·.2)) fun a ha=>VRels.mem h2 a ((pp.map _).mem_iff.1 ha)
  exact ⟨E,c,es1,k1,kp,kn,VRels.names dom s _ _ _ g1 k2,VRels.names dom s _ _ _ g2 k3⟩
 | loop r=>
  obtain ⟨_,_,_,_,_,h4,_,_,_,M0,h8⟩:=h
  obtain ⟨L,k1,k2,k3,k4,k5,k6,k7,k8,M,k9⟩:=k
  exact ⟨L,k1,k2,k3,k4,VRels.names dom s _ _ _ h4 k5,k6,k7,k8,M,by simp [Sg.low,dom _ _ _ h8,k9]⟩
 | defers t=>exact k
theorem cutT_get (n:Nat):∀ (l:List AT) (t:Nat),(cutT n l)[t]?=(l[t]?).map fun a=>⟨a.st,a.v.cut n⟩
 | [],t=>by simp [cutT]
 | a :: l,0=>by simp [cutT]
 | a :: l,t+1=>by simpa [cutT] using cutT_get n l t
theorem cutH_eq (n:Nat):∀ (k:Nat) (l:List ABlk),cutH n k l=(l.drop k).map fun b=>⟨b.wr,b.body.cut n⟩
 | 0,l=>by simp [cutH]
 | k+1,[]=>by simp [cutH]
 | k+1,a :: l=>by simpa [cutH] using cutH_eq n k l
theorem BRel.cut {σ:Sg} {n N:Nat} {b:ABody} {o:Obj} (h:BRel σ N b o) (hf:b.flat=true):BRel (σ.low n) N (b.cut n) o:=by
 cases b with
 | dead=>trivial
 | cells l=>obtain ⟨K,e,h1,h2,h3⟩:=h; exact ⟨K,e,h1,VRels.cut _ _ h2,h3⟩
 | grown l=>obtain ⟨K,e,X,Y,h1,h2,h3,h4⟩:=h; exact ⟨K,e,X,Y,h1,h2,VRels.cut _ _ h3,h4⟩
 | ints k xs=>exact h
 | map es=>cases hf
 | view l=>cases hf
 | rows k xs=>cases hf
 | loop r=>cases hf
 | defers t=>exact h
structure CutOk (σ:Sg) (n:Nat) (s:St):Prop where
 t:∀ (t:Nat) (c:AT),(cutAt n s).1[t]?=some c->∃ c',s.tmps[t]?=some c'/\c'.st=c.st/\∀ V,VRel σ c'.v V->VRel (σ.low n) c.v V
 h:∀ (i:Nat) (c:ABlk),i<n->(cutAt n s).2[n - 1 - i]?=some c->∃ c',s.hp.get i=some c'/\c'.wr=c.wr/\c'.body.isDead=c.body.isDead/\c'.body.flat=c.body.flat/\(c.body.flat=false->c=c') /\
  ∀ N o,c.body.flat=true->BRel σ N c'.body o->BRel (σ.low n) N c.body o
theorem flat_cut (n:Nat) (b:ABody):(b.cut n).flat=b.flat/\(b.cut n).isDead=b.isDead/\(b.flat=false->b.cut n=b):=by
 cases b <;> exact ⟨rfl,rfl,fun h=>by first|rfl|cases h⟩
theorem cut_ok {σ:Sg} {n:Nat} {s:St} {T:Array Value} {D:List Deferred} {W:World} (r:SRel σ s T D W) (hn:n<=s.hp.size):CutOk σ n s:=by
 cases e':Nat.beq s.hp.size n with
 | true=>
  have e:=Nat.eq_of_beq_eq_true e'
  have hl:σ.low n=σ:=Sg.low_all fun i B N h=>by rw [<- e]; exact (r.h.dom i B N h).1
  constructor
  .intro t c h
   simp only [cutAt,e'] at h
   exact ⟨c,h,rfl,fun V hV=>by rw [hl]; exact hV⟩
  .intro i c hi h
   simp only [cutAt,e'] at h
   refine ⟨c,?_,rfl,rfl,rfl,fun _=>rfl,fun N o _ hb=>by rw [hl]; exact hb⟩
   rw [Hp.get_eq,e,if_pos hi]; exact h
 | false=>
  constructor
  .intro t c h
   simp only [cutAt,e'] at h
   rw [cutT_get] at h
   cases h1:s.tmps[t]? with
   | none=>rw [h1] at h; cases h
   | some a=>
    rw [h1] at h; cases h
    exact ⟨a,rfl,rfl,fun V hV=>VRel.cut _ _ hV⟩
  .intro i c hi h
   simp only [cutAt,e'] at h
   rw [cutH_eq,List.getElem?_map,List.getElem?_drop,show s.hp.size - n+(n - 1 - i)=s.hp.size - 1 - i by omega] at h
   cases h1:s.hp.blks[s.hp.size - 1 - i]? with
   | none=>rw [h1] at h; cases h
   | some a=>
    rw [h1] at h; cases h
    obtain ⟨f1,f2,f3⟩:=flat_cut n a.body
    refine ⟨a,?_,rfl,f2.symm,f1.symm,fun hf=>?_,fun N o hf hb=>BRel.cut hb (by rw [<- f1]; exact hf)⟩
    .rw [Hp.get_eq,if_pos (by omega)]; exact h1
    .have:=f3 (by rw [<- f1]; exact hf)
     show (⟨a.wr,ABody.cut n a.body⟩:ABlk)=a
     rw [this]
theorem low_dom {σ:Sg} {n:Nat} {i:Nat} {x:Nat×Nat} (h:σ.low n i=some x):i<n/\σ i=some x:=by
 unfold Sg.low at h
 split at h
 .exact ⟨by assumption,h⟩
 .cases h
theorem mergeSt_relH {H:Nat->Prop} {σ0:Sg} {s0:St} {T0:Array Value} {D0:List Deferred} {W0:World} (r0:SRel σ0 s0 T0 D0 W0) {p:Bool} {a b m:St} (e:mergeSt s0 p a b=some m) {σ:Sg} {T:Array Value} {D:List Deferred} {W:World}
  (ra:p=true->SRel σ a T D W/\StepH H σ0 s0 W0 σ a W) (rb:p=false->SRel σ b T D W/\StepH H σ0 s0 W0 σ b W):∃ τ,SRel τ m T D W/\StepH H σ0 s0 W0 τ m W:=by
 unfold mergeSt at e
 simp only at e
 split at e
 .cases e
 split at e
 .cases e
 .rename_i hc
  simp only [Bool.and_eq_true,Nat.ble_eq] at hc
  obtain ⟨⟨hn,hdefs⟩,hdu⟩:=hc
  have hdefs:=sameDefs_eq _ _ hdefs
  split at e
  .cases e
  .rename_i t ht
   split at e
   .cases e
   .rename_i h hh
    cases e
    generalize hN:Nat.min a.hp.size b.hp.size=n at *
    have hna:n<=a.hp.size:=by rw [<- hN]; exact Nat.min_le_left _ _
    have hnb:n<=b.hp.size:=by rw [<- hN]; exact Nat.min_le_right _ _
    obtain ⟨t1,t2,t3,t4⟩:=mergeT_spec _ _ _ _ ht
    obtain ⟨g1,g2⟩:=mergeH_spec hn r0.h.ok hh
    obtain ⟨act,hact⟩:∃ act,act=bif p then a else b:=⟨_,rfl⟩
    have hr:SRel σ act T D W/\StepH H σ0 s0 W0 σ act W:=by
     cases p
     .rw [hact]; exact rb rfl
     .rw [hact]; exact ra rfl
    obtain ⟨r,st⟩:=hr
    have hnact:n<=act.hp.size:=by cases p <;> (rw [hact]; assumption)
    have cu:=cut_ok r hnact
    have hsub:Sub σ0 (σ.low n):=fun i x hx=>by
     have h1:=st.good.sub i x hx
     have h2:=(r0.h.dom i _ _ hx).1
     unfold Sg.low; rw [if_pos (by omega)]; exact h1
    have hget:∀ i c,(⟨h,n,max a.hp.clock b.hp.clock⟩:Hp).get i=some c->i<n/\h[n - 1 - i]?=some c:=by
     intro i c hi
     rw [Hp.get_eq] at hi
     by_cases hlt:i<n
     .rw [if_pos hlt] at hi; exact ⟨hlt,hi⟩
     .rw [if_neg hlt] at hi; cases hi
    have main:∀ i c,(⟨h,n,max a.hp.clock b.hp.clock⟩:Hp).get i=some c->∃ x,act.hp.get i=some x/\(c.wr<s0.hp.clock->i<s0.hp.size->x.wr<s0.hp.clock)/\(i<s0.hp.size->x.wr<s0.hp.clock/\s0.hp.get i=some c\/s0.hp.clock<=c.wr) /\
      (c.body.isDead=false->x.body.isDead=false/\∀ N B o,σ i=some (B,N)->BRel σ N x.body o->W.heap[B]?=some o->BRel (σ.low n) N c.body o)/\(c.body.isDead=false->x.body.isView=true->c.body.isView=true)/\(s0.hp.clock<=x.wr->i<s0.hp.size->s0.hp.clock<=c.wr):=by
     intro i c hc
     obtain ⟨hlt,hc⟩:=hget i c hc
     obtain ⟨xa,xb,ha1,hb1,hcase⟩:=g2 i c hlt hc
     obtain ⟨xc,hxc⟩:∃ xc,xc=bif p then xa else xb:=⟨_,rfl⟩
     have hxc1:(cutAt n act).2[n - 1 - i]?=some xc:=by
      cases p
      .rw [hact,hxc]; exact hb1
      .rw [hact,hxc]; exact ha1
     obtain ⟨x,x1,x2,x3,x4,x5,x6⟩:=cu.h i xc hlt hxc1
     have hwr:xc.wr=xa.wr\/xc.wr=xb.wr:=by cases p <;> simp [hxc]
     have pa:∀ {N:Nat} {o:Obj},BRel σ N x.body o->p=true->xa.body.flat=true->BRel (σ.low n) N xa.body o:=fun hb hp hf=>by
      subst hp; simp at hxc; subst hxc; exact x6 _ _ hf hb
     have pb:∀ {N:Nat} {o:Obj},BRel σ N x.body o->p=false->xb.body.flat=true->BRel (σ.low n) N xb.body o:=fun hb hp hf=>by
      subst hp; simp at hxc; subst hxc; exact x6 _ _ hf hb
     have live:∀ {b0 d},mergeB p b0 xa.body xb.body=some d->d.isDead=false->x.body.isDead=false:=fun hd hl=>by
      obtain ⟨l1,l2⟩:=mergeB_live hd hl
      rw [x3]
      cases p
      .rw [hxc]; exact l2
      .rw [hxc]; exact l1
     have solid:∀ {b0 d},mergeB p b0 xa.body xb.body=some d->d.isDead=false->x.body.isView=true->d.isView=true:=fun hd hl hv=>by
      obtain ⟨l1,l2⟩:=mergeB_solid hd hl
      have hxv:xc.body.isView=false:=by
       cases p
       .rw [hxc]; exact l2
       .rw [hxc]; exact l1
      have hf:x.body.flat=false:=by
       unfold ABody.isView at hv
       split at hv
       .rename_i l hb; rw [hb]; rfl
       .rename_i l hb; rw [hb]; rfl
       .cases hv
      have:=x5 (by rw [<- x4]; exact hf)
      rw [this,hv] at hxv; cases hxv
     refine ⟨x,x1,?_⟩
     rcases hcase with ⟨hk,d,hd,rfl⟩|⟨hk,y,hy,hcase⟩
     .refine ⟨fun _ hi=>absurd hi (Nat.not_lt.2 hk),fun hi=>absurd hi (Nat.not_lt.2 hk),fun hl=>⟨live hd hl,fun N B o _ hb _=>mergeB_rel (by simp) hd hl (pa hb) (pb hb)⟩,fun hl hv=>solid hd hl hv,fun _ hi=>absurd hi (Nat.not_lt.2 hk)⟩
     .have hy':s0.hp.get i=some y:=by rw [Hp.get_eq,if_pos hk]; exact hy
      rcases hcase with ⟨w1,w2,rfl⟩|⟨w,d,hd,rfl⟩
      .-- nothing was written
       have hxw:x.wr<s0.hp.clock:=by rcases hwr with h1|h1 <;> omega
       have hxy:x=c:=by
        rcases st.good.mon.same i c x hy' x1 with h1|h1
        .exact h1
        .omega
       subst hxy
       refine ⟨fun _ _=>hxw,fun _=>.inl ⟨hxw,hy'⟩,fun hl=>⟨hl,fun N B o hB hb ho=>?_⟩,fun _ hv=>hv,fun h1 _=>by omega⟩
       obtain ⟨B0,N0,o0,q1,q2,q3⟩:=r0.h.blk i x hy' hl
       exact BRel.names (fun i B N h=>Nat.lt_of_lt_of_le (r0.h.dom i B N h).1 hn) st.good.sub q3 hb
      .refine ⟨fun h1 _=>by rcases hwr with h2|h2 <;> (simp only at h1; omega),fun _=>.inr (by simp only; omega),fun hl=>⟨live hd hl,fun N B o hB hb ho=>?_⟩,fun hl hv=>solid hd hl hv,fun h1 _=>by rcases hwr with h2|h2 <;> (simp only; omega)⟩
       by_cases hlp:∃ L,y.body=.loop L
       .obtain ⟨L,hL⟩:=hlp
        obtain ⟨yw,yb⟩:=y
        simp only at hL; subst hL
        obtain ⟨w',s',pd',hxl⟩:=st.good.mon.loop i yw L hy'
        rw [x1] at hxl; cases hxl
        simp only [mergeB] at hd
        split at hd
        .rename_i u hu
         split at hd
         .rename_i v hv
          split at hd
          .rename_i hs
           simp only [Bool.and_eq_true] at hs
           have e1:=sameState_eq hs.1
           have e2:=sameJump_eq hs.2
           cases hd
           have hxb:xc.body=.loop { L with state:=s',pending:=pd' }:=by
            have:=x5 (by rw [<- x4]; rfl)
            rw [this]
           have hst:u.state=s'/\u.pending=pd':=by
            cases p
            .simp at hxc; subst hxc; rw [hv] at hxb; cases hxb; exact ⟨e1,e2⟩
            .simp at hxc; subst hxc; rw [hu] at hxb; cases hxb; exact ⟨rfl,rfl⟩
           obtain ⟨B0,N0,o0,q1,q2,L0,rfl,_,_,_,c4,_,_,_,M0,c9⟩:=r0.h.blk i _ hy' rfl
           obtain ⟨L1,rfl,d1,d2,d3,d4,d5,d6,d7,M1,d8⟩:=hb
           refine ⟨L1,rfl,by rw [d1,hst.1],by rw [d2,hst.2],d3,?_,d5,d6,d7,M1,?_⟩
           .exact VRels.names (fun i B N h=>Nat.lt_of_lt_of_le (r0.h.dom i B N h).1 hn) st.good.sub _ _ _ c4 d4
           .have:=(r0.h.dom _ _ _ c9).1
            unfold Sg.low; rw [if_pos (by simp only at this ⊢; omega)]; exact d8
          .cases hd
         .cases hd
        .cases hd
       .exact mergeB_rel (fun c hc=>hlp ⟨c,by injection hc⟩) hd hl (pa hb) (pb hb)
    refine ⟨σ.low n,⟨?_,?_,⟨g1,?_,?_,?_⟩⟩,⟨⟨hsub,?_,st.good.ext,⟨?_,hn,?_,?_⟩,?_,?_⟩,?_,?_⟩⟩
    .-- the temporaries
     have hlen:T.size=s0.tmps.length:=by
      have h1:=VRels.length r.t
      have h2:=st.tm.len
      simp at h1; omega
     have build:∀ (l:List AT) (L:List Value),l.length=L.length->(∀ (j:Nat) (c:AT) (V:Value),l[j]?=some c->L[j]?=some V->VRel (σ.low n) c.v V)->VRels (σ.low n) (l.map (·.v)) L:=by
      intro l
      induction l with
      | nil=>intro L hl _; cases L with|nil=>rfl|cons _ _=>simp at hl
      | cons c l ih=>
       intro L hl hj
       cases L with
       | nil=>simp at hl
       | cons V L=>exact ⟨V,L,rfl,hj 0 c V rfl rfl,ih L (by simpa using hl) fun j c V h1 h2=>hj (j+1) c V (by simpa using h1) (by simpa using h2)⟩
     refine build t T.toList (by simp [t1,hlen]) fun j c V h1 h2=>?_
     obtain ⟨x,xa,xb,q1,q2,q3,hcase⟩:=t4 j c h1
     obtain ⟨xc,hxc⟩:∃ xc,xc=bif p then xa else xb:=⟨_,rfl⟩
     have hxc1:(cutAt n act).1[j]?=some xc:=by
      cases p
      .rw [hact,hxc]; exact q3
      .rw [hact,hxc]; exact q2
     obtain ⟨z,z1,z2,z3⟩:=cu.t j xc hxc1
     have hz:VRel σ z.v V:=by
      obtain ⟨V',v1,v2⟩:=r.t.nth (t:=j) (a:=z) (by rw [nth_eq]; exact z1)
      have:T.toList[j]?=some V':=by simpa using v1
      rw [h2] at this; cases this; exact v2
     rcases hcase with ⟨w1,w2,rfl⟩|⟨w,rfl⟩
     .have hzs:z.st<s0.hp.clock:=by rw [z2]; cases p <;> simp [hxc] <;> omega
      have hzc:z=c:=by
       rcases st.tm.same j z z1 with h3|h3
       .rw [q1] at h3; cases h3; rfl
       .omega
      subst hzc
      obtain ⟨V0,v1,v2⟩:=r0.t.nth (t:=j) (a:=z) (by rw [nth_eq]; exact q1)
      exact VRel.names (fun i B N h=>Nat.lt_of_lt_of_le (r0.h.dom i B N h).1 hn) st.good.sub _ _ _ v2 hz
     .refine mergeV_rel p _ _ _ (fun hp=>?_) (fun hp=>?_)
      .subst hp; simp at hxc; subst hxc; exact z3 _ hz
      .subst hp; simp at hxc; subst hxc; exact z3 _ hz
    .-- the deferred calls
     have hd:act.defs=a.defs:=by cases p <;> rw [hact] <;> simp [hdefs]
     have h1:=r.d
     rw [hd] at h1
     exact DRel.low hdu h1
    .intro i c hc hd
     obtain ⟨x,x1,_,_,x4,_⟩:=main i c hc
     obtain ⟨x5,x6⟩:=x4 hd
     obtain ⟨B,N,o,q1,q2,q3⟩:=r.h.blk i x x1 x5
     exact ⟨B,N,o,by unfold Sg.low; rw [if_pos (hget i c hc).1]; exact q1,q2,x6 N B o q1 q3 q2⟩
    .intro i B N hi
     obtain ⟨h1,h2⟩:=low_dom hi
     exact ⟨h1,(r.h.dom i B N h2).2⟩
    .intro i j c d B N M hc hd hcl hdl h1 h2
     obtain ⟨x,x1,_,_,x4,x9,_⟩:=main i c hc
     obtain ⟨y,y1,_,_,y4,y9,_⟩:=main j d hd
     exact (r.h.inj i j x y B N M x1 y1 (x4 hcl).1 (y4 hdl).1 (low_dom h1).2 (low_dom h2).2).imp_right fun h=>⟨x9 hcl h.1,y9 hdl h.2⟩
    .intro i x hi hlt
     exact st.good.only i x (low_dom hi).2 hlt
    .have:=st.good.mon.clock
     show s0.hp.clock<=max a.hp.clock b.hp.clock
     cases p <;> rw [hact] at this <;> simp at this <;> omega
    .intro i y c hy hc
     obtain ⟨x,x1,x2,x3,_,_⟩:=main i c hc
     rcases x3 (Hp.get_lt hy) with ⟨_,h1⟩|h1
     .rw [hy] at h1; cases h1; exact .inl rfl
     .exact .inr h1
    .intro i w c hy
     have hlt:=Hp.get_lt hy
     have hlt2:i<n:=Nat.lt_of_lt_of_le hlt hn
     obtain ⟨d,hd⟩:∃ d,h[n - 1 - i]?=some d:=⟨_,List.getElem?_eq_getElem (by rw [g1]; omega)⟩
     have hdg:(⟨h,n,max a.hp.clock b.hp.clock⟩:Hp).get i=some d:=by rw [Hp.get_eq,if_pos hlt2]; exact hd
     obtain ⟨xa,xb,_,_,hcase⟩:=g2 i d hlt2 hd
     rcases hcase with ⟨hk,_⟩|⟨hk,y,hy',hcase⟩
     .omega
     .have hy2:s0.hp.get i=some y:=by rw [Hp.get_eq,if_pos hk]; exact hy'
      rw [hy] at hy2; cases hy2
      rcases hcase with ⟨_,_,rfl⟩|⟨_,d',hd',rfl⟩
      .exact ⟨w,c.state,c.pending,hdg⟩
      .simp only [mergeB] at hd'
       split at hd'
       .split at hd'
        .split at hd'
         .cases hd'; exact ⟨_,_,_,hdg⟩
         .cases hd'
        .cases hd'
       .cases hd'
    .intro i B N hi hs hB
     obtain ⟨h1,h2⟩:=low_dom hi
     refine (st.good.old i B N h2 hs hB).imp id ?_
     rintro ⟨j,M,c,q1,q2,q3,q4⟩
     have hjn:j<n:=Nat.lt_of_lt_of_le q1 hn
     obtain ⟨d,hd⟩:∃ d,h[n - 1 - j]?=some d:=⟨_,List.getElem?_eq_getElem (by rw [g1]; omega)⟩
     have hdg:(⟨h,n,max a.hp.clock b.hp.clock⟩:Hp).get j=some d:=by rw [Hp.get_eq,if_pos hjn]; exact hd
     obtain ⟨x,x1,_,_,_,_,x5⟩:=main j d hdg
     rw [q3] at x1; cases x1
     exact ⟨j,M,d,q1,q2,hdg,x5 q4 q1⟩
    .intro B hB hH hw
     refine st.good.keep B hB hH fun i N c hi hg=>?_
     have hlt:=(r0.h.dom i B N hi).1
     have hin:i<n:=Nat.lt_of_lt_of_le hlt hn
     obtain ⟨d,hd⟩:∃ d,h[n - 1 - i]?=some d:=⟨_,List.getElem?_eq_getElem (by rw [g1]; omega)⟩
     have hdg:(⟨h,n,max a.hp.clock b.hp.clock⟩:Hp).get i=some d:=by rw [Hp.get_eq,if_pos hin]; exact hd
     obtain ⟨x,x1,x2,_,_,_⟩:=main i d hdg
     rw [hg] at x1; cases x1
     exact x2 (hw i N d hi hdg) hlt
    .exact t1
    .intro j c hc
     obtain ⟨x,xa,xb,q1,_,_,hcase⟩:=t4 j c hc
     rcases hcase with ⟨_,_,rfl⟩|⟨w,rfl⟩
     .exact .inl q1
     .exact .inr (by simp only; omega)
theorem mergeSt_rel {σ0:Sg} {s0:St} {T0:Array Value} {D0:List Deferred} {W0:World} (r0:SRel σ0 s0 T0 D0 W0) {p:Bool} {a b m:St} (e:mergeSt s0 p a b=some m) {σ:Sg} {T:Array Value} {D:List Deferred} {W:World}
  (ra:p=true->SRel σ a T D W/\Step σ0 s0 W0 σ a W) (rb:p=false->SRel σ b T D W/\Step σ0 s0 W0 σ b W):∃ τ,SRel τ m T D W/\Step σ0 s0 W0 τ m W:=mergeSt_relH r0 e ra rb
end Go.Eng
namespace Go.Eng
inductive Via (s0:St):St->St->Prop where
 | refl (s:St):Via s0 s s
 | left {s b t u:St}:mergeSt s0 true s b=some t->Via s0 t u->Via s0 s u
 | right {s a t u:St}:mergeSt s0 false a s=some t->Via s0 t u->Via s0 s u
theorem Via.trans {s0 a b c:St} (h:Via s0 a b) (k:Via s0 b c):Via s0 a c:=by
 induction h with
 | refl=>exact k
 | left e _ ih=>exact .left e (ih k)
 | right e _ ih=>exact .right e (ih k)
theorem via_relH {H:Nat->Prop} {σ0:Sg} {s0:St} {T0:Array Value} {D0:List Deferred} {W0:World} (r0:SRel σ0 s0 T0 D0 W0) {s s':St} (v:Via s0 s s'):∀ {σ:Sg} {T:Array Value} {D:List Deferred} {W:World},
  SRel σ s T D W->StepH H σ0 s0 W0 σ s W->∃ τ,SRel τ s' T D W/\StepH H σ0 s0 W0 τ s' W:=by
 induction v with
 | refl s=>intro σ T D W r st; exact ⟨σ,r,st⟩
 | left e _ ih=>
  intro σ T D W r st
  obtain ⟨τ,r',st'⟩:=mergeSt_relH r0 e (σ:=σ) (T:=T) (D:=D) (W:=W) (fun _=>⟨r,st⟩) (fun h=>by cases h)
  exact ih r' st'
 | right e _ ih=>
  intro σ T D W r st
  obtain ⟨τ,r',st'⟩:=mergeSt_relH r0 e (σ:=σ) (T:=T) (D:=D) (W:=W) (fun h=>by cases h) (fun _=>⟨r,st⟩)
  exact ih r' st'
def One (l:List Ent) (e:Ent):Prop:=l.filter (fun e=>e.g.val)=[e]
def Non (l:List Ent):Prop:=l.filter (fun e=>e.g.val)=[]
def Got (s0:St) (l:List Ent) (x:Ex) (s:St):Prop:=∃ e,One l e/\e.x=x/\Via s0 s e.s
theorem sameEx_eq {a b:Ex} (h:sameEx a b=true):a=b:=by
 unfold sameEx at h
 split at h
 .rfl
 .rfl
 .rw [Nat.eq_of_beq_eq_true h]
 .rw [Nat.eq_of_beq_eq_true h]
 .rw [sameV_eq _ _ h]
 .cases h
@[simp] theorem G.val_and (p:Bool) (g:G):(g.and p).val=(p&&g.val):=by cases g <;> simp [G.and,G.val]
@[simp] theorem G.val_andG (g h:G):(g.andG h).val=(g.val&&h.val):=by cases g <;> cases h <;> simp [G.andG,G.and,G.val]
@[simp] theorem G.val_or (g h:G):(G.or g h).val=(g.val||h.val):=by cases g <;> cases h <;> simp [G.or,G.val]
@[simp] theorem G.val_ite (p:Bool) (g h:G):(G.ite p g h).val=(bif p then g.val else h.val):=by cases g <;> cases h <;> cases p <;> simp [G.ite,G.val]
theorem got_lone {s0:St} {l:List Ent} {x:Ex} {s:St} (h:Got s0 l x s):Got s0 (lone1 l) x s:=by
 obtain ⟨e,h1,h2,h3⟩:=h
 unfold lone1
 split
 .rename_i f
  have:f=e:=by
   unfold One at h1
   simp only [List.filter_cons,List.filter_nil] at h1
   split at h1
   .simpa using h1
   .cases h1
  subst this
  exact ⟨⟨.tt,f.x,f.s⟩,rfl,h2,h3⟩
 .exact ⟨e,h1,h2,h3⟩
theorem one_cons_true {l:List Ent} {e:Ent} (h:e.g.val=true) (k:Non l):One (e :: l) e:=by
 unfold One Non at *
 simp [h,k]
theorem one_cons_false {l:List Ent} {e f:Ent} (h:e.g.val=false) (k:One l f):One (e :: l) f:=by
 unfold One at *
 simp [h,k]
theorem non_cons {l:List Ent} {e:Ent} (h:e.g.val=false) (k:Non l):Non (e :: l):=by
 unfold Non at *
 simp [h,k]
theorem one_cases {l:List Ent} {a e:Ent} (h:One (a :: l) e):(a.g.val=true/\a=e/\Non l)\/(a.g.val=false/\One l e):=by
 unfold One Non at *
 simp only [List.filter_cons] at h
 cases ha:a.g.val with
 | true=>rw [ha] at h; simp at h; exact .inl ⟨rfl,h.1,by simpa using h.2⟩
 | false=>rw [ha] at h; exact .inr ⟨rfl,by simpa using h⟩
theorem non_cases {l:List Ent} {a:Ent} (h:Non (a :: l)):a.g.val=false/\Non l:=by
 unfold Non at *
 simp only [List.filter_cons] at h
 cases ha:a.g.val with
 | true=>rw [ha] at h; simp at h
 | false=>rw [ha] at h; exact ⟨rfl,by simpa using h⟩
theorem addE_other {s0:St} {e:Ent} (he:e.g.val=false):∀ {l:List Ent},(∀ f,One l f->Got s0 (addE s0 e l) f.x f.s)/\(Non l->Non (addE s0 e l))
 | []=>⟨fun f h=>by simp [One] at h,fun _=>non_cons he rfl⟩
 | a :: l=>by
  obtain ⟨i1,i2⟩:=addE_other (s0:=s0) he (l:=l)
  simp only [addE,G.on_eq]
  split
  .rename_i hx
   have hx:=sameEx_eq hx
   split
   .rename_i s hs
    rw [he] at hs
    refine ⟨fun f h=>?_,fun h=>?_⟩
    .rcases one_cases h with ⟨h1,rfl,h3⟩|⟨h1,h2⟩
     .exact ⟨_,one_cons_true (by simp [h1]) h3,hx,.right hs (.refl _)⟩
     .exact ⟨f,one_cons_false (by simp [h1,he]) h2,rfl,.refl _⟩
    .obtain ⟨h1,h2⟩:=non_cases h
     exact non_cons (by simp [h1,he]) h2
   .refine ⟨fun f h=>?_,fun h=>?_⟩
    .rcases one_cases h with ⟨h1,rfl,h3⟩|⟨h1,h2⟩
     .exact ⟨a,one_cons_true h1 (i2 h3),rfl,.refl _⟩
     .obtain ⟨f',q1,q2,q3⟩:=i1 f h2
      exact ⟨f',one_cons_false h1 q1,q2,q3⟩
    .obtain ⟨h1,h2⟩:=non_cases h
     exact non_cons h1 (i2 h2)
  .refine ⟨fun f h=>?_,fun h=>?_⟩
   .rcases one_cases h with ⟨h1,rfl,h3⟩|⟨h1,h2⟩
    .exact ⟨a,one_cons_true h1 (i2 h3),rfl,.refl _⟩
    .obtain ⟨f',q1,q2,q3⟩:=i1 f h2
     exact ⟨f',one_cons_false h1 q1,q2,q3⟩
   .obtain ⟨h1,h2⟩:=non_cases h
    exact non_cons h1 (i2 h2)
theorem addE_taken {s0:St} {e:Ent} (he:e.g.val=true):∀ {l:List Ent},Non l->Got s0 (addE s0 e l) e.x e.s
 | [],_=>⟨e,one_cons_true he rfl,rfl,.refl _⟩
 | a :: l,h=>by
  obtain ⟨h1,h2⟩:=non_cases h
  simp only [addE,G.on_eq]
  split
  .rename_i hx
   split
   .rename_i s hs
    rw [he] at hs
    exact ⟨_,one_cons_true (by simp [he]) h2,rfl,.left hs (.refl _)⟩
   .obtain ⟨f',q1,q2,q3⟩:=addE_taken (s0:=s0) he h2
    exact ⟨f',one_cons_false h1 q1,q2,q3⟩
  .obtain ⟨f',q1,q2,q3⟩:=addE_taken (s0:=s0) he h2
   exact ⟨f',one_cons_false h1 q1,q2,q3⟩
theorem addE_got {s0:St} {e:Ent} (he:e.g.val=false) {l:List Ent} {x:Ex} {s:St} (h:Got s0 l x s):Got s0 (addE s0 e l) x s:=by
 obtain ⟨f,h1,h2,h3⟩:=h
 obtain ⟨f',q1,q2,q3⟩:=(addE_other (s0:=s0) he).1 f h1
 exact ⟨f',q1,q2.trans h2,h3.trans q3⟩
theorem addAll_other {s0:St} {g:G} (hg:g.val=false):∀ {m l:List Ent},(∀ x s,Got s0 l x s->Got s0 (addAll s0 g m l) x s)/\(Non l->Non (addAll s0 g m l))
 | [],_=>⟨fun _ _ h=>h,fun h=>h⟩
 | e :: m,l=>by
  obtain ⟨i1,i2⟩:=addAll_other (s0:=s0) hg (m:=m) (l:=l)
  simp only [addAll]
  exact ⟨fun x s h=>addE_got (by simp [hg]) (i1 x s h),fun h=>(addE_other (by simp [hg])).2 (i2 h)⟩
theorem addAll_non {s0:St} {g:G}:∀ {m l:List Ent},Non m->Non l->Non (addAll s0 g m l)
 | [],_,_,h=>h
 | e :: m,l,hm,h=>by
  obtain ⟨h1,h2⟩:=non_cases hm
  simp only [addAll]
  exact (addE_other (by simp [h1])).2 (addAll_non h2 h)
theorem addAll_taken {s0:St} {g:G} (hg:g.val=true):∀ {m l:List Ent} {e:Ent},One m e->Non l->Got s0 (addAll s0 g m l) e.x e.s
 | [],_,_,h,_=>by simp [One] at h
 | a :: m,l,e,hm,h=>by
  simp only [addAll]
  rcases one_cases hm with ⟨h1,rfl,h3⟩|⟨h1,h2⟩
  .exact addE_taken (by simp [hg,h1]) (addAll_non h3 h)
  .exact addE_got (by simp [h1]) (addAll_taken hg h2 h)
theorem meetE_spec {s0:St} {p:Bool} {e:Ent}:∀ {l:List Ent} {r:Ent} {l':List Ent},meetE s0 p e l=some (r,l')->∃ l1 f l2 s,l=l1++f :: l2/\l'=l1++l2/\e.x=f.x/\mergeSt s0 p e.s f.s=some s/\r=⟨G.ite p e.g f.g,e.x,s⟩
 | [],r,l',h=>by simp [meetE] at h
 | f :: l,r,l',h=>by
  simp only [meetE] at h
  split at h
  .rename_i hx
   split at h
   .rename_i s hs
    cases h
    exact ⟨[],f,l,s,rfl,rfl,sameEx_eq hx,hs,rfl⟩
   .split at h
    .cases h
    .rename_i r' l'' h'
     cases h
     obtain ⟨l1,g,l2,s,rfl,rfl,q1,q2,q3⟩:=meetE_spec h'
     exact ⟨f :: l1,g,l2,s,rfl,rfl,q1,q2,q3⟩
  .split at h
   .cases h
   .rename_i r' l'' h'
    cases h
    obtain ⟨l1,g,l2,s,rfl,rfl,q1,q2,q3⟩:=meetE_spec h'
    exact ⟨f :: l1,g,l2,s,rfl,rfl,q1,q2,q3⟩
theorem one_append {l1 l2:List Ent} {f e:Ent} (h:One (l1++f :: l2) e):(f.g.val=true/\f=e/\Non (l1++l2))\/(f.g.val=false/\One (l1++l2) e):=by
 unfold One Non at *
 simp only [List.filter_append,List.filter_cons] at h ⊢
 cases hf:f.g.val with
 | false=>rw [hf] at h; exact .inr ⟨rfl,by simpa using h⟩
 | true=>
  rw [hf] at h
  left
  simp only [if_true] at h
  generalize h1:l1.filter (fun e=>e.g.val)=A at *
  generalize h2:l2.filter (fun e=>e.g.val)=B at *
  cases A with
  | nil=>simp at h; exact ⟨rfl,h.1,by simpa using h.2⟩
  | cons a A=>simp at h
theorem joinL_true {s0:St}:∀ {l m:List Ent},(∀ e,One l e->Got s0 (joinL s0 true l m) e.x e.s)/\(Non l->Non (joinL s0 true l m))
 | [],m=>⟨fun e h=>by simp [One] at h,fun _=>by
  unfold Non
  simp only [joinL]
  induction m with
  | nil=>rfl
  | cons a m ih=>simp⟩
 | a :: l,m=>by
  simp only [joinL]
  split
  .rename_i r m' hm
   obtain ⟨l1,f,l2,s,rfl,rfl,q1,q2,rfl⟩:=meetE_spec hm
   obtain ⟨i1,i2⟩:=joinL_true (s0:=s0) (l:=l) (m:=l1++l2)
   refine ⟨fun e h=>?_,fun h=>?_⟩
   .rcases one_cases h with ⟨h1,rfl,h3⟩|⟨h1,h2⟩
    .exact ⟨_,one_cons_true (by simp [h1]) (i2 h3),rfl,.left q2 (.refl _)⟩
    .obtain ⟨f',p1,p2,p3⟩:=i1 e h2
     exact ⟨f',one_cons_false (by simp [h1]) p1,p2,p3⟩
   .obtain ⟨h1,h2⟩:=non_cases h
    exact non_cons (by simp [h1]) (i2 h2)
  .obtain ⟨i1,i2⟩:=joinL_true (s0:=s0) (l:=l) (m:=m)
   refine ⟨fun e h=>?_,fun h=>?_⟩
   .rcases one_cases h with ⟨h1,rfl,h3⟩|⟨h1,h2⟩
    .exact ⟨_,one_cons_true (by simp [h1]) (i2 h3),rfl,.refl _⟩
    .obtain ⟨f',p1,p2,p3⟩:=i1 e h2
     exact ⟨f',one_cons_false (by simp [h1]) p1,p2,p3⟩
   .obtain ⟨h1,h2⟩:=non_cases h
    exact non_cons (by simp [h1]) (i2 h2)
theorem joinL_false {s0:St}:∀ {l m:List Ent},(∀ e,One m e->Got s0 (joinL s0 false l m) e.x e.s)/\(Non m->Non (joinL s0 false l m))
 | [],m=>⟨fun e h=>by
   simp only [joinL]
   refine ⟨⟨e.g.and !false,e.x,e.s⟩,?_,rfl,.refl _⟩
   unfold One at *
   rw [List.filter_map]
   have:((fun e:Ent=>e.g.val) ∘ fun e:Ent=>(⟨e.g.and !false,e.x,e.s⟩:Ent))=fun e:Ent=>e.g.val:=by funext x; simp
   rw [this,h]; rfl,fun h=>by
   unfold Non at *
   simp only [joinL]
   rw [List.filter_map]
   have:((fun e:Ent=>e.g.val) ∘ fun e:Ent=>(⟨e.g.and !false,e.x,e.s⟩:Ent))=fun e:Ent=>e.g.val:=by funext x; simp
   rw [this,h]; rfl⟩
 | a :: l,m=>by
  simp only [joinL]
  split
  .rename_i r m' hm
   obtain ⟨l1,f,l2,s,rfl,rfl,q1,q2,rfl⟩:=meetE_spec hm
   obtain ⟨i1,i2⟩:=joinL_false (s0:=s0) (l:=l) (m:=l1++l2)
   refine ⟨fun e h=>?_,fun h=>?_⟩
   .rcases one_append h with ⟨h1,rfl,h3⟩|⟨h1,h2⟩
    .exact ⟨_,one_cons_true (by simp [h1]) (i2 h3),q1,.right q2 (.refl _)⟩
    .obtain ⟨f',p1,p2,p3⟩:=i1 e h2
     exact ⟨f',one_cons_false (by simp [h1]) p1,p2,p3⟩
   .have hf:f.g.val=false/\Non (l1++l2):=by
     unfold Non at *
     simp only [List.filter_append,List.filter_cons] at h ⊢
     cases hf:f.g.val with
     | true=>rw [hf] at h; simp at h
     | false=>rw [hf] at h; exact ⟨rfl,by simpa using h⟩
    exact non_cons (by simp [hf.1]) (i2 hf.2)
  .obtain ⟨i1,i2⟩:=joinL_false (s0:=s0) (l:=l) (m:=m)
   refine ⟨fun e h=>?_,fun h=>?_⟩
   .obtain ⟨f',p1,p2,p3⟩:=i1 e h
    exact ⟨f',one_cons_false (by simp) p1,p2,p3⟩
   .exact non_cons (by simp) (i2 h)
def Fits (Q:Ex->St->Prop) (q:R):Prop:=q.need->∃ e,One q.l e/\Q e.x e.s
def Closed (s0:St) (Q:Ex->St->Prop):Prop:=∀ x s s',Q x s->Via s0 s s'->Q x s'
theorem Closed.got {s0:St} {Q:Ex->St->Prop} (c:Closed s0 Q) {l:List Ent} {x:Ex} {s:St} (h:Q x s) (g:Got s0 l x s):∃ e,One l e/\Q e.x e.s:=by
 obtain ⟨e,h1,h2,h3⟩:=g
 exact ⟨e,h1,by rw [h2]; exact c x s e.s h h3⟩
theorem seqL_fits {s0:St} {Q Q1:Ex->St->Prop} (c:Closed s0 Q) {f:St->Option R} (hf:∀ s q,f s=some q->Q1 .normal s->Fits Q q) (hx:∀ x s,x≠.normal->Q1 x s->Q x s):
  ∀ {l:List Ent} {q:R},seqL s0 f l=some q->(Non l->Non q.l)/\(∀ e,One l e->Q1 e.x e.s->q.need->∃ e',One q.l e'/\Q e'.x e'.s)
 | [],q,h=>by cases h; exact ⟨fun _=>rfl,fun e he=>by simp [One] at he⟩
 | a :: l,q,h=>by
  simp only [seqL] at h
  split at h
  .cases h
  .rename_i r hr
   obtain ⟨i1,i2⟩:=seqL_fits c hf hx hr
   split at h
   .rename_i hax
    split at h
    .cases h
    .rename_i q' hq'
     cases h
     refine ⟨fun hn=>?_,fun e he hQ hnd=>?_⟩
     .obtain ⟨h1,h2⟩:=non_cases hn
      exact (addAll_other h1).2 (i1 h2)
     .rcases one_cases he with ⟨h1,rfl,h3⟩|⟨h1,h2⟩
      .rw [hax] at hQ
       obtain ⟨e',q1,q2⟩:=hf _ _ hq' hQ (Nd.iv (g:=a.g.val=true) (by have:=Nd.lv hnd; rw [G.on_eq] at this; exact this) h1)
       exact c.got q2 (addAll_taken h1 q1 (i1 h3))
      .obtain ⟨e',q1,q2⟩:=i2 e h2 hQ (Nd.rv hnd)
       exact c.got q2 ((addAll_other h1).1 _ _ ⟨e',q1,rfl,.refl _⟩)
   .rename_i hax
    cases h
    refine ⟨fun hn=>?_,fun e he hQ hnd=>?_⟩
    .obtain ⟨h1,h2⟩:=non_cases hn
     exact (addE_other h1).2 (i1 h2)
    .rcases one_cases he with ⟨h1,rfl,h3⟩|⟨h1,h2⟩
     .exact c.got (hx _ _ (fun h=>hax h) hQ) (addE_taken h1 (i1 h3))
     .obtain ⟨e',q1,q2⟩:=i2 e h2 hQ hnd
      exact c.got q2 (addE_got h1 ⟨e',q1,rfl,.refl _⟩)
theorem lone_fits {Q:Ex->St->Prop} {nd:Nd} {l:List Ent} (h:Fits Q ⟨nd,l⟩):Fits Q ⟨nd,lone1 l⟩:=fun hn=>by
 obtain ⟨e,h1,h2⟩:=h hn
 unfold lone1
 split
 .rename_i f
  rcases one_cases h1 with ⟨_,rfl,_⟩|⟨_,h3⟩
  .exact ⟨⟨.tt,f.x,f.s⟩,rfl,h2⟩
  .simp [One] at h3
 .exact ⟨e,h1,h2⟩
theorem seqR_fits {s0:St} {Q Q1:Ex->St->Prop} (c:Closed s0 Q) {f:St->Option R} (hf:∀ s q,f s=some q->Q1 .normal s->Fits Q q) (hx:∀ x s,x≠.normal->Q1 x s->Q x s)
  {r:Option R} {q:R} (e:seqR s0 r f=some q) (h:∀ r',r=some r'->Fits Q1 r'):Fits Q q:=by
 unfold seqR at e
 split at e
 .cases e
 .rename_i nd s
  split at e
  .cases e
  .rename_i q' hq'
   cases e
   intro hn
   obtain ⟨e',h1,h2⟩:=h _ rfl (Nd.lv hn)
   rcases one_cases h1 with ⟨_,rfl,_⟩|⟨_,h3⟩
   .obtain ⟨e2,p1,p2⟩:=hf _ q' hq' h2 (Nd.rv hn)
    exact ⟨e2,p1,p2⟩
   .simp [One] at h3
 .rename_i nd l _
  split at e
  .cases e
  .rename_i q' hq'
   cases e
   refine lone_fits (fun hn=>?_)
   obtain ⟨e',h1,h2⟩:=h _ rfl (Nd.lv hn)
   exact (seqL_fits c hf hx hq').2 e' h1 h2 (Nd.rv hn)
theorem joinR_fits {s0:St} {Q:Ex->St->Prop} (c:Closed s0 Q) {p:Bool} {a b:R} (ha:p=true->Fits Q a) (hb:p=false->Fits Q b):Fits Q (joinR s0 p a b):=by
 unfold joinR
 refine lone_fits (fun hn=>?_)
 cases p with
 | true=>
  obtain ⟨e,h1,h2⟩:=ha rfl (Nd.iv (Nd.lv hn) rfl)
  exact c.got h2 (joinL_true.1 e h1)
 | false=>
  obtain ⟨e,h1,h2⟩:=hb rfl (Nd.iv (Nd.rv hn) rfl)
  exact c.got h2 (joinL_false.1 e h1)
end Go.Eng
namespace Go.Eng
structure Base where
 fn:FuncId
 kind:CallKind
 round:Option Nat
def Base.fr (b:Base) (T:Array Value) (D:List Deferred) (todo:List Item):Frame:=
 { fn:=b.fn,tmps:=T,todo,defers:=D,mode:=.run,kind:=b.kind,roundOf:=b.round }
def Base.pan (b:Base) (T:Array Value) (D:List Deferred) (todo:List Item) (V:Value):Frame:=
 { fn:=b.fn,tmps:=T,todo,defers:=D,mode:=.panicking [{ v:=V,recovered:=false }],kind:=b.kind,roundOf:=b.round }
theorem Base.raise_fr (b:Base) (T:Array Value) (D:List Deferred) (todo:List Item) (V:Value):(b.fr T D todo).raise [{ v:=V,recovered:=false }]=b.pan T D todo V:=rfl
def noSg:Sg:=fun _=>none
def Arr (P:Program) (m:Machine) (b:Base) (k:List Item) (cs:List Frame):Ex->Array Value->List Deferred->World->Prop
 | .normal,T,D,W=>Steps P m (lone (b.fr T D k) cs W)
 | .exit i,T,D,W=>∃ k1,exitTo i k1=exitTo i k/\Steps P m (lone (b.fr T D (.code (.exit i) :: k1)) cs W)
 | .goto l,T,D,W=>∃ k1,gotoIn l k1=gotoIn l k/\Steps P m (lone (b.fr T D (.code (.goto l) :: k1)) cs W)
 | .ret,T,D,W=>∃ k1,Steps P m (lone (b.fr T D (.code .ret :: k1)) cs W)
 | .raise a,T,D,W=>∃ k1 V,VRel noSg a V/\Steps P m (lone (b.pan T D k1 V) cs W)
theorem Arr.of_steps {P:Program} {m m':Machine} {b:Base} {k:List Item} {cs:List Frame} {x:Ex} {T:Array Value} {D:List Deferred} {W:World} (h:Steps P m m') (a:Arr P m' b k cs x T D W):Arr P m b k cs x T D W:=by
 cases x with
 | normal=>exact h.trans a
 | exit i=>obtain ⟨k1,h1,h2⟩:=a; exact ⟨k1,h1,h.trans h2⟩
 | goto l=>obtain ⟨k1,h1,h2⟩:=a; exact ⟨k1,h1,h.trans h2⟩
 | ret=>obtain ⟨k1,h2⟩:=a; exact ⟨k1,h.trans h2⟩
 | raise v=>obtain ⟨k1,V,h1,h2⟩:=a; exact ⟨k1,V,h1,h.trans h2⟩
theorem Arr.pass {P:Program} {m:Machine} {b:Base} {y:Item} {k:List Item} {cs:List Frame} {x:Ex} {T:Array Value} {D:List Deferred} {W:World} (hy:y.plain=true) (hx:x≠.normal) (a:Arr P m b (y :: k) cs x T D W):Arr P m b k cs x T D W:=by
 cases x with
 | normal=>exact absurd rfl hx
 | exit i=>obtain ⟨k1,h1,h2⟩:=a; exact ⟨k1,h1.trans (by cases y <;> simp_all [exitTo,Item.plain]),h2⟩
 | goto l=>obtain ⟨k1,h1,h2⟩:=a; exact ⟨k1,h1.trans (by cases y <;> simp_all [gotoIn,Item.plain]),h2⟩
 | ret=>exact a
 | raise v=>exact a
section moves
variable {P:Program} {b:Base} {T:Array Value} {D:List Deferred} {k:List Item} {cs:List Frame} {W:World}
theorem eval_fr (x:Operand) (todo:List Item):(b.fr T D todo).eval x=ev T x:=by cases x <;> rfl
theorem eval_fr' (todo:List Item):(b.fr T D todo).eval=ev T:=funext fun x=>eval_fr x todo
theorem st_skip:step P (lone (b.fr T D (.code .skip :: k)) cs W)=.next (lone (b.fr T D k) cs W):=step_lone_go (by simp [stepG,stepG.exec,Base.fr])
theorem st_label {l:Nat}:step P (lone (b.fr T D (.code (.label l) :: k)) cs W)=.next (lone (b.fr T D k) cs W):=step_lone_go (by simp [stepG,stepG.exec,Base.fr])
theorem st_inBlock {i:Nat}:step P (lone (b.fr T D (.inBlock i :: k)) cs W)=.next (lone (b.fr T D k) cs W):=step_lone_go (by simp [stepG,stepG.exec,Base.fr])
theorem st_inScope {a:Code}:step P (lone (b.fr T D (.inScope a :: k)) cs W)=.next (lone (b.fr T D k) cs W):=step_lone_go (by simp [stepG,stepG.exec,Base.fr])
theorem st_seq {x y:Code}:step P (lone (b.fr T D (.code (.seq x y) :: k)) cs W)=.next (lone (b.fr T D (.code x :: .code y :: k)) cs W):=step_lone_go (by simp [stepG,stepG.exec,Base.fr])
theorem st_cond {c:Operand} {x y:Code} {t:Bool} (h:ev T c=.bool t):step P (lone (b.fr T D (.code (.cond c x y) :: k)) cs W)=.next (lone (b.fr T D (.code (if t then x else y) :: k)) cs W):=
 step_lone_go (by
  have h1:=eval_fr (b:=b) (T:=T) (D:=D) c (.code (.cond c x y) :: k)
  simp only [Base.fr] at h1
  simp [stepG,stepG.exec,Base.fr,h1,h])
theorem st_block {i:Nat} {c:Code}:step P (lone (b.fr T D (.code (.block i c) :: k)) cs W)=.next (lone (b.fr T D (.code c :: .inBlock i :: k)) cs W):=step_lone_go (by simp [stepG,stepG.exec,Base.fr])
theorem st_loop {c:Code}:step P (lone (b.fr T D (.code (.loop c) :: k)) cs W)=.next (lone (b.fr T D (.code c :: .inLoop c :: k)) cs W):=step_lone_go (by simp [stepG,stepG.exec,Base.fr])
theorem st_inLoop {c:Code}:step P (lone (b.fr T D (.inLoop c :: k)) cs W)=.next (lone (b.fr T D (.code c :: .inLoop c :: k)) cs W):=step_lone_go (by simp [stepG,stepG.exec,Base.fr])
theorem st_scope {c:Code}:step P (lone (b.fr T D (.code (.scope c) :: k)) cs W)=.next (lone (b.fr T D (.code c :: .inScope c :: k)) cs W):=step_lone_go (by simp [stepG,stepG.exec,Base.fr])
theorem st_exit {i:Nat} {k':List Item} (h:exitTo i k=some k'):step P (lone (b.fr T D (.code (.exit i) :: k)) cs W)=.next (lone (b.fr T D k') cs W):=step_lone_go (by simp [stepG,stepG.exec,Base.fr,h])
theorem st_region {i:Nat} {ops:Array Oper}:step P (lone (b.fr T D (.code (.region i ops false) :: k)) cs W)=.next (lone (b.fr T D (.inRegion ops (List.range ops.size) :: k)) cs W):=step_lone_go (by simp [stepG,stepG.exec,Base.fr])
theorem st_draw {i:Nat} {ops:Array Oper}:step P (lone (b.fr T D (.code (.region i ops true) :: k)) cs W) =
  .next (lone (b.fr T D (.inRegion ops (Region.schedule (P.follows .mixedOrders) ops (W.tape W.drawn (.order b.fn i))) :: k)) cs W.drew):=
 step_lone_go (by simp [stepG,stepG.exec,Base.fr,choose,Sem.run,Question.forced,Question.cut])
theorem st_end {ops:Array Oper}:step P (lone (b.fr T D (.inRegion ops [] :: k)) cs W)=.next (lone (b.fr T D k) cs W):=step_lone_go (by simp [stepG,stepG.exec,Base.fr])
def putT (T:Array Value) (dst:Option Tmp) (v:Value):Array Value:=
 match dst with
 | some d=>T.setIfInBounds d v
 | none=>T
theorem finish_fr {ops:Array Oper} {i:Nat} {rest:List Nat} {o:Oper} (ho:ops[i]?=some o) (v:Value):(b.fr T D (.inRegion ops (i :: rest) :: k)).finish v=b.fr (putT T o.dst v) D (.inRegion ops rest :: k):=by
 cases h:o.dst <;> simp [Frame.finish,Base.fr,putT,ho,h]
theorem st_opskip {ops:Array Oper} {i:Nat} {rest:List Nat} {o:Oper} (ho:ops[i]?=some o) (h:Region.wanted o (yielded ops T)=false):
  step P (lone (b.fr T D (.inRegion ops (i :: rest) :: k)) cs W)=.next (lone (b.fr (putT T o.dst undef) D (.inRegion ops rest :: k)) cs W):=by
 rw [<- finish_fr ho]
 exact step_lone_go (by simp [stepG,stepG.exec,Base.fr,ho,h])
theorem stepG_oper {ops:Array Oper} {i:Nat} {rest:List Nat} {o:Oper} (ho:ops[i]?=some o) (hw:Region.wanted o (yielded ops T)=true) (hd:∀ c,o.op≠.defer c):
  stepG P true { frame:=b.fr T D (.inRegion ops (i :: rest) :: k),callers:=cs,status:=.running,dying:=none } W =
   stepG.apply P true (b.fr T D (.inRegion ops (i :: rest) :: k)) cs none (execOp (ev T) o) W:=by
 have he:=eval_fr' (b:=b) (T:=T) (D:=D) (.inRegion ops (i :: rest) :: k)
 simp only [Base.fr] at he
 simp only [stepG,stepG.exec,Base.fr,ho,hw,Option.map_some,Option.getD_some,if_true,stepG.oper,Frame.oper?]
 split
 .rename_i l c h1 h2; exact absurd h2 (hd c)
 .rw [he]
theorem st_value {ops:Array Oper} {i:Nat} {rest:List Nat} {o:Oper} (ho:ops[i]?=some o) (hw:Region.wanted o (yielded ops T)=true) (hd:∀ c,o.op≠.defer c) {r:Next} {V:Value} {X:World}
  (h:(execOp (ev T) o).run P W=.ok r X) (hr:r=.value V\/(r=.skip/\V=undef)):
  step P (lone (b.fr T D (.inRegion ops (i :: rest) :: k)) cs W)=.next (lone (b.fr (putT T o.dst V) D (.inRegion ops rest :: k)) cs X):=by
 rw [<- finish_fr ho]
 refine step_lone_go ?_
 rw [stepG_oper ho hw hd]
 rcases hr with rfl|⟨rfl,rfl⟩ <;> simp [stepG.apply,h]
theorem st_enter {ops:Array Oper} {i:Nat} {rest:List Nat} {o:Oper} (ho:ops[i]?=some o) (hw:Region.wanted o (yielded ops T)=true) (hd:∀ c,o.op≠.defer c) {f:FuncId} {A:Array Value} {X:World}
  (h:(execOp (ev T) o).run P W=.ok (.enter f A) X):
  step P (lone (b.fr T D (.inRegion ops (i :: rest) :: k)) cs W)=.next (lone (Frame.enter P f A .normal) (b.fr T D (.inRegion ops (i :: rest) :: k) :: cs) X):=by
 refine step_lone_go ?_
 rw [stepG_oper ho hw hd]
 simp [stepG.apply,h,Base.fr]
theorem st_round {ops:Array Oper} {i:Nat} {rest:List Nat} {o:Oper} (ho:ops[i]?=some o) (hw:Region.wanted o (yielded ops T)=true) (hd:∀ c,o.op≠.defer c) {l:Nat} {f:FuncId} {A:Array Value} {x y:Code} {X:World}
  (h:(execOp (ev T) o).run P W=.ok (.round l f A x y) X):
  step P (lone (b.fr T D (.inRegion ops (i :: rest) :: k)) cs W)=.next (lone (Frame.round l f A x y .normal) (b.fr T D (.inRegion ops (i :: rest) :: k) :: cs) X):=by
 refine step_lone_go ?_
 rw [stepG_oper ho hw hd]
 simp [stepG.apply,h]
end moves
def Leaves (P:Program) (f:FuncId) (kind:CallKind) (fr:Frame) (V:Value) (W:World):Prop:=
 fr.mode=.returning/\fr.defers=[]/\fr.kind=kind/\fr.fn=f/\∃ fn,P.funcs[f]?=some fn/\(results fn fr.tmps).run P W=.ok V W
theorem st_leave {P:Program} {f:FuncId} {fr c:Frame} {cs:List Frame} {V:Value} {W:World} (h:Leaves P f .normal fr V W):step P (lone fr (c :: cs) W)=.next (lone (c.finish V) cs W):=by
 obtain ⟨hm,hd,hk,rfl,fn,hf,hr⟩:=h
 exact step_lone_go (by simp [stepG,unwind,doReturn,hm,hd,hk,hf,hr])
def Outs (P:Program) (f:FuncId) (fr:Frame) (v:AV) (V:Value) (W:World):Prop:=
 match v.isPanic with
 | false=>Leaves P f .normal fr V W
 | true=>fr.mode=.panicking [{ v:=V,recovered:=false }]/\fr.defers=[]/\∃ fn,P.funcs[fr.fn]?=some fn
theorem Outs.ret {P:Program} {f:FuncId} {fr:Frame} {v:AV} {V:Value} {W:World} (h:Outs P f fr v V W) (hv:v.isPanic=false):Leaves P f .normal fr V W:=by
 unfold Outs at h; rw [hv] at h; exact h
theorem Outs.of {P:Program} {f:FuncId} {fr:Frame} {v:AV} {V:Value} {W:World} (h:Leaves P f .normal fr V W) (hv:v.isPanic=false):Outs P f fr v V W:=by
 unfold Outs; rw [hv]; exact h
theorem st_panics {P:Program} {fr c:Frame} {cs:List Frame} {V:Value} {W:World} (h:fr.mode=.panicking [{ v:=V,recovered:=false }]/\fr.defers=[]/\∃ fn,P.funcs[fr.fn]?=some fn):
  step P (lone fr (c :: cs) W)=.next (lone (c.raise [{ v:=V,recovered:=false }]) cs W):=by
 obtain ⟨hm,hd,fn,hf⟩:=h
 exact step_lone_go (by simp [stepG,unwind,Frame.catches,hm,hd,hf])
def FrRel (σ:Sg) (fr:AFr) (b:Base):Prop:=
 b.fn=fr.fn/\match fr.round with
 | none=>b.round=none
 | some l=>∃ B N,σ l=some (B,N)/\b.round=some B
theorem FrRel.mono {σ τ:Sg} (s:Sub σ τ) {fr:AFr} {b:Base} (h:FrRel σ fr b):FrRel τ fr b:=by
 obtain ⟨h1,h2⟩:=h
 refine ⟨h1,?_⟩
 cases hr:fr.round with
 | none=>rw [hr] at h2; exact h2
 | some l=>rw [hr] at h2; obtain ⟨B,N,h3,h4⟩:=h2; exact ⟨B,N,s _ _ h3,h4⟩
def PostH (H:Nat->Prop) (σ:Sg) (s:St) (W:World) (A:Ex->Array Value->List Deferred->World->Prop):Ex->St->Prop:=
 fun x s'=>∃ τ T D V,SRel τ s' T D V/\StepH H σ s W τ s' V/\A x T D V
abbrev Post:=PostH fun _=>False
theorem postH_closed {H:Nat->Prop} {σ:Sg} {s:St} {T:Array Value} {D:List Deferred} {W:World} (r:SRel σ s T D W) (A:Ex->Array Value->List Deferred->World->Prop):Closed s (PostH H σ s W A):=by
 rintro x s1 s2 ⟨τ,T1,D1,V,h1,h2,h3⟩ v
 obtain ⟨υ,h4,h5⟩:=via_relH r v h1 h2
 exact ⟨υ,T1,D1,V,h4,h5,h3⟩
theorem post_closed {σ:Sg} {s:St} {T:Array Value} {D:List Deferred} {W:World} (r:SRel σ s T D W) (A:Ex->Array Value->List Deferred->World->Prop):Closed s (Post σ s W A):=postH_closed r A
theorem Post.back {σ τ:Sg} {s s1:St} {W V:World} {A:Ex->Array Value->List Deferred->World->Prop} (ko:s1.hp.ok) (h:Step σ s W τ s1 V) {x:Ex} {s2:St} (p:Post τ s1 V A x s2):Post σ s W A x s2:=by
 obtain ⟨υ,T,D,X,h1,h2,h3⟩:=p
 exact ⟨υ,T,D,X,h1,Step.trans ko h1.h.ok h h2,h3⟩
theorem Post.imp {σ:Sg} {s:St} {W:World} {A B:Ex->Array Value->List Deferred->World->Prop} {x:Ex} {s2:St} (p:Post σ s W A x s2) (h:∀ T D V,A x T D V->B x T D V):Post σ s W B x s2:=by
 obtain ⟨υ,T,D,X,h1,h2,h3⟩:=p
 exact ⟨υ,T,D,X,h1,h2,h T D X h3⟩
def Starts (c:Code) (k:List Item) (todo:List Item):Prop:=todo=.code c :: k\/∃ a,c=.loop a/\todo=.inLoop a :: k
def CodeOk (C:Ctx) (fr:AFr) (c:Code) (s:St) (q:R):Prop:=
 ∀ (σ:Sg) (T:Array Value) (D:List Deferred) (W:World),GRel C σ->SRel σ s T D W->∀ (b:Base) (k todo:List Item) (cs:List Frame),Starts c k todo->FrRel σ fr b ->
  Fits (Post σ s W (Arr C.P (lone (b.fr T D todo) cs W) b k cs)) q
def OneC (l:List CEnt) (e:CEnt):Prop:=l.filter (fun e=>e.g.val)=[e]
def CallOk (C:Ctx) (f:FuncId) (args:List AV) (h:Hp) (q:CR):Prop:=
 ∀ (σ:Sg) (A:Array Value) (W:World),GRel C σ->HRel σ h W->VRels σ args A.toList->q.need->∀ (cs:List Frame),∃ e,OneC q.l e/\∃ τ V X fr,VRel τ e.v V/\HRel τ e.hp X/\Good σ h W τ e.hp X /\
  Steps C.P (lone (Frame.enter C.P f A .normal) cs W) (lone fr cs X)/\Leaves C.P f .normal fr V X
def CallOut (C:Ctx) (f:FuncId) (args:List AV) (h:Hp) (q:CR):Prop:=
 ∀ (σ:Sg) (A:Array Value) (W:World),GRel C σ->HRel σ h W->VRels σ args A.toList->q.need->∀ (cs:List Frame),∃ e,OneC q.l e/\∃ τ V X fr,VRel τ e.v V/\HRel τ e.hp X/\Good σ h W τ e.hp X /\
  Steps C.P (lone (Frame.enter C.P f A .normal) cs W) (lone fr cs X)/\Outs C.P f fr e.v V X
def tameC (l:List CEnt):Prop:=∀ e∈l,e.v.isPanic=false
theorem CallOk.out {C:Ctx} {f:FuncId} {args:List AV} {h:Hp} {q:CR} (c:CallOk C f args h q) (t:tameC q.l):CallOut C f args h q:=by
 intro σ A W g r ha hn cs
 obtain ⟨e,h1,τ,V,X,fr,h2,h3,h4,h5,h6⟩:=c σ A W g r ha hn cs
 have hm:e∈q.l:=(List.mem_filter.1 (by unfold OneC at h1; rw [h1]; simp:e∈q.l.filter (fun e=>e.g.val))).1
 exact ⟨e,h1,τ,V,X,fr,h2,h3,h4,h5,.of h6 (t e hm)⟩
theorem CallOut.ok {C:Ctx} {f:FuncId} {args:List AV} {h:Hp} {q:CR} (c:CallOut C f args h q) (t:tameC q.l):CallOk C f args h q:=by
 intro σ A W g r ha hn cs
 obtain ⟨e,h1,τ,V,X,fr,h2,h3,h4,h5,h6⟩:=c σ A W g r ha hn cs
 have hm:e∈q.l:=(List.mem_filter.1 (by unfold OneC at h1; rw [h1]; simp:e∈q.l.filter (fun e=>e.g.val))).1
 exact ⟨e,h1,τ,V,X,fr,h2,h3,h4,h5,h6.ret (t e hm)⟩
def YieldOk (C:Ctx) (l:Nat) (args:List AV) (h:Hp) (q:CR):Prop:=
 ∀ (σ:Sg) (A:Array Value) (W:World) (B N:Nat),GRel C σ->HRel σ h W->σ l=some (B,N)->VRels σ args A.toList->q.need->∀ (c:Frame) (cs:List Frame),∃ e,OneC q.l e/\e.v.isPanic=false/\∃ τ V X f T x y,VRel τ e.v V/\HRel τ e.hp X/\Good σ h W τ e.hp X /\
  (Instr.yield B A).run C.P W=.ok (.round B f T x y) W/\Steps C.P (lone (Frame.round B f T x y .normal) (c :: cs) W) (lone (c.finish V) cs X)
structure RecOk (C:Ctx) (r:Rec):Prop where
 code:∀ fr c s q,r.code fr c s=some q->CodeOk C fr c s q
 call:∀ f args h q,r.call f args h=some q->CallOut C f args h q/\∃ fn:Func,C.P.funcs[f]?=some fn/\fn.body.isSome=true
 yield:∀ l args h q,r.yield l args h=some q->YieldOk C l args h q
structure ProgOk (P:Program):Prop where
 name:∀ (f:FuncId) (fn:Func),P.funcs[f]?=some fn->fn.body.isSome=true->(fn.name=="runtime.NumGoroutine")=false
 mixed:P.follows .mixedOrders=true
structure CtxOk (C:Ctx):Prop where
 prog:ProgOk C.P
 con:∀ f args h nd v bs,C.con f args h=some (nd,v,bs)->CallOk C f args h ⟨nd,[⟨.tt,v,pushAll h bs⟩]⟩/\∃ fn:Func,C.P.funcs[f]?=some fn/\fn.body.isSome=true
 ext:∀ f args nd v,C.ext f args=some (nd,v)->nd.val->∀ (σ:Sg) (A:Array Value) (W:World),VRels σ args A.toList->∃ V,VRel σ v V/\(callFunc f A).run C.P W=.ok (.value V) W
 loop:∀ fr a s q,C.loop fr a s=some q->CodeOk C fr (.loop a) s q
 two:∀ f args h nd p v w,C.two f args h=some (nd,p,v,w)->CallOk C f args h ⟨nd,[⟨.b p,v,h⟩,⟨.b !p,w,h⟩]⟩/\∃ fn:Func,C.P.funcs[f]?=some fn/\fn.body.isSome=true:=by intro _ _ _ _ _ _ _ e; cases e
theorem tick_step {σ:Sg} {s:St} {T:Array Value} {D:List Deferred} {W:World} (r:SRel σ s T D W):SRel σ ⟨s.tmps,s.defs,⟨s.hp.blks,s.hp.size,s.hp.clock+1⟩⟩ T D W/\Step σ s W σ ⟨s.tmps,s.defs,⟨s.hp.blks,s.hp.size,s.hp.clock+1⟩⟩ W:=by
 have hg:∀ i,(⟨s.hp.blks,s.hp.size,s.hp.clock+1⟩:Hp).get i=s.hp.get i:=fun i=>by rw [Hp.get_eq,Hp.get_eq]
 refine ⟨⟨r.t,r.d,⟨r.h.ok,fun i b h=>r.h.blk i b (by rw [<- hg]; exact h),r.h.dom,fun i j b c B N M h1 h2=>r.h.inj i j b c B N M (by rw [<- hg]; exact h1) (by rw [<- hg]; exact h2)⟩⟩,?_⟩
 refine ⟨⟨Sub.refl _,fun _ _ h _=>h,Ext.refl _,⟨Nat.le_succ _,Nat.le_refl _,fun i b c h1 h2=>?_,fun i w c h=>⟨w,c.state,c.pending,by rw [hg]; exact h⟩⟩,fun i B N h hi _=>absurd (r.h.dom i B N h).1 (Nat.not_lt.2 hi),fun _ _ _ _=>rfl⟩,⟨rfl,fun _ _ h=>.inl h⟩⟩
 rw [hg,h1] at h2; cases h2; exact .inl rfl
theorem tickC_eq {β:Type} (s:St) (k:St->β):tickC s k=k ⟨s.tmps,s.defs,⟨s.hp.blks,s.hp.size,s.hp.clock+1⟩⟩:=by simp [tickC]
theorem put_eq {β:Type} (s:St) (dst:Option Tmp) (v:AV) (k:St->β):s.put dst v k=k (match dst with|none=>s|some d=>⟨s.tmps.set d ⟨s.hp.clock,v⟩,s.defs,s.hp⟩):=by
 cases dst <;> simp [St.put,setC_eq]
theorem put_step {σ τ:Sg} {s:St} {T:Array Value} {D:List Deferred} {W X:World} {h:Hp} (r:SRel σ s T D W) (hh:HRel τ h X) (g:Good σ s.hp W τ h X) {v:AV} {V:Value} (hv:VRel τ v V) (dst:Option Tmp):
  SRel τ (match dst with|none=>⟨s.tmps,s.defs,h⟩|some d=>⟨s.tmps.set d ⟨h.clock,v⟩,s.defs,h⟩) (putT T dst V) D X/\Step σ s W τ (match dst with|none=>⟨s.tmps,s.defs,h⟩|some d=>⟨s.tmps.set d ⟨h.clock,v⟩,s.defs,h⟩) X:=by
 have ht:=TRel.mono g.sub r.t
 cases dst with
 | none=>exact ⟨⟨ht,DRel.mono g.sub r.d,hh⟩,⟨g,⟨rfl,fun _ _ h=>.inl h⟩⟩⟩
 | some d=>
  refine ⟨⟨?_,DRel.mono g.sub r.d,hh⟩,⟨g,⟨by simp,fun t x h=>?_⟩⟩⟩
  .have:=VRels.set d ht hv
   unfold TRel
   simpa [List.map_set,putT] using this
  .by_cases he:t=d
   .subst he
    by_cases hl:t<s.tmps.length
    .rw [List.getElem?_set_self hl] at h
     cases h; exact .inr g.mon.clock
    .rw [List.getElem?_eq_none (by simpa using hl)] at h; cases h
   .rw [List.getElem?_set_ne (Ne.symm he)] at h
    exact .inl h
theorem run_callFunc {P:Program} (hp:ProgOk P) {f:FuncId} {fn:Func} (hf:P.funcs[f]?=some fn) (hb:fn.body.isSome=true) (A:Array Value) (W:World):(callFunc f A).run P W=.ok (.enter f A) W:=by
 have h1:=hp.name f fn hf hb
 have h2:fn.body≠none:=by cases e:fn.body <;> simp_all
 have h3:fn.name≠"runtime.NumGoroutine" :=by simpa using h1
 simp [callFunc,hf,h3,h2]
theorem afterE_g (dst:Option Tmp) (s:St) (e:CEnt):(afterE dst s e).g=e.g:=by
 unfold afterE
 split
 .rfl
 .rw [put_eq]
theorem afterE_tame {dst:Option Tmp} {s:St} {e:CEnt} (h:e.v.isPanic=false):afterE dst s e=St.put ⟨s.tmps,s.defs,e.hp⟩ dst e.v (fun s'=>⟨e.g,.normal,s'⟩):=by
 unfold afterE
 split
 .rename_i a ha; rw [ha] at h; cases h
 .rfl
theorem afterE_panic {dst:Option Tmp} {s:St} {e:CEnt} {a:AV} (h:e.v=.panic a):afterE dst s e=⟨e.g,.raise a,⟨s.tmps,s.defs,e.hp⟩⟩:=by
 unfold afterE
 rw [h]
theorem one_after {l:List CEnt} {e:CEnt} (h:OneC l e) (dst:Option Tmp) (s:St):One (afterCall dst s l) (afterE dst s e):=by
 have key:∀ l:List CEnt,(afterCall dst s l).filter (fun e=>e.g.val)=(l.filter (fun e=>e.g.val)).map (afterE dst s):=by
  intro l
  induction l with
  | nil=>rfl
  | cons a l ih=>
   simp only [afterCall,List.filter_cons,ih,afterE_g]
   cases a.g.val <;> simp
 unfold One
 rw [key,h]; rfl
theorem panicsOk_one {l:List CEnt} (h:panicsOk l=true):∀ e∈l,∀ a,e.v=.panic a->AV.under 0 a=true:=by
 induction l with
 | nil=>intro e he; cases he
 | cons x l ih=>
  simp only [panicsOk] at h
  intro e he a ha
  rcases List.mem_cons.1 he with rfl|he
  .rw [ha] at h
   simp only [Bool.and_eq_true] at h
   exact h.1
  .split at h
   .simp only [Bool.and_eq_true] at h
    exact ih h.2 e he a ha
   .exact ih h e he a ha
theorem oneC_mem {l:List CEnt} {e:CEnt} (h:OneC l e):e∈l:=(List.mem_filter.1 (by unfold OneC at h; rw [h]; simp:e∈l.filter (fun e=>e.g.val))).1
theorem low_none {σ:Sg} {a:AV} {V:Value} (h:VRel σ a V) (u:AV.under 0 a=true):VRel noSg a V:=by
 have:=VRel.low a V h u
 have e:σ.low 0=noSg:=by
  funext i; simp [Sg.low,noSg]
 rwa [e] at this
theorem VRel.anywhere {σ:Sg} {a:AV} {V:Value} (h:VRel noSg a V):VRel σ a V:=VRel.mono (fun i x e=>by cases e) a V h
theorem wanted_guard {ops:Array Oper} {s:St} {T:Array Value} {σ:Sg} (ht:TRel σ s.tmps T) {o:Oper}:
  (guardV ops s o=.go->Region.wanted o (yielded ops T)=true)/\(guardV ops s o=.skip->Region.wanted o (yielded ops T)=false) /\
  (∀ d p want,guardV ops s o=.fork d p want->Region.wanted o (yielded ops T)=(p==want)/\∃ st,nth s.tmps d=some ⟨st,.bool true p⟩):=by
 unfold guardV Region.wanted
 split
 .refine ⟨fun _=>by simp [*],fun h=>(by cases h),fun _ _ _ h=>(by cases h)⟩
 .rename_i j want hg
  split
  .exact ⟨fun h=>(by cases h),fun h=>(by cases h),fun _ _ _ h=>(by cases h)⟩
  .rename_i g hj
   split
   .exact ⟨fun h=>(by cases h),fun h=>(by cases h),fun _ _ _ h=>(by cases h)⟩
   .rename_i d hd
    have hy:∀ v:Value,T[d]?=some v->yielded ops T j=match v with|.bool b=>some b|_=>none:=by
     intro v hv
     simp only [yielded,hj,hd,hv,Option.bind_some]
     cases v <;> rfl
    split
    .rename_i st p he
     obtain ⟨v,h1,h2⟩:=ht.nth he
     obtain rfl:=h2
     rw [hg]
     simp only [hy _ h1]
     cases hpw:p==want with
     | true=>exact ⟨fun _=>by simpa using hpw,fun h=>(by cases h),fun _ _ _ h=>(by cases h)⟩
     | false=>exact ⟨fun h=>(by cases h),fun _=>by simpa using hpw,fun _ _ _ h=>(by cases h)⟩
    .rename_i st p he
     obtain ⟨v,h1,h2⟩:=ht.nth he
     obtain rfl:=h2
     rw [hg]
     simp only [hy _ h1]
     refine ⟨fun h=>(by cases h),fun h=>(by cases h),fun d' p' w' h=>?_⟩
     cases h
     exact ⟨by simp,st,he⟩
    .rename_i st he
     obtain ⟨v,h1,K,rfl,hK⟩:=ht.nth he
     rw [hg]
     simp only [hy _ h1]
     exact ⟨fun h=>(by cases h),fun _=>by simp,fun _ _ _ h=>(by cases h)⟩
    .exact ⟨fun h=>(by cases h),fun h=>(by cases h),fun _ _ _ h=>(by cases h)⟩
theorem isPanic_of {v:AV} (h:v.isPanic=true):∃ a,v=.panic a:=by
 cases v <;> first|exact ⟨_,rfl⟩|cases h
theorem callR_ok {C:Ctx} {r:Rec} (co:CtxOk C) (ro:RecOk C r) {h:Hp} {g:FuncId} {args:List AV} {q:CR} (e:callR C r h (.func g args)=some q):CallOut C g args h q/\∃ fn:Func,C.P.funcs[g]?=some fn/\fn.body.isSome=true:=by
 simp only [callR] at e
 split at e
 .rename_i nd v bs hcon
  split at e
  .cases e
  .rename_i hv
   cases e
   obtain ⟨h1,h2⟩:=co.con _ _ _ _ _ _ hcon
   exact ⟨h1.out fun e he=>by rw [List.mem_singleton.1 he]; exact hv,h2⟩
 .split at e
  .rename_i nd p v w htwo
   split at e
   .cases e
   .rename_i hv
    cases e
    simp only [Bool.or_eq_false_iff] at hv
    obtain ⟨h1,h2⟩:=co.two _ _ _ _ _ _ _ htwo
    refine ⟨h1.out fun e he=>?_,h2⟩
    rcases List.mem_cons.1 he with rfl|he
    .exact hv.1
    .rw [List.mem_singleton.1 he]; exact hv.2
  .exact ro.call _ _ _ _ e
section opers
variable {C:Ctx} {r:Rec}
def AtOp (P:Program) (ops:Array Oper) (i:Nat) (rest:List Nat) (b:Base) (k:List Item) (cs:List Frame) (T:Array Value) (D:List Deferred) (W:World):Ex->Array Value->List Deferred->World->Prop:=
 fun x T' D' W'=>(x=.normal\/∃ a,x=.raise a)/\Arr P (lone (b.fr T D (.inRegion ops (i :: rest) :: k)) cs W) b (.inRegion ops rest :: k) cs x T' D' W'
theorem simpleOp_ok {s:St} {o:Oper} {q:R} (e:simpleOp C s o=some q) {σ:Sg} {T:Array Value} {D:List Deferred} {W:World} (g:GRel C σ) (sr:SRel σ s T D W) {ops:Array Oper} {i:Nat} {rest:List Nat} (ho:ops[i]?=some o)
  (hw:Region.wanted o (yielded ops T)=true) (b:Base) (k:List Item) (cs:List Frame):Fits (Post σ s W (AtOp C.P ops i rest b k cs T D W)) q:=by
 unfold simpleOp at e
 split at e
 .cases e
 .rename_i nd v h hs
  rw [put_eq] at e
  cases e
  intro hn
  obtain ⟨τ,V,X,rr,h1,h2,h3,h4,h5⟩:=simple_ok g sr.t sr.h hs hn
  have hd:∀ c,o.op≠.defer c:=by
   intro c hc; rw [hc] at hs; simp [simple] at hs
  obtain ⟨p1,p2⟩:=put_step (D:=D) sr h4 h5 h3 o.dst
  exact ⟨_,rfl,τ,_,D,X,p1,p2,.inl rfl,.one (st_value ho hw hd h1 h2)⟩
theorem callOp_ok (co:CtxOk C) (ro:RecOk C r) {s:St} {o:Oper} {f:Operand} {args:Array Operand} {ts:Array TypeId} (hop:o.op=.call ⟨.value f,args,ts⟩) {q:R} (e:callOp C r s o.dst f args.toList=some q) {σ:Sg} {T:Array Value} {D:List Deferred} {W:World}
  (g:GRel C σ) (sr:SRel σ s T D W) {ops:Array Oper} {i:Nat} {rest:List Nat} (ho:ops[i]?=some o) (hw:Region.wanted o (yielded ops T)=true) (b:Base) (k:List Item) (cs:List Frame):
  Fits (Post σ s W (AtOp C.P ops i rest b k cs T D W)) q:=by
 unfold callOp at e
 split at e
 .cases e
 .rename_i ce hce
  split at e
  .rename_i nd v hx
   rw [put_eq] at e
   cases e
   intro hn
   have hd:∀ c,o.op≠.defer c:=by intro c hc; rw [hc] at hop; cases hop
   have hargs:=vals (s:=s) g sr.t args
   have hfv:=evalA_rel (s:=s) g sr.t f
   unfold callee at hce
   split at hce
   .rename_i gf first cap hfe
    cases hce
    rw [hfe] at hfv
    obtain ⟨F,K,hF,hf1,hf2⟩:=hfv
    have hA:VRels σ (first++evalL C s args.toList++cap) (F++args.map (ev T)++K).toList:=by
     simp only [Array.toList_append]
     exact VRels.append (VRels.append hf1 hargs) hf2
    obtain ⟨V,h1,h2⟩:=co.ext _ _ _ _ hx hn σ _ W hA
    have hex:(execOp (ev T) o).run C.P W=.ok (.value V) W:=by
     simp only [execOp,hop,resolve,hF,Deferred.ofValue,Sem.run_bind,Sem.run_pure,Result.andThen_ok,invoke]
     exact h2
    obtain ⟨p1,p2⟩:=put_step (h:=s.hp) (X:=W) (D:=D) sr sr.h (Good.refl σ s.hp W fun i B N h=>(sr.h.dom i B N h).1) h1 o.dst
    exact ⟨_,rfl,σ,_,D,W,p1,p2,.inl rfl,.one (st_value ho hw hd hex (.inl rfl))⟩
   .cases hce; cases hx
   .cases hce
  .rename_i hx
   split at e
   .cases e
   .rename_i cr hcr
    split at e
    case h_2=>cases e
    rename_i hpo
    cases e
    intro hn
    have hd:∀ c,o.op≠.defer c:=by intro c hc; rw [hc] at hop; cases hop
    have hargs:=vals (s:=s) g sr.t args
    have hfv:=evalA_rel (s:=s) g sr.t f
    unfold callee at hce
    split at hce
    .rename_i gf first cap hfe
     cases hce
     rw [hfe] at hfv
     obtain ⟨F,K,hF,hf1,hf2⟩:=hfv
     have hA:VRels σ (first++evalL C s args.toList++cap) (F++args.map (ev T)++K).toList:=by
      simp only [Array.toList_append]
      exact VRels.append (VRels.append hf1 hargs) hf2
     obtain ⟨hcall,fn,hfn,hbody⟩:=callR_ok co ro hcr
     have hex:(execOp (ev T) o).run C.P W=.ok (.enter gf (F++args.map (ev T)++K)) W:=by
      simp only [execOp,hop,resolve,hF,Deferred.ofValue,Sem.run_bind,Sem.run_pure,Result.andThen_ok,invoke]
      exact run_callFunc co.prog hfn hbody _ W
     obtain ⟨e,h1,τ,V,X,fr,h2,h3,h4,h5,h6⟩:=hcall σ _ W g sr.h hA hn (b.fr T D (.inRegion ops (i :: rest) :: k) :: cs)
     refine ⟨_,one_after h1 o.dst s,?_⟩
     cases hpa:e.v.isPanic with
     | false=>
      rw [afterE_tame hpa,put_eq]
      obtain ⟨p1,p2⟩:=put_step (D:=D) sr h3 h4 h2 o.dst
      refine ⟨τ,_,D,X,p1,p2,.inl rfl,?_⟩
      show Steps _ _ _
      rw [<- finish_fr ho]
      exact .head (st_enter ho hw hd hex) (h5.trans (.one (st_leave (h6.ret hpa))))
     | true=>
      obtain ⟨a,ha⟩:=isPanic_of hpa
      rw [afterE_panic ha]
      have hlow:=panicsOk_one hpo e (oneC_mem h1) a ha
      rw [ha] at h2
      refine ⟨τ,T,D,X,⟨TRel.mono h4.sub sr.t,DRel.mono h4.sub sr.d,h3⟩,⟨h4,⟨rfl,fun _ _ h=>.inl h⟩⟩,.inr ⟨a,rfl⟩,.inRegion ops (i :: rest) :: k,V,low_none h2 hlow,?_⟩
      rw [<- Base.raise_fr]
      unfold Outs at h6
      rw [hpa] at h6
      exact .head (st_enter ho hw hd hex) (h5.trans (.one (st_panics h6)))
    .rename_i l hfe
     cases hce
     rw [hfe] at hfv
     obtain ⟨B,N,hσ,hF⟩:=hfv
     have hy:YieldOk C l (evalL C s args.toList) s.hp cr:=ro.yield _ _ _ _ hcr
     obtain ⟨e,h1,hpa,τ,V,X,ff,TT,xx,yy,h2,h3,h4,h5,h6⟩:=hy σ _ W B N g sr.h hσ hargs hn (b.fr T D (.inRegion ops (i :: rest) :: k)) cs
     have hex:(execOp (ev T) o).run C.P W=.ok (.round B ff TT xx yy) W:=by
      simp only [execOp,hop,resolve,hF,Deferred.ofValue,Sem.run_bind,Sem.run_pure,Result.andThen_ok,invoke]
      simpa using h5
     refine ⟨_,one_after h1 o.dst s,?_⟩
     rw [afterE_tame hpa,put_eq]
     obtain ⟨p1,p2⟩:=put_step (D:=D) sr h3 h4 h2 o.dst
     refine ⟨τ,_,D,X,p1,p2,.inl rfl,?_⟩
     show Steps _ _ _
     rw [<- finish_fr ho]
     exact .head (st_round ho hw hd hex) h6
    .cases hce
end opers
end Go.Eng
namespace Go.Eng
theorem SRel.ko {σ:Sg} {s:St} {T:Array Value} {D:List Deferred} {W:World} (r:SRel σ s T D W):s.hp.ok:=r.h.ok
theorem fits_back {σ τ:Sg} {s s1:St} {W V:World} {A B:Ex->Array Value->List Deferred->World->Prop} (ko:s1.hp.ok) (st:Step σ s W τ s1 V) {q:R} (h:Fits (Post τ s1 V B) q)
  (im:∀ x T D X,B x T D X->A x T D X):Fits (Post σ s W A) q:=fun hn=>by
 obtain ⟨e,h1,h2⟩:=h hn
 exact ⟨e,h1,Post.back ko st (h2.imp (im _))⟩
theorem put_fits {σ:Sg} {s:St} {T:Array Value} {D:List Deferred} {W:World} (r:SRel σ s T D W) {v:AV} {V:Value} (hv:VRel σ v V) (dst:Option Tmp) {f:St->Option R} {q:R} (e:s.put dst v f=some q)
  {A:Ex->Array Value->List Deferred->World->Prop} (h:∀ s1,f s1=some q->SRel σ s1 (putT T dst V) D W->Fits (Post σ s1 W A) q):Fits (Post σ s W A) q:=by
 rw [put_eq] at e
 obtain ⟨p1,p2⟩:=put_step (h:=s.hp) (X:=W) (D:=D) r r.h (Good.refl σ s.hp W fun i B N h=>(r.h.dom i B N h).1) hv dst
 exact fits_back p1.ko p2 (h _ e p1) fun _ _ _ _ h=>h
theorem refine_step {σ:Sg} {s:St} {T:Array Value} {D:List Deferred} {W:World} (r:SRel σ s T D W) {d:Tmp} {st:Nat} {p:Bool} (h:nth s.tmps d=some ⟨st,.bool true p⟩):
  SRel σ ⟨s.tmps.set d ⟨s.hp.clock,.bool false p⟩,s.defs,s.hp⟩ T D W/\Step σ s W σ ⟨s.tmps.set d ⟨s.hp.clock,.bool false p⟩,s.defs,s.hp⟩ W:=by
 obtain ⟨v,h1,h2⟩:=r.t.nth h
 obtain rfl:=h2
 obtain ⟨p1,p2⟩:=put_step (h:=s.hp) (X:=W) (D:=D) r r.h (Good.refl σ s.hp W fun i B N h=>(r.h.dom i B N h).1) (v:=.bool false p) (V:=.bool p) rfl (some d)
 have:putT T (some d) (.bool p)=T:=by
  simp only [putT]
  rw [Array.setIfInBounds_def]
  split
  .rename_i hd
   have:T[d]=.bool p:=by rw [Array.getElem?_eq_getElem hd] at h1; exact Option.some.inj h1
   exact Array.ext_getElem? fun i=>by
    rw [Array.getElem?_set]
    split
    .rename_i e; subst e; exact h1.symm
    .rfl
  .rfl
 rw [this] at p1
 exact ⟨p1,p2⟩
section regions
variable {C:Ctx} {r:Rec}
theorem panicOp_ok {s:St} {o:Oper} {x:Operand} (hop:o.op=.panic x) {q:R} (e:panicOp s (evalA C s x)=some q) {σ:Sg} {T:Array Value} {D:List Deferred} {W:World}
  (g:GRel C σ) (sr:SRel σ s T D W) {ops:Array Oper} {i:Nat} {rest:List Nat} (ho:ops[i]?=some o) (hw:Region.wanted o (yielded ops T)=true) (b:Base) (k:List Item) (cs:List Frame):
  Fits (Post σ s W (AtOp C.P ops i rest b k cs T D W)) q:=by
 obtain ⟨V,hV,hst⟩:∃ V,(∃ t v,evalA C s x=.iface t v/\AV.under 0 v=true/\q=⟨.tt,[⟨.tt,.raise (.iface t v),s⟩]⟩/\VRel σ (.iface t v) V) /\
   step C.P (lone (b.fr T D (.inRegion ops (i :: rest) :: k)) cs W)=.next (lone (b.pan T D (.inRegion ops (i :: rest) :: k) V) cs W):=by
  have hx:=evalA_rel (s:=s) g sr.t x
  unfold panicOp at e
  split at e
  .rename_i t v hv
   split at e
   .rename_i hu
    cases e
    rw [hv] at hx
    obtain ⟨y,hy,hr⟩:=hx
    refine ⟨.iface t y,⟨t,v,hv,hu,rfl,⟨y,rfl,hr⟩⟩,?_⟩
    have hex:(execOp (ev T) o).run C.P W=.halt (.panic (.iface t y)) W:=by
     simp only [execOp,hop,hy,Instr.panic,goPanic]
     rfl
    rw [<- Base.raise_fr]
    refine step_lone_go ?_
    have hd:∀ c,o.op≠.defer c:=by intro c hc; rw [hc] at hop; cases hop
    rw [stepG_oper ho hw hd]
    simp [stepG.apply,hex]
   .cases e
  .cases e
 obtain ⟨t,v,_,hu,rfl,hr⟩:=hV
 intro hn
 refine ⟨_,rfl,σ,T,D,W,sr,⟨Good.refl σ s.hp W fun i B N h=>(sr.h.dom i B N h).1,TMon.refl s⟩,.inr ⟨_,rfl⟩,_,V,low_none hr (by simpa [AV.under] using hu),.one hst⟩
theorem oper1_ok (co:CtxOk C) (ro:RecOk C r) {s:St} {o:Oper} {q:R} (e:oper1 C r s o=some q) {σ:Sg} {T:Array Value} {D:List Deferred} {W:World}
  (g:GRel C σ) (sr:SRel σ s T D W) {ops:Array Oper} {i:Nat} {rest:List Nat} (ho:ops[i]?=some o) (hw:Region.wanted o (yielded ops T)=true) (b:Base) (k:List Item) (cs:List Frame):
  Fits (Post σ s W (AtOp C.P ops i rest b k cs T D W)) q:=by
 unfold oper1 at e
 split at e
 .rename_i f args ts hop
  exact callOp_ok co ro hop e g sr ho hw b k cs
 .rename_i x hop
  exact panicOp_ok hop e g sr ho hw b k cs
 .exact simpleOp_ok e g sr ho hw b k cs
theorem deferOp_ok (co:CtxOk C) {s:St} {o:Oper} {f:Operand} {args:Array Operand} {ts:Array TypeId} (hop:o.op=.defer ⟨.value f,args,ts⟩) {q:R} (e:deferOp C s o.dst f args.toList=some q) {σ:Sg} {T:Array Value} {D:List Deferred} {W:World}
  (g:GRel C σ) (sr:SRel σ s T D W) {ops:Array Oper} {i:Nat} {rest:List Nat} (ho:ops[i]?=some o) (hw:Region.wanted o (yielded ops T)=true) (b:Base) (hb:b.round=none) (k:List Item) (cs:List Frame):
  Fits (Post σ s W (AtOp C.P ops i rest b k cs T D W)) q:=by
 obtain ⟨bf,bk,br⟩:=b
 obtain rfl:br=none:=hb
 generalize hbb:(Base.mk bf bk none)=b
 have hb:b.round=none:=by rw [<- hbb]
 unfold deferOp at e
 split at e
 .rename_i gf as hce
  rw [put_eq] at e
  cases e
  intro hn
  have hargs:=vals (s:=s) g sr.t args
  have hfv:=evalA_rel (s:=s) g sr.t f
  unfold callee at hce
  split at hce
  .rename_i gf' first cap hfe
   cases hce
   rw [hfe] at hfv
   obtain ⟨F,K,hF,hf1,hf2⟩:=hfv
   have hA:VRels σ (first++evalL C s args.toList++cap) ((F++args.map (ev T))++K).toList:=by
    simp only [Array.toList_append]
    exact VRels.append (VRels.append hf1 hargs) hf2
   have hex:(execOp (ev T) o).run C.P W=.ok (.defer { target:=.fn (.func gf) K,args:=F++args.map (ev T) }) W:=by
    simp only [execOp,hop,resolve,hF,Deferred.ofValue,Sem.run_bind,Sem.run_pure,Result.andThen_ok]
   have hst:step C.P (lone (b.fr T D (.inRegion ops (i :: rest) :: k)) cs W)=.next (lone (b.fr (putT T o.dst undef) ({ target:=.fn (.func gf) K,args:=F++args.map (ev T) } :: D) (.inRegion ops rest :: k)) cs W):=by
    rw [<- finish_fr ho]
    subst hbb
    refine step_lone_go ?_
    have he:=eval_fr' (b:=Base.mk bf bk none) (T:=T) (D:=D) (.inRegion ops (i :: rest) :: k)
    simp only [Base.fr] at he
    simp only [stepG,stepG.exec,Base.fr,ho,hw,Option.map_some,Option.getD_some,if_true,stepG.oper,Frame.oper?]
    rw [he]
    simp [stepG.apply,hex,Frame.finish]
   have dr:DRel σ (.call gf (first++evalL C s args.toList++cap) :: s.defs) ({ target:=.fn (.func gf) K,args:=F++args.map (ev T) } :: D):=⟨_,K,D,hA,rfl,sr.d⟩
   obtain ⟨p1,p2⟩:=put_step (h:=s.hp) (X:=W) (s:=⟨s.tmps,.call gf (first++evalL C s args.toList++cap) :: s.defs,s.hp⟩) ⟨sr.t,dr,sr.h⟩ sr.h (Good.refl σ s.hp W fun i B N h=>(sr.h.dom i B N h).1) (v:=undefA) (V:=undef) ⟨#[],rfl,rfl⟩ o.dst
   exact ⟨_,rfl,σ,_,_,W,p1,⟨p2.good,⟨p2.tm.len,p2.tm.same⟩⟩,.inl rfl,.one hst⟩
  .cases hce
  .cases hce
 .cases e
theorem operD_ok (co:CtxOk C) (ro:RecOk C r) {s:St} {o:Oper} {q:R} (e:operD C r s o=some q) {σ:Sg} {T:Array Value} {D:List Deferred} {W:World}
  (g:GRel C σ) (sr:SRel σ s T D W) {ops:Array Oper} {i:Nat} {rest:List Nat} (ho:ops[i]?=some o) (hw:Region.wanted o (yielded ops T)=true) (b:Base) (hb:b.round=none\/isDefer o=false) (k:List Item) (cs:List Frame):
  Fits (Post σ s W (AtOp C.P ops i rest b k cs T D W)) q:=by
 unfold operD at e
 split at e
 .rename_i f args ts hop
  rcases hb with hb|hb
  .exact deferOp_ok co hop e g sr ho hw b hb k cs
  .simp [isDefer,hop] at hb
 .exact oper1_ok co ro e g sr ho hw b k cs
theorem hintNd_rel {σ:Sg} {a v:AV} {m:Nd} (e:hintNd a v=some m) (hm:m.val) {V:Value} (h:VRel σ a V):VRel σ v V:=by
 unfold hintNd at e
 split at e
 .split at e
  .rename_i hk; subst hk; cases e
   rw [show _=_ from hm] at h; exact h
  .cases e
 .cases e; rw [show _=_ from hm] at h; exact h
 .cases e; rw [show _=_ from hm] at h; exact h
 .cases e
theorem hinted_fits {σ:Sg} {s:St} {W:World} {A:Ex->Array Value->List Deferred->World->Prop} {d:Nat} {v:AV} {q:Option R} {q':R} (e:hinted d v q=some q') (h:∀ q1,q=some q1->Fits (Post σ s W A) q1):Fits (Post σ s W A) q':=by
 unfold hinted at e
 split at e
 .rename_i nd s1
  split at e
  .rename_i a ha
   split at e
   .rename_i m hm
    rw [setC_eq] at e
    cases e
    intro hn
    obtain ⟨en,h1,h2⟩:=h _ rfl (Nd.lv hn)
    have:en=⟨.tt,.normal,s1⟩:=by
     unfold One at h1
     simp [G.val] at h1
     exact h1.symm
    subst this
    obtain ⟨τ,T,D,V,sr,st,k⟩:=h2
    refine ⟨_,rfl,τ,T,D,V,⟨?_,sr.d,sr.h⟩,⟨st.good,⟨?_,fun t x hx=>?_⟩⟩,k⟩
    .obtain ⟨u,hu,hv⟩:=sr.t.nth ha
     have hv2:=hintNd_rel hm (Nd.rv hn) hv
     have:=VRels.set d sr.t hv2
     unfold TRel
     rw [List.map_set]
     have hT:T.toList.set d u=T.toList:=by
      apply List.ext_getElem?
      intro i
      rw [List.getElem?_set]
      split
      .rename_i hi
       subst hi
       split
       .rw [Array.getElem?_toList]; exact hu.symm
       .rename_i hlt
        rw [List.getElem?_eq_none (by omega)]
      .rfl
     rw [hT] at this
     exact this
    .simp only [List.length_set]; exact st.tm.len
    .by_cases he:t=d
     .subst he
      by_cases hl:t<s1.tmps.length
      .rw [List.getElem?_set_self hl] at hx
       cases hx; exact .inr st.good.mon.clock
      .rw [List.getElem?_eq_none (by simpa using hl)] at hx; cases hx
     .rw [List.getElem?_set_ne (Ne.symm he)] at hx
      exact st.tm.same t x hx
   .exact h _ e
  .exact h _ e
 .exact h _ e
theorem operH_ok (co:CtxOk C) (ro:RecOk C r) {s:St} {o:Oper} {q:R} (e:operH C r s o=some q) {σ:Sg} {T:Array Value} {D:List Deferred} {W:World}
  (g:GRel C σ) (sr:SRel σ s T D W) {ops:Array Oper} {i:Nat} {rest:List Nat} (ho:ops[i]?=some o) (hw:Region.wanted o (yielded ops T)=true) (b:Base) (hb:b.round=none\/isDefer o=false) (k:List Item) (cs:List Frame):
  Fits (Post σ s W (AtOp C.P ops i rest b k cs T D W)) q:=by
 unfold operH at e
 split at e
 .exact operD_ok co ro e g sr ho hw b hb k cs
 .split at e
  .exact operD_ok co ro e g sr ho hw b hb k cs
  .exact hinted_fits e fun q1 e1=>operD_ok co ro e1 g sr ho hw b hb k cs
def AtOps (P:Program) (ops:Array Oper) (is:List Nat) (b:Base) (k:List Item) (cs:List Frame) (T:Array Value) (D:List Deferred) (W:World):Ex->Array Value->List Deferred->World->Prop:=
 fun x T' D' W'=>(x=.normal\/∃ a,x=.raise a)/\Arr P (lone (b.fr T D (.inRegion ops is :: k)) cs W) b k cs x T' D' W'
inductive Idx (ops:Array Oper):List Nat->List Oper->Prop where
 | nil:Idx ops [] []
 | cons {i:Nat} {o:Oper} {is:List Nat} {l:List Oper}:ops[i]?=some o->Idx ops is l->Idx ops (i :: is) (o :: l)
theorem opsF_ok (co:CtxOk C) (ro:RecOk C r) {ops:Array Oper} (b:Base) (k:List Item) (cs:List Frame):∀ {is:List Nat} {l:List Oper},Idx ops is l->(b.round=none\/l.any isDefer=false)->∀ (s:St) (q:R),opsF C r ops l s=some q ->
  ∀ (σ:Sg) (T:Array Value) (D:List Deferred) (W:World),GRel C σ->SRel σ s T D W->Fits (Post σ s W (AtOps C.P ops is b k cs T D W)) q:=by
 intro is l hl
 induction hl with
 | nil=>
  intro _ s q e σ T D W g sr
  cases e
  exact fun _=>⟨_,rfl,σ,T,D,W,sr,⟨Good.refl σ s.hp W fun i B N h=>(sr.h.dom i B N h).1,TMon.refl s⟩,.inl rfl,.one st_end⟩
 | @cons i o is l ho _ ih=>
  intro hb s0 q e σ T D W g sr0
  have hb1:b.round=none\/isDefer o=false:=hb.imp id fun h=>by simp only [List.any_cons,Bool.or_eq_false_iff] at h; exact h.1
  replace ih:=ih (hb.imp id fun h=>by simp only [List.any_cons,Bool.or_eq_false_iff] at h; exact h.2)
  simp only [opsF] at e
  rw [tickC_eq] at e
  obtain ⟨sr,st0⟩:=tick_step sr0
  generalize (⟨s0.tmps,s0.defs,⟨s0.hp.blks,s0.hp.size,s0.hp.clock+1⟩⟩:St)=s at e sr st0
  refine fits_back sr.ko st0 (B:=AtOps C.P ops (i :: is) b k cs T D W) ?_ fun _ _ _ _ h=>h
  have go:∀ (s:St) (q:R),seqR s (operH C r s o) (opsF C r ops l)=some q->SRel σ s T D W->Region.wanted o (yielded ops T)=true->Fits (Post σ s W (AtOps C.P ops (i :: is) b k cs T D W)) q:=by
   intro s q e sr hw
   refine seqR_fits (Q1:=Post σ s W (AtOp C.P ops i is b k cs T D W)) (post_closed sr _) ?_ ?_ e ?_
   .rintro s1 q1 e1 ⟨τ,T1,D1,V,r1,st1,-,hs⟩
    have:=ih _ _ e1 _ _ _ _ (g.mono st1.good.sub) r1
    refine fits_back r1.ko st1 this ?_
    rintro x T2 D2 X ⟨hx,hs2⟩
    exact ⟨hx,.of_steps hs hs2⟩
   .rintro x s1 hx ⟨τ,T1,D1,V,r1,st1,h,hs⟩
    rcases h with h|⟨a,rfl⟩
    .exact absurd h hx
    .exact ⟨τ,T1,D1,V,r1,st1,.inr ⟨a,rfl⟩,hs⟩
   .intro q1 e1
    exact operH_ok co ro e1 g sr ho hw b hb1 k cs
  have no:∀ (s:St) (q:R),St.put s o.dst undefA (opsF C r ops l)=some q->SRel σ s T D W->Region.wanted o (yielded ops T)=false->Fits (Post σ s W (AtOps C.P ops (i :: is) b k cs T D W)) q:=by
   intro s q e sr hw
   refine put_fits sr (v:=undefA) (V:=undef) ⟨#[],rfl,rfl⟩ o.dst e ?_
   intro s1 e1 r1
   have:=ih _ _ e1 _ _ _ _ g r1
   intro hn
   obtain ⟨en,h1,h2⟩:=this hn
   refine ⟨en,h1,h2.imp ?_⟩
   rintro T2 D2 X ⟨hx,hs2⟩
   exact ⟨hx,.of_steps (.one (st_opskip ho hw)) hs2⟩
  obtain ⟨w1,w2,w3⟩:=wanted_guard (ops:=ops) (s:=s) (T:=T) sr.t (o:=o)
  split at e
  .cases e
  .rename_i hg
   exact go s q e sr (w1 hg)
  .rename_i hg
   exact no s q e sr (w2 hg)
  .rename_i d p want hg
   obtain ⟨hw,st,hd⟩:=w3 d p want hg
   simp only [setC_eq] at e
   split at e
   .cases e
   .rename_i u hu
    split at e
    .cases e
    .rename_i v hv
     cases e
     obtain ⟨r1,st1⟩:=refine_step sr hd
     refine joinR_fits (post_closed sr _) ?_ ?_
     .rintro rfl
      refine fits_back r1.ko st1 (B:=AtOps C.P ops (i :: is) b k cs T D W) ?_ fun _ _ _ _ h=>h
      cases want with
      | true=>exact go _ _ (by simpa using hu) r1 (by simp [hw])
      | false=>exact no _ _ (by simpa using hu) r1 (by simp [hw])
     .rintro rfl
      refine fits_back r1.ko st1 (B:=AtOps C.P ops (i :: is) b k cs T D W) ?_ fun _ _ _ _ h=>h
      cases want with
      | true=>exact no _ _ (by simpa using hv) r1 (by simp [hw])
      | false=>exact go _ _ (by simpa using hv) r1 (by simp [hw])
end regions
end Go.Eng
namespace Go.Eng
theorem idx_from (ops:Array Oper):∀ (l:List Oper) (n:Nat),(∀ j,l[j]?=ops[n+j]?)->Idx ops ((List.range l.length).map (n + ·)) l
 | [],_,_=>.nil
 | o :: l,n,h=>by
  have h0:=h 0
  have:(List.range (o :: l).length).map (n + ·)=n :: (List.range l.length).map (n+1 + ·):=by
   simp only [List.length_cons,List.range_succ_eq_map,List.map_cons,List.map_map,Nat.add_zero]
   congr 1
   apply List.map_congr_left
   intro a _
   simp only [Function.comp_apply]; omega
  rw [this]
  refine .cons (by simpa using h0.symm) (idx_from ops l (n+1) fun j=>?_)
  have:=h (j+1)
  simp only [List.getElem?_cons_succ] at this
  rw [this]; congr 1; omega
theorem idx_all (ops:Array Oper):Idx ops (List.range ops.size) ops.toList:=by
 have:=idx_from ops ops.toList 0 (by simp)
 simpa using this
theorem blockL_got {s0:St} {i:Nat}:∀ {l:List Ent},(∀ e,One l e->Got s0 (blockL s0 i l) (blockE i e).x e.s)/\(Non l->Non (blockL s0 i l))
 | []=>⟨fun e h=>by simp [One] at h,fun _=>rfl⟩
 | a :: l=>by
  obtain ⟨i1,i2⟩:=blockL_got (s0:=s0) (i:=i) (l:=l)
  have hgs:(blockE i a).g=a.g/\(blockE i a).s=a.s:=by
   unfold blockE
   split
   .rename_i j _
    cases Nat.beq j i <;> exact ⟨rfl,rfl⟩
   .exact ⟨rfl,rfl⟩
  obtain ⟨hg,hs⟩:=hgs
  simp only [blockL]
  refine ⟨fun e h=>?_,fun h=>?_⟩
  .rcases one_cases h with ⟨h1,rfl,h3⟩|⟨h1,h2⟩
   .have:=addE_taken (s0:=s0) (e:=blockE i a) (by rw [hg]; exact h1) (i2 h3)
    rw [hs] at this; exact this
   .exact addE_got (by rw [hg]; exact h1) (i1 e h2)
  .obtain ⟨h1,h2⟩:=non_cases h
   exact (addE_other (by rw [hg]; exact h1)).2 (i2 h2)
theorem scopeOk_one {a:Code}:∀ {l:List Ent} {e:Ent},scopeOk a l=true->One l e->∀ i,e.x=.goto i->findLabel a i=none
 | [],e,_,h=>by simp [One] at h
 | f :: l,e,h,h1=>by
  simp only [scopeOk,Bool.and_eq_true] at h
  rcases one_cases h1 with ⟨_,rfl,_⟩|⟨_,h2⟩
  .intro i hi
   have:=h.1
   rw [hi] at this
   simp only at this
   split at this
   .assumption
   .cases this
  .exact scopeOk_one h.2 h2
def DrawOk (C:Ctx) (r:Rec):Prop:=∀ (fr:AFr) (i:Nat) (ops:Array Oper) (l:List It) (s:St) (q:R),planOf ops=some l->allocsOk C.P l=true->opsD C r ops l [] s=some q->CodeOk C fr (.region i ops true) s q
section codes
variable {C:Ctx} {r:Rec}
theorem codes_one {σ:Sg} {s:St} {T:Array Value} {D:List Deferred} {W:World} (sr:SRel σ s T D W) {x:Ex} {q:R} (e:oneR x s=some q) {A:Ex->Array Value->List Deferred->World->Prop} (h:A x T D W):Fits (Post σ s W A) q:=by
 cases e
 exact fun _=>⟨_,rfl,σ,T,D,W,sr,⟨Good.refl σ s.hp W fun i B N h=>(sr.h.dom i B N h).1,TMon.refl s⟩,h⟩
theorem two_fits {fr:AFr} {a c:Code} {s:St} {q:R} (e:seqR s (r.code fr a s) (r.code fr c)=some q) (ro:RecOk C r) {σ:Sg} {T:Array Value} {D:List Deferred} {W:World} (g:GRel C σ) (sr:SRel σ s T D W)
  {b:Base} {y:Item} {k:List Item} (hy:y.plain=true) (hc:Starts c k (y :: k)) {cs:List Frame} (fb:FrRel σ fr b):
  Fits (Post σ s W (Arr C.P (lone (b.fr T D (.code a :: y :: k)) cs W) b k cs)) q:=by
 refine seqR_fits (Q1:=Post σ s W (Arr C.P (lone (b.fr T D (.code a :: y :: k)) cs W) b (y :: k) cs)) (post_closed sr _) ?_ ?_ e ?_
 .rintro s1 q1 e1 ⟨τ,T1,D1,V,r1,st1,hs⟩
  have:=ro.code _ _ _ _ e1 τ T1 D1 V (g.mono st1.good.sub) r1 b k (y :: k) cs hc (fb.mono st1.good.sub)
  exact fits_back r1.ko st1 this fun x T2 D2 X h=>.of_steps hs h
 .rintro x s1 hx ⟨τ,T1,D1,V,r1,st1,h⟩
  exact ⟨τ,T1,D1,V,r1,st1,h.pass hy hx⟩
 .intro q1 e1
  exact ro.code _ _ _ _ e1 σ T D W g sr b (y :: k) _ cs (.inl rfl) fb
theorem condF_ok (ro:RecOk C r) {fr:AFr} {x:Operand} {a c:Code} {s:St} {q:R} (e:condF r fr (evalA C s x) a c s=some q):CodeOk C fr (.cond x a c) s q:=by
 intro σ T D W g sr b k todo cs hst fb
 rcases hst with rfl|⟨_,h,_⟩
 .have hx:=evalA_rel (s:=s) g sr.t x
  unfold condF at e
  split at e
  .rename_i p hp
   rw [hp] at hx
   have:Fits (Post σ s W (Arr C.P (lone (b.fr T D (.code (if p then a else c) :: k)) cs W) b k cs)) q:=by
    cases p with
    | true=>exact ro.code _ _ _ _ e σ T D W g sr b k _ cs (.inl rfl) fb
    | false=>exact ro.code _ _ _ _ e σ T D W g sr b k _ cs (.inl rfl) fb
   intro hn
   obtain ⟨en,h1,h2⟩:=this hn
   exact ⟨en,h1,h2.imp fun T1 D1 V h=>.of_steps (.one (st_cond hx)) h⟩
  .rename_i p hp
   rw [hp] at hx
   rw [tickC_eq] at e
   obtain ⟨sr',st0⟩:=tick_step sr
   generalize (⟨s.tmps,s.defs,⟨s.hp.blks,s.hp.size,s.hp.clock+1⟩⟩:St)=s1 at e sr' st0
   refine fits_back sr'.ko st0 (B:=Arr C.P (lone (b.fr T D (.code (.cond x a c) :: k)) cs W) b k cs) ?_ fun _ _ _ _ h=>h
   cases e
   have way:∀ (c':Code),(∀ q',r.code fr c' s1=some q'->Fits (Post σ s1 W (Arr C.P (lone (b.fr T D (.code (.cond x a c) :: k)) cs W) b k cs)) q')->Fits (Post σ s1 W (Arr C.P (lone (b.fr T D (.code (.cond x a c) :: k)) cs W) b k cs)) (orCut (r.code fr c' s1)):=by
    intro c' h
    cases hc:r.code fr c' s1 with
    | none=>exact fun hn=>hn.elim
    | some q'=>exact h q' hc
   refine joinR_fits (post_closed sr' _) ?_ ?_
   .rintro rfl
    refine way a fun u hu hn=>?_
    obtain ⟨en,h1,h2⟩:=ro.code _ _ _ _ hu σ T D W g sr' b k _ cs (.inl rfl) fb hn
    exact ⟨en,h1,h2.imp fun T1 D1 V h=>.of_steps (.one (by rw [st_cond hx]; rfl)) h⟩
   .rintro rfl
    refine way c fun v hv hn=>?_
    obtain ⟨en,h1,h2⟩:=ro.code _ _ _ _ hv σ T D W g sr' b k _ cs (.inl rfl) fb hn
    exact ⟨en,h1,h2.imp fun T1 D1 V h=>.of_steps (.one (by rw [st_cond hx]; rfl)) h⟩
  .cases e
 .cases h
theorem block_ok (ro:RecOk C r) {fr:AFr} {i:Nat} {a:Code} {s:St} {nd:Nd} {l:List Ent} (e:r.code fr a s=some ⟨nd,l⟩):CodeOk C fr (.block i a) s ⟨nd,lone1 (blockL s i l)⟩:=by
 intro σ T D W g sr b k todo cs hst fb
 rcases hst with rfl|⟨_,h,_⟩
 .refine lone_fits fun hn=>?_
  obtain ⟨en,h1,h2⟩:=ro.code _ _ _ _ e σ T D W g sr b (.inBlock i :: k) _ cs (.inl rfl) fb hn
  have hq:Post σ s W (Arr C.P (lone (b.fr T D (.code (.block i a) :: k)) cs W) b k cs) (blockE i en).x en.s:=by
   obtain ⟨τ,T1,D1,V,r1,st1,h⟩:=h2
   refine ⟨τ,T1,D1,V,r1,st1,.of_steps (.one st_block) ?_⟩
   unfold blockE
   cases hx:en.x with
   | normal=>rw [hx] at h; simp only [hx]; exact h.trans (.one st_inBlock)
   | ret=>rw [hx] at h; simp only [hx]; exact h
   | raise a=>rw [hx] at h; simp only [hx]; exact h
   | goto j=>
    rw [hx] at h
    obtain ⟨k1,q1,q2⟩:=h
    simp only [hx]
    exact ⟨k1,q1,q2⟩
   | exit j=>
    rw [hx] at h
    obtain ⟨k1,q1,q2⟩:=h
    simp only
    cases hj:Nat.beq j i with
    | true=>
     have:=Nat.eq_of_beq_eq_true hj
     subst this
     exact q2.trans (.one (st_exit (by rw [q1]; simp [exitTo])))
    | false=>
     have:¬ i=j:=fun h=>by subst h; simp at hj
     simp only [cond_false,hx]
     exact ⟨k1,by rw [q1]; simp [exitTo,this],q2⟩
  exact (post_closed sr _).got hq (blockL_got.1 en h1)
 .cases h
theorem scope_ok (ro:RecOk C r) {fr:AFr} {a:Code} {s:St} {q:R} (e:scopeF a (r.code fr a s)=some q):CodeOk C fr (.scope a) s q:=by
 intro σ T D W g sr b k todo cs hst fb
 rcases hst with rfl|⟨_,h,_⟩
 .unfold scopeF at e
  split at e
  .cases e
  .rename_i q' hq
   split at e
   .rename_i hok
    cases e
    intro hn
    obtain ⟨en,h1,h2⟩:=ro.code _ _ _ _ hq σ T D W g sr b (.inScope a :: k) _ cs (.inl rfl) fb hn
    refine ⟨en,h1,?_⟩
    obtain ⟨τ,T1,D1,V,r1,st1,h⟩:=h2
    refine ⟨τ,T1,D1,V,r1,st1,.of_steps (.one st_scope) ?_⟩
    have hsc:=scopeOk_one hok h1
    cases hx:en.x with
    | normal=>rw [hx] at h; exact h.trans (.one st_inScope)
    | ret=>rw [hx] at h; exact h
    | raise a=>rw [hx] at h; exact h
    | goto j=>
     rw [hx] at h
     obtain ⟨k1,q1,q2⟩:=h
     exact ⟨k1,by rw [q1]; simp [gotoIn,hsc j hx],q2⟩
    | exit j=>
     rw [hx] at h
     obtain ⟨k1,q1,q2⟩:=h
     exact ⟨k1,by rw [q1]; simp [exitTo],q2⟩
   .cases e
 .cases h
theorem loop_ok (co:CtxOk C) (ro:RecOk C r) {fr:AFr} {a:Code} {s:St} {q:R} (e:codeF C r fr (.loop a) s=some q):CodeOk C fr (.loop a) s q:=by
 simp only [codeF] at e
 split at e
 .rename_i q' hq
  cases e
  exact co.loop _ _ _ _ hq
 .intro σ T D W g sr b k todo cs hst fb
  have:=two_fits (y:=.inLoop a) e ro g sr (b:=b) (k:=k) (cs:=cs) rfl (.inr ⟨a,rfl,rfl⟩) fb
  intro hn
  obtain ⟨en,h1,h2⟩:=this hn
  refine ⟨en,h1,h2.imp fun T1 D1 V h=>?_⟩
  rcases hst with rfl|⟨c,hc,rfl⟩
  .exact .of_steps (.one st_loop) h
  .cases hc
   exact .of_steps (.one st_inLoop) h
theorem codeF_ok (co:CtxOk C) (ro:RecOk C r) (dr:DrawOk C r) (rg:∀ fr f params assign body s q,rangeF C r fr (evalA C s f) params.toList assign body s=some q->CodeOk C fr (.rangeFunc f params assign body) s q)
  {fr:AFr} {c:Code} {s:St} {q:R} (e:codeF C r fr c s=some q):CodeOk C fr c s q:=by
 have simp1:∀ (c:Code),(∀ a,c≠.loop a)->(∀ σ T D W,GRel C σ->SRel σ s T D W->∀ (b:Base) (k:List Item) (cs:List Frame),FrRel σ fr b->Fits (Post σ s W (Arr C.P (lone (b.fr T D (.code c :: k)) cs W) b k cs)) q)->CodeOk C fr c s q:=by
  intro c hc h σ T D W g sr b k todo cs hst fb
  rcases hst with rfl|⟨a,ha,_⟩
  .exact h σ T D W g sr b k cs fb
  .exact absurd ha (hc a)
 cases c with
 | loop a=>exact loop_ok co ro e
 | skip=>exact simp1 _ (by simp) fun σ T D W g sr b k cs fb=>codes_one sr e (.one st_skip)
 | label l=>exact simp1 _ (by simp) fun σ T D W g sr b k cs fb=>codes_one sr e (.one st_label)
 | ret=>exact simp1 _ (by simp) fun σ T D W g sr b k cs fb=>codes_one sr e ⟨k,.refl _ _⟩
 | exit i=>exact simp1 _ (by simp) fun σ T D W g sr b k cs fb=>codes_one sr e ⟨k,rfl,.refl _ _⟩
 | goto i=>exact simp1 _ (by simp) fun σ T D W g sr b k cs fb=>codes_one sr e ⟨k,rfl,.refl _ _⟩
 | seq a c=>
  refine simp1 _ (by simp) fun σ T D W g sr b k cs fb=>?_
  .have:=two_fits (y:=.code c) e ro g sr (b:=b) (k:=k) (cs:=cs) rfl (.inl rfl) fb
   intro hn
   obtain ⟨en,h1,h2⟩:=this hn
   exact ⟨en,h1,h2.imp fun T1 D1 V h=>.of_steps (.one st_seq) h⟩
 | cond x a c=>exact condF_ok ro e
 | scope a=>exact scope_ok ro e
 | rangeFunc f params assign body=>exact rg _ _ _ _ _ _ _ e
 | block i a=>
  simp only [codeF,tickC_eq] at e
  split at e
  .cases e
  .rename_i nd l h
   cases e
   intro σ T D W g sr b k todo cs hst fb
   obtain ⟨sr',st0⟩:=tick_step sr
   exact fits_back sr'.ko st0 (block_ok ro h σ T D W g sr' b k todo cs hst fb) fun _ _ _ _ h=>h
 | region i ops d=>
  cases d with
  | false=>
   refine simp1 _ (by simp) fun σ T D W g sr b k cs fb=>?_
   have hb:(b.round=none\/ops.toList.any isDefer=false)/\opsF C r ops ops.toList s=some q:=by
    simp only [codeF] at e
    have h2:=fb.2
    split at e
    .rename_i hr
     rw [hr] at h2
     exact ⟨.inl h2,e⟩
    .split at e
     .cases e
     .rename_i hd; exact ⟨.inr hd,e⟩
   have:=opsF_ok co ro b k cs (idx_all ops) hb.1 s q hb.2 σ T D W g sr
   intro hn
   obtain ⟨en,h1,h2⟩:=this hn
   refine ⟨en,h1,h2.imp ?_⟩
   rintro T1 D1 V ⟨hx,h⟩
   exact .of_steps (.one st_region) h
  | true=>
   simp only [codeF] at e
   split at e
   .cases e
   .rename_i l hl
    split at e
    .rename_i ha
     exact dr fr i ops l s q hl ha e
    .cases e
 | refuse w=>cases e
end codes
end Go.Eng
namespace Go.Eng
theorem blt_of {i n:Nat} (h:i<n):Nat.blt i n=true:=by simpa using h
theorem of_blt {i n:Nat} (h:Nat.blt i n=true):i<n:=by simpa using h
mutual
def AV.allN (p:Nat->Prop):AV->Prop
 | .ptr i _=>p i
 | .slice i _ _ _=>p i
 | .gslice i _ _ _=>p i
 | .func _ fs cs=>AV.allNL p fs/\AV.allNL p cs
 | .yield l=>p l
 | .iface _ v=>AV.allN p v
 | .map i=>p i
 | .vslice i _=>p i
 | .pslice i _ _ _=>p i
 | .lslice i _=>p i
 | .panic v=>AV.allN p v
 | .vptr i _=>p i
 | .agg l=>AV.allNL p l
 | .tuple l=>AV.allNL p l
 | .any _=>True
 | .bool _ _=>True
 | .int _ _ _=>True
 | .str _ _=>True
 | .nil=>True
 | .nilslice=>True
 | .eslice _=>True
 | .nilfunc=>True
 | .niliface=>True
 | .nilmap=>True
def AV.allNL (p:Nat->Prop):List AV->Prop
 | []=>True
 | a :: l=>AV.allN p a/\AV.allNL p l
end
mutual
theorem VRel.ren {σ τ:Sg} {p:Nat->Prop} {ρ:Nat->Nat} (h:∀ i x,p i->σ i=some x->τ (ρ i)=some x):∀ (a:AV) (v:Value),VRel σ a v->a.allN p->VRel τ (a.ren ρ) v
 | .any false,_,_,_=>trivial
 | .any true,_,e,_=>e
 | .bool _ _,_,e,_=>e
 | .int _ _ _,_,e,_=>e
 | .str _ _,_,e,_=>e
 | .nil,_,e,_=>e
 | .nilslice,_,e,_=>e
 | .eslice _,_,e,_=>e
 | .nilfunc,_,e,_=>e
 | .niliface,_,e,_=>e
 | .nilmap,_,e,_=>e
 | .ptr i o,_,⟨b,N,e,r⟩,u=>⟨b,N,h _ _ u e,r⟩
 | .slice i _ _ _,_,⟨b,N,e,r⟩,u=>⟨b,N,h _ _ u e,r⟩
 | .gslice i _ _ _,_,⟨b,N,q,c,e,r⟩,u=>⟨b,N,q,c,h _ _ u e,r⟩
 | .func _ fs cs,_,⟨F,K,e,r,s⟩,u=>⟨F,K,e,VRels.ren h fs _ r u.1,VRels.ren h cs _ s u.2⟩
 | .yield i,_,⟨b,N,e,r⟩,u=>⟨b,N,h _ _ u e,r⟩
 | .iface _ a,_,⟨x,e,r⟩,u=>⟨x,e,VRel.ren h a _ r u⟩
 | .map i,_,⟨b,N,e,r⟩,u=>⟨b,N,h _ _ u e,r⟩
 | .vslice i _,_,⟨b,N,c,e,r⟩,u=>⟨b,N,c,h _ _ u e,r⟩
 | .pslice i _ _ _,_,⟨p',len,c,e1,e2,e3,r⟩,u=>⟨p',len,c,e1,e2,e3,r.imp id fun ⟨b,N,h1,h2⟩=>⟨b,N,h _ _ u h1,h2⟩⟩
 | .lslice i _,_,⟨p',len,c,e1,e2,r⟩,u=>⟨p',len,c,e1,e2,r.imp id fun ⟨b,N,h1,h2⟩=>⟨b,N,h _ _ u h1,h2⟩⟩
 | .panic a,v,e,u=>VRel.ren h a v e u
 | .vptr i _,_,⟨b,N,e,r⟩,u=>⟨b,N,h _ _ u e,r⟩
 | .agg l,_,⟨K,e,r⟩,u=>⟨K,e,VRels.ren h l _ r u⟩
 | .tuple l,_,⟨K,e,r⟩,u=>⟨K,e,VRels.ren h l _ r u⟩
theorem VRels.ren {σ τ:Sg} {p:Nat->Prop} {ρ:Nat->Nat} (h:∀ i x,p i->σ i=some x->τ (ρ i)=some x):∀ (l:List AV) (L:List Value),VRels σ l L->AV.allNL p l->VRels τ (AV.renL ρ l) L
 | [],_,e,_=>e
 | a :: l,_,⟨v,vs,e,r,s⟩,u=>⟨v,vs,e,VRel.ren h a _ r u.1,VRels.ren h l _ s u.2⟩
end
mutual
theorem AV.allN_mono {p q:Nat->Prop} (h:∀ i,p i->q i):∀ (a:AV),a.allN p->a.allN q
 | .ptr i _,u=>h i u
 | .slice i _ _ _,u=>h i u
 | .gslice i _ _ _,u=>h i u
 | .func _ fs cs,u=>⟨AV.allNL_mono h fs u.1,AV.allNL_mono h cs u.2⟩
 | .yield l,u=>h l u
 | .iface _ v,u=>AV.allN_mono h v u
 | .map i,u=>h i u
 | .vslice i _,u=>h i u
 | .pslice i _ _ _,u=>h i u
 | .lslice i _,u=>h i u
 | .panic v,u=>AV.allN_mono h v u
 | .vptr i _,u=>h i u
 | .agg l,u=>AV.allNL_mono h l u
 | .tuple l,u=>AV.allNL_mono h l u
 | .any _,_=>trivial
 | .bool _ _,_=>trivial
 | .int _ _ _,_=>trivial
 | .str _ _,_=>trivial
 | .nil,_=>trivial
 | .nilslice,_=>trivial
 | .eslice _,_=>trivial
 | .nilfunc,_=>trivial
 | .niliface,_=>trivial
 | .nilmap,_=>trivial
theorem AV.allNL_mono {p q:Nat->Prop} (h:∀ i,p i->q i):∀ (l:List AV),AV.allNL p l->AV.allNL q l
 | [],_=>trivial
 | a :: l,u=>⟨AV.allN_mono h a u.1,AV.allNL_mono h l u.2⟩
end
structure Refd (n:Nat) (acc l:List Nat) (P:(Nat->Prop)->Prop):Prop where
 sub:∀ i,i∈acc->i∈l
 all:P fun i=>i<n\/i∈l
 nd:acc.Nodup->l.Nodup
 ge:(∀ i∈acc,n<=i)->∀ i∈l,n<=i
theorem refd_one (n i:Nat) (acc:List Nat):Refd n acc (bif Nat.blt i n||acc.elem i then acc else acc++[i]) (fun p=>p i):=by
 cases h:Nat.blt i n||acc.elem i with
 | true=>
  refine ⟨fun _ h=>h,?_,id,id⟩
  simp only [Bool.or_eq_true,Nat.blt_eq,List.elem_eq_mem,decide_eq_true_eq] at h
  exact h
 | false=>
  simp only [Bool.or_eq_false_iff,List.elem_eq_mem,decide_eq_false_iff_not] at h
  refine ⟨fun j hj=>?_,?_,fun hd=>?_,fun hg j hj=>?_⟩
  .simp [hj]
  .right; simp
  .simp only [cond_false]
   rw [List.nodup_append]
   refine ⟨hd,by simp,?_⟩
   intro a ha b hb
   simp only [List.mem_singleton] at hb
   subst hb
   intro e; subst e; exact h.2 ha
  .simp only [cond_false,List.mem_append,List.mem_singleton] at hj
   rcases hj with hj|rfl
   .exact hg j hj
   .have h2:¬ j<n:=fun e=>by have:=blt_of e; rw [h.1] at this; cases this
    omega
theorem refd_true (n:Nat) (acc:List Nat):Refd n acc acc (fun _=>True):=⟨fun _ h=>h,trivial,id,id⟩
theorem Refd.two {n:Nat} {acc l m:List Nat} {P Q:(Nat->Prop)->Prop} (x:Refd n acc l P) (y:Refd n l m Q) (mono:∀ p q:Nat->Prop,(∀ i,p i->q i)->P p->P q):Refd n acc m (fun p=>P p/\Q p):=
 ⟨fun i h=>y.sub i (x.sub i h),⟨mono _ _ (fun i h=>h.imp id (y.sub i)) x.all,y.all⟩,fun h=>y.nd (x.nd h),fun h=>y.ge (x.ge h)⟩
mutual
theorem refs_ok (n:Nat):∀ (acc:List Nat) (a:AV),Refd n acc (AV.refs n acc a) (fun p=>a.allN p)
 | acc,.ptr i _=>refd_one n i acc
 | acc,.slice i _ _ _=>refd_one n i acc
 | acc,.gslice i _ _ _=>refd_one n i acc
 | acc,.func _ fs cs=>(refsL_ok n acc fs).two (refsL_ok n _ cs) fun _ _ h=>AV.allNL_mono h fs
 | acc,.yield l=>refd_one n l acc
 | acc,.iface _ v=>refs_ok n acc v
 | acc,.map i=>refd_one n i acc
 | acc,.vslice i _=>refd_one n i acc
 | acc,.pslice i _ _ _=>refd_one n i acc
 | acc,.lslice i _=>refd_one n i acc
 | acc,.panic v=>refs_ok n acc v
 | acc,.vptr i _=>refd_one n i acc
 | acc,.agg l=>refsL_ok n acc l
 | acc,.tuple l=>refsL_ok n acc l
 | acc,.any _=>refd_true n acc
 | acc,.bool _ _=>refd_true n acc
 | acc,.int _ _ _=>refd_true n acc
 | acc,.str _ _=>refd_true n acc
 | acc,.nil=>refd_true n acc
 | acc,.nilslice=>refd_true n acc
 | acc,.eslice _=>refd_true n acc
 | acc,.nilfunc=>refd_true n acc
 | acc,.niliface=>refd_true n acc
 | acc,.nilmap=>refd_true n acc
theorem refsL_ok (n:Nat):∀ (acc:List Nat) (l:List AV),Refd n acc (AV.refsL n acc l) (fun p=>AV.allNL p l)
 | acc,[]=>refd_true n acc
 | acc,a :: l=>(refs_ok n acc a).two (refsL_ok n _ l) fun _ _ h=>AV.allN_mono h a
end
mutual
theorem AV.ren_id:∀ (a:AV),a.ren id=a
 | .ptr i _=>rfl
 | .slice i _ _ _=>rfl
 | .gslice i _ _ _=>rfl
 | .func _ fs cs=>by simp [AV.ren,AV.renL_id fs,AV.renL_id cs]
 | .yield l=>rfl
 | .iface _ v=>by simp [AV.ren,AV.ren_id v]
 | .map i=>rfl
 | .vslice i _=>rfl
 | .pslice i _ _ _=>rfl
 | .lslice i _=>rfl
 | .panic v=>by simp [AV.ren,AV.ren_id v]
 | .vptr i _=>rfl
 | .agg l=>by simp [AV.ren,AV.renL_id l]
 | .tuple l=>by simp [AV.ren,AV.renL_id l]
 | .any _=>rfl
 | .bool _ _=>rfl
 | .int _ _ _=>rfl
 | .str _ _=>rfl
 | .nil=>rfl
 | .nilslice=>rfl
 | .eslice _=>rfl
 | .nilfunc=>rfl
 | .niliface=>rfl
 | .nilmap=>rfl
theorem AV.renL_id:∀ (l:List AV),AV.renL id l=l
 | []=>rfl
 | a :: l=>by simp [AV.renL,AV.ren_id a,AV.renL_id l]
end
theorem underT_eq {n:Nat}:∀ (l:List AT),underT n l=AV.underL n (l.map (·.v))
 | []=>rfl
 | a :: l=>by simp [underT,AV.underL,underT_eq l]
theorem BRel.under {σ:Sg} {n N:Nat} {w c:Nat} {b:ABody} {o:Obj} (h:BRel σ N b o) (hp:isPlain ⟨w,b⟩ c n=true) (hw:c<=w):BRel (σ.low n) N b o:=by
 unfold isPlain at hp
 split at hp
 .rename_i h1; have:=of_blt h1; simp only at this; omega
 .cases b with
  | dead=>trivial
  | cells l=>obtain ⟨K,e,k1,k2,k3⟩:=h; exact ⟨K,e,k1,VRels.low _ _ k2 hp,k3⟩
  | grown l=>obtain ⟨K,e,X,Y,k1,k2,k3,k4⟩:=h; exact ⟨K,e,X,Y,k1,k2,VRels.low _ _ k3 hp,k4⟩
  | ints q xs=>exact h
  | map es=>cases hp
  | view l=>cases hp
  | rows k xs=>exact h
  | loop r=>
   simp only [Bool.and_eq_true,Nat.blt_eq,underT_eq] at hp
   obtain ⟨L,k1,k2,k3,k4,k5,k6,k7,k8,M,k9⟩:=h
   exact ⟨L,k1,k2,k3,k4,VRels.low _ _ k5 hp.2,k6,k7,k8,M,by simp [Sg.low,hp.1,k9]⟩
  | defers t=>exact h
theorem allPlain_get {c n:Nat}:∀ {l:List ABlk},allPlain c n l=true->∀ (j:Nat) (b:ABlk),l[j]?=some b->isPlain b c n=true
 | [],_,j,b,h=>by simp at h
 | a :: l,hp,0,b,h=>by
  simp only [allPlain,Bool.and_eq_true] at hp
  simp only [List.getElem?_cons_zero,Option.some.injEq] at h
  subst h; exact hp.1
 | a :: l,hp,j+1,b,h=>by
  simp only [allPlain,Bool.and_eq_true] at hp
  exact allPlain_get hp.2 j b (by simpa using h)
theorem pick_spec {h:Hp} {n:Nat}:∀ {ids:List Nat} {acc l:List ABlk},pick h n ids acc=some l->∃ m:List ABlk,l=m.reverse++acc/\m.length=ids.length /\
  ∀ (j i:Nat),ids[j]?=some i->∃ b:ABlk,m[j]?=some b/\h.get i=some b/\isPlain ⟨h.clock,b.body⟩ h.clock n=true
 | [],acc,l,e=>by cases e; exact ⟨[],rfl,rfl,fun j i h=>(by simp at h)⟩
 | i :: ids,acc,l,e=>by
  have key:∀ b:ABlk,h.get i=some b->isPlain ⟨h.clock,b.body⟩ h.clock n=true->pick h n ids (b :: acc)=some l->∃ m:List ABlk,l=m.reverse++acc/\m.length=(i :: ids).length /\
    ∀ (j i':Nat),(i :: ids)[j]?=some i'->∃ b:ABlk,m[j]?=some b/\h.get i'=some b/\isPlain ⟨h.clock,b.body⟩ h.clock n=true:=by
   intro b hb hp e
   obtain ⟨m,h1,h2,h3⟩:=pick_spec e
   refine ⟨b :: m,by simp [h1],by simp [h2],fun j i' hj=>?_⟩
   cases j with
   | zero=>simp only [List.getElem?_cons_zero,Option.some.injEq] at hj; subst hj; exact ⟨b,rfl,hb,hp⟩
   | succ j=>simpa using h3 j i' (by simpa using hj)
  have hc:Nat.blt h.clock h.clock=false:=by
   rw [Bool.eq_false_iff]; intro e; have:=of_blt e; omega
  simp only [pick] at e
  split at e
  .rename_i w m hg
   split at e
   .rename_i hu; exact key _ hg (by simp [isPlain,hc,hu]) e
   .cases e
  .rename_i w m hg
   split at e
   .rename_i hu; exact key _ hg (by simp [isPlain,hc,hu]) e
   .cases e
  .rename_i w k m hg
   exact key _ hg (by simp [isPlain,hc]) e
  .rename_i w k m hg
   exact key _ hg (by simp [isPlain,hc]) e
  .cases e
theorem gc_rel {σ τ:Sg} {h0 h1:Hp} {W X:World} (r0:HRel σ h0 W) (r1:HRel τ h1 X) (g:Good σ h0 W τ h1 X) {v:AV} {V:Value} (hv:VRel τ v V):
  ∃ υ,VRel υ (gc h0.size h0.clock v h1).1 V/\HRel υ (gc h0.size h0.clock v h1).2 X/\Good σ h0 W υ (gc h0.size h0.clock v h1).2 X:=by
 unfold gc
 split
 .exact ⟨τ,hv,r1,g⟩
 .simp only
  split
  .rename_i hpl
   have hle:=g.mon.size
   have hold:∀ i,i<h0.size->(dropN (h1.size - h0.size) h1.blks)[h0.size - 1 - i]?=h1.get i:=by
    intro i hi
    rw [dropN_eq,List.getElem?_drop,Hp.get_eq,if_pos (by omega)]
    congr 1; omega
   have hlen:(dropN (h1.size - h0.size) h1.blks).length=h0.size:=by
    rw [dropN_eq,List.length_drop,r1.ok]; omega
   have hdom:∀ i B N,σ i=some (B,N)->i<h0.size:=fun i B N e=>(r0.dom i B N e).1
   have hblk:∀ i b,i<h0.size->h1.get i=some b->b.body.isDead=false->∃ B N o,τ i=some (B,N)/\X.heap[B]?=some o/\BRel (τ.low h0.size) N b.body o:=by
    intro i b hi hb hd
    obtain ⟨B,N,o,q1,q2,q3⟩:=r1.blk i b hb hd
    refine ⟨B,N,o,q1,q2,?_⟩
    obtain ⟨b0,hb0⟩:=Hp.get_some r0.ok hi
    by_cases hw:h0.clock<=b.wr
    .have:=allPlain_get hpl (h0.size - 1 - i) b (by rw [hold i hi]; exact hb)
     exact BRel.under q3 this hw
    .have hbb:b=b0:=(g.mon.same i b0 b hb0 hb).resolve_right hw
     subst hbb
     obtain ⟨B',N',o',_,_,q6⟩:=r0.blk i b hb0 hd
     exact BRel.names hdom g.sub q6 q3
   have general:∀ (ids:List Nat) (l:List ABlk),Refd h0.size [] ids (fun p=>v.allN p)->pick h1 h0.size ids (dropN (h1.size - h0.size) h1.blks)=some l ->
     ∃ υ,VRel υ (AV.ren (place h0.size ids) v) V/\HRel υ ⟨l,h0.size+ids.length,h1.clock⟩ X/\Good σ h0 W υ ⟨l,h0.size+ids.length,h1.clock⟩ X/\(ids=[]->υ=τ.low h0.size):=by
    intro ids l hr hpk
    obtain ⟨m,rfl,hm,hms⟩:=pick_spec hpk
    have hids:∀ j,j<ids.length->∃ i,ids[j]?=some i/\h0.size<=i/\i<h1.size:=by
     intro j hj
     obtain ⟨b,_,h2,_⟩:=hms j ids[j] (List.getElem?_eq_getElem hj)
     exact ⟨ids[j],List.getElem?_eq_getElem hj,hr.ge (by simp) _ (List.getElem_mem hj),Hp.get_lt h2⟩
    have hnd:=hr.nd (by simp)
    let υ:Sg:=fun i=>if i<h0.size then τ i else match ids[i - h0.size]? with|some j=>τ j|none=>none
    have hlow:Sub (τ.low h0.size) υ:=by
     intro i x e
     obtain ⟨h2,h3⟩:=low_dom e
     simp [υ,h2,h3]
    have hυ:∀ i x,υ i=some x->(i<h0.size/\τ i=some x)\/(h0.size<=i/\∃ j,ids[i - h0.size]?=some j/\τ j=some x):=by
     intro i x e
     simp only [υ] at e
     split at e
     .exact .inl ⟨by assumption,e⟩
     .rename_i hi
      right
      refine ⟨by omega,?_⟩
      split at e
      .rename_i j hj; exact ⟨j,hj,e⟩
      .cases e
    have hget:∀ i,(⟨m.reverse++dropN (h1.size - h0.size) h1.blks,h0.size+ids.length,h1.clock⟩:Hp).get i=if i<h0.size then h1.get i else m[i - h0.size]?:=by
     intro i
     rw [Hp.get_eq]
     simp only
     by_cases hi:i<h0.size
     .rw [if_pos (by omega),if_pos hi,<- hold i hi,List.getElem?_append_right (by simp; omega)]
      congr 1; simp; omega
     .rw [if_neg hi]
      by_cases hj:i<h0.size+ids.length
      .rw [if_pos hj,List.getElem?_append_left (by simp; omega),List.getElem?_reverse (by omega)]
       congr 1; omega
      .rw [if_neg hj,List.getElem?_eq_none (by omega)]
    have hold2:∀ i B N,υ i=some (B,N)->h0.size<=i->B<W.heap.size->False\/∃ j M c,j<h0.size/\σ j=some (B,M)/\(⟨m.reverse++dropN (h1.size - h0.size) h1.blks,h0.size+ids.length,h1.clock⟩:Hp).get j=some c/\h0.clock<=c.wr:=by
     intro i B N e hi hB
     rcases hυ i _ e with ⟨h2,_⟩|⟨_,j,h2,h3⟩
     .omega
     .obtain ⟨i',q1,q2,_⟩:=hids (i - h0.size) (List.getElem?_eq_some_iff.1 h2).1
      rw [h2] at q1; cases q1
      obtain ⟨j',M,c,p1,p2,p3,p4⟩:=(g.old j B N h3 q2 hB).resolve_left id
      exact .inr ⟨j',M,c,p1,p2,by rw [hget,if_pos p1]; exact p3,p4⟩
    have hrel:HRel υ ⟨m.reverse++dropN (h1.size - h0.size) h1.blks,h0.size+ids.length,h1.clock⟩ X:=by
     refine ⟨by simp [Hp.ok,hlen,hm]; omega,fun i b hb hd=>?_,fun i B N e=>?_,fun i j b c B N M q1 q2 q3 q4 q5 q6=>?_⟩
     .rw [hget] at hb
      split at hb
      .rename_i hi
       obtain ⟨B,N,o,p1,p2,p3⟩:=hblk i b hi hb hd
       exact ⟨B,N,o,by simp [υ,hi,p1],p2,BRel.mono hlow p3⟩
      .rename_i hi
       have hlt:i - h0.size<ids.length:=by
        have:=(List.getElem?_eq_some_iff.1 hb).1; omega
       obtain ⟨b',p1,p2,p3⟩:=hms (i - h0.size) _ (List.getElem?_eq_getElem hlt)
       rw [hb] at p1; cases p1
       obtain ⟨B,N,o,s1,s2,s3⟩:=r1.blk _ b p2 hd
       refine ⟨B,N,o,by simp [υ,hi,hlt,s1],s2,BRel.mono hlow (BRel.under s3 p3 (Nat.le_refl _))⟩
     .rcases hυ i _ e with ⟨h2,h3⟩|⟨h2,j,h3,h4⟩
      .exact ⟨by simp only; omega,(r1.dom _ _ _ h3).2⟩
      .have:=(List.getElem?_eq_some_iff.1 h3).1
       exact ⟨by simp only; omega,(r1.dom _ _ _ h4).2⟩
     .-- two numbers of one block
      have back:∀ i b B N,(⟨m.reverse++dropN (h1.size - h0.size) h1.blks,h0.size+ids.length,h1.clock⟩:Hp).get i=some b->υ i=some (B,N)->∃ i',h1.get i'=some b/\τ i'=some (B,N)/\((i<h0.size/\i'=i)\/(h0.size<=i/\h0.size<=i'/\ids[i - h0.size]?=some i')):=by
       intro i b B N hb hi
       rw [hget] at hb
       rcases hυ i _ hi with ⟨h2,h3⟩|⟨h2,j,h3,h4⟩
       .rw [if_pos h2] at hb
        exact ⟨i,hb,h3,.inl ⟨h2,rfl⟩⟩
       .rw [if_neg (by omega)] at hb
        obtain ⟨b',p1,p2,_⟩:=hms _ j h3
        rw [hb] at p1; cases p1
        exact ⟨j,p2,h4,.inr ⟨h2,hr.ge (by simp) _ (List.mem_of_getElem? h3),h3⟩⟩
      obtain ⟨i',a1,a2,a3⟩:=back i b B N q1 q5
      obtain ⟨j',b1,b2,b3⟩:=back j c B M q2 q6
      rcases r1.inj i' j' b c B N M a1 b1 q3 q4 a2 b2 with hij|hij
      case inr=>exact .inr hij
      left
      subst hij
      rcases a3 with ⟨_,rfl⟩|⟨c1,c2,c3⟩ <;> rcases b3 with ⟨_,d2⟩|⟨d1,d2,d3⟩
      .exact d2
      .omega
      .omega
      .have l1:=(List.getElem?_eq_some_iff.1 c3)
       have l2:=(List.getElem?_eq_some_iff.1 d3)
       obtain ⟨l1,l1'⟩:=l1
       obtain ⟨l2,l2'⟩:=l2
       have:=(List.getElem_inj hnd (h₀:=l1) (h₁:=l2)).1 (by rw [l1',l2'])
       omega
    refine ⟨υ,?_,hrel,⟨?_,?_,g.ext,⟨g.mon.clock,by simp only; omega,?_,?_⟩,hold2,?_⟩,?_⟩
    .refine VRel.ren (p:=fun i=>i<h0.size\/i∈ids) ?_ v V hv hr.all
     intro i x hp hx
     unfold place
     by_cases hi:i<h0.size
     .have:Nat.blt i h0.size=true:=blt_of hi
      simp [this,υ,hi,hx]
     .have hb:Nat.blt i h0.size=false:=by rw [Bool.eq_false_iff]; intro e; exact hi (of_blt e)
      have hmem:=hp.resolve_left hi
      simp only [hb,cond_false,forceNat_eq]
      have hlt:ids.idxOf i<ids.length:=List.idxOf_lt_length_iff.2 hmem
      have:ids[ids.idxOf i]?=some i:=by rw [List.getElem?_eq_getElem hlt,List.getElem_idxOf hlt]
      have hn:¬ h0.size+ids.idxOf i<h0.size:=by omega
      simp only [υ,hn,if_false,Nat.add_sub_cancel_left,this,hx]
    .intro i x e
     have:=g.sub _ _ e
     have hi:=hdom i _ _ e
     simp [υ,hi,this]
    .intro i x e hi
     rcases hυ i _ e with ⟨_,h3⟩|⟨h2,_⟩
     .exact g.only i x h3 hi
     .omega
    .intro i b c h2 h3
     rw [hget,if_pos (Hp.get_lt h2)] at h3
     exact g.mon.same i b c h2 h3
    .intro i w c h2
     rw [hget,if_pos (Hp.get_lt h2)]
     exact g.mon.loop i w c h2
    .intro B hB hH hw
     refine g.keep B hB hH fun i N c h2 h3=>hw i N c h2 ?_
     rw [hget,if_pos (hdom _ _ _ h2)]; exact h3
    .rintro rfl
     funext i
     by_cases hi:i<h0.size
     .simp only [υ,Sg.low,hi,if_true]
     .simp only [υ,Sg.low,hi,if_false,List.getElem?_nil]
   have href:=refs_ok h0.size [] v
   split
   .rename_i hnil
    rw [hnil] at href
    obtain ⟨υ,g1,g2,g3,g4⟩:=general [] _ href rfl
    refine ⟨υ,?_,g2,g3⟩
    rw [g4 rfl]
    have:=VRel.ren (σ:=τ) (τ:=τ.low h0.size) (p:=fun i=>i<h0.size\/i∈[]) (ρ:=id) ?_ v V hv href.all
    .rwa [AV.ren_id] at this
    .intro i x hp hx
     simp at hp
     simp [Sg.low,hp,hx]
   .split
    .rename_i l hl
     obtain ⟨υ,g1,g2,g3,g4⟩:=general _ _ href hl
     exact ⟨υ,g1,g2,g3⟩
    .exact ⟨τ,hv,r1,g⟩
  .exact ⟨τ,hv,r1,g⟩
end Go.Eng
namespace Go.Eng
def NonC (l:List CEnt):Prop:=l.filter (fun e=>e.g.val)=[]
theorem oneC_true {l:List CEnt} {e:CEnt} (h:e.g.val=true) (k:NonC l):OneC (e :: l) e:=by
 unfold OneC NonC at *; simp [h,k]
theorem oneC_false {l:List CEnt} {e f:CEnt} (h:e.g.val=false) (k:OneC l f):OneC (e :: l) f:=by
 unfold OneC at *; simp [h,k]
theorem nonC_cons {l:List CEnt} {e:CEnt} (h:e.g.val=false) (k:NonC l):NonC (e :: l):=by
 unfold NonC at *; simp [h,k]
theorem oneC_cases {l:List CEnt} {a e:CEnt} (h:OneC (a :: l) e):(a.g.val=true/\a=e/\NonC l)\/(a.g.val=false/\OneC l e):=by
 unfold OneC NonC at *
 simp only [List.filter_cons] at h
 cases ha:a.g.val with
 | true=>rw [ha] at h; simp at h; exact .inl ⟨rfl,h.1,by simpa using h.2⟩
 | false=>rw [ha] at h; exact .inr ⟨rfl,by simpa using h⟩
theorem nonC_cases {l:List CEnt} {a:CEnt} (h:NonC (a :: l)):a.g.val=false/\NonC l:=by
 unfold NonC at *
 simp only [List.filter_cons] at h
 cases ha:a.g.val with
 | true=>rw [ha] at h; simp at h
 | false=>rw [ha] at h; exact ⟨rfl,by simpa using h⟩
def ClosedC (s0:St) (Q:AV->Hp->Prop):Prop:=∀ (pt g:Bool) (a b c:CEnt),mergeC pt s0 g a b=some c->(g=true->Q a.v a.hp)->(g=false->Q b.v b.hp)->Q c.v c.hp
def GotC (Q:AV->Hp->Prop) (l:List CEnt):Prop:=∃ e,OneC l e/\Q e.v e.hp
theorem addC_other {pt:Bool} {s0:St} {Q:AV->Hp->Prop} (cl:ClosedC s0 Q) {e:CEnt} (he:e.g.val=false):∀ {l:List CEnt},(GotC Q l->GotC Q (addC pt s0 e l))/\(NonC l->NonC (addC pt s0 e l))
 | []=>⟨fun ⟨f,h,_⟩=>by simp [OneC] at h,fun _=>nonC_cons he rfl⟩
 | a :: l=>by
  obtain ⟨i1,i2⟩:=addC_other (pt:=pt) cl he (l:=l)
  simp only [addC,G.on_eq]
  split
  .rename_i c hc
   rw [he] at hc
   refine ⟨fun ⟨f,h,hq⟩=>?_,fun h=>?_⟩
   .rcases oneC_cases h with ⟨h1,rfl,h3⟩|⟨h1,h2⟩
    .have hQ:=cl _ _ _ _ _ hc (fun h=>by cases h) fun _=>hq
     exact ⟨_,oneC_true (by simp [h1]) h3,hQ⟩
    .exact ⟨f,oneC_false (by simp [h1,he]) h2,hq⟩
   .obtain ⟨h1,h2⟩:=nonC_cases h
    exact nonC_cons (by simp [h1,he]) h2
  .refine ⟨fun ⟨f,h,hq⟩=>?_,fun h=>?_⟩
   .rcases oneC_cases h with ⟨h1,rfl,h3⟩|⟨h1,h2⟩
    .exact ⟨a,oneC_true h1 (i2 h3),hq⟩
    .obtain ⟨f',q1,q2⟩:=i1 ⟨f,h2,hq⟩
     exact ⟨f',oneC_false h1 q1,q2⟩
   .obtain ⟨h1,h2⟩:=nonC_cases h
    exact nonC_cons h1 (i2 h2)
theorem addC_taken {pt:Bool} {s0:St} {Q:AV->Hp->Prop} (cl:ClosedC s0 Q) {e:CEnt} (he:e.g.val=true) (hq:Q e.v e.hp):∀ {l:List CEnt},NonC l->GotC Q (addC pt s0 e l)
 | [],_=>⟨e,oneC_true he rfl,hq⟩
 | a :: l,h=>by
  obtain ⟨h1,h2⟩:=nonC_cases h
  simp only [addC,G.on_eq]
  split
  .rename_i c hc
   rw [he] at hc
   have hQ:=cl _ _ _ _ _ hc (fun _=>hq) fun h=>by cases h
   exact ⟨_,oneC_true (by simp [he]) h2,hQ⟩
  .obtain ⟨f',q1,q2⟩:=addC_taken cl he hq h2
   exact ⟨f',oneC_false h1 q1,q2⟩
theorem joinC_got {pt:Bool} {s0:St} {Q:AV->Hp->Prop} (cl:ClosedC s0 Q):∀ {l:List CEnt},(GotC Q l->GotC Q (joinC pt s0 l))/\(NonC l->NonC (joinC pt s0 l))
 | []=>⟨id,id⟩
 | a :: l=>by
  obtain ⟨i1,i2⟩:=joinC_got (pt:=pt) cl (l:=l)
  simp only [joinC]
  refine ⟨fun ⟨f,h,hq⟩=>?_,fun h=>?_⟩
  .rcases oneC_cases h with ⟨h1,rfl,h3⟩|⟨h1,h2⟩
   .exact addC_taken cl h1 hq (i2 h3)
   .exact (addC_other cl h1).1 (i1 ⟨f,h2,hq⟩)
  .obtain ⟨h1,h2⟩:=nonC_cases h
   exact (addC_other cl h1).2 (i2 h2)
theorem lone2_got {Q:AV->Hp->Prop} {l:List CEnt} (h:GotC Q l):GotC Q (lone2 l):=by
 obtain ⟨e,h1,h2⟩:=h
 unfold lone2
 split
 .rename_i f
  rcases oneC_cases h1 with ⟨_,rfl,_⟩|⟨_,h3⟩
  .exact ⟨_,rfl,h2⟩
  .simp [OneC] at h3
 .exact ⟨e,h1,h2⟩
def PostP (σ:Sg) (h:Hp) (W:World) (A:Bool->Value->World->Prop):AV->Hp->Prop:=
 fun v h'=>∃ τ V X,VRel τ v V/\HRel τ h' X/\Good σ h W τ h' X/\A v.isPanic V X
theorem sameB_eq {a b:Bool} (h:sameB a b=true):a=b:=by
 cases a <;> cases b <;> first|rfl|cases h
theorem postP_closed {σ:Sg} {h:Hp} {W:World} (r:HRel σ h W) (A:Bool->Value->World->Prop):ClosedC ⟨[⟨0,undefA⟩],[],h⟩ (PostP σ h W A):=by
 intro pt g a b c hc ha hb
 unfold mergeC at hc
 simp only at hc
 split at hc
 .cases hc
 rename_i hab
 simp only [Bool.and_eq_true] at hab
 have hab:=sameB_eq hab.1
 split at hc
 .rename_i t ds h' hm
  split at hc
  case h_2=>cases hc
  rename_i hta
  have hta:=sameB_eq hta
  cases hc
  have r0:SRel σ ⟨[⟨0,undefA⟩],[],h⟩ #[undef] [] W:=⟨⟨undef,[],rfl,⟨#[],rfl,rfl⟩,rfl⟩,rfl,r⟩
  have st:∀ (v:AV) (k:Hp) (τ:Sg) (V:Value) (X:World),VRel τ v V->HRel τ k X->Good σ h W τ k X->SRel τ ⟨[⟨h.clock,v⟩],[],k⟩ #[V] [] X/\Step σ ⟨[⟨0,undefA⟩],[],h⟩ W τ ⟨[⟨h.clock,v⟩],[],k⟩ X:=by
   intro v k τ V X h1 h2 h3
   refine ⟨⟨⟨V,[],rfl,h1,rfl⟩,rfl,h2⟩,⟨h3,⟨rfl,fun t x hx=>.inr ?_⟩⟩⟩
   cases t with
   | zero=>cases hx; exact Nat.le_refl _
   | succ t=>simp at hx
  cases g with
  | true=>
   obtain ⟨τ,V,X,h1,h2,h3,h4⟩:=ha rfl
   obtain ⟨p1,p2⟩:=st _ _ τ V X h1 h2 h3
   obtain ⟨υ,q1,q2⟩:=mergeSt_rel r0 hm (fun _=>⟨p1,p2⟩) (fun h=>by cases h)
   obtain ⟨V',_,e1,e2,_⟩:=q1.t
   cases e1
   exact ⟨υ,V,X,e2,q1.h,q2.good,by rw [hta]; exact h4⟩
  | false=>
   obtain ⟨τ,V,X,h1,h2,h3,h4⟩:=hb rfl
   obtain ⟨p1,p2⟩:=st _ _ τ V X h1 h2 h3
   obtain ⟨υ,q1,q2⟩:=mergeSt_rel r0 hm (fun h=>by cases h) (fun _=>⟨p1,p2⟩)
   obtain ⟨V',_,e1,e2,_⟩:=q1.t
   cases e1
   exact ⟨υ,V,X,e2,q1.h,q2.good,by rw [hta,hab]; exact h4⟩
 .cases hc
end Go.Eng
