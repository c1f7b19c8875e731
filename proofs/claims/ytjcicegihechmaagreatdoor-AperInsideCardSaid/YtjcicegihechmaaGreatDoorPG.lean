/- What is proved: AperInside returns true, whatever the input (part 7). No conditions beyond those of the row. -/
import Derived.Test.YtjcicegihechmaaGreatDoorPF
import Derived.Laws.Bits64b
import Derived.Lib.BitFns
import Derived.Laws.BitsLemmas
set_option linter.unusedVariables false
set_option linter.unusedSimpArgs false
set_option linter.unusedSectionVars false
namespace Go.Eng
open Go
noncomputable section
abbrev NSpec:=List AV->Hp->Option (Nd×AV×List ABody)
structure NOk (P:Program) (glob:Nat->Option Nat) (hG:Hp) (f:FuncId) (spec:NSpec):Prop where
 call:∀ args nd v bs h,spec args h=some (nd,v,bs)->globsSame hG h hG.size=true->CallOk (mkM P glob hG [] noExt) f args h ⟨nd,[⟨.tt,v,pushAll h bs⟩]⟩
 fn:∃ fn:Func,P.funcs[f]?=some fn/\fn.body.isSome=true
def hN (s:HSpec):NSpec:=fun args h=>match s args h with
 | some (nd,v)=>some (nd,v,[])
 | none=>none
theorem HOk.n {P:Program} {glob:Nat->Option Nat} {hG:Hp} {f:FuncId} {s:HSpec} (g:HOk P glob hG f s):NOk P glob hG f (hN s):=by
 refine ⟨fun args nd v bs h e same=>?_,g.fn⟩
 unfold hN at e
 split at e
 .rename_i nd' v' h1
  cases e
  exact g.call args nd v h h1 same
 .cases e
noncomputable def dropR {α:Type} (l:List α) (n:Nat):List α:=
 List.rec (motive:=fun _=>Nat->List α) (fun _=>[]) (fun a l ih n=>Nat.rec (motive:=fun _=>List α) (a :: l) (fun m _=>ih m) n) l n
theorem dropR_eq {α:Type}:∀ (l:List α) (n:Nat),dropR l n=l.drop n
 | [],n=>by cases n <;> rfl
 | a :: l,0=>rfl
 | a :: l,n+1=>(dropR_eq l n).trans rfl
def samesB:Nat->List ABlk->List ABlk->Bool
 | 0,_,_=>true
 | n+1,a :: l,b :: m=>sameBody a.body b.body&&samesB n l m
 | _,_,_=>false
theorem samesB_get:∀ {n:Nat} {l m:List ABlk},samesB n l m=true->∀ j,j<n->∃ b c,l[j]?=some b/\m[j]?=some c/\sameBody b.body c.body=true
 | 0,_,_,_,j,hj=>absurd hj (Nat.not_lt_zero j)
 | n+1,[],_,e,_,_=>by cases e
 | n+1,_ :: _,[],e,_,_=>by cases e
 | n+1,a :: l,b :: m,e,j,hj=>by
  simp only [samesB,Bool.and_eq_true] at e
  cases j with
  | zero=>exact ⟨a,b,rfl,rfl,e.1⟩
  | succ j=>
   obtain ⟨b',c',h1,h2,h3⟩:=samesB_get e.2 j (by omega)
   exact ⟨b',c',by simpa using h1,by simpa using h2,h3⟩
def globsF (hG h:Hp):Bool:=match Nat.ble hG.size h.size with
 | true=>samesB hG.size (dropR h.blks (h.size - hG.size)) hG.blks
 | false=>false
theorem globsF_same {hG h:Hp} (e:globsF hG h=true):globsSame hG h hG.size=true:=by
 unfold globsF at e
 split at e
 .rename_i hb
  have hb:=Nat.le_of_ble_eq_true hb
  have key:∀ n,n<=hG.size->globsSame hG h n=true:=by
   intro n
   induction n with
   | zero=>intro _; rfl
   | succ n ih=>
    intro hn
    obtain ⟨b,c,h1,h2,h3⟩:=samesB_get e (hG.size - 1 - n) (by omega)
    rw [dropR_eq,List.getElem?_drop] at h1
    have e1:h.get n=some b:=by
     unfold Hp.get
     have:Nat.ble h.size n=false:=by rw [Bool.eq_false_iff]; intro k; have:=Nat.le_of_ble_eq_true k; omega
     have e4:h.size - 1 - n=h.size - hG.size+(hG.size - 1 - n):=by omega
     rw [this]
     show nth h.blks (h.size - 1 - n)=some b
     rw [nth_eq,e4]
     exact h1
    have e2:hG.get n=some c:=by
     unfold Hp.get
     have:Nat.ble hG.size n=false:=by rw [Bool.eq_false_iff]; intro k; have:=Nat.le_of_ble_eq_true k; omega
     rw [this]
     show nth hG.blks (hG.size - 1 - n)=some c
     rw [nth_eq]
     exact h2
    simp only [globsSame,ih (by omega),e1,e2,h3,Bool.and_self]
  exact key _ (Nat.le_refl _)
 .cases e
def conN (hG:Hp):List (FuncId×NSpec)->FuncId->List AV->Hp->Option (Nd×AV×List ABody)
 | [],_,_,_=>none
 | (g,s) :: l,f,args,h=>match Nat.beq f g with
  | true=>match s args h with
   | some x=>match globsF hG h with
    | true=>some x
    | false=>none
   | none=>conN hG l f args h
  | false=>conN hG l f args h
theorem conN_some {hG:Hp}:∀ {l:List (FuncId×NSpec)} {f:FuncId} {args:List AV} {h:Hp} {x:Nd×AV×List ABody},conN hG l f args h=some x->globsSame hG h hG.size=true/\∃ s,(f,s)∈l/\s args h=some x
 | [],_,_,_,_,e=>by cases e
 | (g,s) :: l,f,args,h,x,e=>by
  simp only [conN] at e
  split at e
  .rename_i hb
   have:=Nat.eq_of_beq_eq_true hb
   subst this
   split at e
   .rename_i hs
    split at e
    .rename_i hg
     cases e
     exact ⟨globsF_same hg,s,by simp,hs⟩
    .cases e
   .obtain ⟨h2,s',h3,h4⟩:=conN_some e
    exact ⟨h2,s',by simp [h3],h4⟩
  .obtain ⟨h2,s',h3,h4⟩:=conN_some e
   exact ⟨h2,s',by simp [h3],h4⟩
def mkN (P:Program) (glob:Nat->Option Nat) (hG:Hp) (tbl:List (FuncId×NSpec)) (tt:List (FuncId×TSpec)) (ext:FuncId->List AV->Option (Nd×AV)):Ctx:={ P,glob,con:=conN hG tbl,ext,loop:=fun _ _ _=>none,two:=twoG hG tt }
theorem mkN_ok {P:Program} {glob:Nat->Option Nat} {hG:Hp} (hp:ProgOk P) {tbl:List (FuncId×NSpec)} {tt:List (FuncId×TSpec)} {ext:FuncId->List AV->Option (Nd×AV)} (he:ExtOk P ext) (ht:∀ x∈tbl,NOk P glob hG x.1 x.2) (h2:∀ x∈tt,TOk P glob hG x.1 x.2):CtxOk (mkN P glob hG tbl tt ext):=by
 refine ⟨hp,fun f args h nd v bs e=>?_,he,fun _ _ _ _ e=>(by cases e),fun f args h nd p v w e=>?_⟩
 .obtain ⟨hg,s,h1,h3⟩:=conN_some e
  have g:=ht _ h1
  exact ⟨g.call args nd v bs h h3 hg,g.fn⟩
 .obtain ⟨hg,s,h1,h3⟩:=twoG_some e
  have g:=h2 _ h1
  exact ⟨g.call args nd p v w h h3 hg,g.fn⟩
mutual
def tell:AV->AV->Prop
 | .int _ k x,.int _ k' y=>k=k'/\x=y
 | .bool _ a,.bool _ b=>a=b
 | .str _ a,.str _ b=>a=b
 | .agg l,.agg m=>tellL l m
 | .tuple l,.tuple m=>tellL l m
 | .pslice i l _ n,.pslice i' l' _ n'=>i=i'/\l'<=l/\n=n'
 | .any _,_=>False
 | a,b=>a=b
def tellL:List AV->List AV->Prop
 | [],[]=>True
 | a :: l,b :: m=>tell a b/\tellL l m
 | _,_=>False
end
mutual
theorem tell_rel {σ:Sg}:∀ (a b:AV) (V:Value),tell a b->VRel σ a V->VRel σ b V
 | .int _ k x,.int _ k' y,V,h,r=>by obtain ⟨rfl,rfl⟩:=h; exact r
 | .bool _ a,.bool _ b,V,h,r=>by obtain rfl:=h; exact r
 | .str _ a,.str _ b,V,h,r=>by obtain rfl:=h; exact r
 | .pslice i l _ n,.pslice i' l' _ n',V,h,r=>by
  obtain ⟨rfl,hl,rfl⟩:=h
  obtain ⟨p,len,c,e1,e2,e3,e4⟩:=r
  exact ⟨p,len,c,e1,e2,Nat.le_trans hl e3,e4.imp (fun h0=>by omega) id⟩
 | .agg l,.agg m,V,h,r=>by obtain ⟨K,rfl,hK⟩:=r; exact ⟨K,rfl,tellL_rel l m _ h hK⟩
 | .tuple l,.tuple m,V,h,r=>by obtain ⟨K,rfl,hK⟩:=r; exact ⟨K,rfl,tellL_rel l m _ h hK⟩
 | a,b,V,h,r=>by
  unfold tell at h
  split at h <;> first
   | (subst h; exact r)
   | exact h.elim
   | (obtain ⟨rfl,rfl⟩:=h; exact r)
   | (
     obtain ⟨rfl,hl,rfl⟩:=h
     obtain ⟨p,len,c,e1,e2,e3,e4⟩:=r
     exact ⟨p,len,c,e1,e2,Nat.le_trans hl e3,e4.imp (fun h0=>by omega) id⟩)
   | (obtain ⟨K,rfl,hK⟩:=r; exact ⟨K,rfl,tellL_rel _ _ _ h hK⟩)
theorem tellL_rel {σ:Sg}:∀ (l m:List AV) (L:List Value),tellL l m->VRels σ l L->VRels σ m L
 | [],[],L,_,r=>r
 | a :: l,b :: m,L,h,r=>by
  obtain ⟨v,vs,rfl,h1,h2⟩:=r
  exact ⟨v,vs,rfl,tell_rel a b v h.1 h1,tellL_rel l m vs h.2 h2⟩
 | [],_ :: _,_,h,_=>h.elim
 | _ :: _,[],_,h,_=>h.elim
end
theorem glob_rel {hG:Hp} (ok:hG.ok) (pl:blksPlain hG.size hG.blks=true) {h:Hp} (same:globsSame hG h hG.size=true) {σ:Sg} {W:World} (r:HRel σ h W):HRel (σ.low hG.size) hG W:=by
 have gs:=globsSame_get same
 refine ⟨ok,fun i c hg hd=>?_,fun i B N e=>?_,fun i j b c B N M hb hc' hd hd' e1 e2=>?_⟩
 .have hi:=Hp.get_lt hg
  obtain ⟨b,c',hb,hc',hbc⟩:=gs i hi
  rw [hg] at hc'; cases hc'
  obtain ⟨B,N,o,q1,q2,q3⟩:=r.blk i b hb (by rw [hbc]; exact hd)
  refine ⟨B,N,o,by simp [Sg.low,hi,q1],q2,?_⟩
  rw [hbc] at q3
  exact q3.low (blksPlain_mem pl c (get_mem hg))
 .unfold Sg.low at e
  split at e
  .rename_i hi
   exact ⟨hi,(r.dom i B N e).2⟩
  .cases e
 .have hi:=Hp.get_lt hb
  have hj:=Hp.get_lt hc'
  obtain ⟨b1,b2,p1,p2,p3⟩:=gs i hi
  obtain ⟨c1,c2,q1,q2,q3⟩:=gs j hj
  rw [hb] at p2; cases p2
  rw [hc'] at q2; cases q2
  have:=r.inj i j b1 c1 B N M p1 q1 (by rw [p3]; exact hd) (by rw [q3]; exact hd') (Sg.low_sub σ _ _ _ e1) (Sg.low_sub σ _ _ _ e2)
  rw [p3,q3] at this
  exact this
def viewB (ik:IntKind):List Int->ABody
 | []=>.dead
 | x :: l=>.view ((x :: l).map fun n=>.int true ik n)
def bodyB (raw:Bool) (ik:IntKind) (xs:List Int):ABody:=
 match raw with
 | true=>.rows ik xs
 | false=>viewB ik xs
def viewsH (raw:Bool) (h:Hp):List (IntKind×List Int)->Hp
 | []=>h
 | (ik,xs) :: l=>viewsH raw (h.push0 (bodyB raw ik xs)) l
theorem viewsH_clock {raw:Bool}:∀ (l:List (IntKind×List Int)) (h:Hp),(viewsH raw h l).clock=h.clock
 | [],_=>rfl
 | (_,_) :: l,h=>viewsH_clock l (h.push0 _)
theorem bodyB_nil {raw:Bool} {ik:IntKind}:(bodyB raw ik []).isDead=true:=by cases raw <;> rfl
theorem bodyB_view {raw:Bool} {ik:IntKind} {y:Int} {ys:List Int}:(bodyB raw ik (y :: ys)).isView=true:=by cases raw <;> rfl
def Apart (ρ:Sg) (h:Hp) (B:Nat):Prop:=∀ i b M,h.get i=some b->b.body.isDead=false->ρ i=some (B,M)->b.body.isView=true
theorem rows_view {τ:Sg} {N:Nat} {ik:IntKind} {xs:List Int} {o:Obj} (h:BRel τ N (.rows ik xs) o):BRel τ N (.view (xs.map fun n=>.int true ik n)) o:=by
 obtain ⟨K,e,fr,rfl,h1⟩:=h
 refine ⟨K,e,fr,rfl,?_⟩
 rw [List.length_map,h1]
 have rels:∀ l:List Int,VRels τ (l.map fun n=>.int true ik n) (l.map (Value.int ik)):=by
  intro l
  induction l with
  | nil=>exact rfl
  | cons a l ih=>exact ⟨_,_,rfl,rfl,ih⟩
 exact rels xs
theorem add_cases {ρ:Sg} {n:Nat} {x:Nat×Nat} {i:Nat} {y:Nat×Nat} (e:(ρ.add n x) i=some y):(i=n/\y=x)\/(i≠n/\ρ i=some y):=by
 unfold Sg.add at e
 split at e
 .rename_i hi; cases e; exact .inl ⟨hi,rfl⟩
 .rename_i hi; exact .inr ⟨hi,e⟩
theorem view_add {ρ:Sg} {h0:Hp} {W:World} (r:HRel ρ h0 W) {B N:Nat} {b:ABody} {o:Obj} (hv:b.isView=true) (ho:W.heap[B]?=some o) (hb:BRel (ρ.add h0.size (B,N)) N b o) (ap:Apart ρ h0 B):
  HRel (ρ.add h0.size (B,N)) (h0.push0 b) W:=by
 have hs:=Sub.add (x:=(B,N)) r.fresh
 have hB:B<W.heap.size:=by
  rcases Nat.lt_or_ge B W.heap.size with h1|h1
  .exact h1
  .rw [Array.getElem?_eq_none h1] at ho; cases ho
 refine ⟨by have:=r.ok; simp only [Hp.ok,Hp.push0,List.length_cons] at this ⊢; omega,fun i c hg hd=>?_,fun i B' M e=>?_,fun i j c d B' M M' hg hg' hd hd' e1 e2=>?_⟩
 .rw [Hp.get_push0] at hg
  split at hg
  .rename_i hi; subst hi; cases hg
   exact ⟨B,N,o,add_here,ho,hb⟩
  .obtain ⟨B',M,p,h1,h2,h3⟩:=r.blk i c hg hd
   exact ⟨B',M,p,hs _ _ h1,h2,h3.mono hs⟩
 .rcases add_cases e with ⟨rfl,hx⟩|⟨hi,hx⟩
  .cases hx; exact ⟨Nat.lt_succ_self _,hB⟩
  .have:=r.dom i B' M hx
   exact ⟨Nat.lt_succ_of_lt this.1,this.2⟩
 .rw [Hp.get_push0] at hg hg'
  rcases add_cases e1 with ⟨rfl,hx⟩|⟨hi,hx⟩ <;> rcases add_cases e2 with ⟨rfl,hy⟩|⟨hj,hy⟩
  .exact .inl rfl
  .cases hx
   rw [if_pos rfl] at hg; cases hg
   rw [if_neg hj] at hg'
   exact .inr ⟨hv,ap j d M' hg' hd' hy⟩
  .cases hy
   rw [if_pos rfl] at hg'; cases hg'
   rw [if_neg hi] at hg
   exact .inr ⟨ap i c M hg hd hx,hv⟩
  .rw [if_neg hi] at hg
   rw [if_neg hj] at hg'
   exact r.inj i j c d B' M M' hg hg' hd hd' hx hy
theorem view_dead {ρ:Sg} {h0:Hp} {W:World} (r:HRel ρ h0 W) {b:ABody} (hb:b.isDead=true):HRel ρ (h0.push0 b) W:=by
 refine ⟨by have:=r.ok; simp only [Hp.ok,Hp.push0,List.length_cons] at this ⊢; omega,fun i c hg hd=>?_,fun i B' M e=>?_,fun i j c d B' M M' hg hg' hd hd' e1 e2=>?_⟩
 .rw [Hp.get_push0] at hg
  split at hg
  .cases hg; rw [show _=_ from hb] at hd; cases hd
  .exact r.blk i c hg hd
 .have:=r.dom i B' M e
  exact ⟨Nat.lt_succ_of_lt this.1,this.2⟩
 .rw [Hp.get_push0] at hg hg'
  rw [if_neg (Nat.ne_of_lt (r.dom i _ _ e1).1)] at hg
  rw [if_neg (Nat.ne_of_lt (r.dom j _ _ e2).1)] at hg'
  exact r.inj i j c d B' M M' hg hg' hd hd' e1 e2
theorem Apart.add {ρ:Sg} {h0:Hp} {B B' N:Nat} {b:ABody} (hv:b.isView=true) (ap:Apart ρ h0 B'):Apart (ρ.add h0.size (B,N)) (h0.push0 b) B':=by
 intro i c M hg hd e
 rw [Hp.get_push0] at hg
 rcases add_cases e with ⟨rfl,hx⟩|⟨hi,hx⟩
 .rw [if_pos rfl] at hg; cases hg; exact hv
 .rw [if_neg hi] at hg
  exact ap i c M hg hd hx
theorem Apart.dead {ρ:Sg} {h0:Hp} {B':Nat} {b:ABody} (hb:b.isDead=true) (ap:Apart ρ h0 B'):Apart ρ (h0.push0 b) B':=by
 intro i c M hg hd e
 rw [Hp.get_push0] at hg
 split at hg
 .cases hg; rw [show _=_ from hb] at hd; cases hd
 .exact ap i c M hg hd e
theorem body_rel {raw:Bool} {τ:Sg} {N:Nat} {ik:IntKind} {y:Int} {ys:List Int} {o:Obj} (h:BRel τ N (.rows ik (y :: ys)) o):BRel τ N (bodyB raw ik (y :: ys)) o:=by
 cases raw with
 | true=>exact h
 | false=>exact rows_view h
theorem views_rel {raw:Bool} {σ:Sg} {W:World}:∀ (l:List (Nat×IntKind×List Int)) (ρ:Sg) (h0:Hp),HRel ρ h0 W ->
  (∀ x∈l,x.2.2=[]\/∃ B N o,σ x.1=some (B,N)/\W.heap[B]?=some o/\(∀ τ,BRel τ N (.rows x.2.1 x.2.2) o)/\Apart ρ h0 B) ->
  ∃ ρ',HRel ρ' (viewsH raw h0 (l.map (·.2))) W/\Sub ρ ρ'/\∀ j x,l[j]?=some x->x.2.2≠[]->ρ' (h0.size+j)=σ x.1
 | [],ρ,h0,r,_=>⟨ρ,r,Sub.refl _,fun j x e=>by simp at e⟩
 | (id,ik,xs) :: l,ρ,h0,r,h=>by
  have hx:=h (id,ik,xs) (by simp)
  cases xs with
  | nil=>
   obtain ⟨ρ',r',s',h'⟩:=views_rel l ρ (h0.push0 (bodyB raw ik [])) (view_dead r bodyB_nil) (fun x hx=>by
    rcases h x (by simp [hx]) with h1|⟨B,N,o,a1,a2,a3,a4⟩
    .exact .inl h1
    .exact .inr ⟨B,N,o,a1,a2,a3,a4.dead bodyB_nil⟩)
   refine ⟨ρ',r',s',fun j x e hne=>?_⟩
   cases j with
   | zero=>simp at e; subst e; exact absurd rfl hne
   | succ j=>
    have:=h' j x (by simpa using e) hne
    rw [<- this]
    congr 1
    show _=h0.size+1+j
    omega
  | cons y ys=>
   rcases hx with hx|⟨B,N,o,a1,a2,a3,a4⟩
   .cases hx
   .obtain ⟨ρ',r',s',h'⟩:=views_rel l (ρ.add h0.size (B,N)) (h0.push0 (bodyB raw ik (y :: ys))) (view_add r bodyB_view a2 (body_rel (a3 _)) a4) (fun x hx=>by
     rcases h x (by simp [hx]) with h1|⟨B',N',o',b1,b2,b3,b4⟩
     .exact .inl h1
     .exact .inr ⟨B',N',o',b1,b2,b3,b4.add bodyB_view⟩)
    refine ⟨ρ',r',(Sub.add r.fresh).trans s',fun j x e hne=>?_⟩
    cases j with
    | zero=>
     simp at e; subst e
     rw [Nat.add_zero,s' _ _ (add_here (σ:=ρ) (x:=(B,N)))]
     exact a1.symm
    | succ j=>
     have:=h' j x (by simpa using e) hne
     rw [<- this]
     congr 1
     show _=h0.size+1+j
     omega
inductive Pa where
 | n (sh:Sh)
 | s (shs:List Sh) (ik:IntKind)
inductive Itm where
 | n (xs:List Nu)
 | s (xs:List Nu) (n:Int) (ys:List Int)
def readA (hG h:Hp):List Pa->List AV->Option (List (Nat×IntKind×List Int)×List Itm)
 | [],[]=>some ([],[])
 | .n sh :: ps,v :: vs=>match Sh.read sh v with
  | none=>none
  | some (_,xs)=>match readA hG h ps vs with
   | none=>none
   | some (ls,its)=>some (ls,.n xs :: its)
 | .s shs ik :: ps,v :: vs=>match v with
  | .agg cells=>match splitL cells with
   | some (init,.lslice id n)=>match h.get id with
    | some ⟨_,.rows ik' ys⟩=>match decide (ik=ik')&&Nat.ble hG.size id with
     | true=>match Sh.readL shs init with
      | none=>none
      | some (_,xs)=>match readA hG h ps vs with
       | none=>none
       | some (ls,its)=>some ((id,ik,ys) :: ls,.s xs n ys :: its)
     | false=>none
    | _=>none
   | _=>none
  | _=>none
 | _,_=>none
def lists:List Pa->List Itm->List (IntKind×List Int)
 | .n _ :: ps,.n _ :: is=>lists ps is
 | .s _ ik :: ps,.s _ _ ys :: is=>(ik,ys) :: lists ps is
 | _,_=>[]
def listA (raw:Bool) (j:Nat) (n:Int):AV:=
 match raw with
 | true=>.lslice j n
 | false=>.pslice j n.toNat false n
def mkA (raw:Bool) (j:Nat):List Pa->List Itm->List AV
 | .n sh :: ps,.n xs :: is=>(Sh.mk sh xs).1 :: mkA raw j ps is
 | .s shs _ :: ps,.s xs n _ :: is=>.agg ((Sh.mkL shs xs).1++[listA raw j n]) :: mkA raw (j+1) ps is
 | _,_=>[]
def inits:List Pa->List Itm->List AV
 | .n sh :: ps,.n xs :: is=>(Sh.mk sh xs).1 :: inits ps is
 | .s shs _ :: ps,.s xs _ _ :: is=>(Sh.mkL shs xs).1++inits ps is
 | _,_=>[]
def okIts:List Itm->Prop
 | []=>True
 | .n _ :: l=>okIts l
 | .s _ n ys :: l=>(ys=[]->n=0)/\okIts l
theorem underL_app {n:Nat}:∀ {l m:List AV},AV.underL n (l++m)=(AV.underL n l&&AV.underL n m)
 | [],m=>by simp [AV.underL]
 | a :: l,m=>by simp only [List.cons_append,AV.underL,underL_app,Bool.and_assoc]
theorem readA_rel {raw:Bool} {hG h:Hp}:∀ (ps:List Pa) (args:List AV) (ls:List (Nat×IntKind×List Int)) (its:List Itm),readA hG h ps args=some (ls,its) ->
  ls.map (·.2)=lists ps its/\(∀ x∈ls,hG.size<=x.1/\∃ w,h.get x.1=some ⟨w,.rows x.2.1 x.2.2⟩) /\
  ∀ (σ ρ:Sg) (j:Nat) (L:List Value),Sub (σ.low hG.size) ρ->(∀ i x,ls[i]?=some x->x.2.2≠[]->ρ (j+i)=σ x.1)->okIts its->AV.underL hG.size (inits ps its)=true->VRels σ args L->VRels ρ (mkA raw j ps its) L
 | [],[],ls,its,e=>by
  cases e
  exact ⟨rfl,by simp,fun σ ρ j L _ _ _ _ h=>h⟩
 | .n sh :: ps,v :: vs,ls,its,e=>by
  simp only [readA] at e
  split at e
  .cases e
  .rename_i s xs h1
   split at e
   .cases e
   .rename_i ls' its' h2
    cases e
    obtain ⟨a1,a2,a3⟩:=readA_rel ps vs _ _ h2
    refine ⟨a1,a2,fun σ ρ j L hs hj hok hu hL=>?_⟩
    obtain ⟨V,L',rfl,q1,q2⟩:=hL
    simp only [inits,AV.underL,Bool.and_eq_true] at hu
    have:=(Sh.read_mk sh v s xs [] h1).2 σ V q1
    rw [List.append_nil] at this
    exact ⟨V,L',rfl,VRel.mono hs _ _ (VRel.low _ _ this hu.1),a3 σ ρ j L' hs hj hok hu.2 q2⟩
 | .s shs ik :: ps,v :: vs,ls,its,e=>by
  simp only [readA] at e
  split at e
  .rename_i cells
   split at e
   .rename_i init id n hsp
    split at e
    .rename_i w ik' ys hid
     split at e
     .rename_i hb
      simp only [Bool.and_eq_true,decide_eq_true_eq] at hb
      obtain ⟨rfl,hb⟩:=hb
      have hge:=Nat.le_of_ble_eq_true hb
      split at e
      .cases e
      .rename_i s xs h1
       split at e
       .cases e
       .rename_i ls' its' h2
        cases e
        obtain ⟨a1,a2,a3⟩:=readA_rel ps vs _ _ h2
        refine ⟨by simp [lists,a1],fun x hx=>?_,fun σ ρ j L hs hj hok hu hL=>?_⟩
        .rcases List.mem_cons.1 hx with rfl|hx
         .exact ⟨hge,w,hid⟩
         .exact a2 x hx
        .obtain ⟨V,L',rfl,q1,q2⟩:=hL
         simp only [inits,underL_app,Bool.and_eq_true] at hu
         obtain ⟨K,rfl,hK⟩:=q1
         rw [splitL_eq hsp] at hK
         obtain ⟨I,Z,hIZ,k1,k2⟩:=rels_split hK
         obtain ⟨zv,zl,rfl,k3,k4⟩:=k2
         obtain rfl:zl=[]:=k4
         have k5:=(Sh.readL_mk shs init s xs [] h1).2 σ I k1
         rw [List.append_nil] at k5
         have k6:=VRels.mono hs _ _ (VRels.low _ _ k5 hu.1)
         obtain ⟨p,len,c,rfl,hl,hp⟩:=k3
         refine ⟨_,L',rfl,⟨K,rfl,?_⟩,a3 σ ρ (j+1) L' hs (fun i x hx hne=>?_) hok.2 hu.2 q2⟩
         .rw [hIZ]
          refine VRels.append k6 ⟨_,[],rfl,?_,rfl⟩
          have hp':len=0\/∃ B N,ρ j=some (B,N)/\p=some ⟨B,N,none⟩:=by
           rcases hp with hp|⟨B,N,e1,e2⟩
           .exact .inl hp
           .by_cases h0:n=0
            .left; omega
            .have hne:ys≠[]:=fun hh=>h0 (hok.1 hh)
             have:=hj 0 (id,ik,ys) rfl hne
             rw [Nat.add_zero] at this
             exact .inr ⟨B,N,by rw [this]; exact e1,e2⟩
          cases raw with
          | true=>exact ⟨p,len,c,rfl,hl,hp'⟩
          | false=>exact ⟨p,len,c,rfl,hl,by omega,hp'.imp (fun h0=>by omega) _root_.id⟩
         .have:=hj (i+1) x (by simpa using hx) hne
          rw [<- this]
          congr 1
          omega
     .cases e
    .cases e
   .cases e
  .cases e
 | [],_ :: _,_,_,e=>by simp [readA] at e
 | .n _ :: _,[],_,_,e=>by simp [readA] at e
 | .s _ _ :: _,[],_,_,e=>by simp [readA] at e
def lSpec (hG:Hp) (ps:List Pa) (V:Nat->List Itm->Option (Prop×AV×List ABody)):NSpec:=fun args h=>
 match readA hG h ps args with
 | none=>none
 | some (_,its)=>match V h.size its with
  | none=>none
  | some (p,v,bs)=>some (.p p,v,bs)
theorem lsp_ok (raw:Bool) {P:Program} {glob:Nat->Option Nat} {hG:Hp} (ok:hG.ok) (pl:blksPlain hG.size hG.blks=true) (hgl:∀ g i,glob g=some i->i<hG.size) {f:FuncId} {ps:List Pa} {V:Nat->List Itm->Option (Prop×AV×List ABody)}
  (h:∀ sz its p v bs,V sz its=some (p,v,bs)->p->okIts its/\AV.underL hG.size (inits ps its)=true/\∃ (C:Ctx) (n:Nat) (as:List AV) (nd0:Nd) (v0:AV) (k:Hp),CtxOk C/\C.P=P/\C.glob=glob/\tellL (mkA raw hG.size ps its) as /\
   (run C n).call f as (viewsH raw hG (lists ps its))=some ⟨nd0,[⟨.tt,v0,k⟩]⟩/\v0.isPanic=false/\nd0.val/\allOld hG.clock (dropN (k.size - (viewsH raw hG (lists ps its)).size) k.blks)=true/\Tells (viewsH raw hG (lists ps its)).size k v0 sz v bs)
  (fn:∃ fn:Func,P.funcs[f]?=some fn/\fn.body.isSome=true):NOk P glob hG f (lSpec hG ps V):=by
 refine ⟨fun args nd v bs h' e same=>?_,fn⟩
 unfold lSpec at e
 split at e
 .cases e
 .rename_i ls its hr
  split at e
  .cases e
  .rename_i p v' bs' hV
   cases e
   obtain ⟨a1,a2,a3⟩:=readA_rel ps args ls its hr
   refine ref_call fun σ A W g r hA hn=>?_
   obtain ⟨b1,b2,C,n,as,nd0,v0,k,co,rfl,rfl,ht,hrun,hp,hn0,hold,tl⟩:=h _ _ _ _ _ hV hn
   have gs:=globsSame_get same
   obtain ⟨ρ,r0,sub,hj⟩:=views_rel (raw:=raw) (σ:=σ) ls (σ.low hG.size) hG (glob_rel ok pl same r) (fun x hx=>by
    obtain ⟨hge,w,hid⟩:=a2 x hx
    by_cases hne:x.2.2=[]
    .exact .inl hne
    .right
     have hd:(ABody.rows x.2.1 x.2.2).isDead=false:=by
      cases hxs:x.2.2 with
      | nil=>exact absurd hxs hne
      | cons y ys=>rfl
     obtain ⟨B,N,o,h1,h2,h3⟩:=r.blk x.1 _ hid hd
     refine ⟨B,N,o,h1,h2,fun τ=>h3,fun i b M hg hdb e1=>?_⟩
     have hi:=Hp.get_lt hg
     obtain ⟨b',c',hb',hc',hbc⟩:=gs i hi
     rw [hg] at hc'; cases hc'
     rcases r.inj i x.1 b' _ B M N hb' hid (by rw [hbc]; exact hdb) hd (Sg.low_sub σ _ _ _ e1) h1 with h8|⟨h8,_⟩
     .omega
     .rw [hbc] at h8; exact h8)
   rw [a1] at r0
   refine ⟨C,n,_,as,ρ,nd0,v0,k,co,rfl,rfl,r0,fun gl i hgi=>?_,tellL_rel _ _ _ ht (a3 σ ρ hG.size A.toList sub hj b1 b2 hA),hrun,hp,hn0,by rw [viewsH_clock]; exact hold,tl⟩
   obtain ⟨N,hN⟩:=g gl i hgi
   exact ⟨N,sub _ _ (by simp [Sg.low,hgl gl i hgi,hN])⟩
def outL (lo c size:Nat) (ik:IntKind):Option CR->Option (Nd×List AV×Nat×List Int)
 | some ⟨nd,[⟨.tt,.agg cells,k⟩]⟩=>match splitL cells with
  | some (init,x)=>match cellsOfV k (size+1) x with
   | some (n,cs)=>match intsOf ik cs with
    | some xs=>match newId lo x&&allOld c (dropN (k.size - lo) k.blks) with
     | true=>some (nd,init,n,xs)
     | false=>none
    | none=>none
   | none=>none
  | none=>none
 | _=>none
mutual
def AV.num:AV->Bool
 | .int _ _ _=>true
 | .bool _ _=>true
 | .str _ _=>true
 | .agg l=>AV.numL l
 | .tuple l=>AV.numL l
 | _=>false
def AV.numL:List AV->Bool
 | []=>true
 | a :: l=>a.num&&AV.numL l
end
mutual
theorem num_rel {σ τ:Sg}:∀ (a:AV) (V:Value),a.num=true->VRel σ a V->VRel τ a V
 | .int _ _ _,_,_,h=>h
 | .bool _ _,_,_,h=>h
 | .str _ _,_,_,h=>h
 | .agg l,_,hn,⟨K,e,h⟩=>⟨K,e,numL_rel l _ hn h⟩
 | .tuple l,_,hn,⟨K,e,h⟩=>⟨K,e,numL_rel l _ hn h⟩
theorem numL_rel {σ τ:Sg}:∀ (l:List AV) (L:List Value),AV.numL l=true->VRels σ l L->VRels τ l L
 | [],_,_,h=>h
 | a :: l,L,hn,h=>by
  simp only [AV.numL,Bool.and_eq_true] at hn
  obtain ⟨v,vs,e,h1,h2⟩:=h
  exact ⟨v,vs,e,num_rel a v hn.1 h1,numL_rel l vs hn.2 h2⟩
end
theorem outL_tells {lo c size:Nat} {ik:IntKind} {q:Option CR} {nd:Nd} {init:List AV} {n:Nat} {xs:List Int} (e:outL lo c size ik q=some (nd,init,n,xs)) (hn:AV.numL init=true):
  ∃ v0 k,q=some ⟨nd,[⟨.tt,v0,k⟩]⟩/\v0.isPanic=false/\allOld c (dropN (k.size - lo) k.blks)=true /\
   ∀ (sz:Nat) (init':List AV) (m:Int) (ys:List Int),tellL init init'->m=n->ys=xs->Tells lo k v0 sz (.agg (init'++[.lslice sz m])) [.rows ik ys]:=by
 unfold outL at e
 split at e
 .rename_i nd' cells k
  split at e
  .rename_i ini x hs
   split at e
   .rename_i n' cs hc
    split at e
    .rename_i xs' hi
     split at e
     .rename_i hb
      simp only [Bool.and_eq_true] at hb
      cases e
      refine ⟨_,k,rfl,rfl,hb.2,fun sz init' m ys ht hm hy=>?_⟩
      subst hy
      refine tells_rows hc hi hb.1 hm fun τ V hV=>?_
      obtain ⟨K,rfl,hK⟩:=hV
      rw [splitL_eq hs] at hK
      obtain ⟨I,Z,hIZ,k1,k2⟩:=rels_split hK
      obtain ⟨zv,zl,rfl,k3,k4⟩:=k2
      obtain rfl:zl=[]:=k4
      refine ⟨zv,k3,fun υ hυ=>⟨K,rfl,?_⟩⟩
      rw [hIZ]
      exact VRels.append (tellL_rel _ _ _ ht (numL_rel _ _ hn k1)) ⟨_,[],rfl,hυ,rfl⟩
     .cases e
    .cases e
   .cases e
  .cases e
 .cases e
theorem oneG_tells {lo c:Nat} {q:Option CR} {nd:Nd} {v0:AV} (e:oneG lo c q=some (nd,v0)) (hn:v0.num=true):
  ∃ k,q=some ⟨nd,[⟨.tt,v0,k⟩]⟩/\v0.isPanic=false/\allOld c (dropN (k.size - lo) k.blks)=true/\∀ (sz:Nat) (v:AV),tell v0 v->Tells lo k v0 sz v []:=by
 obtain ⟨k,h1,h2,h3⟩:=oneG_some e
 exact ⟨k,h1,h3,h2,fun sz v ht=>tells_num fun τ σ V hV=>tell_rel _ _ _ ht (num_rel _ _ hn hV)⟩
end
end Go.Eng
namespace Go.Eng
open Go
noncomputable section
theorem swap_top {τ:Sg} {h:Hp} {W:World} {b b':ABody} (r:HRel τ (h.push0 b) W) (hd:b.isDead=false) (hv:b'.isView=true) (hv':b.isView=true) (hb:∀ N o,BRel τ N b o->BRel τ N b' o):HRel τ (h.push0 b') W:=by
 refine ⟨r.ok,fun i c hg hdc=>?_,r.dom,fun i j c d B N M hg hg' hdc hdd e1 e2=>?_⟩
 .rw [Hp.get_push0] at hg
  split at hg
  .rename_i hi; cases hg; subst hi
   obtain ⟨B,N,o,h1,h2,h3⟩:=r.blk h.size ⟨0,b⟩ (by rw [Hp.get_push0,if_pos rfl]) hd
   exact ⟨B,N,o,h1,h2,hb N o h3⟩
  .rename_i hi
   exact r.blk i c (by rw [Hp.get_push0,if_neg hi]; exact hg) hdc
 .rw [Hp.get_push0] at hg hg'
  by_cases hi:i=h.size <;> by_cases hj:j=h.size
  .exact .inl (hi.trans hj.symm)
  .rw [if_pos hi] at hg; cases hg
   rw [if_neg hj] at hg'
   rcases r.inj i j ⟨0,b⟩ d B N M (by rw [Hp.get_push0,if_pos hi]) (by rw [Hp.get_push0,if_neg hj]; exact hg') hd hdd e1 e2 with h8|⟨_,h8⟩
   .exact .inl h8
   .exact .inr ⟨hv,h8⟩
  .rw [if_neg hi] at hg
   rw [if_pos hj] at hg'; cases hg'
   rcases r.inj i j c ⟨0,b⟩ B N M (by rw [Hp.get_push0,if_neg hi]; exact hg) (by rw [Hp.get_push0,if_pos hj]) hdc hd e1 e2 with h8|⟨h8,_⟩
   .exact .inl h8
   .exact .inr ⟨h8,hv⟩
  .rw [if_neg hi] at hg
   rw [if_neg hj] at hg'
   exact r.inj i j c d B N M (by rw [Hp.get_push0,if_neg hi]; exact hg) (by rw [Hp.get_push0,if_neg hj]; exact hg') hdc hdd e1 e2
theorem ints_map (ik:IntKind):∀ xs:List Int,intsOf ik (xs.map fun n=>.int true ik n)=some xs
 | []=>rfl
 | x :: l=>by simp only [List.map_cons,intsOf,decide_true,ints_map ik l]
theorem view_rows {τ:Sg} {N:Nat} {ik:IntKind} {xs:List Int} {o:Obj} (h:BRel τ N (.view (xs.map fun n=>.int true ik n)) o):BRel τ N (.rows ik xs) o:=by
 obtain ⟨K,e,fr,rfl,h1⟩:=h
 refine ⟨K,e,fr,rfl,?_⟩
 have:=ints_rel h1 (ints_map ik xs)
 rwa [List.length_map] at this
theorem film_relL {σ:Sg} {h:Hp} {W:World} (r:HRel σ h W) (hb:(h.blks.all fun b=>noK .u8 b.body)=true) {v:Value} {n:Int} {zs:List Int} (b:Bytes W v n zs):
  ∃ τ,Sub σ τ/\HRel τ (h.push0 (.rows .u8 zs)) W/\VRel τ (.lslice h.size n) v:=by
 obtain ⟨⟨p,c,rfl,hcap,hp⟩,hn,_⟩:=b
 cases zs with
 | nil=>
  refine ⟨σ,Sub.refl _,view_dead r rfl,p,0,c,rfl,⟨hn.symm,hcap⟩,.inl rfl⟩
 | cons f fs=>
  obtain ⟨B,N,rfl,hc⟩:=hp (by simp)
  refine ⟨_,Sub.add r.fresh,swap_top (add_view r hb (B:=B) (N:=N) (k:=.u8) (fs:=f :: fs) (by simp) hc) rfl rfl rfl (fun N o h=>view_rows h),some ⟨B,N,none⟩,(f :: fs).length,c,rfl,⟨hn.symm,hcap⟩,.inr ⟨B,N,add_here,rfl⟩⟩
theorem law_walkL {P:Program} {glob:Nat->Option Nat} {hG:Hp} (hb:(hG.blks.all fun b=>noK .u8 b.body)=true) (old:allOld hG.clock hG.blks=true) (h1:0<hG.clock) {f:FuncId} {t:TypeId} {ts:List TypeId} {sh:List Sh} {shs:List Sh} (hs:shapesT P (t :: ts)=some (.a (sh++[.c (.any true)]) :: shs))
  (hT:∀ xs ys,xs.map Nu.isN=Sh.kindsL sh->inRange (Sh.leavesL sh) xs->ys.map Nu.isN=Sh.kindsL shs->inRange (Sh.leavesL shs) ys->∀ (n:Int) (zs:List Int),n=zs.length->(∀ z∈zs,0<=z/\z<=255)->LawTrueH P glob (hG.push0 (.rows .u8 zs)) f (.agg ((Sh.mkL sh xs).1++[.lslice hG.size n]) :: (Sh.mkL shs ys).1))
  {W:World} {base:Nat} {σ:Sg} {A:Array Value} (g:∀ gl i,glob gl=some i->∃ N,σ i=some (gl,N)) (r:HRel σ hG W) {v:Value} {vs:List Value} (hA:A.toList=v :: vs) (hl:vs.length=ts.length) {cs:List Value} {last:Value} (hv:v=.agg (cs++[last]).toArray) (hlast:∃ n zs,Bytes W last n zs)
  (hok:∀ (j:Nat) t' v,(t :: ts)[j]?=some t'->A.toList[j]?=some v->Value.okWide P W .any base t' v):
  Calls P f A W fun e w'=>e=.returned (.bool true)/\RowKit.Grown W w'/\∀ B,B<W.heap.size->w'.heap[B]?=W.heap[B]?:=by
 obtain ⟨n,zs,bz⟩:=hlast
 have hs':=hs
 simp only [shapesT] at hs
 split at hs
 .cases hs
 .rename_i s h2
  split at hs
  .cases hs
  .rename_i l h3
   cases hs
   obtain ⟨ys,b1,b2,b3⟩:=law_args (P:=P) (W:=W) (base:=base) (σ:=σ) (ts:=ts) (vs:=vs) h3 hl fun j t' v' k1 k2=>hok (j+1) t' v' (by simpa using k1) (by rw [hA]; simpa using k2)
   obtain ⟨xs,a1,a2,a3⟩:=law_one (σ:=σ) h2 (hok 0 t v rfl (by rw [hA]; rfl))
   obtain ⟨_,a4⟩:=a3 []
   rw [List.append_nil] at a4
   obtain ⟨_,b4⟩:=b3 []
   rw [List.append_nil] at b4
   have kl:∀ l m:List Sh,Sh.kindsL (l++m)=Sh.kindsL l++Sh.kindsL m:=by
    intro l m
    induction l with
    | nil=>rfl
    | cons a l ih=>simp [Sh.kindsL,ih]
   have ll:∀ l m:List Sh,Sh.leavesL (l++m)=Sh.leavesL l++Sh.leavesL m:=by
    intro l m
    induction l with
    | nil=>rfl
    | cons a l ih=>simp [Sh.leavesL,ih]
   have a1':xs.map Nu.isN=Sh.kindsL sh:=by
    have:xs.map Nu.isN=Sh.kindsL (sh++[.c (.any true)]):=a1
    rw [kl] at this; simpa [Sh.kindsL,Sh.kinds] using this
   have drop_any:∀ (l:List Sh) (zs:List Nu),inRange (l++[.c (.any true)]) zs->inRange l zs:=by
    intro l
    induction l with
    | nil=>intro zs h; cases zs with
     | nil=>trivial
     | cons z zs=>simp [inRange] at h
    | cons a l ih=>intro zs h; cases a with
     | i k=>cases zs with
      | nil=>simp [inRange] at h
      | cons z zs=>cases z with
       | n x=>exact ⟨h.1,ih zs h.2⟩
       | t b=>simp [inRange] at h
       | s b=>simp [inRange] at h
     | b=>cases zs with
      | nil=>simp [inRange] at h
      | cons z zs=>cases z with
       | n x=>simp [inRange] at h
       | t b=>exact ih zs h
       | s b=>simp [inRange] at h
     | str=>cases zs with
      | nil=>simp [inRange] at h
      | cons z zs=>cases z with
       | n x=>simp [inRange] at h
       | t b=>simp [inRange] at h
       | s b=>exact ih zs h
     | one=>cases zs <;> simp [inRange] at h
     | c w=>
      have h':inRange (l++[.c (.any true)]) zs:=by cases zs <;> simpa [inRange] using h
      have:=ih zs h'
      cases zs <;> simpa [inRange] using this
     | a m=>cases zs <;> simp [inRange] at h
   have a2':inRange (Sh.leavesL sh) xs:=by
    have:inRange (Sh.leavesL (sh++[.c (.any true)])) xs:=a2
    rw [ll] at this
    exact drop_any _ _ this
   obtain ⟨C,fuel,nd,s,p,co,rfl,rfl,e1,e2,e3⟩:=hT xs ys a1' a2' b1 b2 n zs bz.len bz.rng
   obtain ⟨τ,sub,hr,hfv⟩:=film_relL r hb bz
   have mk_app:∀ (l:List Sh) (xs:List Nu),(Sh.mkL (l++[.c (.any true)]) xs).1=(Sh.mkL l xs).1++[.any true]:=by
    intro l
    induction l with
    | nil=>intro xs; rfl
    | cons a l ih=>intro xs; simp only [List.cons_append,Sh.mkL,ih]
   have hvr:VRel τ (.agg ((Sh.mkL sh xs).1++[.lslice hG.size n])) v:=by
    subst hv
    obtain ⟨K,hK,h5⟩:=a4
    have h6:=VRels.mono sub _ _ h5
    rw [mk_app] at h6
    cases hK
    refine ⟨_,rfl,?_⟩
    rw [List.toList_toArray] at h6 ⊢
    exact rels_last h6 hfv
   have old':allOld (hG.push0 (.rows .u8 zs)).clock (hG.push0 (.rows .u8 zs)).blks=true:=by
    show (Nat.blt 0 hG.clock&&allOld hG.clock hG.blks)=true
    rw [old,Bool.and_true]
    exact Nat.ble_eq_true_of_le h1
   exact law_calls co old' e1 e2 e3 (fun gl i hi=>by obtain ⟨N,hN⟩:=g gl i hi; exact ⟨N,sub _ _ hN⟩) hr (by rw [hA]; exact ⟨v,vs,rfl,hvr,VRels.mono sub _ _ b4⟩)
end
end Go.Eng
namespace Go.Eng
open Go
noncomputable section
theorem NOk.weaken {P:Program} {glob:Nat->Option Nat} {hG:Hp} {f:FuncId} {s t:NSpec} (g:NOk P glob hG f s)
  (h:∀ args hp nd v bs,t args hp=some (nd,v,bs)->∃ nd0 v0,s args hp=some (nd0,v0,bs)/\(nd.val->nd0.val/\∀ σ V,VRel σ v0 V->VRel σ v V)):NOk P glob hG f t:=by
 refine ⟨fun args nd v bs h' e same σ A W gr r hA hn cs=>?_,g.fn⟩
 obtain ⟨nd0,v0,e0,k0⟩:=h args h' nd v bs e
 obtain ⟨k1,k2⟩:=k0 hn
 obtain ⟨x,q1,τ,V,X,fr,q2,q3⟩:=g.call args nd0 v0 bs h' e0 same σ A W gr r hA k1 cs
 have:x=⟨.tt,v0,pushAll h' bs⟩:=one_tt q1
 subst this
 exact ⟨⟨.tt,v,pushAll h' bs⟩,rfl,τ,V,X,fr,k2 τ V q2,q3⟩
theorem lSpec_weaken {P:Program} {glob:Nat->Option Nat} {hG:Hp} {f:FuncId} {ps:List Pa} {V V':Nat->List Itm->Option (Prop×AV×List ABody)} (g:NOk P glob hG f (lSpec hG ps V))
  (h:∀ sz its p v bs,V' sz its=some (p,v,bs)->∃ p0 v0,V sz its=some (p0,v0,bs)/\(p->p0/\∀ σ U,VRel σ v0 U->VRel σ v U)):NOk P glob hG f (lSpec hG ps V'):=by
 refine g.weaken fun args hp nd v bs e=>?_
 unfold lSpec at e ⊢
 split at e
 .cases e
 .rename_i its hr
  split at e
  .cases e
  .rename_i p v' bs' hV
   cases e
   obtain ⟨p0,v0,h1,h2⟩:=h _ _ _ _ _ hV
   exact ⟨.p p0,v0,by simp only [h1],h2⟩
theorem tellL_app:∀ {l m l' m':List AV},tellL l m->tellL l' m'->tellL (l++l') (m++m')
 | [],[],_,_,_,h=>h
 | a :: l,b :: m,_,_,h,k=>⟨h.1,tellL_app h.2 k⟩
 | [],_ :: _,_,_,h,_=>h.elim
 | _ :: _,[],_,_,h,_=>h.elim
end
end Go.Eng
namespace Go.Eng
open Go
noncomputable section
end
end Go.Eng
namespace Go.Eng
open Go
noncomputable section
end
end Go.Eng
namespace Go.Eng
open Go
noncomputable section
end
end Go.Eng
namespace Go.Eng
open Go
noncomputable section
end
end Go.Eng
namespace Go.Eng
open Go
noncomputable section
end
end Go.Eng
namespace Go.Eng
open Go
noncomputable section
end
end Go.Eng
namespace Go.Eng
open Go
noncomputable section
mutual
def AV.plain:AV->Bool
 | .int s _ _=>!s
 | .bool s _=>!s
 | .str s _=>!s
 | .agg l=>AV.plainL l
 | .tuple l=>AV.plainL l
 | _=>false
def AV.plainL:List AV->Bool
 | []=>true
 | a :: l=>AV.plain a&&AV.plainL l
end
mutual
def AV.told:AV->AV
 | .int _ k n=>mkInt false k n
 | .bool _ b=>mkBool false b
 | .agg l=>.agg (AV.toldL l)
 | .tuple l=>.tuple (AV.toldL l)
 | v=>v
def AV.toldL:List AV->List AV
 | []=>[]
 | a :: l=>AV.told a :: AV.toldL l
end
mutual
theorem told_rel {σ:Sg}:∀ (a:AV) (v:Value),VRel σ a v->VRel σ (AV.told a) v
 | .int _ _ _,v,h=>by rw [AV.told,mkInt_rel]; exact h
 | .bool _ _,v,h=>by rw [AV.told,mkBool_rel]; exact h
 | .agg l,v,⟨K,e,h⟩=>⟨K,e,toldL_rel l _ h⟩
 | .tuple l,v,⟨K,e,h⟩=>⟨K,e,toldL_rel l _ h⟩
 | .any _,_,h=>h
 | .str _ _,_,h=>h
 | .nil,_,h=>h
 | .ptr _ _,_,h=>h
 | .nilslice,_,h=>h
 | .eslice _,_,h=>h
 | .slice _ _ _ _,_,h=>h
 | .gslice _ _ _ _,_,h=>h
 | .func _ _ _,_,h=>h
 | .yield _,_,h=>h
 | .nilfunc,_,h=>h
 | .iface _ _,_,h=>h
 | .niliface,_,h=>h
 | .map _,_,h=>h
 | .nilmap,_,h=>h
 | .vslice _ _,_,h=>h
 | .pslice _ _ _ _,_,h=>h
 | .lslice _ _,_,h=>h
 | .islice _ _ _ _,_,h=>h
 | .panic _,_,h=>h
 | .vptr _ _,_,h=>h
theorem toldL_rel {σ:Sg}:∀ (l:List AV) (L:List Value),VRels σ l L->VRels σ (AV.toldL l) L
 | [],_,h=>h
 | a :: l,_,⟨v,vs,e,h1,h2⟩=>⟨v,vs,e,told_rel a v h1,toldL_rel l vs h2⟩
end
end
end Go.Eng
namespace Go.Eng
open Go
noncomputable section
end
end Go.Eng
namespace Go.Eng
open Go
noncomputable section
def Alone (ρ:Sg) (h0:Hp) (B:Nat):Prop:=∀ i c M,h0.get i=some c->c.body.isDead=false->ρ i=some (B,M)->False
theorem Alone.add {ρ:Sg} {h0:Hp} {B B' N:Nat} {b:ABody} (ap:Alone ρ h0 B') (hne:B≠B'):Alone (ρ.add h0.size (B,N)) (h0.push0 b) B':=by
 intro i c M hg hd e
 rw [Hp.get_push0] at hg
 rcases add_cases e with ⟨rfl,hx⟩|⟨hi,hx⟩
 .cases hx; exact hne rfl
 .rw [if_neg hi] at hg
  exact ap i c M hg hd hx
def Free (hG h':Hp) (σ ρ:Sg) (h0:Hp) (used:List Nat):Prop:=∀ (x:Nat) (bx:ABlk) (Bx Nx:Nat),hG.size<=x->x ∉ used->h'.get x=some bx->bx.body.isDead=false->bx.body.isView=false->σ x=some (Bx,Nx)->Alone ρ h0 Bx
theorem Free.add {hG h':Hp} {σ ρ:Sg} {h0:Hp} {used:List Nat} {W:World} (r:HRel σ h' W) (fr:Free hG h' σ ρ h0 used) {y:Nat} {cy:ABlk} {B N:Nat} {b:ABody} (hg:h'.get y=some cy) (hd:cy.body.isDead=false) (hy:σ y=some (B,N)):Free hG h' σ (ρ.add h0.size (B,N)) (h0.push0 b) (y :: used):=by
 intro x bx Bx Nx hge hu hgx hdx hv hx
 refine (fr x bx Bx Nx hge (fun h=>hu (List.mem_cons_of_mem _ h)) hgx hdx hv hx).add fun hBB=>?_
 subst hBB
 rcases r.inj x y bx cy B Nx N hgx hg hdx hd hx hy with h8|⟨h8,_⟩
 .exact hu (by rw [h8]; exact List.mem_cons_self)
 .rw [hv] at h8; cases h8
end
end Go.Eng
namespace Go.Eng
open Go
noncomputable section
structure SumL (α:Type) where
 S:α->Patch
 I:α->Prop
 μ:α->Nat
 F:α->Ex×Patch
 next:α->α
 ids:α->List Nat
 X:α->Ex->Option (Patch×List Nat)
def SumL.way {α:Type} (u:SumL α) (y:α):Ex->Option (Patch×List Nat×Prop)
 | .normal=>some (u.S (u.next y),u.ids y,u.I (u.next y)/\u.μ (u.next y)<u.μ y/\u.F (u.next y)=u.F y)
 | x=>match u.X y x with
  | none=>none
  | some (p,ids)=>some (p,ids,u.F y=(x,p))
theorem sumL_ok {C:Ctx} {r:Rec} (ro:RecOk C r) {fr:AFr} {a:Code} {s0:St} {α:Type} (u:SumL α) {y0:α} {ids0:List Nat} (hI:u.I y0) (start:Holds (fit s0 s0 (patch s0 (u.S y0)) ids0)) (hs:oldsOk s0.hp (u.S y0).old=true)
  (body:∀ y,u.I y->Holds (chkR s0 (u.way y) (r.code fr a (patch s0 (u.S y))))) {q:R} (hq:∃ e,One q.l e/\e.x=(u.F y0).1/\e.s=patch s0 (u.F y0).2):CodeOk C fr (.loop a) s0 q:=by
 intro σ T0 D0 W0 g sr b k todo cs hst fb _
 obtain ⟨e0,h1,h2,h3⟩:=hq
 refine ⟨e0,h1,?_⟩
 rw [h2,h3]
 have main:∀ (n:Nat) (y:α),u.μ y<n->u.I y->∀ (τ:Sg) (T:Array Value) (D:List Deferred) (W:World),SRel τ (patch s0 (u.S y)) T D W->Step σ s0 W0 τ (patch s0 (u.S y)) W ->
   Post σ s0 W0 (Arr C.P (lone (b.fr T D (.code a :: .inLoop a :: k)) cs W) b k cs) (u.F y).1 (patch s0 (u.F y).2):=by
  intro n
  induction n with
  | zero=>intro y h; exact absurd h (Nat.not_lt_zero _)
  | succ n ih=>
   intro y hlt hy τ T D W sr1 st1
   obtain ⟨nd,e1,hn⟩:=body y hy
   unfold chkR at e1
   split at e1
   .cases e1
   .rename_i nd1 l hl
    split at e1
    .cases e1
    .rename_i m hm
     cases e1
     obtain ⟨e,o1,τ2,T2,D2,V2,sr2,st2,arr⟩:=ro.code _ _ _ _ hl τ T D W (g.mono st1.good.sub) sr1 b (.inLoop a :: k) _ cs (.inl rfl) (fb.mono st1.good.sub) (Nd.lv hn)
     obtain ⟨p,ids,x,m',hP,hold,hf,hm',hx⟩:=chkL_one hm (Nd.rv hn) e o1
     have st3:=Step.trans sr1.ko sr2.ko st1 st2
     obtain ⟨υ,sr4,st4⟩:=fit_ok sr sr2 st3 (patch_next sr.ko hold) hf hm'
     have later:∀ ex,ex≠.normal->(match u.X y ex with|none=>none|some (p,ids)=>some (p,ids,u.F y=(ex,p)))=some (p,ids,x)->Arr C.P (lone (b.fr T D (.code a :: .inLoop a :: k)) cs W) b (.inLoop a :: k) cs ex T2 D2 V2 ->
       Post σ s0 W0 (Arr C.P (lone (b.fr T D (.code a :: .inLoop a :: k)) cs W) b k cs) (u.F y).1 (patch s0 (u.F y).2):=by
      intro ex hne hP arr
      split at hP
      .cases hP
      .cases hP
       rw [show u.F y=_ from hx]
       exact ⟨υ,T2,D2,V2,sr4,st4,arr.pass rfl hne⟩
     cases hex:e.x with
     | normal=>
      rw [hex] at hP arr
      simp only [SumL.way] at hP
      cases hP
      obtain ⟨x1,x2,x3⟩:=hx
      have:=ih (u.next y) (by omega) x1 υ T2 D2 V2 sr4 st4
      rw [x3] at this
      refine this.imp fun T3 D3 V3 h=>.of_steps (Steps.trans arr (.one st_inLoop)) h
     | exit i=>rw [hex] at hP arr; exact later (.exit i) (fun h=>by cases h) hP arr
     | goto i=>rw [hex] at hP arr; exact later (.goto i) (fun h=>by cases h) hP arr
     | ret=>rw [hex] at hP arr; exact later .ret (fun h=>by cases h) hP arr
     | raise v=>rw [hex] at hP arr; exact later (.raise v) (fun h=>by cases h) hP arr
 obtain ⟨nd,e1,hn⟩:=start
 have refl:Step σ s0 W0 σ s0 W0:=⟨Good.refl σ s0.hp W0 fun i B N h=>(sr.h.dom i B N h).1,TMon.refl s0⟩
 obtain ⟨υ,sr1,st1⟩:=fit_ok sr sr refl (patch_next sr.ko hs) e1 hn
 have:=main _ y0 (Nat.lt_succ_self _) hI υ T0 D0 W0 sr1 st1
 refine this.imp fun T3 D3 V3 h=>?_
 rcases hst with rfl|⟨c,hc,rfl⟩
 .exact .of_steps (.one st_loop) h
 .cases hc
  exact .of_steps (.one st_inLoop) h
theorem sumL_one {C:Ctx} {r:Rec} (ro:RecOk C r) {fr:AFr} {a:Code} {s0:St} {α:Type} (u:SumL α) {y0:α} {ids0:List Nat} (hI:u.I y0) (start:Holds (fit s0 s0 (patch s0 (u.S y0)) ids0)) (hs:oldsOk s0.hp (u.S y0).old=true)
  (body:∀ y,u.I y->Holds (chkR s0 (u.way y) (r.code fr a (patch s0 (u.S y))))) {x:Ex} {p:Patch} (hF:u.F y0=(x,p)):CodeOk C fr (.loop a) s0 ⟨.tt,[⟨.tt,x,patch s0 p⟩]⟩:=
 sumL_ok ro u hI start hs body ⟨⟨.tt,x,patch s0 p⟩,rfl,by rw [hF],by rw [hF]⟩
theorem CodeOk.ctx {C D:Ctx} (hP:D.P=C.P) (hg:D.glob=C.glob) {fr:AFr} {a:Code} {s:St} {q:R} (h:CodeOk C fr a s q):CodeOk D fr a s q:=by
 intro σ T E W g sr b k todo cs hst fb hn
 rw [hP]
 exact h σ T E W (fun x i e=>g x i (by rw [hg]; exact e)) sr b k todo cs hst fb hn
theorem sumL_okC {C:Ctx} {fr:AFr} {a:Code} {s0:St} {α:Type} (u:SumL α) {y0:α} {ids0:List Nat} (hI:u.I y0) (start:Holds (fit s0 s0 (patch s0 (u.S y0)) ids0)) (hs:oldsOk s0.hp (u.S y0).old=true)
  (body:∀ y,u.I y->∃ (D:Ctx) (m:Nat),CtxOk D/\D.P=C.P/\D.glob=C.glob/\Holds (chkR s0 (u.way y) ((run D m).code fr a (patch s0 (u.S y))))) {q:R} (hq:∃ e,One q.l e/\e.x=(u.F y0).1/\e.s=patch s0 (u.F y0).2):CodeOk C fr (.loop a) s0 q:=by
 intro σ T0 D0 W0 g sr b k todo cs hst fb _
 obtain ⟨e0,h1,h2,h3⟩:=hq
 refine ⟨e0,h1,?_⟩
 rw [h2,h3]
 have main:∀ (n:Nat) (y:α),u.μ y<n->u.I y->∀ (τ:Sg) (T:Array Value) (D:List Deferred) (W:World),SRel τ (patch s0 (u.S y)) T D W->Step σ s0 W0 τ (patch s0 (u.S y)) W ->
   Post σ s0 W0 (Arr C.P (lone (b.fr T D (.code a :: .inLoop a :: k)) cs W) b k cs) (u.F y).1 (patch s0 (u.F y).2):=by
  intro n
  induction n with
  | zero=>intro y h; exact absurd h (Nat.not_lt_zero _)
  | succ n ih=>
   intro y hlt hy τ T D W sr1 st1
   obtain ⟨D',fm,cod,hDP,hDg,nd,e1,hn⟩:=body y hy
   unfold chkR at e1
   split at e1
   .cases e1
   .rename_i nd1 l hl
    split at e1
    .cases e1
    .rename_i m hm
     cases e1
     obtain ⟨e,o1,τ2,T2,D2,V2,sr2,st2,arr⟩:=(CodeOk.ctx (C:=D') (D:=C) hDP.symm hDg.symm ((run_sound cod fm).code _ _ _ _ hl)) τ T D W (g.mono st1.good.sub) sr1 b (.inLoop a :: k) _ cs (.inl rfl) (fb.mono st1.good.sub) (Nd.lv hn)
     obtain ⟨p,ids,x,m',hP,hold,hf,hm',hx⟩:=chkL_one hm (Nd.rv hn) e o1
     have st3:=Step.trans sr1.ko sr2.ko st1 st2
     obtain ⟨υ,sr4,st4⟩:=fit_ok sr sr2 st3 (patch_next sr.ko hold) hf hm'
     have later:∀ ex,ex≠.normal->(match u.X y ex with|none=>none|some (p,ids)=>some (p,ids,u.F y=(ex,p)))=some (p,ids,x)->Arr C.P (lone (b.fr T D (.code a :: .inLoop a :: k)) cs W) b (.inLoop a :: k) cs ex T2 D2 V2 ->
       Post σ s0 W0 (Arr C.P (lone (b.fr T D (.code a :: .inLoop a :: k)) cs W) b k cs) (u.F y).1 (patch s0 (u.F y).2):=by
      intro ex hne hP arr
      split at hP
      .cases hP
      .cases hP
       rw [show u.F y=_ from hx]
       exact ⟨υ,T2,D2,V2,sr4,st4,arr.pass rfl hne⟩
     cases hex:e.x with
     | normal=>
      rw [hex] at hP arr
      simp only [SumL.way] at hP
      cases hP
      obtain ⟨x1,x2,x3⟩:=hx
      have:=ih (u.next y) (by omega) x1 υ T2 D2 V2 sr4 st4
      rw [x3] at this
      refine this.imp fun T3 D3 V3 h=>.of_steps (Steps.trans arr (.one st_inLoop)) h
     | exit i=>rw [hex] at hP arr; exact later (.exit i) (fun h=>by cases h) hP arr
     | goto i=>rw [hex] at hP arr; exact later (.goto i) (fun h=>by cases h) hP arr
     | ret=>rw [hex] at hP arr; exact later .ret (fun h=>by cases h) hP arr
     | raise v=>rw [hex] at hP arr; exact later (.raise v) (fun h=>by cases h) hP arr
 obtain ⟨nd,e1,hn⟩:=start
 have refl:Step σ s0 W0 σ s0 W0:=⟨Good.refl σ s0.hp W0 fun i B N h=>(sr.h.dom i B N h).1,TMon.refl s0⟩
 obtain ⟨υ,sr1,st1⟩:=fit_ok sr sr refl (patch_next sr.ko hs) e1 hn
 have:=main _ y0 (Nat.lt_succ_self _) hI υ T0 D0 W0 sr1 st1
 refine this.imp fun T3 D3 V3 h=>?_
 rcases hst with rfl|⟨c,hc,rfl⟩
 .exact .of_steps (.one st_loop) h
 .cases hc
  exact .of_steps (.one st_inLoop) h
def listM (lo:Nat) (h:Hp) (ik:IntKind):AV->Option (Nd×List Int)
 | .nilslice=>some (.tt,[])
 | .eslice _=>some (.tt,[])
 | .lslice i n=>match h.get i with
  | some ⟨_,.rows k ys⟩=>match decide (ik=k)&&Nat.ble lo i with
   | true=>some (.p (n=ys.length),ys)
   | false=>none
  | _=>none
 | .islice w i o n=>match h.get i with
  | some ⟨_,.rows k ys⟩=>match decide (ik=k)&&Nat.ble lo i&&!w with
   | true=>some (.p (0<=o/\0<=n/\o+n<=ys.length),(ys.drop o.toNat).take n.toNat)
   | false=>none
  | some ⟨_,.ints k ys⟩=>match decide (ik=k)&&Nat.ble lo i&&w with
   | true=>some (.p (0<=o/\0<=n/\o+n<=ys.length),(ys.drop o.toNat).take n.toNat)
   | false=>none
  | _=>none
 | .slice i off l c=>match h.get i with
  | some ⟨_,.cells cs⟩=>match Nat.ble lo i&&Nat.ble l c with
   | true=>match takeN l (dropN off cs) with
    | none=>none
    | some q=>match numsK ik q with
     | none=>none
     | some ys=>some (.tt,ys)
   | false=>none
  | _=>none
 | .gslice i off l e=>match h.get i with
  | some ⟨_,.grown cs⟩=>match Nat.ble lo i&&Nat.beq e 1 with
   | true=>match takeN l (dropN off cs) with
    | none=>none
    | some q=>match numsK ik q with
     | none=>none
     | some ys=>some (.tt,ys)
   | false=>none
  | _=>none
 | _=>none
def idM:AV->Option Nat
 | .lslice i _=>some i
 | .islice _ i _ _=>some i
 | .gslice i _ _ _=>some i
 | .slice i _ _ _=>some i
 | _=>none
def ListAt (σ:Sg) (lo:Nat) (h:Hp) (W:World) (ik:IntKind) (ys:List Int) (p:Option Addr):Prop:=
 ∃ B N id M o b,p=some ⟨B,N,none⟩/\lo<=id/\h.get id=some b/\b.body.isDead=false/\σ id=some (B,M)/\W.heap[B]?=some o/\∀ τ,BRel τ N (.rows ik ys) o
def ListAtI (x:AV) (σ:Sg) (lo:Nat) (h:Hp) (W:World) (ik:IntKind) (ys:List Int) (p:Option Addr):Prop:=
 ∃ B N id M o b,p=some ⟨B,N,none⟩/\lo<=id/\h.get id=some b/\b.body.isDead=false/\σ id=some (B,M)/\W.heap[B]?=some o/\(∀ τ,BRel τ N (.rows ik ys) o)/\idM x=some id
theorem take_rows {K:Array Value} {el:TypeId} {fr:Nat×Nat} {N:Nat} {ik:IntKind} {xs:List Int} {o n:Nat} (h:(K.toList.drop N).take xs.length=xs.map (Value.int ik)) (hn:o+n<=xs.length) (τ:Sg):BRel τ (N+o) (.rows ik ((xs.drop o).take n)) (.cells K el fr):=by
 refine ⟨K,el,fr,rfl,?_⟩
 have e1:((xs.drop o).take n).length=n:=by rw [List.length_take,List.length_drop]; omega
 rw [e1,List.map_take,List.map_drop,<- h,List.drop_take,List.drop_drop,List.take_take]
 congr 1
 omega
theorem listM_relI {σ:Sg} {lo:Nat} {h:Hp} {W:World} (r:HRel σ h W) {ik:IntKind} {x:AV} {X:Value} (hx:VRel σ x X) {nd:Nd} {ys:List Int} (e:listM lo h ik x=some (nd,ys)) (hn:nd.val):
  ∃ p len c,X=.slice p len c/\len=ys.length/\len<=c/\(len=0\/ListAtI x σ lo h W ik ys p):=by
 have plain:∀ (cs:List AV) (A:List Value) (off l:Nat) (q:List AV),VRels σ cs A->takeN l (dropN off cs)=some q->numsK ik q=some ys->(A.drop off).take ys.length=ys.map (Value.int ik)/\l=ys.length:=by
  intro cs A off l q h1 h2 h3
  obtain ⟨k1,k2⟩:=VRels.take _ (VRels.drop off h1) h2
  have k3:=numsK_rel k1 h3
  have k4:=VRels.length k1
  rw [k3,k2,List.length_map] at k4
  rw [k4]
  exact ⟨k3,rfl⟩
 cases x with
 | nilslice=>cases e; exact ⟨none,0,0,hx,rfl,Nat.le_refl _,.inl rfl⟩
 | eslice b=>cases e; obtain ⟨a,c,rfl,_⟩:=hx; exact ⟨a,0,c,rfl,rfl,Nat.zero_le _,.inl rfl⟩
 | lslice i n=>
  obtain ⟨p,len,c,rfl,⟨hl,hc⟩,hp⟩:=hx
  simp only [listM] at e
  split at e
  .rename_i w k zs hg
   split at e
   .rename_i hb
    simp only [Bool.and_eq_true,decide_eq_true_eq] at hb
    obtain ⟨rfl,hb⟩:=hb
    cases e
    have hn:n=(ys.length:Int):=hn
    refine ⟨p,len,c,rfl,by omega,hc,?_⟩
    by_cases h0:len=0
    .exact .inl h0
    .rcases hp with hp|⟨B,N,hσ,rfl⟩
     .exact .inl hp
     .have hd:(ABody.rows ik ys).isDead=false:=by cases ys with|nil=>simp at hn; omega|cons y l=>rfl
      obtain ⟨B',N',o,h1,h2,h3⟩:=r.blk i _ hg hd
      rw [hσ] at h1; cases h1
      exact .inr ⟨B,N,i,N,o,_,rfl,Nat.le_of_ble_eq_true hb,hg,hd,hσ,h2,fun τ=>h3,rfl⟩
   .cases e
  .cases e
 | islice w i o n=>
  obtain ⟨p,len,c,rfl,⟨hl,hc⟩,hp⟩:=hx
  simp only [listM] at e
  split at e
  .rename_i w' k zs hg
   split at e
   .rename_i hb
    simp only [Bool.and_eq_true,decide_eq_true_eq,Bool.not_eq_true'] at hb
    obtain ⟨⟨rfl,hb⟩,rfl⟩:=hb
    cases e
    have hn:0<=o/\0<=n/\o+n<=zs.length:=hn
    have e1:((zs.drop o.toNat).take n.toNat).length=n.toNat:=by rw [List.length_take,List.length_drop]; omega
    refine ⟨p,len,c,rfl,by omega,hc,?_⟩
    by_cases h0:len=0
    .exact .inl h0
    .rcases hp with hp|⟨B,N,hσ,q,rfl,hq,_⟩
     .exact .inl hp
     .have hd:(ABody.rows ik zs).isDead=false:=by cases zs with|nil=>simp at hn; omega|cons y l=>rfl
      obtain ⟨B',N',ob,h1,h2,K,el,fr,rfl,h3⟩:=r.blk i _ hg hd
      rw [hσ] at h1; cases h1
      simp only [cond_false] at hq
      obtain rfl:q=N+o.toNat:=by omega
      exact .inr ⟨B,_,i,N,_,_,rfl,Nat.le_of_ble_eq_true hb,hg,hd,hσ,h2,fun τ=>take_rows h3 (by omega) τ,rfl⟩
   .cases e
  .rename_i w' k zs hg
   split at e
   .rename_i hb
    simp only [Bool.and_eq_true,decide_eq_true_eq] at hb
    obtain ⟨⟨rfl,hb⟩,rfl⟩:=hb
    cases e
    have hn:0<=o/\0<=n/\o+n<=zs.length:=hn
    have e1:((zs.drop o.toNat).take n.toNat).length=n.toNat:=by rw [List.length_take,List.length_drop]; omega
    refine ⟨p,len,c,rfl,by omega,hc,?_⟩
    by_cases h0:len=0
    .exact .inl h0
    .rcases hp with hp|⟨B,N,hσ,q,rfl,hq,_⟩
     .exact .inl hp
     .have hd:(ABody.ints ik zs).isDead=false:=ints_live (by omega)
      obtain ⟨B',N',ob,h1,h2,K,el,Z,rfl,h3,_⟩:=r.blk i _ hg hd
      rw [hσ] at h1; cases h1
      simp only [cond_true] at hq
      obtain rfl:q=0+o.toNat:=by omega
      exact .inr ⟨B,_,i,N,_,_,rfl,Nat.le_of_ble_eq_true hb,hg,hd,hσ,h2,fun τ=>take_rows (by rw [List.drop_zero,h3,List.take_append_of_le_length (by simp),List.take_of_length_le (by simp)]) (by omega) τ,rfl⟩
   .cases e
  .cases e
 | slice i off l c=>
  obtain ⟨B,N,hσ,rfl⟩:=hx
  simp only [listM] at e
  split at e
  .rename_i w cs hg
   split at e
   .rename_i hb
    simp only [Bool.and_eq_true] at hb
    split at e
    .cases e
    .rename_i q hq
     split at e
     .cases e
     .rename_i zs hz
      cases e
      obtain ⟨B',N',ob,h1,h2,K,el,rfl,h3,_⟩:=r.blk i _ hg rfl
      rw [hσ] at h1; cases h1
      obtain ⟨k1,k2⟩:=plain _ _ _ _ _ h3 hq hz
      exact ⟨_,l,c,rfl,k2,Nat.le_of_ble_eq_true hb.2,.inr ⟨B,off,i,N,_,_,rfl,Nat.le_of_ble_eq_true hb.1,hg,rfl,hσ,h2,fun τ=>⟨K,el,_,rfl,k1⟩,rfl⟩⟩
   .cases e
  .cases e
 | gslice i off l ee=>
  obtain ⟨B,N,qo,c,hσ,rfl,hqo,hc⟩:=hx
  simp only [listM] at e
  split at e
  .rename_i w cs hg
   split at e
   .rename_i hb
    simp only [Bool.and_eq_true] at hb
    split at e
    .cases e
    .rename_i q hq
     split at e
     .cases e
     .rename_i zs hz
      cases e
      obtain ⟨B',N',ob,h1,h2,K,el,A,Z,rfl,hA,h3,_⟩:=r.blk i _ hg rfl
      rw [hσ] at h1; cases h1
      obtain ⟨k1,k2⟩:=plain _ _ _ _ _ h3 hq hz
      refine ⟨_,l,c,rfl,k2,hc,?_⟩
      by_cases h0:l=0
      .exact .inl h0
      .obtain ⟨rfl,_⟩:=hqo h0
       refine .inr ⟨B,qo,i,N,_,_,rfl,Nat.le_of_ble_eq_true hb.1,hg,rfl,hσ,h2,fun τ=>⟨K,el,_,rfl,?_⟩,rfl⟩
       have hlen:((A.drop qo).take ys.length).length=ys.length:=by rw [k1,List.length_map]
       rw [List.length_take,List.length_drop] at hlen
       rw [hA,List.drop_append_of_le_length (by omega),List.take_append_of_le_length (by rw [List.length_drop]; omega)]
       exact k1
   .cases e
  .cases e
 | _=>cases e
mutual
theorem Sh.mk_app:∀ (h:Sh) (v:AV) (s:Bool) (xs ys:List Nu),Sh.read h v=some (s,xs)->(Sh.mk h (xs++ys)).1=(Sh.mk h xs).1
 | .i k,v,s,xs,ys,e=>by
  simp only [Sh.read] at e
  split at e
  .split at e
   .cases e; rfl
   .cases e
  .cases e
 | .b,v,s,xs,ys,e=>by
  simp only [Sh.read] at e
  split at e
  .cases e; rfl
  .cases e
 | .c w,v,s,xs,ys,e=>rfl
 | .a l,v,s,xs,ys,e=>by
  simp only [Sh.read] at e
  split at e
  .simp only [Sh.mk]; rw [Sh.mkL_app l _ s xs ys e]
  .cases e
 | .str,v,s,xs,ys,e=>by
  simp only [Sh.read] at e
  split at e
  .cases e; rfl
  .cases e
 | .one,v,s,xs,ys,e=>rfl
theorem Sh.mkL_app:∀ (h:List Sh) (v:List AV) (s:Bool) (xs ys:List Nu),Sh.readL h v=some (s,xs)->(Sh.mkL h (xs++ys)).1=(Sh.mkL h xs).1
 | [],v,s,xs,ys,e=>rfl
 | h :: l,v :: m,s,xs,ys,e=>by
  simp only [Sh.readL] at e
  split at e
  .cases e
  .rename_i s1 x1 e1
   split at e
   .cases e
   .rename_i s2 x2 e2
    cases e
    have a1:=(Sh.read_mk h v s1 x1 (x2++ys) e1).1
    have a2:=(Sh.read_mk h v s1 x1 x2 e1).1
    have b1:=Sh.mk_app h v s1 x1 (x2++ys) e1
    have b2:=Sh.mk_app h v s1 x1 x2 e1
    have c:=Sh.mkL_app l m s2 x2 ys e2
    simp only [Sh.mkL,List.append_assoc]
    rw [show Sh.mk h (x1++(x2++ys))=((Sh.mk h x1).1,x2++ys) from Prod.ext b1 a1,show Sh.mk h (x1++x2)=((Sh.mk h x1).1,x2) from Prod.ext b2 a2]
    simp only [c]
 | _ :: _,[],_,_,_,e=>by simp [Sh.readL] at e
end
theorem listM_rel {σ:Sg} {lo:Nat} {h:Hp} {W:World} (r:HRel σ h W) {ik:IntKind} {x:AV} {X:Value} (hx:VRel σ x X) {nd:Nd} {ys:List Int} (e:listM lo h ik x=some (nd,ys)) (hn:nd.val):
  ∃ p len c,X=.slice p len c/\len=ys.length/\len<=c/\(len=0\/ListAt σ lo h W ik ys p):=by
 obtain ⟨p,len,c,h1,h2,h3,h4⟩:=listM_relI r hx e hn
 exact ⟨p,len,c,h1,h2,h3,h4.imp _root_.id fun ⟨B,N,id,M,o,b,q1,q2,q3,q4,q5,q6,q7,_⟩=>⟨B,N,id,M,o,b,q1,q2,q3,q4,q5,q6,q7⟩⟩
inductive Ma where
 | nu (sh:Sh)
 | li
 | st (l:List Ma)
mutual
def Ma.read (lo:Nat) (h:Hp) (ik:IntKind):Ma->AV->Option (Nd×List Nu×List (List Int))
 | .nu sh,v=>match Sh.read sh v with
  | some (_,xs)=>match (Sh.mk sh xs).1.num with
   | true=>some (.tt,xs,[])
   | false=>none
  | none=>none
 | .li,v=>match listM lo h ik v with
  | some (nd,ys)=>some (nd,[],[ys])
  | none=>none
 | .st l,v=>match v with
  | .agg m=>Ma.readL lo h ik l m
  | _=>none
def Ma.readL (lo:Nat) (h:Hp) (ik:IntKind):List Ma->List AV->Option (Nd×List Nu×List (List Int))
 | [],[]=>some (.tt,[],[])
 | p :: ps,v :: vs=>match Ma.read lo h ik p v with
  | none=>none
  | some (n,xs,ys)=>match Ma.readL lo h ik ps vs with
   | none=>none
   | some (n',xs',ys')=>some (n.and n',xs++xs',ys++ys')
 | _,_=>none
end
mutual
def Ma.mk:Ma->Nat->List Nu->List (List Int)->AV×Nat×List Nu×List (List Int)
 | .nu sh,j,xs,ys=>match Sh.mk sh xs with
  | (v,xs)=>(v,j,xs,ys)
 | .li,j,xs,ys=>match ys with
  | y :: ys=>(.lslice j y.length,j+1,xs,ys)
  | []=>(.nil,j,xs,[])
 | .st l,j,xs,ys=>match Ma.mkL l j xs ys with
  | (vs,r)=>(.agg vs,r)
def Ma.mkL:List Ma->Nat->List Nu->List (List Int)->List AV×Nat×List Nu×List (List Int)
 | [],j,xs,ys=>([],j,xs,ys)
 | p :: ps,j,xs,ys=>match Ma.mk p j xs ys with
  | (v,j,xs,ys)=>match Ma.mkL ps j xs ys with
   | (vs,r)=>(v :: vs,r)
end
def Pls (σ:Sg) (lo:Nat) (h:Hp) (W:World) (ik:IntKind) (ys:List (List Int)) (bs:List (Nat×Nat)):Prop:=
 bs.length=ys.length/\∀ (i:Nat) (y:List Int) (b:Nat×Nat),ys[i]?=some y->bs[i]?=some b->y≠[]->ListAt σ lo h W ik y (some ⟨b.1,b.2,none⟩)
def Lies (ρ:Sg) (j:Nat) (ys:List (List Int)) (bs:List (Nat×Nat)):Prop:=∀ (i:Nat) (y:List Int) (b:Nat×Nat),ys[i]?=some y->bs[i]?=some b->y≠[]->ρ (j+i)=some b
theorem Pls.app {σ:Sg} {lo:Nat} {h:Hp} {W:World} {ik:IntKind} {y z:List (List Int)} {b c:List (Nat×Nat)} (h1:Pls σ lo h W ik y b) (h2:Pls σ lo h W ik z c):Pls σ lo h W ik (y++z) (b++c):=by
 refine ⟨by simp [h1.1,h2.1],fun i x d e1 e2 hne=>?_⟩
 rcases Nat.lt_or_ge i y.length with hi|hi
 .rw [List.getElem?_append_left hi] at e1
  rw [List.getElem?_append_left (by rw [h1.1]; exact hi)] at e2
  exact h1.2 i x d e1 e2 hne
 .rw [List.getElem?_append_right hi] at e1
  rw [List.getElem?_append_right (by rw [h1.1]; exact hi),h1.1] at e2
  exact h2.2 _ x d e1 e2 hne
theorem Lies.left {ρ:Sg} {j:Nat} {y z:List (List Int)} {b c:List (Nat×Nat)} (hl:b.length=y.length) (h:Lies ρ j (y++z) (b++c)):Lies ρ j y b:=fun i x d e1 e2 hne=>by
 have hi:=(List.getElem?_eq_some_iff.1 e1).1
 exact h i x d (by rw [List.getElem?_append_left hi]; exact e1) (by rw [List.getElem?_append_left (by rw [hl]; exact hi)]; exact e2) hne
theorem Lies.right {ρ:Sg} {j:Nat} {y z:List (List Int)} {b c:List (Nat×Nat)} (hl:b.length=y.length) (h:Lies ρ j (y++z) (b++c)):Lies ρ (j+y.length) z c:=fun i x d e1 e2 hne=>by
 have:=h (y.length+i) x d (by rw [List.getElem?_append_right (by omega)]; simpa using e1) (by rw [List.getElem?_append_right (by omega),hl]; simpa using e2) hne
 rw [<- this]
 congr 1
 omega
mutual
theorem Ma.read_rel {σ:Sg} {lo:Nat} {h:Hp} {W:World} (r:HRel σ h W) {ik:IntKind}:∀ (p:Ma) (v:AV) (nd:Nd) (xs:List Nu) (ys:List (List Int)) (V:Value),Ma.read lo h ik p v=some (nd,xs,ys)->VRel σ v V->nd.val ->
  ∃ bs,Pls σ lo h W ik ys bs/\∀ (ρ:Sg) (j:Nat) (xs':List Nu) (ys':List (List Int)),Lies ρ j ys bs->(Ma.mk p j (xs++xs') (ys++ys')).2=(j+ys.length,xs',ys')/\VRel ρ (Ma.mk p j (xs++xs') (ys++ys')).1 V
 | .nu sh,v,nd,xs,ys,V,e,hV,hn=>by
  simp only [Ma.read] at e
  split at e
  .rename_i s xs0 h1
   split at e
   .rename_i hnum
    cases e
    refine ⟨[],⟨rfl,fun i y b e1=>by simp at e1⟩,fun ρ j xs' ys' _=>?_⟩
    obtain ⟨a1,a2⟩:=Sh.read_mk sh v s xs xs' h1
    obtain ⟨b1,b2⟩:=Sh.read_mk sh v s xs [] h1
    rw [List.append_nil] at b2
    have hsame:(Sh.mk sh (xs++xs')).1.num=true->VRel ρ (Sh.mk sh (xs++xs')).1 V:=fun hk=>num_rel _ _ hk (a2 σ V hV)
    simp only [Ma.mk]
    refine ⟨by rw [a1]; rfl,?_⟩
    exact hsame (by rw [Sh.mk_app sh v s xs xs' h1]; exact hnum)
   .cases e
  .cases e
 | .li,v,nd,xs,ys,V,e,hV,hn=>by
  simp only [Ma.read] at e
  split at e
  .rename_i nd0 y h1
   cases e
   obtain ⟨p,len,c,rfl,hl,hc,hp⟩:=listM_rel r hV h1 hn
   by_cases h0:y=[]
   .subst h0
    refine ⟨[(0,0)],⟨rfl,fun i z b e1 e2 hne=>?_⟩,fun ρ j xs' ys' _=>⟨rfl,p,len,c,rfl,⟨by rw [hl],hc⟩,.inl hl⟩⟩
    cases i with
    | zero=>cases e1; exact absurd rfl hne
    | succ i=>simp at e1
   .rcases hp with hp|⟨B,N,id,M,o,b,rfl,g⟩
    .exact absurd (List.length_eq_zero_iff.1 (by omega)) h0
    .refine ⟨[(B,N)],⟨rfl,fun i z b' e1 e2 hne=>?_⟩,fun ρ j xs' ys' hj=>⟨rfl,_,len,c,rfl,⟨by rw [hl],hc⟩,.inr ⟨B,N,?_,rfl⟩⟩⟩
     .cases i with
      | zero=>cases e1; cases e2; exact ⟨B,N,id,M,o,b,rfl,g⟩
      | succ i=>simp at e1
     .exact hj 0 y (B,N) rfl rfl h0
  .cases e
 | .st l,v,nd,xs,ys,V,e,hV,hn=>by
  simp only [Ma.read] at e
  split at e
  .rename_i m
   obtain ⟨K,rfl,hK⟩:=hV
   obtain ⟨bs,h1,h2⟩:=Ma.readL_rel r l m nd xs ys K.toList e hK hn
   refine ⟨bs,h1,fun ρ j xs' ys' hj=>?_⟩
   obtain ⟨h3,h4⟩:=h2 ρ j xs' ys' hj
   simp only [Ma.mk]
   exact ⟨h3,K,rfl,h4⟩
  .cases e
theorem Ma.readL_rel {σ:Sg} {lo:Nat} {h:Hp} {W:World} (r:HRel σ h W) {ik:IntKind}:∀ (ps:List Ma) (vs:List AV) (nd:Nd) (xs:List Nu) (ys:List (List Int)) (L:List Value),Ma.readL lo h ik ps vs=some (nd,xs,ys)->VRels σ vs L->nd.val ->
  ∃ bs,Pls σ lo h W ik ys bs/\∀ (ρ:Sg) (j:Nat) (xs':List Nu) (ys':List (List Int)),Lies ρ j ys bs->(Ma.mkL ps j (xs++xs') (ys++ys')).2=(j+ys.length,xs',ys')/\VRels ρ (Ma.mkL ps j (xs++xs') (ys++ys')).1 L
 | [],[],nd,xs,ys,L,e,hL,hn=>by
  simp only [Ma.readL] at e
  cases e
  exact ⟨[],⟨rfl,fun i y b e1=>by simp at e1⟩,fun ρ j xs' ys' _=>⟨rfl,hL⟩⟩
 | p :: ps,v :: vs,nd,xs,ys,L,e,hL,hn=>by
  simp only [Ma.readL] at e
  split at e
  .cases e
  .rename_i n1 x1 y1 e1
   split at e
   .cases e
   .rename_i n2 x2 y2 e2
    cases e
    obtain ⟨V,L',rfl,hV,hL'⟩:=hL
    obtain ⟨b1,p1,q1⟩:=Ma.read_rel r p v n1 x1 y1 V e1 hV (Nd.lv hn)
    obtain ⟨b2,p2,q2⟩:=Ma.readL_rel r ps vs n2 x2 y2 L' e2 hL' (Nd.rv hn)
    refine ⟨b1++b2,p1.app p2,fun ρ j xs' ys' hj=>?_⟩
    obtain ⟨r1,r2⟩:=q1 ρ j (x2++xs') (y2++ys') (hj.left p1.1)
    obtain ⟨s1,s2⟩:=q2 ρ (j+y1.length) xs' ys' (hj.right p1.1)
    simp only [Ma.mkL,List.append_assoc]
    rw [show Ma.mk p j (x1++(x2++xs')) (y1++(y2++ys'))=((Ma.mk p j (x1++(x2++xs')) (y1++(y2++ys'))).1,j+y1.length,x2++xs',y2++ys') from Prod.ext rfl r1]
    refine ⟨?_,V,L',rfl,r2,s2⟩
    rw [s1,List.length_append,Nat.add_assoc]
 | [],_ :: _,_,_,_,_,e,_,_=>by simp [Ma.readL] at e
 | _ :: _,[],_,_,_,_,e,_,_=>by simp [Ma.readL] at e
end
end
end Go.Eng
namespace Go.Eng
open Go
noncomputable section
theorem new_dead {σ υ:Sg} {h h':Hp} {W X:World} (r:HRel υ h' X) (g:Good σ h W υ h' X) {b:ABody} (hb:b.isDead=true):HRel υ (h'.push b) X/\Good σ h W υ (h'.push b) X:=by
 have gp:∀ i,(h'.push b).get i=if i=h'.size then some ⟨h'.clock,b⟩ else h'.get i:=fun i=>Hp.get_push _ i
 have hne:∀ i x,υ i=some x->i≠h'.size:=fun i x e=>Nat.ne_of_lt (r.dom i x.1 x.2 e).1
 refine ⟨⟨Hp.ok_push r.ok _,fun i c hg hd=>?_,fun i B N e=>?_,fun i j c d B N M hgi hgj hdi hdj e1 e2=>?_⟩,?_⟩
 .rw [gp] at hg
  split at hg
  .cases hg; rw [show _=_ from hb] at hd; cases hd
  .exact r.blk i c hg hd
 .have:=r.dom i B N e
  exact ⟨Nat.lt_succ_of_lt this.1,this.2⟩
 .rw [gp,if_neg (hne i _ e1)] at hgi
  rw [gp,if_neg (hne j _ e2)] at hgj
  exact r.inj i j c d B N M hgi hgj hdi hdj e1 e2
 .have hsz:=g.mon.size
  have old:∀ i c,h.get i=some c->(h'.push b).get i=h'.get i:=fun i c hc=>by rw [gp,if_neg (by have:=Hp.get_lt hc; omega)]
  refine ⟨g.sub,g.only,g.ext,⟨g.mon.clock,Nat.le_succ_of_le hsz,fun i c d e1 e2=>?_,fun i w c e=>?_⟩,fun i B N e hi hB=>?_,fun B hB hH hw=>?_⟩
  .rw [old i c e1] at e2; exact g.mon.same i c d e1 e2
  .rw [old i _ e]; exact g.mon.loop i w c e
  .rcases g.old i B N e hi hB with h0|⟨j,M,c,h1,h2,h3,h4⟩
   .exact h0.elim
   .exact .inr ⟨j,M,c,h1,h2,by rw [gp,if_neg (by omega)]; exact h3,h4⟩
  .refine g.keep B hB hH fun i N c e1 e2=>hw i N c e1 ?_
   rw [gp,if_neg (by have:=Hp.get_lt e2; omega)]; exact e2
theorem new_add {σ υ:Sg} {h h':Hp} {W X:World} (r:HRel υ h' X) (g:Good σ h W υ h' X) {b:ABody} {B N:Nat} {o:Obj} (hB:W.heap.size<=B) (ho:X.heap[B]?=some o) (hb:BRel (υ.add h'.size (B,N)) N b o)
  (ap:∀ i c M,h'.get i=some c->c.body.isDead=false->υ i=some (B,M)->c.body.isView=true/\b.isView=true):HRel (υ.add h'.size (B,N)) (h'.push b) X/\Good σ h W (υ.add h'.size (B,N)) (h'.push b) X:=by
 have hs:=Sub.add (x:=(B,N)) r.fresh
 have hBX:B<X.heap.size:=by
  rcases Nat.lt_or_ge B X.heap.size with h1|h1
  .exact h1
  .rw [Array.getElem?_eq_none h1] at ho; cases ho
 have gp:∀ i,(h'.push b).get i=if i=h'.size then some ⟨h'.clock,b⟩ else h'.get i:=fun i=>Hp.get_push _ i
 refine ⟨⟨Hp.ok_push r.ok _,fun i c hg hd=>?_,fun i B' N' e=>?_,fun i j c d B' N' M hgi hgj hdi hdj e1 e2=>?_⟩,?_⟩
 .rw [gp] at hg
  split at hg
  .rename_i hi; cases hg; subst hi
   exact ⟨B,N,o,add_here,ho,hb⟩
  .obtain ⟨B1,N1,o1,h1,h2,h3⟩:=r.blk i c hg hd
   exact ⟨B1,N1,o1,hs _ _ h1,h2,h3.mono hs⟩
 .rcases add_cases e with ⟨rfl,hx⟩|⟨hi,hx⟩
  .cases hx; exact ⟨Nat.lt_succ_self _,hBX⟩
  .have:=r.dom i B' N' hx
   exact ⟨Nat.lt_succ_of_lt this.1,this.2⟩
 .rw [gp] at hgi hgj
  rcases add_cases e1 with ⟨rfl,hx⟩|⟨hi,hx⟩ <;> rcases add_cases e2 with ⟨rfl,hy⟩|⟨hj,hy⟩
  .exact .inl rfl
  .cases hx
   rw [if_pos rfl] at hgi; cases hgi
   rw [if_neg hj] at hgj
   have:=ap j d M hgj hdj hy
   exact .inr ⟨this.2,this.1⟩
  .cases hy
   rw [if_pos rfl] at hgj; cases hgj
   rw [if_neg hi] at hgi
   exact .inr (ap i c N' hgi hdi hx)
  .rw [if_neg hi] at hgi
   rw [if_neg hj] at hgj
   exact r.inj i j c d B' N' M hgi hgj hdi hdj hx hy
 .have hsz:=g.mon.size
  have old:∀ i c,h.get i=some c->(h'.push b).get i=h'.get i:=fun i c hc=>by rw [gp,if_neg (by have:=Hp.get_lt hc; omega)]
  refine ⟨g.sub.trans hs,fun i x e hi=>?_,g.ext,⟨g.mon.clock,Nat.le_succ_of_le hsz,fun i c d e1 e2=>?_,fun i w c e=>?_⟩,fun i B' N' e hi hB'=>?_,fun B' hB' hH hw=>?_⟩
  .rcases add_cases e with ⟨rfl,_⟩|⟨_,hx⟩
   .omega
   .exact g.only i x hx hi
  .rw [old i c e1] at e2; exact g.mon.same i c d e1 e2
  .rw [old i _ e]; exact g.mon.loop i w c e
  .rcases add_cases e with ⟨rfl,hx⟩|⟨_,hx⟩
   .cases hx; omega
   .rcases g.old i B' N' hx hi hB' with h0|⟨j,M,c,h1,h2,h3,h4⟩
    .exact h0.elim
    .exact .inr ⟨j,M,c,h1,h2,by rw [gp,if_neg (by omega)]; exact h3,h4⟩
  .refine g.keep B' hB' hH fun i N c e1 e2=>hw i N c e1 ?_
   rw [gp,if_neg (by have:=Hp.get_lt e2; omega)]; exact e2
inductive To where
 | nu (k:IntKind) (x:Int)
 | bo (b:Bool)
 | pb (b:Bool)
 | pn (k:IntKind) (x:Int)
 | any
 | li (own:Bool) (ys:List Int)
 | st (l:List To)
 | tu (l:List To)
mutual
def To.out (ik:IntKind) (sz:Nat):To->List ABody->AV×List ABody
 | .nu k x,bs=>(.int true k x,bs)
 | .bo b,bs=>(.bool true b,bs)
 | .pb b,bs=>(.bool false b,bs)
 | .pn k x,bs=>(.int false k x,bs)
 | .any,bs=>(.any true,bs)
 | .li own ys,bs=>match own with
  | true=>(forceNat (sz+bs.length) fun i=>.islice true i 0 ys.length,.ints ik ys :: bs)
  | false=>(forceNat (sz+bs.length) fun i=>.lslice i ys.length,.rows ik ys :: bs)
 | .st l,bs=>match To.outL ik sz l bs with
  | (vs,bs)=>(.agg vs,bs)
 | .tu l,bs=>match To.outL ik sz l bs with
  | (vs,bs)=>(.tuple vs,bs)
def To.outL (ik:IntKind) (sz:Nat):List To->List ABody->List AV×List ABody
 | [],bs=>([],bs)
 | t :: l,bs=>match To.out ik sz t bs with
  | (v,bs)=>match To.outL ik sz l bs with
   | (vs,bs)=>(v :: vs,bs)
end
def ownM (lo:Nat) (k:Hp) (ik:IntKind):AV->Option (Option Nat×Nd×List Int)
 | .nilslice=>some (none,.tt,[])
 | .islice w i o n=>match k.get i with
  | some ⟨_,.ints k' ys⟩=>match decide (ik=k')&&Nat.ble lo i&&w with
   | true=>some (some i,.p (o=0/\n=ys.length),ys)
   | false=>none
  | _=>none
 | .gslice i off l e=>match k.get i with
  | some ⟨_,.grown cs⟩=>match Nat.ble lo i&&Nat.beq e 1&&Nat.beq off 0&&Nat.beq l cs.length with
   | true=>match numsK ik cs with
    | none=>none
    | some ys=>some (some i,.tt,ys)
   | false=>none
  | _=>none
 | .slice i off l c=>match k.get i with
  | some ⟨_,.cells cs⟩=>match Nat.ble lo i&&Nat.beq off 0&&Nat.ble l c&&Nat.ble c cs.length with
   | true=>match takeN l cs with
    | none=>none
    | some q=>match numsK ik q with
     | none=>none
     | some ys=>some (some i,.tt,ys)
   | false=>none
  | _=>none
 | _=>none
def notIn (i:Nat):List (Nat×Bool)->Bool
 | []=>true
 | (j,_) :: l=>!Nat.beq i j&&notIn i l
def notOwn (i:Nat):List (Nat×Bool)->Bool
 | []=>true
 | (j,o) :: l=>!(Nat.beq i j&&o)&&notOwn i l
mutual
def To.fit (lo:Nat) (k:Hp) (ik:IntKind):To->AV->List (Nat×Bool)->Option (Nd×List (Nat×Bool))
 | .nu q x,v,seen=>match v with
  | .int _ q' y=>if q=q' then some (.p (y=x),seen) else none
  | _=>none
 | .bo b,v,seen=>match v with
  | .bool _ c=>some (.p (c=b),seen)
  | _=>none
 | .pb b,v,seen=>match v with
  | .bool _ c=>some (.p (c=b),seen)
  | _=>none
 | .pn q x,v,seen=>match v with
  | .int _ q' y=>if q=q' then some (.p (y=x),seen) else none
  | _=>none
 | .any,v,seen=>match v.isCell with
  | true=>some (.tt,seen)
  | false=>none
 | .li own ys,v,seen=>match own with
  | true=>match ownM lo k ik v with
   | none=>none
   | some (none,nd,zs)=>some (nd.and (.p (zs=ys)),seen)
   | some (some i,nd,zs)=>match notIn i seen with
    | true=>some (nd.and (.p (zs=ys)),(i,true) :: seen)
    | false=>none
  | false=>match listM lo k ik v with
   | none=>none
   | some (nd,zs)=>match idM v with
    | none=>some (nd.and (.p (zs=ys)),seen)
    | some i=>match notOwn i seen with
     | true=>some (nd.and (.p (zs=ys)),(i,false) :: seen)
     | false=>none
 | .st l,v,seen=>match v with
  | .agg m=>To.fitL lo k ik l m seen
  | _=>none
 | .tu l,v,seen=>match v with
  | .tuple m=>To.fitL lo k ik l m seen
  | _=>none
def To.fitL (lo:Nat) (k:Hp) (ik:IntKind):List To->List AV->List (Nat×Bool)->Option (Nd×List (Nat×Bool))
 | [],[],seen=>some (.tt,seen)
 | t :: l,v :: m,seen=>match To.fit lo k ik t v seen with
  | none=>none
  | some (n,seen)=>match To.fitL lo k ik l m seen with
   | none=>none
   | some (n',seen)=>some (n.and n',seen)
 | _,_,_=>none
end
theorem notIn_spec {i:Nat}:∀ {l:List (Nat×Bool)},notIn i l=true->∀ x∈l,x.1≠i
 | [],_,x,hx=>by cases hx
 | (j,o) :: l,e,x,hx=>by
  simp only [notIn,Bool.and_eq_true,Bool.not_eq_true'] at e
  rcases List.mem_cons.1 hx with rfl|hx
  .intro h
   rw [show Nat.beq i j=true from by rw [show j=i from h]; exact Nat.beq_refl i] at e
   cases e.1
  .exact notIn_spec e.2 x hx
theorem notOwn_spec {i:Nat}:∀ {l:List (Nat×Bool)},notOwn i l=true->∀ x∈l,x.1=i->x.2=false
 | [],_,x,hx=>by cases hx
 | (j,o) :: l,e,x,hx=>by
  simp only [notOwn,Bool.and_eq_true,Bool.not_eq_true'] at e
  rcases List.mem_cons.1 hx with rfl|hx
  .intro h
   have e1:=e.1
   rw [show Nat.beq i j=true from by rw [show j=i from h]; exact Nat.beq_refl i,Bool.true_and] at e1
   exact e1
  .exact notOwn_spec e.2 x hx
def Trk (τ:Sg) (k:Hp) (h h':Hp) (υ:Sg) (seen:List (Nat×Bool)):Prop:=
 ∀ i b B M,h.size<=i->h'.get i=some b->b.body.isDead=false->υ i=some (B,M)->∃ j own c M',(j,own)∈seen/\τ j=some (B,M')/\k.get j=some c/\c.body.isDead=false/\(own=false->b.body.isView=true)/\(own=true->c.body.isView=false)
structure Toc (lo:Nat) (τ:Sg) (k:Hp) (σ:Sg) (h:Hp) (W X:World) (bs:List ABody) (υ:Sg) (seen:List (Nat×Bool)):Prop where
 r:HRel υ (pushAll h bs) X
 g:Good σ h W υ (pushAll h bs) X
 t:Trk τ k h (pushAll h bs) υ seen
theorem pushAll_size (h:Hp):∀ bs:List ABody,(pushAll h bs).size=h.size+bs.length
 | []=>rfl
 | b :: l=>by show (pushAll h l).size+1=_; rw [pushAll_size h l]; simp; omega
theorem Trk.mono {τ:Sg} {k h h':Hp} {υ:Sg} {seen seen':List (Nat×Bool)} (t:Trk τ k h h' υ seen) (hs:∀ x∈seen,x∈seen'):Trk τ k h h' υ seen':=fun i b B M h1 h2 h3 h4=>by
 obtain ⟨j,own,c,M',q1,q⟩:=t i b B M h1 h2 h3 h4
 exact ⟨j,own,c,M',hs _ q1,q⟩
theorem Toc.dead {lo:Nat} {τ:Sg} {k:Hp} {σ:Sg} {h:Hp} {W X:World} {bs:List ABody} {υ:Sg} {seen:List (Nat×Bool)} (c:Toc lo τ k σ h W X bs υ seen) {b:ABody} (hb:b.isDead=true) {seen':List (Nat×Bool)} (hs:∀ x∈seen,x∈seen'):Toc lo τ k σ h W X (b :: bs) υ seen':=by
 obtain ⟨r1,g1⟩:=new_dead c.r c.g hb
 refine ⟨r1,g1,fun i d B M h1 h2 h3 h4=>?_⟩
 rw [show pushAll h (b :: bs)=(pushAll h bs).push b from rfl,Hp.get_push] at h2
 split at h2
 .cases h2; rw [show _=_ from hb] at h3; cases h3
 .exact (c.t.mono hs) i d B M h1 h2 h3 h4
theorem Toc.add {lo:Nat} {τ:Sg} {k:Hp} {σ:Sg} {h:Hp} {W X:World} {bs:List ABody} {υ:Sg} {seen:List (Nat×Bool)} (c:Toc lo τ k σ h W X bs υ seen) (rk:HRel τ k X) (r0:HRel σ h W) {b:ABody} {i B M N:Nat} {d:ABlk} {o:Obj} {own:Bool}
  (hB:W.heap.size<=B) (ho:X.heap[B]?=some o) (hb:∀ υ,BRel υ N b o) (hi:τ i=some (B,M)) (hk:k.get i=some d) (hd:d.body.isDead=false) (hv:own=false->b.isView=true/\∀ x∈seen,x.1=i->x.2=false) (hn:own=true->d.body.isView=false/\∀ x∈seen,x.1≠i):
  Toc lo τ k σ h W X (b :: bs) (υ.add (pushAll h bs).size (B,N)) ((i,own) :: seen):=by
 obtain ⟨r1,g1⟩:=new_add c.r c.g hB ho (hb _) (fun j e M' q1 q2 q3=>by
  have hj:h.size<=j:=by
   rcases Nat.lt_or_ge j h.size with hj|hj
   .have:=(r0.dom j B M' (c.g.only j _ q3 hj)).2
    omega
   .exact hj
  obtain ⟨j',own',c',M2,p1,p2,p3,p4,p5,p6⟩:=c.t j e B M' hj q1 q2 q3
  rcases rk.inj j' i c' d B M2 M p3 hk p4 hd p2 hi with e1|⟨e1,e2⟩
  .subst e1
   cases own with
   | true=>exact absurd rfl ((hn rfl).2 _ p1)
   | false=>
    have:=(hv rfl).2 _ p1 rfl
    exact ⟨p5 this,(hv rfl).1⟩
  .cases own with
   | true=>rw [(hn rfl).1] at e2; cases e2
   | false=>
    cases own' with
    | true=>rw [p6 rfl] at e1; cases e1
    | false=>exact ⟨p5 rfl,(hv rfl).1⟩)
 refine ⟨r1,g1,fun j e B' M' h1 h2 h3 h4=>?_⟩
 rw [show pushAll h (b :: bs)=(pushAll h bs).push b from rfl,Hp.get_push] at h2
 rcases add_cases h4 with ⟨rfl,hx⟩|⟨hne,hx⟩
 .cases hx
  rw [if_pos rfl] at h2; cases h2
  exact ⟨i,own,d,M,by simp,hi,hk,hd,fun ho'=>(hv ho').1,fun ho'=>(hn ho').1⟩
 .rw [if_neg hne] at h2
  obtain ⟨j',own',c',M2,p1,p⟩:=c.t j e B' M' h1 h2 h3 hx
  exact ⟨j',own',c',M2,List.mem_cons_of_mem _ p1,p⟩
theorem ownM_rel {τ:Sg} {lo:Nat} {k:Hp} {X:World} (r:HRel τ k X) {ik:IntKind} {x:AV} {V:Value} (hx:VRel τ x V) {id:Option Nat} {nd:Nd} {ys:List Int} (e:ownM lo k ik x=some (id,nd,ys)) (hn:nd.val):
  ∃ p len c,V=.slice p len c/\len=ys.length/\len<=c/\(ys=[]\/∃ i B N o d,id=some i/\p=some ⟨B,0,none⟩/\lo<=i/\τ i=some (B,N)/\c<=N/\k.get i=some d/\d.body.isDead=false/\d.body.isView=false/\X.heap[B]?=some o/\∀ υ,BRel υ N (.ints ik ys) o):=by
 cases x with
 | nilslice=>cases e; exact ⟨none,0,0,hx,rfl,Nat.le_refl _,.inl rfl⟩
 | islice w i o n=>
  obtain ⟨p,len,c,rfl,⟨hl,hc⟩,hp⟩:=hx
  simp only [ownM] at e
  split at e
  .rename_i w' k' zs hg
   split at e
   .rename_i hb
    simp only [Bool.and_eq_true,decide_eq_true_eq] at hb
    obtain ⟨⟨rfl,hb⟩,rfl⟩:=hb
    cases e
    obtain ⟨rfl,hn⟩:=(show o=0/\n=(ys.length:Int) from hn)
    refine ⟨p,len,c,rfl,by omega,hc,?_⟩
    by_cases h0:ys=[]
    .exact .inl h0
    .have hpos:0<ys.length:=List.length_pos_iff.2 h0
     rcases hp with hp|⟨B,N,hσ,q,rfl,hq,hqN⟩
     .omega
     .obtain ⟨B',N',ob,h1,h2,h3⟩:=r.blk i _ hg (ints_live hpos)
      rw [hσ] at h1; cases h1
      simp only [cond_true] at hq
      obtain rfl:q=0:=by omega
      have:=hqN rfl
      exact .inr ⟨i,B,N,ob,_,rfl,rfl,Nat.le_of_ble_eq_true hb,hσ,by omega,hg,ints_live hpos,rfl,h2,fun υ=>h3⟩
   .cases e
  .cases e
 | gslice i off l ee=>
  obtain ⟨B,N,qo,c,hσ,rfl,hqo,hc⟩:=hx
  simp only [ownM] at e
  split at e
  .rename_i w cs hg
   split at e
   .rename_i hb
    simp only [Bool.and_eq_true] at hb
    obtain ⟨⟨⟨b1,b2⟩,b3⟩,b4⟩:=hb
    have b2:=Nat.eq_of_beq_eq_true b2
    have b3:=Nat.eq_of_beq_eq_true b3
    have b4:=Nat.eq_of_beq_eq_true b4
    subst b2 b3 b4
    split at e
    .cases e
    .rename_i zs hz
     cases e
     obtain ⟨B',N',ob,h1,h2,K,el,A,Z,rfl,hA,h3,h4⟩:=r.blk i _ hg rfl
     rw [hσ] at h1; cases h1
     have hA2:=numsK_rel h3 hz
     have hlen:cs.length=ys.length:=by rw [<- VRels.length h3,hA2,List.length_map]
     refine ⟨_,_,c,rfl,hlen,hc,?_⟩
     by_cases h0:ys=[]
     .exact .inl h0
     .have hpos:0<ys.length:=List.length_pos_iff.2 h0
      obtain ⟨rfl,h5⟩:=hqo (by omega)
      exact .inr ⟨i,B,N,_,_,rfl,rfl,Nat.le_of_ble_eq_true b1,hσ,by omega,hg,rfl,rfl,h2,fun υ=>⟨K,el,Z,rfl,by rw [hA,hA2],h4⟩⟩
   .cases e
  .cases e
 | slice i off l c=>
  obtain ⟨B,N,hσ,rfl⟩:=hx
  simp only [ownM] at e
  split at e
  .rename_i w cs hg
   split at e
   .rename_i hb
    simp only [Bool.and_eq_true] at hb
    obtain ⟨⟨⟨b1,b2⟩,b3⟩,b4⟩:=hb
    have b2:=Nat.eq_of_beq_eq_true b2
    have b3:=Nat.le_of_ble_eq_true b3
    have b4:=Nat.le_of_ble_eq_true b4
    subst b2
    split at e
    .cases e
    .rename_i q hq
     split at e
     .cases e
     .rename_i zs hz
      cases e
      obtain ⟨B',N',ob,h1,h2,K,el,rfl,h3,h4⟩:=r.blk i _ hg rfl
      rw [hσ] at h1; cases h1
      obtain ⟨k1,k2⟩:=VRels.take l h3 hq
      have hA2:=numsK_rel k1 hz
      have hKl:K.toList.length=cs.length:=VRels.length h3
      have hlen:l=ys.length:=by
       have:=congrArg List.length hA2
       rw [List.length_take,List.length_map] at this
       omega
      exact ⟨_,l,c,rfl,hlen,b3,.inr ⟨i,B,N,_,_,rfl,rfl,Nat.le_of_ble_eq_true b1,hσ,by rw [h4]; simp at hKl; omega,hg,rfl,rfl,h2,fun υ=>⟨K,el,K.toList.drop l,rfl,by rw [<- hA2,List.take_append_drop],h4⟩⟩⟩
   .cases e
  .cases e
 | _=>cases e
mutual
theorem To.fit_rel {lo:Nat} {τ:Sg} {k:Hp} {σ:Sg} {h:Hp} {W X:World} (rk:HRel τ k X) (r0:HRel σ h W) (fresh:∀ i B N,τ i=some (B,N)->lo<=i->W.heap.size<=B) {ik:IntKind}:∀ (t:To) (v:AV) (V:Value) (seen seen':List (Nat×Bool)) (nd:Nd) (bs:List ABody) (υ:Sg),
  To.fit lo k ik t v seen=some (nd,seen')->nd.val->VRel τ v V->Toc lo τ k σ h W X bs υ seen->∃ υ',Sub υ υ'/\Toc lo τ k σ h W X (To.out ik h.size t bs).2 υ' seen'/\VRel υ' (To.out ik h.size t bs).1 V
 | .nu q x,v,V,seen,seen',nd,bs,υ,e,hn,hV,c=>by
  simp only [To.fit] at e
  split at e
  .split at e
   .rename_i hq; subst hq; cases e
    rw [show _=_ from hn] at hV
    exact ⟨υ,Sub.refl _,c,hV⟩
   .cases e
  .cases e
 | .bo b,v,V,seen,seen',nd,bs,υ,e,hn,hV,c=>by
  simp only [To.fit] at e
  split at e
  .cases e
   rw [show _=_ from hn] at hV
   exact ⟨υ,Sub.refl _,c,hV⟩
  .cases e
 | .pb b,v,V,seen,seen',nd,bs,υ,e,hn,hV,c=>by
  simp only [To.fit] at e
  split at e
  .cases e
   rw [show _=_ from hn] at hV
   exact ⟨υ,Sub.refl _,c,hV⟩
  .cases e
 | .pn q x,v,V,seen,seen',nd,bs,υ,e,hn,hV,c=>by
  simp only [To.fit] at e
  split at e
  .split at e
   .rename_i hq; subst hq; cases e
    rw [show _=_ from hn] at hV
    exact ⟨υ,Sub.refl _,c,hV⟩
   .cases e
  .cases e
 | .any,v,V,seen,seen',nd,bs,υ,e,hn,hV,c=>by
  simp only [To.fit] at e
  split at e
  .rename_i hc
   cases e
   exact ⟨υ,Sub.refl _,c,oneCell_any (isCell_one hV hc)⟩
  .cases e
 | .li own ys,v,V,seen,seen',nd,bs,υ,e,hn,hV,c=>by
  have hsz:=pushAll_size h bs
  simp only [To.fit] at e
  split at e
  .split at e
   .cases e
   .rename_i nd0 zs ho
    cases e
    have hz:zs=ys:=Nd.rv hn
    subst hz
    obtain ⟨p,len,cc,rfl,hl,hc,hp⟩:=ownM_rel rk hV ho (Nd.lv hn)
    rcases hp with rfl|⟨i,B,N,o,d,h0,_⟩
    .simp only [To.out,forceNat_eq]
     exact ⟨υ,Sub.refl _,c.dead rfl (fun x hx=>hx),p,len,cc,rfl,⟨by rw [hl],hc⟩,.inl hl⟩
    .cases h0
   .rename_i i nd0 zs ho
    split at e
    .rename_i hni
     cases e
     have hz:zs=ys:=Nd.rv hn
     subst hz
     obtain ⟨p,len,cc,rfl,hl,hc,hp⟩:=ownM_rel rk hV ho (Nd.lv hn)
     simp only [To.out,forceNat_eq]
     rcases hp with rfl|⟨i',B,N,o,d,h0,rfl,hlo,hi,hcN,hk,hd,hv,hX,hb⟩
     .exact ⟨υ,Sub.refl _,c.dead rfl (fun x hx=>List.mem_cons_of_mem _ hx),p,len,cc,rfl,⟨by rw [hl],hc⟩,.inl hl⟩
     .cases h0
      refine ⟨_,Sub.add c.r.fresh,c.add rk r0 (own:=true) (fresh i B N hi hlo) hX hb hi hk hd (fun h=>by cases h) (fun _=>⟨hv,notIn_spec hni⟩),_,len,cc,rfl,⟨by rw [hl],hc⟩,.inr ⟨B,N,by rw [<- hsz]; exact add_here,0,rfl,by simp,fun _=>by omega⟩⟩
    .cases e
  .split at e
   .cases e
   .rename_i nd0 zs hlm
    have key:∀ (seen1:List (Nat×Bool)),nd0.val->zs=ys->(∀ x∈seen,x∈seen1)->(∀ i,idM v=some i->notOwn i seen=true/\seen1=(i,false) :: seen) ->
      ∃ υ',Sub υ υ'/\Toc lo τ k σ h W X (To.out ik h.size (.li false ys) bs).2 υ' seen1/\VRel υ' (To.out ik h.size (.li false ys) bs).1 V:=by
     intro seen1 hn0 hz hs hi1
     subst hz
     obtain ⟨p,len,cc,rfl,hl,hc,hp⟩:=listM_relI rk hV hlm hn0
     simp only [To.out,forceNat_eq]
     by_cases hz0:zs=[]
     .subst hz0
      exact ⟨υ,Sub.refl _,c.dead rfl hs,p,len,cc,rfl,⟨by rw [hl],hc⟩,.inl hl⟩
     .rcases hp with hp|⟨B,N,i,M,o,d,rfl,hlo,hk,hd,hi,hX,hb,hid⟩
      .exact absurd (List.length_eq_zero_iff.1 (by omega)) hz0
      .obtain ⟨hno,rfl⟩:=hi1 i hid
       exact ⟨_,Sub.add c.r.fresh,c.add rk r0 (own:=false) (fresh i B M hi hlo) hX hb hi hk hd (fun _=>⟨rfl,notOwn_spec hno⟩) (fun h=>by cases h),_,len,cc,rfl,⟨by rw [hl],hc⟩,.inr ⟨B,N,by rw [<- hsz]; exact add_here,rfl⟩⟩
    split at e
    .rename_i hid
     cases e
     exact key seen (Nd.lv hn) (Nd.rv hn) (fun x hx=>hx) (fun i hi=>by rw [hid] at hi; cases hi)
    .rename_i i hid
     split at e
     .rename_i hno
      cases e
      exact key _ (Nd.lv hn) (Nd.rv hn) (fun x hx=>List.mem_cons_of_mem _ hx) (fun j hj=>by rw [hid] at hj; cases hj; exact ⟨hno,rfl⟩)
     .cases e
 | .st l,v,V,seen,seen',nd,bs,υ,e,hn,hV,c=>by
  simp only [To.fit] at e
  split at e
  .obtain ⟨K,rfl,hK⟩:=hV
   obtain ⟨υ',h1,h2,h3⟩:=To.fitL_rel rk r0 fresh l _ K.toList seen seen' nd bs υ e hn hK c
   simp only [To.out]
   exact ⟨υ',h1,h2,K,rfl,h3⟩
  .cases e
 | .tu l,v,V,seen,seen',nd,bs,υ,e,hn,hV,c=>by
  simp only [To.fit] at e
  split at e
  .obtain ⟨K,rfl,hK⟩:=hV
   obtain ⟨υ',h1,h2,h3⟩:=To.fitL_rel rk r0 fresh l _ K.toList seen seen' nd bs υ e hn hK c
   simp only [To.out]
   exact ⟨υ',h1,h2,K,rfl,h3⟩
  .cases e
theorem To.fitL_rel {lo:Nat} {τ:Sg} {k:Hp} {σ:Sg} {h:Hp} {W X:World} (rk:HRel τ k X) (r0:HRel σ h W) (fresh:∀ i B N,τ i=some (B,N)->lo<=i->W.heap.size<=B) {ik:IntKind}:∀ (t:List To) (v:List AV) (L:List Value) (seen seen':List (Nat×Bool)) (nd:Nd) (bs:List ABody) (υ:Sg),
  To.fitL lo k ik t v seen=some (nd,seen')->nd.val->VRels τ v L->Toc lo τ k σ h W X bs υ seen->∃ υ',Sub υ υ'/\Toc lo τ k σ h W X (To.outL ik h.size t bs).2 υ' seen'/\VRels υ' (To.outL ik h.size t bs).1 L
 | [],[],L,seen,seen',nd,bs,υ,e,hn,hV,c=>by
  simp only [To.fitL] at e
  cases e
  exact ⟨υ,Sub.refl _,c,hV⟩
 | t :: l,v :: m,L,seen,seen',nd,bs,υ,e,hn,hV,c=>by
  simp only [To.fitL] at e
  split at e
  .cases e
  .rename_i n1 s1 e1
   split at e
   .cases e
   .rename_i n2 s2 e2
    cases e
    obtain ⟨V,L',rfl,q1,q2⟩:=hV
    obtain ⟨υ1,a1,a2,a3⟩:=To.fit_rel rk r0 fresh t v V seen s1 n1 bs υ e1 (Nd.lv hn) q1 c
    obtain ⟨υ2,b1,b2,b3⟩:=To.fitL_rel rk r0 fresh l m L' s1 seen' n2 _ υ1 e2 (Nd.rv hn) q2 a2
    simp only [To.outL]
    exact ⟨υ2,a1.trans b1,b2,V,L',rfl,VRel.mono b1 _ _ a3,b3⟩
 | [],_ :: _,_,_,_,_,_,_,e,_,_,_=>by simp [To.fitL] at e
 | _ :: _,[],_,_,_,_,_,_,e,_,_,_=>by simp [To.fitL] at e
end
theorem To.tells {lo:Nat} {k:Hp} {ik:IntKind} {t:To} {v0:AV} {nd:Nd} {seen:List (Nat×Bool)} (e:To.fit lo k ik t v0 []=some (nd,seen)) (hn:nd.val) (sz:Nat):Tells lo k v0 sz (To.out ik sz t []).1 (To.out ik sz t []).2:=by
 intro σ h W τ X V hs r r2 k2 fresh hq
 subst hs
 obtain ⟨r1,g1⟩:=r.quiet hq
 obtain ⟨υ,h1,h2,h3⟩:=To.fit_rel r2 r fresh t v0 V [] seen nd [] σ e hn k2 ⟨r1,g1,fun i b B M p1 p2 _ _=>absurd (Hp.get_lt p2) (Nat.not_lt.2 p1)⟩
 exact ⟨υ,h2.r,h2.g,h3⟩
def mSpec (hG:Hp) (ik:IntKind) (ps:List Ma) (V:List Nu->List (List Int)->Option (Prop×To)):NSpec:=fun args h=>
 match Ma.readL hG.size h ik ps args with
 | none=>none
 | some (nd,xs,ys)=>match V xs ys with
  | none=>none
  | some (p,t)=>match To.out ik h.size t [] with
   | (v,bs)=>some (nd.and (.p p),v,bs)
theorem msp_ok {P:Program} {glob:Nat->Option Nat} {hG:Hp} (ok:hG.ok) (pl:blksPlain hG.size hG.blks=true) (hgl:∀ g i,glob g=some i->i<hG.size) {f:FuncId} {ik:IntKind} {ps:List Ma} {V:List Nu->List (List Int)->Option (Prop×To)}
  (h:∀ xs ys p t,V xs ys=some (p,t)->p->∃ (C:Ctx) (n:Nat) (as:List AV) (nd0:Nd) (v0:AV) (k:Hp) (m:Nd) (seen:List (Nat×Bool)),CtxOk C/\C.P=P/\C.glob=glob/\tellL (Ma.mkL ps hG.size xs ys).1 as /\
   (run C n).call f as (viewsH true hG (ys.map fun y=>(ik,y)))=some ⟨nd0,[⟨.tt,v0,k⟩]⟩/\v0.isPanic=false/\nd0.val/\allOld hG.clock (dropN (k.size - (viewsH true hG (ys.map fun y=>(ik,y))).size) k.blks)=true/\To.fit (viewsH true hG (ys.map fun y=>(ik,y))).size k ik t v0 []=some (m,seen)/\m.val)
  (fn:∃ fn:Func,P.funcs[f]?=some fn/\fn.body.isSome=true):NOk P glob hG f (mSpec hG ik ps V):=by
 refine ⟨fun args nd v bs h' e same=>?_,fn⟩
 unfold mSpec at e
 split at e
 .cases e
 .rename_i nd1 xs ys hr
  split at e
  .cases e
  .rename_i p t hV
   simp only [Option.some.injEq,Prod.mk.injEq] at e
   obtain ⟨rfl,rfl,rfl⟩:=e
   refine ref_call fun σ A W g r hA hn=>?_
   obtain ⟨C,n,as,nd0,v0,k,m,seen,co,rfl,rfl,ht,hrun,hp,hn0,hold,hf,hm⟩:=h _ _ _ _ hV (Nd.rv hn)
   obtain ⟨qs,pls,q2⟩:=Ma.readL_rel r ps args nd1 xs ys A.toList hr hA (Nd.lv hn)
   have gs:=globsSame_get same
   have hsel:∀ i,i<ys.length->∃ b,qs[i]?=some b:=fun i hi=>⟨_,List.getElem?_eq_getElem (by rw [pls.1]; exact hi)⟩
   obtain ⟨ρ,r0,sub,hj⟩:=views_rel (raw:=true) (σ:=fun i=>qs[i]?) ((List.range ys.length).map fun i=>(i,ik,ys.getD i [])) (σ.low hG.size) hG (glob_rel ok pl same r) (fun x hx=>by
    obtain ⟨i,hi,rfl⟩:=List.mem_map.1 hx
    have hi:=List.mem_range.1 hi
    by_cases hne:ys.getD i []=[]
    .exact .inl hne
    .right
     obtain ⟨b,hb⟩:=hsel i hi
     have hy:ys[i]?=some (ys.getD i []):=by rw [List.getD_eq_getElem?_getD,List.getElem?_eq_getElem hi]; rfl
     obtain ⟨B,N,id,M,o,d,hp0,hlo,hg,hd,hσ,hX,hb2⟩:=pls.2 i _ b hy hb hne
     cases hp0
     refine ⟨b.1,b.2,o,hb,hX,hb2,fun j c M' hgj hdj e1=>?_⟩
     have hj:=Hp.get_lt hgj
     obtain ⟨b',c',hb',hc',hbc⟩:=gs j hj
     rw [hgj] at hc'; cases hc'
     rcases r.inj j id b' d b.1 M' M hb' hg (by rw [hbc]; exact hdj) hd (Sg.low_sub σ _ _ _ e1) hσ with h8|⟨h8,_⟩
     .omega
     .rw [hbc] at h8; exact h8)
   have hmap:((List.range ys.length).map fun i=>(i,ik,ys.getD i [])).map (·.2)=ys.map fun y=>(ik,y):=by
    apply List.ext_getElem?
    intro i
    simp only [List.map_map,List.getElem?_map]
    rcases Nat.lt_or_ge i ys.length with hi|hi
    .simp [List.getElem?_range hi,List.getElem?_eq_getElem hi]
    .rw [List.getElem?_eq_none (by simpa using hi),List.getElem?_eq_none hi]; rfl
   rw [hmap] at r0
   have lies:Lies ρ hG.size ys qs:=fun i y b e1 e2 hne=>by
    have hi:=(List.getElem?_eq_some_iff.1 e1).1
    have:=hj i (i,ik,ys.getD i []) (by simp [List.getElem?_map,List.getElem?_range hi]) (by
     show ys.getD i []≠[]
     rw [List.getD_eq_getElem?_getD,e1]; exact hne)
    rw [this]
    exact e2
   obtain ⟨_,q3⟩:=q2 ρ hG.size [] [] lies
   rw [List.append_nil,List.append_nil] at q3
   refine ⟨C,n,_,as,ρ,nd0,v0,k,co,rfl,rfl,r0,fun gl i hgi=>?_,tellL_rel _ _ _ ht q3,hrun,hp,hn0,by rw [viewsH_clock]; exact hold,To.tells hf hm h'.size⟩
   obtain ⟨N,hN⟩:=g gl i hgi
   exact ⟨N,sub _ _ (by simp [Sg.low,hgl gl i hgi,hN])⟩
end
end Go.Eng
namespace Go.Eng
open Go
noncomputable section
def stopC (C:Ctx):Ctx:={ C with loop:=fun fr a s=>match C.loop fr a s with
 | some q=>some q
 | none=>some ⟨.tt,[⟨.tt,.goto 4242,s⟩]⟩ }
def stopped:List Ent->St
 | []=>⟨[],[],⟨[],0,0⟩⟩
 | e :: l=>match e.x with
  | .goto i=>match Nat.beq i 4242 with
   | true=>e.s
   | false=>stopped l
  | _=>stopped l
def firstSt:Option R->St
 | some q=>stopped q.l
 | none=>⟨[],[],⟨[],0,0⟩⟩
def stAt (C:Ctx) (n:Nat) (f:FuncId) (args:List AV) (h:Hp):St:=
 match C.P.funcs[f]? with
 | none=>⟨[],[],⟨[],0,0⟩⟩
 | some fn=>match fn.body with
  | none=>⟨[],[],⟨[],0,0⟩⟩
  | some c=>forceNat (h.clock+1) fun ck=>firstSt ((run (stopC C) n).code ⟨f,none⟩ c ⟨argT args++undefT (fn.ntmps - args.length),[],⟨h.blks,h.size,ck⟩⟩)
def stIn (C:Ctx) (n:Nat) (fr:AFr) (a:Code) (s:St):St:=firstSt ((run (stopC C) n).code fr a s)
def hG0:Hp:=⟨[],0,1⟩
theorem NOk.lift {P:Program} {f:FuncId} {s:NSpec} (g:NOk P (fun _=>none) hG0 f s) (glob:Nat->Option Nat) (hG:Hp):NOk P glob hG f s:=
 ⟨fun args nd v bs h e _ σ A W _ r hA hn cs=>g.call args nd v bs h e rfl σ A W (fun _ _ h=>by cases h) r hA hn cs,g.fn⟩
end
end Go.Eng
namespace Go.Eng
open Go
noncomputable section
theorem sumL_two {C:Ctx} {r:Rec} (ro:RecOk C r) {fr:AFr} {a:Code} {s0:St} {α:Type} (u:SumL α) {y0:α} {ids0:List Nat} (hI:u.I y0) (start:Holds (fit s0 s0 (patch s0 (u.S y0)) ids0)) (hs:oldsOk s0.hp (u.S y0).old=true)
  (body:∀ y,u.I y->Holds (chkR s0 (u.way y) (r.code fr a (patch s0 (u.S y))))) {g:Bool} {x x':Ex} {p p':Patch} (hF:u.F y0=bif g then (x,p) else (x',p')):CodeOk C fr (.loop a) s0 ⟨.tt,[⟨.b g,x,patch s0 p⟩,⟨.b (!g),x',patch s0 p'⟩]⟩:=by
 cases g with
 | true=>exact sumL_ok ro u hI start hs body ⟨⟨.b true,x,patch s0 p⟩,by simp [One,G.val],by rw [hF]; rfl,by rw [hF]; rfl⟩
 | false=>exact sumL_ok ro u hI start hs body ⟨⟨.b true,x',patch s0 p'⟩,by simp [One,G.val],by rw [hF]; rfl,by rw [hF]; rfl⟩
theorem sumL_oneC {C:Ctx} {fr:AFr} {a:Code} {s0:St} {α:Type} (u:SumL α) {y0:α} {ids0:List Nat} (hI:u.I y0) (start:Holds (fit s0 s0 (patch s0 (u.S y0)) ids0)) (hs:oldsOk s0.hp (u.S y0).old=true)
  (body:∀ y,u.I y->∃ (D:Ctx) (m:Nat),CtxOk D/\D.P=C.P/\D.glob=C.glob/\Holds (chkR s0 (u.way y) ((run D m).code fr a (patch s0 (u.S y))))) {x:Ex} {p:Patch} (hF:u.F y0=(x,p)):CodeOk C fr (.loop a) s0 ⟨.tt,[⟨.tt,x,patch s0 p⟩]⟩:=
 sumL_okC u hI start hs body ⟨⟨.tt,x,patch s0 p⟩,rfl,by rw [hF],by rw [hF]⟩
def MRun (P:Program) (glob:Nat->Option Nat) (hG:Hp) (f:FuncId) (ik:IntKind) (ps:List Ma) (xs:List Nu) (ys:List (List Int)) (t:To):Prop:=
 ∃ (C:Ctx) (n:Nat) (as:List AV) (nd0:Nd) (v0:AV) (k:Hp) (m:Nd) (seen:List (Nat×Bool)),CtxOk C/\C.P=P/\C.glob=glob/\tellL (Ma.mkL ps hG.size xs ys).1 as /\
   (run C n).call f as (viewsH true hG (ys.map fun y=>(ik,y)))=some ⟨nd0,[⟨.tt,v0,k⟩]⟩/\v0.isPanic=false/\nd0.val/\allOld hG.clock (dropN (k.size - (viewsH true hG (ys.map fun y=>(ik,y))).size) k.blks)=true/\To.fit (viewsH true hG (ys.map fun y=>(ik,y))).size k ik t v0 []=some (m,seen)/\m.val
theorem msp_runs {P:Program} {f:FuncId} {ik:IntKind} {ps:List Ma} {V:List Nu->List (List Int)->Option (Prop×To)}
  (h:∀ xs ys p t,V xs ys=some (p,t)->p->MRun P (fun _=>none) hG0 f ik ps xs ys t) (fn:∃ fn:Func,P.funcs[f]?=some fn/\fn.body.isSome=true):NOk P (fun _=>none) hG0 f (mSpec hG0 ik ps V):=
 msp_ok (show hG0.ok from rfl) rfl (fun _ _ h=>by cases h) h fn
end
end Go.Eng
namespace Go.Eng
def lc (q r y0 u:Int):Bool:=bif decide (q>=4294967296) then true else decide (IntKind.u64.wrap (q*y0)>IntKind.u64.wrap (IntKind.u64.wrap (4294967296*r)+u))
def lq (q r y1 y0 u:Int):Int:=
 bif (lc q r y0 u&&decide (IntKind.u64.wrap (r+y1)>=4294967296))||!lc q r y0 u then
  bif lc q r y0 u&&decide (IntKind.u64.wrap (r+y1)>=4294967296) then IntKind.u64.wrap (q - 1) else q
 else
  bif (lc (IntKind.u64.wrap (q - 1)) (IntKind.u64.wrap (r+y1)) y0 u&&decide (IntKind.u64.wrap (IntKind.u64.wrap (r+y1)+y1)>=4294967296))||!lc (IntKind.u64.wrap (q - 1)) (IntKind.u64.wrap (r+y1)) y0 u then
   bif lc (IntKind.u64.wrap (q - 1)) (IntKind.u64.wrap (r+y1)) y0 u&&decide (IntKind.u64.wrap (IntKind.u64.wrap (r+y1)+y1)>=4294967296) then IntKind.u64.wrap (IntKind.u64.wrap (q - 1) - 1) else IntKind.u64.wrap (q - 1)
  else
   bif lc (IntKind.u64.wrap (IntKind.u64.wrap (q - 1) - 1)) (IntKind.u64.wrap (IntKind.u64.wrap (r+y1)+y1)) y0 u&&decide (IntKind.u64.wrap (IntKind.u64.wrap (IntKind.u64.wrap (r+y1)+y1)+y1)>=4294967296) then
    IntKind.u64.wrap (IntKind.u64.wrap (IntKind.u64.wrap (q - 1) - 1) - 1)
   else IntKind.u64.wrap (IntKind.u64.wrap (q - 1) - 1)
def lneed (q r y1 y0 u:Int):Prop:=
 (lc q r y0 u&&!decide (IntKind.u64.wrap (r+y1)>=4294967296))=true ->
  (lc (IntKind.u64.wrap (q - 1)) (IntKind.u64.wrap (r+y1)) y0 u&&!decide (IntKind.u64.wrap (IntKind.u64.wrap (r+y1)+y1)>=4294967296))=true ->
   (lc (IntKind.u64.wrap (IntKind.u64.wrap (q - 1) - 1)) (IntKind.u64.wrap (IntKind.u64.wrap (r+y1)+y1)) y0 u&&!decide (IntKind.u64.wrap (IntKind.u64.wrap (IntKind.u64.wrap (r+y1)+y1)+y1)>=4294967296))=true->False
theorem wrapU {n:Int} (h0:0<=n) (h1:n<18446744073709551616):IntKind.u64.wrap n=n:=by rw [IntKind.wrap_u64]; omega
section step
variable {u Y y1 y0 d Q:Int}
theorem over_iff (hY:9223372036854775808<=Y) (e:Y=y1*4294967296+y0) (hQ1:Q*Y<=u*4294967296+d) (hQ2:u*4294967296+d<(Q+1)*Y) {q r:Int} (hu:u=q*y1+r):
  q*y0>r*4294967296+d ↔ q>Q:=by
 have h1:q*Y=q*y1*4294967296+q*y0:=by rw [e,Int.mul_add,Int.mul_assoc]
 constructor
 .intro h
  rcases Int.lt_or_le Q q with h2|h2
  .exact h2
  .have:=Int.mul_le_mul_of_nonneg_right h2 (show 0<=Y by omega)
   omega
 .intro h
  have:=Int.mul_le_mul_of_nonneg_right (show Q+1<=q by omega) (show 0<=Y by omega)
  omega
theorem lc_iff (hY:9223372036854775808<=Y) (e:Y=y1*4294967296+y0) (h0:0<=y0) (h0':y0<4294967296) (hd:0<=d) (hd':d<4294967296) (hQ:Q<4294967296) (hQ1:Q*Y<=u*4294967296+d) (hQ2:u*4294967296+d<(Q+1)*Y)
  {q r:Int} (hu:u=q*y1+r) (hq:0<=q) (hr:0<=r) (hr':r<4294967296):lc q r y0 d=decide (q>Q):=by
 unfold lc
 by_cases h:q>=4294967296
 .simp only [h,decide_true,cond_true]
  symm; simp; omega
 .simp only [h,decide_false,cond_false]
  have h1:q*y0<=4294967295*y0:=Int.mul_le_mul_of_nonneg_right (by omega) h0
  have h2:0<=q*y0:=Int.mul_nonneg hq h0
  rw [wrapU h2 (by omega),wrapU (n:=4294967296*r) (by omega) (by omega),wrapU (by omega) (by omega)]
  have:=over_iff hY e hQ1 hQ2 hu
  congr 1
  apply propext
  rw [<- this]
  omega
theorem lq_spec (hY:9223372036854775808<=Y) (hY':Y<18446744073709551616) (e:Y=y1*4294967296+y0) (h0:0<=y0) (h0':y0<4294967296) (hu:0<=u) (hu':u<Y) (hd:0<=d) (hd':d<4294967296):
  lq (u / y1) (u % y1) y1 y0 d=(u*4294967296+d) / Y/\lneed (u / y1) (u % y1) y1 y0 d:=by
 have hy1:2147483648<=y1:=by omega
 have hy1':y1<4294967296:=by omega
 generalize hQ:(u*4294967296+d) / Y=Q
 have hdm:=Int.mul_ediv_add_emod (u*4294967296+d) Y
 rw [hQ] at hdm
 have hm0:=Int.emod_nonneg (u*4294967296+d) (show Y≠0 by omega)
 have hm1:=Int.emod_lt_of_pos (u*4294967296+d) (show 0<Y by omega)
 have hc:Y*Q=Q*Y:=Int.mul_comm _ _
 have hQ1:Q*Y<=u*4294967296+d:=by omega
 have hQ2:u*4294967296+d<(Q+1)*Y:=by rw [Int.add_mul]; omega
 have hQ0:0<=Q:=by rw [<- hQ]; exact Int.ediv_nonneg (by omega) (by omega)
 have hQlt:Q<4294967296:=by
  rcases Int.lt_or_le Q 4294967296 with h|h
  .exact h
  .have:=Int.mul_le_mul_of_nonneg_right h (show 0<=Y by omega)
   omega
 have hqr:=Int.mul_ediv_add_emod u y1
 have hr0:=Int.emod_nonneg u (show y1≠0 by omega)
 have hr1:=Int.emod_lt_of_pos u (show 0<y1 by omega)
 generalize hq:u / y1=q at *
 generalize hr:u % y1=r at *
 have hq0:0<=q:=by rw [<- hq]; exact Int.ediv_nonneg hu (by omega)
 have hc1:y1*q=q*y1:=Int.mul_comm _ _
 have hu1:u=q*y1+r:=by omega
 have hqle:q<=4294967297:=by
  rcases Int.lt_or_le 4294967297 q with h|h
  .have:=Int.mul_le_mul_of_nonneg_right (show 4294967298<=q by omega) (show 0<=y1 by omega)
   omega
  .exact h
 have hge:Q<=q:=by
  rcases Int.lt_or_le q Q with h|h
  .have h1:=Int.mul_le_mul_of_nonneg_right (show q+1<=Q by omega) (show 0<=Y by omega)
   have h2:(q+1)*Y=q*y1*4294967296+y1*4294967296+(q+1)*y0:=by rw [e,Int.mul_add,Int.add_mul,<- Int.mul_assoc,Int.add_mul,Int.one_mul,Int.one_mul]
   have h3:0<=(q+1)*y0:=Int.mul_nonneg (by omega) h0
   omega
  .exact h
 have hle:q<=Q+2:=by
  rcases Int.lt_or_le (Q+2) q with h|h
  .have h1:=Int.mul_le_mul_of_nonneg_right (show Q+1<=q - 2 by omega) (show 0<=Y by omega)
   have h2:(q - 2)*Y=q*y1*4294967296 - 2*y1*4294967296+(q - 2)*y0:=by rw [e,Int.mul_add,Int.sub_mul,<- Int.mul_assoc,Int.sub_mul,Int.mul_assoc 2]
   have h3:(q - 2)*y0<=4294967295*y0:=Int.mul_le_mul_of_nonneg_right (by omega) h0
   omega
  .exact h
 have C1:lc q r y0 d=decide (q>Q):=lc_iff hY e h0 h0' hd hd' hQlt hQ1 hQ2 hu1 hq0 hr0 (by omega)
 have w1:IntKind.u64.wrap (r+y1)=r+y1:=wrapU (by omega) (by omega)
 by_cases g1:q>Q
 .have v1:IntKind.u64.wrap (q - 1)=q - 1:=wrapU (by omega) (by omega)
  have hu2:u=(q - 1)*y1+(r+y1):=by rw [Int.sub_mul]; omega
  by_cases b1:r+y1>=4294967296
  .-- the second guess must be right
   have hq1:q - 1=Q:=by
    have:=over_iff hY e hQ1 hQ2 hu2
    have h3:(q - 1)*y0<=4294967296*y0:=Int.mul_le_mul_of_nonneg_right (by omega) h0
    rcases Int.lt_or_le Q (q - 1) with h|h
    .have:=this.2 h
     omega
    .omega
   refine ⟨?_,?_⟩
   .simp only [lq,C1,w1,v1,g1,b1,decide_true,Bool.and_self,Bool.true_or,cond_true]
    exact hq1
   .intro h
    simp [C1,w1,b1] at h
  .have C2:lc (q - 1) (r+y1) y0 d=decide (q - 1>Q):=lc_iff hY e h0 h0' hd hd' hQlt hQ1 hQ2 hu2 (by omega) (by omega) (by omega)
   by_cases g2:q - 1>Q
   .have v2:IntKind.u64.wrap (q - 1 - 1)=q - 1 - 1:=wrapU (by omega) (by omega)
    have w2:IntKind.u64.wrap (r+y1+y1)=r+y1+y1:=wrapU (by omega) (by omega)
    have hq2:q - 1 - 1=Q:=by omega
    by_cases b2:r+y1+y1>=4294967296
    .refine ⟨?_,?_⟩
     .simp only [lq,C1,w1,v1,g1,b1,C2,g2,v2,w2,b2,decide_true,decide_false,Bool.and_self,Bool.and_false,Bool.not_true,Bool.or_self,Bool.true_or,Bool.or_false,cond_true,cond_false]
      exact hq2
     .intro _ h
      simp [C2,w1,v1,w2,b2] at h
    .have hu3:u=(q - 1 - 1)*y1+(r+y1+y1):=by rw [Int.sub_mul]; omega
     have C3:lc (q - 1 - 1) (r+y1+y1) y0 d=decide (q - 1 - 1>Q):=lc_iff hY e h0 h0' hd hd' hQlt hQ1 hQ2 hu3 (by omega) (by omega) (by omega)
     have g3:¬ q - 1 - 1>Q:=by omega
     refine ⟨?_,?_⟩
     .simp only [lq,C1,w1,v1,g1,b1,C2,g2,v2,w2,b2,C3,g3,decide_true,decide_false,Bool.and_self,Bool.and_false,Bool.false_and,Bool.not_true,Bool.or_self,Bool.true_or,Bool.or_false,cond_true,cond_false]
      exact hq2
     .intro _ _ h
      simp [v1,w1,v2,w2,C3,g3] at h
   .refine ⟨?_,?_⟩
    .simp only [lq,C1,w1,v1,g1,b1,C2,g2,decide_true,decide_false,Bool.and_self,Bool.and_false,Bool.false_and,Bool.not_true,Bool.not_false,Bool.or_self,Bool.true_or,Bool.or_true,Bool.or_false,cond_true,cond_false]
     omega
    .intro _ h
     simp [v1,w1,C2,g2] at h
 .refine ⟨?_,?_⟩
  .simp only [lq,C1,g1,decide_false,Bool.false_and,Bool.not_false,Bool.or_true,cond_true,cond_false]
   omega
  .intro h
   simp [C1,g1] at h
end step
end Go.Eng
namespace Go.Eng
def dS (y:Int):Int:=IntKind.u64.wrap (64 - ((Lib.bitLen y.toNat:Nat):Int))
def dP (y:Int):Int:=2 ^ min (dS y).toNat IntKind.u64.bits
def dH:Int:=2 ^ min (Int.toNat 32) IntKind.u64.bits
def dLow (n:Int):Int:=IntKind.u64.wrap ((BitVec.ofInt IntKind.u64.bits n &&& BitVec.ofInt IntKind.u64.bits 4294967295).toNat:Int)
def dY (y:Int):Int:=IntKind.u64.wrap (y*dP y)
def dY1 (y:Int):Int:=(dY y).fdiv dH
def dY0 (y:Int):Int:=dLow (dY y)
def dU32 (hi lo y:Int):Int:=IntKind.u64.wrap ((BitVec.ofInt IntKind.u64.bits (IntKind.u64.wrap (hi*dP y)) ||| BitVec.ofInt IntKind.u64.bits (lo.fdiv (2 ^ min (IntKind.u64.wrap (64 - dS y)).toNat IntKind.u64.bits))).toNat:Int)
def dU10 (lo y:Int):Int:=IntKind.u64.wrap (lo*dP y)
def dU1 (lo y:Int):Int:=(dU10 lo y).fdiv dH
def dU0 (lo y:Int):Int:=dLow (dU10 lo y)
def dq (u y:Int):Int:=IntKind.u64.wrap (u.tdiv (dY1 y))
def dr (u y:Int):Int:=IntKind.u64.wrap (u - IntKind.u64.wrap (dq u y*dY1 y))
def dStep (u y d:Int):Int:=lq (dq u y) (dr u y) (dY1 y) (dY0 y) d
def dStepNeed (u y d:Int):Prop:=lneed (dq u y) (dr u y) (dY1 y) (dY0 y) d
def dLeft (u y d:Int):Int:=IntKind.u64.wrap (IntKind.u64.wrap (IntKind.u64.wrap (u*4294967296)+d) - IntKind.u64.wrap (dStep u y d*dY y))
def dU21 (hi lo y:Int):Int:=dLeft (dU32 hi lo y) y (dU1 lo y)
def dQuo (hi lo y:Int):Int:=bif hi==0 then IntKind.u64.wrap (lo.tdiv y) else IntKind.u64.wrap (IntKind.u64.wrap (dStep (dU32 hi lo y) y (dU1 lo y)*4294967296)+dStep (dU21 hi lo y) y (dU0 lo y))
def dRem (hi lo y:Int):Int:=bif hi==0 then lo.tmod y else (dLeft (dU21 hi lo y) y (dU0 lo y)).fdiv (dP y)
def dNeed (hi lo y:Int):Prop:=
 ((y==0)=true->False)/\(decide (y<=hi)=true->False)/\((hi==0)=true->y≠0/\y≠0)/\((!(hi==0))=true->(0<=y/\y<=18446744073709551615)/\0<=dS y/\(0<=dS y/\0<=IntKind.u64.wrap (64 - dS y))/\0<=dS y /\
  dY1 y≠0/\dStepNeed (dU32 hi lo y) y (dU1 lo y)/\dY1 y≠0/\dStepNeed (dU21 hi lo y) y (dU0 lo y)/\0<=dS y)
end Go.Eng
namespace Go.Eng
theorem bitLenAux_bounds:∀ (f x:Nat),x<2 ^ f->0<x->2 ^ (Lib.bitLenAux f x - 1)<=x/\x<2 ^ (Lib.bitLenAux f x)/\1<=Lib.bitLenAux f x
 | 0,x,h,h0=>by simp at h; omega
 | f+1,x,h,h0=>by
  simp only [Lib.bitLenAux,if_neg (show ¬ x=0 by omega)]
  rw [Nat.pow_succ] at h
  by_cases hx:x / 2=0
  .have:x=1:=by omega
   subst this
   have hz:Lib.bitLenAux f (1 / 2)=0:=by cases f <;> simp [Lib.bitLenAux]
   rw [hz]; simp
  .obtain ⟨h1,h2,h3⟩:=bitLenAux_bounds f (x / 2) (by omega) (by omega)
   obtain ⟨k,hk⟩:∃ k,Lib.bitLenAux f (x / 2)=k+1:=⟨_,(Nat.sub_add_cancel h3).symm⟩
   rw [hk] at h1 h2 ⊢
   rw [show 1+(k+1) - 1=k+1 from by omega,show 1+(k+1)=(k+1)+1 from by omega]
   rw [show k+1 - 1=k from rfl] at h1
   rw [Nat.pow_succ] at h2 ⊢
   rw [Nat.pow_succ]
   refine ⟨by omega,by rw [Nat.pow_succ]; omega,by omega⟩
theorem bitLen_bounds (x:Nat) (h:x<2 ^ 64) (h0:0<x):2 ^ (Lib.bitLen x - 1)<=x/\x<2 ^ (Lib.bitLen x)/\1<=Lib.bitLen x:=bitLenAux_bounds 64 x h h0
theorem dLow_eq (n:Nat) (h:n<18446744073709551616):dLow (n:Int)=((n % 4294967296:Nat):Int):=by
 have h1:=bits_and_u64_nat n 4294967295 h (by omega)
 have e:n &&& 4294967295=n % 4294967296:=Nat.and_two_pow_sub_one_eq_mod n 32
 rw [e] at h1
 exact h1
theorem dOr_eq (a b:Nat) (ha:a<18446744073709551616) (hb:b<18446744073709551616):IntKind.u64.wrap ((BitVec.ofInt IntKind.u64.bits (a:Int) ||| BitVec.ofInt IntKind.u64.bits (b:Int)).toNat:Int)=((a ||| b:Nat):Int):=bits_or_u64_nat a b ha hb
theorem dH_eq:dH=4294967296:=rfl
theorem step_ok {y Y u d:Int} (hy:dY y=Y) (hY:9223372036854775808<=Y) (hY':Y<18446744073709551616) (hu:0<=u) (hu':u<Y) (hd:0<=d) (hd':d<4294967296):
  dStep u y d=(u*4294967296+d) / Y/\dStepNeed u y d/\dLeft u y d=(u*4294967296+d) % Y/\dY1 y≠0:=by
 have h1:dY1 y=Y / 4294967296:=by unfold dY1; rw [hy,dH_eq,Int.fdiv_eq_ediv_of_nonneg _ (by omega)]
 have h0:dY0 y=Y % 4294967296:=by
  unfold dY0; rw [hy]
  have:=dLow_eq Y.toNat (by omega)
  rw [Int.toNat_of_nonneg (by omega)] at this
  rw [this]; omega
 have hp:0<Y / 4294967296:=by omega
 have hq:dq u y=u / (Y / 4294967296):=by
  unfold dq; rw [h1,Int.tdiv_eq_ediv_of_nonneg hu]
  have a1:=Int.ediv_nonneg hu (show 0<=Y / 4294967296 by omega)
  have a2:u / (Y / 4294967296)<=u:=Int.ediv_le_self _ hu
  exact wrapU a1 (by omega)
 have hdm:=Int.mul_ediv_add_emod u (Y / 4294967296)
 have hm0:=Int.emod_nonneg u (show Y / 4294967296≠0 by omega)
 have hc:=Int.mul_comm (Y / 4294967296) (u / (Y / 4294967296))
 have hn:0<=u / (Y / 4294967296)*(Y / 4294967296):=Int.mul_nonneg (Int.ediv_nonneg hu (by omega)) (by omega)
 have hr:dr u y=u % (Y / 4294967296):=by
  unfold dr; rw [hq,h1,wrapU hn (by omega),wrapU (by omega) (by omega)]; omega
 have main:=lq_spec (u:=u) (y1:=Y / 4294967296) (y0:=Y % 4294967296) (d:=d) hY hY' (by omega) (by omega) (by omega) hu hu' hd hd'
 have hs:dStep u y d=(u*4294967296+d) / Y:=by unfold dStep; rw [hq,hr,h1,h0]; exact main.1
 refine ⟨hs,by unfold dStepNeed; rw [hq,hr,h1,h0]; exact main.2,?_,by omega⟩
 unfold dLeft
 rw [hs,hy]
 have e1:=Int.mul_ediv_add_emod (u*4294967296+d) Y
 have e2:=Int.mul_comm Y ((u*4294967296+d) / Y)
 have e3:=Int.emod_nonneg (u*4294967296+d) (show Y≠0 by omega)
 have e4:=Int.emod_lt_of_pos (u*4294967296+d) (show 0<Y by omega)
 rw [IntKind.wrap_u64,IntKind.wrap_u64,IntKind.wrap_u64,IntKind.wrap_u64]
 omega
theorem div_spec (h l z:Nat) (hz:h<z) (hz':z<18446744073709551616) (hl:l<18446744073709551616):
  dNeed h l z/\dQuo h l z=(h*18446744073709551616+l) / z/\dRem h l z=(h*18446744073709551616+l) % z:=by
 by_cases hh:h=0
 .subst hh
  have e:(((0:Nat):Int)==0)=true:=rfl
  refine ⟨⟨?_,?_,?_,?_⟩,?_,?_⟩
  .simp; omega
  .simp; omega
  .intro _; constructor <;> omega
  .rw [e]; intro h; cases h
  .unfold dQuo
   rw [e,cond_true,Int.tdiv_eq_ediv_of_nonneg (by omega)]
   have a1:=Int.ediv_nonneg (show (0:Int)<=l by omega) (show (0:Int)<=z by omega)
   have a2:(l:Int) / z<=l:=Int.ediv_le_self _ (by omega)
   rw [wrapU a1 (by omega)]; simp
  .unfold dRem
   rw [e,cond_true,Int.tmod_eq_emod_of_nonneg (by omega)]; simp
 .have e:(((h:Nat):Int)==0)=false:=by simp; omega
  obtain ⟨b1,b2,b3⟩:=bitLen_bounds z hz' (by omega)
  have b4:=Lib.bitLen_le z 64 (by omega) hz'
  generalize hL:Lib.bitLen z=L at *
  have s1:dS z=((64 - L:Nat):Int):=by
   unfold dS
   rw [Int.toNat_natCast,hL,wrapU (by omega) (by omega)]; omega
  have s2:dP z=((2 ^ (64 - L):Nat):Int):=by
   unfold dP
   rw [s1,Int.toNat_natCast,show IntKind.u64.bits=64 from rfl,Nat.min_eq_left (by omega)]
   simp
  have s3:IntKind.u64.wrap (64 - dS z)=(L:Int):=by rw [s1,wrapU (by omega) (by omega)]; omega
  have s4:((2:Int) ^ min (IntKind.u64.wrap (64 - dS z)).toNat IntKind.u64.bits)=((2 ^ L:Nat):Int):=by
   rw [s3,Int.toNat_natCast,show IntKind.u64.bits=64 from rfl,Nat.min_eq_left b4]
   simp
  have pr:2 ^ L*2 ^ (64 - L)=18446744073709551616:=by rw [<- Nat.pow_add,show L+(64 - L)=64 by omega]
  have pr2:2 ^ (L - 1)*2 ^ (64 - L)=9223372036854775808:=by rw [<- Nat.pow_add,show L - 1+(64 - L)=63 by omega]
  have hPpos:0<2 ^ (64 - L):=Nat.pow_pos (by omega)
  have hRpos:0<2 ^ L:=Nat.pow_pos (by omega)
  have hlt2:∀ x:Nat,x<2 ^ (64 - L)->2 ^ (64 - L)*h+x=2 ^ (64 - L)*h ||| x:=fun x hx=>Nat.two_pow_add_eq_or_of_lt hx h
  generalize hPn:2 ^ (64 - L)=Pn at *
  generalize hR:2 ^ L=R at *
  generalize hR1:2 ^ (L - 1)=R1 at *
  have Y1:9223372036854775808<=z*Pn:=by rw [<- pr2]; exact Nat.mul_le_mul_right _ b1
  have Y2:z*Pn<18446744073709551616:=by rw [<- pr]; exact Nat.mul_lt_mul_of_pos_right b2 hPpos
  have hYe:dY z=((z*Pn:Nat):Int):=by
   unfold dY
   rw [s2,<- Int.natCast_mul,wrapU (by omega) (by omega)]
  have hhP:h*Pn<z*Pn:=Nat.mul_lt_mul_of_pos_right hz hPpos
  have hlR:l / R<Pn:=by rw [Nat.div_lt_iff_lt_mul hRpos,Nat.mul_comm,pr]; exact hl
  have hU:dU32 h l z=((h*Pn+l / R:Nat):Int):=by
   unfold dU32
   rw [s4,s2,Int.fdiv_eq_ediv_of_nonneg _ (by omega),<- Int.natCast_mul,<- Int.natCast_ediv,wrapU (n:=((h*Pn:Nat):Int)) (by omega) (by omega),dOr_eq _ _ (by omega) (Nat.lt_of_le_of_lt (Nat.div_le_self _ _) hl)]
   have:=hlt2 (l / R) hlR
   rw [Nat.mul_comm Pn h] at this
   rw [this]
  have hlm:=Nat.div_add_mod l R
  have hlm2:=Nat.mod_lt l hRpos
  have hlP:l*Pn=l / R*18446744073709551616+l % R*Pn:=by
   conv=>lhs; rw [<- hlm]
   rw [Nat.add_mul,Nat.mul_comm R,Nat.mul_assoc,pr]
  have hlP2:l % R*Pn<18446744073709551616:=by rw [<- pr]; exact Nat.mul_lt_mul_of_pos_right hlm2 hPpos
  have hU10:dU10 l z=((l % R*Pn:Nat):Int):=by
   unfold dU10
   rw [s2,<- Int.natCast_mul,hlP,IntKind.wrap_u64]
   omega
  generalize hV:l % R*Pn=V at *
  generalize hUn:h*Pn+l / R=U at *
  have hN:(h*18446744073709551616+l)*Pn=U*18446744073709551616+V:=by
   rw [Nat.add_mul,hlP,<- hUn,Nat.add_mul,Nat.mul_assoc,Nat.mul_comm 18446744073709551616 Pn,<- Nat.mul_assoc]; omega
  have hUY:U<z*Pn:=by
   have:(h*18446744073709551616+l)*Pn<z*18446744073709551616*Pn:=Nat.mul_lt_mul_of_pos_right (by omega) hPpos
   rw [hN,Nat.mul_assoc,Nat.mul_comm 18446744073709551616 Pn,<- Nat.mul_assoc] at this
   omega
  generalize hY:z*Pn=Y at *
  have hU1:dU1 l z=((V / 4294967296:Nat):Int):=by
   unfold dU1; rw [hU10,dH_eq,Int.fdiv_eq_ediv_of_nonneg _ (by omega)]; omega
  have hU0:dU0 l z=((V % 4294967296:Nat):Int):=by unfold dU0; rw [hU10,dLow_eq _ hlP2]
  obtain ⟨p1,p2,p3,p4⟩:=step_ok (u:=(U:Int)) (d:=((V / 4294967296:Nat):Int)) hYe (by omega) (by omega) (by omega) (by omega) (by omega) (by omega)
  have hU21:dU21 h l z=((U:Int)*4294967296+((V / 4294967296:Nat):Int)) % (Y:Int):=by unfold dU21; rw [hU,hU1]; exact p3
  have e1:=Int.mul_ediv_add_emod ((U:Int)*4294967296+((V / 4294967296:Nat):Int)) (Y:Int)
  have e3:=Int.emod_nonneg ((U:Int)*4294967296+((V / 4294967296:Nat):Int)) (show (Y:Int)≠0 by omega)
  have e4:=Int.emod_lt_of_pos ((U:Int)*4294967296+((V / 4294967296:Nat):Int)) (show (0:Int)<Y by omega)
  have a0:=Int.ediv_nonneg (show (0:Int)<=(U:Int)*4294967296+((V / 4294967296:Nat):Int) by omega) (show (0:Int)<=Y by omega)
  have a1:((U:Int)*4294967296+((V / 4294967296:Nat):Int)) / Y<4294967296:=Int.ediv_lt_of_lt_mul (by omega) (by omega)
  rw [<- hU21] at e1 e3 e4
  obtain ⟨q1,q2,q3,_⟩:=step_ok (u:=dU21 h l z) (d:=((V % 4294967296:Nat):Int)) hYe (by omega) (by omega) e3 e4 (by omega) (by omega)
  have f1:=Int.mul_ediv_add_emod (dU21 h l z*4294967296+((V % 4294967296:Nat):Int)) (Y:Int)
  have f3:=Int.emod_nonneg (dU21 h l z*4294967296+((V % 4294967296:Nat):Int)) (show (Y:Int)≠0 by omega)
  have f4:=Int.emod_lt_of_pos (dU21 h l z*4294967296+((V % 4294967296:Nat):Int)) (show (0:Int)<Y by omega)
  have c0:=Int.ediv_nonneg (show (0:Int)<=dU21 h l z*4294967296+((V % 4294967296:Nat):Int) by omega) (show (0:Int)<=Y by omega)
  have c1:(dU21 h l z*4294967296+((V % 4294967296:Nat):Int)) / Y<4294967296:=Int.ediv_lt_of_lt_mul (by omega) (by omega)
  generalize hA:((U:Int)*4294967296+((V / 4294967296:Nat):Int)) / (Y:Int)=A at *
  generalize hB:(dU21 h l z*4294967296+((V % 4294967296:Nat):Int)) / (Y:Int)=B at *
  generalize hM:(dU21 h l z*4294967296+((V % 4294967296:Nat):Int)) % (Y:Int)=M at *
  have hNI:((h:Int)*18446744073709551616+l)*Pn=(U:Int)*18446744073709551616+V:=by
   have:=congrArg (fun n:Nat=>(n:Int)) hN
   simp only [Int.natCast_mul,Int.natCast_add,Int.cast_ofNat_Int] at this
   exact this
  have hYI:(z:Int)*Pn=Y:=by rw [<- Int.natCast_mul,hY]
  have tot:((h:Int)*18446744073709551616+l)*Pn=Y*(A*4294967296+B)+M:=by
   rw [hNI,Int.mul_add,<- Int.mul_assoc]
   omega
  have hdiv:((h:Int)*18446744073709551616+l) / z=A*4294967296+B:=by
   have k1:((h:Int)*18446744073709551616+l) / z=((h:Int)*18446744073709551616+l)*Pn / (z*Pn):=(Int.mul_ediv_mul_of_pos_left _ _ (by omega)).symm
   rw [k1,hYI,tot,Int.mul_add_ediv_left _ _ (by omega),Int.ediv_eq_zero_of_lt f3 f4]; omega
  have hmod:((h:Int)*18446744073709551616+l) % z*Pn=M:=by
   have k1:((h:Int)*18446744073709551616+l) % z*Pn=(((h:Int)*18446744073709551616+l)*Pn) % (z*Pn):=by
    rw [Int.mul_comm _ (Pn:Int),Int.mul_comm _ (Pn:Int),Int.mul_comm _ (Pn:Int),Int.mul_emod_mul_of_pos _ _ (by omega)]
   rw [k1,hYI,tot,Int.mul_add_emod_self_left,Int.emod_eq_of_lt f3 f4]
  refine ⟨⟨?_,?_,?_,fun _=>⟨⟨by omega,by omega⟩,by omega,⟨by omega,by rw [s3]; omega⟩,by omega,p4,?_,p4,?_,by omega⟩⟩,?_,?_⟩
  .simp; omega
  .simp; omega
  .rw [e]; intro h; cases h
  .rw [hU,hU1]; exact p2
  .rw [hU0]; exact q2
  .unfold dQuo
   rw [e,cond_false,hU,hU1,p1,hU0,q1,hdiv,wrapU (n:=A*4294967296) (by omega) (by omega),wrapU (by omega) (by omega)]
  .unfold dRem
   rw [e,cond_false,hU0,q3,s2,Int.fdiv_eq_ediv_of_nonneg _ (by omega),<- hmod]
   exact Int.mul_ediv_cancel _ (by omega)
end Go.Eng
namespace Go.Ar
open Go
def two64:Int:=18446744073709551616
def okF (a:Int):Bool:=decide (-4503599627370496<=a)&&decide (a<=4503599627370496)
def rd (n d:Int) (up:Bool):Int:=bif up then -(-n / d) else n / d
def fitV (v:Int):Int:=bif okF v then v else 0
def fitE (v:Int):Int:=bif okF v then 0 else 6
def sg (a b:Int):Int:=bif decide (b<0) then -a else a
def okS (a n d:Int):Bool:=okF a&&(decide (-4611686018427387904<=n)&&decide (n<=4611686018427387904)&&decide (1<=d)&&decide (d<=4611686018427387904))
def xC (a:Int):Int:=bif bif decide (a < -4503599627370496) then true else decide (a>4503599627370496) then 2 else 0
def xAll (a b:Int):Int:=bif !(xC a != 0)&&!(xC b != 0) then 0 else bif xC a != 0 then xC a else xC b
def xSz (a:Int):Int:=bif decide (a<0) then IntKind.u64.wrap (IntKind.u64.wrap (IntKind.i64.wrap (0 - IntKind.i64.wrap (a+1)))+1) else IntKind.u64.wrap a
def xHi (p:Int):Int:=p / two64
def xLo (p:Int):Int:=p % two64
def xNo (p d:Int):Bool:=decide (xHi p>=d)
def xN (p d:Int) (up neg:Bool):Int:=bif xNo p d then 0 else
 bif bif !(up==neg) then decide ((xHi p*two64+xLo p) % d>0) else false then IntKind.u64.wrap ((xHi p*two64+xLo p) / d+1) else (xHi p*two64+xLo p) / d
def xBig (p d:Int) (up neg:Bool):Bool:=bif !(bif xNo p d then false else true) then true else decide (xN p d up neg>4503599627370496)
def xV (p d:Int) (up neg:Bool):Int:=bif xBig p d up neg then 0 else bif neg then IntKind.i64.wrap (0 - IntKind.i64.wrap (xN p d up neg)) else IntKind.i64.wrap (xN p d up neg)
def xE (p d:Int) (up neg:Bool):Int:=bif xBig p d up neg then 6 else 0
def xNeg (a b:Int):Bool:=!(decide (a<0)==decide (b<0))
def xIn (a b:Int):Prop:=decide (0<=a/\a<18446744073709551616/\0<=b/\b<18446744073709551616)=true
def xDiv (p d:Int):Prop:=decide (0<=xHi p/\xHi p<d/\d<18446744073709551616/\0<=xLo p/\xLo p<18446744073709551616)=true
theorem i64w {n:Int} (h0:-9223372036854775808<=n) (h1:n<9223372036854775808):IntKind.i64.wrap n=n:=by rw [IntKind.wrap_i64]; omega
theorem u64w {n:Int} (h0:0<=n) (h1:n<18446744073709551616):IntKind.u64.wrap n=n:=by rw [IntKind.wrap_u64]; omega
theorem xSz_eq {a:Int} (h0:-9223372036854775808<=a) (h1:a<9223372036854775808):xSz a=sg a a:=by
 unfold xSz sg
 by_cases h:a<0
 .simp only [h,decide_true,cond_true]
  rw [i64w (n:=a+1) (by omega) (by omega),i64w (n:=0 - (a+1)) (by omega) (by omega),u64w (n:=0 - (a+1)) (by omega) (by omega),u64w (by omega) (by omega)]
  omega
 .simp only [h,decide_false,cond_false]
  rw [u64w (by omega) (by omega)]
theorem sg_nonneg (a:Int):0<=sg a a:=by
 unfold sg
 by_cases h:a<0
 .simp only [h,decide_true,cond_true]; omega
 .simp only [h,decide_false,cond_false]; omega
theorem okF_iff {a:Int}:okF a=true ↔ -4503599627370496<=a/\a<=4503599627370496:=by simp [okF]
theorem okF_false {a:Int}:okF a=false ↔ a < -4503599627370496\/4503599627370496<a:=by
 rw [<- Bool.not_eq_true,okF_iff]; omega
theorem xC_eq (a:Int):xC a=bif okF a then 0 else 2:=by
 unfold xC
 cases h:okF a with
 | true=>
  have:=okF_iff.1 h
  simp [show ¬ a < -4503599627370496 by omega,show ¬ a>4503599627370496 by omega]
 | false=>
  rcases okF_false.1 h with h|h
  .simp [h]
  .simp [show ¬ a < -4503599627370496 by omega,h]
theorem xAll_eq (a b:Int):xAll a b=bif okF a&&okF b then 0 else 2:=by
 unfold xAll
 rw [xC_eq,xC_eq]
 cases okF a <;> cases okF b <;> rfl
theorem neg_div {p d:Int} (hd:0<d):-p / d=-(p / d) - (if 0<p % d then 1 else 0):=by
 have h1:=Int.mul_ediv_add_emod p d
 have h2:=Int.emod_nonneg p (show d≠0 by omega)
 have h3:=Int.emod_lt_of_pos p hd
 split
 .have h4:(-p) / d=-(p / d) - 1/\(-p) % d=d - p % d:=by
   rw [Int.ediv_emod_unique hd]
   refine ⟨?_,by omega,by omega⟩
   rw [Int.mul_sub,Int.mul_neg]
   omega
  exact h4.1
 .have:p % d=0:=by omega
  have h4:(-p) / d=-(p / d)/\(-p) % d=0:=by
   rw [Int.ediv_emod_unique hd]
   refine ⟨?_,by omega,by omega⟩
   rw [Int.mul_neg]
   omega
  omega
theorem xN_eq {p d:Int} (hp:0<=p) (hp':p<340282366920938463463374607431768211456) (hd:0<d) (hd':d<18446744073709551616) (up neg:Bool) (n:Int) (hn:n=bif neg then -p else p) (hx:p<18446744073709551615*d\/(!(up==neg))=false):
  xV p d up neg=fitV (rd n d up)/\xE p d up neg=fitE (rd n d up)/\(xNo p d=false->xDiv p d):=by
 have e1:xHi p*two64+xLo p=p:=by unfold xHi xLo; have:=Int.mul_ediv_add_emod p two64; rw [Int.mul_comm] at this; exact this
 have l0:0<=xLo p:=Int.emod_nonneg p (by decide)
 have l1:xLo p<18446744073709551616:=Int.emod_lt_of_pos p (by decide)
 have h0:0<=xHi p:=Int.ediv_nonneg hp (by decide)
 have q0:0<=p / d:=Int.ediv_nonneg hp (by omega)
 have r0:=Int.emod_nonneg p (show d≠0 by omega)
 have rv:rd n d up=bif neg then -(p / d+(if (!(up==neg))=true/\0<p % d then 1 else 0)) else p / d+(if (!(up==neg))=true/\0<p % d then 1 else 0):=by
  subst hn
  unfold rd
  cases neg <;> cases up <;> simp [neg_div hd] <;> split <;> omega
 by_cases hno:xHi p>=d
 .-- the quotient does not fit
  have e2:xNo p d=true:=by simp [xNo,hno]
  have big:18446744073709551616<=p / d:=by
   rw [Int.le_ediv_iff_mul_le hd]
   have h2:d*two64<=xHi p*two64:=Int.mul_le_mul_of_nonneg_right hno (by decide)
   have h3:(18446744073709551616:Int)*d=d*two64:=by rw [Int.mul_comm]; rfl
   omega
  have hb:xBig p d up neg=true:=by simp [xBig,e2]
  have hf:okF (rd n d up)=false:=by
   rw [okF_false,rv]
   cases neg <;> simp <;> split <;> omega
  refine ⟨by simp [xV,hb,fitV,hf],by simp [xE,hb,fitE,hf],fun h=>by rw [e2] at h; cases h⟩
 .have e2:xNo p d=false:=by simp [xNo]; omega
  have hlt:p<d*18446744073709551616:=by
   have h2:(xHi p+1)*two64<=d*two64:=Int.mul_le_mul_of_nonneg_right (by omega) (by decide)
   rw [Int.add_mul] at h2
   unfold two64 at *
   omega
  have q1:p / d<18446744073709551616:=by
   rw [Int.ediv_lt_iff_lt_mul hd]
   rw [Int.mul_comm]; exact hlt
  have ex:xV p d up neg=fitV (rd n d up)/\xE p d up neg=fitE (rd n d up):=by
   have hN:xN p d up neg=p / d+(if (!(up==neg))=true/\0<p % d then 1 else 0):=by
    unfold xN
    rw [e2,e1]
    cases hu:!(up==neg) with
    | false=>simp
    | true=>
     by_cases hr:0<p % d
     .simp only [cond_true,cond_false,hr,decide_true,gt_iff_lt,and_self,if_true]
      rw [u64w (by omega)]
      have:p / d≠18446744073709551615:=by
       intro hq
       have h5:p / d*d<=p:=Int.ediv_mul_le p (by omega)
       rw [hq] at h5
       rcases hx with hx|hx
       .omega
       .rw [hu] at hx; cases hx
      omega
     .simp [hr]
   generalize hk:p / d+(if (!(up==neg))=true/\0<p % d then 1 else 0)=k at hN rv
   have k0:0<=k:=by rw [<- hk]; split <;> omega
   unfold xV xE xBig
   rw [e2,hN,rv]
   by_cases hb:k>4503599627370496
   .have hf:okF (bif neg then -k else k)=false:=by
     rw [okF_false]
     cases neg <;> simp <;> omega
    simp [hb,fitV,fitE,hf]
   .have hf:okF (bif neg then -k else k)=true:=by
     rw [okF_iff]
     cases neg <;> simp <;> omega
    simp only [hb,decide_false,cond_true,cond_false,Bool.not_true,fitV,fitE,hf]
    refine ⟨?_,trivial⟩
    rw [i64w (n:=k) (by omega) (by omega),i64w (n:=0 - k) (by omega) (by omega)]
    cases neg <;> simp
  refine ⟨ex.1,ex.2,fun _=>?_⟩
  unfold xDiv
  rw [decide_eq_true_eq]
  exact ⟨h0,by omega,hd',l0,l1⟩
def xMulV (a b:Int) (up:Bool):Int:=bif xAll a b != 0 then 0 else xV (xSz a*xSz b) 4294967296 up (xNeg a b)
def xMulE (a b:Int) (up:Bool):Int:=bif xAll a b != 0 then xAll a b else xE (xSz a*xSz b) 4294967296 up (xNeg a b)
def xMulN (a b:Int):Prop:=(!(xAll a b != 0))=true->b=b/\xIn (xSz a) (xSz b)/\((!xNo (xSz a*xSz b) 4294967296)=true->xDiv (xSz a*xSz b) 4294967296)
def xDivV (a b:Int) (up:Bool):Int:=bif xAll a b != 0 then 0 else bif b==0 then 0 else xV (xSz a*4294967296) (xSz b) up (xNeg a b)
def xDivE (a b:Int) (up:Bool):Int:=bif xAll a b != 0 then xAll a b else bif b==0 then 7 else xE (xSz a*4294967296) (xSz b) up (xNeg a b)
def xDivN (a b:Int):Prop:=(!(xAll a b != 0))=true->(!(b==0))=true->b=b/\xIn (xSz a) 4294967296/\b=b/\((!xNo (xSz a*4294967296) (xSz b))=true->xDiv (xSz a*4294967296) (xSz b))
def xOkS (a n d:Int):Bool:=bif xC a != 0 then true else bif decide (n < -4611686018427387904) then true else bif decide (n>4611686018427387904) then true else bif decide (d<1) then true else decide (d>4611686018427387904)
def xScV (a n d:Int) (up:Bool):Int:=bif xOkS a n d then 0 else xV (xSz a*xSz n) (IntKind.u64.wrap d) up (xNeg a n)
def xScE (a n d:Int) (up:Bool):Int:=bif xOkS a n d then 2 else xE (xSz a*xSz n) (IntKind.u64.wrap d) up (xNeg a n)
def xScN (a n d:Int):Prop:=(!xOkS a n d)=true->(d=d/\n=n)/\d=d/\xIn (xSz a) (xSz n)/\d=d/\((!xNo (xSz a*xSz n) (IntKind.u64.wrap d))=true->xDiv (xSz a*xSz n) (IntKind.u64.wrap d))
theorem sg_cases (a:Int):(a<0/\sg a a=-a)\/(0<=a/\sg a a=a):=by
 unfold sg
 by_cases h:a<0
 .left; simp [h]
 .right; simp [h]; omega
theorem xNeg_mul (a b:Int):a*b=bif xNeg a b then -(sg a a*sg b b) else sg a a*sg b b:=by
 unfold xNeg sg
 by_cases h:a<0 <;> by_cases k:b<0 <;> simp [h,k,Int.neg_mul,Int.mul_neg]
theorem xDiv_all {p d:Int} (hp:0<=p) (hd':d<18446744073709551616) (h:xNo p d=false):xDiv p d:=by
 unfold xDiv
 rw [decide_eq_true_eq]
 simp [xNo] at h
 exact ⟨Int.ediv_nonneg hp (by decide),by omega,hd',Int.emod_nonneg p (by decide),Int.emod_lt_of_pos p (by decide)⟩
theorem xAll_ok {a b:Int} (h:(!(xAll a b != 0))=true):okF a=true/\okF b=true:=by
 rw [xAll_eq] at h
 cases ha:okF a <;> cases hb:okF b <;> simp [ha,hb] at h ⊢
theorem xIn_of {a b:Int} (ha:0<=a) (ha':a<18446744073709551616) (hb:0<=b) (hb':b<18446744073709551616):xIn a b:=by
 unfold xIn; rw [decide_eq_true_eq]; exact ⟨ha,ha',hb,hb'⟩
theorem sz_of {a:Int} (h:okF a=true):xSz a=sg a a/\0<=sg a a/\sg a a<=4503599627370496:=by
 have h:=okF_iff.1 h
 refine ⟨xSz_eq (by omega) (by omega),sg_nonneg a,?_⟩
 rcases sg_cases a with ⟨_,e⟩|⟨_,e⟩ <;> omega
theorem xMul_need (a b:Int):xMulN a b:=by
 intro h
 obtain ⟨ha,hb⟩:=xAll_ok h
 obtain ⟨a1,a2,a3⟩:=sz_of ha
 obtain ⟨b1,b2,b3⟩:=sz_of hb
 rw [a1,b1]
 refine ⟨rfl,xIn_of a2 (by omega) b2 (by omega),fun hn=>?_⟩
 exact xDiv_all (Int.mul_nonneg a2 b2) (by decide) (by simpa using hn)
theorem xDiv_need (a b:Int):xDivN a b:=by
 intro h h0
 obtain ⟨ha,hb⟩:=xAll_ok h
 obtain ⟨a1,a2,a3⟩:=sz_of ha
 obtain ⟨b1,b2,b3⟩:=sz_of hb
 rw [a1,b1]
 refine ⟨rfl,xIn_of a2 (by omega) (by omega) (by omega),rfl,fun hn=>?_⟩
 exact xDiv_all (by omega) (by omega) (by simpa using hn)
theorem xOkS_eq (a n d:Int):xOkS a n d=!okS a n d:=by
 unfold xOkS okS
 rw [xC_eq]
 rw [Bool.eq_iff_iff]
 cases okF a with
 | false=>simp
 | true=>
  simp only [cond_true,bne_self_eq_false,cond_false,Bool.true_and,Bool.not_eq_true',Bool.and_eq_false_iff,decide_eq_false_iff_not]
  by_cases h1:n < -4611686018427387904
  .simp [h1]
  .by_cases h2:n>4611686018427387904
   .simp [h1,h2]
   .by_cases h3:d<1
    .simp [h1,h2,h3]
    .simp [h1,h2,h3] <;> omega
theorem xSc_need (a n d:Int):xScN a n d:=by
 intro h
 rw [xOkS_eq,Bool.not_not] at h
 simp only [okS,Bool.and_eq_true,decide_eq_true_eq] at h
 obtain ⟨ha,⟨⟨n1,n2⟩,d1⟩,d2⟩:=h
 obtain ⟨a1,a2,a3⟩:=sz_of ha
 have e1:xSz n=sg n n:=xSz_eq (by omega) (by omega)
 have e2:=sg_cases n
 rw [a1,e1,u64w (n:=d) (by omega) (by omega)]
 refine ⟨⟨rfl,rfl⟩,rfl,xIn_of a2 (by omega) (by omega) (by omega),rfl,fun hn=>?_⟩
 exact xDiv_all (Int.mul_nonneg a2 (by omega)) (by omega) (by simpa using hn)
theorem fitE_cases (v:Int):(fitE v=0/\okF v=true/\fitV v=v)\/(fitE v=6/\okF v=false/\fitV v=0):=by
 unfold fitE fitV
 cases okF v <;> simp
def sqQ (i r:Int):Int:=IntKind.u64.wrap ↑(BitVec.ofInt IntKind.u64.bits r ||| BitVec.ofInt IntKind.u64.bits (IntKind.u64.wrap (1*2 ^ min (IntKind.i64.wrap (42 - i)).toNat IntKind.u64.bits))).toNat
def sqLe (H L t:Int):Bool:=bif decide (xHi (t*t)<H) then true else bif xHi (t*t)==H then decide (xLo (t*t)<=L) else false
def sqStep (H L i r:Int):Int:=bif sqLe H L (sqQ i r) then sqQ i r else r
def sqFin (H L:Int):Nat->Int->Int->Int
 | 0,_,r=>r
 | n+1,i,r=>sqFin H L n (IntKind.i64.wrap (i+1)) (sqStep H L i r)
theorem u64_range (n:Int):0<=IntKind.u64.wrap n/\IntKind.u64.wrap n<18446744073709551616:=by
 rw [IntKind.wrap_u64]; omega
end Go.Ar
