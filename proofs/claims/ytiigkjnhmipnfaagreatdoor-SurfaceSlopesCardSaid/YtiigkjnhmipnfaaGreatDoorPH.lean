/- What is proved: a law of surfaces returns true, whatever the input (part 8 of 21). No conditions beyond those of the row. -/
import Derived.Test.YtiigkjnhmipnfaaGreatDoorPG
import Derived.Laws.Bits64b
import Derived.Lib.BitFns
set_option linter.unusedVariables false
set_option linter.unusedSimpArgs false
set_option linter.unusedSectionVars false
namespace Go.Eng
open Go
noncomputable section
abbrev NSpec := List AV → Hp → Option (Nd × AV × List ABody)
structure NOk (P : Program) (glob : Nat → Option Nat) (hG : Hp) (f : FuncId) (spec : NSpec) : Prop where
 call : ∀ args nd v bs h, spec args h = some (nd, v, bs) → globsSame hG h hG.size = true → CallOk (mkM P glob hG [] noExt) f args h ⟨nd, [⟨.tt, v, pushAll h bs⟩]⟩
 fn : ∃ fn : Func, P.funcs[f]? = some fn ∧ fn.body.isSome = true
def hN (s : HSpec) : NSpec := fun args h => match s args h with
 | some (nd, v) => some (nd, v, [])
 | none => none
theorem HOk.n {P : Program} {glob : Nat → Option Nat} {hG : Hp} {f : FuncId} {s : HSpec} (g : HOk P glob hG f s) : NOk P glob hG f (hN s) := by
 refine ⟨fun args nd v bs h e same => ?_, g.fn⟩
 unfold hN at e
 split at e
 ·rename_i nd' v' h1
  cases e
  exact g.call args nd v h h1 same
 ·cases e
def conN (hG : Hp) : List (FuncId × NSpec) → FuncId → List AV → Hp → Option (Nd × AV × List ABody)
 | [], _, _, _ => none
 | (g, s) :: l, f, args, h => match Nat.beq f g with
  | true => match s args h with
   | some x => match globsSame hG h hG.size with
    | true => some x
    | false => none
   | none => conN hG l f args h
  | false => conN hG l f args h
theorem conN_some {hG : Hp} : ∀ {l : List (FuncId × NSpec)} {f : FuncId} {args : List AV} {h : Hp} {x : Nd × AV × List ABody}, conN hG l f args h = some x → globsSame hG h hG.size = true ∧ ∃ s, (f, s) ∈ l ∧ s args h = some x
 | [], _, _, _, _, e => by cases e
 | (g, s) :: l, f, args, h, x, e => by
  simp only [conN] at e
  split at e
  ·rename_i hb
   have := Nat.eq_of_beq_eq_true hb
   subst this
   split at e
   ·rename_i hs
    split at e
    ·rename_i hg
     cases e
     exact ⟨hg, s, by simp, hs⟩
    ·cases e
   ·obtain ⟨h2, s', h3, h4⟩ := conN_some e
    exact ⟨h2, s', by simp [h3], h4⟩
  ·obtain ⟨h2, s', h3, h4⟩ := conN_some e
   exact ⟨h2, s', by simp [h3], h4⟩
def mkN (P : Program) (glob : Nat → Option Nat) (hG : Hp) (tbl : List (FuncId × NSpec)) (tt : List (FuncId × TSpec)) (ext : FuncId → List AV → Option (Nd × AV)) : Ctx := { P, glob, con := conN hG tbl, ext, loop := fun _ _ _ => none, two := twoG hG tt }
theorem mkN_ok {P : Program} {glob : Nat → Option Nat} {hG : Hp} (hp : ProgOk P) {tbl : List (FuncId × NSpec)} {tt : List (FuncId × TSpec)} {ext : FuncId → List AV → Option (Nd × AV)} (he : ExtOk P ext) (ht : ∀ x ∈ tbl, NOk P glob hG x.1 x.2) (h2 : ∀ x ∈ tt, TOk P glob hG x.1 x.2) : CtxOk (mkN P glob hG tbl tt ext) := by
 refine ⟨hp, fun f args h nd v bs e => ?_, he, fun _ _ _ _ e => (by cases e), fun f args h nd p v w e => ?_⟩
 ·obtain ⟨hg, s, h1, h3⟩ := conN_some e
  have g := ht _ h1
  exact ⟨g.call args nd v bs h h3 hg, g.fn⟩
 ·obtain ⟨hg, s, h1, h3⟩ := twoG_some e
  have g := h2 _ h1
  exact ⟨g.call args nd p v w h h3 hg, g.fn⟩
mutual
def tell : AV → AV → Prop
 | .int _ k x, .int _ k' y => k = k' ∧ x = y
 | .bool _ a, .bool _ b => a = b
 | .str _ a, .str _ b => a = b
 | .agg l, .agg m => tellL l m
 | .tuple l, .tuple m => tellL l m
 | .pslice i l _ n, .pslice i' l' _ n' => i = i' ∧ l' ≤ l ∧ n = n'
 | .any _, _ => False
 | a, b => a = b
def tellL : List AV → List AV → Prop
 | [], [] => True
 | a :: l, b :: m => tell a b ∧ tellL l m
 | _, _ => False
end
mutual
theorem tell_rel {σ : Sg} : ∀ (a b : AV) (V : Value), tell a b → VRel σ a V → VRel σ b V
 | .int _ k x, .int _ k' y, V, h, r => by obtain ⟨rfl, rfl⟩ := h; exact r
 | .bool _ a, .bool _ b, V, h, r => by obtain rfl := h; exact r
 | .str _ a, .str _ b, V, h, r => by obtain rfl := h; exact r
 | .pslice i l _ n, .pslice i' l' _ n', V, h, r => by
  obtain ⟨rfl, hl, rfl⟩ := h
  obtain ⟨p, len, c, e1, e2, e3, e4⟩ := r
  exact ⟨p, len, c, e1, e2, Nat.le_trans hl e3, e4.imp (fun h0 => by omega) id⟩
 | .agg l, .agg m, V, h, r => by obtain ⟨K, rfl, hK⟩ := r; exact ⟨K, rfl, tellL_rel l m _ h hK⟩
 | .tuple l, .tuple m, V, h, r => by obtain ⟨K, rfl, hK⟩ := r; exact ⟨K, rfl, tellL_rel l m _ h hK⟩
 | a, b, V, h, r => by
  unfold tell at h
  split at h <;> first
   | (subst h; exact r)
   | exact h.elim
   | (obtain ⟨rfl, rfl⟩ := h; exact r)
   | (
     obtain ⟨rfl, hl, rfl⟩ := h
     obtain ⟨p, len, c, e1, e2, e3, e4⟩ := r
     exact ⟨p, len, c, e1, e2, Nat.le_trans hl e3, e4.imp (fun h0 => by omega) id⟩)
   | (obtain ⟨K, rfl, hK⟩ := r; exact ⟨K, rfl, tellL_rel _ _ _ h hK⟩)
theorem tellL_rel {σ : Sg} : ∀ (l m : List AV) (L : List Value), tellL l m → VRels σ l L → VRels σ m L
 | [], [], L, _, r => r
 | a :: l, b :: m, L, h, r => by
  obtain ⟨v, vs, rfl, h1, h2⟩ := r
  exact ⟨v, vs, rfl, tell_rel a b v h.1 h1, tellL_rel l m vs h.2 h2⟩
 | [], _ :: _, _, h, _ => h.elim
 | _ :: _, [], _, h, _ => h.elim
end
theorem glob_rel {hG : Hp} (ok : hG.ok) (pl : blksPlain hG.size hG.blks = true) {h : Hp} (same : globsSame hG h hG.size = true) {σ : Sg} {W : World} (r : HRel σ h W) : HRel (σ.low hG.size) hG W := by
 have gs := globsSame_get same
 refine ⟨ok, fun i c hg hd => ?_, fun i B N e => ?_, fun i j b c B N M hb hc' hd hd' e1 e2 => ?_⟩
 ·have hi := Hp.get_lt hg
  obtain ⟨b, c', hb, hc', hbc⟩ := gs i hi
  rw [hg] at hc'; cases hc'
  obtain ⟨B, N, o, q1, q2, q3⟩ := r.blk i b hb (by rw [hbc]; exact hd)
  refine ⟨B, N, o, by simp [Sg.low, hi, q1], q2, ?_⟩
  rw [hbc] at q3
  exact q3.low (blksPlain_mem pl c (get_mem hg))
 ·unfold Sg.low at e
  split at e
  ·rename_i hi
   exact ⟨hi, (r.dom i B N e).2⟩
  ·cases e
 ·have hi := Hp.get_lt hb
  have hj := Hp.get_lt hc'
  obtain ⟨b1, b2, p1, p2, p3⟩ := gs i hi
  obtain ⟨c1, c2, q1, q2, q3⟩ := gs j hj
  rw [hb] at p2; cases p2
  rw [hc'] at q2; cases q2
  have := r.inj i j b1 c1 B N M p1 q1 (by rw [p3]; exact hd) (by rw [q3]; exact hd') (Sg.low_sub σ _ _ _ e1) (Sg.low_sub σ _ _ _ e2)
  rw [p3, q3] at this
  exact this
def viewB (ik : IntKind) : List Int → ABody
 | [] => .dead
 | x :: l => .view ((x :: l).map fun n => .int true ik n)
def bodyB (raw : Bool) (ik : IntKind) (xs : List Int) : ABody :=
 match raw with
 | true => .rows ik xs
 | false => viewB ik xs
def viewsH (raw : Bool) (h : Hp) : List (IntKind × List Int) → Hp
 | [] => h
 | (ik, xs) :: l => viewsH raw (h.push0 (bodyB raw ik xs)) l
theorem viewsH_clock {raw : Bool} : ∀ (l : List (IntKind × List Int)) (h : Hp), (viewsH raw h l).clock = h.clock
 | [], _ => rfl
 | (_, _) :: l, h => viewsH_clock l (h.push0 _)
theorem bodyB_nil {raw : Bool} {ik : IntKind} : (bodyB raw ik []).isDead = true := by cases raw <;> rfl
theorem bodyB_view {raw : Bool} {ik : IntKind} {y : Int} {ys : List Int} : (bodyB raw ik (y :: ys)).isView = true := by cases raw <;> rfl
def Apart (ρ : Sg) (h : Hp) (B : Nat) : Prop := ∀ i b M, h.get i = some b → b.body.isDead = false → ρ i = some (B, M) → b.body.isView = true
theorem rows_view {τ : Sg} {N : Nat} {ik : IntKind} {xs : List Int} {o : Obj} (h : BRel τ N (.rows ik xs) o) : BRel τ N (.view (xs.map fun n => .int true ik n)) o := by
 obtain ⟨K, e, fr, rfl, h1⟩ := h
 refine ⟨K, e, fr, rfl, ?_⟩
 rw [List.length_map, h1]
 have rels : ∀ l : List Int, VRels τ (l.map fun n => .int true ik n) (l.map (Value.int ik)) := by
  intro l
  induction l with
  | nil => exact rfl
  | cons a l ih => exact ⟨_, _, rfl, rfl, ih⟩
 exact rels xs
theorem add_cases {ρ : Sg} {n : Nat} {x : Nat × Nat} {i : Nat} {y : Nat × Nat} (e : (ρ.add n x) i = some y) : (i = n ∧ y = x) ∨ (i ≠ n ∧ ρ i = some y) := by
 unfold Sg.add at e
 split at e
 ·rename_i hi; cases e; exact .inl ⟨hi, rfl⟩
 ·rename_i hi; exact .inr ⟨hi, e⟩
theorem view_add {ρ : Sg} {h0 : Hp} {W : World} (r : HRel ρ h0 W) {B N : Nat} {b : ABody} {o : Obj} (hv : b.isView = true) (ho : W.heap[B]? = some o) (hb : BRel (ρ.add h0.size (B, N)) N b o) (ap : Apart ρ h0 B) :
  HRel (ρ.add h0.size (B, N)) (h0.push0 b) W := by
 have hs := Sub.add (x := (B, N)) r.fresh
 have hB : B < W.heap.size := by
  rcases Nat.lt_or_ge B W.heap.size with h1 | h1
  ·exact h1
  ·rw [Array.getElem?_eq_none h1] at ho; cases ho
 refine ⟨by have := r.ok; simp only [Hp.ok, Hp.push0, List.length_cons] at this ⊢; omega, fun i c hg hd => ?_, fun i B' M e => ?_, fun i j c d B' M M' hg hg' hd hd' e1 e2 => ?_⟩
 ·rw [Hp.get_push0] at hg
  split at hg
  ·rename_i hi; subst hi; cases hg
   exact ⟨B, N, o, add_here, ho, hb⟩
  ·obtain ⟨B', M, p, h1, h2, h3⟩ := r.blk i c hg hd
   exact ⟨B', M, p, hs _ _ h1, h2, h3.mono hs⟩
 ·rcases add_cases e with ⟨rfl, hx⟩ | ⟨hi, hx⟩
  ·cases hx; exact ⟨Nat.lt_succ_self _, hB⟩
  ·have := r.dom i B' M hx
   exact ⟨Nat.lt_succ_of_lt this.1, this.2⟩
 ·rw [Hp.get_push0] at hg hg'
  rcases add_cases e1 with ⟨rfl, hx⟩ | ⟨hi, hx⟩ <;> rcases add_cases e2 with ⟨rfl, hy⟩ | ⟨hj, hy⟩
  ·exact .inl rfl
  ·cases hx
   rw [if_pos rfl] at hg; cases hg
   rw [if_neg hj] at hg'
   exact .inr ⟨hv, ap j d M' hg' hd' hy⟩
  ·cases hy
   rw [if_pos rfl] at hg'; cases hg'
   rw [if_neg hi] at hg
   exact .inr ⟨ap i c M hg hd hx, hv⟩
  ·rw [if_neg hi] at hg
   rw [if_neg hj] at hg'
   exact r.inj i j c d B' M M' hg hg' hd hd' hx hy
theorem view_dead {ρ : Sg} {h0 : Hp} {W : World} (r : HRel ρ h0 W) {b : ABody} (hb : b.isDead = true) : HRel ρ (h0.push0 b) W := by
 refine ⟨by have := r.ok; simp only [Hp.ok, Hp.push0, List.length_cons] at this ⊢; omega, fun i c hg hd => ?_, fun i B' M e => ?_, fun i j c d B' M M' hg hg' hd hd' e1 e2 => ?_⟩
 ·rw [Hp.get_push0] at hg
  split at hg
  ·cases hg; rw [show _ = _ from hb] at hd; cases hd
  ·exact r.blk i c hg hd
 ·have := r.dom i B' M e
  exact ⟨Nat.lt_succ_of_lt this.1, this.2⟩
 ·rw [Hp.get_push0] at hg hg'
  rw [if_neg (Nat.ne_of_lt (r.dom i _ _ e1).1)] at hg
  rw [if_neg (Nat.ne_of_lt (r.dom j _ _ e2).1)] at hg'
  exact r.inj i j c d B' M M' hg hg' hd hd' e1 e2
theorem Apart.add {ρ : Sg} {h0 : Hp} {B B' N : Nat} {b : ABody} (hv : b.isView = true) (ap : Apart ρ h0 B') : Apart (ρ.add h0.size (B, N)) (h0.push0 b) B' := by
 intro i c M hg hd e
 rw [Hp.get_push0] at hg
 rcases add_cases e with ⟨rfl, hx⟩ | ⟨hi, hx⟩
 ·rw [if_pos rfl] at hg; cases hg; exact hv
 ·rw [if_neg hi] at hg
  exact ap i c M hg hd hx
theorem Apart.dead {ρ : Sg} {h0 : Hp} {B' : Nat} {b : ABody} (hb : b.isDead = true) (ap : Apart ρ h0 B') : Apart ρ (h0.push0 b) B' := by
 intro i c M hg hd e
 rw [Hp.get_push0] at hg
 split at hg
 ·cases hg; rw [show _ = _ from hb] at hd; cases hd
 ·exact ap i c M hg hd e
theorem body_rel {raw : Bool} {τ : Sg} {N : Nat} {ik : IntKind} {y : Int} {ys : List Int} {o : Obj} (h : BRel τ N (.rows ik (y :: ys)) o) : BRel τ N (bodyB raw ik (y :: ys)) o := by
 cases raw with
 | true => exact h
 | false => exact rows_view h
theorem views_rel {raw : Bool} {σ : Sg} {W : World} : ∀ (l : List (Nat × IntKind × List Int)) (ρ : Sg) (h0 : Hp), HRel ρ h0 W →
  (∀ x ∈ l, x.2.2 = [] ∨ ∃ B N o, σ x.1 = some (B, N) ∧ W.heap[B]? = some o ∧ (∀ τ, BRel τ N (.rows x.2.1 x.2.2) o) ∧ Apart ρ h0 B) →
  ∃ ρ', HRel ρ' (viewsH raw h0 (l.map (·.2))) W ∧ Sub ρ ρ' ∧ ∀ j x, l[j]? = some x → x.2.2 ≠ [] → ρ' (h0.size + j) = σ x.1
 | [], ρ, h0, r, _ => ⟨ρ, r, Sub.refl _, fun j x e => by simp at e⟩
 | (id, ik, xs) :: l, ρ, h0, r, h => by
  have hx := h (id, ik, xs) (by simp)
  cases xs with
  | nil =>
   obtain ⟨ρ', r', s', h'⟩ := views_rel l ρ (h0.push0 (bodyB raw ik [])) (view_dead r bodyB_nil) (fun x hx => by
    rcases h x (by simp [hx]) with h1 | ⟨B, N, o, a1, a2, a3, a4⟩
    ·exact .inl h1
    ·exact .inr ⟨B, N, o, a1, a2, a3, a4.dead bodyB_nil⟩)
   refine ⟨ρ', r', s', fun j x e hne => ?_⟩
   cases j with
   | zero => simp at e; subst e; exact absurd rfl hne
   | succ j =>
    have := h' j x (by simpa using e) hne
    rw [← this]
    congr 1
    show _ = h0.size + 1 + j
    omega
  | cons y ys =>
   rcases hx with hx | ⟨B, N, o, a1, a2, a3, a4⟩
   ·cases hx
   ·obtain ⟨ρ', r', s', h'⟩ := views_rel l (ρ.add h0.size (B, N)) (h0.push0 (bodyB raw ik (y :: ys))) (view_add r bodyB_view a2 (body_rel (a3 _)) a4) (fun x hx => by
     rcases h x (by simp [hx]) with h1 | ⟨B', N', o', b1, b2, b3, b4⟩
     ·exact .inl h1
     ·exact .inr ⟨B', N', o', b1, b2, b3, b4.add bodyB_view⟩)
    refine ⟨ρ', r', (Sub.add r.fresh).trans s', fun j x e hne => ?_⟩
    cases j with
    | zero =>
     simp at e; subst e
     rw [Nat.add_zero, s' _ _ (add_here (σ := ρ) (x := (B, N)))]
     exact a1.symm
    | succ j =>
     have := h' j x (by simpa using e) hne
     rw [← this]
     congr 1
     show _ = h0.size + 1 + j
     omega
inductive Pa where
 | n (sh : Sh)
 | s (shs : List Sh) (ik : IntKind)
inductive Itm where
 | n (xs : List Nu)
 | s (xs : List Nu) (n : Int) (ys : List Int)
def readA (hG h : Hp) : List Pa → List AV → Option (List (Nat × IntKind × List Int) × List Itm)
 | [], [] => some ([], [])
 | .n sh :: ps, v :: vs => match Sh.read sh v with
  | none => none
  | some (_, xs) => match readA hG h ps vs with
   | none => none
   | some (ls, its) => some (ls, .n xs :: its)
 | .s shs ik :: ps, v :: vs => match v with
  | .agg cells => match splitL cells with
   | some (init, .lslice id n) => match h.get id with
    | some ⟨_, .rows ik' ys⟩ => match decide (ik = ik') && Nat.ble hG.size id with
     | true => match Sh.readL shs init with
      | none => none
      | some (_, xs) => match readA hG h ps vs with
       | none => none
       | some (ls, its) => some ((id, ik, ys) :: ls, .s xs n ys :: its)
     | false => none
    | _ => none
   | _ => none
  | _ => none
 | _, _ => none
def lists : List Pa → List Itm → List (IntKind × List Int)
 | .n _ :: ps, .n _ :: is => lists ps is
 | .s _ ik :: ps, .s _ _ ys :: is => (ik, ys) :: lists ps is
 | _, _ => []
def listA (raw : Bool) (j : Nat) (n : Int) : AV :=
 match raw with
 | true => .lslice j n
 | false => .pslice j n.toNat false n
def mkA (raw : Bool) (j : Nat) : List Pa → List Itm → List AV
 | .n sh :: ps, .n xs :: is => (Sh.mk sh xs).1 :: mkA raw j ps is
 | .s shs _ :: ps, .s xs n _ :: is => .agg ((Sh.mkL shs xs).1 ++ [listA raw j n]) :: mkA raw (j + 1) ps is
 | _, _ => []
def inits : List Pa → List Itm → List AV
 | .n sh :: ps, .n xs :: is => (Sh.mk sh xs).1 :: inits ps is
 | .s shs _ :: ps, .s xs _ _ :: is => (Sh.mkL shs xs).1 ++ inits ps is
 | _, _ => []
def okIts : List Itm → Prop
 | [] => True
 | .n _ :: l => okIts l
 | .s _ n ys :: l => (ys = [] → n = 0) ∧ okIts l
theorem underL_app {n : Nat} : ∀ {l m : List AV}, AV.underL n (l ++ m) = (AV.underL n l && AV.underL n m)
 | [], m => by simp [AV.underL]
 | a :: l, m => by simp only [List.cons_append, AV.underL, underL_app, Bool.and_assoc]
theorem readA_rel {raw : Bool} {hG h : Hp} : ∀ (ps : List Pa) (args : List AV) (ls : List (Nat × IntKind × List Int)) (its : List Itm), readA hG h ps args = some (ls, its) →
  ls.map (·.2) = lists ps its ∧ (∀ x ∈ ls, hG.size ≤ x.1 ∧ ∃ w, h.get x.1 = some ⟨w, .rows x.2.1 x.2.2⟩) ∧
  ∀ (σ ρ : Sg) (j : Nat) (L : List Value), Sub (σ.low hG.size) ρ → (∀ i x, ls[i]? = some x → x.2.2 ≠ [] → ρ (j + i) = σ x.1) → okIts its → AV.underL hG.size (inits ps its) = true → VRels σ args L → VRels ρ (mkA raw j ps its) L
 | [], [], ls, its, e => by
  cases e
  exact ⟨rfl, by simp, fun σ ρ j L _ _ _ _ h => h⟩
 | .n sh :: ps, v :: vs, ls, its, e => by
  simp only [readA] at e
  split at e
  ·cases e
  ·rename_i s xs h1
   split at e
   ·cases e
   ·rename_i ls' its' h2
    cases e
    obtain ⟨a1, a2, a3⟩ := readA_rel ps vs _ _ h2
    refine ⟨a1, a2, fun σ ρ j L hs hj hok hu hL => ?_⟩
    obtain ⟨V, L', rfl, q1, q2⟩ := hL
    simp only [inits, AV.underL, Bool.and_eq_true] at hu
    have := (Sh.read_mk sh v s xs [] h1).2 σ V q1
    rw [List.append_nil] at this
    exact ⟨V, L', rfl, VRel.mono hs _ _ (VRel.low _ _ this hu.1), a3 σ ρ j L' hs hj hok hu.2 q2⟩
 | .s shs ik :: ps, v :: vs, ls, its, e => by
  simp only [readA] at e
  split at e
  ·rename_i cells
   split at e
   ·rename_i init id n hsp
    split at e
    ·rename_i w ik' ys hid
     split at e
     ·rename_i hb
      simp only [Bool.and_eq_true, decide_eq_true_eq] at hb
      obtain ⟨rfl, hb⟩ := hb
      have hge := Nat.le_of_ble_eq_true hb
      split at e
      ·cases e
      ·rename_i s xs h1
       split at e
       ·cases e
       ·rename_i ls' its' h2
        cases e
        obtain ⟨a1, a2, a3⟩ := readA_rel ps vs _ _ h2
        refine ⟨by simp [lists, a1], fun x hx => ?_, fun σ ρ j L hs hj hok hu hL => ?_⟩
        ·rcases List.mem_cons.1 hx with rfl | hx
         ·exact ⟨hge, w, hid⟩
         ·exact a2 x hx
        ·obtain ⟨V, L', rfl, q1, q2⟩ := hL
         simp only [inits, underL_app, Bool.and_eq_true] at hu
         obtain ⟨K, rfl, hK⟩ := q1
         rw [splitL_eq hsp] at hK
         obtain ⟨I, Z, hIZ, k1, k2⟩ := rels_split hK
         obtain ⟨zv, zl, rfl, k3, k4⟩ := k2
         obtain rfl : zl = [] := k4
         have k5 := (Sh.readL_mk shs init s xs [] h1).2 σ I k1
         rw [List.append_nil] at k5
         have k6 := VRels.mono hs _ _ (VRels.low _ _ k5 hu.1)
         obtain ⟨p, len, c, rfl, hl, hp⟩ := k3
         refine ⟨_, L', rfl, ⟨K, rfl, ?_⟩, a3 σ ρ (j + 1) L' hs (fun i x hx hne => ?_) hok.2 hu.2 q2⟩
         ·rw [hIZ]
          refine VRels.append k6 ⟨_, [], rfl, ?_, rfl⟩
          have hp' : len = 0 ∨ ∃ B N, ρ j = some (B, N) ∧ p = some ⟨B, N, none⟩ := by
           rcases hp with hp | ⟨B, N, e1, e2⟩
           ·exact .inl hp
           ·by_cases h0 : n = 0
            ·left; omega
            ·have hne : ys ≠ [] := fun hh => h0 (hok.1 hh)
             have := hj 0 (id, ik, ys) rfl hne
             rw [Nat.add_zero] at this
             exact .inr ⟨B, N, by rw [this]; exact e1, e2⟩
          cases raw with
          | true => exact ⟨p, len, c, rfl, hl, hp'⟩
          | false => exact ⟨p, len, c, rfl, hl, by omega, hp'.imp (fun h0 => by omega) _root_.id⟩
         ·have := hj (i + 1) x (by simpa using hx) hne
          rw [← this]
          congr 1
          omega
     ·cases e
    ·cases e
   ·cases e
  ·cases e
 | [], _ :: _, _, _, e => by simp [readA] at e
 | .n _ :: _, [], _, _, e => by simp [readA] at e
 | .s _ _ :: _, [], _, _, e => by simp [readA] at e
def lSpec (hG : Hp) (ps : List Pa) (V : Nat → List Itm → Option (Prop × AV × List ABody)) : NSpec := fun args h =>
 match readA hG h ps args with
 | none => none
 | some (_, its) => match V h.size its with
  | none => none
  | some (p, v, bs) => some (.p p, v, bs)
theorem lsp_ok (raw : Bool) {P : Program} {glob : Nat → Option Nat} {hG : Hp} (ok : hG.ok) (pl : blksPlain hG.size hG.blks = true) (hgl : ∀ g i, glob g = some i → i < hG.size) {f : FuncId} {ps : List Pa} {V : Nat → List Itm → Option (Prop × AV × List ABody)}
  (h : ∀ sz its p v bs, V sz its = some (p, v, bs) → p → okIts its ∧ AV.underL hG.size (inits ps its) = true ∧ ∃ (C : Ctx) (n : Nat) (as : List AV) (nd0 : Nd) (v0 : AV) (k : Hp), CtxOk C ∧ C.P = P ∧ C.glob = glob ∧ tellL (mkA raw hG.size ps its) as ∧
   (run C n).call f as (viewsH raw hG (lists ps its)) = some ⟨nd0, [⟨.tt, v0, k⟩]⟩ ∧ v0.isPanic = false ∧ nd0.val ∧ allOld hG.clock (dropN (k.size - (viewsH raw hG (lists ps its)).size) k.blks) = true ∧ Tells (viewsH raw hG (lists ps its)).size k v0 sz v bs)
  (fn : ∃ fn : Func, P.funcs[f]? = some fn ∧ fn.body.isSome = true) : NOk P glob hG f (lSpec hG ps V) := by
 refine ⟨fun args nd v bs h' e same => ?_, fn⟩
 unfold lSpec at e
 split at e
 ·cases e
 ·rename_i ls its hr
  split at e
  ·cases e
  ·rename_i p v' bs' hV
   cases e
   obtain ⟨a1, a2, a3⟩ := readA_rel ps args ls its hr
   refine ref_call fun σ A W g r hA hn => ?_
   obtain ⟨b1, b2, C, n, as, nd0, v0, k, co, rfl, rfl, ht, hrun, hp, hn0, hold, tl⟩ := h _ _ _ _ _ hV hn
   have gs := globsSame_get same
   obtain ⟨ρ, r0, sub, hj⟩ := views_rel (raw := raw) (σ := σ) ls (σ.low hG.size) hG (glob_rel ok pl same r) (fun x hx => by
    obtain ⟨hge, w, hid⟩ := a2 x hx
    by_cases hne : x.2.2 = []
    ·exact .inl hne
    ·right
     have hd : (ABody.rows x.2.1 x.2.2).isDead = false := by
      cases hxs : x.2.2 with
      | nil => exact absurd hxs hne
      | cons y ys => rfl
     obtain ⟨B, N, o, h1, h2, h3⟩ := r.blk x.1 _ hid hd
     refine ⟨B, N, o, h1, h2, fun τ => h3, fun i b M hg hdb e1 => ?_⟩
     have hi := Hp.get_lt hg
     obtain ⟨b', c', hb', hc', hbc⟩ := gs i hi
     rw [hg] at hc'; cases hc'
     rcases r.inj i x.1 b' _ B M N hb' hid (by rw [hbc]; exact hdb) hd (Sg.low_sub σ _ _ _ e1) h1 with h8 | ⟨h8, _⟩
     ·omega
     ·rw [hbc] at h8; exact h8)
   rw [a1] at r0
   refine ⟨C, n, _, as, ρ, nd0, v0, k, co, rfl, rfl, r0, fun gl i hgi => ?_, tellL_rel _ _ _ ht (a3 σ ρ hG.size A.toList sub hj b1 b2 hA), hrun, hp, hn0, by rw [viewsH_clock]; exact hold, tl⟩
   obtain ⟨N, hN⟩ := g gl i hgi
   exact ⟨N, sub _ _ (by simp [Sg.low, hgl gl i hgi, hN])⟩
def outL (lo c size : Nat) (ik : IntKind) : Option CR → Option (Nd × List AV × Nat × List Int)
 | some ⟨nd, [⟨.tt, .agg cells, k⟩]⟩ => match splitL cells with
  | some (init, x) => match cellsOfV k (size + 1) x with
   | some (n, cs) => match intsOf ik cs with
    | some xs => match newId lo x && allOld c (dropN (k.size - lo) k.blks) with
     | true => some (nd, init, n, xs)
     | false => none
    | none => none
   | none => none
  | none => none
 | _ => none
mutual
def AV.num : AV → Bool
 | .int _ _ _ => true
 | .bool _ _ => true
 | .str _ _ => true
 | .agg l => AV.numL l
 | .tuple l => AV.numL l
 | _ => false
def AV.numL : List AV → Bool
 | [] => true
 | a :: l => a.num && AV.numL l
end
mutual
theorem num_rel {σ τ : Sg} : ∀ (a : AV) (V : Value), a.num = true → VRel σ a V → VRel τ a V
 | .int _ _ _, _, _, h => h
 | .bool _ _, _, _, h => h
 | .str _ _, _, _, h => h
 | .agg l, _, hn, ⟨K, e, h⟩ => ⟨K, e, numL_rel l _ hn h⟩
 | .tuple l, _, hn, ⟨K, e, h⟩ => ⟨K, e, numL_rel l _ hn h⟩
theorem numL_rel {σ τ : Sg} : ∀ (l : List AV) (L : List Value), AV.numL l = true → VRels σ l L → VRels τ l L
 | [], _, _, h => h
 | a :: l, L, hn, h => by
  simp only [AV.numL, Bool.and_eq_true] at hn
  obtain ⟨v, vs, e, h1, h2⟩ := h
  exact ⟨v, vs, e, num_rel a v hn.1 h1, numL_rel l vs hn.2 h2⟩
end
theorem outL_tells {lo c size : Nat} {ik : IntKind} {q : Option CR} {nd : Nd} {init : List AV} {n : Nat} {xs : List Int} (e : outL lo c size ik q = some (nd, init, n, xs)) (hn : AV.numL init = true) :
  ∃ v0 k, q = some ⟨nd, [⟨.tt, v0, k⟩]⟩ ∧ v0.isPanic = false ∧ allOld c (dropN (k.size - lo) k.blks) = true ∧
   ∀ (sz : Nat) (init' : List AV) (m : Int) (ys : List Int), tellL init init' → m = n → ys = xs → Tells lo k v0 sz (.agg (init' ++ [.lslice sz m])) [.rows ik ys] := by
 unfold outL at e
 split at e
 ·rename_i nd' cells k
  split at e
  ·rename_i ini x hs
   split at e
   ·rename_i n' cs hc
    split at e
    ·rename_i xs' hi
     split at e
     ·rename_i hb
      simp only [Bool.and_eq_true] at hb
      cases e
      refine ⟨_, k, rfl, rfl, hb.2, fun sz init' m ys ht hm hy => ?_⟩
      subst hy
      refine tells_rows hc hi hb.1 hm fun τ V hV => ?_
      obtain ⟨K, rfl, hK⟩ := hV
      rw [splitL_eq hs] at hK
      obtain ⟨I, Z, hIZ, k1, k2⟩ := rels_split hK
      obtain ⟨zv, zl, rfl, k3, k4⟩ := k2
      obtain rfl : zl = [] := k4
      refine ⟨zv, k3, fun υ hυ => ⟨K, rfl, ?_⟩⟩
      rw [hIZ]
      exact VRels.append (tellL_rel _ _ _ ht (numL_rel _ _ hn k1)) ⟨_, [], rfl, hυ, rfl⟩
     ·cases e
    ·cases e
   ·cases e
  ·cases e
 ·cases e
theorem oneG_tells {lo c : Nat} {q : Option CR} {nd : Nd} {v0 : AV} (e : oneG lo c q = some (nd, v0)) (hn : v0.num = true) :
  ∃ k, q = some ⟨nd, [⟨.tt, v0, k⟩]⟩ ∧ v0.isPanic = false ∧ allOld c (dropN (k.size - lo) k.blks) = true ∧ ∀ (sz : Nat) (v : AV), tell v0 v → Tells lo k v0 sz v [] := by
 obtain ⟨k, h1, h2, h3⟩ := oneG_some e
 exact ⟨k, h1, h3, h2, fun sz v ht => tells_num fun τ σ V hV => tell_rel _ _ _ ht (num_rel _ _ hn hV)⟩
end
end Go.Eng
namespace Go.Eng
open Go
noncomputable section
theorem swap_top {τ : Sg} {h : Hp} {W : World} {b b' : ABody} (r : HRel τ (h.push0 b) W) (hd : b.isDead = false) (hv : b'.isView = true) (hv' : b.isView = true) (hb : ∀ N o, BRel τ N b o → BRel τ N b' o) : HRel τ (h.push0 b') W := by
 refine ⟨r.ok, fun i c hg hdc => ?_, r.dom, fun i j c d B N M hg hg' hdc hdd e1 e2 => ?_⟩
 ·rw [Hp.get_push0] at hg
  split at hg
  ·rename_i hi; cases hg; subst hi
   obtain ⟨B, N, o, h1, h2, h3⟩ := r.blk h.size ⟨0, b⟩ (by rw [Hp.get_push0, if_pos rfl]) hd
   exact ⟨B, N, o, h1, h2, hb N o h3⟩
  ·rename_i hi
   exact r.blk i c (by rw [Hp.get_push0, if_neg hi]; exact hg) hdc
 ·rw [Hp.get_push0] at hg hg'
  by_cases hi : i = h.size <;> by_cases hj : j = h.size
  ·exact .inl (hi.trans hj.symm)
  ·rw [if_pos hi] at hg; cases hg
   rw [if_neg hj] at hg'
   rcases r.inj i j ⟨0, b⟩ d B N M (by rw [Hp.get_push0, if_pos hi]) (by rw [Hp.get_push0, if_neg hj]; exact hg') hd hdd e1 e2 with h8 | ⟨_, h8⟩
   ·exact .inl h8
   ·exact .inr ⟨hv, h8⟩
  ·rw [if_neg hi] at hg
   rw [if_pos hj] at hg'; cases hg'
   rcases r.inj i j c ⟨0, b⟩ B N M (by rw [Hp.get_push0, if_neg hi]; exact hg) (by rw [Hp.get_push0, if_pos hj]) hdc hd e1 e2 with h8 | ⟨h8, _⟩
   ·exact .inl h8
   ·exact .inr ⟨h8, hv⟩
  ·rw [if_neg hi] at hg
   rw [if_neg hj] at hg'
   exact r.inj i j c d B N M (by rw [Hp.get_push0, if_neg hi]; exact hg) (by rw [Hp.get_push0, if_neg hj]; exact hg') hdc hdd e1 e2
theorem ints_map (ik : IntKind) : ∀ xs : List Int, intsOf ik (xs.map fun n => .int true ik n) = some xs
 | [] => rfl
 | x :: l => by simp only [List.map_cons, intsOf, decide_true, ints_map ik l]
theorem view_rows {τ : Sg} {N : Nat} {ik : IntKind} {xs : List Int} {o : Obj} (h : BRel τ N (.view (xs.map fun n => .int true ik n)) o) : BRel τ N (.rows ik xs) o := by
 obtain ⟨K, e, fr, rfl, h1⟩ := h
 refine ⟨K, e, fr, rfl, ?_⟩
 have := ints_rel h1 (ints_map ik xs)
 rwa [List.length_map] at this
theorem film_relL {σ : Sg} {h : Hp} {W : World} (r : HRel σ h W) (hb : (h.blks.all fun b => noK .u8 b.body) = true) {v : Value} {n : Int} {zs : List Int} (b : Bytes W v n zs) :
  ∃ τ, Sub σ τ ∧ HRel τ (h.push0 (.rows .u8 zs)) W ∧ VRel τ (.lslice h.size n) v := by
 obtain ⟨⟨p, c, rfl, hp⟩, hn, _⟩ := b
 cases zs with
 | nil =>
  refine ⟨σ, Sub.refl _, view_dead r rfl, p, 0, c, rfl, hn.symm, .inl rfl⟩
 | cons f fs =>
  obtain ⟨B, N, rfl, hc⟩ := hp (by simp)
  refine ⟨_, Sub.add r.fresh, swap_top (add_view r hb (B := B) (N := N) (k := .u8) (fs := f :: fs) (by simp) hc) rfl rfl rfl (fun N o h => view_rows h), some ⟨B, N, none⟩, (f :: fs).length, c, rfl, hn.symm, .inr ⟨B, N, add_here, rfl⟩⟩
theorem law_walkL {P : Program} {glob : Nat → Option Nat} {hG : Hp} (hb : (hG.blks.all fun b => noK .u8 b.body) = true) (old : allOld hG.clock hG.blks = true) (h1 : 0 < hG.clock) {f : FuncId} {t : TypeId} {ts : List TypeId} {sh : List Sh} {shs : List Sh} (hs : shapesT P (t :: ts) = some (.a (sh ++ [.c (.any true)]) :: shs))
  (hT : ∀ xs ys, xs.map Nu.isN = Sh.kindsL sh → inRange (Sh.leavesL sh) xs → ys.map Nu.isN = Sh.kindsL shs → inRange (Sh.leavesL shs) ys → ∀ (n : Int) (zs : List Int), n = zs.length → (∀ z ∈ zs, 0 ≤ z ∧ z ≤ 255) → LawTrueH P glob (hG.push0 (.rows .u8 zs)) f (.agg ((Sh.mkL sh xs).1 ++ [.lslice hG.size n]) :: (Sh.mkL shs ys).1))
  {W : World} {base : Nat} {σ : Sg} {A : Array Value} (g : ∀ gl i, glob gl = some i → ∃ N, σ i = some (gl, N)) (r : HRel σ hG W) {v : Value} {vs : List Value} (hA : A.toList = v :: vs) (hl : vs.length = ts.length) {cs : List Value} {last : Value} (hv : v = .agg (cs ++ [last]).toArray) (hlast : ∃ n zs, Bytes W last n zs)
  (hok : ∀ (j : Nat) t' v, (t :: ts)[j]? = some t' → A.toList[j]? = some v → Value.okWide P W .any base t' v) :
  Calls P f A W fun e w' => e = .returned (.bool true) ∧ RowKit.Grown W w' ∧ ∀ B, B < W.heap.size → w'.heap[B]? = W.heap[B]? := by
 obtain ⟨n, zs, bz⟩ := hlast
 have hs' := hs
 simp only [shapesT] at hs
 split at hs
 ·cases hs
 ·rename_i s h2
  split at hs
  ·cases hs
  ·rename_i l h3
   cases hs
   obtain ⟨ys, b1, b2, b3⟩ := law_args (P := P) (W := W) (base := base) (σ := σ) (ts := ts) (vs := vs) h3 hl fun j t' v' k1 k2 => hok (j + 1) t' v' (by simpa using k1) (by rw [hA]; simpa using k2)
   obtain ⟨xs, a1, a2, a3⟩ := law_one (σ := σ) h2 (hok 0 t v rfl (by rw [hA]; rfl))
   obtain ⟨_, a4⟩ := a3 []
   rw [List.append_nil] at a4
   obtain ⟨_, b4⟩ := b3 []
   rw [List.append_nil] at b4
   have kl : ∀ l m : List Sh, Sh.kindsL (l ++ m) = Sh.kindsL l ++ Sh.kindsL m := by
    intro l m
    induction l with
    | nil => rfl
    | cons a l ih => simp [Sh.kindsL, ih]
   have ll : ∀ l m : List Sh, Sh.leavesL (l ++ m) = Sh.leavesL l ++ Sh.leavesL m := by
    intro l m
    induction l with
    | nil => rfl
    | cons a l ih => simp [Sh.leavesL, ih]
   have a1' : xs.map Nu.isN = Sh.kindsL sh := by
    have : xs.map Nu.isN = Sh.kindsL (sh ++ [.c (.any true)]) := a1
    rw [kl] at this; simpa [Sh.kindsL, Sh.kinds] using this
   have drop_any : ∀ (l : List Sh) (zs : List Nu), inRange (l ++ [.c (.any true)]) zs → inRange l zs := by
    intro l
    induction l with
    | nil => intro zs h; cases zs with
     | nil => trivial
     | cons z zs => simp [inRange] at h
    | cons a l ih => intro zs h; cases a with
     | i k => cases zs with
      | nil => simp [inRange] at h
      | cons z zs => cases z with
       | n x => exact ⟨h.1, ih zs h.2⟩
       | t b => simp [inRange] at h
       | s b => simp [inRange] at h
     | b => cases zs with
      | nil => simp [inRange] at h
      | cons z zs => cases z with
       | n x => simp [inRange] at h
       | t b => exact ih zs h
       | s b => simp [inRange] at h
     | str => cases zs with
      | nil => simp [inRange] at h
      | cons z zs => cases z with
       | n x => simp [inRange] at h
       | t b => simp [inRange] at h
       | s b => exact ih zs h
     | one => cases zs <;> simp [inRange] at h
     | c w =>
      have h' : inRange (l ++ [.c (.any true)]) zs := by cases zs <;> simpa [inRange] using h
      have := ih zs h'
      cases zs <;> simpa [inRange] using this
     | a m => cases zs <;> simp [inRange] at h
   have a2' : inRange (Sh.leavesL sh) xs := by
    have : inRange (Sh.leavesL (sh ++ [.c (.any true)])) xs := a2
    rw [ll] at this
    exact drop_any _ _ this
   obtain ⟨C, fuel, nd, s, p, co, rfl, rfl, e1, e2, e3⟩ := hT xs ys a1' a2' b1 b2 n zs bz.len bz.rng
   obtain ⟨τ, sub, hr, hfv⟩ := film_relL r hb bz
   have mk_app : ∀ (l : List Sh) (xs : List Nu), (Sh.mkL (l ++ [.c (.any true)]) xs).1 = (Sh.mkL l xs).1 ++ [.any true] := by
    intro l
    induction l with
    | nil => intro xs; rfl
    | cons a l ih => intro xs; simp only [List.cons_append, Sh.mkL, ih]
   have hvr : VRel τ (.agg ((Sh.mkL sh xs).1 ++ [.lslice hG.size n])) v := by
    subst hv
    obtain ⟨K, hK, h5⟩ := a4
    have h6 := VRels.mono sub _ _ h5
    rw [mk_app] at h6
    cases hK
    refine ⟨_, rfl, ?_⟩
    rw [List.toList_toArray] at h6 ⊢
    exact rels_last h6 hfv
   have old' : allOld (hG.push0 (.rows .u8 zs)).clock (hG.push0 (.rows .u8 zs)).blks = true := by
    show (Nat.blt 0 hG.clock && allOld hG.clock hG.blks) = true
    rw [old, Bool.and_true]
    exact Nat.ble_eq_true_of_le h1
   exact law_calls co old' e1 e2 e3 (fun gl i hi => by obtain ⟨N, hN⟩ := g gl i hi; exact ⟨N, sub _ _ hN⟩) hr (by rw [hA]; exact ⟨v, vs, rfl, hvr, VRels.mono sub _ _ b4⟩)
end
end Go.Eng
namespace Go.Eng
open Go
noncomputable section
theorem NOk.weaken {P : Program} {glob : Nat → Option Nat} {hG : Hp} {f : FuncId} {s t : NSpec} (g : NOk P glob hG f s)
  (h : ∀ args hp nd v bs, t args hp = some (nd, v, bs) → ∃ nd0 v0, s args hp = some (nd0, v0, bs) ∧ (nd.val → nd0.val ∧ ∀ σ V, VRel σ v0 V → VRel σ v V)) : NOk P glob hG f t := by
 refine ⟨fun args nd v bs h' e same σ A W gr r hA hn cs => ?_, g.fn⟩
 obtain ⟨nd0, v0, e0, k0⟩ := h args h' nd v bs e
 obtain ⟨k1, k2⟩ := k0 hn
 obtain ⟨x, q1, τ, V, X, fr, q2, q3⟩ := g.call args nd0 v0 bs h' e0 same σ A W gr r hA k1 cs
 have : x = ⟨.tt, v0, pushAll h' bs⟩ := one_tt q1
 subst this
 exact ⟨⟨.tt, v, pushAll h' bs⟩, rfl, τ, V, X, fr, k2 τ V q2, q3⟩
theorem lSpec_weaken {P : Program} {glob : Nat → Option Nat} {hG : Hp} {f : FuncId} {ps : List Pa} {V V' : Nat → List Itm → Option (Prop × AV × List ABody)} (g : NOk P glob hG f (lSpec hG ps V))
  (h : ∀ sz its p v bs, V' sz its = some (p, v, bs) → ∃ p0 v0, V sz its = some (p0, v0, bs) ∧ (p → p0 ∧ ∀ σ U, VRel σ v0 U → VRel σ v U)) : NOk P glob hG f (lSpec hG ps V') := by
 refine g.weaken fun args hp nd v bs e => ?_
 unfold lSpec at e ⊢
 split at e
 ·cases e
 ·rename_i its hr
  split at e
  ·cases e
  ·rename_i p v' bs' hV
   cases e
   obtain ⟨p0, v0, h1, h2⟩ := h _ _ _ _ _ hV
   exact ⟨.p p0, v0, by simp only [h1], h2⟩
theorem tellL_app : ∀ {l m l' m' : List AV}, tellL l m → tellL l' m' → tellL (l ++ l') (m ++ m')
 | [], [], _, _, _, h => h
 | a :: l, b :: m, _, _, h, k => ⟨h.1, tellL_app h.2 k⟩
 | [], _ :: _, _, _, h, _ => h.elim
 | _ :: _, [], _, _, h, _ => h.elim
end
end Go.Eng
namespace Go.Eng
def lc (q r y0 u : Int) : Bool := bif decide (q ≥ 4294967296) then true else decide (IntKind.u64.wrap (q * y0) > IntKind.u64.wrap (IntKind.u64.wrap (4294967296 * r) + u))
def lq (q r y1 y0 u : Int) : Int :=
 bif (lc q r y0 u && decide (IntKind.u64.wrap (r + y1) ≥ 4294967296)) || !lc q r y0 u then
  bif lc q r y0 u && decide (IntKind.u64.wrap (r + y1) ≥ 4294967296) then IntKind.u64.wrap (q - 1) else q
 else
  bif (lc (IntKind.u64.wrap (q - 1)) (IntKind.u64.wrap (r + y1)) y0 u && decide (IntKind.u64.wrap (IntKind.u64.wrap (r + y1) + y1) ≥ 4294967296)) || !lc (IntKind.u64.wrap (q - 1)) (IntKind.u64.wrap (r + y1)) y0 u then
   bif lc (IntKind.u64.wrap (q - 1)) (IntKind.u64.wrap (r + y1)) y0 u && decide (IntKind.u64.wrap (IntKind.u64.wrap (r + y1) + y1) ≥ 4294967296) then IntKind.u64.wrap (IntKind.u64.wrap (q - 1) - 1) else IntKind.u64.wrap (q - 1)
  else
   bif lc (IntKind.u64.wrap (IntKind.u64.wrap (q - 1) - 1)) (IntKind.u64.wrap (IntKind.u64.wrap (r + y1) + y1)) y0 u && decide (IntKind.u64.wrap (IntKind.u64.wrap (IntKind.u64.wrap (r + y1) + y1) + y1) ≥ 4294967296) then
    IntKind.u64.wrap (IntKind.u64.wrap (IntKind.u64.wrap (q - 1) - 1) - 1)
   else IntKind.u64.wrap (IntKind.u64.wrap (q - 1) - 1)
def lneed (q r y1 y0 u : Int) : Prop :=
 (lc q r y0 u && !decide (IntKind.u64.wrap (r + y1) ≥ 4294967296)) = true →
  (lc (IntKind.u64.wrap (q - 1)) (IntKind.u64.wrap (r + y1)) y0 u && !decide (IntKind.u64.wrap (IntKind.u64.wrap (r + y1) + y1) ≥ 4294967296)) = true →
   (lc (IntKind.u64.wrap (IntKind.u64.wrap (q - 1) - 1)) (IntKind.u64.wrap (IntKind.u64.wrap (r + y1) + y1)) y0 u && !decide (IntKind.u64.wrap (IntKind.u64.wrap (IntKind.u64.wrap (r + y1) + y1) + y1) ≥ 4294967296)) = true → False
theorem wrapU {n : Int} (h0 : 0 ≤ n) (h1 : n < 18446744073709551616) : IntKind.u64.wrap n = n := by rw [IntKind.wrap_u64]; omega
section step
variable {u Y y1 y0 d Q : Int}
theorem over_iff (hY : 9223372036854775808 ≤ Y) (e : Y = y1 * 4294967296 + y0) (hQ1 : Q * Y ≤ u * 4294967296 + d) (hQ2 : u * 4294967296 + d < (Q + 1) * Y) {q r : Int} (hu : u = q * y1 + r) :
  q * y0 > r * 4294967296 + d ↔ q > Q := by
 have h1 : q * Y = q * y1 * 4294967296 + q * y0 := by rw [e, Int.mul_add, Int.mul_assoc]
 constructor
 ·intro h
  rcases Int.lt_or_le Q q with h2 | h2
  ·exact h2
  ·have := Int.mul_le_mul_of_nonneg_right h2 (show 0 ≤ Y by omega)
   omega
 ·intro h
  have := Int.mul_le_mul_of_nonneg_right (show Q + 1 ≤ q by omega) (show 0 ≤ Y by omega)
  omega
theorem lc_iff (hY : 9223372036854775808 ≤ Y) (e : Y = y1 * 4294967296 + y0) (h0 : 0 ≤ y0) (h0' : y0 < 4294967296) (hd : 0 ≤ d) (hd' : d < 4294967296) (hQ : Q < 4294967296) (hQ1 : Q * Y ≤ u * 4294967296 + d) (hQ2 : u * 4294967296 + d < (Q + 1) * Y)
  {q r : Int} (hu : u = q * y1 + r) (hq : 0 ≤ q) (hr : 0 ≤ r) (hr' : r < 4294967296) : lc q r y0 d = decide (q > Q) := by
 unfold lc
 by_cases h : q ≥ 4294967296
 ·simp only [h, decide_true, cond_true]
  symm; simp; omega
 ·simp only [h, decide_false, cond_false]
  have h1 : q * y0 ≤ 4294967295 * y0 := Int.mul_le_mul_of_nonneg_right (by omega) h0
  have h2 : 0 ≤ q * y0 := Int.mul_nonneg hq h0
  rw [wrapU h2 (by omega), wrapU (n := 4294967296 * r) (by omega) (by omega), wrapU (by omega) (by omega)]
  have := over_iff hY e hQ1 hQ2 hu
  congr 1
  apply propext
  rw [← this]
  omega
theorem lq_spec (hY : 9223372036854775808 ≤ Y) (hY' : Y < 18446744073709551616) (e : Y = y1 * 4294967296 + y0) (h0 : 0 ≤ y0) (h0' : y0 < 4294967296) (hu : 0 ≤ u) (hu' : u < Y) (hd : 0 ≤ d) (hd' : d < 4294967296) :
  lq (u / y1) (u % y1) y1 y0 d = (u * 4294967296 + d) / Y ∧ lneed (u / y1) (u % y1) y1 y0 d := by
 have hy1 : 2147483648 ≤ y1 := by omega
 have hy1' : y1 < 4294967296 := by omega
 generalize hQ : (u * 4294967296 + d) / Y = Q
 have hdm := Int.mul_ediv_add_emod (u * 4294967296 + d) Y
 rw [hQ] at hdm
 have hm0 := Int.emod_nonneg (u * 4294967296 + d) (show Y ≠ 0 by omega)
 have hm1 := Int.emod_lt_of_pos (u * 4294967296 + d) (show 0 < Y by omega)
 have hc : Y * Q = Q * Y := Int.mul_comm _ _
 have hQ1 : Q * Y ≤ u * 4294967296 + d := by omega
 have hQ2 : u * 4294967296 + d < (Q + 1) * Y := by rw [Int.add_mul]; omega
 have hQ0 : 0 ≤ Q := by rw [← hQ]; exact Int.ediv_nonneg (by omega) (by omega)
 have hQlt : Q < 4294967296 := by
  rcases Int.lt_or_le Q 4294967296 with h | h
  ·exact h
  ·have := Int.mul_le_mul_of_nonneg_right h (show 0 ≤ Y by omega)
   omega
 have hqr := Int.mul_ediv_add_emod u y1
 have hr0 := Int.emod_nonneg u (show y1 ≠ 0 by omega)
 have hr1 := Int.emod_lt_of_pos u (show 0 < y1 by omega)
 generalize hq : u / y1 = q at *
 generalize hr : u % y1 = r at *
 have hq0 : 0 ≤ q := by rw [← hq]; exact Int.ediv_nonneg hu (by omega)
 have hc1 : y1 * q = q * y1 := Int.mul_comm _ _
 have hu1 : u = q * y1 + r := by omega
 have hqle : q ≤ 4294967297 := by
  rcases Int.lt_or_le 4294967297 q with h | h
  ·have := Int.mul_le_mul_of_nonneg_right (show 4294967298 ≤ q by omega) (show 0 ≤ y1 by omega)
   omega
  ·exact h
 have hge : Q ≤ q := by
  rcases Int.lt_or_le q Q with h | h
  ·have h1 := Int.mul_le_mul_of_nonneg_right (show q + 1 ≤ Q by omega) (show 0 ≤ Y by omega)
   have h2 : (q + 1) * Y = q * y1 * 4294967296 + y1 * 4294967296 + (q + 1) * y0 := by rw [e, Int.mul_add, Int.add_mul, ← Int.mul_assoc, Int.add_mul, Int.one_mul, Int.one_mul]
   have h3 : 0 ≤ (q + 1) * y0 := Int.mul_nonneg (by omega) h0
   omega
  ·exact h
 have hle : q ≤ Q + 2 := by
  rcases Int.lt_or_le (Q + 2) q with h | h
  ·have h1 := Int.mul_le_mul_of_nonneg_right (show Q + 1 ≤ q - 2 by omega) (show 0 ≤ Y by omega)
   have h2 : (q - 2) * Y = q * y1 * 4294967296 - 2 * y1 * 4294967296 + (q - 2) * y0 := by rw [e, Int.mul_add, Int.sub_mul, ← Int.mul_assoc, Int.sub_mul, Int.mul_assoc 2]
   have h3 : (q - 2) * y0 ≤ 4294967295 * y0 := Int.mul_le_mul_of_nonneg_right (by omega) h0
   omega
  ·exact h
 have C1 : lc q r y0 d = decide (q > Q) := lc_iff hY e h0 h0' hd hd' hQlt hQ1 hQ2 hu1 hq0 hr0 (by omega)
 have w1 : IntKind.u64.wrap (r + y1) = r + y1 := wrapU (by omega) (by omega)
 by_cases g1 : q > Q
 ·have v1 : IntKind.u64.wrap (q - 1) = q - 1 := wrapU (by omega) (by omega)
  have hu2 : u = (q - 1) * y1 + (r + y1) := by rw [Int.sub_mul]; omega
  by_cases b1 : r + y1 ≥ 4294967296
  ·-- the second guess must be right
   have hq1 : q - 1 = Q := by
    have := over_iff hY e hQ1 hQ2 hu2
    have h3 : (q - 1) * y0 ≤ 4294967296 * y0 := Int.mul_le_mul_of_nonneg_right (by omega) h0
    rcases Int.lt_or_le Q (q - 1) with h | h
    ·have := this.2 h
     omega
    ·omega
   refine ⟨?_, ?_⟩
   ·simp only [lq, C1, w1, v1, g1, b1, decide_true, Bool.and_self, Bool.true_or, cond_true]
    exact hq1
   ·intro h
    simp [C1, w1, b1] at h
  ·have C2 : lc (q - 1) (r + y1) y0 d = decide (q - 1 > Q) := lc_iff hY e h0 h0' hd hd' hQlt hQ1 hQ2 hu2 (by omega) (by omega) (by omega)
   by_cases g2 : q - 1 > Q
   ·have v2 : IntKind.u64.wrap (q - 1 - 1) = q - 1 - 1 := wrapU (by omega) (by omega)
    have w2 : IntKind.u64.wrap (r + y1 + y1) = r + y1 + y1 := wrapU (by omega) (by omega)
    have hq2 : q - 1 - 1 = Q := by omega
    by_cases b2 : r + y1 + y1 ≥ 4294967296
    ·refine ⟨?_, ?_⟩
     ·simp only [lq, C1, w1, v1, g1, b1, C2, g2, v2, w2, b2, decide_true, decide_false, Bool.and_self, Bool.and_false, Bool.not_true, Bool.or_self, Bool.true_or, Bool.or_false, cond_true, cond_false]
      exact hq2
     ·intro _ h
      simp [C2, w1, v1, w2, b2] at h
    ·have hu3 : u = (q - 1 - 1) * y1 + (r + y1 + y1) := by rw [Int.sub_mul]; omega
     have C3 : lc (q - 1 - 1) (r + y1 + y1) y0 d = decide (q - 1 - 1 > Q) := lc_iff hY e h0 h0' hd hd' hQlt hQ1 hQ2 hu3 (by omega) (by omega) (by omega)
     have g3 : ¬ q - 1 - 1 > Q := by omega
     refine ⟨?_, ?_⟩
     ·simp only [lq, C1, w1, v1, g1, b1, C2, g2, v2, w2, b2, C3, g3, decide_true, decide_false, Bool.and_self, Bool.and_false, Bool.false_and, Bool.not_true, Bool.or_self, Bool.true_or, Bool.or_false, cond_true, cond_false]
      exact hq2
     ·intro _ _ h
      simp [v1, w1, v2, w2, C3, g3] at h
   ·refine ⟨?_, ?_⟩
    ·simp only [lq, C1, w1, v1, g1, b1, C2, g2, decide_true, decide_false, Bool.and_self, Bool.and_false, Bool.false_and, Bool.not_true, Bool.not_false, Bool.or_self, Bool.true_or, Bool.or_true, Bool.or_false, cond_true, cond_false]
     omega
    ·intro _ h
     simp [v1, w1, C2, g2] at h
 ·refine ⟨?_, ?_⟩
  ·simp only [lq, C1, g1, decide_false, Bool.false_and, Bool.not_false, Bool.or_true, cond_true, cond_false]
   omega
  ·intro h
   simp [C1, g1] at h
end step
end Go.Eng
namespace Go.Eng
def dS (y : Int) : Int := IntKind.u64.wrap (64 - ((Lib.bitLen y.toNat : Nat) : Int))
def dP (y : Int) : Int := 2 ^ min (dS y).toNat IntKind.u64.bits
def dH : Int := 2 ^ min (Int.toNat 32) IntKind.u64.bits
def dLow (n : Int) : Int := IntKind.u64.wrap ((BitVec.ofInt IntKind.u64.bits n &&& BitVec.ofInt IntKind.u64.bits 4294967295).toNat : Int)
def dY (y : Int) : Int := IntKind.u64.wrap (y * dP y)
def dY1 (y : Int) : Int := (dY y).fdiv dH
def dY0 (y : Int) : Int := dLow (dY y)
def dU32 (hi lo y : Int) : Int := IntKind.u64.wrap ((BitVec.ofInt IntKind.u64.bits (IntKind.u64.wrap (hi * dP y)) ||| BitVec.ofInt IntKind.u64.bits (lo.fdiv (2 ^ min (IntKind.u64.wrap (64 - dS y)).toNat IntKind.u64.bits))).toNat : Int)
def dU10 (lo y : Int) : Int := IntKind.u64.wrap (lo * dP y)
def dU1 (lo y : Int) : Int := (dU10 lo y).fdiv dH
def dU0 (lo y : Int) : Int := dLow (dU10 lo y)
def dq (u y : Int) : Int := IntKind.u64.wrap (u.tdiv (dY1 y))
def dr (u y : Int) : Int := IntKind.u64.wrap (u - IntKind.u64.wrap (dq u y * dY1 y))
def dStep (u y d : Int) : Int := lq (dq u y) (dr u y) (dY1 y) (dY0 y) d
def dStepNeed (u y d : Int) : Prop := lneed (dq u y) (dr u y) (dY1 y) (dY0 y) d
def dLeft (u y d : Int) : Int := IntKind.u64.wrap (IntKind.u64.wrap (IntKind.u64.wrap (u * 4294967296) + d) - IntKind.u64.wrap (dStep u y d * dY y))
def dU21 (hi lo y : Int) : Int := dLeft (dU32 hi lo y) y (dU1 lo y)
def dQuo (hi lo y : Int) : Int := bif hi == 0 then IntKind.u64.wrap (lo.tdiv y) else IntKind.u64.wrap (IntKind.u64.wrap (dStep (dU32 hi lo y) y (dU1 lo y) * 4294967296) + dStep (dU21 hi lo y) y (dU0 lo y))
def dRem (hi lo y : Int) : Int := bif hi == 0 then lo.tmod y else (dLeft (dU21 hi lo y) y (dU0 lo y)).fdiv (dP y)
def dNeed (hi lo y : Int) : Prop :=
 ((y == 0) = true → False) ∧ (decide (y ≤ hi) = true → False) ∧ ((hi == 0) = true → y ≠ 0 ∧ y ≠ 0) ∧ ((!(hi == 0)) = true → (0 ≤ y ∧ y ≤ 18446744073709551615) ∧ 0 ≤ dS y ∧ (0 ≤ dS y ∧ 0 ≤ IntKind.u64.wrap (64 - dS y)) ∧ 0 ≤ dS y ∧
  dY1 y ≠ 0 ∧ dStepNeed (dU32 hi lo y) y (dU1 lo y) ∧ dY1 y ≠ 0 ∧ dStepNeed (dU21 hi lo y) y (dU0 lo y) ∧ 0 ≤ dS y)
end Go.Eng
namespace Go.Eng
theorem bitLenAux_bounds : ∀ (f x : Nat), x < 2 ^ f → 0 < x → 2 ^ (Lib.bitLenAux f x - 1) ≤ x ∧ x < 2 ^ (Lib.bitLenAux f x) ∧ 1 ≤ Lib.bitLenAux f x
 | 0, x, h, h0 => by simp at h; omega
 | f + 1, x, h, h0 => by
  simp only [Lib.bitLenAux, if_neg (show ¬ x = 0 by omega)]
  rw [Nat.pow_succ] at h
  by_cases hx : x / 2 = 0
  ·have : x = 1 := by omega
   subst this
   have hz : Lib.bitLenAux f (1 / 2) = 0 := by cases f <;> simp [Lib.bitLenAux]
   rw [hz]; simp
  ·obtain ⟨h1, h2, h3⟩ := bitLenAux_bounds f (x / 2) (by omega) (by omega)
   obtain ⟨k, hk⟩ : ∃ k, Lib.bitLenAux f (x / 2) = k + 1 := ⟨_, (Nat.sub_add_cancel h3).symm⟩
   rw [hk] at h1 h2 ⊢
   rw [show 1 + (k + 1) - 1 = k + 1 from by omega, show 1 + (k + 1) = (k + 1) + 1 from by omega]
   rw [show k + 1 - 1 = k from rfl] at h1
   rw [Nat.pow_succ] at h2 ⊢
   rw [Nat.pow_succ]
   refine ⟨by omega, by rw [Nat.pow_succ]; omega, by omega⟩
theorem bitLen_bounds (x : Nat) (h : x < 2 ^ 64) (h0 : 0 < x) : 2 ^ (Lib.bitLen x - 1) ≤ x ∧ x < 2 ^ (Lib.bitLen x) ∧ 1 ≤ Lib.bitLen x := bitLenAux_bounds 64 x h h0
theorem dLow_eq (n : Nat) (h : n < 18446744073709551616) : dLow (n : Int) = ((n % 4294967296 : Nat) : Int) := by
 have h1 := bits_and_u64_nat n 4294967295 h (by omega)
 have e : n &&& 4294967295 = n % 4294967296 := Nat.and_two_pow_sub_one_eq_mod n 32
 rw [e] at h1
 exact h1
theorem dOr_eq (a b : Nat) (ha : a < 18446744073709551616) (hb : b < 18446744073709551616) : IntKind.u64.wrap ((BitVec.ofInt IntKind.u64.bits (a : Int) ||| BitVec.ofInt IntKind.u64.bits (b : Int)).toNat : Int) = ((a ||| b : Nat) : Int) := bits_or_u64_nat a b ha hb
theorem dH_eq : dH = 4294967296 := rfl
theorem step_ok {y Y u d : Int} (hy : dY y = Y) (hY : 9223372036854775808 ≤ Y) (hY' : Y < 18446744073709551616) (hu : 0 ≤ u) (hu' : u < Y) (hd : 0 ≤ d) (hd' : d < 4294967296) :
  dStep u y d = (u * 4294967296 + d) / Y ∧ dStepNeed u y d ∧ dLeft u y d = (u * 4294967296 + d) % Y ∧ dY1 y ≠ 0 := by
 have h1 : dY1 y = Y / 4294967296 := by unfold dY1; rw [hy, dH_eq, Int.fdiv_eq_ediv_of_nonneg _ (by omega)]
 have h0 : dY0 y = Y % 4294967296 := by
  unfold dY0; rw [hy]
  have := dLow_eq Y.toNat (by omega)
  rw [Int.toNat_of_nonneg (by omega)] at this
  rw [this]; omega
 have hp : 0 < Y / 4294967296 := by omega
 have hq : dq u y = u / (Y / 4294967296) := by
  unfold dq; rw [h1, Int.tdiv_eq_ediv_of_nonneg hu]
  have a1 := Int.ediv_nonneg hu (show 0 ≤ Y / 4294967296 by omega)
  have a2 : u / (Y / 4294967296) ≤ u := Int.ediv_le_self _ hu
  exact wrapU a1 (by omega)
 have hdm := Int.mul_ediv_add_emod u (Y / 4294967296)
 have hm0 := Int.emod_nonneg u (show Y / 4294967296 ≠ 0 by omega)
 have hc := Int.mul_comm (Y / 4294967296) (u / (Y / 4294967296))
 have hn : 0 ≤ u / (Y / 4294967296) * (Y / 4294967296) := Int.mul_nonneg (Int.ediv_nonneg hu (by omega)) (by omega)
 have hr : dr u y = u % (Y / 4294967296) := by
  unfold dr; rw [hq, h1, wrapU hn (by omega), wrapU (by omega) (by omega)]; omega
 have main := lq_spec (u := u) (y1 := Y / 4294967296) (y0 := Y % 4294967296) (d := d) hY hY' (by omega) (by omega) (by omega) hu hu' hd hd'
 have hs : dStep u y d = (u * 4294967296 + d) / Y := by unfold dStep; rw [hq, hr, h1, h0]; exact main.1
 refine ⟨hs, by unfold dStepNeed; rw [hq, hr, h1, h0]; exact main.2, ?_, by omega⟩
 unfold dLeft
 rw [hs, hy]
 have e1 := Int.mul_ediv_add_emod (u * 4294967296 + d) Y
 have e2 := Int.mul_comm Y ((u * 4294967296 + d) / Y)
 have e3 := Int.emod_nonneg (u * 4294967296 + d) (show Y ≠ 0 by omega)
 have e4 := Int.emod_lt_of_pos (u * 4294967296 + d) (show 0 < Y by omega)
 rw [IntKind.wrap_u64, IntKind.wrap_u64, IntKind.wrap_u64, IntKind.wrap_u64]
 omega
theorem div_spec (h l z : Nat) (hz : h < z) (hz' : z < 18446744073709551616) (hl : l < 18446744073709551616) :
  dNeed h l z ∧ dQuo h l z = (h * 18446744073709551616 + l) / z ∧ dRem h l z = (h * 18446744073709551616 + l) % z := by
 by_cases hh : h = 0
 ·subst hh
  have e : (((0 : Nat) : Int) == 0) = true := rfl
  refine ⟨⟨?_, ?_, ?_, ?_⟩, ?_, ?_⟩
  ·simp; omega
  ·simp; omega
  ·intro _; constructor <;> omega
  ·rw [e]; intro h; cases h
  ·unfold dQuo
   rw [e, cond_true, Int.tdiv_eq_ediv_of_nonneg (by omega)]
   have a1 := Int.ediv_nonneg (show (0 : Int) ≤ l by omega) (show (0 : Int) ≤ z by omega)
   have a2 : (l : Int) / z ≤ l := Int.ediv_le_self _ (by omega)
   rw [wrapU a1 (by omega)]; simp
  ·unfold dRem
   rw [e, cond_true, Int.tmod_eq_emod_of_nonneg (by omega)]; simp
 ·have e : (((h : Nat) : Int) == 0) = false := by simp; omega
  obtain ⟨b1, b2, b3⟩ := bitLen_bounds z hz' (by omega)
  have b4 := Lib.bitLen_le z 64 (by omega) hz'
  generalize hL : Lib.bitLen z = L at *
  have s1 : dS z = ((64 - L : Nat) : Int) := by
   unfold dS
   rw [Int.toNat_natCast, hL, wrapU (by omega) (by omega)]; omega
  have s2 : dP z = ((2 ^ (64 - L) : Nat) : Int) := by
   unfold dP
   rw [s1, Int.toNat_natCast, show IntKind.u64.bits = 64 from rfl, Nat.min_eq_left (by omega)]
   simp
  have s3 : IntKind.u64.wrap (64 - dS z) = (L : Int) := by rw [s1, wrapU (by omega) (by omega)]; omega
  have s4 : ((2 : Int) ^ min (IntKind.u64.wrap (64 - dS z)).toNat IntKind.u64.bits) = ((2 ^ L : Nat) : Int) := by
   rw [s3, Int.toNat_natCast, show IntKind.u64.bits = 64 from rfl, Nat.min_eq_left b4]
   simp
  have pr : 2 ^ L * 2 ^ (64 - L) = 18446744073709551616 := by rw [← Nat.pow_add, show L + (64 - L) = 64 by omega]
  have pr2 : 2 ^ (L - 1) * 2 ^ (64 - L) = 9223372036854775808 := by rw [← Nat.pow_add, show L - 1 + (64 - L) = 63 by omega]
  have hPpos : 0 < 2 ^ (64 - L) := Nat.pow_pos (by omega)
  have hRpos : 0 < 2 ^ L := Nat.pow_pos (by omega)
  have hlt2 : ∀ x : Nat, x < 2 ^ (64 - L) → 2 ^ (64 - L) * h + x = 2 ^ (64 - L) * h ||| x := fun x hx => Nat.two_pow_add_eq_or_of_lt hx h
  generalize hPn : 2 ^ (64 - L) = Pn at *
  generalize hR : 2 ^ L = R at *
  generalize hR1 : 2 ^ (L - 1) = R1 at *
  have Y1 : 9223372036854775808 ≤ z * Pn := by rw [← pr2]; exact Nat.mul_le_mul_right _ b1
  have Y2 : z * Pn < 18446744073709551616 := by rw [← pr]; exact Nat.mul_lt_mul_of_pos_right b2 hPpos
  have hYe : dY z = ((z * Pn : Nat) : Int) := by
   unfold dY
   rw [s2, ← Int.natCast_mul, wrapU (by omega) (by omega)]
  have hhP : h * Pn < z * Pn := Nat.mul_lt_mul_of_pos_right hz hPpos
  have hlR : l / R < Pn := by rw [Nat.div_lt_iff_lt_mul hRpos, Nat.mul_comm, pr]; exact hl
  have hU : dU32 h l z = ((h * Pn + l / R : Nat) : Int) := by
   unfold dU32
   rw [s4, s2, Int.fdiv_eq_ediv_of_nonneg _ (by omega), ← Int.natCast_mul, ← Int.natCast_ediv, wrapU (n := ((h * Pn : Nat) : Int)) (by omega) (by omega), dOr_eq _ _ (by omega) (Nat.lt_of_le_of_lt (Nat.div_le_self _ _) hl)]
   have := hlt2 (l / R) hlR
   rw [Nat.mul_comm Pn h] at this
   rw [this]
  have hlm := Nat.div_add_mod l R
  have hlm2 := Nat.mod_lt l hRpos
  have hlP : l * Pn = l / R * 18446744073709551616 + l % R * Pn := by
   conv => lhs; rw [← hlm]
   rw [Nat.add_mul, Nat.mul_comm R, Nat.mul_assoc, pr]
  have hlP2 : l % R * Pn < 18446744073709551616 := by rw [← pr]; exact Nat.mul_lt_mul_of_pos_right hlm2 hPpos
  have hU10 : dU10 l z = ((l % R * Pn : Nat) : Int) := by
   unfold dU10
   rw [s2, ← Int.natCast_mul, hlP, IntKind.wrap_u64]
   omega
  generalize hV : l % R * Pn = V at *
  generalize hUn : h * Pn + l / R = U at *
  have hN : (h * 18446744073709551616 + l) * Pn = U * 18446744073709551616 + V := by
   rw [Nat.add_mul, hlP, ← hUn, Nat.add_mul, Nat.mul_assoc, Nat.mul_comm 18446744073709551616 Pn, ← Nat.mul_assoc]; omega
  have hUY : U < z * Pn := by
   have : (h * 18446744073709551616 + l) * Pn < z * 18446744073709551616 * Pn := Nat.mul_lt_mul_of_pos_right (by omega) hPpos
   rw [hN, Nat.mul_assoc, Nat.mul_comm 18446744073709551616 Pn, ← Nat.mul_assoc] at this
   omega
  generalize hY : z * Pn = Y at *
  have hU1 : dU1 l z = ((V / 4294967296 : Nat) : Int) := by
   unfold dU1; rw [hU10, dH_eq, Int.fdiv_eq_ediv_of_nonneg _ (by omega)]; omega
  have hU0 : dU0 l z = ((V % 4294967296 : Nat) : Int) := by unfold dU0; rw [hU10, dLow_eq _ hlP2]
  obtain ⟨p1, p2, p3, p4⟩ := step_ok (u := (U : Int)) (d := ((V / 4294967296 : Nat) : Int)) hYe (by omega) (by omega) (by omega) (by omega) (by omega) (by omega)
  have hU21 : dU21 h l z = ((U : Int) * 4294967296 + ((V / 4294967296 : Nat) : Int)) % (Y : Int) := by unfold dU21; rw [hU, hU1]; exact p3
  have e1 := Int.mul_ediv_add_emod ((U : Int) * 4294967296 + ((V / 4294967296 : Nat) : Int)) (Y : Int)
  have e3 := Int.emod_nonneg ((U : Int) * 4294967296 + ((V / 4294967296 : Nat) : Int)) (show (Y : Int) ≠ 0 by omega)
  have e4 := Int.emod_lt_of_pos ((U : Int) * 4294967296 + ((V / 4294967296 : Nat) : Int)) (show (0 : Int) < Y by omega)
  have a0 := Int.ediv_nonneg (show (0 : Int) ≤ (U : Int) * 4294967296 + ((V / 4294967296 : Nat) : Int) by omega) (show (0 : Int) ≤ Y by omega)
  have a1 : ((U : Int) * 4294967296 + ((V / 4294967296 : Nat) : Int)) / Y < 4294967296 := Int.ediv_lt_of_lt_mul (by omega) (by omega)
  rw [← hU21] at e1 e3 e4
  obtain ⟨q1, q2, q3, _⟩ := step_ok (u := dU21 h l z) (d := ((V % 4294967296 : Nat) : Int)) hYe (by omega) (by omega) e3 e4 (by omega) (by omega)
  have f1 := Int.mul_ediv_add_emod (dU21 h l z * 4294967296 + ((V % 4294967296 : Nat) : Int)) (Y : Int)
  have f3 := Int.emod_nonneg (dU21 h l z * 4294967296 + ((V % 4294967296 : Nat) : Int)) (show (Y : Int) ≠ 0 by omega)
  have f4 := Int.emod_lt_of_pos (dU21 h l z * 4294967296 + ((V % 4294967296 : Nat) : Int)) (show (0 : Int) < Y by omega)
  have c0 := Int.ediv_nonneg (show (0 : Int) ≤ dU21 h l z * 4294967296 + ((V % 4294967296 : Nat) : Int) by omega) (show (0 : Int) ≤ Y by omega)
  have c1 : (dU21 h l z * 4294967296 + ((V % 4294967296 : Nat) : Int)) / Y < 4294967296 := Int.ediv_lt_of_lt_mul (by omega) (by omega)
  generalize hA : ((U : Int) * 4294967296 + ((V / 4294967296 : Nat) : Int)) / (Y : Int) = A at *
  generalize hB : (dU21 h l z * 4294967296 + ((V % 4294967296 : Nat) : Int)) / (Y : Int) = B at *
  generalize hM : (dU21 h l z * 4294967296 + ((V % 4294967296 : Nat) : Int)) % (Y : Int) = M at *
  have hNI : ((h : Int) * 18446744073709551616 + l) * Pn = (U : Int) * 18446744073709551616 + V := by
   have := congrArg (fun n : Nat => (n : Int)) hN
   simp only [Int.natCast_mul, Int.natCast_add, Int.cast_ofNat_Int] at this
   exact this
  have hYI : (z : Int) * Pn = Y := by rw [← Int.natCast_mul, hY]
  have tot : ((h : Int) * 18446744073709551616 + l) * Pn = Y * (A * 4294967296 + B) + M := by
   rw [hNI, Int.mul_add, ← Int.mul_assoc]
   omega
  have hdiv : ((h : Int) * 18446744073709551616 + l) / z = A * 4294967296 + B := by
   have k1 : ((h : Int) * 18446744073709551616 + l) / z = ((h : Int) * 18446744073709551616 + l) * Pn / (z * Pn) := (Int.mul_ediv_mul_of_pos_left _ _ (by omega)).symm
   rw [k1, hYI, tot, Int.mul_add_ediv_left _ _ (by omega), Int.ediv_eq_zero_of_lt f3 f4]; omega
  have hmod : ((h : Int) * 18446744073709551616 + l) % z * Pn = M := by
   have k1 : ((h : Int) * 18446744073709551616 + l) % z * Pn = (((h : Int) * 18446744073709551616 + l) * Pn) % (z * Pn) := by
    rw [Int.mul_comm _ (Pn : Int), Int.mul_comm _ (Pn : Int), Int.mul_comm _ (Pn : Int), Int.mul_emod_mul_of_pos _ _ (by omega)]
   rw [k1, hYI, tot, Int.mul_add_emod_self_left, Int.emod_eq_of_lt f3 f4]
  refine ⟨⟨?_, ?_, ?_, fun _ => ⟨⟨by omega, by omega⟩, by omega, ⟨by omega, by rw [s3]; omega⟩, by omega, p4, ?_, p4, ?_, by omega⟩⟩, ?_, ?_⟩
  ·simp; omega
  ·simp; omega
  ·rw [e]; intro h; cases h
  ·rw [hU, hU1]; exact p2
  ·rw [hU0]; exact q2
  ·unfold dQuo
   rw [e, cond_false, hU, hU1, p1, hU0, q1, hdiv, wrapU (n := A * 4294967296) (by omega) (by omega), wrapU (by omega) (by omega)]
  ·unfold dRem
   rw [e, cond_false, hU0, q3, s2, Int.fdiv_eq_ediv_of_nonneg _ (by omega), ← hmod]
   exact Int.mul_ediv_cancel _ (by omega)
end Go.Eng
