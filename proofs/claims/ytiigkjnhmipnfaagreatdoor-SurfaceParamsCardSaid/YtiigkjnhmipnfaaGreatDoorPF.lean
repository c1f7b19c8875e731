/- What is proved: SurfaceParams returns true, whatever the input (part 6 of 28). No conditions beyond those of the row. -/
import Derived.Test.YtiigkjnhmipnfaaGreatDoorPE
import Derived.Laws.Bits64b
import Derived.Lib.BitFns
set_option linter.unusedVariables false
set_option linter.unusedSimpArgs false
set_option linter.unusedSectionVars false
namespace Go.Eng
open Go
noncomputable section
abbrev NSpec := List AV → Hp → Option (Nd × AV × List ABody)
structure NOk (P : Program) (glob : Nat → Option Nat) (hG : Hp) (f : FuncId) (spec : NSpec) : Prop where
 call : ∀ args nd v bs h, spec args h = some (nd, v, bs) → globsSame hG h hG.size = true → CallOk (mkM P glob hG [] noExt) f args h ⟨nd, [⟨.tt, v, pushAll h bs⟩]⟩
 fn : ∃ fn : Func, P.funcs[f]? = some fn ∧ fn.body.isSome = true
def hN (s : HSpec) : NSpec := fun args h => match s args h with
 | some (nd, v) => some (nd, v, [])
 | none => none
theorem HOk.n {P : Program} {glob : Nat → Option Nat} {hG : Hp} {f : FuncId} {s : HSpec} (g : HOk P glob hG f s) : NOk P glob hG f (hN s) := by
 refine ⟨fun args nd v bs h e same => ?_, g.fn⟩
 unfold hN at e
 split at e
 ·rename_i nd' v' h1
  cases e
  exact g.call args nd v h h1 same
 ·cases e
noncomputable def dropR {α : Type} (l : List α) (n : Nat) : List α :=
 List.rec (motive := fun _ => Nat → List α) (fun _ => []) (fun a l ih n => Nat.rec (motive := fun _ => List α) (a :: l) (fun m _ => ih m) n) l n
theorem dropR_eq {α : Type} : ∀ (l : List α) (n : Nat), dropR l n = l.drop n
 | [], n => by cases n <;> rfl
 | a :: l, 0 => rfl
 | a :: l, n + 1 => (dropR_eq l n).trans rfl
def samesB : Nat → List ABlk → List ABlk → Bool
 | 0, _, _ => true
 | n + 1, a :: l, b :: m => sameBody a.body b.body && samesB n l m
 | _, _, _ => false
theorem samesB_get : ∀ {n : Nat} {l m : List ABlk}, samesB n l m = true → ∀ j, j < n → ∃ b c, l[j]? = some b ∧ m[j]? = some c ∧ sameBody b.body c.body = true
 | 0, _, _, _, j, hj => absurd hj (Nat.not_lt_zero j)
 | n + 1, [], _, e, _, _ => by cases e
 | n + 1, _ :: _, [], e, _, _ => by cases e
 | n + 1, a :: l, b :: m, e, j, hj => by
  simp only [samesB, Bool.and_eq_true] at e
  cases j with
  | zero => exact ⟨a, b, rfl, rfl, e.1⟩
  | succ j =>
   obtain ⟨b', c', h1, h2, h3⟩ := samesB_get e.2 j (by omega)
   exact ⟨b', c', by simpa using h1, by simpa using h2, h3⟩
def globsF (hG h : Hp) : Bool := match Nat.ble hG.size h.size with
 | true => samesB hG.size (dropR h.blks (h.size - hG.size)) hG.blks
 | false => false
theorem globsF_same {hG h : Hp} (e : globsF hG h = true) : globsSame hG h hG.size = true := by
 unfold globsF at e
 split at e
 ·rename_i hb
  have hb := Nat.le_of_ble_eq_true hb
  have key : ∀ n, n ≤ hG.size → globsSame hG h n = true := by
   intro n
   induction n with
   | zero => intro _; rfl
   | succ n ih =>
    intro hn
    obtain ⟨b, c, h1, h2, h3⟩ := samesB_get e (hG.size - 1 - n) (by omega)
    rw [dropR_eq, List.getElem?_drop] at h1
    have e1 : h.get n = some b := by
     unfold Hp.get
     have : Nat.ble h.size n = false := by rw [Bool.eq_false_iff]; intro k; have := Nat.le_of_ble_eq_true k; omega
     have e4 : h.size - 1 - n = h.size - hG.size + (hG.size - 1 - n) := by omega
     rw [this]
     show nth h.blks (h.size - 1 - n) = some b
     rw [nth_eq, e4]
     exact h1
    have e2 : hG.get n = some c := by
     unfold Hp.get
     have : Nat.ble hG.size n = false := by rw [Bool.eq_false_iff]; intro k; have := Nat.le_of_ble_eq_true k; omega
     rw [this]
     show nth hG.blks (hG.size - 1 - n) = some c
     rw [nth_eq]
     exact h2
    simp only [globsSame, ih (by omega), e1, e2, h3, Bool.and_self]
  exact key _ (Nat.le_refl _)
 ·cases e
def conN (hG : Hp) : List (FuncId × NSpec) → FuncId → List AV → Hp → Option (Nd × AV × List ABody)
 | [], _, _, _ => none
 | (g, s) :: l, f, args, h => match Nat.beq f g with
  | true => match s args h with
   | some x => match globsF hG h with
    | true => some x
    | false => none
   | none => conN hG l f args h
  | false => conN hG l f args h
theorem conN_some {hG : Hp} : ∀ {l : List (FuncId × NSpec)} {f : FuncId} {args : List AV} {h : Hp} {x : Nd × AV × List ABody}, conN hG l f args h = some x → globsSame hG h hG.size = true ∧ ∃ s, (f, s) ∈ l ∧ s args h = some x
 | [], _, _, _, _, e => by cases e
 | (g, s) :: l, f, args, h, x, e => by
  simp only [conN] at e
  split at e
  ·rename_i hb
   have := Nat.eq_of_beq_eq_true hb
   subst this
   split at e
   ·rename_i hs
    split at e
    ·rename_i hg
     cases e
     exact ⟨globsF_same hg, s, by simp, hs⟩
    ·cases e
   ·obtain ⟨h2, s', h3, h4⟩ := conN_some e
    exact ⟨h2, s', by simp [h3], h4⟩
  ·obtain ⟨h2, s', h3, h4⟩ := conN_some e
   exact ⟨h2, s', by simp [h3], h4⟩
def mkN (P : Program) (glob : Nat → Option Nat) (hG : Hp) (tbl : List (FuncId × NSpec)) (tt : List (FuncId × TSpec)) (ext : FuncId → List AV → Option (Nd × AV)) : Ctx := { P, glob, con := conN hG tbl, ext, loop := fun _ _ _ => none, two := twoG hG tt }
theorem mkN_ok {P : Program} {glob : Nat → Option Nat} {hG : Hp} (hp : ProgOk P) {tbl : List (FuncId × NSpec)} {tt : List (FuncId × TSpec)} {ext : FuncId → List AV → Option (Nd × AV)} (he : ExtOk P ext) (ht : ∀ x ∈ tbl, NOk P glob hG x.1 x.2) (h2 : ∀ x ∈ tt, TOk P glob hG x.1 x.2) : CtxOk (mkN P glob hG tbl tt ext) := by
 refine ⟨hp, fun f args h nd v bs e => ?_, he, fun _ _ _ _ e => (by cases e), fun f args h nd p v w e => ?_⟩
 ·obtain ⟨hg, s, h1, h3⟩ := conN_some e
  have g := ht _ h1
  exact ⟨g.call args nd v bs h h3 hg, g.fn⟩
 ·obtain ⟨hg, s, h1, h3⟩ := twoG_some e
  have g := h2 _ h1
  exact ⟨g.call args nd p v w h h3 hg, g.fn⟩
mutual
def tell : AV → AV → Prop
 | .int _ k x, .int _ k' y => k = k' ∧ x = y
 | .bool _ a, .bool _ b => a = b
 | .str _ a, .str _ b => a = b
 | .agg l, .agg m => tellL l m
 | .tuple l, .tuple m => tellL l m
 | .pslice i l _ n, .pslice i' l' _ n' => i = i' ∧ l' ≤ l ∧ n = n'
 | .any _, _ => False
 | a, b => a = b
def tellL : List AV → List AV → Prop
 | [], [] => True
 | a :: l, b :: m => tell a b ∧ tellL l m
 | _, _ => False
end
mutual
theorem tell_rel {σ : Sg} : ∀ (a b : AV) (V : Value), tell a b → VRel σ a V → VRel σ b V
 | .int _ k x, .int _ k' y, V, h, r => by obtain ⟨rfl, rfl⟩ := h; exact r
 | .bool _ a, .bool _ b, V, h, r => by obtain rfl := h; exact r
 | .str _ a, .str _ b, V, h, r => by obtain rfl := h; exact r
 | .pslice i l _ n, .pslice i' l' _ n', V, h, r => by
  obtain ⟨rfl, hl, rfl⟩ := h
  obtain ⟨p, len, c, e1, e2, e3, e4⟩ := r
  exact ⟨p, len, c, e1, e2, Nat.le_trans hl e3, e4.imp (fun h0 => by omega) id⟩
 | .agg l, .agg m, V, h, r => by obtain ⟨K, rfl, hK⟩ := r; exact ⟨K, rfl, tellL_rel l m _ h hK⟩
 | .tuple l, .tuple m, V, h, r => by obtain ⟨K, rfl, hK⟩ := r; exact ⟨K, rfl, tellL_rel l m _ h hK⟩
 | a, b, V, h, r => by
  unfold tell at h
  split at h <;> first
   | (subst h; exact r)
   | exact h.elim
   | (obtain ⟨rfl, rfl⟩ := h; exact r)
   | (
     obtain ⟨rfl, hl, rfl⟩ := h
     obtain ⟨p, len, c, e1, e2, e3, e4⟩ := r
     exact ⟨p, len, c, e1, e2, Nat.le_trans hl e3, e4.imp (fun h0 => by omega) id⟩)
   | (obtain ⟨K, rfl, hK⟩ := r; exact ⟨K, rfl, tellL_rel _ _ _ h hK⟩)
theorem tellL_rel {σ : Sg} : ∀ (l m : List AV) (L : List Value), tellL l m → VRels σ l L → VRels σ m L
 | [], [], L, _, r => r
 | a :: l, b :: m, L, h, r => by
  obtain ⟨v, vs, rfl, h1, h2⟩ := r
  exact ⟨v, vs, rfl, tell_rel a b v h.1 h1, tellL_rel l m vs h.2 h2⟩
 | [], _ :: _, _, h, _ => h.elim
 | _ :: _, [], _, h, _ => h.elim
end
theorem glob_rel {hG : Hp} (ok : hG.ok) (pl : blksPlain hG.size hG.blks = true) {h : Hp} (same : globsSame hG h hG.size = true) {σ : Sg} {W : World} (r : HRel σ h W) : HRel (σ.low hG.size) hG W := by
 have gs := globsSame_get same
 refine ⟨ok, fun i c hg hd => ?_, fun i B N e => ?_, fun i j b c B N M hb hc' hd hd' e1 e2 => ?_⟩
 ·have hi := Hp.get_lt hg
  obtain ⟨b, c', hb, hc', hbc⟩ := gs i hi
  rw [hg] at hc'; cases hc'
  obtain ⟨B, N, o, q1, q2, q3⟩ := r.blk i b hb (by rw [hbc]; exact hd)
  refine ⟨B, N, o, by simp [Sg.low, hi, q1], q2, ?_⟩
  rw [hbc] at q3
  exact q3.low (blksPlain_mem pl c (get_mem hg))
 ·unfold Sg.low at e
  split at e
  ·rename_i hi
   exact ⟨hi, (r.dom i B N e).2⟩
  ·cases e
 ·have hi := Hp.get_lt hb
  have hj := Hp.get_lt hc'
  obtain ⟨b1, b2, p1, p2, p3⟩ := gs i hi
  obtain ⟨c1, c2, q1, q2, q3⟩ := gs j hj
  rw [hb] at p2; cases p2
  rw [hc'] at q2; cases q2
  have := r.inj i j b1 c1 B N M p1 q1 (by rw [p3]; exact hd) (by rw [q3]; exact hd') (Sg.low_sub σ _ _ _ e1) (Sg.low_sub σ _ _ _ e2)
  rw [p3, q3] at this
  exact this
def viewB (ik : IntKind) : List Int → ABody
 | [] => .dead
 | x :: l => .view ((x :: l).map fun n => .int true ik n)
def bodyB (raw : Bool) (ik : IntKind) (xs : List Int) : ABody :=
 match raw with
 | true => .rows ik xs
 | false => viewB ik xs
def viewsH (raw : Bool) (h : Hp) : List (IntKind × List Int) → Hp
 | [] => h
 | (ik, xs) :: l => viewsH raw (h.push0 (bodyB raw ik xs)) l
theorem viewsH_clock {raw : Bool} : ∀ (l : List (IntKind × List Int)) (h : Hp), (viewsH raw h l).clock = h.clock
 | [], _ => rfl
 | (_, _) :: l, h => viewsH_clock l (h.push0 _)
theorem bodyB_nil {raw : Bool} {ik : IntKind} : (bodyB raw ik []).isDead = true := by cases raw <;> rfl
theorem bodyB_view {raw : Bool} {ik : IntKind} {y : Int} {ys : List Int} : (bodyB raw ik (y :: ys)).isView = true := by cases raw <;> rfl
def Apart (ρ : Sg) (h : Hp) (B : Nat) : Prop := ∀ i b M, h.get i = some b → b.body.isDead = false → ρ i = some (B, M) → b.body.isView = true
theorem rows_view {τ : Sg} {N : Nat} {ik : IntKind} {xs : List Int} {o : Obj} (h : BRel τ N (.rows ik xs) o) : BRel τ N (.view (xs.map fun n => .int true ik n)) o := by
 obtain ⟨K, e, fr, rfl, h1⟩ := h
 refine ⟨K, e, fr, rfl, ?_⟩
 rw [List.length_map, h1]
 have rels : ∀ l : List Int, VRels τ (l.map fun n => .int true ik n) (l.map (Value.int ik)) := by
  intro l
  induction l with
  | nil => exact rfl
  | cons a l ih => exact ⟨_, _, rfl, rfl, ih⟩
 exact rels xs
theorem add_cases {ρ : Sg} {n : Nat} {x : Nat × Nat} {i : Nat} {y : Nat × Nat} (e : (ρ.add n x) i = some y) : (i = n ∧ y = x) ∨ (i ≠ n ∧ ρ i = some y) := by
 unfold Sg.add at e
 split at e
 ·rename_i hi; cases e; exact .inl ⟨hi, rfl⟩
 ·rename_i hi; exact .inr ⟨hi, e⟩
theorem view_add {ρ : Sg} {h0 : Hp} {W : World} (r : HRel ρ h0 W) {B N : Nat} {b : ABody} {o : Obj} (hv : b.isView = true) (ho : W.heap[B]? = some o) (hb : BRel (ρ.add h0.size (B, N)) N b o) (ap : Apart ρ h0 B) :
  HRel (ρ.add h0.size (B, N)) (h0.push0 b) W := by
 have hs := Sub.add (x := (B, N)) r.fresh
 have hB : B < W.heap.size := by
  rcases Nat.lt_or_ge B W.heap.size with h1 | h1
  ·exact h1
  ·rw [Array.getElem?_eq_none h1] at ho; cases ho
 refine ⟨by have := r.ok; simp only [Hp.ok, Hp.push0, List.length_cons] at this ⊢; omega, fun i c hg hd => ?_, fun i B' M e => ?_, fun i j c d B' M M' hg hg' hd hd' e1 e2 => ?_⟩
 ·rw [Hp.get_push0] at hg
  split at hg
  ·rename_i hi; subst hi; cases hg
   exact ⟨B, N, o, add_here, ho, hb⟩
  ·obtain ⟨B', M, p, h1, h2, h3⟩ := r.blk i c hg hd
   exact ⟨B', M, p, hs _ _ h1, h2, h3.mono hs⟩
 ·rcases add_cases e with ⟨rfl, hx⟩ | ⟨hi, hx⟩
  ·cases hx; exact ⟨Nat.lt_succ_self _, hB⟩
  ·have := r.dom i B' M hx
   exact ⟨Nat.lt_succ_of_lt this.1, this.2⟩
 ·rw [Hp.get_push0] at hg hg'
  rcases add_cases e1 with ⟨rfl, hx⟩ | ⟨hi, hx⟩ <;> rcases add_cases e2 with ⟨rfl, hy⟩ | ⟨hj, hy⟩
  ·exact .inl rfl
  ·cases hx
   rw [if_pos rfl] at hg; cases hg
   rw [if_neg hj] at hg'
   exact .inr ⟨hv, ap j d M' hg' hd' hy⟩
  ·cases hy
   rw [if_pos rfl] at hg'; cases hg'
   rw [if_neg hi] at hg
   exact .inr ⟨ap i c M hg hd hx, hv⟩
  ·rw [if_neg hi] at hg
   rw [if_neg hj] at hg'
   exact r.inj i j c d B' M M' hg hg' hd hd' hx hy
theorem view_dead {ρ : Sg} {h0 : Hp} {W : World} (r : HRel ρ h0 W) {b : ABody} (hb : b.isDead = true) : HRel ρ (h0.push0 b) W := by
 refine ⟨by have := r.ok; simp only [Hp.ok, Hp.push0, List.length_cons] at this ⊢; omega, fun i c hg hd => ?_, fun i B' M e => ?_, fun i j c d B' M M' hg hg' hd hd' e1 e2 => ?_⟩
 ·rw [Hp.get_push0] at hg
  split at hg
  ·cases hg; rw [show _ = _ from hb] at hd; cases hd
  ·exact r.blk i c hg hd
 ·have := r.dom i B' M e
  exact ⟨Nat.lt_succ_of_lt this.1, this.2⟩
 ·rw [Hp.get_push0] at hg hg'
  rw [if_neg (Nat.ne_of_lt (r.dom i _ _ e1).1)] at hg
  rw [if_neg (Nat.ne_of_lt (r.dom j _ _ e2).1)] at hg'
  exact r.inj i j c d B' M M' hg hg' hd hd' e1 e2
theorem Apart.add {ρ : Sg} {h0 : Hp} {B B' N : Nat} {b : ABody} (hv : b.isView = true) (ap : Apart ρ h0 B') : Apart (ρ.add h0.size (B, N)) (h0.push0 b) B' := by
 intro i c M hg hd e
 rw [Hp.get_push0] at hg
 rcases add_cases e with ⟨rfl, hx⟩ | ⟨hi, hx⟩
 ·rw [if_pos rfl] at hg; cases hg; exact hv
 ·rw [if_neg hi] at hg
  exact ap i c M hg hd hx
theorem Apart.dead {ρ : Sg} {h0 : Hp} {B' : Nat} {b : ABody} (hb : b.isDead = true) (ap : Apart ρ h0 B') : Apart ρ (h0.push0 b) B' := by
 intro i c M hg hd e
 rw [Hp.get_push0] at hg
 split at hg
 ·cases hg; rw [show _ = _ from hb] at hd; cases hd
 ·exact ap i c M hg hd e
theorem body_rel {raw : Bool} {τ : Sg} {N : Nat} {ik : IntKind} {y : Int} {ys : List Int} {o : Obj} (h : BRel τ N (.rows ik (y :: ys)) o) : BRel τ N (bodyB raw ik (y :: ys)) o := by
 cases raw with
 | true => exact h
 | false => exact rows_view h
theorem views_rel {raw : Bool} {σ : Sg} {W : World} : ∀ (l : List (Nat × IntKind × List Int)) (ρ : Sg) (h0 : Hp), HRel ρ h0 W →
  (∀ x ∈ l, x.2.2 = [] ∨ ∃ B N o, σ x.1 = some (B, N) ∧ W.heap[B]? = some o ∧ (∀ τ, BRel τ N (.rows x.2.1 x.2.2) o) ∧ Apart ρ h0 B) →
  ∃ ρ', HRel ρ' (viewsH raw h0 (l.map (·.2))) W ∧ Sub ρ ρ' ∧ ∀ j x, l[j]? = some x → x.2.2 ≠ [] → ρ' (h0.size + j) = σ x.1
 | [], ρ, h0, r, _ => ⟨ρ, r, Sub.refl _, fun j x e => by simp at e⟩
 | (id, ik, xs) :: l, ρ, h0, r, h => by
  have hx := h (id, ik, xs) (by simp)
  cases xs with
  | nil =>
   obtain ⟨ρ', r', s', h'⟩ := views_rel l ρ (h0.push0 (bodyB raw ik [])) (view_dead r bodyB_nil) (fun x hx => by
    rcases h x (by simp [hx]) with h1 | ⟨B, N, o, a1, a2, a3, a4⟩
    ·exact .inl h1
    ·exact .inr ⟨B, N, o, a1, a2, a3, a4.dead bodyB_nil⟩)
   refine ⟨ρ', r', s', fun j x e hne => ?_⟩
   cases j with
   | zero => simp at e; subst e; exact absurd rfl hne
   | succ j =>
    have := h' j x (by simpa using e) hne
    rw [← this]
    congr 1
    show _ = h0.size + 1 + j
    omega
  | cons y ys =>
   rcases hx with hx | ⟨B, N, o, a1, a2, a3, a4⟩
   ·cases hx
   ·obtain ⟨ρ', r', s', h'⟩ := views_rel l (ρ.add h0.size (B, N)) (h0.push0 (bodyB raw ik (y :: ys))) (view_add r bodyB_view a2 (body_rel (a3 _)) a4) (fun x hx => by
     rcases h x (by simp [hx]) with h1 | ⟨B', N', o', b1, b2, b3, b4⟩
     ·exact .inl h1
     ·exact .inr ⟨B', N', o', b1, b2, b3, b4.add bodyB_view⟩)
    refine ⟨ρ', r', (Sub.add r.fresh).trans s', fun j x e hne => ?_⟩
    cases j with
    | zero =>
     simp at e; subst e
     rw [Nat.add_zero, s' _ _ (add_here (σ := ρ) (x := (B, N)))]
     exact a1.symm
    | succ j =>
     have := h' j x (by simpa using e) hne
     rw [← this]
     congr 1
     show _ = h0.size + 1 + j
     omega
inductive Pa where
 | n (sh : Sh)
 | s (shs : List Sh) (ik : IntKind)
inductive Itm where
 | n (xs : List Nu)
 | s (xs : List Nu) (n : Int) (ys : List Int)
def readA (hG h : Hp) : List Pa → List AV → Option (List (Nat × IntKind × List Int) × List Itm)
 | [], [] => some ([], [])
 | .n sh :: ps, v :: vs => match Sh.read sh v with
  | none => none
  | some (_, xs) => match readA hG h ps vs with
   | none => none
   | some (ls, its) => some (ls, .n xs :: its)
 | .s shs ik :: ps, v :: vs => match v with
  | .agg cells => match splitL cells with
   | some (init, .lslice id n) => match h.get id with
    | some ⟨_, .rows ik' ys⟩ => match decide (ik = ik') && Nat.ble hG.size id with
     | true => match Sh.readL shs init with
      | none => none
      | some (_, xs) => match readA hG h ps vs with
       | none => none
       | some (ls, its) => some ((id, ik, ys) :: ls, .s xs n ys :: its)
     | false => none
    | _ => none
   | _ => none
  | _ => none
 | _, _ => none
def lists : List Pa → List Itm → List (IntKind × List Int)
 | .n _ :: ps, .n _ :: is => lists ps is
 | .s _ ik :: ps, .s _ _ ys :: is => (ik, ys) :: lists ps is
 | _, _ => []
def listA (raw : Bool) (j : Nat) (n : Int) : AV :=
 match raw with
 | true => .lslice j n
 | false => .pslice j n.toNat false n
def mkA (raw : Bool) (j : Nat) : List Pa → List Itm → List AV
 | .n sh :: ps, .n xs :: is => (Sh.mk sh xs).1 :: mkA raw j ps is
 | .s shs _ :: ps, .s xs n _ :: is => .agg ((Sh.mkL shs xs).1 ++ [listA raw j n]) :: mkA raw (j + 1) ps is
 | _, _ => []
def inits : List Pa → List Itm → List AV
 | .n sh :: ps, .n xs :: is => (Sh.mk sh xs).1 :: inits ps is
 | .s shs _ :: ps, .s xs _ _ :: is => (Sh.mkL shs xs).1 ++ inits ps is
 | _, _ => []
def okIts : List Itm → Prop
 | [] => True
 | .n _ :: l => okIts l
 | .s _ n ys :: l => (ys = [] → n = 0) ∧ okIts l
theorem underL_app {n : Nat} : ∀ {l m : List AV}, AV.underL n (l ++ m) = (AV.underL n l && AV.underL n m)
 | [], m => by simp [AV.underL]
 | a :: l, m => by simp only [List.cons_append, AV.underL, underL_app, Bool.and_assoc]
theorem readA_rel {raw : Bool} {hG h : Hp} : ∀ (ps : List Pa) (args : List AV) (ls : List (Nat × IntKind × List Int)) (its : List Itm), readA hG h ps args = some (ls, its) →
  ls.map (·.2) = lists ps its ∧ (∀ x ∈ ls, hG.size ≤ x.1 ∧ ∃ w, h.get x.1 = some ⟨w, .rows x.2.1 x.2.2⟩) ∧
  ∀ (σ ρ : Sg) (j : Nat) (L : List Value), Sub (σ.low hG.size) ρ → (∀ i x, ls[i]? = some x → x.2.2 ≠ [] → ρ (j + i) = σ x.1) → okIts its → AV.underL hG.size (inits ps its) = true → VRels σ args L → VRels ρ (mkA raw j ps its) L
 | [], [], ls, its, e => by
  cases e
  exact ⟨rfl, by simp, fun σ ρ j L _ _ _ _ h => h⟩
 | .n sh :: ps, v :: vs, ls, its, e => by
  simp only [readA] at e
  split at e
  ·cases e
  ·rename_i s xs h1
   split at e
   ·cases e
   ·rename_i ls' its' h2
    cases e
    obtain ⟨a1, a2, a3⟩ := readA_rel ps vs _ _ h2
    refine ⟨a1, a2, fun σ ρ j L hs hj hok hu hL => ?_⟩
    obtain ⟨V, L', rfl, q1, q2⟩ := hL
    simp only [inits, AV.underL, Bool.and_eq_true] at hu
    have := (Sh.read_mk sh v s xs [] h1).2 σ V q1
    rw [List.append_nil] at this
    exact ⟨V, L', rfl, VRel.mono hs _ _ (VRel.low _ _ this hu.1), a3 σ ρ j L' hs hj hok hu.2 q2⟩
 | .s shs ik :: ps, v :: vs, ls, its, e => by
  simp only [readA] at e
  split at e
  ·rename_i cells
   split at e
   ·rename_i init id n hsp
    split at e
    ·rename_i w ik' ys hid
     split at e
     ·rename_i hb
      simp only [Bool.and_eq_true, decide_eq_true_eq] at hb
      obtain ⟨rfl, hb⟩ := hb
      have hge := Nat.le_of_ble_eq_true hb
      split at e
      ·cases e
      ·rename_i s xs h1
       split at e
       ·cases e
       ·rename_i ls' its' h2
        cases e
        obtain ⟨a1, a2, a3⟩ := readA_rel ps vs _ _ h2
        refine ⟨by simp [lists, a1], fun x hx => ?_, fun σ ρ j L hs hj hok hu hL => ?_⟩
        ·rcases List.mem_cons.1 hx with rfl | hx
         ·exact ⟨hge, w, hid⟩
         ·exact a2 x hx
        ·obtain ⟨V, L', rfl, q1, q2⟩ := hL
         simp only [inits, underL_app, Bool.and_eq_true] at hu
         obtain ⟨K, rfl, hK⟩ := q1
         rw [splitL_eq hsp] at hK
         obtain ⟨I, Z, hIZ, k1, k2⟩ := rels_split hK
         obtain ⟨zv, zl, rfl, k3, k4⟩ := k2
         obtain rfl : zl = [] := k4
         have k5 := (Sh.readL_mk shs init s xs [] h1).2 σ I k1
         rw [List.append_nil] at k5
         have k6 := VRels.mono hs _ _ (VRels.low _ _ k5 hu.1)
         obtain ⟨p, len, c, rfl, hl, hp⟩ := k3
         refine ⟨_, L', rfl, ⟨K, rfl, ?_⟩, a3 σ ρ (j + 1) L' hs (fun i x hx hne => ?_) hok.2 hu.2 q2⟩
         ·rw [hIZ]
          refine VRels.append k6 ⟨_, [], rfl, ?_, rfl⟩
          have hp' : len = 0 ∨ ∃ B N, ρ j = some (B, N) ∧ p = some ⟨B, N, none⟩ := by
           rcases hp with hp | ⟨B, N, e1, e2⟩
           ·exact .inl hp
           ·by_cases h0 : n = 0
            ·left; omega
            ·have hne : ys ≠ [] := fun hh => h0 (hok.1 hh)
             have := hj 0 (id, ik, ys) rfl hne
             rw [Nat.add_zero] at this
             exact .inr ⟨B, N, by rw [this]; exact e1, e2⟩
          cases raw with
          | true => exact ⟨p, len, c, rfl, hl, hp'⟩
          | false => exact ⟨p, len, c, rfl, hl, by omega, hp'.imp (fun h0 => by omega) _root_.id⟩
         ·have := hj (i + 1) x (by simpa using hx) hne
          rw [← this]
          congr 1
          omega
     ·cases e
    ·cases e
   ·cases e
  ·cases e
 | [], _ :: _, _, _, e => by simp [readA] at e
 | .n _ :: _, [], _, _, e => by simp [readA] at e
 | .s _ _ :: _, [], _, _, e => by simp [readA] at e
def lSpec (hG : Hp) (ps : List Pa) (V : Nat → List Itm → Option (Prop × AV × List ABody)) : NSpec := fun args h =>
 match readA hG h ps args with
 | none => none
 | some (_, its) => match V h.size its with
  | none => none
  | some (p, v, bs) => some (.p p, v, bs)
theorem lsp_ok (raw : Bool) {P : Program} {glob : Nat → Option Nat} {hG : Hp} (ok : hG.ok) (pl : blksPlain hG.size hG.blks = true) (hgl : ∀ g i, glob g = some i → i < hG.size) {f : FuncId} {ps : List Pa} {V : Nat → List Itm → Option (Prop × AV × List ABody)}
  (h : ∀ sz its p v bs, V sz its = some (p, v, bs) → p → okIts its ∧ AV.underL hG.size (inits ps its) = true ∧ ∃ (C : Ctx) (n : Nat) (as : List AV) (nd0 : Nd) (v0 : AV) (k : Hp), CtxOk C ∧ C.P = P ∧ C.glob = glob ∧ tellL (mkA raw hG.size ps its) as ∧
   (run C n).call f as (viewsH raw hG (lists ps its)) = some ⟨nd0, [⟨.tt, v0, k⟩]⟩ ∧ v0.isPanic = false ∧ nd0.val ∧ allOld hG.clock (dropN (k.size - (viewsH raw hG (lists ps its)).size) k.blks) = true ∧ Tells (viewsH raw hG (lists ps its)).size k v0 sz v bs)
  (fn : ∃ fn : Func, P.funcs[f]? = some fn ∧ fn.body.isSome = true) : NOk P glob hG f (lSpec hG ps V) := by
 refine ⟨fun args nd v bs h' e same => ?_, fn⟩
 unfold lSpec at e
 split at e
 ·cases e
 ·rename_i ls its hr
  split at e
  ·cases e
  ·rename_i p v' bs' hV
   cases e
   obtain ⟨a1, a2, a3⟩ := readA_rel ps args ls its hr
   refine ref_call fun σ A W g r hA hn => ?_
   obtain ⟨b1, b2, C, n, as, nd0, v0, k, co, rfl, rfl, ht, hrun, hp, hn0, hold, tl⟩ := h _ _ _ _ _ hV hn
   have gs := globsSame_get same
   obtain ⟨ρ, r0, sub, hj⟩ := views_rel (raw := raw) (σ := σ) ls (σ.low hG.size) hG (glob_rel ok pl same r) (fun x hx => by
    obtain ⟨hge, w, hid⟩ := a2 x hx
    by_cases hne : x.2.2 = []
    ·exact .inl hne
    ·right
     have hd : (ABody.rows x.2.1 x.2.2).isDead = false := by
      cases hxs : x.2.2 with
      | nil => exact absurd hxs hne
      | cons y ys => rfl
     obtain ⟨B, N, o, h1, h2, h3⟩ := r.blk x.1 _ hid hd
     refine ⟨B, N, o, h1, h2, fun τ => h3, fun i b M hg hdb e1 => ?_⟩
     have hi := Hp.get_lt hg
     obtain ⟨b', c', hb', hc', hbc⟩ := gs i hi
     rw [hg] at hc'; cases hc'
     rcases r.inj i x.1 b' _ B M N hb' hid (by rw [hbc]; exact hdb) hd (Sg.low_sub σ _ _ _ e1) h1 with h8 | ⟨h8, _⟩
     ·omega
     ·rw [hbc] at h8; exact h8)
   rw [a1] at r0
   refine ⟨C, n, _, as, ρ, nd0, v0, k, co, rfl, rfl, r0, fun gl i hgi => ?_, tellL_rel _ _ _ ht (a3 σ ρ hG.size A.toList sub hj b1 b2 hA), hrun, hp, hn0, by rw [viewsH_clock]; exact hold, tl⟩
   obtain ⟨N, hN⟩ := g gl i hgi
   exact ⟨N, sub _ _ (by simp [Sg.low, hgl gl i hgi, hN])⟩
def outL (lo c size : Nat) (ik : IntKind) : Option CR → Option (Nd × List AV × Nat × List Int)
 | some ⟨nd, [⟨.tt, .agg cells, k⟩]⟩ => match splitL cells with
  | some (init, x) => match cellsOfV k (size + 1) x with
   | some (n, cs) => match intsOf ik cs with
    | some xs => match newId lo x && allOld c (dropN (k.size - lo) k.blks) with
     | true => some (nd, init, n, xs)
     | false => none
    | none => none
   | none => none
  | none => none
 | _ => none
mutual
def AV.num : AV → Bool
 | .int _ _ _ => true
 | .bool _ _ => true
 | .str _ _ => true
 | .agg l => AV.numL l
 | .tuple l => AV.numL l
 | _ => false
def AV.numL : List AV → Bool
 | [] => true
 | a :: l => a.num && AV.numL l
end
mutual
theorem num_rel {σ τ : Sg} : ∀ (a : AV) (V : Value), a.num = true → VRel σ a V → VRel τ a V
 | .int _ _ _, _, _, h => h
 | .bool _ _, _, _, h => h
 | .str _ _, _, _, h => h
 | .agg l, _, hn, ⟨K, e, h⟩ => ⟨K, e, numL_rel l _ hn h⟩
 | .tuple l, _, hn, ⟨K, e, h⟩ => ⟨K, e, numL_rel l _ hn h⟩
theorem numL_rel {σ τ : Sg} : ∀ (l : List AV) (L : List Value), AV.numL l = true → VRels σ l L → VRels τ l L
 | [], _, _, h => h
 | a :: l, L, hn, h => by
  simp only [AV.numL, Bool.and_eq_true] at hn
  obtain ⟨v, vs, e, h1, h2⟩ := h
  exact ⟨v, vs, e, num_rel a v hn.1 h1, numL_rel l vs hn.2 h2⟩
end
theorem outL_tells {lo c size : Nat} {ik : IntKind} {q : Option CR} {nd : Nd} {init : List AV} {n : Nat} {xs : List Int} (e : outL lo c size ik q = some (nd, init, n, xs)) (hn : AV.numL init = true) :
  ∃ v0 k, q = some ⟨nd, [⟨.tt, v0, k⟩]⟩ ∧ v0.isPanic = false ∧ allOld c (dropN (k.size - lo) k.blks) = true ∧
   ∀ (sz : Nat) (init' : List AV) (m : Int) (ys : List Int), tellL init init' → m = n → ys = xs → Tells lo k v0 sz (.agg (init' ++ [.lslice sz m])) [.rows ik ys] := by
 unfold outL at e
 split at e
 ·rename_i nd' cells k
  split at e
  ·rename_i ini x hs
   split at e
   ·rename_i n' cs hc
    split at e
    ·rename_i xs' hi
     split at e
     ·rename_i hb
      simp only [Bool.and_eq_true] at hb
      cases e
      refine ⟨_, k, rfl, rfl, hb.2, fun sz init' m ys ht hm hy => ?_⟩
      subst hy
      refine tells_rows hc hi hb.1 hm fun τ V hV => ?_
      obtain ⟨K, rfl, hK⟩ := hV
      rw [splitL_eq hs] at hK
      obtain ⟨I, Z, hIZ, k1, k2⟩ := rels_split hK
      obtain ⟨zv, zl, rfl, k3, k4⟩ := k2
      obtain rfl : zl = [] := k4
      refine ⟨zv, k3, fun υ hυ => ⟨K, rfl, ?_⟩⟩
      rw [hIZ]
      exact VRels.append (tellL_rel _ _ _ ht (numL_rel _ _ hn k1)) ⟨_, [], rfl, hυ, rfl⟩
     ·cases e
    ·cases e
   ·cases e
  ·cases e
 ·cases e
theorem oneG_tells {lo c : Nat} {q : Option CR} {nd : Nd} {v0 : AV} (e : oneG lo c q = some (nd, v0)) (hn : v0.num = true) :
  ∃ k, q = some ⟨nd, [⟨.tt, v0, k⟩]⟩ ∧ v0.isPanic = false ∧ allOld c (dropN (k.size - lo) k.blks) = true ∧ ∀ (sz : Nat) (v : AV), tell v0 v → Tells lo k v0 sz v [] := by
 obtain ⟨k, h1, h2, h3⟩ := oneG_some e
 exact ⟨k, h1, h3, h2, fun sz v ht => tells_num fun τ σ V hV => tell_rel _ _ _ ht (num_rel _ _ hn hV)⟩
end
end Go.Eng
namespace Go.Eng
open Go
noncomputable section
theorem swap_top {τ : Sg} {h : Hp} {W : World} {b b' : ABody} (r : HRel τ (h.push0 b) W) (hd : b.isDead = false) (hv : b'.isView = true) (hv' : b.isView = true) (hb : ∀ N o, BRel τ N b o → BRel τ N b' o) : HRel τ (h.push0 b') W := by
 refine ⟨r.ok, fun i c hg hdc => ?_, r.dom, fun i j c d B N M hg hg' hdc hdd e1 e2 => ?_⟩
 ·rw [Hp.get_push0] at hg
  split at hg
  ·rename_i hi; cases hg; subst hi
   obtain ⟨B, N, o, h1, h2, h3⟩ := r.blk h.size ⟨0, b⟩ (by rw [Hp.get_push0, if_pos rfl]) hd
   exact ⟨B, N, o, h1, h2, hb N o h3⟩
  ·rename_i hi
   exact r.blk i c (by rw [Hp.get_push0, if_neg hi]; exact hg) hdc
 ·rw [Hp.get_push0] at hg hg'
  by_cases hi : i = h.size <;> by_cases hj : j = h.size
  ·exact .inl (hi.trans hj.symm)
  ·rw [if_pos hi] at hg; cases hg
   rw [if_neg hj] at hg'
   rcases r.inj i j ⟨0, b⟩ d B N M (by rw [Hp.get_push0, if_pos hi]) (by rw [Hp.get_push0, if_neg hj]; exact hg') hd hdd e1 e2 with h8 | ⟨_, h8⟩
   ·exact .inl h8
   ·exact .inr ⟨hv, h8⟩
  ·rw [if_neg hi] at hg
   rw [if_pos hj] at hg'; cases hg'
   rcases r.inj i j c ⟨0, b⟩ B N M (by rw [Hp.get_push0, if_neg hi]; exact hg) (by rw [Hp.get_push0, if_pos hj]) hdc hd e1 e2 with h8 | ⟨h8, _⟩
   ·exact .inl h8
   ·exact .inr ⟨h8, hv⟩
  ·rw [if_neg hi] at hg
   rw [if_neg hj] at hg'
   exact r.inj i j c d B N M (by rw [Hp.get_push0, if_neg hi]; exact hg) (by rw [Hp.get_push0, if_neg hj]; exact hg') hdc hdd e1 e2
theorem ints_map (ik : IntKind) : ∀ xs : List Int, intsOf ik (xs.map fun n => .int true ik n) = some xs
 | [] => rfl
 | x :: l => by simp only [List.map_cons, intsOf, decide_true, ints_map ik l]
theorem view_rows {τ : Sg} {N : Nat} {ik : IntKind} {xs : List Int} {o : Obj} (h : BRel τ N (.view (xs.map fun n => .int true ik n)) o) : BRel τ N (.rows ik xs) o := by
 obtain ⟨K, e, fr, rfl, h1⟩ := h
 refine ⟨K, e, fr, rfl, ?_⟩
 have := ints_rel h1 (ints_map ik xs)
 rwa [List.length_map] at this
theorem film_relL {σ : Sg} {h : Hp} {W : World} (r : HRel σ h W) (hb : (h.blks.all fun b => noK .u8 b.body) = true) {v : Value} {n : Int} {zs : List Int} (b : Bytes W v n zs) :
  ∃ τ, Sub σ τ ∧ HRel τ (h.push0 (.rows .u8 zs)) W ∧ VRel τ (.lslice h.size n) v := by
 obtain ⟨⟨p, c, rfl, hcap, hp⟩, hn, _⟩ := b
 cases zs with
 | nil =>
  refine ⟨σ, Sub.refl _, view_dead r rfl, p, 0, c, rfl, ⟨hn.symm, hcap⟩, .inl rfl⟩
 | cons f fs =>
  obtain ⟨B, N, rfl, hc⟩ := hp (by simp)
  refine ⟨_, Sub.add r.fresh, swap_top (add_view r hb (B := B) (N := N) (k := .u8) (fs := f :: fs) (by simp) hc) rfl rfl rfl (fun N o h => view_rows h), some ⟨B, N, none⟩, (f :: fs).length, c, rfl, ⟨hn.symm, hcap⟩, .inr ⟨B, N, add_here, rfl⟩⟩
theorem law_walkL {P : Program} {glob : Nat → Option Nat} {hG : Hp} (hb : (hG.blks.all fun b => noK .u8 b.body) = true) (old : allOld hG.clock hG.blks = true) (h1 : 0 < hG.clock) {f : FuncId} {t : TypeId} {ts : List TypeId} {sh : List Sh} {shs : List Sh} (hs : shapesT P (t :: ts) = some (.a (sh ++ [.c (.any true)]) :: shs))
  (hT : ∀ xs ys, xs.map Nu.isN = Sh.kindsL sh → inRange (Sh.leavesL sh) xs → ys.map Nu.isN = Sh.kindsL shs → inRange (Sh.leavesL shs) ys → ∀ (n : Int) (zs : List Int), n = zs.length → (∀ z ∈ zs, 0 ≤ z ∧ z ≤ 255) → LawTrueH P glob (hG.push0 (.rows .u8 zs)) f (.agg ((Sh.mkL sh xs).1 ++ [.lslice hG.size n]) :: (Sh.mkL shs ys).1))
  {W : World} {base : Nat} {σ : Sg} {A : Array Value} (g : ∀ gl i, glob gl = some i → ∃ N, σ i = some (gl, N)) (r : HRel σ hG W) {v : Value} {vs : List Value} (hA : A.toList = v :: vs) (hl : vs.length = ts.length) {cs : List Value} {last : Value} (hv : v = .agg (cs ++ [last]).toArray) (hlast : ∃ n zs, Bytes W last n zs)
  (hok : ∀ (j : Nat) t' v, (t :: ts)[j]? = some t' → A.toList[j]? = some v → Value.okWide P W .any base t' v) :
  Calls P f A W fun e w' => e = .returned (.bool true) ∧ RowKit.Grown W w' ∧ ∀ B, B < W.heap.size → w'.heap[B]? = W.heap[B]? := by
 obtain ⟨n, zs, bz⟩ := hlast
 have hs' := hs
 simp only [shapesT] at hs
 split at hs
 ·cases hs
 ·rename_i s h2
  split at hs
  ·cases hs
  ·rename_i l h3
   cases hs
   obtain ⟨ys, b1, b2, b3⟩ := law_args (P := P) (W := W) (base := base) (σ := σ) (ts := ts) (vs := vs) h3 hl fun j t' v' k1 k2 => hok (j + 1) t' v' (by simpa using k1) (by rw [hA]; simpa using k2)
   obtain ⟨xs, a1, a2, a3⟩ := law_one (σ := σ) h2 (hok 0 t v rfl (by rw [hA]; rfl))
   obtain ⟨_, a4⟩ := a3 []
   rw [List.append_nil] at a4
   obtain ⟨_, b4⟩ := b3 []
   rw [List.append_nil] at b4
   have kl : ∀ l m : List Sh, Sh.kindsL (l ++ m) = Sh.kindsL l ++ Sh.kindsL m := by
    intro l m
    induction l with
    | nil => rfl
    | cons a l ih => simp [Sh.kindsL, ih]
   have ll : ∀ l m : List Sh, Sh.leavesL (l ++ m) = Sh.leavesL l ++ Sh.leavesL m := by
    intro l m
    induction l with
    | nil => rfl
    | cons a l ih => simp [Sh.leavesL, ih]
   have a1' : xs.map Nu.isN = Sh.kindsL sh := by
    have : xs.map Nu.isN = Sh.kindsL (sh ++ [.c (.any true)]) := a1
    rw [kl] at this; simpa [Sh.kindsL, Sh.kinds] using this
   have drop_any : ∀ (l : List Sh) (zs : List Nu), inRange (l ++ [.c (.any true)]) zs → inRange l zs := by
    intro l
    induction l with
    | nil => intro zs h; cases zs with
     | nil => trivial
     | cons z zs => simp [inRange] at h
    | cons a l ih => intro zs h; cases a with
     | i k => cases zs with
      | nil => simp [inRange] at h
      | cons z zs => cases z with
       | n x => exact ⟨h.1, ih zs h.2⟩
       | t b => simp [inRange] at h
       | s b => simp [inRange] at h
     | b => cases zs with
      | nil => simp [inRange] at h
      | cons z zs => cases z with
       | n x => simp [inRange] at h
       | t b => exact ih zs h
       | s b => simp [inRange] at h
     | str => cases zs with
      | nil => simp [inRange] at h
      | cons z zs => cases z with
       | n x => simp [inRange] at h
       | t b => simp [inRange] at h
       | s b => exact ih zs h
     | one => cases zs <;> simp [inRange] at h
     | c w =>
      have h' : inRange (l ++ [.c (.any true)]) zs := by cases zs <;> simpa [inRange] using h
      have := ih zs h'
      cases zs <;> simpa [inRange] using this
     | a m => cases zs <;> simp [inRange] at h
   have a2' : inRange (Sh.leavesL sh) xs := by
    have : inRange (Sh.leavesL (sh ++ [.c (.any true)])) xs := a2
    rw [ll] at this
    exact drop_any _ _ this
   obtain ⟨C, fuel, nd, s, p, co, rfl, rfl, e1, e2, e3⟩ := hT xs ys a1' a2' b1 b2 n zs bz.len bz.rng
   obtain ⟨τ, sub, hr, hfv⟩ := film_relL r hb bz
   have mk_app : ∀ (l : List Sh) (xs : List Nu), (Sh.mkL (l ++ [.c (.any true)]) xs).1 = (Sh.mkL l xs).1 ++ [.any true] := by
    intro l
    induction l with
    | nil => intro xs; rfl
    | cons a l ih => intro xs; simp only [List.cons_append, Sh.mkL, ih]
   have hvr : VRel τ (.agg ((Sh.mkL sh xs).1 ++ [.lslice hG.size n])) v := by
    subst hv
    obtain ⟨K, hK, h5⟩ := a4
    have h6 := VRels.mono sub _ _ h5
    rw [mk_app] at h6
    cases hK
    refine ⟨_, rfl, ?_⟩
    rw [List.toList_toArray] at h6 ⊢
    exact rels_last h6 hfv
   have old' : allOld (hG.push0 (.rows .u8 zs)).clock (hG.push0 (.rows .u8 zs)).blks = true := by
    show (Nat.blt 0 hG.clock && allOld hG.clock hG.blks) = true
    rw [old, Bool.and_true]
    exact Nat.ble_eq_true_of_le h1
   exact law_calls co old' e1 e2 e3 (fun gl i hi => by obtain ⟨N, hN⟩ := g gl i hi; exact ⟨N, sub _ _ hN⟩) hr (by rw [hA]; exact ⟨v, vs, rfl, hvr, VRels.mono sub _ _ b4⟩)
end
end Go.Eng
namespace Go.Eng
open Go
noncomputable section
theorem tellL_app : ∀ {l m l' m' : List AV}, tellL l m → tellL l' m' → tellL (l ++ l') (m ++ m')
 | [], [], _, _, _, h => h
 | a :: l, b :: m, _, _, h, k => ⟨h.1, tellL_app h.2 k⟩
 | [], _ :: _, _, _, h, _ => h.elim
 | _ :: _, [], _, _, h, _ => h.elim
end
end Go.Eng
namespace Go.Eng
open Go
noncomputable section
def listE (e : Bool) (j : Nat) (n : Int) : AV := match decide (n = 0) with
 | true => .eslice e
 | false => .pslice j n.toNat false n
end
end Go.Eng
namespace Go.Eng
open Go
noncomputable section
def RunsTo (P : Program) (glob : Nat → Option Nat) (hG : Hp) (f : FuncId) (raw : Bool) (ps : List Pa) (its : List Itm) (args : List AV) (sz : Nat) (v : AV) (bs : List ABody) : Prop :=
 ∃ (C : Ctx) (n' : Nat) (ar : List AV) (nd0 : Nd) (v0 : AV) (k : Hp), CtxOk C ∧ C.P = P ∧ C.glob = glob ∧ tellL args ar ∧
  (run C n').call f ar (viewsH raw hG (lists ps its)) = some ⟨nd0, [⟨.tt, v0, k⟩]⟩ ∧ v0.isPanic = false ∧ nd0.val ∧ allOld hG.clock (dropN (k.size - (viewsH raw hG (lists ps its)).size) k.blks) = true ∧ Tells (viewsH raw hG (lists ps its)).size k v0 sz v bs
def outT (lo c size : Nat) (ik : IntKind) : Option CR → Option (Nd × List AV × Nat × List Int × AV)
 | some ⟨nd, [⟨.tt, .tuple [.agg cells, w], k⟩]⟩ => match splitL cells with
  | some (init, x) => match cellsOfV k (size + 1) x with
   | some (n, cs) => match intsOf ik cs with
    | some xs => match newId lo x && allOld c (dropN (k.size - lo) k.blks) with
     | true => some (nd, init, n, xs, w)
     | false => none
    | none => none
   | none => none
  | none => none
 | _ => none
theorem outT_tells {lo c size : Nat} {ik : IntKind} {q : Option CR} {nd : Nd} {init : List AV} {n : Nat} {xs : List Int} {w : AV} (e : outT lo c size ik q = some (nd, init, n, xs, w)) (hn : AV.numL init = true) (hw : w.num = true) :
  ∃ v0 k, q = some ⟨nd, [⟨.tt, v0, k⟩]⟩ ∧ v0.isPanic = false ∧ allOld c (dropN (k.size - lo) k.blks) = true ∧
   ∀ (sz : Nat) (init' : List AV) (m : Int) (ys : List Int) (w' : AV), tellL init init' → m = n → ys = xs → tell w w' → Tells lo k v0 sz (.tuple [.agg (init' ++ [.lslice sz m]), w']) [.rows ik ys] := by
 unfold outT at e
 split at e
 ·rename_i nd' cells w' k
  split at e
  ·rename_i ini x hs
   split at e
   ·rename_i n' cs hc
    split at e
    ·rename_i xs' hi
     split at e
     ·rename_i hb
      simp only [Bool.and_eq_true] at hb
      cases e
      refine ⟨_, k, rfl, rfl, hb.2, fun sz init' m ys w2 ht hm hy h2 => ?_⟩
      subst hy
      refine tells_rows hc hi hb.1 hm fun τ V hV => ?_
      obtain ⟨K2, rfl, hK2⟩ := hV
      obtain ⟨V1, L1, hL1, ⟨K, rfl, hK⟩, V2, L2, rfl, hV2, rfl⟩ := hK2
      rw [splitL_eq hs] at hK
      obtain ⟨I, Z, hIZ, k1, k2⟩ := rels_split hK
      obtain ⟨zv, zl, rfl, k3, k4⟩ := k2
      obtain rfl : zl = [] := k4
      refine ⟨zv, k3, fun υ hυ => ⟨K2, rfl, ?_⟩⟩
      rw [hL1]
      refine ⟨_, [V2], rfl, ⟨K, rfl, ?_⟩, V2, [], rfl, tell_rel _ _ _ h2 (num_rel _ _ hw hV2), rfl⟩
      rw [hIZ]
      exact VRels.append (tellL_rel _ _ _ ht (numL_rel _ _ hn k1)) ⟨_, [], rfl, hυ, rfl⟩
     ·cases e
    ·cases e
   ·cases e
  ·cases e
 ·cases e
end
end Go.Eng
namespace Go.Eng
open Go
noncomputable section
def l1Spec (hG : Hp) (ik : IntKind) (V : Nat → Int → List Int → Option (Prop × AV × List ABody)) : NSpec := fun args h => match args with
 | [.lslice id n] => match h.get id with
  | some ⟨_, .rows ik' ys⟩ => match decide (ik = ik') && Nat.ble hG.size id with
   | true => match V h.size n ys with
    | some (p, v, bs) => some (.p p, v, bs)
    | none => none
   | false => none
  | _ => none
 | _ => none
theorem l1_ok {P : Program} {glob : Nat → Option Nat} {hG : Hp} (ok : hG.ok) (pl : blksPlain hG.size hG.blks = true) (hgl : ∀ g i, glob g = some i → i < hG.size) {f : FuncId} {ik : IntKind} {V : Nat → Int → List Int → Option (Prop × AV × List ABody)}
  (h : ∀ sz n ys p v bs, V sz n ys = some (p, v, bs) → p → (ys = [] → n = 0) ∧ ∀ e : Bool, ∃ (C : Ctx) (n' : Nat) (ar : List AV) (nd0 : Nd) (v0 : AV) (k : Hp), CtxOk C ∧ C.P = P ∧ C.glob = glob ∧ tellL [listE e hG.size n] ar ∧
   (run C n').call f ar (viewsH false hG [(ik, ys)]) = some ⟨nd0, [⟨.tt, v0, k⟩]⟩ ∧ v0.isPanic = false ∧ nd0.val ∧ allOld hG.clock (dropN (k.size - (viewsH false hG [(ik, ys)]).size) k.blks) = true ∧ Tells (viewsH false hG [(ik, ys)]).size k v0 sz v bs)
  (fn : ∃ fn : Func, P.funcs[f]? = some fn ∧ fn.body.isSome = true) : NOk P glob hG f (l1Spec hG ik V) := by
 refine ⟨fun args nd v bs h' e same => ?_, fn⟩
 unfold l1Spec at e
 split at e
 ·rename_i id n
  split at e
  ·rename_i w ik' ys hid
   split at e
   ·rename_i hb
    simp only [Bool.and_eq_true, decide_eq_true_eq] at hb
    obtain ⟨rfl, hb⟩ := hb
    have hge := Nat.le_of_ble_eq_true hb
    split at e
    ·rename_i p v' bs' hV
     cases e
     refine ref_call fun σ A W g r hA hn => ?_
     obtain ⟨h0, hall⟩ := h _ _ _ _ _ _ hV hn
     have gs := globsSame_get same
     obtain ⟨ρ, r0, sub, hj⟩ := views_rel (raw := false) (σ := σ) [(id, ik, ys)] (σ.low hG.size) hG (glob_rel ok pl same r) (fun x hx => by
      obtain rfl := List.mem_singleton.1 hx
      by_cases hne : ys = []
      ·exact .inl hne
      ·right
       have hd : (ABody.rows ik ys).isDead = false := by
        cases hxs : ys with
        | nil => exact absurd hxs hne
        | cons y ys => rfl
       obtain ⟨B, N, o, h1, h2, h3⟩ := r.blk id _ hid hd
       refine ⟨B, N, o, h1, h2, fun τ => h3, fun i b M hg hdb e1 => ?_⟩
       have hi := Hp.get_lt hg
       obtain ⟨b', c', hb', hc', hbc⟩ := gs i hi
       rw [hg] at hc'; cases hc'
       rcases r.inj i id b' _ B M N hb' hid (by rw [hbc]; exact hdb) hd (Sg.low_sub σ _ _ _ e1) h1 with h8 | ⟨h8, _⟩
       ·omega
       ·rw [hbc] at h8; exact h8)
     obtain ⟨V0, L0, hL, ⟨q, len, c, rfl, hl, hp⟩, hL0⟩ := hA
     obtain rfl : L0 = [] := hL0
     have he : VRels ρ [listE q.isNone hG.size n] A.toList := by
      rw [hL]
      refine ⟨_, [], rfl, ?_, rfl⟩
      unfold listE
      split
      ·rename_i hz
       have hz := of_decide_eq_true hz
       obtain rfl : len = 0 := by omega
       exact ⟨q, c, rfl, rfl⟩
      ·rename_i hz
       have hz := of_decide_eq_false hz
       refine ⟨q, len, c, rfl, hl, by omega, ?_⟩
       rcases hp with hp | ⟨B, N, e1, e2⟩
       ·omega
       ·have hne : ys ≠ [] := fun hh => hz (h0 hh)
        have := hj 0 (id, ik, ys) rfl hne
        rw [Nat.add_zero] at this
        exact .inr ⟨B, N, by rw [this]; exact e1, e2⟩
     obtain ⟨C, n', ar, nd0, v0, k, co, rfl, rfl, ht, hrun, hpn, hn0, hold, tl⟩ := hall q.isNone
     refine ⟨C, n', _, ar, ρ, nd0, v0, k, co, rfl, rfl, r0, fun gl i hgi => ?_, tellL_rel _ _ _ ht he, hrun, hpn, hn0, by rw [viewsH_clock]; exact hold, tl⟩
     obtain ⟨N, hN⟩ := g gl i hgi
     exact ⟨N, sub _ _ (by simp [Sg.low, hgl gl i hgi, hN])⟩
    ·cases e
   ·cases e
  ·cases e
 ·cases e
def out1 (lo c size : Nat) (ik : IntKind) : Option CR → Option (Nd × Nat × List Int)
 | some ⟨nd, [⟨.tt, x, k⟩]⟩ => match cellsOfV k (size + 1) x with
  | some (n, cs) => match intsOf ik cs with
   | some xs => match newId lo x && allOld c (dropN (k.size - lo) k.blks) && !x.isPanic with
    | true => some (nd, n, xs)
    | false => none
   | none => none
  | none => none
 | _ => none
theorem out1_tells {lo c size : Nat} {ik : IntKind} {q : Option CR} {nd : Nd} {n : Nat} {xs : List Int} (e : out1 lo c size ik q = some (nd, n, xs)) :
  ∃ v0 k, q = some ⟨nd, [⟨.tt, v0, k⟩]⟩ ∧ v0.isPanic = false ∧ allOld c (dropN (k.size - lo) k.blks) = true ∧
   ∀ (sz : Nat) (m : Int) (ys : List Int), m = n → ys = xs → Tells lo k v0 sz (.lslice sz m) [.rows ik ys] := by
 unfold out1 at e
 split at e
 ·rename_i nd' x k
  split at e
  ·rename_i n' cs hc
   split at e
   ·rename_i xs' hi
    split at e
    ·rename_i hb
     simp only [Bool.and_eq_true, Bool.not_eq_true'] at hb
     cases e
     refine ⟨_, k, rfl, hb.2, hb.1.2, fun sz m ys hm hy => ?_⟩
     subst hy
     exact tells_rows hc hi hb.1.1 hm fun τ V hV => ⟨V, hV, fun υ hυ => hυ⟩
    ·cases e
   ·cases e
  ·cases e
 ·cases e
theorem tells_lslice {lo sz id : Nat} {k : Hp} {v0 v : AV} {w : Nat} {ik : IntKind} {xs : List Int} {n : Int}
  (hx : k.get id = some ⟨w, .rows ik xs⟩) (hid : lo ≤ id) (h0 : xs = [] → n = 0)
  (hv : ∀ (τ : Sg) V, VRel τ v0 V → ∃ U, VRel τ (.lslice id n) U ∧ ∀ υ, VRel υ (.lslice sz n) U → VRel υ v V) : Tells lo k v0 sz v [.rows ik xs] := by
 intro σ h W τ X V hs r r2 k2 fresh hq
 obtain ⟨U, ⟨p, len, c, rfl, hl, hp⟩, k4⟩ := hv τ V k2
 cases xs with
 | nil =>
  obtain ⟨r1, g1⟩ := rows_none (ik := ik) r hq
  have := h0 rfl
  exact ⟨σ, r1, g1, k4 σ ⟨p, len, c, rfl, hl, .inl (by omega)⟩⟩
 | cons y ys =>
  obtain ⟨B, N, o, q1, q2, q3⟩ := r2.blk id _ hx rfl
  obtain ⟨r1, g1⟩ := rows_new (ik := ik) (xs := y :: ys) r hq (fresh id B N q1 hid) q2 (fun _ => q3)
  refine ⟨_, r1, g1, k4 _ ⟨p, len, c, rfl, hl, ?_⟩⟩
  rcases hp with hp | ⟨B', N', e1, e2⟩
  ·exact .inl hp
  ·rw [q1] at e1; cases e1
   exact .inr ⟨B, N, by rw [← hs]; exact add_here, e2⟩
def outR (lo c : Nat) (ik : IntKind) : Option CR → Option (Nd × List AV × Int × List Int × AV)
 | some ⟨nd, [⟨.tt, .tuple [.agg cells, w], k⟩]⟩ => match splitL cells with
  | some (init, .lslice id n) => match k.get id with
   | some ⟨_, .rows ik' xs⟩ => match decide (ik = ik') && (Nat.ble lo id && allOld c (dropN (k.size - lo) k.blks)) with
    | true => some (nd, init, n, xs, w)
    | false => none
   | _ => none
  | _ => none
 | _ => none
theorem outR_tells {lo c : Nat} {ik : IntKind} {q : Option CR} {nd : Nd} {init : List AV} {n : Int} {xs : List Int} {w : AV} (e : outR lo c ik q = some (nd, init, n, xs, w)) (hn : AV.numL init = true) (hw : w.num = true) :
  ∃ v0 k, q = some ⟨nd, [⟨.tt, v0, k⟩]⟩ ∧ v0.isPanic = false ∧ allOld c (dropN (k.size - lo) k.blks) = true ∧
   ∀ (sz : Nat) (init' : List AV) (w' : AV), (xs = [] → n = 0) → tellL init init' → tell w w' → Tells lo k v0 sz (.tuple [.agg (init' ++ [.lslice sz n]), w']) [.rows ik xs] := by
 unfold outR at e
 split at e
 ·rename_i nd' cells w' k
  split at e
  ·rename_i ini id n' hs
   split at e
   ·rename_i wr ik' xs' hg
    split at e
    ·rename_i hb
     simp only [Bool.and_eq_true, decide_eq_true_eq] at hb
     obtain ⟨rfl, hb1, hb2⟩ := hb
     cases e
     refine ⟨_, k, rfl, rfl, hb2, fun sz init' w2 h0 ht h2 => ?_⟩
     refine tells_lslice hg (Nat.le_of_ble_eq_true hb1) h0 fun τ V hV => ?_
     obtain ⟨K2, rfl, hK2⟩ := hV
     obtain ⟨V1, L1, hL1, ⟨K, rfl, hK⟩, V2, L2, rfl, hV2, rfl⟩ := hK2
     rw [splitL_eq hs] at hK
     obtain ⟨I, Z, hIZ, k1, k2⟩ := rels_split hK
     obtain ⟨zv, zl, rfl, k3, k4⟩ := k2
     obtain rfl : zl = [] := k4
     refine ⟨zv, k3, fun υ hυ => ⟨K2, rfl, ?_⟩⟩
     rw [hL1]
     refine ⟨_, [V2], rfl, ⟨K, rfl, ?_⟩, V2, [], rfl, tell_rel _ _ _ h2 (num_rel _ _ hw hV2), rfl⟩
     rw [hIZ]
     exact VRels.append (tellL_rel _ _ _ ht (numL_rel _ _ hn k1)) ⟨_, [], rfl, hυ, rfl⟩
    ·cases e
   ·cases e
  ·cases e
 ·cases e
end
end Go.Eng
namespace Go.Eng
open Go
noncomputable section
theorem lsp_okM {P : Program} {glob : Nat → Option Nat} {hG : Hp} (ok : hG.ok) (pl : blksPlain hG.size hG.blks = true) (hgl : ∀ g i, glob g = some i → i < hG.size) {f : FuncId} {ps : List Pa} {V : Nat → List Itm → Option (Prop × AV × List ABody)}
  (h : ∀ sz its p v bs, V sz its = some (p, v, bs) → p → okIts its ∧ AV.underL hG.size (inits ps its) = true ∧ ∃ raw, RunsTo P glob hG f raw ps its (mkA raw hG.size ps its) sz v bs)
  (fn : ∃ fn : Func, P.funcs[f]? = some fn ∧ fn.body.isSome = true) : NOk P glob hG f (lSpec hG ps V) := by
 refine ⟨fun args nd v bs h' e same => ?_, fn⟩
 have e0 := e
 unfold lSpec at e
 split at e
 ·cases e
 ·rename_i ls its hr
  split at e
  ·cases e
  ·rename_i p v' bs' hV
   cases e
   classical
   by_cases hp : p
   ·obtain ⟨b1, b2, raw, hr'⟩ := h _ _ _ _ _ hV hp
    exact (lsp_ok raw ok pl hgl (V := fun sz' its' => if sz' = h'.size ∧ its' = its then some (p, v, bs) else none) (fun sz its2 p2 v2 bs2 e2 hp2 => by
     split at e2
     ·rename_i hc
      obtain ⟨rfl, rfl⟩ := hc
      cases e2
      exact ⟨b1, b2, hr'⟩
     ·cases e2) fn).call args (.p p) v bs h' (by unfold lSpec; rw [hr]; simp) same
   ·intro σ A W g r hA hn
    exact absurd hn hp
end
end Go.Eng
namespace Go.Eng
open Go
noncomputable section
def coatOf (hG h : Hp) (ik : IntKind) : AV → Option (Nat × Int × List Int)
 | .eslice _ => some (0, 0, [])
 | .pslice id l false n => match decide (n = 0) with
  | true => some (0, 0, [])
  | false => match h.get id with
   | some ⟨_, .view cs⟩ => match intsOf ik cs with
    | some ys => match Nat.ble hG.size id && Nat.blt 0 l with
     | true => some (id, n, ys)
     | false => none
    | none => none
   | _ => none
 | _ => none
theorem view_any {σ : Sg} {N : Nat} {ik : IntKind} {cs : List AV} {ys : List Int} {o : Obj} (h : BRel σ N (.view cs) o) (hi : intsOf ik cs = some ys) : ∀ τ, BRel τ N (.rows ik ys) o := by
 obtain ⟨K, e, fr, rfl, h1⟩ := h
 intro τ
 refine ⟨K, e, fr, rfl, ?_⟩
 have h2 := ints_rel h1 hi
 have h3 := VRels.length h1
 rw [h2, List.length_map] at h3
 rw [h3]
 exact h2
theorem coatOf_rel {hG h : Hp} {ik : IntKind} {a : AV} {id : Nat} {n : Int} {ys : List Int} (e : coatOf hG h ik a = some (id, n, ys)) {σ : Sg} {W : World} (r : HRel σ h W) {V : Value} (hV : VRel σ a V) :
  ∃ p len c, V = .slice p len c ∧ ((len : Int) = n ∧ len ≤ c) ∧ (len = 0 ∨ hG.size ≤ id ∧ ∃ B N o w cs, h.get id = some ⟨w, .view cs⟩ ∧ σ id = some (B, N) ∧ p = some ⟨B, N, none⟩ ∧ W.heap[B]? = some o ∧ ∀ τ, BRel τ N (.rows ik ys) o) := by
 unfold coatOf at e
 split at e
 ·cases e
  obtain ⟨p, c, rfl, _⟩ := hV
  exact ⟨p, 0, c, rfl, ⟨rfl, Nat.zero_le _⟩, .inl rfl⟩
 ·rename_i id' l n'
  obtain ⟨p, len, c, rfl, ⟨hl, hcap⟩, hle, hp⟩ := hV
  split at e
  ·rename_i h0
   have h0 := of_decide_eq_true h0
   cases e
   exact ⟨p, len, c, rfl, ⟨by omega, by omega⟩, .inl (by omega)⟩
  ·split at e
   ·rename_i w cs hg
    split at e
    ·rename_i ys' hi
     split at e
     ·rename_i hb
      simp only [Bool.and_eq_true] at hb
      cases e
      have h1 := Nat.le_of_ble_eq_true hb.1
      have h2 : 0 < l := Nat.le_of_ble_eq_true hb.2
      rcases hp with hp | ⟨B, N, e1, e2⟩
      ·omega
      ·obtain ⟨B', N', o, q1, q2, q3⟩ := r.blk id _ hg rfl
       rw [e1] at q1; cases q1
       exact ⟨p, len, c, rfl, ⟨hl, hcap⟩, .inr ⟨h1, B, N, o, w, cs, hg, e1, e2, q2, view_any q3 hi⟩⟩
     ·cases e
    ·cases e
   ·cases e
 ·cases e
def readV (hG h : Hp) : List Pa → List AV → Option (List (Nat × IntKind × List Int) × List Itm)
 | [], [] => some ([], [])
 | .n sh :: ps, v :: vs => match Sh.read sh v with
  | none => none
  | some (_, xs) => match readV hG h ps vs with
   | none => none
   | some (ls, its) => some (ls, .n xs :: its)
 | .s shs ik :: ps, v :: vs => match v with
  | .agg cells => match splitL cells with
   | some (init, x) => match coatOf hG h ik x with
    | some (id, n, ys) => match Sh.readL shs init with
     | none => none
     | some (_, xs) => match readV hG h ps vs with
      | none => none
      | some (ls, its) => some ((id, ik, ys) :: ls, .s xs n ys :: its)
    | none => none
   | none => none
  | _ => none
 | _, _ => none
theorem coatOf_emp {hG h : Hp} {ik : IntKind} {a : AV} {id : Nat} {n : Int} {ys : List Int} (e : coatOf hG h ik a = some (id, n, ys)) (h0 : n = 0) : ys = [] := by
 unfold coatOf at e
 split at e
 ·cases e; rfl
 ·split at e
  ·cases e; rfl
  ·rename_i h1
   have h1 := of_decide_eq_false h1
   split at e
   ·split at e
    ·split at e
     ·cases e; exact absurd h0 h1
     ·cases e
    ·cases e
   ·cases e
 ·cases e
theorem readV_rel {hG h : Hp} {σ : Sg} {W : World} (r : HRel σ h W) : ∀ (ps : List Pa) (args : List AV) (ls : List (Nat × IntKind × List Int)) (its : List Itm), readV hG h ps args = some (ls, its) → ∀ L : List Value, VRels σ args L →
  ls.map (·.2) = lists ps its ∧ (∀ x ∈ ls, x.2.2 = [] ∨ hG.size ≤ x.1 ∧ ∃ B N o w cs, h.get x.1 = some ⟨w, .view cs⟩ ∧ σ x.1 = some (B, N) ∧ W.heap[B]? = some o ∧ ∀ τ, BRel τ N (.rows x.2.1 x.2.2) o) ∧
  ∀ (ρ : Sg) (j : Nat), Sub (σ.low hG.size) ρ → (∀ i x, ls[i]? = some x → x.2.2 ≠ [] → ρ (j + i) = σ x.1) → okIts its → AV.underL hG.size (inits ps its) = true → VRels ρ (mkA true j ps its) L
 | [], [], ls, its, e, L, hL => by
  cases e
  exact ⟨rfl, by simp, fun ρ j _ _ _ _ => hL⟩
 | .n sh :: ps, v :: vs, ls, its, e, L, hL => by
  simp only [readV] at e
  split at e
  ·cases e
  ·rename_i s xs h1
   split at e
   ·cases e
   ·rename_i ls' its' h2
    cases e
    obtain ⟨V, L', rfl, q1, q2⟩ := hL
    obtain ⟨a1, a2, a3⟩ := readV_rel r ps vs _ _ h2 L' q2
    refine ⟨a1, a2, fun ρ j hs hj hok hu => ?_⟩
    simp only [inits, AV.underL, Bool.and_eq_true] at hu
    have := (Sh.read_mk sh v s xs [] h1).2 σ V q1
    rw [List.append_nil] at this
    exact ⟨V, L', rfl, VRel.mono hs _ _ (VRel.low _ _ this hu.1), a3 ρ j hs hj hok hu.2⟩
 | .s shs ik :: ps, v :: vs, ls, its, e, L, hL => by
  simp only [readV] at e
  split at e
  ·rename_i cells
   split at e
   ·rename_i init x hsp
    split at e
    ·rename_i id n ys hc
     split at e
     ·cases e
     ·rename_i s xs h1
      split at e
      ·cases e
      ·rename_i ls' its' h2
       cases e
       obtain ⟨V, L', rfl, q1, q2⟩ := hL
       obtain ⟨a1, a2, a3⟩ := readV_rel r ps vs _ _ h2 L' q2
       obtain ⟨K, rfl, hK⟩ := q1
       rw [splitL_eq hsp] at hK
       obtain ⟨I, Z, hIZ, k1, k2⟩ := rels_split hK
       obtain ⟨zv, zl, rfl, k3, k4⟩ := k2
       obtain rfl : zl = [] := k4
       obtain ⟨p, len, c, rfl, hl, hp⟩ := coatOf_rel hc r k3
       refine ⟨by simp [lists, a1], fun y hy => ?_, fun ρ j hs hj hok hu => ?_⟩
       ·rcases List.mem_cons.1 hy with rfl | hy
        ·rcases hp with hp | ⟨h3, B, N, o, w, cs, g1, g2, _, g4, g5⟩
         ·exact .inl (coatOf_emp hc (by omega))
         ·exact .inr ⟨h3, B, N, o, w, cs, g1, g2, g4, g5⟩
        ·exact a2 y hy
       ·simp only [inits, underL_app, Bool.and_eq_true] at hu
        have k5 := (Sh.readL_mk shs init s xs [] h1).2 σ I k1
        rw [List.append_nil] at k5
        have k6 := VRels.mono hs _ _ (VRels.low _ _ k5 hu.1)
        refine ⟨_, L', rfl, ⟨K, rfl, ?_⟩, a3 ρ (j + 1) hs (fun i x hx hne => ?_) hok.2 hu.2⟩
        ·rw [hIZ]
         refine VRels.append k6 ⟨_, [], rfl, ⟨p, len, c, rfl, hl, ?_⟩, rfl⟩
         by_cases h0 : n = 0
         ·exact .inl (by omega)
         ·rcases hp with hp | ⟨h3, B, N, o, w, cs, g1, g2, g3, g4, g5⟩
          ·exact .inl hp
          ·have hne : ys ≠ [] := fun hh => h0 (hok.1 hh)
           have := hj 0 (id, ik, ys) rfl hne
           rw [Nat.add_zero] at this
           exact .inr ⟨B, N, by rw [this]; exact g2, g3⟩
        ·have := hj (i + 1) x (by simpa using hx) hne
         rw [← this]
         congr 1
         omega
    ·cases e
   ·cases e
  ·cases e
 | [], _ :: _, _, _, e, _, _ => by simp [readV] at e
 | .n _ :: _, [], _, _, e, _, _ => by simp [readV] at e
 | .s _ _ :: _, [], _, _, e, _, _ => by simp [readV] at e
theorem ref_call2 {P : Program} {glob : Nat → Option Nat} {hG : Hp} {f : FuncId} {args : List AV} {h : Hp} {nd : Nd} {v : AV} {bs : List ABody}
  (key : ∀ (σ : Sg) (A : Array Value) (W : World), GRel (mkM P glob hG [] noExt) σ → HRel σ h W → VRels σ args A.toList → nd.val →
   ∃ (h0 : Hp) (ar : List AV) (ρ : Sg) (nd0 : Nd) (v0 : AV), HRel ρ h0 W ∧ GRel (mkM P glob hG [] noExt) ρ ∧ VRels ρ ar A.toList ∧ CallOk (mkM P glob hG [] noExt) f ar h0 ⟨nd0, [⟨.tt, v0, h0⟩]⟩ ∧ nd0.val ∧ allOld h0.clock h0.blks = true ∧ Tells h0.size h0 v0 h.size v bs) :
  CallOk (mkM P glob hG [] noExt) f args h ⟨nd, [⟨.tt, v, pushAll h bs⟩]⟩ := by
 intro σ A W g r hA hn cs
 obtain ⟨h0, ar, ρ, nd0, v0, r0, g0, hA0, hc, hn0, h2, tell⟩ := key σ A W g r hA hn
 obtain ⟨x, k1, τ, V, X, fr, k2, k3, k4, k5, k6⟩ := hc ρ A W g0 r0 hA0 hn0 cs
 obtain rfl := one_tt k1
 have quiet : ∀ i B N c, ρ i = some (B, N) → h0.get i = some c → c.wr < h0.clock := fun i B N c _ e2 => allOld_mem h2 c (get_mem e2)
 have hq : Quiet W X := ⟨k4.ext, fun B hB => k4.keep B hB (fun h => h) fun i N c e e2 => quiet i B N c e e2⟩
 obtain ⟨υ, u1, u2, u3⟩ := tell σ h W τ X V rfl r k3 k2 (fun i B N e hi => absurd (k3.dom i B N e).1 (Nat.not_lt.2 hi)) hq
 exact ⟨⟨.tt, v, pushAll h bs⟩, rfl, υ, V, X, fr, u3, u1, u2, k5, k6⟩
def vSpec (hG : Hp) (ps : List Pa) (V : List Itm → Option (Prop × AV)) : NSpec := fun args h => match readV hG h ps args with
 | none => none
 | some (_, its) => match V its with
  | some (p, v) => some (.p p, v, [])
  | none => none
theorem vSpec_ok {P : Program} {glob : Nat → Option Nat} {hG : Hp} (ok : hG.ok) (pl : blksPlain hG.size hG.blks = true) (hgl : ∀ g i, glob g = some i → i < hG.size) {f : FuncId} {ps : List Pa} {V : Nat → List Itm → Option (Prop × AV × List ABody)} {V' : List Itm → Option (Prop × AV)} (g : NOk P glob hG f (lSpec hG ps V))
  (h : ∀ its p v, V' its = some (p, v) → p → ∃ p0, V (viewsH true hG (lists ps its)).size its = some (p0, v, []) ∧ p0 ∧ v.num = true ∧ okIts its ∧ AV.underL hG.size (inits ps its) = true ∧ (∃ ls, readA hG (viewsH true hG (lists ps its)) ps (mkA true hG.size ps its) = some (ls, its)) ∧ globsSame hG (viewsH true hG (lists ps its)) hG.size = true ∧ allOld (viewsH true hG (lists ps its)).clock (viewsH true hG (lists ps its)).blks = true) :
  NOk P glob hG f (vSpec hG ps V') := by
 refine ⟨fun args nd v bs h' e same => ?_, g.fn⟩
 unfold vSpec at e
 split at e
 ·cases e
 ·rename_i ls its hr
  split at e
  ·rename_i p v' hV
   cases e
   refine ref_call2 fun σ A W gr r hA hn => ?_
   obtain ⟨p0, e1, hp0, hnum, b1, b2, ⟨ls', hrd⟩, hgs, hold⟩ := h its p v hV hn
   obtain ⟨a1, a2, a3⟩ := readV_rel r ps args ls its hr A.toList hA
   have gs := globsSame_get same
   obtain ⟨ρ, r0, sub, hj⟩ := views_rel (raw := true) (σ := σ) ls (σ.low hG.size) hG (glob_rel ok pl same r) (fun x hx => by
    rcases a2 x hx with h1 | ⟨hge, B, N, o, w, cs, h0, h1, h2, h3⟩
    ·exact .inl h1
    ·refine .inr ⟨B, N, o, h1, h2, h3, fun i b M hg hdb e1 => ?_⟩
     have hi := Hp.get_lt hg
     obtain ⟨b', c', hb', hc', hbc⟩ := gs i hi
     rw [hg] at hc'; cases hc'
     rcases r.inj i x.1 b' _ B M N hb' h0 (by rw [hbc]; exact hdb) rfl (Sg.low_sub σ _ _ _ e1) h1 with h8 | ⟨h8, _⟩
     ·omega
     ·rw [hbc] at h8; exact h8)
   rw [a1] at r0
   refine ⟨viewsH true hG (lists ps its), mkA true hG.size ps its, ρ, .p p0, v, r0, fun gl i hgi => ?_, a3 ρ hG.size sub hj b1 b2, g.call _ (.p p0) v [] _ (by unfold lSpec; rw [hrd]; simp only [e1]) hgs, hp0, hold, tells_num fun τ σ V hV => num_rel _ _ hnum hV⟩
   obtain ⟨N, hN⟩ := gr gl i hgi
   exact ⟨N, sub _ _ (by simp [Sg.low, hgl gl i hgi, hN])⟩
  ·cases e
end
end Go.Eng
namespace Go.Eng
section step
variable {u Y y1 y0 d Q : Int}
end step
end Go.Eng
namespace Go.Eng
def dS (y : Int) : Int := IntKind.u64.wrap (64 - ((Lib.bitLen y.toNat : Nat) : Int))
def dP (y : Int) : Int := 2 ^ min (dS y).toNat IntKind.u64.bits
def dY (y : Int) : Int := IntKind.u64.wrap (y * dP y)
end Go.Eng
namespace Go.Eng
theorem dOr_eq (a b : Nat) (ha : a < 18446744073709551616) (hb : b < 18446744073709551616) : IntKind.u64.wrap ((BitVec.ofInt IntKind.u64.bits (a : Int) ||| BitVec.ofInt IntKind.u64.bits (b : Int)).toNat : Int) = ((a ||| b : Nat) : Int) := bits_or_u64_nat a b ha hb
end Go.Eng
