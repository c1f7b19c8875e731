/- What is proved: SurfaceChecks returns true, whatever the input (part 6 of 28). No conditions beyond those of the row. -/
import Derived.Test.YtiigkjnhmipnfaaGreatDoorPE
import Derived.Laws.Bits64b
import Derived.Lib.BitFns
set_option linter.unusedVariables false
set_option linter.unusedSimpArgs false
set_option linter.unusedSectionVars false
namespace Go.Eng
open Go
noncomputable section
abbrev TSpec := List AV → Hp → Option (Nd × Bool × AV × AV)
structure TOk (P : Program) (glob : Nat → Option Nat) (hG : Hp) (f : FuncId) (spec : TSpec) : Prop where
 call : ∀ args nd p v w h, spec args h = some (nd, p, v, w) → globsSame hG h hG.size = true → CallOk (mkM P glob hG [] noExt) f args h ⟨nd, [⟨.b p, v, h⟩, ⟨.b !p, w, h⟩]⟩
 fn : ∃ fn : Func, P.funcs[f]? = some fn ∧ fn.body.isSome = true
def twoG (hG : Hp) : List (FuncId × TSpec) → FuncId → List AV → Hp → Option (Nd × Bool × AV × AV)
 | [], _, _, _ => none
 | (g, s) :: l, f, args, h => match Nat.beq f g with
  | true => match s args h with
   | some x => match globsSame hG h hG.size with
    | true => some x
    | false => none
   | none => twoG hG l f args h
  | false => twoG hG l f args h
theorem twoG_some {hG : Hp} : ∀ {l : List (FuncId × TSpec)} {f : FuncId} {args : List AV} {h : Hp} {x : Nd × Bool × AV × AV}, twoG hG l f args h = some x → globsSame hG h hG.size = true ∧ ∃ s, (f, s) ∈ l ∧ s args h = some x
 | [], _, _, _, _, e => by cases e
 | (g, s) :: l, f, args, h, x, e => by
  simp only [twoG] at e
  split at e
  ·rename_i hb
   have := Nat.eq_of_beq_eq_true hb
   subst this
   split at e
   ·rename_i hs
    split at e
    ·rename_i hg
     cases e
     exact ⟨hg, s, by simp, hs⟩
    ·cases e
   ·obtain ⟨h2, s', h3, h4⟩ := twoG_some e
    exact ⟨h2, s', by simp [h3], h4⟩
  ·obtain ⟨h2, s', h3, h4⟩ := twoG_some e
   exact ⟨h2, s', by simp [h3], h4⟩
end
end Go.Eng
namespace Go.Eng
open Go
noncomputable section
theorem one_tt {v : AV} {k : Hp} {e : CEnt} (h : OneC [⟨.tt, v, k⟩] e) : e = ⟨.tt, v, k⟩ := by
 unfold OneC at h
 simp [G.val] at h
 exact h.symm
def Tells (lo : Nat) (k : Hp) (v0 : AV) (sz : Nat) (v : AV) (bs : List ABody) : Prop :=
 ∀ (σ : Sg) (h : Hp) (W : World) (τ : Sg) (X : World) (V : Value), h.size = sz → HRel σ h W → HRel τ k X → VRel τ v0 V → (∀ i B N, τ i = some (B, N) → lo ≤ i → W.heap.size ≤ B) → Quiet W X →
  ∃ υ, HRel υ (pushAll h bs) X ∧ Good σ h W υ (pushAll h bs) X ∧ VRel υ v V
theorem ref_call {P : Program} {glob : Nat → Option Nat} {hG : Hp} {f : FuncId} {args : List AV} {h : Hp} {nd : Nd} {v : AV} {bs : List ABody}
  (key : ∀ (σ : Sg) (A : Array Value) (W : World), GRel (mkM P glob hG [] noExt) σ → HRel σ h W → VRels σ args A.toList → nd.val →
   ∃ (C : Ctx) (n : Nat) (h0 : Hp) (as : List AV) (ρ : Sg) (nd0 : Nd) (v0 : AV) (k : Hp), CtxOk C ∧ C.P = P ∧ C.glob = glob ∧ HRel ρ h0 W ∧ GRel C ρ ∧ VRels ρ as A.toList ∧ (run C n).call f as h0 = some ⟨nd0, [⟨.tt, v0, k⟩]⟩ ∧ v0.isPanic = false ∧ nd0.val ∧ allOld h0.clock (dropN (k.size - h0.size) k.blks) = true ∧
    Tells h0.size k v0 h.size v bs) :
  CallOk (mkM P glob hG [] noExt) f args h ⟨nd, [⟨.tt, v, pushAll h bs⟩]⟩ := by
 intro σ A W g r hA hn cs
 obtain ⟨C, n, h0, as, ρ, nd0, v0, k, co, rfl, hgl, r0, g0, hA0, hrun, hv0, hn0, h2, tell⟩ := key σ A W g r hA hn
 obtain ⟨hc, hfn⟩ := (run_sound co n).call f as h0 _ hrun
 replace hc := hc.ok (tame_one hv0)
 obtain ⟨x, k1, τ, V, X, fr, k2, k3, k4, k5, k6⟩ := hc ρ A W g0 r0 hA0 hn0 cs
 obtain rfl := one_tt k1
 have quiet : ∀ i B N c, ρ i = some (B, N) → k.get i = some c → c.wr < h0.clock := by
  intro i B N c e e2
  have hi := (r0.dom i B N e).1
  have hlt := Hp.get_lt e2
  rw [Hp.get_eq, if_pos hlt] at e2
  refine allOld_mem h2 c ?_
  rw [dropN_eq]
  have : (k.blks.drop (k.size - h0.size))[h0.size - 1 - i]? = some c := by
   rw [List.getElem?_drop, ← e2]
   congr 1
   have h9 : h0.size ≤ k.size := k4.mon.size
   omega
  exact List.mem_of_getElem? this
 have hq : Quiet W X := ⟨k4.ext, fun B hB => k4.keep B hB (fun h => h) fun i N c e e2 => quiet i B N c e e2⟩
 obtain ⟨υ, u1, u2, u3⟩ := tell σ h W τ X V rfl r k3 k2 (fun i B N e hi => by
  rcases Nat.lt_or_ge B W.heap.size with hB | hB
  ·rcases k4.old i B N e hi hB with h8 | ⟨j, M, c, j1, j2, j3, j4⟩
   ·exact absurd h8 id
   ·exact absurd (quiet j B M c j2 j3) (Nat.not_lt.2 j4)
  ·exact hB) hq
 exact ⟨⟨.tt, v, pushAll h bs⟩, rfl, υ, V, X, fr, u3, u1, u2, k5, k6⟩
theorem tells_num {lo sz : Nat} {k : Hp} {v0 v : AV} (hv : ∀ (τ σ : Sg) V, VRel τ v0 V → VRel σ v V) : Tells lo k v0 sz v [] := by
 intro σ h W τ X V _ r _ k2 _ hq
 obtain ⟨r1, g1⟩ := r.quiet hq
 exact ⟨σ, r1, g1, hv τ σ V k2⟩
def intsOf (ik : IntKind) : List AV → Option (List Int)
 | [] => some []
 | .int _ k x :: l => match decide (k = ik) with
  | true => match intsOf ik l with
   | some xs => some (x :: xs)
   | none => none
  | false => none
 | _ :: _ => none
theorem ints_rel {σ : Sg} {ik : IntKind} : ∀ {l : List AV} {L : List Value} {xs : List Int}, VRels σ l L → intsOf ik l = some xs → L = xs.map (Value.int ik)
 | [], L, xs, h, e => by cases e; exact h
 | a :: l, L, xs, h, e => by
  cases a with
  | int b k x =>
   simp only [intsOf] at e
   split at e
   ·rename_i hk
    obtain rfl := of_decide_eq_true hk
    split at e
    ·rename_i ys hy
     cases e
     obtain ⟨v, vs, rfl, h1, h2⟩ := h
     obtain rfl := h1
     rw [ints_rel h2 hy]
     rfl
    ·cases e
   ·cases e
  | _ => cases e
def newId (lo : Nat) : AV → Bool
 | .nilslice => true
 | .slice i _ l c => Nat.ble lo i && Nat.ble l c
 | .gslice i _ _ _ => Nat.ble lo i
 | _ => false
theorem rows_of {τ : Sg} {k : Hp} {X : World} (r : HRel τ k X) {x : AV} {V : Value} (hx : VRel τ x V) {size n : Nat} {cs : List AV} (e : cellsOfV k size x = some (n, cs)) {ik : IntKind} {xs : List Int} (hi : intsOf ik cs = some xs) {lo : Nat} (hid : newId lo x = true) :
  ∃ p len c, V = .slice p len c ∧ (len = n ∧ len ≤ c) ∧ (len = 0 ∨ ∃ B N i M o, p = some ⟨B, N, none⟩ ∧ lo ≤ i ∧ τ i = some (B, M) ∧ X.heap[B]? = some o ∧ ∀ σ, BRel σ N (.rows ik xs) o) := by
 have tail : ∀ (l : List AV) (A : List Value) (off m : Nat), VRels τ l A → takeN m (dropN off l) = some cs → (A.drop off).take m = xs.map (Value.int ik) ∧ xs.length = m ∧ (m = 0 ∨ off + m ≤ A.length) := by
  intro l A off m h ht
  obtain ⟨k1, k2⟩ := VRels.take _ (VRels.drop off h) ht
  have k3 := ints_rel k1 hi
  have k4 : ((A.drop off).take m).length = m := by rw [VRels.length k1, k2]
  refine ⟨k3, ?_, ?_⟩
  ·rw [k3] at k4; simpa using k4
  ·rw [List.length_take, List.length_drop] at k4
   omega
 cases x with
 | nilslice =>
  cases e
  exact ⟨none, 0, 0, hx, ⟨rfl, Nat.le_refl _⟩, .inl rfl⟩
 | slice id off len cap =>
  obtain ⟨B, N, hσ, rfl⟩ := hx
  simp only [cellsOfV] at e
  simp only [newId, Bool.and_eq_true] at hid
  have hlo := Nat.le_of_ble_eq_true hid.1
  have hcap := Nat.le_of_ble_eq_true hid.2
  split at e
  ·rename_i w l hg
   obtain ⟨B', N', o, h1, h2, K, el, rfl, h3, h4⟩ := r.blk id _ hg rfl
   rw [hσ] at h1; cases h1
   cases ht : takeN (len * size) (dropN off l) with
   | none => rw [ht] at e; cases e
   | some q =>
    rw [ht] at e; cases e
    obtain ⟨t1, t2, t3⟩ := tail _ _ _ _ h3 ht
    refine ⟨_, n, cap, rfl, ⟨rfl, hcap⟩, .inr ⟨B, off, id, N, _, rfl, hlo, hσ, h2, fun σ => ⟨K, el, _, rfl, ?_⟩⟩⟩
    rw [t2]; exact t1
  ·rename_i w l hg
   obtain ⟨B', N', o, h1, h2, K, el, A, Z, rfl, hA, h3, h4⟩ := r.blk id _ hg rfl
   rw [hσ] at h1; cases h1
   cases ht : takeN (len * size) (dropN off l) with
   | none => rw [ht] at e; cases e
   | some q =>
    rw [ht] at e; cases e
    obtain ⟨t1, t2, t3⟩ := tail _ _ _ _ h3 ht
    refine ⟨_, n, cap, rfl, ⟨rfl, hcap⟩, .inr ⟨B, off, id, N, _, rfl, hlo, hσ, h2, fun σ => ⟨K, el, _, rfl, ?_⟩⟩⟩
    rw [t2, hA]
    rcases t3 with h0 | h0
    ·rw [h0] at t1 ⊢; simpa using t1
    ·rw [List.drop_append_of_le_length (by omega), List.take_append_of_le_length (by rw [List.length_drop]; omega)]
     exact t1
  ·cases e
 | gslice id off len ee =>
  obtain ⟨B, N, qo, c, hσ, rfl, hq, hc⟩ := hx
  simp only [cellsOfV] at e
  have hlo := Nat.le_of_ble_eq_true hid
  split at e
  ·rename_i w l hg
   obtain ⟨B', N', o, h1, h2, K, el, A, Z, rfl, hA, h3, h4⟩ := r.blk id _ hg rfl
   rw [hσ] at h1; cases h1
   cases ht : takeN (len * size) (dropN off l) with
   | none => rw [ht] at e; cases e
   | some q =>
    rw [ht] at e; cases e
    by_cases hz : n = 0
    ·exact ⟨_, n, c, rfl, ⟨rfl, hc⟩, .inl hz⟩
    ·obtain ⟨rfl, _⟩ := hq hz
     obtain ⟨t1, t2, t3⟩ := tail _ _ _ _ h3 ht
     refine ⟨_, n, c, rfl, ⟨rfl, hc⟩, .inr ⟨B, qo, id, N, _, rfl, hlo, hσ, h2, fun σ => ⟨K, el, _, rfl, ?_⟩⟩⟩
     rw [t2, hA]
     rcases t3 with h0 | h0
     ·rw [h0] at t1 ⊢; simpa using t1
     ·rw [List.drop_append_of_le_length (by omega), List.take_append_of_le_length (by rw [List.length_drop]; omega)]
      exact t1
  ·cases e
 | _ => cases hid
theorem rows_new {σ : Sg} {h : Hp} {W X : World} (r : HRel σ h W) (hq : Quiet W X) {ik : IntKind} {xs : List Int} {B N : Nat} {o : Obj} (hB : W.heap.size ≤ B) (ho : X.heap[B]? = some o) (hb : ∀ σ, BRel σ N (.rows ik xs) o) :
  HRel (σ.add h.size (B, N)) (h.push (.rows ik xs)) X ∧ Good σ h W (σ.add h.size (B, N)) (h.push (.rows ik xs)) X := by
 have hs := Sub.add (x := (B, N)) r.fresh
 have hBX : B < X.heap.size := by
  rcases Nat.lt_or_ge B X.heap.size with h1 | h1
  ·exact h1
  ·rw [Array.getElem?_eq_none h1] at ho; cases ho
 have gp : ∀ i, (h.push (.rows ik xs)).get i = if i = h.size then some ⟨h.clock, .rows ik xs⟩ else h.get i := fun i => Hp.get_push _ i
 have none_at : ∀ i b, h.get i = some b → i ≠ h.size := fun i b hb => Nat.ne_of_lt (Hp.get_lt hb)
 have cases_add : ∀ i x, (σ.add h.size (B, N)) i = some x → (i = h.size ∧ x = (B, N)) ∨ (i ≠ h.size ∧ σ i = some x) := by
  intro i x e
  unfold Sg.add at e
  split at e
  ·rename_i hi; cases e; exact .inl ⟨hi, rfl⟩
  ·rename_i hi; exact .inr ⟨hi, e⟩
 refine ⟨⟨Hp.ok_push r.ok _, fun i b hg hd => ?_, fun i B' N' e => ?_, fun i j b c B' N' M hgi hgj hdi hdj e1 e2 => ?_⟩, ?_⟩
 ·rw [gp] at hg
  split at hg
  ·rename_i hi; cases hg; subst hi
   exact ⟨B, N, o, add_here, ho, hb _⟩
  ·obtain ⟨B1, N1, o1, h1, h2, h3⟩ := r.blk i b hg hd
   exact ⟨B1, N1, o1, hs _ _ h1, by rw [hq.old B1 (r.dom _ _ _ h1).2]; exact h2, h3.mono hs⟩
 ·rcases cases_add i _ e with ⟨rfl, hx⟩ | ⟨hi, hx⟩
  ·cases hx
   exact ⟨Nat.lt_succ_self _, hBX⟩
  ·have := r.dom i B' N' hx
   exact ⟨Nat.lt_succ_of_lt this.1, Nat.lt_of_lt_of_le this.2 hq.ext.size⟩
 ·rw [gp] at hgi hgj
  rcases cases_add i _ e1 with ⟨rfl, hx⟩ | ⟨hi, hx⟩ <;> rcases cases_add j _ e2 with ⟨rfl, hy⟩ | ⟨hj, hy⟩
  ·exact .inl rfl
  ·cases hx
   exact absurd (r.dom j _ _ hy).2 (Nat.not_lt.2 hB)
  ·cases hy
   exact absurd (r.dom i _ _ hx).2 (Nat.not_lt.2 hB)
  ·rw [if_neg hi] at hgi
   rw [if_neg hj] at hgj
   exact r.inj i j b c B' N' M hgi hgj hdi hdj hx hy
 ·refine ⟨hs, fun i x e hi => ?_, hq.ext, ⟨Nat.le_refl _, Nat.le_succ _, fun i b c e1 e2 => ?_, fun i w c e => ?_⟩, fun i B' N' e hi hB' => ?_, fun B' hB' _ _ => hq.old B' hB'⟩
  ·rcases cases_add i _ e with ⟨rfl, _⟩ | ⟨_, hx⟩
   ·exact absurd hi (Nat.lt_irrefl _)
   ·exact hx
  ·rw [gp, if_neg (none_at i b e1), e1] at e2
   cases e2; exact .inl rfl
  ·exact ⟨w, c.state, c.pending, by rw [gp, if_neg (none_at i _ e)]; exact e⟩
  ·rcases cases_add i _ e with ⟨rfl, hx⟩ | ⟨_, hx⟩
   ·cases hx; exact absurd hB' (Nat.not_lt.2 hB)
   ·exact absurd (r.dom i _ _ hx).1 (Nat.not_lt.2 hi)
theorem rows_none {σ : Sg} {h : Hp} {W X : World} (r : HRel σ h W) (hq : Quiet W X) {ik : IntKind} :
  HRel σ (h.push (.rows ik [])) X ∧ Good σ h W σ (h.push (.rows ik [])) X := by
 have gp : ∀ i, (h.push (.rows ik [])).get i = if i = h.size then some ⟨h.clock, .rows ik []⟩ else h.get i := fun i => Hp.get_push _ i
 have none_at : ∀ i b, h.get i = some b → i ≠ h.size := fun i b hb => Nat.ne_of_lt (Hp.get_lt hb)
 refine ⟨⟨Hp.ok_push r.ok _, fun i b hg hd => ?_, fun i B' N' e => ?_, fun i j b c B' N' M hgi hgj hdi hdj e1 e2 => ?_⟩, ?_⟩
 ·rw [gp] at hg
  split at hg
  ·cases hg; cases hd
  ·obtain ⟨B1, N1, o1, h1, h2, h3⟩ := r.blk i b hg hd
   exact ⟨B1, N1, o1, h1, by rw [hq.old B1 (r.dom _ _ _ h1).2]; exact h2, h3⟩
 ·have := r.dom i B' N' e
  exact ⟨Nat.lt_succ_of_lt this.1, Nat.lt_of_lt_of_le this.2 hq.ext.size⟩
 ·rw [gp] at hgi hgj
  rw [if_neg (Nat.ne_of_lt (r.dom i _ _ e1).1)] at hgi
  rw [if_neg (Nat.ne_of_lt (r.dom j _ _ e2).1)] at hgj
  exact r.inj i j b c B' N' M hgi hgj hdi hdj e1 e2
 ·refine ⟨Sub.refl _, fun i x e _ => e, hq.ext, ⟨Nat.le_refl _, Nat.le_succ _, fun i b c e1 e2 => ?_, fun i w c e => ?_⟩, fun i B' N' e hi hB' => absurd (r.dom i _ _ e).1 (Nat.not_lt.2 hi), fun B' hB' _ _ => hq.old B' hB'⟩
  ·rw [gp, if_neg (none_at i b e1), e1] at e2
   cases e2; exact .inl rfl
  ·exact ⟨w, c.state, c.pending, by rw [gp, if_neg (none_at i _ e)]; exact e⟩
theorem cells_zero {k : Hp} {size lo : Nat} {x : AV} {cs : List AV} (hx : cellsOfV k size x = some (0, cs)) (hid : newId lo x = true) : cs = [] := by
 have tk : ∀ (l : List AV) (n : Nat), ((takeN (n * size) l).map fun r => (n, r)) = some (0, cs) → cs = [] := by
  intro l n h
  simp only [Option.map_eq_some_iff, Prod.mk.injEq] at h
  obtain ⟨a, h1, rfl, rfl⟩ := h
  rw [Nat.zero_mul] at h1
  cases h1; rfl
 cases x with
 | nilslice => cases hx; rfl
 | eslice b => cases hx; rfl
 | slice id off len cap =>
  simp only [cellsOfV] at hx
  split at hx
  ·exact tk _ _ hx
  ·exact tk _ _ hx
  ·cases hx
 | gslice id off len ee =>
  simp only [cellsOfV] at hx
  split at hx
  ·exact tk _ _ hx
  ·cases hx
 | _ => cases hid
theorem tells_rows {lo sz : Nat} {k : Hp} {v0 v x : AV} {size n : Nat} {cs : List AV} {ik : IntKind} {xs : List Int} {m : Int}
  (hx : cellsOfV k (size + 1) x = some (n, cs)) (hi : intsOf ik cs = some xs) (hid : newId lo x = true) (hm : m = n)
  (hv : ∀ (τ : Sg) V, VRel τ v0 V → ∃ U, VRel τ x U ∧ ∀ υ, VRel υ (.lslice sz m) U → VRel υ v V) : Tells lo k v0 sz v [.rows ik xs] := by
 intro σ h W τ X V hs r r2 k2 fresh hq
 obtain ⟨U, k3, k4⟩ := hv τ V k2
 obtain ⟨p, len, c, rfl, ⟨rfl, hcap⟩, k5⟩ := rows_of r2 k3 hx hi hid
 by_cases h0 : len = 0
 ·subst h0
  cases xs with
  | nil =>
   obtain ⟨r1, g1⟩ := rows_none (ik := ik) r hq
   exact ⟨σ, r1, g1, k4 σ ⟨p, 0, c, rfl, ⟨hm.symm, hcap⟩, .inl rfl⟩⟩
  | cons y ys =>
   exfalso
   have := cells_zero hx hid
   subst this
   cases hi
 ·rcases k5 with k5 | ⟨B, N, i, M, o, rfl, q1, q2, q3, q4⟩
  ·exact absurd k5 h0
  ·obtain ⟨r1, g1⟩ := rows_new r hq (fresh i B M q2 q1) q3 q4
   exact ⟨_, r1, g1, k4 _ ⟨_, len, c, rfl, ⟨hm.symm, hcap⟩, .inr ⟨B, N, by rw [← hs]; exact add_here, rfl⟩⟩⟩
end
end Go.Eng
namespace Go.Eng
open Go
noncomputable section
abbrev NSpec := List AV → Hp → Option (Nd × AV × List ABody)
structure NOk (P : Program) (glob : Nat → Option Nat) (hG : Hp) (f : FuncId) (spec : NSpec) : Prop where
 call : ∀ args nd v bs h, spec args h = some (nd, v, bs) → globsSame hG h hG.size = true → CallOk (mkM P glob hG [] noExt) f args h ⟨nd, [⟨.tt, v, pushAll h bs⟩]⟩
 fn : ∃ fn : Func, P.funcs[f]? = some fn ∧ fn.body.isSome = true
def hN (s : HSpec) : NSpec := fun args h => match s args h with
 | some (nd, v) => some (nd, v, [])
 | none => none
theorem HOk.n {P : Program} {glob : Nat → Option Nat} {hG : Hp} {f : FuncId} {s : HSpec} (g : HOk P glob hG f s) : NOk P glob hG f (hN s) := by
 refine ⟨fun args nd v bs h e same => ?_, g.fn⟩
 unfold hN at e
 split at e
 ·rename_i nd' v' h1
  cases e
  exact g.call args nd v h h1 same
 ·cases e
noncomputable def dropR {α : Type} (l : List α) (n : Nat) : List α :=
 List.rec (motive := fun _ => Nat → List α) (fun _ => []) (fun a l ih n => Nat.rec (motive := fun _ => List α) (a :: l) (fun m _ => ih m) n) l n
theorem dropR_eq {α : Type} : ∀ (l : List α) (n : Nat), dropR l n = l.drop n
 | [], n => by cases n <;> rfl
 | a :: l, 0 => rfl
 | a :: l, n + 1 => (dropR_eq l n).trans rfl
def samesB : Nat → List ABlk → List ABlk → Bool
 | 0, _, _ => true
 | n + 1, a :: l, b :: m => sameBody a.body b.body && samesB n l m
 | _, _, _ => false
theorem samesB_get : ∀ {n : Nat} {l m : List ABlk}, samesB n l m = true → ∀ j, j < n → ∃ b c, l[j]? = some b ∧ m[j]? = some c ∧ sameBody b.body c.body = true
 | 0, _, _, _, j, hj => absurd hj (Nat.not_lt_zero j)
 | n + 1, [], _, e, _, _ => by cases e
 | n + 1, _ :: _, [], e, _, _ => by cases e
 | n + 1, a :: l, b :: m, e, j, hj => by
  simp only [samesB, Bool.and_eq_true] at e
  cases j with
  | zero => exact ⟨a, b, rfl, rfl, e.1⟩
  | succ j =>
   obtain ⟨b', c', h1, h2, h3⟩ := samesB_get e.2 j (by omega)
   exact ⟨b', c', by simpa using h1, by simpa using h2, h3⟩
def globsF (hG h : Hp) : Bool := match Nat.ble hG.size h.size with
 | true => samesB hG.size (dropR h.blks (h.size - hG.size)) hG.blks
 | false => false
theorem globsF_same {hG h : Hp} (e : globsF hG h = true) : globsSame hG h hG.size = true := by
 unfold globsF at e
 split at e
 ·rename_i hb
  have hb := Nat.le_of_ble_eq_true hb
  have key : ∀ n, n ≤ hG.size → globsSame hG h n = true := by
   intro n
   induction n with
   | zero => intro _; rfl
   | succ n ih =>
    intro hn
    obtain ⟨b, c, h1, h2, h3⟩ := samesB_get e (hG.size - 1 - n) (by omega)
    rw [dropR_eq, List.getElem?_drop] at h1
    have e1 : h.get n = some b := by
     unfold Hp.get
     have : Nat.ble h.size n = false := by rw [Bool.eq_false_iff]; intro k; have := Nat.le_of_ble_eq_true k; omega
     have e4 : h.size - 1 - n = h.size - hG.size + (hG.size - 1 - n) := by omega
     rw [this]
     show nth h.blks (h.size - 1 - n) = some b
     rw [nth_eq, e4]
     exact h1
    have e2 : hG.get n = some c := by
     unfold Hp.get
     have : Nat.ble hG.size n = false := by rw [Bool.eq_false_iff]; intro k; have := Nat.le_of_ble_eq_true k; omega
     rw [this]
     show nth hG.blks (hG.size - 1 - n) = some c
     rw [nth_eq]
     exact h2
    simp only [globsSame, ih (by omega), e1, e2, h3, Bool.and_self]
  exact key _ (Nat.le_refl _)
 ·cases e
def conN (hG : Hp) : List (FuncId × NSpec) → FuncId → List AV → Hp → Option (Nd × AV × List ABody)
 | [], _, _, _ => none
 | (g, s) :: l, f, args, h => match Nat.beq f g with
  | true => match s args h with
   | some x => match globsF hG h with
    | true => some x
    | false => none
   | none => conN hG l f args h
  | false => conN hG l f args h
theorem conN_some {hG : Hp} : ∀ {l : List (FuncId × NSpec)} {f : FuncId} {args : List AV} {h : Hp} {x : Nd × AV × List ABody}, conN hG l f args h = some x → globsSame hG h hG.size = true ∧ ∃ s, (f, s) ∈ l ∧ s args h = some x
 | [], _, _, _, _, e => by cases e
 | (g, s) :: l, f, args, h, x, e => by
  simp only [conN] at e
  split at e
  ·rename_i hb
   have := Nat.eq_of_beq_eq_true hb
   subst this
   split at e
   ·rename_i hs
    split at e
    ·rename_i hg
     cases e
     exact ⟨globsF_same hg, s, by simp, hs⟩
    ·cases e
   ·obtain ⟨h2, s', h3, h4⟩ := conN_some e
    exact ⟨h2, s', by simp [h3], h4⟩
  ·obtain ⟨h2, s', h3, h4⟩ := conN_some e
   exact ⟨h2, s', by simp [h3], h4⟩
def mkN (P : Program) (glob : Nat → Option Nat) (hG : Hp) (tbl : List (FuncId × NSpec)) (tt : List (FuncId × TSpec)) (ext : FuncId → List AV → Option (Nd × AV)) : Ctx := { P, glob, con := conN hG tbl, ext, loop := fun _ _ _ => none, two := twoG hG tt }
theorem mkN_ok {P : Program} {glob : Nat → Option Nat} {hG : Hp} (hp : ProgOk P) {tbl : List (FuncId × NSpec)} {tt : List (FuncId × TSpec)} {ext : FuncId → List AV → Option (Nd × AV)} (he : ExtOk P ext) (ht : ∀ x ∈ tbl, NOk P glob hG x.1 x.2) (h2 : ∀ x ∈ tt, TOk P glob hG x.1 x.2) : CtxOk (mkN P glob hG tbl tt ext) := by
 refine ⟨hp, fun f args h nd v bs e => ?_, he, fun _ _ _ _ e => (by cases e), fun f args h nd p v w e => ?_⟩
 ·obtain ⟨hg, s, h1, h3⟩ := conN_some e
  have g := ht _ h1
  exact ⟨g.call args nd v bs h h3 hg, g.fn⟩
 ·obtain ⟨hg, s, h1, h3⟩ := twoG_some e
  have g := h2 _ h1
  exact ⟨g.call args nd p v w h h3 hg, g.fn⟩
mutual
def tell : AV → AV → Prop
 | .int _ k x, .int _ k' y => k = k' ∧ x = y
 | .bool _ a, .bool _ b => a = b
 | .str _ a, .str _ b => a = b
 | .agg l, .agg m => tellL l m
 | .tuple l, .tuple m => tellL l m
 | .pslice i l _ n, .pslice i' l' _ n' => i = i' ∧ l' ≤ l ∧ n = n'
 | .any _, _ => False
 | a, b => a = b
def tellL : List AV → List AV → Prop
 | [], [] => True
 | a :: l, b :: m => tell a b ∧ tellL l m
 | _, _ => False
end
mutual
theorem tell_rel {σ : Sg} : ∀ (a b : AV) (V : Value), tell a b → VRel σ a V → VRel σ b V
 | .int _ k x, .int _ k' y, V, h, r => by obtain ⟨rfl, rfl⟩ := h; exact r
 | .bool _ a, .bool _ b, V, h, r => by obtain rfl := h; exact r
 | .str _ a, .str _ b, V, h, r => by obtain rfl := h; exact r
 | .pslice i l _ n, .pslice i' l' _ n', V, h, r => by
  obtain ⟨rfl, hl, rfl⟩ := h
  obtain ⟨p, len, c, e1, e2, e3, e4⟩ := r
  exact ⟨p, len, c, e1, e2, Nat.le_trans hl e3, e4.imp (fun h0 => by omega) id⟩
 | .agg l, .agg m, V, h, r => by obtain ⟨K, rfl, hK⟩ := r; exact ⟨K, rfl, tellL_rel l m _ h hK⟩
 | .tuple l, .tuple m, V, h, r => by obtain ⟨K, rfl, hK⟩ := r; exact ⟨K, rfl, tellL_rel l m _ h hK⟩
 | a, b, V, h, r => by
  unfold tell at h
  split at h <;> first
   | (subst h; exact r)
   | exact h.elim
   | (obtain ⟨rfl, rfl⟩ := h; exact r)
   | (
     obtain ⟨rfl, hl, rfl⟩ := h
     obtain ⟨p, len, c, e1, e2, e3, e4⟩ := r
     exact ⟨p, len, c, e1, e2, Nat.le_trans hl e3, e4.imp (fun h0 => by omega) id⟩)
   | (obtain ⟨K, rfl, hK⟩ := r; exact ⟨K, rfl, tellL_rel _ _ _ h hK⟩)
theorem tellL_rel {σ : Sg} : ∀ (l m : List AV) (L : List Value), tellL l m → VRels σ l L → VRels σ m L
 | [], [], L, _, r => r
 | a :: l, b :: m, L, h, r => by
  obtain ⟨v, vs, rfl, h1, h2⟩ := r
  exact ⟨v, vs, rfl, tell_rel a b v h.1 h1, tellL_rel l m vs h.2 h2⟩
 | [], _ :: _, _, h, _ => h.elim
 | _ :: _, [], _, h, _ => h.elim
end
theorem glob_rel {hG : Hp} (ok : hG.ok) (pl : blksPlain hG.size hG.blks = true) {h : Hp} (same : globsSame hG h hG.size = true) {σ : Sg} {W : World} (r : HRel σ h W) : HRel (σ.low hG.size) hG W := by
 have gs := globsSame_get same
 refine ⟨ok, fun i c hg hd => ?_, fun i B N e => ?_, fun i j b c B N M hb hc' hd hd' e1 e2 => ?_⟩
 ·have hi := Hp.get_lt hg
  obtain ⟨b, c', hb, hc', hbc⟩ := gs i hi
  rw [hg] at hc'; cases hc'
  obtain ⟨B, N, o, q1, q2, q3⟩ := r.blk i b hb (by rw [hbc]; exact hd)
  refine ⟨B, N, o, by simp [Sg.low, hi, q1], q2, ?_⟩
  rw [hbc] at q3
  exact q3.low (blksPlain_mem pl c (get_mem hg))
 ·unfold Sg.low at e
  split at e
  ·rename_i hi
   exact ⟨hi, (r.dom i B N e).2⟩
  ·cases e
 ·have hi := Hp.get_lt hb
  have hj := Hp.get_lt hc'
  obtain ⟨b1, b2, p1, p2, p3⟩ := gs i hi
  obtain ⟨c1, c2, q1, q2, q3⟩ := gs j hj
  rw [hb] at p2; cases p2
  rw [hc'] at q2; cases q2
  have := r.inj i j b1 c1 B N M p1 q1 (by rw [p3]; exact hd) (by rw [q3]; exact hd') (Sg.low_sub σ _ _ _ e1) (Sg.low_sub σ _ _ _ e2)
  rw [p3, q3] at this
  exact this
def viewB (ik : IntKind) : List Int → ABody
 | [] => .dead
 | x :: l => .view ((x :: l).map fun n => .int true ik n)
def bodyB (raw : Bool) (ik : IntKind) (xs : List Int) : ABody :=
 match raw with
 | true => .rows ik xs
 | false => viewB ik xs
def viewsH (raw : Bool) (h : Hp) : List (IntKind × List Int) → Hp
 | [] => h
 | (ik, xs) :: l => viewsH raw (h.push0 (bodyB raw ik xs)) l
theorem viewsH_clock {raw : Bool} : ∀ (l : List (IntKind × List Int)) (h : Hp), (viewsH raw h l).clock = h.clock
 | [], _ => rfl
 | (_, _) :: l, h => viewsH_clock l (h.push0 _)
theorem bodyB_nil {raw : Bool} {ik : IntKind} : (bodyB raw ik []).isDead = true := by cases raw <;> rfl
theorem bodyB_view {raw : Bool} {ik : IntKind} {y : Int} {ys : List Int} : (bodyB raw ik (y :: ys)).isView = true := by cases raw <;> rfl
def Apart (ρ : Sg) (h : Hp) (B : Nat) : Prop := ∀ i b M, h.get i = some b → b.body.isDead = false → ρ i = some (B, M) → b.body.isView = true
theorem rows_view {τ : Sg} {N : Nat} {ik : IntKind} {xs : List Int} {o : Obj} (h : BRel τ N (.rows ik xs) o) : BRel τ N (.view (xs.map fun n => .int true ik n)) o := by
 obtain ⟨K, e, fr, rfl, h1⟩ := h
 refine ⟨K, e, fr, rfl, ?_⟩
 rw [List.length_map, h1]
 have rels : ∀ l : List Int, VRels τ (l.map fun n => .int true ik n) (l.map (Value.int ik)) := by
  intro l
  induction l with
  | nil => exact rfl
  | cons a l ih => exact ⟨_, _, rfl, rfl, ih⟩
 exact rels xs
theorem add_cases {ρ : Sg} {n : Nat} {x : Nat × Nat} {i : Nat} {y : Nat × Nat} (e : (ρ.add n x) i = some y) : (i = n ∧ y = x) ∨ (i ≠ n ∧ ρ i = some y) := by
 unfold Sg.add at e
 split at e
 ·rename_i hi; cases e; exact .inl ⟨hi, rfl⟩
 ·rename_i hi; exact .inr ⟨hi, e⟩
theorem view_add {ρ : Sg} {h0 : Hp} {W : World} (r : HRel ρ h0 W) {B N : Nat} {b : ABody} {o : Obj} (hv : b.isView = true) (ho : W.heap[B]? = some o) (hb : BRel (ρ.add h0.size (B, N)) N b o) (ap : Apart ρ h0 B) :
  HRel (ρ.add h0.size (B, N)) (h0.push0 b) W := by
 have hs := Sub.add (x := (B, N)) r.fresh
 have hB : B < W.heap.size := by
  rcases Nat.lt_or_ge B W.heap.size with h1 | h1
  ·exact h1
  ·rw [Array.getElem?_eq_none h1] at ho; cases ho
 refine ⟨by have := r.ok; simp only [Hp.ok, Hp.push0, List.length_cons] at this ⊢; omega, fun i c hg hd => ?_, fun i B' M e => ?_, fun i j c d B' M M' hg hg' hd hd' e1 e2 => ?_⟩
 ·rw [Hp.get_push0] at hg
  split at hg
  ·rename_i hi; subst hi; cases hg
   exact ⟨B, N, o, add_here, ho, hb⟩
  ·obtain ⟨B', M, p, h1, h2, h3⟩ := r.blk i c hg hd
   exact ⟨B', M, p, hs _ _ h1, h2, h3.mono hs⟩
 ·rcases add_cases e with ⟨rfl, hx⟩ | ⟨hi, hx⟩
  ·cases hx; exact ⟨Nat.lt_succ_self _, hB⟩
  ·have := r.dom i B' M hx
   exact ⟨Nat.lt_succ_of_lt this.1, this.2⟩
 ·rw [Hp.get_push0] at hg hg'
  rcases add_cases e1 with ⟨rfl, hx⟩ | ⟨hi, hx⟩ <;> rcases add_cases e2 with ⟨rfl, hy⟩ | ⟨hj, hy⟩
  ·exact .inl rfl
  ·cases hx
   rw [if_pos rfl] at hg; cases hg
   rw [if_neg hj] at hg'
   exact .inr ⟨hv, ap j d M' hg' hd' hy⟩
  ·cases hy
   rw [if_pos rfl] at hg'; cases hg'
   rw [if_neg hi] at hg
   exact .inr ⟨ap i c M hg hd hx, hv⟩
  ·rw [if_neg hi] at hg
   rw [if_neg hj] at hg'
   exact r.inj i j c d B' M M' hg hg' hd hd' hx hy
theorem view_dead {ρ : Sg} {h0 : Hp} {W : World} (r : HRel ρ h0 W) {b : ABody} (hb : b.isDead = true) : HRel ρ (h0.push0 b) W := by
 refine ⟨by have := r.ok; simp only [Hp.ok, Hp.push0, List.length_cons] at this ⊢; omega, fun i c hg hd => ?_, fun i B' M e => ?_, fun i j c d B' M M' hg hg' hd hd' e1 e2 => ?_⟩
 ·rw [Hp.get_push0] at hg
  split at hg
  ·cases hg; rw [show _ = _ from hb] at hd; cases hd
  ·exact r.blk i c hg hd
 ·have := r.dom i B' M e
  exact ⟨Nat.lt_succ_of_lt this.1, this.2⟩
 ·rw [Hp.get_push0] at hg hg'
  rw [if_neg (Nat.ne_of_lt (r.dom i _ _ e1).1)] at hg
  rw [if_neg (Nat.ne_of_lt (r.dom j _ _ e2).1)] at hg'
  exact r.inj i j c d B' M M' hg hg' hd hd' e1 e2
theorem Apart.add {ρ : Sg} {h0 : Hp} {B B' N : Nat} {b : ABody} (hv : b.isView = true) (ap : Apart ρ h0 B') : Apart (ρ.add h0.size (B, N)) (h0.push0 b) B' := by
 intro i c M hg hd e
 rw [Hp.get_push0] at hg
 rcases add_cases e with ⟨rfl, hx⟩ | ⟨hi, hx⟩
 ·rw [if_pos rfl] at hg; cases hg; exact hv
 ·rw [if_neg hi] at hg
  exact ap i c M hg hd hx
theorem Apart.dead {ρ : Sg} {h0 : Hp} {B' : Nat} {b : ABody} (hb : b.isDead = true) (ap : Apart ρ h0 B') : Apart ρ (h0.push0 b) B' := by
 intro i c M hg hd e
 rw [Hp.get_push0] at hg
 split at hg
 ·cases hg; rw [show _ = _ from hb] at hd; cases hd
 ·exact ap i c M hg hd e
theorem body_rel {raw : Bool} {τ : Sg} {N : Nat} {ik : IntKind} {y : Int} {ys : List Int} {o : Obj} (h : BRel τ N (.rows ik (y :: ys)) o) : BRel τ N (bodyB raw ik (y :: ys)) o := by
 cases raw with
 | true => exact h
 | false => exact rows_view h
theorem views_rel {raw : Bool} {σ : Sg} {W : World} : ∀ (l : List (Nat × IntKind × List Int)) (ρ : Sg) (h0 : Hp), HRel ρ h0 W →
  (∀ x ∈ l, x.2.2 = [] ∨ ∃ B N o, σ x.1 = some (B, N) ∧ W.heap[B]? = some o ∧ (∀ τ, BRel τ N (.rows x.2.1 x.2.2) o) ∧ Apart ρ h0 B) →
  ∃ ρ', HRel ρ' (viewsH raw h0 (l.map (·.2))) W ∧ Sub ρ ρ' ∧ ∀ j x, l[j]? = some x → x.2.2 ≠ [] → ρ' (h0.size + j) = σ x.1
 | [], ρ, h0, r, _ => ⟨ρ, r, Sub.refl _, fun j x e => by simp at e⟩
 | (id, ik, xs) :: l, ρ, h0, r, h => by
  have hx := h (id, ik, xs) (by simp)
  cases xs with
  | nil =>
   obtain ⟨ρ', r', s', h'⟩ := views_rel l ρ (h0.push0 (bodyB raw ik [])) (view_dead r bodyB_nil) (fun x hx => by
    rcases h x (by simp [hx]) with h1 | ⟨B, N, o, a1, a2, a3, a4⟩
    ·exact .inl h1
    ·exact .inr ⟨B, N, o, a1, a2, a3, a4.dead bodyB_nil⟩)
   refine ⟨ρ', r', s', fun j x e hne => ?_⟩
   cases j with
   | zero => simp at e; subst e; exact absurd rfl hne
   | succ j =>
    have := h' j x (by simpa using e) hne
    rw [← this]
    congr 1
    show _ = h0.size + 1 + j
    omega
  | cons y ys =>
   rcases hx with hx | ⟨B, N, o, a1, a2, a3, a4⟩
   ·cases hx
   ·obtain ⟨ρ', r', s', h'⟩ := views_rel l (ρ.add h0.size (B, N)) (h0.push0 (bodyB raw ik (y :: ys))) (view_add r bodyB_view a2 (body_rel (a3 _)) a4) (fun x hx => by
     rcases h x (by simp [hx]) with h1 | ⟨B', N', o', b1, b2, b3, b4⟩
     ·exact .inl h1
     ·exact .inr ⟨B', N', o', b1, b2, b3, b4.add bodyB_view⟩)
    refine ⟨ρ', r', (Sub.add r.fresh).trans s', fun j x e hne => ?_⟩
    cases j with
    | zero =>
     simp at e; subst e
     rw [Nat.add_zero, s' _ _ (add_here (σ := ρ) (x := (B, N)))]
     exact a1.symm
    | succ j =>
     have := h' j x (by simpa using e) hne
     rw [← this]
     congr 1
     show _ = h0.size + 1 + j
     omega
inductive Pa where
 | n (sh : Sh)
 | s (shs : List Sh) (ik : IntKind)
inductive Itm where
 | n (xs : List Nu)
 | s (xs : List Nu) (n : Int) (ys : List Int)
def readA (hG h : Hp) : List Pa → List AV → Option (List (Nat × IntKind × List Int) × List Itm)
 | [], [] => some ([], [])
 | .n sh :: ps, v :: vs => match Sh.read sh v with
  | none => none
  | some (_, xs) => match readA hG h ps vs with
   | none => none
   | some (ls, its) => some (ls, .n xs :: its)
 | .s shs ik :: ps, v :: vs => match v with
  | .agg cells => match splitL cells with
   | some (init, .lslice id n) => match h.get id with
    | some ⟨_, .rows ik' ys⟩ => match decide (ik = ik') && Nat.ble hG.size id with
     | true => match Sh.readL shs init with
      | none => none
      | some (_, xs) => match readA hG h ps vs with
       | none => none
       | some (ls, its) => some ((id, ik, ys) :: ls, .s xs n ys :: its)
     | false => none
    | _ => none
   | _ => none
  | _ => none
 | _, _ => none
def lists : List Pa → List Itm → List (IntKind × List Int)
 | .n _ :: ps, .n _ :: is => lists ps is
 | .s _ ik :: ps, .s _ _ ys :: is => (ik, ys) :: lists ps is
 | _, _ => []
def listA (raw : Bool) (j : Nat) (n : Int) : AV :=
 match raw with
 | true => .lslice j n
 | false => .pslice j n.toNat false n
def mkA (raw : Bool) (j : Nat) : List Pa → List Itm → List AV
 | .n sh :: ps, .n xs :: is => (Sh.mk sh xs).1 :: mkA raw j ps is
 | .s shs _ :: ps, .s xs n _ :: is => .agg ((Sh.mkL shs xs).1 ++ [listA raw j n]) :: mkA raw (j + 1) ps is
 | _, _ => []
def inits : List Pa → List Itm → List AV
 | .n sh :: ps, .n xs :: is => (Sh.mk sh xs).1 :: inits ps is
 | .s shs _ :: ps, .s xs _ _ :: is => (Sh.mkL shs xs).1 ++ inits ps is
 | _, _ => []
def okIts : List Itm → Prop
 | [] => True
 | .n _ :: l => okIts l
 | .s _ n ys :: l => (ys = [] → n = 0) ∧ okIts l
theorem underL_app {n : Nat} : ∀ {l m : List AV}, AV.underL n (l ++ m) = (AV.underL n l && AV.underL n m)
 | [], m => by simp [AV.underL]
 | a :: l, m => by simp only [List.cons_append, AV.underL, underL_app, Bool.and_assoc]
theorem readA_rel {raw : Bool} {hG h : Hp} : ∀ (ps : List Pa) (args : List AV) (ls : List (Nat × IntKind × List Int)) (its : List Itm), readA hG h ps args = some (ls, its) →
  ls.map (·.2) = lists ps its ∧ (∀ x ∈ ls, hG.size ≤ x.1 ∧ ∃ w, h.get x.1 = some ⟨w, .rows x.2.1 x.2.2⟩) ∧
  ∀ (σ ρ : Sg) (j : Nat) (L : List Value), Sub (σ.low hG.size) ρ → (∀ i x, ls[i]? = some x → x.2.2 ≠ [] → ρ (j + i) = σ x.1) → okIts its → AV.underL hG.size (inits ps its) = true → VRels σ args L → VRels ρ (mkA raw j ps its) L
 | [], [], ls, its, e => by
  cases e
  exact ⟨rfl, by simp, fun σ ρ j L _ _ _ _ h => h⟩
 | .n sh :: ps, v :: vs, ls, its, e => by
  simp only [readA] at e
  split at e
  ·cases e
  ·rename_i s xs h1
   split at e
   ·cases e
   ·rename_i ls' its' h2
    cases e
    obtain ⟨a1, a2, a3⟩ := readA_rel ps vs _ _ h2
    refine ⟨a1, a2, fun σ ρ j L hs hj hok hu hL => ?_⟩
    obtain ⟨V, L', rfl, q1, q2⟩ := hL
    simp only [inits, AV.underL, Bool.and_eq_true] at hu
    have := (Sh.read_mk sh v s xs [] h1).2 σ V q1
    rw [List.append_nil] at this
    exact ⟨V, L', rfl, VRel.mono hs _ _ (VRel.low _ _ this hu.1), a3 σ ρ j L' hs hj hok hu.2 q2⟩
 | .s shs ik :: ps, v :: vs, ls, its, e => by
  simp only [readA] at e
  split at e
  ·rename_i cells
   split at e
   ·rename_i init id n hsp
    split at e
    ·rename_i w ik' ys hid
     split at e
     ·rename_i hb
      simp only [Bool.and_eq_true, decide_eq_true_eq] at hb
      obtain ⟨rfl, hb⟩ := hb
      have hge := Nat.le_of_ble_eq_true hb
      split at e
      ·cases e
      ·rename_i s xs h1
       split at e
       ·cases e
       ·rename_i ls' its' h2
        cases e
        obtain ⟨a1, a2, a3⟩ := readA_rel ps vs _ _ h2
        refine ⟨by simp [lists, a1], fun x hx => ?_, fun σ ρ j L hs hj hok hu hL => ?_⟩
        ·rcases List.mem_cons.1 hx with rfl | hx
         ·exact ⟨hge, w, hid⟩
         ·exact a2 x hx
        ·obtain ⟨V, L', rfl, q1, q2⟩ := hL
         simp only [inits, underL_app, Bool.and_eq_true] at hu
         obtain ⟨K, rfl, hK⟩ := q1
         rw [splitL_eq hsp] at hK
         obtain ⟨I, Z, hIZ, k1, k2⟩ := rels_split hK
         obtain ⟨zv, zl, rfl, k3, k4⟩ := k2
         obtain rfl : zl = [] := k4
         have k5 := (Sh.readL_mk shs init s xs [] h1).2 σ I k1
         rw [List.append_nil] at k5
         have k6 := VRels.mono hs _ _ (VRels.low _ _ k5 hu.1)
         obtain ⟨p, len, c, rfl, hl, hp⟩ := k3
         refine ⟨_, L', rfl, ⟨K, rfl, ?_⟩, a3 σ ρ (j + 1) L' hs (fun i x hx hne => ?_) hok.2 hu.2 q2⟩
         ·rw [hIZ]
          refine VRels.append k6 ⟨_, [], rfl, ?_, rfl⟩
          have hp' : len = 0 ∨ ∃ B N, ρ j = some (B, N) ∧ p = some ⟨B, N, none⟩ := by
           rcases hp with hp | ⟨B, N, e1, e2⟩
           ·exact .inl hp
           ·by_cases h0 : n = 0
            ·left; omega
            ·have hne : ys ≠ [] := fun hh => h0 (hok.1 hh)
             have := hj 0 (id, ik, ys) rfl hne
             rw [Nat.add_zero] at this
             exact .inr ⟨B, N, by rw [this]; exact e1, e2⟩
          cases raw with
          | true => exact ⟨p, len, c, rfl, hl, hp'⟩
          | false => exact ⟨p, len, c, rfl, hl, by omega, hp'.imp (fun h0 => by omega) _root_.id⟩
         ·have := hj (i + 1) x (by simpa using hx) hne
          rw [← this]
          congr 1
          omega
     ·cases e
    ·cases e
   ·cases e
  ·cases e
 | [], _ :: _, _, _, e => by simp [readA] at e
 | .n _ :: _, [], _, _, e => by simp [readA] at e
 | .s _ _ :: _, [], _, _, e => by simp [readA] at e
def lSpec (hG : Hp) (ps : List Pa) (V : Nat → List Itm → Option (Prop × AV × List ABody)) : NSpec := fun args h =>
 match readA hG h ps args with
 | none => none
 | some (_, its) => match V h.size its with
  | none => none
  | some (p, v, bs) => some (.p p, v, bs)
theorem lsp_ok (raw : Bool) {P : Program} {glob : Nat → Option Nat} {hG : Hp} (ok : hG.ok) (pl : blksPlain hG.size hG.blks = true) (hgl : ∀ g i, glob g = some i → i < hG.size) {f : FuncId} {ps : List Pa} {V : Nat → List Itm → Option (Prop × AV × List ABody)}
  (h : ∀ sz its p v bs, V sz its = some (p, v, bs) → p → okIts its ∧ AV.underL hG.size (inits ps its) = true ∧ ∃ (C : Ctx) (n : Nat) (as : List AV) (nd0 : Nd) (v0 : AV) (k : Hp), CtxOk C ∧ C.P = P ∧ C.glob = glob ∧ tellL (mkA raw hG.size ps its) as ∧
   (run C n).call f as (viewsH raw hG (lists ps its)) = some ⟨nd0, [⟨.tt, v0, k⟩]⟩ ∧ v0.isPanic = false ∧ nd0.val ∧ allOld hG.clock (dropN (k.size - (viewsH raw hG (lists ps its)).size) k.blks) = true ∧ Tells (viewsH raw hG (lists ps its)).size k v0 sz v bs)
  (fn : ∃ fn : Func, P.funcs[f]? = some fn ∧ fn.body.isSome = true) : NOk P glob hG f (lSpec hG ps V) := by
 refine ⟨fun args nd v bs h' e same => ?_, fn⟩
 unfold lSpec at e
 split at e
 ·cases e
 ·rename_i ls its hr
  split at e
  ·cases e
  ·rename_i p v' bs' hV
   cases e
   obtain ⟨a1, a2, a3⟩ := readA_rel ps args ls its hr
   refine ref_call fun σ A W g r hA hn => ?_
   obtain ⟨b1, b2, C, n, as, nd0, v0, k, co, rfl, rfl, ht, hrun, hp, hn0, hold, tl⟩ := h _ _ _ _ _ hV hn
   have gs := globsSame_get same
   obtain ⟨ρ, r0, sub, hj⟩ := views_rel (raw := raw) (σ := σ) ls (σ.low hG.size) hG (glob_rel ok pl same r) (fun x hx => by
    obtain ⟨hge, w, hid⟩ := a2 x hx
    by_cases hne : x.2.2 = []
    ·exact .inl hne
    ·right
     have hd : (ABody.rows x.2.1 x.2.2).isDead = false := by
      cases hxs : x.2.2 with
      | nil => exact absurd hxs hne
      | cons y ys => rfl
     obtain ⟨B, N, o, h1, h2, h3⟩ := r.blk x.1 _ hid hd
     refine ⟨B, N, o, h1, h2, fun τ => h3, fun i b M hg hdb e1 => ?_⟩
     have hi := Hp.get_lt hg
     obtain ⟨b', c', hb', hc', hbc⟩ := gs i hi
     rw [hg] at hc'; cases hc'
     rcases r.inj i x.1 b' _ B M N hb' hid (by rw [hbc]; exact hdb) hd (Sg.low_sub σ _ _ _ e1) h1 with h8 | ⟨h8, _⟩
     ·omega
     ·rw [hbc] at h8; exact h8)
   rw [a1] at r0
   refine ⟨C, n, _, as, ρ, nd0, v0, k, co, rfl, rfl, r0, fun gl i hgi => ?_, tellL_rel _ _ _ ht (a3 σ ρ hG.size A.toList sub hj b1 b2 hA), hrun, hp, hn0, by rw [viewsH_clock]; exact hold, tl⟩
   obtain ⟨N, hN⟩ := g gl i hgi
   exact ⟨N, sub _ _ (by simp [Sg.low, hgl gl i hgi, hN])⟩
def outL (lo c size : Nat) (ik : IntKind) : Option CR → Option (Nd × List AV × Nat × List Int)
 | some ⟨nd, [⟨.tt, .agg cells, k⟩]⟩ => match splitL cells with
  | some (init, x) => match cellsOfV k (size + 1) x with
   | some (n, cs) => match intsOf ik cs with
    | some xs => match newId lo x && allOld c (dropN (k.size - lo) k.blks) with
     | true => some (nd, init, n, xs)
     | false => none
    | none => none
   | none => none
  | none => none
 | _ => none
mutual
def AV.num : AV → Bool
 | .int _ _ _ => true
 | .bool _ _ => true
 | .str _ _ => true
 | .agg l => AV.numL l
 | .tuple l => AV.numL l
 | _ => false
def AV.numL : List AV → Bool
 | [] => true
 | a :: l => a.num && AV.numL l
end
mutual
theorem num_rel {σ τ : Sg} : ∀ (a : AV) (V : Value), a.num = true → VRel σ a V → VRel τ a V
 | .int _ _ _, _, _, h => h
 | .bool _ _, _, _, h => h
 | .str _ _, _, _, h => h
 | .agg l, _, hn, ⟨K, e, h⟩ => ⟨K, e, numL_rel l _ hn h⟩
 | .tuple l, _, hn, ⟨K, e, h⟩ => ⟨K, e, numL_rel l _ hn h⟩
theorem numL_rel {σ τ : Sg} : ∀ (l : List AV) (L : List Value), AV.numL l = true → VRels σ l L → VRels τ l L
 | [], _, _, h => h
 | a :: l, L, hn, h => by
  simp only [AV.numL, Bool.and_eq_true] at hn
  obtain ⟨v, vs, e, h1, h2⟩ := h
  exact ⟨v, vs, e, num_rel a v hn.1 h1, numL_rel l vs hn.2 h2⟩
end
theorem outL_tells {lo c size : Nat} {ik : IntKind} {q : Option CR} {nd : Nd} {init : List AV} {n : Nat} {xs : List Int} (e : outL lo c size ik q = some (nd, init, n, xs)) (hn : AV.numL init = true) :
  ∃ v0 k, q = some ⟨nd, [⟨.tt, v0, k⟩]⟩ ∧ v0.isPanic = false ∧ allOld c (dropN (k.size - lo) k.blks) = true ∧
   ∀ (sz : Nat) (init' : List AV) (m : Int) (ys : List Int), tellL init init' → m = n → ys = xs → Tells lo k v0 sz (.agg (init' ++ [.lslice sz m])) [.rows ik ys] := by
 unfold outL at e
 split at e
 ·rename_i nd' cells k
  split at e
  ·rename_i ini x hs
   split at e
   ·rename_i n' cs hc
    split at e
    ·rename_i xs' hi
     split at e
     ·rename_i hb
      simp only [Bool.and_eq_true] at hb
      cases e
      refine ⟨_, k, rfl, rfl, hb.2, fun sz init' m ys ht hm hy => ?_⟩
      subst hy
      refine tells_rows hc hi hb.1 hm fun τ V hV => ?_
      obtain ⟨K, rfl, hK⟩ := hV
      rw [splitL_eq hs] at hK
      obtain ⟨I, Z, hIZ, k1, k2⟩ := rels_split hK
      obtain ⟨zv, zl, rfl, k3, k4⟩ := k2
      obtain rfl : zl = [] := k4
      refine ⟨zv, k3, fun υ hυ => ⟨K, rfl, ?_⟩⟩
      rw [hIZ]
      exact VRels.append (tellL_rel _ _ _ ht (numL_rel _ _ hn k1)) ⟨_, [], rfl, hυ, rfl⟩
     ·cases e
    ·cases e
   ·cases e
  ·cases e
 ·cases e
theorem oneG_tells {lo c : Nat} {q : Option CR} {nd : Nd} {v0 : AV} (e : oneG lo c q = some (nd, v0)) (hn : v0.num = true) :
  ∃ k, q = some ⟨nd, [⟨.tt, v0, k⟩]⟩ ∧ v0.isPanic = false ∧ allOld c (dropN (k.size - lo) k.blks) = true ∧ ∀ (sz : Nat) (v : AV), tell v0 v → Tells lo k v0 sz v [] := by
 obtain ⟨k, h1, h2, h3⟩ := oneG_some e
 exact ⟨k, h1, h3, h2, fun sz v ht => tells_num fun τ σ V hV => tell_rel _ _ _ ht (num_rel _ _ hn hV)⟩
end
end Go.Eng
namespace Go.Eng
open Go
noncomputable section
theorem swap_top {τ : Sg} {h : Hp} {W : World} {b b' : ABody} (r : HRel τ (h.push0 b) W) (hd : b.isDead = false) (hv : b'.isView = true) (hv' : b.isView = true) (hb : ∀ N o, BRel τ N b o → BRel τ N b' o) : HRel τ (h.push0 b') W := by
 refine ⟨r.ok, fun i c hg hdc => ?_, r.dom, fun i j c d B N M hg hg' hdc hdd e1 e2 => ?_⟩
 ·rw [Hp.get_push0] at hg
  split at hg
  ·rename_i hi; cases hg; subst hi
   obtain ⟨B, N, o, h1, h2, h3⟩ := r.blk h.size ⟨0, b⟩ (by rw [Hp.get_push0, if_pos rfl]) hd
   exact ⟨B, N, o, h1, h2, hb N o h3⟩
  ·rename_i hi
   exact r.blk i c (by rw [Hp.get_push0, if_neg hi]; exact hg) hdc
 ·rw [Hp.get_push0] at hg hg'
  by_cases hi : i = h.size <;> by_cases hj : j = h.size
  ·exact .inl (hi.trans hj.symm)
  ·rw [if_pos hi] at hg; cases hg
   rw [if_neg hj] at hg'
   rcases r.inj i j ⟨0, b⟩ d B N M (by rw [Hp.get_push0, if_pos hi]) (by rw [Hp.get_push0, if_neg hj]; exact hg') hd hdd e1 e2 with h8 | ⟨_, h8⟩
   ·exact .inl h8
   ·exact .inr ⟨hv, h8⟩
  ·rw [if_neg hi] at hg
   rw [if_pos hj] at hg'; cases hg'
   rcases r.inj i j c ⟨0, b⟩ B N M (by rw [Hp.get_push0, if_neg hi]; exact hg) (by rw [Hp.get_push0, if_pos hj]) hdc hd e1 e2 with h8 | ⟨h8, _⟩
   ·exact .inl h8
   ·exact .inr ⟨h8, hv⟩
  ·rw [if_neg hi] at hg
   rw [if_neg hj] at hg'
   exact r.inj i j c d B N M (by rw [Hp.get_push0, if_neg hi]; exact hg) (by rw [Hp.get_push0, if_neg hj]; exact hg') hdc hdd e1 e2
theorem ints_map (ik : IntKind) : ∀ xs : List Int, intsOf ik (xs.map fun n => .int true ik n) = some xs
 | [] => rfl
 | x :: l => by simp only [List.map_cons, intsOf, decide_true, ints_map ik l]
theorem view_rows {τ : Sg} {N : Nat} {ik : IntKind} {xs : List Int} {o : Obj} (h : BRel τ N (.view (xs.map fun n => .int true ik n)) o) : BRel τ N (.rows ik xs) o := by
 obtain ⟨K, e, fr, rfl, h1⟩ := h
 refine ⟨K, e, fr, rfl, ?_⟩
 have := ints_rel h1 (ints_map ik xs)
 rwa [List.length_map] at this
end
end Go.Eng
namespace Go.Eng
open Go
theorem agg_of_cells {v : Value} (h : 1 < v.cells.toList.length) : v = .agg v.cells.toList.toArray := by
 cases v <;> simp_all [Value.cells]
theorem draft_films {H : Type} {enc : TypeId × Value → H} {P : Program} {W : World} {base : Nat} {spare : Nat → Bool} {held : Bool} {t e i : Nat} {fs : Array Field} {f : Field} (ht : P.underlying t = some (.struct fs)) (hf : fs[i]? = some f) (hs : P.underlying f.type = some (.slice e)) (he : P.underlying e = some (.int .u8)) (off : f.offset + 1 = P.cellsOf t) (many : 0 < f.offset) (ce : P.cellsOf e = 1) (cf : P.cellsOf f.type = 1)
  {ts : List TypeId} {v : Value} {vs : List Value} {ds : List (DataW H)} {p : List MemPlace} (hA : DataW.TrodAll enc P W base spare held (t :: ts) (v :: vs) ds p) : ∃ cs last, v = .agg (cs ++ [last]).toArray ∧ ∃ n zs, Bytes W last n zs := by
 cases ds with
 | nil => simp [DataW.TrodAll] at hA
 | cons d ds =>
  obtain ⟨_, _, ⟨fuel, h⟩, _, _⟩ := hA
  obtain ⟨xs, n, _, _, hl, hxl, hff⟩ := DataW.trod_struct ht h
  have h1 := hff i f hf
  have hi : i < fs.size := (Array.getElem?_eq_some_iff.1 hf).1
  rw [List.getElem?_eq_getElem (by omega), cf] at h1
  have hlen : ((v.cells.toList.drop f.offset).take 1).length = 1 := by simp only [List.length_take, List.length_drop]; omega
  obtain ⟨last, hlast⟩ : ∃ last, (v.cells.toList.drop f.offset).take 1 = [last] := by
   match hq : (v.cells.toList.drop f.offset).take 1, hlen with
   | [a], _ => exact ⟨a, rfl⟩
  rw [hlast] at h1
  refine ⟨v.cells.toList.take f.offset, last, ?_, bytes_of hs he ce h1⟩
  have h2 : v.cells.toList.take f.offset ++ [last] = v.cells.toList := by
   rw [← hlast, List.take_of_length_le (l := v.cells.toList.drop f.offset) (by simp only [List.length_drop]; omega), List.take_append_drop]
  rw [h2]
  exact agg_of_cells (by omega)
end Go.Eng
namespace Go.Eng
open Go
noncomputable section
theorem add_viewA {σ : Sg} {h : Hp} {W : World} (r : HRel σ h W) {k : IntKind} {B N : Nat} {fs : List Int} (hne : fs ≠ []) (hc : ∀ i, i < fs.length → W.cell? ⟨B, N + i, none⟩ = some (.int k (fs.getD i 0)))
  (apart : ∀ i b M, h.get i = some b → b.body.isDead = false → σ i = some (B, M) → b.body.isView = true) :
  HRel (σ.add h.size (B, N)) (h.push0 (.view (fs.map fun n => .int true k n))) W := by
 have hpos : 0 < fs.length := List.length_pos_iff.2 hne
 have row : ∃ K e fr, W.heap[B]? = some (.cells K e fr) ∧ ∀ i, i < fs.length → K[N + i]? = some (.int k (fs.getD i 0)) := by
  have h0 := hc 0 hpos
  unfold World.cell? at h0
  split at h0
  ·rename_i K e fr hh
   refine ⟨K, e, fr, hh, fun i hi => ?_⟩
   have := hc i hi
   unfold World.cell? at this
   rw [hh] at this
   simpa using this
  ·cases h0
 obtain ⟨K, e, fr, hB, hK⟩ := row
 have hs := Sub.add (x := (B, N)) r.fresh
 have main : BRel (σ.add h.size (B, N)) N (.view (fs.map fun n => .int true k n)) (.cells K e fr) := by
  refine ⟨K, e, fr, rfl, ?_⟩
  have : (K.toList.drop N).take (fs.map fun n => AV.int true k n).length = fs.map (Value.int k) := by
   apply List.ext_getElem?
   intro i
   rw [List.getElem?_take, List.length_map]
   by_cases hi : i < fs.length
   ·rw [if_pos hi, List.getElem?_drop, Array.getElem?_toList, hK i hi]
    simp [List.getD_eq_getElem?_getD, hi]
   ·rw [if_neg hi, List.getElem?_eq_none (by simpa using hi)]
  rw [this]
  have rels : ∀ l : List Int, VRels (σ.add h.size (B, N)) (l.map fun n => .int true k n) (l.map (Value.int k)) := by
   intro l
   induction l with
   | nil => exact rfl
   | cons a l ih => exact ⟨_, _, rfl, rfl, ih⟩
  exact rels fs
 refine ⟨by have := r.ok; simp only [Hp.ok, Hp.push0, List.length_cons] at this ⊢; omega, fun i b hg hd => ?_, fun i B' M hσ => ?_, fun i j b c B' M M' hg hg' hd hd' e1 e2 => ?_⟩
 ·rw [Hp.get_push0] at hg
  split at hg
  ·rename_i hi; subst hi; cases hg
   exact ⟨B, N, _, add_here, hB, main⟩
  ·obtain ⟨B', M, o, h1, h2, h3⟩ := r.blk i b hg hd
   exact ⟨B', M, o, hs _ _ h1, h2, h3.mono hs⟩
 ·unfold Sg.add at hσ
  split at hσ
  ·rename_i hi; subst hi; cases hσ
   exact ⟨Nat.lt_succ_self _, (Array.getElem?_eq_some_iff.1 hB).1⟩
  ·have := r.dom i B' M hσ
   exact ⟨Nat.lt_succ_of_lt this.1, this.2⟩
 ·rw [Hp.get_push0] at hg hg'
  unfold Sg.add at e1 e2
  by_cases hi : i = h.size <;> by_cases hj : j = h.size
  ·exact .inl (hi.trans hj.symm)
  ·right
   rw [if_pos hi] at e1 hg
   rw [if_neg hj] at e2 hg'
   cases e1; cases hg
   exact ⟨rfl, apart j c M' hg' hd' e2⟩
  ·right
   rw [if_neg hi] at e1 hg
   rw [if_pos hj] at e2 hg'
   cases e2; cases hg'
   exact ⟨apart i b M hg hd e1, rfl⟩
  ·rw [if_neg hi] at e1 hg
   rw [if_neg hj] at e2 hg'
   exact r.inj i j b c B' M M' hg hg' hd hd' e1 e2
def noM (k : IntKind) (m : Nat) : ABody → Bool
 | .cells l => Nat.blt l.length m || noK k (.cells l)
 | .rows _ _ => true
 | b => noK k b
theorem apart_of {σ : Sg} {h : Hp} {W : World} (r : HRel σ h W) {k : IntKind} {m : Nat} (hb : (h.blks.all fun b => noM k m b.body) = true) {B N : Nat} {fs : List Int} (hm : 0 < m) (hf : m ≤ fs.length) (hc : ∀ i, i < fs.length → W.cell? ⟨B, N + i, none⟩ = some (.int k (fs.getD i 0))) :
  ∀ i b M, h.get i = some b → b.body.isDead = false → σ i = some (B, M) → b.body.isView = true := by
 have hpos : 0 < fs.length := by omega
 have row : ∃ K e fr, W.heap[B]? = some (.cells K e fr) ∧ ∀ i, i < fs.length → K[N + i]? = some (.int k (fs.getD i 0)) := by
  have h0 := hc 0 hpos
  unfold World.cell? at h0
  split at h0
  ·rename_i K e fr hh
   refine ⟨K, e, fr, hh, fun i hi => ?_⟩
   have := hc i hi
   unfold World.cell? at this
   rw [hh] at this
   simpa using this
  ·cases h0
 obtain ⟨K, e, fr, hB, hK⟩ := row
 intro i b M hg hd hσ
 obtain ⟨B', M', o, h1, h2, h3⟩ := r.blk i b hg hd
 rw [hσ] at h1; cases h1
 rw [hB] at h2; cases h2
 have hbb := List.all_eq_true.1 hb b (by
  have hlt := Hp.get_lt hg
  rw [Hp.get_eq, if_pos hlt] at hg
  exact List.mem_of_getElem? hg)
 cases hbody : b.body with
 | cells l =>
  rw [hbody] at h3 hbb
  obtain ⟨K', e', h4, h5, h6⟩ := h3
  cases h4
  have hlen : l.length = K.size := by have := VRels.length h5; simpa using this.symm
  simp only [noM, Bool.or_eq_true] at hbb
  rcases hbb with hbb | hbb
  ·exfalso
   have hlt : l.length < m := Nat.le_of_ble_eq_true hbb
   have h0 := hK (m - 1) (by omega)
   have hN : N + (m - 1) < K.size := (Array.getElem?_eq_some_iff.1 h0).1
   omega
  ·have h0 := hK 0 hpos
   have hN : N + 0 < K.size := (Array.getElem?_eq_some_iff.1 h0).1
   obtain ⟨a, ha⟩ : ∃ a, l[N + 0]? = some a := ⟨_, List.getElem?_eq_getElem (by omega)⟩
   obtain ⟨v, hv, hav⟩ := VRels.nth h5 (by rw [nth_eq]; exact ha)
   rw [Array.getElem?_toList, h0] at hv
   cases hv
   have := List.all_eq_true.1 hbb a (List.mem_of_getElem? ha)
   split at this
   ·rename_i s' k' n'
    have h8 : Value.int k (fs.getD 0 0) = Value.int k' n' := hav
    cases h8
    simp at this
   ·obtain ⟨_, _, _, h8⟩ := hav; cases h8
   ·cases this
 | view l => rfl
 | rows ik xs => rfl
 | map es =>
  rw [hbody] at h3
  obtain ⟨_, _, _, h4, _⟩ := h3
  cases h4
 | _ => rw [hbody] at hbb; cases hbb
structure Lst (W : World) (ik : IntKind) (m : Nat) (v : Value) (n : Int) (zs : List Int) : Prop where
 val : ∃ p len c, v = .slice p len c ∧ len ≤ c ∧ n = len ∧ zs.length = m * len ∧ (zs ≠ [] → ∃ B N, p = some ⟨B, N, none⟩ ∧ ∀ i, i < zs.length → W.cell? ⟨B, N + i, none⟩ = some (.int ik (zs.getD i 0)))
theorem Bytes.lst {W : World} {v : Value} {n : Int} {zs : List Int} (b : Bytes W v n zs) : Lst W .u8 1 v n zs := by
 obtain ⟨⟨p, c, rfl, hc, hp⟩, hn, _⟩ := b
 exact ⟨p, zs.length, c, rfl, hc, hn, by omega, hp⟩
theorem lst_rel {σ : Sg} {h : Hp} {W : World} (r : HRel σ h W) {ik : IntKind} {m : Nat} (hm : 0 < m) (hb : (h.blks.all fun b => noM ik m b.body) = true) {v : Value} {n : Int} {zs : List Int} (b : Lst W ik m v n zs) :
  ∃ τ, Sub σ τ ∧ HRel τ (h.push0 (.rows ik zs)) W ∧ VRel τ (.lslice h.size n) v := by
 obtain ⟨p, len, c, rfl, hcap, hn, hl, hp⟩ := b
 cases zs with
 | nil =>
  have h0 : len = 0 := by
   rcases Nat.eq_zero_or_pos len with h | h
   ·exact h
   ·have := Nat.mul_pos hm h
    simp only [List.length_nil] at hl
    omega
  subst h0
  exact ⟨σ, Sub.refl _, view_dead r rfl, p, 0, c, rfl, ⟨hn.symm, hcap⟩, .inl rfl⟩
 | cons f fs =>
  obtain ⟨B, N, rfl, hc⟩ := hp (by simp)
  have h1 : 0 < len := by
   rcases Nat.eq_zero_or_pos len with h | h
   ·rw [h, Nat.mul_zero] at hl; cases hl
   ·exact h
  have hf : m ≤ (f :: fs).length := by rw [hl]; exact Nat.le_mul_of_pos_right m h1
  exact ⟨_, Sub.add r.fresh, swap_top (add_viewA r (B := B) (N := N) (k := ik) (fs := f :: fs) (by simp) hc (apart_of r hb hm hf hc)) rfl rfl rfl (fun N o h => view_rows h), some ⟨B, N, none⟩, len, c, rfl, ⟨hn.symm, hcap⟩, .inr ⟨B, N, add_here, rfl⟩⟩
theorem law_struct {P : Program} {W : World} {base : Nat} {σ : Sg} {t : TypeId} {sh : List Sh} (h2 : shapeT P t = some (.a (sh ++ [.c (.any true)]))) {v : Value} (hok : Value.okWide P W .any base t v) {cs : List Value} {last : Value} (hv : v = .agg (cs ++ [last]).toArray) :
  ∃ xs, xs.map Nu.isN = Sh.kindsL sh ∧ inRange (Sh.leavesL sh) xs ∧ ∀ (τ : Sg) (i : Nat) (n : Int), Sub σ τ → VRel τ (.lslice i n) last → VRel τ (.agg ((Sh.mkL sh xs).1 ++ [.lslice i n])) v := by
 obtain ⟨xs, a1, a2, a3⟩ := law_one (σ := σ) h2 hok
 obtain ⟨_, a4⟩ := a3 []
 rw [List.append_nil] at a4
 have kl : ∀ l m : List Sh, Sh.kindsL (l ++ m) = Sh.kindsL l ++ Sh.kindsL m := by
  intro l m
  induction l with
  | nil => rfl
  | cons a l ih => simp [Sh.kindsL, ih]
 have ll : ∀ l m : List Sh, Sh.leavesL (l ++ m) = Sh.leavesL l ++ Sh.leavesL m := by
  intro l m
  induction l with
  | nil => rfl
  | cons a l ih => simp [Sh.leavesL, ih]
 have a1' : xs.map Nu.isN = Sh.kindsL sh := by
  have : xs.map Nu.isN = Sh.kindsL (sh ++ [.c (.any true)]) := a1
  rw [kl] at this; simpa [Sh.kindsL, Sh.kinds] using this
 have drop_any : ∀ (l : List Sh) (zs : List Nu), inRange (l ++ [.c (.any true)]) zs → inRange l zs := by
  intro l
  induction l with
  | nil => intro zs h; cases zs with
   | nil => trivial
   | cons z zs => simp [inRange] at h
  | cons a l ih => intro zs h; cases a with
   | i k => cases zs with
    | nil => simp [inRange] at h
    | cons z zs => cases z with
     | n x => exact ⟨h.1, ih zs h.2⟩
     | t b => simp [inRange] at h
     | s b => simp [inRange] at h
   | b => cases zs with
    | nil => simp [inRange] at h
    | cons z zs => cases z with
     | n x => simp [inRange] at h
     | t b => exact ih zs h
     | s b => simp [inRange] at h
   | str => cases zs with
    | nil => simp [inRange] at h
    | cons z zs => cases z with
     | n x => simp [inRange] at h
     | t b => simp [inRange] at h
     | s b => exact ih zs h
   | one => cases zs <;> simp [inRange] at h
   | c w =>
    have h' : inRange (l ++ [.c (.any true)]) zs := by cases zs <;> simpa [inRange] using h
    have := ih zs h'
    cases zs <;> simpa [inRange] using this
   | a m => cases zs <;> simp [inRange] at h
 have a2' : inRange (Sh.leavesL sh) xs := by
  have : inRange (Sh.leavesL (sh ++ [.c (.any true)])) xs := a2
  rw [ll] at this
  exact drop_any _ _ this
 have mk_app : ∀ (l : List Sh) (xs : List Nu), (Sh.mkL (l ++ [.c (.any true)]) xs).1 = (Sh.mkL l xs).1 ++ [.any true] := by
  intro l
  induction l with
  | nil => intro xs; rfl
  | cons a l ih => intro xs; simp only [List.cons_append, Sh.mkL, ih]
 refine ⟨xs, a1', a2', fun τ i n sub hfv => ?_⟩
 subst hv
 obtain ⟨K, hK, h5⟩ := a4
 have h6 := VRels.mono sub _ _ h5
 rw [mk_app] at h6
 cases hK
 refine ⟨_, rfl, ?_⟩
 rw [List.toList_toArray] at h6 ⊢
 exact rels_last h6 hfv
theorem law_walkL2 {P : Program} {glob : Nat → Option Nat} {hG : Hp} {ik : IntKind} {m : Nat} (hm : 0 < m) (hb : (hG.blks.all fun b => noM ik m b.body) = true) (hb8 : (hG.blks.all fun b => noM .u8 1 b.body) = true) (old : allOld hG.clock hG.blks = true) (h1 : 0 < hG.clock) {f : FuncId} {t u : TypeId} {ts : List TypeId} {sh su : List Sh} {shs : List Sh} (hs : shapesT P (t :: u :: ts) = some (.a (sh ++ [.c (.any true)]) :: .a (su ++ [.c (.any true)]) :: shs))
  (hT : ∀ ws xs ys, ws.map Nu.isN = Sh.kindsL sh → inRange (Sh.leavesL sh) ws → xs.map Nu.isN = Sh.kindsL su → inRange (Sh.leavesL su) xs → ys.map Nu.isN = Sh.kindsL shs → inRange (Sh.leavesL shs) ys → ∀ (k : Int) (qs : List Int) (n : Int) (zs : List Int), 0 ≤ k → qs.length = m * k.toNat → n = zs.length → (∀ z ∈ zs, 0 ≤ z ∧ z ≤ 255) →
   LawTrueH P glob ((hG.push0 (.rows ik qs)).push0 (.rows .u8 zs)) f (.agg ((Sh.mkL sh ws).1 ++ [.lslice hG.size k]) :: .agg ((Sh.mkL su xs).1 ++ [.lslice (hG.size + 1) n]) :: (Sh.mkL shs ys).1))
  {W : World} {base : Nat} {σ : Sg} {A : Array Value} (g : ∀ gl i, glob gl = some i → ∃ N, σ i = some (gl, N)) (r : HRel σ hG W) {v w : Value} {vs : List Value} (hA : A.toList = v :: w :: vs) (hl : vs.length = ts.length)
  {cs : List Value} {last : Value} (hv : v = .agg (cs ++ [last]).toArray) (hlast : ∃ k qs, Lst W ik m last k qs) {cs' : List Value} {last' : Value} (hw : w = .agg (cs' ++ [last']).toArray) (hlast' : ∃ n zs, Bytes W last' n zs)
  (hok : ∀ (j : Nat) t' v, (t :: u :: ts)[j]? = some t' → A.toList[j]? = some v → Value.okWide P W .any base t' v) :
  Calls P f A W fun e w' => e = .returned (.bool true) ∧ RowKit.Grown W w' ∧ ∀ B, B < W.heap.size → w'.heap[B]? = W.heap[B]? := by
 obtain ⟨k, qs, bq⟩ := hlast
 obtain ⟨n, zs, bz⟩ := hlast'
 simp only [shapesT] at hs
 split at hs
 ·cases hs
 ·rename_i s h2
  split at hs
  ·cases hs
  ·rename_i l h3
   cases hs
   split at h3
   ·cases h3
   ·rename_i s' h4
    split at h3
    ·cases h3
    ·rename_i l' h5
     cases h3
     obtain ⟨ys, b1, b2, b3⟩ := law_args (P := P) (W := W) (base := base) (σ := σ) (ts := ts) (vs := vs) h5 hl fun j t' v' k1 k2 => hok (j + 2) t' v' (by simpa using k1) (by rw [hA]; simpa using k2)
     obtain ⟨_, b4⟩ := b3 []
     rw [List.append_nil] at b4
     obtain ⟨ws, a1, a2, a3⟩ := law_struct (σ := σ) h2 (hok 0 t v rfl (by rw [hA]; rfl)) hv
     obtain ⟨xs, c1, c2, c3⟩ := law_struct (σ := σ) h4 (hok 1 u w rfl (by rw [hA]; rfl)) hw
     obtain ⟨τ, sub, hr, hfv⟩ := lst_rel r hm hb bq
     have hb8' : ((hG.push0 (.rows ik qs)).blks.all fun b => noM .u8 1 b.body) = true := by
      show (noM .u8 1 (.rows ik qs) && hG.blks.all fun b => noM .u8 1 b.body) = true
      rw [hb8]; rfl
     obtain ⟨υ, sub', hr', hfv'⟩ := lst_rel hr (by decide) hb8' bz.lst
     have hk : 0 ≤ k ∧ qs.length = m * k.toNat := by
      obtain ⟨p, len, c, _, _, rfl, h8, _⟩ := bq
      exact ⟨by omega, by rw [h8, Int.toNat_natCast]⟩
     obtain ⟨C, fuel, nd, s, p, co, rfl, rfl, e1, e2, e3⟩ := hT ws xs ys a1 a2 c1 c2 b1 b2 k qs n zs hk.1 hk.2 bz.len bz.rng
     have subs : Sub σ υ := fun i x e => sub' _ _ (sub _ _ e)
     have h9 := a3 υ _ k subs (VRel.mono sub' _ _ hfv)
     have h10 := c3 υ _ n subs hfv'
     have old' : allOld ((hG.push0 (.rows ik qs)).push0 (.rows .u8 zs)).clock ((hG.push0 (.rows ik qs)).push0 (.rows .u8 zs)).blks = true := by
      show (Nat.blt 0 hG.clock && (Nat.blt 0 hG.clock && allOld hG.clock hG.blks)) = true
      have : Nat.blt 0 hG.clock = true := Nat.ble_eq_true_of_le h1
      rw [old, this]; rfl
     exact law_calls co old' e1 e2 e3 (fun gl i hi => by obtain ⟨N, hN⟩ := g gl i hi; exact ⟨N, subs _ _ hN⟩) hr' (by rw [hA]; exact ⟨v, _, rfl, h9, w, vs, rfl, h10, VRels.mono subs _ _ b4⟩)
theorem cell_plain {W : World} {a : Addr} {v : Value} (h : W.cell? a = some v) : a.spot = none := by
 obtain ⟨B, N, s⟩ := a
 unfold World.cell? at h
 split at h
 ·cases s with
  | none => rfl
  | some s => simp at h
 ·cases h
theorem films_of {H : Type} {enc : TypeId × Value → H} {P : Program} {w : World} {base : Nat} {spare : Nat → Bool} {held : Bool} {fuel t e : Nat} {v : Value} {x : DataW H × List MemPlace} {f0 f1 f2 : Field} (ht : P.underlying t = some (.slice e)) (he : P.underlying e = some (.struct #[f0, f1, f2])) (hc : P.cellsOf e = 3)
  (h0 : P.underlying f0.type = some (.int .i64)) (h1 : P.underlying f1.type = some (.int .i64)) (h2 : P.underlying f2.type = some (.int .i64)) (c0 : P.cellsOf f0.type = 1) (c1 : P.cellsOf f1.type = 1) (c2 : P.cellsOf f2.type = 1) (o0 : f0.offset = 0) (o1 : f1.offset = 1) (o2 : f2.offset = 2)
  (h : DataW.trod enc P w base spare held fuel t [v] = some x) : ∃ n zs, Lst w .i64 3 v n zs := by
 rcases DataW.trod_slice ht h with ⟨h3, _⟩ | ⟨a, len, cap, elems, rest, n, _, h3, _, _, hl, _, hlen, hel, _, _⟩
 ·cases h3
  exact ⟨0, [], none, 0, 0, rfl, Nat.le_refl _, rfl, rfl, fun h => absurd rfl h⟩
 ·cases h3
  have cell : ∀ i j, i < len → j < 3 → ∃ z, w.cell? ((a.add (i * 3)).add j) = some (.int .i64 z) := by
   intro i j hi hj
   have h4 := hel i hi
   rw [hc, List.getElem?_eq_getElem (by omega), Option.bind_eq_some_iff] at h4
   obtain ⟨cs, h5, h6⟩ := h4
   obtain ⟨_, hcl, hcs⟩ := World.cells?_some h5
   obtain ⟨xs, k, _, _, _, hxl, hf⟩ := DataW.trod_struct he h6
   have one : ∀ (q : Nat) (f : Field), #[f0, f1, f2][q]? = some f → f.offset = q → P.cellsOf f.type = 1 → P.underlying f.type = some (.int .i64) → q < 3 → ∃ z, cs[q]? = some (.int .i64 z) := by
    intro q f hq ho hcf hu h9
    have h7 := hf q f hq
    have hxs : xs.length = 3 := hxl
    rw [ho, hcf, List.getElem?_eq_getElem (by omega)] at h7
    obtain ⟨z, h8, _⟩ := DataW.trod_int hu h7
    refine ⟨z, ?_⟩
    have : (cs.drop q)[0]? = some (.int .i64 z) := by
     have : ((cs.drop q).take 1)[0]? = some (.int .i64 z) := by rw [h8]; rfl
     rwa [List.getElem?_take, if_pos (by omega)] at this
    simpa using this
   have : ∃ z, cs[j]? = some (.int .i64 z) := by
    rcases j with _ | _ | _ | j
    ·exact one 0 f0 rfl o0 c0 h0 (by omega)
    ·exact one 1 f1 rfl o1 c1 h1 (by omega)
    ·exact one 2 f2 rfl o2 c2 h2 (by omega)
    ·omega
   obtain ⟨z, hz⟩ := this
   exact ⟨z, by rw [hcs j hj]; exact hz⟩
  obtain ⟨B, N, spot⟩ := a
  have cell' : ∀ q, q < 3 * len → spot = none ∧ ∃ z, w.cell? ⟨B, N + q, none⟩ = some (.int .i64 z) := by
   intro q hq
   have hs : spot = none := by
    obtain ⟨z, hz⟩ := cell 0 0 (by omega) (by omega)
    simp only [Addr.add, Nat.zero_mul, if_true] at hz
    exact cell_plain hz
   subst hs
   refine ⟨rfl, ?_⟩
   obtain ⟨z, hz⟩ := cell (q / 3) (q % 3) (by omega) (by omega)
   refine ⟨z, ?_⟩
   have e : ((⟨B, N, none⟩ : Addr).add (q / 3 * 3)).add (q % 3) = ⟨B, N + q, none⟩ := by
    unfold Addr.add
    split
    ·split
     ·have : q = 0 := by omega
      subst this; rfl
     ·simp only [Addr.mk.injEq, true_and, and_true]; omega
    ·split
     ·simp only [Addr.mk.injEq, true_and, and_true]; omega
     ·simp only [Addr.mk.injEq, true_and, and_true]; omega
   rw [e] at hz
   exact hz
  refine ⟨len, (List.range (3 * len)).map fun q => (match w.cell? ⟨B, N + q, none⟩ with | some (.int _ z) => z | _ => 0), some ⟨B, N, spot⟩, len, cap, rfl, hl, rfl, by simp, fun hne => ?_⟩
  have hpos : 0 < 3 * len := by
   rcases Nat.eq_zero_or_pos (3 * len) with h | h
   ·rw [h] at hne; exact absurd rfl hne
   ·exact h
  obtain rfl := (cell' 0 hpos).1
  refine ⟨B, N, rfl, fun q hq => ?_⟩
  simp only [List.length_map, List.length_range] at hq
  obtain ⟨z, hz⟩ := (cell' q hq).2
  rw [hz]
  simp [List.getD_eq_getElem?_getD, hq, hz]
theorem raw_films {H : Type} {enc : TypeId × Value → H} {P : Program} {W : World} {base : Nat} {spare : Nat → Bool} {held : Bool} {t e i : Nat} {fs : Array Field} {f f0 f1 f2 : Field} (ht : P.underlying t = some (.struct fs)) (hf : fs[i]? = some f) (hs : P.underlying f.type = some (.slice e)) (he : P.underlying e = some (.struct #[f0, f1, f2])) (ce : P.cellsOf e = 3)
  (h0 : P.underlying f0.type = some (.int .i64)) (h1 : P.underlying f1.type = some (.int .i64)) (h2 : P.underlying f2.type = some (.int .i64)) (c0 : P.cellsOf f0.type = 1) (c1 : P.cellsOf f1.type = 1) (c2 : P.cellsOf f2.type = 1) (o0 : f0.offset = 0) (o1 : f1.offset = 1) (o2 : f2.offset = 2)
  (off : f.offset + 1 = P.cellsOf t) (many : 0 < f.offset) (cf : P.cellsOf f.type = 1)
  {ts : List TypeId} {v : Value} {vs : List Value} {ds : List (DataW H)} {p : List MemPlace} (hA : DataW.TrodAll enc P W base spare held (t :: ts) (v :: vs) ds p) : ∃ cs last, v = .agg (cs ++ [last]).toArray ∧ ∃ n zs, Lst W .i64 3 last n zs := by
 cases ds with
 | nil => simp [DataW.TrodAll] at hA
 | cons d ds =>
  obtain ⟨_, _, ⟨fuel, h⟩, _, _⟩ := hA
  obtain ⟨xs, n, _, _, hl, hxl, hff⟩ := DataW.trod_struct ht h
  have h3 := hff i f hf
  have hi : i < fs.size := (Array.getElem?_eq_some_iff.1 hf).1
  rw [List.getElem?_eq_getElem (by omega), cf] at h3
  have hlen : ((v.cells.toList.drop f.offset).take 1).length = 1 := by simp only [List.length_take, List.length_drop]; omega
  obtain ⟨last, hlast⟩ : ∃ last, (v.cells.toList.drop f.offset).take 1 = [last] := by
   match hq : (v.cells.toList.drop f.offset).take 1, hlen with
   | [a], _ => exact ⟨a, rfl⟩
  rw [hlast] at h3
  refine ⟨v.cells.toList.take f.offset, last, ?_, films_of hs he ce h0 h1 h2 c0 c1 c2 o0 o1 o2 h3⟩
  have h4 : v.cells.toList.take f.offset ++ [last] = v.cells.toList := by
   rw [← hlast, List.take_of_length_le (l := v.cells.toList.drop f.offset) (by simp only [List.length_drop]; omega), List.take_append_drop]
  rw [h4]
  exact agg_of_cells (by omega)
theorem trod_tail {H : Type} {enc : TypeId × Value → H} {P : Program} {W : World} {base : Nat} {spare : Nat → Bool} {held : Bool} {t : Nat} {ts : List TypeId} {v : Value} {vs : List Value} {ds : List (DataW H)} {p : List MemPlace} (hA : DataW.TrodAll enc P W base spare held (t :: ts) (v :: vs) ds p) : ∃ ds p, DataW.TrodAll enc P W base spare held ts vs ds p := by
 cases ds with
 | nil => simp [DataW.TrodAll] at hA
 | cons d ds =>
  obtain ⟨_, _, _, h, _⟩ := hA
  exact ⟨_, _, h⟩
end
end Go.Eng
namespace Go.Eng
section step
variable {u Y y1 y0 d Q : Int}
end step
end Go.Eng
namespace Go.Eng
def dS (y : Int) : Int := IntKind.u64.wrap (64 - ((Lib.bitLen y.toNat : Nat) : Int))
def dP (y : Int) : Int := 2 ^ min (dS y).toNat IntKind.u64.bits
def dY (y : Int) : Int := IntKind.u64.wrap (y * dP y)
end Go.Eng
namespace Go.Eng
theorem dOr_eq (a b : Nat) (ha : a < 18446744073709551616) (hb : b < 18446744073709551616) : IntKind.u64.wrap ((BitVec.ofInt IntKind.u64.bits (a : Int) ||| BitVec.ofInt IntKind.u64.bits (b : Int)).toNat : Int) = ((a ||| b : Nat) : Int) := bits_or_u64_nat a b ha hb
end Go.Eng
