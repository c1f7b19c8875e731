/- What is proved: SurfaceSets returns true, whatever the input (part 2 of 31). No conditions beyond those of the row. -/
import Derived.Test.YtiigkjnhmipnfaaGreatDoorPA
import Derived.Control
import Derived.Calls
import Derived.Laws.Sem
import Derived.Laws.World
import Derived.Laws.Cells
import Derived.Laws.Rows
import Derived.Laws.Entries
import Derived.Laws.Append
import Derived.Laws.CopyRow
import Derived.Laws.AppendOwn
import Derived.Laws.StructEq
import Derived.Laws.Tables
import Derived.ChangeKeysEq
set_option linter.unusedVariables false
set_option linter.unusedSimpArgs false
set_option linter.unusedSectionVars false
namespace Go.Eng
abbrev Sg := Nat → Option (Nat × Nat)
def Sub (σ τ : Sg) : Prop := ∀ i x, σ i = some x → τ i = some x
theorem Sub.refl (σ : Sg) : Sub σ σ := fun _ _ h => h
theorem Sub.trans {σ τ υ : Sg} (h : Sub σ τ) (k : Sub τ υ) : Sub σ υ := fun i x e => k i x (h i x e)
mutual
def VRel (σ : Sg) : AV → Value → Prop
 | .any false, _ => True
 | .any true, v => (∀ c, v ≠ .agg c) ∧ (∀ c, v ≠ .tuple c)
 | .bool _ b, v => v = .bool b
 | .int _ k n, v => v = .int k n
 | .str _ b, v => v = .string b
 | .nil, v => v = .pointer none
 | .ptr i o, v => ∃ b N, σ i = some (b, N) ∧ v = .pointer (some ⟨b, o, none⟩)
 | .nilslice, v => v = .slice none 0 0
 | .eslice b, v => ∃ a c, v = .slice a 0 c ∧ a.isNone = b
 | .slice i o l c, v => ∃ b N, σ i = some (b, N) ∧ v = .slice (some ⟨b, o, none⟩) l c
 | .gslice i o l e, v => ∃ b N q c, σ i = some (b, N) ∧ v = .slice (some ⟨b, q, none⟩) l c ∧ (l ≠ 0 → q = o ∧ q + c * e ≤ N) ∧ l ≤ c
 | .func f fs cs, v => ∃ F K, v = .func (.func f) F K ∧ VRels σ fs F.toList ∧ VRels σ cs K.toList
 | .yield l, v => ∃ b N, σ l = some (b, N) ∧ v = .func (.yield b) #[] #[]
 | .nilfunc, v => v = .nilFunc
 | .iface t a, v => ∃ x, v = .iface t x ∧ VRel σ a x
 | .niliface, v => v = .nilIface
 | .map i, v => ∃ b N, σ i = some (b, N) ∧ v = .map (some b)
 | .nilmap, v => v = .map none
 | .vslice i l, v => ∃ b N c, σ i = some (b, N) ∧ v = .slice (some ⟨b, N, none⟩) l c
 | .pslice i l _ n, v => ∃ p len c, v = .slice p len c ∧ (len : Int) = n ∧ l ≤ len ∧ (l = 0 ∨ ∃ b N, σ i = some (b, N) ∧ p = some ⟨b, N, none⟩)
 | .lslice i n, v => ∃ p len c, v = .slice p len c ∧ (len : Int) = n ∧ (len = 0 ∨ ∃ b N, σ i = some (b, N) ∧ p = some ⟨b, N, none⟩)
 | .panic a, v => VRel σ a v
 | .vptr i o, v => ∃ b N, σ i = some (b, N) ∧ v = .pointer (some ⟨b, N + o, none⟩)
 | .agg l, v => ∃ K, v = .agg K ∧ VRels σ l K.toList
 | .tuple l, v => ∃ K, v = .tuple K ∧ VRels σ l K.toList
def VRels (σ : Sg) : List AV → List Value → Prop
 | [], l => l = []
 | a :: as, l => ∃ v vs, l = v :: vs ∧ VRel σ a v ∧ VRels σ as vs
end
mutual
theorem VRel.mono {σ τ : Sg} (h : Sub σ τ) : ∀ (a : AV) (v : Value), VRel σ a v → VRel τ a v
 | .any false, _, _ => trivial
 | .any true, _, e => e
 | .bool _ _, _, e => e
 | .int _ _ _, _, e => e
 | .str _ _, _, e => e
 | .nil, _, e => e
 | .ptr _ _, _, ⟨b, N, e, r⟩ => ⟨b, N, h _ _ e, r⟩
 | .nilslice, _, e => e
 | .eslice _, _, e => e
 | .slice _ _ _ _, _, ⟨b, N, e, r⟩ => ⟨b, N, h _ _ e, r⟩
 | .gslice _ _ _ _, _, ⟨b, N, q, c, e, r⟩ => ⟨b, N, q, c, h _ _ e, r⟩
 | .func _ fs cs, _, ⟨F, K, e, r, s⟩ => ⟨F, K, e, VRels.mono h fs _ r, VRels.mono h cs _ s⟩
 | .yield _, _, ⟨b, N, e, r⟩ => ⟨b, N, h _ _ e, r⟩
 | .nilfunc, _, e => e
 | .iface _ a, _, ⟨x, e, r⟩ => ⟨x, e, VRel.mono h a _ r⟩
 | .niliface, _, e => e
 | .map _, _, ⟨b, N, e, r⟩ => ⟨b, N, h _ _ e, r⟩
 | .nilmap, _, e => e
 | .vslice _ _, _, ⟨b, N, c, e, r⟩ => ⟨b, N, c, h _ _ e, r⟩
 | .pslice _ _ _ _, _, ⟨p, len, c, e1, e2, e3, r⟩ => ⟨p, len, c, e1, e2, e3, r.imp id fun ⟨b, N, h1, h2⟩ => ⟨b, N, h _ _ h1, h2⟩⟩
 | .lslice _ _, _, ⟨p, len, c, e1, e2, r⟩ => ⟨p, len, c, e1, e2, r.imp id fun ⟨b, N, h1, h2⟩ => ⟨b, N, h _ _ h1, h2⟩⟩
 | .panic a, v, e => VRel.mono h a v e
 | .vptr _ _, _, ⟨b, N, e, r⟩ => ⟨b, N, h _ _ e, r⟩
 | .agg l, _, ⟨K, e, r⟩ => ⟨K, e, VRels.mono h l _ r⟩
 | .tuple l, _, ⟨K, e, r⟩ => ⟨K, e, VRels.mono h l _ r⟩
theorem VRels.mono {σ τ : Sg} (h : Sub σ τ) : ∀ (l : List AV) (L : List Value), VRels σ l L → VRels τ l L
 | [], _, e => e
 | a :: l, _, ⟨v, vs, e, r, s⟩ => ⟨v, vs, e, VRel.mono h a _ r, VRels.mono h l _ s⟩
end
theorem VRels.length {σ : Sg} : ∀ {l : List AV} {L : List Value}, VRels σ l L → L.length = l.length
 | [], _, e => by rw [show _ = [] from e]; rfl
 | a :: l, _, ⟨v, vs, e, _, s⟩ => by rw [e]; simp [VRels.length s]
theorem VRels.append {σ : Sg} : ∀ {l m : List AV} {L M : List Value}, VRels σ l L → VRels σ m M → VRels σ (l ++ m) (L ++ M)
 | [], m, _, M, e, h => by rw [show _ = [] from e]; exact h
 | a :: l, m, _, M, ⟨v, vs, e, r, s⟩, h => by rw [e]; exact ⟨v, vs ++ M, rfl, r, VRels.append s h⟩
theorem VRels.nth {σ : Sg} : ∀ {l : List AV} {L : List Value} {n : Nat} {a : AV}, VRels σ l L → nth l n = some a → ∃ v, L[n]? = some v ∧ VRel σ a v
 | [], _, n, a, _, h => by cases n <;> cases h
 | x :: l, _, 0, a, ⟨v, vs, e, r, s⟩, h => by cases h; exact ⟨v, by rw [e]; rfl, r⟩
 | x :: l, _, n + 1, a, ⟨v, vs, e, r, s⟩, h => by
  obtain ⟨u, h1, h2⟩ := VRels.nth (n := n) s h
  exact ⟨u, by rw [e]; simpa using h1, h2⟩
theorem VRels.drop {σ : Sg} : ∀ (n : Nat) {l : List AV} {L : List Value}, VRels σ l L → VRels σ (dropN n l) (L.drop n)
 | 0, l, L, h => h
 | n + 1, [], _, h => by rw [show _ = [] from h]; exact rfl
 | n + 1, a :: l, _, ⟨v, vs, e, r, s⟩ => by rw [e]; exact VRels.drop n s
theorem VRels.take {σ : Sg} : ∀ (n : Nat) {l m : List AV} {L : List Value}, VRels σ l L → takeN n l = some m → VRels σ m (L.take n) ∧ m.length = n
 | 0, l, m, L, _, h => by cases h; exact ⟨rfl, rfl⟩
 | n + 1, [], m, L, _, h => by cases h
 | n + 1, a :: l, m, _, ⟨v, vs, e, r, s⟩, h => by
  simp only [takeN] at h
  cases h1 : takeN n l with
  | none => rw [h1] at h; cases h
  | some q =>
   rw [h1] at h; cases h
   obtain ⟨h2, h3⟩ := VRels.take n s h1
   exact ⟨by rw [e]; exact ⟨v, vs.take n, rfl, r, h2⟩, by simp [h3]⟩
theorem setC_eq {α β : Type} (l : List α) (n : Nat) (v : α) (k : List α → β) : setC l n v k = k (l.set n v) := by
 induction l generalizing n k with
 | nil => rfl
 | cons a l ih => cases n with
  | zero => rfl
  | succ n => exact ih n fun l' => k (a :: l')
theorem catC_eq {α β : Type} (l m : List α) (k : List α → β) : catC l m k = k (l ++ m) := by
 induction l generalizing k with
 | nil => rfl
 | cons a l ih => simp [catC, ih]
@[simp] theorem forceNat_eq {β : Type} (n : Nat) (k : Nat → β) : forceNat n k = k n := by cases n <;> rfl
@[simp] theorem forceInt_eq {β : Type} (n : Int) (k : Int → β) : forceInt n k = k n := by cases n <;> simp [forceInt]
@[simp] theorem mkInt_rel {σ : Sg} (s : Bool) (k : IntKind) (n : Int) (v : Value) : VRel σ (mkInt s k n) v ↔ v = .int k n := by cases s <;> simp [mkInt, VRel]
@[simp] theorem mkBool_rel {σ : Sg} (s : Bool) (b : Bool) (v : Value) : VRel σ (mkBool s b) v ↔ v = .bool b := by cases s <;> cases b <;> simp [mkBool, VRel]
theorem VRels.set {σ : Sg} : ∀ {l : List AV} {L : List Value} (n : Nat) {a : AV} {v : Value}, VRels σ l L → VRel σ a v → VRels σ (l.set n a) (L.set n v)
 | [], _, _, _, _, e, _ => by rw [show _ = [] from e]; exact rfl
 | x :: l, _, 0, a, v, ⟨u, us, e, r, s⟩, h => by rw [e]; exact ⟨v, us, rfl, h, s⟩
 | x :: l, _, n + 1, a, v, ⟨u, us, e, r, s⟩, h => by rw [e]; exact ⟨u, _, rfl, r, VRels.set n s h⟩
theorem nth_eq {α : Type} : ∀ (l : List α) (n : Nat), nth l n = l[n]?
 | [], n => by cases n <;> rfl
 | a :: l, 0 => rfl
 | a :: l, n + 1 => (nth_eq l n).trans (by simp)
theorem dropN_eq {α : Type} : ∀ (n : Nat) (l : List α), dropN n l = l.drop n
 | 0, l => rfl
 | n + 1, [] => rfl
 | n + 1, a :: l => by simpa [dropN] using dropN_eq n l
theorem Hp.get_eq (h : Hp) (i : Nat) : h.get i = if i < h.size then h.blks[h.size - 1 - i]? else none := by
 unfold Hp.get
 by_cases hlt : i < h.size
 ·have : Nat.ble h.size i = false := by
   rw [Bool.eq_false_iff]; intro e; have := Nat.le_of_ble_eq_true e; omega
  rw [this]; simp [hlt, nth_eq]
 ·have : Nat.ble h.size i = true := Nat.ble_eq_true_of_le (by omega)
  rw [this]; simp [hlt]
def Hp.ok (h : Hp) : Prop := h.blks.length = h.size
def Hp.put (h : Hp) (i : Nat) (b : ABody) : Hp := ⟨h.blks.set (h.size - 1 - i) ⟨h.clock, b⟩, h.size, h.clock⟩
theorem Hp.set_eq {β : Type} (h : Hp) (i : Nat) (b : ABody) (k : Hp → β) : h.set i b k = k (h.put i b) := by
 simp [Hp.set, Hp.put, setC_eq]
theorem Hp.get_lt {h : Hp} {i : Nat} {b : ABlk} (e : h.get i = some b) : i < h.size := by
 rw [Hp.get_eq] at e
 by_cases hlt : i < h.size
 ·exact hlt
 ·simp [hlt] at e
theorem Hp.get_put {h : Hp} (ho : h.ok) (i j : Nat) (hi : i < h.size) (b : ABody) : (h.put i b).get j = if j = i then some ⟨h.clock, b⟩ else h.get j := by
 rw [Hp.get_eq, Hp.get_eq]
 simp only [Hp.put]
 by_cases hj : j < h.size
 ·simp only [hj, if_true]
  by_cases e : j = i
  ·subst e
   simp only [if_true]
   rw [List.getElem?_set_self (by rw [ho]; omega)]
  ·simp only [e, if_false]
   rw [List.getElem?_set_ne (by omega)]
 ·have : j ≠ i := by omega
  simp [hj, this]
theorem Hp.ok_put {h : Hp} (ho : h.ok) (i : Nat) (b : ABody) : (h.put i b).ok := by simp [Hp.ok, Hp.put]; exact ho
theorem Hp.get_push {h : Hp} (b : ABody) (j : Nat) : (h.push b).get j = if j = h.size then some ⟨h.clock, b⟩ else h.get j := by
 rw [Hp.get_eq, Hp.get_eq]
 simp only [Hp.push]
 by_cases e : j = h.size
 ·subst e; simp
 ·by_cases hj : j < h.size
  ·have : j < h.size + 1 := by omega
   simp only [this, if_true, e, if_false, hj]
   rw [show h.size + 1 - 1 - j = (h.size - 1 - j) + 1 by omega]
   simp
  ·have : ¬ j < h.size + 1 := by omega
   simp [this, e, hj]
theorem Hp.ok_push {h : Hp} (ho : h.ok) (b : ABody) : (h.push b).ok := by simp [Hp.ok, Hp.push]; exact ho
def TRel (σ : Sg) (ts : List AT) (T : Array Value) : Prop := VRels σ (ts.map (·.v)) T.toList
def BRel (σ : Sg) (N : Nat) : ABody → Obj → Prop
 | .dead, _ => True
 | .cells l, o => ∃ K e, o = .cells K e (0, 0) ∧ VRels σ l K.toList ∧ N = K.size
 | .view l, o => ∃ K e fr, o = .cells K e fr ∧ VRels σ l ((K.toList.drop N).take l.length)
 | .rows k xs, o => ∃ K e fr, o = .cells K e fr ∧ (K.toList.drop N).take xs.length = xs.map (Value.int k)
 | .grown l, o => ∃ K e A B, o = .cells K e (0, 0) ∧ K.toList = A ++ B ∧ VRels σ l A ∧ N = K.size
 | .ints k xs, o => ∃ K e B, o = .cells K e (0, 0) ∧ K.toList = xs.map (Value.int k) ++ B ∧ N = K.size
 | .map es, o => ∃ (E : Array MapEntry) (c : Nat) (es' : List (AV × AV)), o = .map E c ∧ es'.Perm es ∧ (es.map (·.1)).Nodup ∧ VRels σ (es'.map (·.1)) (E.toList.map (·.key)) ∧ VRels σ (es'.map (·.2)) (E.toList.map (·.val))
 | .loop r, o => ∃ L, o = .loop L ∧ L.state = r.state ∧ L.pending = r.pending ∧ L.fn = r.fn ∧ TRel σ r.tmps L.tmps ∧ L.params.toList = r.params ∧ L.assign = r.assign ∧ L.body = r.body ∧ ∃ M, σ r.defers = some (L.defers, M)
 | .defers t, o => o = .deferred (if t then none else some [])
theorem TRel.mono {σ τ : Sg} (h : Sub σ τ) {ts : List AT} {T : Array Value} (r : TRel σ ts T) : TRel τ ts T := VRels.mono h _ _ r
theorem BRel.mono {σ τ : Sg} (h : Sub σ τ) {N : Nat} : ∀ {b : ABody} {o : Obj}, BRel σ N b o → BRel τ N b o
 | .dead, _, _ => trivial
 | .cells _, _, ⟨K, e, h1, h2, h3⟩ => ⟨K, e, h1, VRels.mono h _ _ h2, h3⟩
 | .view _, _, ⟨K, e, fr, h1, h2⟩ => ⟨K, e, fr, h1, VRels.mono h _ _ h2⟩
 | .grown _, _, ⟨K, e, A, B, h1, h2, h3, h4⟩ => ⟨K, e, A, B, h1, h2, VRels.mono h _ _ h3, h4⟩
 | .ints _ _, _, e => e
 | .rows _ _, _, e => e
 | .map _, _, ⟨E, c, es', h1, hp, hn, h2, h3⟩ => ⟨E, c, es', h1, hp, hn, VRels.mono h _ _ h2, VRels.mono h _ _ h3⟩
 | .loop _, _, ⟨L, h1, h2, h3, h4, h5, h6, h7, h8, M, h9⟩ => ⟨L, h1, h2, h3, h4, TRel.mono h h5, h6, h7, h8, M, h _ _ h9⟩
 | .defers _, _, e => e
def ABody.isDead : ABody → Bool
 | .dead => true
 | .rows _ xs => xs.isEmpty
 | _ => false
def ABody.isView : ABody → Bool
 | .view _ => true
 | .rows _ _ => true
 | _ => false
structure HRel (σ : Sg) (h : Hp) (W : World) : Prop where
 ok : h.ok
 blk : ∀ i b, h.get i = some b → b.body.isDead = false → ∃ B N o, σ i = some (B, N) ∧ W.heap[B]? = some o ∧ BRel σ N b.body o
 dom : ∀ i B N, σ i = some (B, N) → i < h.size ∧ B < W.heap.size
 inj : ∀ i j b c B N M, h.get i = some b → h.get j = some c → b.body.isDead = false → c.body.isDead = false → σ i = some (B, N) → σ j = some (B, M) → i = j ∨ (b.body.isView = true ∧ c.body.isView = true)
structure Ext (W V : World) : Prop where
 os : V.os = W.os
 tape : V.tape = W.tape
 output : V.output = W.output
 size : W.heap.size ≤ V.heap.size
 fz : ∀ a, V.frozen? a = W.frozen? a
theorem Ext.refl (W : World) : Ext W W := ⟨rfl, rfl, rfl, Nat.le_refl _, fun _ => rfl⟩
theorem Ext.trans {A B C : World} (h : Ext A B) (k : Ext B C) : Ext A C := ⟨k.os.trans h.os, k.tape.trans h.tape, k.output.trans h.output, Nat.le_trans h.size k.size, fun a => (k.fz a).trans (h.fz a)⟩
def coldO (o : Obj) : Prop := ∀ K e fr, o = .cells K e fr → fr = (0, 0)
theorem coldO_of {σ : Sg} {N : Nat} {b : ABody} {o : Obj} (h : BRel σ N b o) (hd : b.isDead = false) (hv : b.isView = false) : coldO o := by
 intro K e fr ho
 cases b with
 | dead => cases hd
 | cells l => obtain ⟨K', e', h1, _⟩ := h; rw [h1] at ho; cases ho; rfl
 | view l => cases hv
 | rows k xs => cases hv
 | grown l => obtain ⟨K', e', _, _, h1, _⟩ := h; rw [h1] at ho; cases ho; rfl
 | ints k xs => obtain ⟨K', e', _, h1, _⟩ := h; rw [h1] at ho; cases ho; rfl
 | map es => obtain ⟨E, c, es', h1, _⟩ := h; rw [h1] at ho; cases ho
 | loop r => obtain ⟨L, h1, _⟩ := h; rw [h1] at ho; cases ho
 | defers t => rw [show o = _ from h] at ho; cases ho
theorem cold_frozen {W : World} {a : Addr} {o : Obj} (h : W.heap[a.block]? = some o) (c : coldO o) : W.frozen? a = false := by
 unfold World.frozen?
 rw [h]
 cases o with
 | cells K e fr =>
  have := c K e fr rfl
  subst this
  simp
 | _ => rfl
theorem none_frozen {W : World} {a : Addr} (h : W.heap[a.block]? = none) : W.frozen? a = false := by
 unfold World.frozen?
 rw [h]
theorem heap_new (w : World) (o : Obj) (i : Nat) : (w.alloc o).heap[i]? = if i = w.heap.size then some o else w.heap[i]? := by
 show (w.heap.push o)[i]? = _
 rw [Array.getElem?_push]
theorem frozen_alloc {W : World} {o : Obj} (c : coldO o) (a : Addr) : (W.alloc o).frozen? a = W.frozen? a := by
 by_cases h : a.block = W.heap.size
 ·rw [cold_frozen (o := o) (by rw [heap_new, if_pos h]) c, none_frozen (by rw [h]; simp)]
 ·unfold World.frozen?
  rw [heap_new, if_neg h]
structure Mon (h k : Hp) : Prop where
 clock : h.clock ≤ k.clock
 size : h.size ≤ k.size
 same : ∀ i b c, h.get i = some b → k.get i = some c → c = b ∨ h.clock ≤ c.wr
 loop : ∀ i w c, h.get i = some ⟨w, .loop c⟩ → ∃ w' st pd, k.get i = some ⟨w', .loop { c with state := st, pending := pd }⟩
structure GoodH (H : Nat → Prop) (σ : Sg) (h : Hp) (W : World) (τ : Sg) (k : Hp) (V : World) : Prop where
 sub : Sub σ τ
 only : ∀ i x, τ i = some x → i < h.size → σ i = some x
 ext : Ext W V
 mon : Mon h k
 old : ∀ i B N, τ i = some (B, N) → h.size ≤ i → B < W.heap.size → H B ∨ ∃ j M c, j < h.size ∧ σ j = some (B, M) ∧ k.get j = some c ∧ h.clock ≤ c.wr
 keep : ∀ B, B < W.heap.size → ¬ H B → (∀ i N c, σ i = some (B, N) → k.get i = some c → c.wr < h.clock) → V.heap[B]? = W.heap[B]?
abbrev Good := GoodH fun _ => False
theorem Hp.get_some {h : Hp} (ho : h.ok) {i : Nat} (hi : i < h.size) : ∃ b, h.get i = some b := by
 rw [Hp.get_eq]; simp only [hi, if_true]
 exact ⟨_, List.getElem?_eq_getElem (by rw [ho]; omega)⟩
theorem Mon.refl (h : Hp) : Mon h h := ⟨Nat.le_refl _, Nat.le_refl _, fun i b c e f => .inl (by rw [e] at f; cases f; rfl), fun i w c e => ⟨w, c.state, c.pending, e⟩⟩
theorem Mon.trans {h k m : Hp} (ko : k.ok) (x : Mon h k) (y : Mon k m) : Mon h m := by
 refine ⟨Nat.le_trans x.clock y.clock, Nat.le_trans x.size y.size, fun i b c e f => ?_, fun i w c e => ?_⟩
 ·obtain ⟨d, hd⟩ := Hp.get_some ko (i := i) (Nat.lt_of_lt_of_le (Hp.get_lt e) x.size)
  rcases y.same i d c hd f with rfl | h2
  ·exact x.same i b c e hd
  ·exact .inr (Nat.le_trans x.clock h2)
 ·obtain ⟨w1, s1, p1, h1⟩ := x.loop i w c e
  obtain ⟨w2, s2, p2, h2⟩ := y.loop i w1 _ h1
  exact ⟨w2, s2, p2, h2⟩
theorem Good.refl (σ : Sg) (h : Hp) (W : World) (dom : ∀ i B N, σ i = some (B, N) → i < h.size) : Good σ h W σ h W :=
 ⟨Sub.refl _, fun _ _ e _ => e, Ext.refl _, Mon.refl _, fun i B N e hi _ => absurd (dom i B N e) (Nat.not_lt.2 hi), fun _ _ _ _ => rfl⟩
theorem GoodH.next {H H' : Nat → Prop} {σ τ υ : Sg} {h k m : Hp} {W V X : World} (ko : k.ok) (mo : m.ok) (x : GoodH H σ h W τ k V) (y : GoodH H' τ k V υ m X) (hh : ∀ B, H' B → B < W.heap.size → H B) : GoodH H σ h W υ m X := by
 have later : ∀ j b c, k.get j = some b → h.clock ≤ b.wr → m.get j = some c → h.clock ≤ c.wr := by
  intro j b c hb hw hc
  rcases y.mon.same j b c hb hc with rfl | h2
  ·exact hw
  ·exact Nat.le_trans x.mon.clock h2
 have old : ∀ i B N, τ i = some (B, N) → h.size ≤ i → B < W.heap.size → H B ∨ ∃ j M c, j < h.size ∧ σ j = some (B, M) ∧ m.get j = some c ∧ h.clock ≤ c.wr := by
  intro i B N e hi hB
  rcases x.old i B N e hi hB with h0 | ⟨j, M, b, h1, h2, h3, h4⟩
  ·exact .inl h0
  ·obtain ⟨c, hc⟩ := Hp.get_some mo (i := j) (Nat.lt_of_lt_of_le (Nat.lt_of_lt_of_le h1 x.mon.size) y.mon.size)
   exact .inr ⟨j, M, c, h1, h2, hc, later j b c h3 h4 hc⟩
 refine ⟨x.sub.trans y.sub, fun i z e hi => x.only i z (y.only i z e (Nat.lt_of_lt_of_le hi x.mon.size)) hi, x.ext.trans y.ext, x.mon.trans ko y.mon, ?_, ?_⟩
 ·intro i B N e hi hB
  by_cases hk : i < k.size
  ·exact old i B N (y.only i _ e hk) hi hB
  ·rcases y.old i B N e (Nat.not_lt.1 hk) (Nat.lt_of_lt_of_le hB x.ext.size) with h0 | ⟨j, M, c, h1, h2, h3, h4⟩
   ·exact .inl (hh B h0 hB)
   ·by_cases hj : j < h.size
    ·exact .inr ⟨j, M, c, hj, x.only j _ h2 hj, h3, Nat.le_trans x.mon.clock h4⟩
    ·exact old j B M h2 (Nat.not_lt.1 hj) hB
 ·intro B hB hH hw
  rw [y.keep B (Nat.lt_of_lt_of_le hB x.ext.size) (fun h0 => hH (hh B h0 hB)) ?_]
  ·refine x.keep B hB hH fun i N b hi hg => ?_
   obtain ⟨c, hc⟩ := Hp.get_some mo (i := i) (Nat.lt_of_lt_of_le (Hp.get_lt hg) y.mon.size)
   have h1 := hw i N c hi hc
   rcases y.mon.same i b c hg hc with rfl | h2
   ·exact h1
   ·exact absurd (Nat.le_trans x.mon.clock h2) (Nat.not_le.2 h1)
  ·intro i N c hi hg
   by_cases hk : i < h.size
   ·exact Nat.lt_of_lt_of_le (hw i N c (x.only i _ hi hk) hg) x.mon.clock
   ·rcases old i B N hi (Nat.not_lt.1 hk) hB with h0 | ⟨j, M, c', h1, h2, h3, h4⟩
    ·exact absurd h0 hH
    ·exact absurd (hw j M c' h2 h3) (Nat.not_lt.2 h4)
theorem Good.trans {σ τ υ : Sg} {h k m : Hp} {W V X : World} (ko : k.ok) (mo : m.ok) (x : Good σ h W τ k V) (y : Good τ k V υ m X) : Good σ h W υ m X := GoodH.next ko mo x y fun _ h _ => h
theorem GoodH.trans {σ τ υ : Sg} {h k m : Hp} {W V X : World} (ko : k.ok) (mo : m.ok) (x : Good σ h W τ k V) (y : Good τ k V υ m X) : Good σ h W υ m X := GoodH.next ko mo x y fun _ h _ => h
theorem Good.hide {H : Nat → Prop} {σ τ : Sg} {h k : Hp} {W V : World} (x : Good σ h W τ k V) : GoodH H σ h W τ k V :=
 ⟨x.sub, x.only, x.ext, x.mon, fun i B N e hi hB => .inr ((x.old i B N e hi hB).resolve_left id), fun B hB _ hw => x.keep B hB id hw⟩
def Sg.add (σ : Sg) (i : Nat) (x : Nat × Nat) : Sg := fun j => if j = i then some x else σ j
theorem Sub.add {σ : Sg} {i : Nat} {x : Nat × Nat} (h : σ i = none) : Sub σ (σ.add i x) := fun j y e => by
 unfold Sg.add
 by_cases hj : j = i
 ·subst hj; rw [h] at e; cases e
 ·simp [hj, e]
theorem HRel.fresh {σ : Sg} {h : Hp} {W : World} (r : HRel σ h W) : σ h.size = none := by
 cases e : σ h.size with
 | none => rfl
 | some x => exact absurd (r.dom _ _ _ e).1 (Nat.lt_irrefl _)
theorem HRel.alloc {σ : Sg} {h : Hp} {W : World} (r : HRel σ h W) (b : ABody) (o : Obj) (N : Nat) (hb : BRel (σ.add h.size (W.heap.size, N)) N b o) (hd : b.isDead = false := by rfl) (hv : b.isView = false := by rfl) :
  HRel (σ.add h.size (W.heap.size, N)) (h.push b) (W.alloc o) ∧ Good σ h W (σ.add h.size (W.heap.size, N)) (h.push b) (W.alloc o) := by
 have hs := Sub.add (x := (W.heap.size, N)) r.fresh
 refine ⟨⟨Hp.ok_push r.ok b, ?_, ?_, ?_⟩, ⟨hs, ?_, ⟨rfl, rfl, rfl, by simp, frozen_alloc (coldO_of hb hd hv)⟩, ⟨Nat.le_refl _, by simp [Hp.push], ?_, ?_⟩, ?_, ?_⟩⟩
 ·intro i c e hd
  rw [Hp.get_push] at e
  by_cases hi : i = h.size
  ·subst hi
   simp only [if_true, Option.some.injEq] at e
   subst e
   exact ⟨W.heap.size, N, o, by simp [Sg.add], by rw [heap_new]; simp, hb⟩
  ·simp only [hi, if_false] at e
   obtain ⟨B, M, p, h1, h2, h3⟩ := r.blk i c e hd
   refine ⟨B, M, p, hs _ _ h1, ?_, BRel.mono hs h3⟩
   rw [heap_new]
   have := (r.dom _ _ _ h1).2
   rw [if_neg (by omega)]; exact h2
 ·intro i B M e
  unfold Sg.add at e
  by_cases hi : i = h.size
  ·subst hi
   simp only [if_true, Option.some.injEq, Prod.mk.injEq] at e
   obtain ⟨rfl, rfl⟩ := e
   exact ⟨by simp [Hp.push], by simp⟩
  ·simp only [hi, if_false] at e
   have := r.dom _ _ _ e
   exact ⟨by simp [Hp.push]; omega, by simp; omega⟩
 ·intro i j c d B M K e f hc hd h1 h2
  rw [Hp.get_push] at e f
  unfold Sg.add at h1 h2
  by_cases hi : i = h.size <;> by_cases hj : j = h.size
  ·omega
  ·simp only [hi, hj, if_true, if_false, Option.some.injEq, Prod.mk.injEq] at h1 h2
   have := (r.dom _ _ _ h2).2; omega
  ·simp only [hi, hj, if_true, if_false, Option.some.injEq, Prod.mk.injEq] at h1 h2
   have := (r.dom _ _ _ h1).2; omega
  ·simp only [hi, hj, if_false] at e f h1 h2
   exact r.inj i j c d B M K e f hc hd h1 h2
 ·intro i x e hi
  unfold Sg.add at e
  rw [if_neg (by omega)] at e
  exact e
 ·intro i c d e f
  rw [Hp.get_push] at f
  have := Hp.get_lt e
  rw [if_neg (by omega), e] at f
  cases f; exact .inl rfl
 ·intro i w c e
  have := Hp.get_lt e
  exact ⟨w, c.state, c.pending, by rw [Hp.get_push, if_neg (by omega)]; exact e⟩
 ·intro i B M e hi hB
  unfold Sg.add at e
  by_cases h1 : i = h.size
  ·simp only [h1, if_true, Option.some.injEq, Prod.mk.injEq] at e
   omega
  ·simp only [h1, if_false] at e
   have := (r.dom _ _ _ e).1; omega
 ·intro B hB _ _
  rw [heap_new, if_neg (by omega)]
def loopKept (a b : ABody) : Prop := ∀ c, a = .loop c → ∃ st pd, b = .loop { c with state := st, pending := pd }
theorem loopKept_of {a b : ABody} (h : ∀ c, a ≠ .loop c) : loopKept a b := fun c e => absurd e (h c)
theorem Mon.put {h : Hp} (ho : h.ok) {i : Nat} {b : ABlk} (hg : h.get i = some b) (d : ABody) (hk : loopKept b.body d) : Mon h (h.put i d) := by
 have hi := Hp.get_lt hg
 refine ⟨Nat.le_refl _, Nat.le_refl _, ?_, ?_⟩
 ·intro j c e q1 q2
  rw [Hp.get_put ho i j hi] at q2
  by_cases hj : j = i
  ·simp only [hj, if_true, Option.some.injEq] at q2
   subst q2; exact .inr (Nat.le_refl _)
  ·simp only [hj, if_false, q1, Option.some.injEq] at q2
   subst q2; exact .inl rfl
 ·intro j w c e
  rw [Hp.get_put ho i j hi]
  by_cases hj : j = i
  ·subst hj
   rw [hg] at e; cases e
   obtain ⟨st, pd, rfl⟩ := hk c rfl
   exact ⟨h.clock, st, pd, by simp⟩
  ·simp only [hj, if_false]
   exact ⟨w, c.state, c.pending, e⟩
theorem HRel.write {σ : Sg} {h : Hp} {W V : World} (r : HRel σ h W) {i B N : Nat} {b : ABlk} (hg : h.get i = some b) (hl : b.body.isDead = false) (hσ : σ i = some (B, N)) (d : ABody) (hk : loopKept b.body d) (o : Obj)
  (ho : V.heap[B]? = some o) (hb : BRel σ N d o) (hsz : V.heap.size = W.heap.size) (hold : ∀ k, k ≠ B → V.heap[k]? = W.heap[k]?) (h1 : V.os = W.os) (h2 : V.tape = W.tape) (h3 : V.output = W.output) (hc : coldO o := by intro _ _ _ h; first | (cases h; rfl) | cases h) (hnv : b.body.isView = false := by rfl) :
  HRel σ (h.put i d) V ∧ Good σ h W σ (h.put i d) V := by
 have hi := Hp.get_lt hg
 have hfz : ∀ a, V.frozen? a = W.frozen? a := fun a => by
  by_cases h : a.block = B
  ·obtain ⟨B', N', o', q1, q2, q3⟩ := r.blk i b hg hl
   rw [hσ] at q1; cases q1
   rw [cold_frozen (by rw [h]; exact ho) hc, cold_frozen (by rw [h]; exact q2) (coldO_of q3 hl hnv)]
  ·unfold World.frozen?
   rw [hold _ h]
 refine ⟨⟨Hp.ok_put r.ok i d, ?_, ?_, ?_⟩, ⟨Sub.refl _, fun _ _ e _ => e, ⟨h1, h2, h3, by omega, hfz⟩, Mon.put r.ok hg d hk, fun j B M e hj _ => absurd (r.dom j B M e).1 (Nat.not_lt.2 hj), ?_⟩⟩
 ·intro j c e hd
  rw [Hp.get_put r.ok i j hi] at e
  by_cases hj : j = i
  ·subst hj
   simp only [if_true, Option.some.injEq] at e
   subst e
   exact ⟨B, N, o, hσ, ho, hb⟩
  ·simp only [hj, if_false] at e
   obtain ⟨B', M, p, q1, q2, q3⟩ := r.blk j c e hd
   refine ⟨B', M, p, q1, ?_, q3⟩
   rw [hold]; exact q2
   intro eB; subst eB
   exact hj ((r.inj j i c b B' M N e hg hd hl q1 hσ).resolve_right fun h => by rw [hnv] at h; cases h.2)
 ·intro j B' M e
  have := r.dom _ _ _ e
  exact ⟨this.1, by omega⟩
 ·intro j k c e B' M K q1 q2 q3 q4 q5 q6
  rw [Hp.get_put r.ok i j hi] at q1
  rw [Hp.get_put r.ok i k hi] at q2
  by_cases hj : j = i <;> by_cases hk : k = i
  ·omega
  ·subst hj
   simp only [hk, if_false] at q2
   exact .inl ((r.inj j k b e B' M K hg q2 hl q4 q5 q6).resolve_right fun h => by rw [hnv] at h; cases h.1)
  ·subst hk
   simp only [hj, if_false] at q1
   exact .inl ((r.inj j k c b B' M K q1 hg q3 hl q5 q6).resolve_right fun h => by rw [hnv] at h; cases h.2)
  ·simp only [hj, hk, if_false] at q1 q2
   exact r.inj j k c e B' M K q1 q2 q3 q4 q5 q6
 ·intro B' hB _ hw
  apply hold
  intro e; subst e
  have := hw i N ⟨h.clock, d⟩ hσ (by rw [Hp.get_put r.ok i i hi]; simp)
  exact absurd this (Nat.lt_irrefl _)
end Go.Eng
namespace Go.Eng
def ev (T : Array Value) : Operand → Value
 | .tmp t => T.getD t undef
 | .const v => v
 | .global g => .pointer (some ⟨g, 0, none⟩)
 | .func f => .func (.func f) #[] #[]
def GRel (C : Ctx) (σ : Sg) : Prop := ∀ g i, C.glob g = some i → ∃ N, σ i = some (g, N)
theorem GRel.mono {C : Ctx} {σ τ : Sg} (h : GRel C σ) (s : Sub σ τ) : GRel C τ := fun g i e => let ⟨N, hN⟩ := h g i e; ⟨N, s _ _ hN⟩
theorem ofCell_rel {σ : Sg} {v : Value} {a : AV} (h : ofCell v = some a) : VRel σ a v ∧ a.isCell = true := by
 unfold ofCell at h
 split at h <;> first | (cases h; exact ⟨rfl, rfl⟩) | cases h
theorem mapO_ofCell {σ : Sg} : ∀ {l : List Value} {m : List AV}, mapO ofCell l = some m → VRels σ m l ∧ allCell m = true
 | [], m, h => by cases h; exact ⟨rfl, rfl⟩
 | v :: l, m, h => by
  simp only [mapO] at h
  split at h
  ·cases h
  ·rename_i b hb
   split at h
   ·cases h
   ·rename_i bs hbs
    cases h
    obtain ⟨h1, h2⟩ := mapO_ofCell (σ := σ) hbs
    obtain ⟨h3, h4⟩ := ofCell_rel (σ := σ) hb
    exact ⟨⟨v, l, rfl, h3, h1⟩, by simp [allCell, h2, h4]⟩
theorem TRel.nth {σ : Sg} {ts : List AT} {T : Array Value} (h : TRel σ ts T) {t : Nat} {a : AT} (e : Eng.nth ts t = some a) : ∃ v, T[t]? = some v ∧ VRel σ a.v v := by
 have h1 : Eng.nth (ts.map (·.v)) t = some a.v := by rw [nth_eq] at e ⊢; simp [e]
 obtain ⟨v, h2, h3⟩ := VRels.nth h h1
 exact ⟨v, by simpa using h2, h3⟩
theorem TRel.none {σ : Sg} {ts : List AT} {T : Array Value} (h : TRel σ ts T) {t : Nat} (e : Eng.nth ts t = none) : T[t]? = none := by
 have := VRels.length h
 rw [nth_eq] at e
 simp at this e ⊢
 omega
theorem evalA_rel {C : Ctx} {σ : Sg} {s : St} {T : Array Value} (g : GRel C σ) (h : TRel σ s.tmps T) (x : Operand) : VRel σ (evalA C s x) (ev T x) := by
 cases x with
 | tmp t =>
  simp only [evalA, ev]
  cases e : nth s.tmps t with
  | none =>
   have := h.none e
   simp only [Array.getD_eq_getD_getElem?, this, Option.getD_none]
   exact ⟨#[], rfl, rfl⟩
  | some a =>
   obtain ⟨v, h1, h2⟩ := h.nth e
   simpa [Array.getD_eq_getD_getElem?, h1] using h2
 | const v =>
  simp only [evalA, ev]
  cases e : ofCell v with
  | none => trivial
  | some a => exact (ofCell_rel e).1
 | global n =>
  simp only [evalA, ev]
  cases e : C.glob n with
  | none => trivial
  | some i => obtain ⟨N, hN⟩ := g n i e; exact ⟨n, N, hN, rfl⟩
 | func f => exact ⟨#[], #[], rfl, rfl, rfl⟩
theorem evalL_rel {C : Ctx} {σ : Sg} {s : St} {T : Array Value} (g : GRel C σ) (h : TRel σ s.tmps T) : ∀ l : List Operand, VRels σ (evalL C s l) (l.map (ev T))
 | [] => rfl
 | x :: l => ⟨_, _, rfl, evalA_rel g h x, evalL_rel g h l⟩
def OpOk (P : Program) (m : Sem Next) (σ : Sg) (h : Hp) (W : World) (q : S1) : Prop :=
 q.need → ∃ τ V X r, m.run P W = .ok r X ∧ (r = .value V ∨ (r = .skip ∧ V = undef)) ∧ VRel τ q.v V ∧ HRel τ q.h X ∧ Good σ h W τ q.h X
theorem OpOk.pure {P : Program} {m : Sem Next} {σ : Sg} {h : Hp} {W : World} {nd : Nd} {v : AV} (r : HRel σ h W) (f : nd.val → ∃ V, m.run P W = .ok (.value V) W ∧ VRel σ v V) : OpOk P m σ h W ⟨nd, v, h⟩ :=
 fun hn => let ⟨V, h1, h2⟩ := f hn; ⟨σ, V, W, _, h1, .inl rfl, h2, r, Good.refl _ _ _ fun i B N e => (r.dom i B N e).1⟩
theorem pure1_some {h : Hp} {x : Option (Nd × AV)} {q : S1} (e : pure1 h x = some q) : ∃ nd v, x = some (nd, v) ∧ q = ⟨nd, v, h⟩ := by
 unfold pure1 at e; split at e
 ·cases e
 ·cases e; exact ⟨_, _, rfl, rfl⟩
theorem plain1_some {h : Hp} {x : Option AV} {q : S1} (e : plain1 h x = some q) : ∃ v, x = some v ∧ q = ⟨.tt, v, h⟩ := by
 unfold plain1 at e; split at e
 ·cases e
 ·cases e; exact ⟨_, rfl, rfl⟩
theorem cells_rel {σ : Sg} {a : AV} {v : Value} (h : VRel σ a v) (c : allCell a.cellsA = true) : VRels σ a.cellsA v.cells.toList := by
 cases a with
 | agg l => obtain ⟨K, rfl, hK⟩ := h; exact hK
 | any b =>
  cases b
  ·simp [AV.cellsA, allCell, AV.isCell] at c
  ·obtain ⟨h1, h2⟩ := h
   refine ⟨v, [], ?_, ⟨h1, h2⟩, rfl⟩
   cases v <;> first | rfl | (exact absurd rfl (h1 _))
 | tuple l => simp [AV.cellsA, allCell, AV.isCell] at c
 | panic l => simp [AV.cellsA, allCell, AV.isCell] at c
 | lslice i n => obtain ⟨p, len, c, rfl, h1⟩ := h; exact ⟨_, [], rfl, ⟨p, len, c, rfl, h1⟩, rfl⟩
 | ptr i o => obtain ⟨b, N, h1, rfl⟩ := h; exact ⟨_, [], rfl, ⟨b, N, h1, rfl⟩, rfl⟩
 | slice i o l k => obtain ⟨b, N, h1, rfl⟩ := h; exact ⟨_, [], rfl, ⟨b, N, h1, rfl⟩, rfl⟩
 | gslice i o l k => obtain ⟨b, N, q, cc, h1, rfl, h2⟩ := h; exact ⟨_, [], rfl, ⟨b, N, q, cc, h1, rfl, h2⟩, rfl⟩
 | func f fs cs => obtain ⟨F, K, rfl, h1, h2⟩ := h; exact ⟨_, [], rfl, ⟨F, K, rfl, h1, h2⟩, rfl⟩
 | yield l => obtain ⟨b, N, h1, rfl⟩ := h; exact ⟨_, [], rfl, ⟨b, N, h1, rfl⟩, rfl⟩
 | iface t a => obtain ⟨x, rfl, h1⟩ := h; exact ⟨_, [], rfl, ⟨x, rfl, h1⟩, rfl⟩
 | map i => obtain ⟨b, N, h1, rfl⟩ := h; exact ⟨_, [], rfl, ⟨b, N, h1, rfl⟩, rfl⟩
 | bool s b => obtain rfl := h; exact ⟨_, [], rfl, rfl, rfl⟩
 | int s k n => obtain rfl := h; exact ⟨_, [], rfl, rfl, rfl⟩
 | str s b => obtain rfl := h; exact ⟨_, [], rfl, rfl, rfl⟩
 | nil => obtain rfl := h; exact ⟨_, [], rfl, rfl, rfl⟩
 | nilslice => obtain rfl := h; exact ⟨_, [], rfl, rfl, rfl⟩
 | eslice b => obtain ⟨a, c, rfl, hb⟩ := h; exact ⟨_, [], rfl, ⟨a, c, rfl, hb⟩, rfl⟩
 | nilfunc => obtain rfl := h; exact ⟨_, [], rfl, rfl, rfl⟩
 | niliface => obtain rfl := h; exact ⟨_, [], rfl, rfl, rfl⟩
 | nilmap => obtain rfl := h; exact ⟨_, [], rfl, rfl, rfl⟩
 | vslice i l => obtain ⟨b, N, c, h1, rfl⟩ := h; exact ⟨_, [], rfl, ⟨b, N, c, h1, rfl⟩, rfl⟩
 | pslice i l s n => obtain ⟨p, len, c, rfl, h1⟩ := h; exact ⟨_, [], rfl, ⟨p, len, c, rfl, h1⟩, rfl⟩
 | vptr i o => obtain ⟨b, N, h1, rfl⟩ := h; exact ⟨_, [], rfl, ⟨b, N, h1, rfl⟩, rfl⟩
theorem isCell_one {σ : Sg} {a : AV} {v : Value} (h : VRel σ a v) (c : a.isCell = true) : v.oneCell' = true := by
 cases a with
 | any b =>
  cases b
  ·cases c
  ·obtain ⟨h1, h2⟩ := h
   cases v <;> first | rfl | (exact absurd rfl (h1 _)) | (exact absurd rfl (h2 _))
 | agg l => cases c
 | tuple l => cases c
 | panic l => cases c
 | lslice i n => obtain ⟨p, len, c, rfl, h1⟩ := h; rfl
 | ptr i o => obtain ⟨b, N, h1, rfl⟩ := h; rfl
 | slice i o l k => obtain ⟨b, N, h1, rfl⟩ := h; rfl
 | gslice i o l k => obtain ⟨b, N, q, cc, h1, rfl, h2⟩ := h; rfl
 | func f fs cs => obtain ⟨F, K, rfl, h1, h2⟩ := h; rfl
 | yield l => obtain ⟨b, N, h1, rfl⟩ := h; rfl
 | iface t a => obtain ⟨x, rfl, h1⟩ := h; rfl
 | map i => obtain ⟨b, N, h1, rfl⟩ := h; rfl
 | bool s b => obtain rfl := h; rfl
 | int s k n => obtain rfl := h; rfl
 | str s b => obtain rfl := h; rfl
 | nil => obtain rfl := h; rfl
 | nilslice => obtain rfl := h; rfl
 | eslice b => obtain ⟨a, c, rfl, _⟩ := h; rfl
 | nilfunc => obtain rfl := h; rfl
 | niliface => obtain rfl := h; rfl
 | nilmap => obtain rfl := h; rfl
 | vslice i l => obtain ⟨b, N, c, h1, rfl⟩ := h; rfl
 | pslice i l s n => obtain ⟨p, len, c, rfl, h1⟩ := h; rfl
 | vptr i o => obtain ⟨b, N, h1, rfl⟩ := h; rfl
theorem allCell_one {σ : Sg} : ∀ {l : List AV} {L : List Value}, VRels σ l L → allCell l = true → ∀ v ∈ L, v.oneCell' = true
 | [], _, e, _, v, hv => by rw [show _ = [] from e] at hv; cases hv
 | a :: l, _, ⟨u, us, e, r, s⟩, c, v, hv => by
  rw [e] at hv
  simp only [allCell, Bool.and_eq_true] at c
  rcases List.mem_cons.1 hv with rfl | hv
  ·exact isCell_one r c.1
  ·exact allCell_one s c.2 v hv
theorem zeroCells_spec {P : Program} {σ : Sg} {t : TypeId} {z : List AV} (h : zeroCells P t = some z) :
  ∃ i v, P.info? t = some i ∧ i.zero = some v ∧ VRels σ z v.cells.toList ∧ allCell z = true := by
 unfold zeroCells at h
 split at h
 ·cases h
 ·rename_i i hi
  split at h
  ·cases h
  ·rename_i v hv
   obtain ⟨h1, h2⟩ := mapO_ofCell (σ := σ) h
   exact ⟨i, v, hi, hv, h1, h2⟩
theorem sizeT_spec {P : Program} {t : TypeId} {n : Nat} (h : sizeT P t = some n) : ∃ i, P.info? t = some i ∧ i.size = n := by
 unfold sizeT at h
 cases e : P.info? t with
 | none => rw [e] at h; cases h
 | some i => rw [e] at h; cases h; exact ⟨i, rfl, rfl⟩
theorem run_sizeT {P : Program} {t : TypeId} {n : Nat} (h : sizeT P t = some n) (W : World) : (sizeOf t).run P W = .ok n W := by
 obtain ⟨i, hi, rfl⟩ := sizeT_spec h
 simp [sizeOf, typeInfo, hi]
theorem run_zero {P : Program} {t : TypeId} {i : TypeInfo} {v : Value} (hi : P.info? t = some i) (hv : i.zero = some v) (W : World) : (zeroValue t).run P W = .ok v W := by
 simp [zeroValue, typeInfo, hi, hv]
theorem run_isAggT {P : Program} {t : TypeId} {b : Bool} (h : isAggT P t = some b) (W : World) : (isAgg t).run P W = .ok b W := by
 unfold isAggT at h
 cases e : P.underlying t with
 | none => rw [e] at h; cases h
 | some d =>
  rw [e] at h
  unfold isAgg
  rw [Sem.run_bind, run_underlying e W]
  cases d <;> cases h <;> simp
theorem alloc_ok {P : Program} {σ : Sg} {h : Hp} {W : World} (r : HRel σ h W) {l : List AV} {K : Array Value} (e : TypeId) (hl : VRels σ l K.toList) (m : Sem Next) (v : AV) (V : Value)
  (hm : m.run P W = .ok (.value V) (W.alloc (.cells K e))) (hv : VRel (σ.add h.size (W.heap.size, K.size)) v V) : OpOk P m σ h W ⟨.tt, v, h.push (.cells l)⟩ := fun _ => by
 obtain ⟨h1, h2⟩ := r.alloc (.cells l) (.cells K e) K.size ⟨K, e, rfl, VRels.mono (Sub.add r.fresh) _ _ hl, rfl⟩
 exact ⟨_, V, _, _, hm, .inl rfl, hv, h1, h2⟩
theorem add_here {σ : Sg} {i : Nat} {x : Nat × Nat} : σ.add i x i = some x := by simp [Sg.add]
theorem opAlloc_ok {P : Program} {σ : Sg} {h : Hp} {W : World} (r : HRel σ h W) {t : TypeId} {q : S1} (e : opAlloc P h t = some q) :
  OpOk P (do pure (.value (← Instr.alloc t true (.tuple #[])))) σ h W q := by
 unfold opAlloc at e
 split at e
 ·cases e
 ·rename_i z hz
  split at e
  ·cases e
   obtain ⟨i, v, hi, hv, h1, _⟩ := zeroCells_spec (σ := σ) hz
   refine alloc_ok r t h1 _ _ (.pointer (some ⟨W.heap.size, 0, none⟩)) ?_ ⟨W.heap.size, v.cells.size, add_here, rfl⟩
   simp [Instr.alloc, run_zero hi hv, newVar, newRow]
  ·cases e
theorem opBox_ok {P : Program} {σ : Sg} {h : Hp} {W : World} (r : HRel σ h W) {t : TypeId} {a : AV} {v : Value} (hv : VRel σ a v) {q : S1} (e : opBox h a = some q) :
  OpOk P (do pure (.value (← Instr.box t v))) σ h W q := by
 unfold opBox at e
 split at e
 ·rename_i hc
  cases e
  refine alloc_ok r t (cells_rel hv hc) _ _ (.pointer (some ⟨W.heap.size, 0, none⟩)) ?_ ⟨W.heap.size, v.cells.size, add_here, rfl⟩
  simp [Instr.box, newVar, newRow]
 ·cases e
end Go.Eng
namespace Go.Eng
theorem eqU8_eq : ∀ (l m : List UInt8), eqU8 l m = true ↔ l = m
 | [], [] => by simp [eqU8]
 | [], _ :: _ => by simp [eqU8]
 | _ :: _, [] => by simp [eqU8]
 | a :: l, b :: m => by
  simp only [eqU8, Bool.and_eq_true, eqU8_eq l m, List.cons.injEq]
  constructor
  ·rintro ⟨h1, h2⟩
   exact ⟨UInt8.toNat_inj.1 (Nat.eq_of_beq_eq_true h1), h2⟩
  ·rintro ⟨rfl, h2⟩
   exact ⟨Nat.beq_refl _, h2⟩
theorem eqBytes_iff (x y : ByteArray) : eqBytes x y = true ↔ x = y := by
 unfold eqBytes
 rw [eqU8_eq]
 constructor
 ·intro h
  obtain ⟨⟨a⟩⟩ := x; obtain ⟨⟨b⟩⟩ := y
  rw [show a = b from h]
 ·rintro rfl; rfl
theorem eqBytes_eq (x y : ByteArray) : eqBytes x y = (x == y) := by
 rw [Bool.eq_iff_iff, eqBytes_iff]
 obtain ⟨⟨a⟩⟩ := x; obtain ⟨⟨b⟩⟩ := y
 show _ ↔ ((⟨a⟩ : Array UInt8) == ⟨b⟩) = true
 simp
mutual
theorem sameV_eq : ∀ (a b : AV), sameV a b = true → a = b
 | .bool false a, .bool false b, h => by simp [sameV] at h; rw [h]
 | .int false k a, .int false k' b, h => by simp [sameV] at h; rw [h.1, h.2]
 | .nil, .nil, _ => rfl
 | .ptr i o, .ptr j q, h => by simp [sameV] at h; rw [h.1, h.2]
 | .nilslice, .nilslice, _ => rfl
 | .eslice a, .eslice b, h => by simp [sameV] at h; rw [h]
 | .slice i o l c, .slice j q m d, h => by simp [sameV] at h; rw [h.1.1.1, h.1.1.2, h.1.2, h.2]
 | .gslice i o l c, .gslice j q m d, h => by simp [sameV] at h; rw [h.1.1.1, h.1.1.2, h.1.2, h.2]
 | .func f fs cs, .func g gs ds, h => by
  simp [sameV] at h
  rw [h.1.1, sameL_eq fs gs h.1.2, sameL_eq cs ds h.2]
 | .yield l, .yield m, h => by simp [sameV] at h; rw [h]
 | .nilfunc, .nilfunc, _ => rfl
 | .niliface, .niliface, _ => rfl
 | .nilmap, .nilmap, _ => rfl
 | .agg l, .agg m, h => by simp only [sameV] at h; rw [sameL_eq l m h]
 | .tuple l, .tuple m, h => by simp only [sameV] at h; rw [sameL_eq l m h]
 | .str false a, .str false b, h => by
  simp only [sameV] at h
  rw [(eqBytes_iff a b).1 h]
 | .map i, .map j, h => by simp [sameV] at h; rw [h]
 | .vslice i l, .vslice j m, h => by simp [sameV] at h; rw [h.1, h.2]
 | .pslice i l false n, .pslice j m false k, h => by simp [sameV] at h; rw [h.1.1, h.1.2, h.2]
 | .vptr i o, .vptr j q, h => by simp [sameV] at h; rw [h.1, h.2]
 | .iface t a, .iface u b, h => by
  simp only [sameV, Bool.and_eq_true] at h
  rw [Nat.eq_of_beq_eq_true h.1, sameV_eq a b h.2]
 | .panic a, .panic b, h => by
  simp only [sameV] at h
  rw [sameV_eq a b h]
theorem sameL_eq : ∀ (a b : List AV), sameL a b = true → a = b
 | [], [], _ => rfl
 | a :: l, b :: m, h => by
  simp [sameL] at h
  rw [sameV_eq a b h.1, sameL_eq l m h.2]
 | [], _ :: _, h => by simp [sameL] at h
 | _ :: _, [], h => by simp [sameL] at h
end
theorem oneCell_any {σ : Sg} {v : Value} (h : v.oneCell' = true) : VRel σ (.any true) v := by
 refine ⟨fun c e => ?_, fun c e => ?_⟩ <;> (subst e; cases h)
theorem any_rel {σ : Sg} {p : Bool} {a b : AV} {v : Value} (ha : p = true → VRel σ a v) (hb : p = false → VRel σ b v) : VRel σ (.any (a.isCell && b.isCell)) v := by
 cases h : a.isCell && b.isCell with
 | false => trivial
 | true =>
  simp at h
  cases p with
  | true => exact oneCell_any (isCell_one (ha rfl) h.1)
  | false => exact oneCell_any (isCell_one (hb rfl) h.2)
mutual
theorem mergeV_rel {σ : Sg} (p : Bool) (a b : AV) (v : Value) (ha : p = true → VRel σ a v) (hb : p = false → VRel σ b v) : VRel σ (mergeV p a b) v := by
 unfold mergeV
 split
 ·rename_i s k x s' k' y
  split
  ·rename_i hk; subst hk
   have hv : v = .int k (bif p then x else y) := by
    cases p
    ·exact hb rfl
    ·exact ha rfl
   split
   ·exact hv
   ·split
    ·rename_i hxy; subst hxy
     rw [hv]; cases p <;> rfl
    ·exact hv
  ·exact any_rel (a := .int s k x) (b := .int s' k' y) ha hb
 ·rename_i s x s' y
  have hv : v = .bool (bif p then x else y) := by
   cases p
   ·exact hb rfl
   ·exact ha rfl
  split
  ·exact hv
  ·split
   ·rename_i hxy; subst hxy
    rw [hv]; cases p <;> rfl
   ·exact hv
 ·rename_i _ x _ y
  show v = .string (bif p then x else y)
  cases p
  ·exact hb rfl
  ·exact ha rfl
 ·rename_i i x j y
  split
  ·rename_i hij
   have := Nat.eq_of_beq_eq_true hij
   subst this
   cases p
   ·exact hb rfl
   ·exact ha rfl
  ·exact any_rel (a := .lslice i x) (b := .lslice j y) ha hb
 ·rename_i l m
  split
  ·trivial
  ·rename_i r hr
   cases p
   ·obtain ⟨K, rfl, hK⟩ := hb rfl
    exact ⟨K, rfl, mergeL_rel false l m r K.toList hr (fun h => by cases h) (fun _ => hK)⟩
   ·obtain ⟨K, rfl, hK⟩ := ha rfl
    exact ⟨K, rfl, mergeL_rel true l m r K.toList hr (fun _ => hK) (fun h => by cases h)⟩
 ·rename_i l m
  split
  ·trivial
  ·rename_i r hr
   cases p
   ·obtain ⟨K, rfl, hK⟩ := hb rfl
    exact ⟨K, rfl, mergeL_rel false l m r K.toList hr (fun h => by cases h) (fun _ => hK)⟩
   ·obtain ⟨K, rfl, hK⟩ := ha rfl
    exact ⟨K, rfl, mergeL_rel true l m r K.toList hr (fun _ => hK) (fun h => by cases h)⟩
 ·split
  ·rename_i h
   have := sameV_eq _ _ h
   cases p
   ·rw [this]; exact hb rfl
   ·exact ha rfl
  ·exact any_rel ha hb
termination_by SizeOf.sizeOf a
theorem mergeL_rel {σ : Sg} (p : Bool) (l m r : List AV) (L : List Value) (e : mergeL p l m = some r) (ha : p = true → VRels σ l L) (hb : p = false → VRels σ m L) : VRels σ r L := by
 unfold mergeL at e
 split at e
 ·cases e
  cases p
  ·exact hb rfl
  ·exact ha rfl
 ·rename_i a l b m
  split at e
  ·cases e
  ·rename_i q hq
   cases e
   cases p
   ·obtain ⟨v, vs, rfl, h1, h2⟩ := hb rfl
    exact ⟨v, vs, rfl, mergeV_rel false a b v (fun h => by cases h) (fun _ => h1), mergeL_rel false l m q vs hq (fun h => by cases h) (fun _ => h2)⟩
   ·obtain ⟨v, vs, rfl, h1, h2⟩ := ha rfl
    exact ⟨v, vs, rfl, mergeV_rel true a b v (fun _ => h1) (fun h => by cases h), mergeL_rel true l m q vs hq (fun _ => h2) (fun h => by cases h)⟩
 ·cases e
termination_by SizeOf.sizeOf l
end
theorem opPick_ok {P : Program} {σ : Sg} {h : Hp} {W : World} (r : HRel σ h W) {c a b : AV} {u v w : Value} (hc : VRel σ c u) (ha : VRel σ a v) (hb : VRel σ b w) {q : S1} (e : opPick h c a b = some q) :
  OpOk P (do pure (.value (if ← asBool u then v else w))) σ h W q := by
 unfold opPick at e
 split at e <;> cases e
 ·rename_i p
  obtain rfl := hc
  refine OpOk.pure r fun _ => ?_
  cases p
  ·exact ⟨w, by simp [asBool], hb⟩
  ·exact ⟨v, by simp [asBool], ha⟩
 ·rename_i p
  obtain rfl := hc
  refine OpOk.pure r fun _ => ⟨if p then v else w, by simp [asBool], mergeV_rel p a b _ (fun h => ?_) (fun h => ?_)⟩
  ·subst h; exact ha
  ·subst h; exact hb
theorem part_ok {P : Program} {σ : Sg} {t : TypeId} {l : List AV} {L : List Value} {off : Nat} {v : AV} (h : VRels σ l L) (e : partV P t l off = some v) (W : World) :
  ∃ V, (part t L.toArray off).run P W = .ok V W ∧ VRel σ v V := by
 unfold partV at e
 split at e
 ·cases e
 ·rename_i hag
  split at e
  ·cases e
  ·rename_i n hn
   cases h1 : takeN n (dropN off l) with
   | none => rw [h1] at e; cases e
   | some m =>
    rw [h1] at e; cases e
    obtain ⟨h2, h3⟩ := VRels.take n (VRels.drop off h) h1
    refine ⟨.agg (L.toArray.extract off (off + n)), by simp [part, run_isAggT hag, run_sizeT hn], _, rfl, ?_⟩
    have : (L.toArray.extract off (off + n)).toList = (L.drop off).take n := by
     simp [List.extract]
    rw [this]; exact h2
 ·rename_i hag
  obtain ⟨V, h1, h2⟩ := VRels.nth h e
  exact ⟨V, by simp [part, run_isAggT hag, h1], h2⟩
theorem run_loadVar_from {P : Program} {W : World} {B N : Nat} {σ : Sg} {l : List AV} {A : List Value} (hget : ∀ j u, A[j]? = some u → W.cell? ⟨B, N + j, none⟩ = some u)
  (hl : VRels σ l A) {t : TypeId} {off : Nat} {v : AV} (ev : partV P t l off = some v) : ∃ V, (loadVar t ⟨B, N + off, none⟩).run P W = .ok V W ∧ VRel σ v V := by
 unfold partV at ev
 split at ev
 ·cases ev
 ·rename_i hag
  split at ev
  ·cases ev
  ·rename_i n hn
   cases h1 : takeN n (dropN off l) with
   | none => rw [h1] at ev; cases ev
   | some m =>
    rw [h1] at ev; cases ev
    obtain ⟨h2, h3⟩ := VRels.take n (VRels.drop off hl) h1
    have hlen : ((A.drop off).take n).length = n := by rw [VRels.length h2, h3]
    have := run_loadCells_list (P := P) W ⟨B, N + off, none⟩ ((A.drop off).take n) (fun j u hu => by
     have hadd : (⟨B, N + off, none⟩ : Addr).add j = ⟨B, N + (off + j), none⟩ := by unfold Addr.add; split <;> simp_all [Nat.add_assoc]
     rw [hadd]
     apply hget
     rw [List.getElem?_take] at hu
     split at hu
     ·simpa using hu
     ·cases hu)
    rw [hlen] at this
    refine ⟨.agg ((A.drop off).take n).toArray, by simp [loadVar, run_isAggT hag, run_sizeT hn, this], _, rfl, by simpa using h2⟩
 ·rename_i hag
  obtain ⟨V, h1, h2⟩ := VRels.nth hl ev
  exact ⟨V, by simp [loadVar, run_isAggT hag, hget _ _ h1], h2⟩
theorem run_loadVar_at {P : Program} {W : World} {B : Nat} {K : Array Value} {e : TypeId} {fz : Nat × Nat} (hB : W.heap[B]? = some (.cells K e fz)) {σ : Sg} {l : List AV} {A Z : List Value}
  (hK : K.toList = A ++ Z) (hl : VRels σ l A) {t : TypeId} {off : Nat} {v : AV} (ev : partV P t l off = some v) : ∃ V, (loadVar t ⟨B, off, none⟩).run P W = .ok V W ∧ VRel σ v V := by
 have := run_loadVar_from (P := P) (W := W) (B := B) (N := 0) (A := A) (fun j u hu => by
  rw [Nat.zero_add, cell_of_row W B j K e fz hB]
  rw [← Array.getElem?_toList, hK, List.getElem?_append_left (by rcases Nat.lt_or_ge j A.length with h | h; exact h; simp [List.getElem?_eq_none h] at hu)]
  exact hu) hl ev
 rwa [Nat.zero_add] at this
theorem load_ok {P : Program} {σ : Sg} {h : Hp} {W : World} (r : HRel σ h W) {t : TypeId} {a v : AV} {A : Value} (ha : VRel σ a A) {nd : Nd} (e : loadV P h t a = some (nd, v)) (hn : nd.val) :
  ∃ B off V, A = .pointer (some ⟨B, off, none⟩) ∧ (loadVar t ⟨B, off, none⟩).run P W = .ok V W ∧ VRel σ v V := by
 unfold loadV at e
 split at e
 ·rename_i i off
  obtain ⟨B, N, hσ, rfl⟩ := ha
  split at e
  ·rename_i w l hg
   cases hp : partV P t l off with
   | none => rw [hp] at e; cases e
   | some u =>
    rw [hp] at e; cases e
    obtain ⟨B', N', o, h1, h2, K, el, rfl, h3, _⟩ := r.blk i _ hg rfl
    rw [hσ] at h1; cases h1
    obtain ⟨V, h4, h5⟩ := run_loadVar_at (P := P) h2 (A := K.toList) (Z := []) (by simp) h3 hp
    exact ⟨B, off, V, rfl, h4, h5⟩
  ·rename_i w l hg
   cases hp : partV P t l off with
   | none => rw [hp] at e; cases e
   | some u =>
    rw [hp] at e; cases e
    obtain ⟨B', N', o, h1, h2, K, el, X, Y, rfl, h3, h6, _⟩ := r.blk i _ hg rfl
    rw [hσ] at h1; cases h1
    obtain ⟨V, h4, h5⟩ := run_loadVar_at (P := P) h2 h3 h6 hp
    exact ⟨B, off, V, rfl, h4, h5⟩
  ·rename_i w k xs hg
   split at e
   ·rename_i k' hu
    split at e
    ·rename_i hk; subst hk
     cases e
     obtain ⟨B', N', o, h1, h2, K, el, Y, rfl, h3, _⟩ := r.blk i _ hg rfl
     rw [hσ] at h1; cases h1
     have hc : W.cell? ⟨B, off, none⟩ = some (.int k (xs.getD off 0)) := by
      rw [cell_of_row W B off K el (0, 0) h2, ← Array.getElem?_toList, h3, List.getElem?_append_left (by simpa using hn)]
      simp [List.getD_eq_getElem?_getD, hn]
     refine ⟨B, off, _, rfl, ?_, rfl⟩
     have hag : isAggT P t = some false := by unfold isAggT; rw [hu]
     simp [loadVar, run_isAggT hag, hc]
    ·cases e
   ·cases e
  ·cases e
 ·rename_i i off
  obtain ⟨B, N, hσ, rfl⟩ := ha
  split at e
  ·rename_i w l hg
   cases hp : partV P t l off with
   | none => rw [hp] at e; cases e
   | some u =>
    rw [hp] at e; cases e
    obtain ⟨B', N', o, h1, h2, K, el, fr, rfl, h3⟩ := r.blk i _ hg rfl
    rw [hσ] at h1; cases h1
    obtain ⟨V, h4, h5⟩ := run_loadVar_from (P := P) (W := W) (B := B) (N := N) (fun j u hu => by
     rw [cell_of_row W B (N + j) K el fr h2, ← Array.getElem?_toList]
     rw [List.getElem?_take] at hu
     split at hu
     ·rw [List.getElem?_drop] at hu; exact hu
     ·cases hu) h3 hp
    exact ⟨B, N + off, V, rfl, h4, h5⟩
  ·cases e
 ·cases e
end Go.Eng
namespace Go.Eng
theorem putCells_spec {σ : Sg} : ∀ (l : List AV) (off : Nat) (vs l' : List AV) {L Vs : List Value}, VRels σ l L → VRels σ vs Vs → putCells l off vs = some l' →
  VRels σ l' (L.take off ++ Vs ++ L.drop (off + Vs.length)) ∧ off + Vs.length ≤ L.length
 | l, 0, [], l', L, Vs, h, hv, e => by
  rw [show Vs = [] from hv]
  unfold putCells at e
  cases e
  simpa using h
 | [], 0, v :: vs, l', L, Vs, h, hv, e => by simp [putCells] at e
 | a :: l, 0, v :: vs, l', L, Vs, ⟨u, us, e1, h1, h2⟩, ⟨w, ws, e2, h3, h4⟩, e => by
  simp only [putCells] at e
  cases e3 : putCells l 0 vs with
  | none => rw [e3] at e; cases e
  | some r =>
   rw [e3] at e; cases e
   obtain ⟨h5, h6⟩ := putCells_spec l 0 vs r h2 h4 e3
   subst e1; subst e2
   simp only [Nat.zero_add, List.take_zero, List.nil_append, List.length_cons] at h5 h6 ⊢
   exact ⟨⟨w, _, rfl, h3, by simpa using h5⟩, by omega⟩
 | [], n + 1, vs, l', L, Vs, h, hv, e => by cases vs <;> simp [putCells] at e
 | a :: l, n + 1, vs, l', L, Vs, ⟨u, us, e1, h1, h2⟩, hv, e => by
  simp only [putCells] at e
  cases e3 : putCells l n vs with
  | none => rw [e3] at e; cases vs <;> simp at e
  | some r =>
   rw [e3] at e
   obtain ⟨h5, h6⟩ := putCells_spec l n vs r h2 hv e3
   have e' : l' = a :: r := by cases vs <;> simpa using e.symm
   subst e'; subst e1
   refine ⟨⟨u, _, by simp [Nat.add_right_comm], h1, h5⟩, by simp; omega⟩
theorem HRel.row {σ : Sg} {h : Hp} {W : World} (r : HRel σ h W) {i B N : Nat} {b : ABlk} (hg : h.get i = some b) (hl : b.body.isDead = false) (hnl : ∀ c, b.body ≠ .loop c) (hσ : σ i = some (B, N)) {K K' : Array Value} {e : TypeId}
  (hB : W.heap[B]? = some (.cells K e (0, 0))) (d : ABody) (hb : BRel σ N d (.cells K' e (0, 0))) (hnv : b.body.isView = false := by rfl) : HRel σ (h.put i d) (W.setRow B K') ∧ Good σ h W σ (h.put i d) (W.setRow B K') :=
 r.write hg hl hσ d (loopKept_of hnl) _ (setRow_heap W B K K' e (0, 0) hB) hb (setRow_size W B K') (fun k hk => setRow_other W B k K' hk) rfl rfl rfl (hnv := hnv)
theorem store_ok {P : Program} {σ : Sg} {h : Hp} {W : World} (r : HRel σ h W) {t : TypeId} {a v : AV} {A V : Value} (ha : VRel σ a A) (hv : VRel σ v V) {q : S1} (e : opStore P h t a v = some q) :
  OpOk P (do Instr.storeAt t A V; pure .skip) σ h W q := by
 intro hn
 unfold opStore storeV at e
 split at e
 ·rename_i i off
  obtain ⟨B, N, hσ, rfl⟩ := ha
  split at e
  ·rename_i w l hg
   split at e
   ·cases e
   ·rename_i n hsz
    simp only at e
    split at e
    ·rename_i hc
     simp only [Bool.and_eq_true, decide_eq_true_eq] at hc
     split at e
     ·cases e
     ·rename_i l' hp
      rw [Hp.set_eq] at e
      cases e
      obtain ⟨B', N', o, h1, h2, K, el, rfl, h3, h4⟩ := r.blk i _ hg rfl
      rw [hσ] at h1; cases h1
      have hcs := cells_rel hv hc.2
      obtain ⟨h5, h6⟩ := putCells_spec l off _ l' h3 hcs hp
      have hlen : V.cells.size = n := by have := VRels.length hcs; simp at this; omega
      have hst := run_storeCells_at P B off el V.cells.toList 0 K W h2 (by simpa using h6) (allCell_one hcs hc.2)
      simp only [Nat.add_zero] at hst
      obtain ⟨h7, h8⟩ := r.row hg rfl (fun _ h => by cases h) hσ (K' := (K.toList.take off ++ V.cells.toList ++ K.toList.drop (off + V.cells.toList.length)).toArray) h2 (.cells l') ⟨_, el, rfl, by simpa using h5, by
       subst h4; simp at h6 ⊢; omega⟩
      refine ⟨σ, undef, _, _, ?_, .inr ⟨rfl, rfl⟩, ⟨#[], rfl, rfl⟩, h7, h8⟩
      simp [Instr.storeAt, Instr.sureAddr, storeVar, run_sizeT hsz, hlen, hst]
    ·cases e
  ·rename_i w l hg
   split at e
   ·cases e
   ·rename_i n hsz
    simp only at e
    split at e
    ·rename_i hc
     simp only [Bool.and_eq_true, decide_eq_true_eq] at hc
     split at e
     ·cases e
     ·rename_i l' hp
      rw [Hp.set_eq] at e
      cases e
      obtain ⟨B', N', o, h1, h2, K, el, X, Y, rfl, hXY, h3, h4⟩ := r.blk i _ hg rfl
      rw [hσ] at h1; cases h1
      have hcs := cells_rel hv hc.2
      obtain ⟨h5, h6⟩ := putCells_spec l off _ l' h3 hcs hp
      have hlen : V.cells.size = n := by have := VRels.length hcs; simp at this; omega
      have hXK : X.length ≤ K.size := by have := congrArg List.length hXY; simp at this; omega
      have hst := run_storeCells_at P B off el V.cells.toList 0 K W h2 (by simp at h6 ⊢; omega) (allCell_one hcs hc.2)
      simp only [Nat.add_zero] at hst
      obtain ⟨h7, h8⟩ := r.row hg rfl (fun _ h => by cases h) hσ (K' := (K.toList.take off ++ V.cells.toList ++ K.toList.drop (off + V.cells.toList.length)).toArray) h2 (.grown l') ⟨_, el, X.take off ++ V.cells.toList ++ X.drop (off + V.cells.toList.length), Y, rfl, by
       simp only [hXY]
       rw [List.take_append_of_le_length (by omega), List.drop_append_of_le_length (by omega)]
       simp, h5, by
       subst h4; simp at h6 ⊢; omega⟩
      refine ⟨σ, undef, _, _, ?_, .inr ⟨rfl, rfl⟩, ⟨#[], rfl, rfl⟩, h7, h8⟩
      simp [Instr.storeAt, Instr.sureAddr, storeVar, run_sizeT hsz, hlen, hst]
    ·cases e
  ·rename_i w k xs hg
   split at e
   ·rename_i s k' x
    obtain rfl := hv
    split at e
    ·rename_i hsz
     split at e
     ·rename_i hk; subst hk
      rw [Hp.set_eq] at e
      cases e
      obtain ⟨B', N', o, h1, h2, K, el, Y, rfl, h3, h4⟩ := r.blk i _ hg rfl
      rw [hσ] at h1; cases h1
      have hn' : off < xs.length := hn
      have hXK : xs.length ≤ K.size := by have := congrArg List.length h3; simp at this; omega
      have hst := run_storeCells_at P B off el [.int k x] 0 K W h2 (by simp; omega) (by simp [Value.oneCell'])
      simp only [Nat.add_zero] at hst
      obtain ⟨h7, h8⟩ := r.row hg rfl (fun _ h => by cases h) hσ (K' := (K.toList.take off ++ [Value.int k x] ++ K.toList.drop (off + 1)).toArray) h2 (.ints k (xs.set off x)) ⟨_, el, Y, rfl, by
       simp only [h3]
       rw [List.take_append_of_le_length (by simp; omega), List.drop_append_of_le_length (by simp; omega)]
       simp only [List.map_set, ← List.append_assoc]
       rw [List.set_eq_take_append_cons_drop, if_pos (by simpa using hn')]
       simp, by subst h4; simp; omega⟩
      refine ⟨σ, undef, _, _, ?_, .inr ⟨rfl, rfl⟩, ⟨#[], rfl, rfl⟩, h7, h8⟩
      have hst' : (storeCells ⟨B, off, none⟩ (Value.int k x).cells.toList).run P W = .ok () (W.setRow B (K.toList.take off ++ [Value.int k x] ++ K.toList.drop (off + 1)).toArray) := hst
      simp [Instr.storeAt, Instr.sureAddr, storeVar, run_sizeT hsz, Value.cells] at hst' ⊢
      simp [hst']
     ·cases e
    ·cases e
   ·cases e
  ·cases e
 ·cases e
theorem fold_set (off : Nat) : ∀ (vs : List Value) (j : Nat) (cs : Array Value), off + j + vs.length ≤ cs.size →
  (vs.zipIdx j).foldl (fun (cs : Array Value) (x : Value × Nat) => cs.setIfInBounds (off + x.2) x.1) cs = (cs.toList.take (off + j) ++ vs ++ cs.toList.drop (off + j + vs.length)).toArray
 | [], j, cs, _ => by simp
 | v :: vs, j, cs, h => by
  simp only [List.zipIdx_cons, List.foldl_cons]
  rw [fold_set off vs (j + 1) (cs.setIfInBounds (off + j) v) (by simp at h ⊢; omega)]
  have e := list_seg_step cs.toList (off + j) v vs (by simp at h ⊢; omega)
  congr 1
  simpa [Array.toList_setIfInBounds, Nat.add_assoc] using e
theorem fill_ok {σ : Sg} (place : Nat → Option (Nat × Nat)) : ∀ (parts : List (Nat × AV)) (Ps : List (Nat × Value)) (l l' : List AV) (L : Array Value),
  Ps.map (·.1) = parts.map (·.1) → VRels σ (parts.map (·.2)) (Ps.map (·.2)) → VRels σ l L.toList → fillParts place l parts = some l' → ∃ L', Instr.fill place L Ps = some L' ∧ VRels σ l' L'.toList
 | [], Ps, l, l', L, hi, hv, hl, e => by
  have : Ps = [] := by simpa using hi
  subst this; cases e
  exact ⟨L, rfl, hl⟩
 | (i, v) :: parts, Ps, l, l', L, hi, hv, hl, e => by
  cases Ps with
  | nil => simp at hi
  | cons p Ps =>
   obtain ⟨i', V⟩ := p
   simp only [List.map_cons, List.cons.injEq] at hi
   obtain ⟨rfl, hi⟩ := hi
   obtain ⟨u, us, e1, h1, h2⟩ := hv
   simp only [List.map_cons, List.cons.injEq] at e1
   obtain ⟨rfl, rfl⟩ := e1
   simp only [fillParts] at e
   split at e
   ·cases e
   ·rename_i off n hp
    split at e
    ·rename_i hc
     simp only [Bool.and_eq_true, decide_eq_true_eq] at hc
     split at e
     ·cases e
     ·rename_i l2 hput
      have hcs := cells_rel h1 hc.2
      obtain ⟨h5, h6⟩ := putCells_spec l off _ l2 hl hcs hput
      have hlen : V.cells.size = n := by have := VRels.length hcs; simp at this; omega
      obtain ⟨L', h7, h8⟩ := fill_ok place parts Ps l2 l' (L.toList.take off ++ V.cells.toList ++ L.toList.drop (off + V.cells.toList.length)).toArray hi h2 (by simpa using h5) e
      refine ⟨L', ?_, h8⟩
      simp only [Instr.fill, hp]
      rw [if_neg (by simp at h6 ⊢; omega)]
      rw [← h7]
      congr 1
      have := fold_set off V.cells.toList 0 L (by simpa using h6)
      simp only [Nat.add_zero] at this
      rw [← this, ← Array.foldl_toList, Array.toList_zipIdx]
    ·cases e
theorem evalParts_rel {C : Ctx} {σ : Sg} {s : St} {T : Array Value} (g : GRel C σ) (h : TRel σ s.tmps T) : ∀ l : List (Nat × Operand),
  (l.map fun (i, x) => (i, ev T x)).map (·.1) = (evalParts C s l).map (·.1) ∧ VRels σ ((evalParts C s l).map (·.2)) ((l.map fun (i, x) => (i, ev T x)).map (·.2))
 | [] => ⟨rfl, rfl⟩
 | (i, x) :: l => ⟨by simp [evalParts, (evalParts_rel g h l).1], ⟨_, _, rfl, evalA_rel g h x, by simpa using (evalParts_rel g h l).2⟩⟩
theorem placesT_spec {P : Program} : ∀ {fs : List Field} {ps : List (Nat × Nat)}, placesT P fs = some ps → fs.mapM (fun f => (P.info? f.type).map fun i => (f.offset, i.size)) = some ps
 | [], ps, h => by cases h; rfl
 | f :: fs, ps, h => by
  simp only [placesT] at h
  split at h
  ·cases h
  ·rename_i n hn
   split at h
   ·cases h
   ·rename_i r hr
    cases h
    obtain ⟨i, hi, rfl⟩ := sizeT_spec hn
    simp [List.mapM_cons, hi, placesT_spec hr]
theorem build_ok {P : Program} {σ : Sg} {t : TypeId} {parts : List (Nat × AV)} {Ps : Array (Nat × Value)} (hi : Ps.toList.map (·.1) = parts.map (·.1)) (hv : VRels σ (parts.map (·.2)) (Ps.toList.map (·.2)))
  {v : AV} (e : buildV P t parts = some v) (W : World) : ∃ V, (Instr.build t Ps).run P W = .ok V W ∧ VRel σ v V := by
 unfold buildV at e
 split at e
 ·cases e
 ·rename_i z hz
  obtain ⟨i, zv, hi', hz', h1, _⟩ := zeroCells_spec (σ := σ) hz
  split at e
  ·rename_i fs hu
   split at e
   ·cases e
   ·rename_i ps hps
    split at e
    ·cases e
    ·rename_i l hl
     cases e
     obtain ⟨L', h2, h3⟩ := fill_ok (nth ps) parts Ps.toList z l zv.cells hi hv h1 hl
     refine ⟨.agg L', ?_, L', rfl, h3⟩
     apply run_build
     unfold Program.built
     rw [hi', hu]
     simp only [hz', placesT_spec hps]
     rw [← h2]
     congr 1
     funext j
     simp [nth_eq]
  ·rename_i n el hu
   split at e
   ·cases e
   ·rename_i m hm
    split at e
    ·cases e
    ·rename_i l hl
     cases e
     obtain ⟨L', h2, h3⟩ := fill_ok _ parts Ps.toList z l zv.cells hi hv h1 hl
     obtain ⟨ie, hie, rfl⟩ := sizeT_spec hm
     refine ⟨.agg L', ?_, L', rfl, h3⟩
     apply run_build
     unfold Program.built
     rw [hi', hu]
     simp only [hz', hie]
     exact h2
  ·cases e
theorem repA_get {α : Type} (l : List α) : ∀ (k i : Nat), (repA l k)[i]? = if i < k * l.length then l[i % l.length]? else none
 | 0, i => by simp [repA]
 | k + 1, i => by
  simp only [repA]
  by_cases h : i < l.length
  ·rw [List.getElem?_append_left h, if_pos (by rw [Nat.add_mul]; omega), Nat.mod_eq_of_lt h]
  ·rw [List.getElem?_append_right (by omega), repA_get l k]
   by_cases hl : l.length = 0
   ·simp [hl]
   ·have : (i - l.length) % l.length = i % l.length := by
     conv => rhs; rw [show i = (i - l.length) + l.length by omega]
     simp
    rw [this]
    by_cases h2 : i - l.length < k * l.length
    ·rw [if_pos h2, if_pos (by rw [Nat.add_mul]; omega)]
    ·rw [if_neg h2, if_neg (by rw [Nat.add_mul]; omega)]
theorem range_zero (z : Array Value) (k : Nat) : ((Array.range (k * z.size)).map (fun i => z[i % z.size]!)).toList = repA z.toList k := by
 apply List.ext_getElem?
 intro i
 rw [repA_get]
 simp only [Array.toList_map, Array.toList_range, List.getElem?_map, Array.length_toList]
 by_cases h : i < k * z.size
 ·rw [List.getElem?_range h, if_pos h]
  have hz : 0 < z.size := by
   rcases Nat.eq_zero_or_pos z.size with h0 | h0
   ·rw [h0] at h; simp at h
   ·exact h0
  have hm : i % z.size < z.size := Nat.mod_lt _ hz
  simp [hm]
 ·rw [if_neg h]
  simp
  omega
theorem VRels.rep {σ : Sg} {l : List AV} {L : List Value} (h : VRels σ l L) : ∀ k, VRels σ (repA l k) (repA L k)
 | 0 => rfl
 | k + 1 => VRels.append h (VRels.rep h k)
theorem buildSlice_ok {P : Program} {σ : Sg} {h : Hp} {W : World} (r : HRel σ h W) {t : TypeId} {len : Nat} {parts : List (Nat × AV)} {Ps : Array (Nat × Value)} (hi : Ps.toList.map (·.1) = parts.map (·.1))
  (hv : VRels σ (parts.map (·.2)) (Ps.toList.map (·.2))) {q : S1} (e : opBuildSlice P h t len parts = some q) : OpOk P (do pure (.value (← Instr.buildSlice t len Ps))) σ h W q := by
 unfold opBuildSlice at e
 split at e
 ·rename_i el hu
  split at e
  ·cases e
  ·rename_i n hn
   split at e
   ·cases e
   ·rename_i z hz
    split at e
    ·cases e
    ·rename_i hc
     simp only [Bool.and_eq_true, Nat.ble_eq, Nat.beq_eq] at hc
     split at e
     ·cases e
     ·rename_i l hl
      cases e
      obtain ⟨i, zv, hi', hz', h1, _⟩ := zeroCells_spec (σ := σ) hz
      have hzs : zv.cells.size = n := by have := VRels.length h1; simp at this; omega
      obtain ⟨L', h2, h3⟩ := fill_ok _ parts Ps.toList (repA z len) l ((Array.range (len * zv.cells.size)).map (fun i => zv.cells[i % zv.cells.size]!)) hi hv (by rw [range_zero]; exact VRels.rep h1 len) hl
      refine alloc_ok r el h3 _ _ (.slice (some ⟨W.heap.size, 0, none⟩) len len) ?_ ⟨W.heap.size, L'.size, add_here, rfl⟩
      have hb : ¬ (16777216 < len * n) := by omega
      by_cases h0 : len * n = 0
      ·have h2' : Instr.fill (fun i => some (i * n, n)) #[] Ps.toList = some L' := by
        rw [← h2, hzs, h0, Array.range_zero']; simp
       simp [Instr.buildSlice, run_underlying hu, run_sizeT hn, h0, Array.range_zero', h2', newRow]
      ·have h2' : Instr.fill (fun i => some (i * n, n)) ((Array.range (len * n)).map (fun i => zv.cells[i % zv.cells.size]!)) Ps.toList = some L' := by
        rw [← h2, hzs]
       simp [Instr.buildSlice, run_underlying hu, run_sizeT hn, hb, h0, run_zero hi' hz', h2', newRow]
 ·cases e
end Go.Eng
namespace Go.Eng
theorem eqCells_append : ∀ (k1 k2 : List LK) (l m : List AV) (s p : Bool), eqCells (k1 ++ k2) l m = some (s, p) →
  ∃ l1 l2 m1 m2 s1 p1 s2 p2, l = l1 ++ l2 ∧ m = m1 ++ m2 ∧ l1.length = k1.length ∧ m1.length = k1.length ∧ eqCells k1 l1 m1 = some (s1, p1) ∧ eqCells k2 l2 m2 = some (s2, p2) ∧ p = (p1 && p2)
 | [], k2, l, m, s, p, h => ⟨[], l, [], m, false, true, s, p, rfl, rfl, rfl, rfl, rfl, h, by simp⟩
 | k :: k1, k2, l, m, s, p, h => by
  cases l with
  | nil => simp [eqCells] at h
  | cons a l =>
   cases m with
   | nil => simp [eqCells] at h
   | cons b m =>
    simp only [List.cons_append, eqCells] at h
    split at h
    ·cases h
    ·rename_i sa pa ha
     split at h
     ·cases h
     ·rename_i sb pb hb
      cases h
      obtain ⟨l1, l2, m1, m2, s1, p1, s2, p2, rfl, rfl, h1, h2, h3, h4, rfl⟩ := eqCells_append k1 k2 l m sb pb hb
      exact ⟨a :: l1, l2, b :: m1, m2, sa || s1, pa && p1, s2, p2, rfl, rfl, by simp [h1], by simp [h2], by simp [eqCells, ha, h3], h4, by simp [Bool.and_assoc]⟩
theorem eqCells_len : ∀ (ks : List LK) (l m : List AV) (s p : Bool), eqCells ks l m = some (s, p) → l.length = ks.length ∧ m.length = ks.length
 | [], [], [], _, _, _ => ⟨rfl, rfl⟩
 | k :: ks, a :: l, b :: m, s, p, h => by
  simp only [eqCells] at h
  split at h
  ·cases h
  ·split at h
   ·cases h
   ·rename_i sb pb hb
    have := eqCells_len ks l m sb pb hb
    simp [this.1, this.2]
 | [], [], _ :: _, _, _, h => by simp [eqCells] at h
 | [], _ :: _, _, _, _, h => by simp [eqCells] at h
 | _ :: _, [], _, _, _, h => by simp [eqCells] at h
 | _ :: _, _ :: _, [], _, _, h => by simp [eqCells] at h
def IsV (P : Program) (t : TypeId) (L : List Value) (X : Value) : Prop := (isAggT P t = some true ∧ X = .agg L.toArray) ∨ (isAggT P t = some false ∧ L = [X])
theorem sized_some {P : Program} {t : TypeId} {l ks : List LK} (h : sized P t l = some ks) : ks = l ∧ sizeT P t = some ks.length := by
 unfold sized at h
 split at h
 ·cases h
 ·rename_i n hn
  split at h
  ·rename_i hb; cases h
   exact ⟨rfl, by rw [hn, Nat.eq_of_beq_eq_true hb]⟩
  ·cases h
theorem flatT_size {P : Program} {d : Nat} {t : TypeId} {ks : List LK} (h : flatT P d t = some ks) : sizeT P t = some ks.length ∧ (isAggT P t = some true ∨ (isAggT P t = some false ∧ ks.length = 1)) := by
 cases d with
 | zero => cases h
 | succ d =>
  simp only [flatT] at h
  split at h
  ·rename_i hu
   obtain ⟨rfl, hs⟩ := sized_some h
   exact ⟨hs, .inr ⟨by unfold isAggT; rw [hu], rfl⟩⟩
  ·rename_i k hu
   obtain ⟨rfl, hs⟩ := sized_some h
   exact ⟨hs, .inr ⟨by unfold isAggT; rw [hu], rfl⟩⟩
  ·rename_i hu
   obtain ⟨rfl, hs⟩ := sized_some h
   exact ⟨hs, .inr ⟨by unfold isAggT; rw [hu], rfl⟩⟩
  ·rename_i fs hu
   split at h
   ·cases h
   ·split at h
    ·cases h
    ·obtain ⟨rfl, hs⟩ := sized_some h
     exact ⟨hs, .inl (by unfold isAggT; rw [hu])⟩
  ·rename_i n e hu
   split at h
   ·cases h
   ·obtain ⟨rfl, hs⟩ := sized_some h
    exact ⟨hs, .inl (by unfold isAggT; rw [hu])⟩
  ·cases h
theorem part_isV {P : Program} {d : Nat} {t : TypeId} {ks : List LK} (h : flatT P d t = some ks) (L : List Value) (off : Nat) (hl : off + ks.length ≤ L.length) (W : World) :
  ∃ X, (part t L.toArray off).run P W = .ok X W ∧ IsV P t ((L.drop off).take ks.length) X := by
 obtain ⟨hs, hk⟩ := flatT_size h
 rcases hk with ha | ⟨ha, h1⟩
 ·refine ⟨.agg (L.toArray.extract off (off + ks.length)), by simp [part, run_isAggT ha, run_sizeT hs], .inl ⟨ha, ?_⟩⟩
  congr 1
  apply Array.toList_inj.1
  simp [List.extract]
 ·have hlt : off < L.length := by omega
  refine ⟨L[off], by simp [part, run_isAggT ha, hlt], .inr ⟨ha, ?_⟩⟩
  rw [h1, List.drop_eq_getElem_cons hlt, List.take_succ_cons, List.take_zero]
theorem VRels.split {σ : Sg} : ∀ (l m : List AV) {L : List Value}, VRels σ (l ++ m) L → VRels σ l (L.take l.length) ∧ VRels σ m (L.drop l.length)
 | [], m, L, h => ⟨rfl, h⟩
 | a :: l, m, _, ⟨v, vs, e, r, s⟩ => by
  obtain ⟨h1, h2⟩ := VRels.split l m s
  subst e
  exact ⟨⟨v, _, rfl, r, h1⟩, h2⟩
theorem flat_ok {P : Program} {σ : Sg} : ∀ (d : Nat) (t : TypeId) (ks : List LK), flatT P d t = some ks → ∀ (D : Nat), d ≤ D → ∀ (l m : List AV) (L M : List Value) (X Y : Value) (s p : Bool),
  eqCells ks l m = some (s, p) → VRels σ l L → VRels σ m M → IsV P t L X → IsV P t M Y → ∀ W, (Op.equalIn D t X Y).run P W = .ok p W
 | 0, _, _, h, _, _, _, _, _, _, _, _, _, _, _, _, _, _, _, _ => by cases h
 | d + 1, t, ks, h, D, hD, l, m, L, M, X, Y, s, p, he, hl, hm, hX, hY, W => by
  obtain ⟨D, rfl⟩ : ∃ E, D = E + 1 := ⟨D - 1, by omega⟩
  have hsz := flatT_size h
  simp only [flatT] at h
  have leaf : ∀ k : LK, ks = [k] → isAggT P t = some false → ∃ a b, l = [a] ∧ m = [b] ∧ VRel σ a X ∧ VRel σ b Y ∧ fitK k a b = some (s, p) := by
   intro k hk ha
   subst hk
   have hlen := eqCells_len _ _ _ _ _ he
   obtain ⟨a, rfl⟩ : ∃ a, l = [a] := List.length_eq_one_iff.1 hlen.1
   obtain ⟨b, rfl⟩ : ∃ b, m = [b] := List.length_eq_one_iff.1 hlen.2
   refine ⟨a, b, rfl, rfl, ?_, ?_, ?_⟩
   ·rcases hX with ⟨h1, _⟩ | ⟨_, rfl⟩
    ·rw [ha] at h1; cases h1
    ·obtain ⟨v, vs, e1, r1, _⟩ := hl; cases e1; exact r1
   ·rcases hY with ⟨h1, _⟩ | ⟨_, rfl⟩
    ·rw [ha] at h1; cases h1
    ·obtain ⟨v, vs, e1, r1, _⟩ := hm; cases e1; exact r1
   ·simp only [eqCells] at he
    split at he
    ·cases he
    ·rename_i s1 p1 h1
     simp at he
     rw [h1, he.1, he.2]
  split at h
  ·rename_i hu
   obtain ⟨rfl, _⟩ := sized_some h
   obtain ⟨a, b, rfl, rfl, ra, rb, hf⟩ := leaf _ rfl (by unfold isAggT; rw [hu])
   simp only [fitK] at hf
   split at hf
   ·cases hf
    obtain rfl := ra; obtain rfl := rb
    exact run_equalIn_bool W D t _ _ hu
   ·cases hf
  ·rename_i k hu
   obtain ⟨rfl, _⟩ := sized_some h
   obtain ⟨a, b, rfl, rfl, ra, rb, hf⟩ := leaf _ rfl (by unfold isAggT; rw [hu])
   simp only [fitK] at hf
   split at hf
   ·split at hf
    ·rename_i hk
     obtain ⟨rfl, rfl⟩ := hk
     cases hf
     obtain rfl := ra; obtain rfl := rb
     exact run_equalIn_int W D t _ _ _ _ hu
    ·cases hf
   ·cases hf
  ·rename_i hu
   obtain ⟨rfl, _⟩ := sized_some h
   obtain ⟨a, b, rfl, rfl, ra, rb, hf⟩ := leaf _ rfl (by unfold isAggT; rw [hu])
   simp only [fitK] at hf
   split at hf
   ·cases hf
    obtain rfl := ra; obtain rfl := rb
    rw [run_equalIn_string W D t _ _ hu, eqBytes_eq, beq_toListBytes]
   ·cases hf
  ·rename_i fs hu
   split at h
   ·cases h
   ·rename_i hst
    split at h
    ·cases h
    ·rename_i l' hfs
     obtain ⟨rfl, _⟩ := sized_some h
     have hagg : isAggT P t = some true := by unfold isAggT; rw [hu]
     obtain rfl : X = .agg L.toArray := by
      rcases hX with ⟨_, e⟩ | ⟨e, _⟩
      ·exact e
      ·rw [hagg] at e; cases e
     obtain rfl : Y = .agg M.toArray := by
      rcases hY with ⟨_, e⟩ | ⟨e, _⟩
      ·exact e
      ·rw [hagg] at e; cases e
     have hF : P.fieldsOf t = fs := by unfold Program.fieldsOf; rw [hu]
     rw [run_equalIn_struct W D t _ _ (by rw [hF]; exact hu) hst, hF]
     have key : ∀ (gs : List Field) (off : Nat) (ks : List LK), flatFs (flatT P d) off gs = some ks → ∀ (l m : List AV) (s p : Bool), eqCells ks l m = some (s, p) → VRels σ l (L.drop off) → VRels σ m (M.drop off) →
       (Op.eqFields D L.toArray M.toArray gs).run P W = .ok p W := by
      intro gs
      induction gs with
      | nil =>
       intro off ks hk l m s p he _ _
       cases hk
       cases l <;> cases m <;> simp [eqCells] at he
       simp [Op.eqFields, he]
      | cons f gs ih =>
       intro off ks hk l m s p he hl hm
       simp only [flatFs] at hk
       split at hk
       ·cases hk
       ·rename_i hname
        split at hk
        ·cases hk
        ·rename_i hoff
         split at hk
         ·cases hk
         ·rename_i k1 hk1
          split at hk
          ·cases hk
          ·rename_i k2 hk2
           cases hk
           obtain rfl := Nat.eq_of_beq_eq_true hoff
           obtain ⟨l1, l2, m1, m2, s1, p1, s2, p2, rfl, rfl, n1, n2, e1, e2, rfl⟩ := eqCells_append k1 k2 l m s p he
           obtain ⟨a1, a2⟩ := VRels.split l1 l2 hl
           obtain ⟨b1, b2⟩ := VRels.split m1 m2 hm
           have lenL := VRels.length a1
           have lenM := VRels.length b1
           simp only [List.length_take, List.length_drop] at lenL lenM
           by_cases hz : k1.length = 0
           ·-- a field without cells
            obtain rfl : k1 = [] := List.length_eq_zero_iff.1 hz
            obtain rfl : l1 = [] := List.length_eq_zero_iff.1 n1
            obtain rfl : m1 = [] := List.length_eq_zero_iff.1 n2
            simp [eqCells] at e1
            obtain ⟨rfl, rfl⟩ := e1
            have hag : isAggT P f.type = some true := by
             rcases (flatT_size hk1).2 with h1 | ⟨_, h1⟩
             ·exact h1
             ·simp at h1
            have hs0 := (flatT_size hk1).1
            have hp1 : (part f.type L.toArray f.offset).run P W = .ok (.agg #[]) W := by
             simp [part, run_isAggT hag, run_sizeT hs0]
            have hp2 : (part f.type M.toArray f.offset).run P W = .ok (.agg #[]) W := by
             simp [part, run_isAggT hag, run_sizeT hs0]
            have hq := flat_ok (σ := σ) d f.type [] hk1 D (by omega) [] [] [] [] (.agg #[]) (.agg #[]) false true rfl rfl rfl (.inl ⟨hag, rfl⟩) (.inl ⟨hag, rfl⟩) W
            have hr := ih f.offset k2 (by simpa using hk2) l2 m2 s2 p2 e2 (by simpa using a2) (by simpa using b2)
            have hne : f.name ≠ "_" := by simpa using hname
            simp [Op.eqFields, hne, hp1, hp2, hq, hr]
           ·obtain ⟨X1, x1, x2⟩ := part_isV hk1 L f.offset (by omega) W
            obtain ⟨Y1, y1, y2⟩ := part_isV hk1 M f.offset (by omega) W
            have hq := flat_ok (σ := σ) d f.type k1 hk1 D (by omega) l1 m1 _ _ X1 Y1 s1 p1 e1 (by rw [← n1]; exact a1) (by rw [← n2]; exact b1) x2 y2 W
            have hr := ih (f.offset + k1.length) k2 hk2 l2 m2 s2 p2 e2 (by rw [← n1, ← List.drop_drop]; exact a2) (by rw [← n2, ← List.drop_drop]; exact b2)
            have hne : f.name ≠ "_" := by simpa using hname
            cases p1 <;> simp [Op.eqFields, hne, x1, y1, hq, hr]
     exact key fs.toList 0 _ hfs l m s p he (by simpa using hl) (by simpa using hm)
  ·rename_i n e hu
   split at h
   ·cases h
   ·rename_i k1 hk1
    obtain ⟨rfl, _⟩ := sized_some h
    have hagg : isAggT P t = some true := by unfold isAggT; rw [hu]
    obtain rfl : X = .agg L.toArray := by
     rcases hX with ⟨_, e⟩ | ⟨e, _⟩
     ·exact e
     ·rw [hagg] at e; cases e
    obtain rfl : Y = .agg M.toArray := by
     rcases hY with ⟨_, e⟩ | ⟨e, _⟩
     ·exact e
     ·rw [hagg] at e; cases e
    obtain ⟨i, hi, hsi⟩ := sizeT_spec (flatT_size hk1).1
    have hc : P.cellsOf e = k1.length := by simp [Program.cellsOf, hi, hsi]
    rw [run_equalIn_array W D _ _ hu hi, hc]
    have key : ∀ (k j : Nat) (l m : List AV) (s p : Bool), eqCells (repA k1 k) l m = some (s, p) → VRels σ l (L.drop (j * k1.length)) → VRels σ m (M.drop (j * k1.length)) →
      (Op.eqItems D e k1.length L.toArray M.toArray (List.range' j k)).run P W = .ok p W := by
     intro k
     induction k with
     | zero =>
      intro j l m s p he _ _
      cases l <;> cases m <;> simp [eqCells, repA] at he
      simp [Op.eqItems, he]
     | succ k ih =>
      intro j l m s p he hl hm
      simp only [repA] at he
      obtain ⟨l1, l2, m1, m2, s1, p1, s2, p2, rfl, rfl, n1, n2, e1, e2, rfl⟩ := eqCells_append k1 _ l m s p he
      obtain ⟨a1, a2⟩ := VRels.split l1 l2 hl
      obtain ⟨b1, b2⟩ := VRels.split m1 m2 hm
      have lenL := VRels.length a1
      have lenM := VRels.length b1
      simp only [List.length_take, List.length_drop] at lenL lenM
      have hr := ih (j + 1) l2 m2 s2 p2 e2 (by rw [Nat.add_mul, Nat.one_mul, ← n1, ← List.drop_drop, n1]; rw [n1] at a2; exact a2) (by rw [Nat.add_mul, Nat.one_mul, ← n2, ← List.drop_drop, n2]; rw [n2] at b2; exact b2)
      by_cases hz : k1.length = 0
      ·obtain rfl : k1 = [] := List.length_eq_zero_iff.1 hz
       obtain rfl : l1 = [] := List.length_eq_zero_iff.1 n1
       obtain rfl : m1 = [] := List.length_eq_zero_iff.1 n2
       simp [eqCells] at e1
       obtain ⟨rfl, rfl⟩ := e1
       have hag : isAggT P e = some true := by
        rcases (flatT_size hk1).2 with h1 | ⟨_, h1⟩
        ·exact h1
        ·simp at h1
       have hs0 := (flatT_size hk1).1
       have hp1 : (part e L.toArray (j * 0)).run P W = .ok (.agg #[]) W := by
        simp [part, run_isAggT hag, run_sizeT hs0]
       have hp2 : (part e M.toArray (j * 0)).run P W = .ok (.agg #[]) W := by
        simp [part, run_isAggT hag, run_sizeT hs0]
       have hq := flat_ok (σ := σ) d e [] hk1 D (by omega) [] [] [] [] (.agg #[]) (.agg #[]) false true rfl rfl rfl (.inl ⟨hag, rfl⟩) (.inl ⟨hag, rfl⟩) W
       simp only [List.range'_succ, Op.eqItems, List.length_nil, Sem.run_bind, hp1, hp2, hq, Result.andThen_ok]
       simpa using hr
      ·obtain ⟨X1, x1, x2⟩ := part_isV hk1 L (j * k1.length) (by omega) W
       obtain ⟨Y1, y1, y2⟩ := part_isV hk1 M (j * k1.length) (by omega) W
       have hq := flat_ok (σ := σ) d e k1 hk1 D (by omega) l1 m1 _ _ X1 Y1 s1 p1 e1 (by rw [n1] at a1; exact a1) (by rw [n2] at b1; exact b1) x2 y2 W
       simp only [List.range'_succ, Op.eqItems, Sem.run_bind, x1, y1, hq, Result.andThen_ok]
       cases p1
       ·simp
       ·simpa using hr
    rw [List.range_eq_range']
    exact key n 0 l m s p he (by simpa using hl) (by simpa using hm)
  ·cases h
theorem eq_by {P : Program} {t : TypeId} {A B : Value} {p : Bool} {W : World} (hE : ∀ d, (Op.equalIn (d + 1) t A B).run P W = .ok p W) (h1 : binOp .eql t A B = (do pure (.bool (← Op.equal t A B)))) (h2 : binOp .neq t A B = (do pure (.bool (!(← Op.equal t A B))))) :
  (binOp .eql t A B).run P W = .ok (.bool p) W ∧ (binOp .neq t A B).run P W = .ok (.bool !p) W := by
 have h3 : (Op.equal t A B).run P W = .ok p W := hE 9999
 rw [h1, h2]
 simp [h3]
def EqOk (P : Program) (t : TypeId) (A B : Value) (p : Bool) (x y : Operand) (W : World) : Prop :=
 (eqGuard .eql t x y A B).run P W = .ok () W ∧ (eqGuard .neq t x y A B).run P W = .ok () W ∧ (binOp .eql t A B).run P W = .ok (.bool p) W ∧ (binOp .neq t A B).run P W = .ok (.bool !p) W
theorem eqPtr_ok {P : Program} {σ : Sg} {t el : TypeId} (hu : P.underlying t = some (.pointer el)) {a b : AV} {A B : Value} (ha : VRel σ a A) (hb : VRel σ b B) {s p : Bool} (e : eqPtr a b = some (s, p)) (x y : Operand) (W : World) : EqOk P t A B p x y W := by
 unfold eqPtr at e
 split at e <;> cases e
 ·obtain rfl := ha; obtain rfl := hb
  exact ⟨rfl, rfl, eq_by (fun d => by simp [Op.equalIn, run_underlying hu]) rfl rfl⟩
 ·obtain rfl := ha; obtain ⟨_, _, _, rfl⟩ := hb
  exact ⟨rfl, rfl, eq_by (fun d => by simp [Op.equalIn, run_underlying hu]) rfl rfl⟩
 ·obtain ⟨_, _, _, rfl⟩ := ha; obtain rfl := hb
  exact ⟨rfl, rfl, eq_by (fun d => by simp [Op.equalIn, run_underlying hu]) rfl rfl⟩
theorem eqSlice_ok {P : Program} {σ : Sg} {t el : TypeId} (hu : P.underlying t = some (.slice el)) {a b : AV} {A B : Value} (ha : VRel σ a A) (hb : VRel σ b B) {s p : Bool} (e : eqSlice a b = some (s, p)) (x y : Operand) (W : World) : EqOk P t A B p x y W := by
 unfold eqSlice at e
 split at e <;> cases e
 ·obtain rfl := ha; obtain rfl := hb
  exact ⟨rfl, rfl, eq_by (fun d => by simp [Op.equalIn, run_underlying hu]) rfl rfl⟩
 ·obtain rfl := ha; obtain ⟨_, _, _, rfl⟩ := hb
  exact ⟨rfl, rfl, eq_by (fun d => by simp [Op.equalIn, run_underlying hu]) rfl rfl⟩
 ·obtain ⟨_, _, _, rfl⟩ := ha; obtain rfl := hb
  exact ⟨rfl, rfl, eq_by (fun d => by simp [Op.equalIn, run_underlying hu]) rfl rfl⟩
 ·obtain rfl := ha; obtain ⟨_, _, _, _, _, rfl, _⟩ := hb
  exact ⟨rfl, rfl, eq_by (fun d => by simp [Op.equalIn, run_underlying hu]) rfl rfl⟩
 ·obtain ⟨_, _, _, _, _, rfl, _⟩ := ha; obtain rfl := hb
  exact ⟨rfl, rfl, eq_by (fun d => by simp [Op.equalIn, run_underlying hu]) rfl rfl⟩
 ·obtain rfl := ha; obtain ⟨a, _, rfl, rfl⟩ := hb
  cases a <;> exact ⟨rfl, rfl, eq_by (fun d => by simp [Op.equalIn, run_underlying hu]) rfl rfl⟩
 ·obtain ⟨a, _, rfl, rfl⟩ := ha; obtain rfl := hb
  cases a <;> exact ⟨rfl, rfl, eq_by (fun d => by simp [Op.equalIn, run_underlying hu]) rfl rfl⟩
 ·obtain rfl := ha; obtain ⟨p, len, c, rfl, _, h3, h4⟩ := hb
  rcases h4 with h4 | ⟨_, _, _, rfl⟩
  ·omega
  ·exact ⟨rfl, rfl, eq_by (fun d => by simp [Op.equalIn, run_underlying hu]) rfl rfl⟩
 ·obtain ⟨p, len, c, rfl, _, h3, h4⟩ := ha; obtain rfl := hb
  rcases h4 with h4 | ⟨_, _, _, rfl⟩
  ·omega
  ·exact ⟨rfl, rfl, eq_by (fun d => by simp [Op.equalIn, run_underlying hu]) rfl rfl⟩
theorem eqFunc_ok {P : Program} {σ : Sg} {t : TypeId} {ps rs : Array TypeId} {va : Bool} (hu : P.underlying t = some (.func ps rs va)) {a b : AV} {A B : Value} (ha : VRel σ a A) (hb : VRel σ b B) {s p : Bool} (e : eqFunc a b = some (s, p)) (x y : Operand) (W : World) : EqOk P t A B p x y W := by
 unfold eqFunc at e
 split at e <;> cases e
 ·obtain rfl := ha; obtain rfl := hb
  exact ⟨rfl, rfl, eq_by (fun d => by simp [Op.equalIn, run_underlying hu]) rfl rfl⟩
 ·obtain rfl := ha; obtain ⟨_, _, rfl, _⟩ := hb
  exact ⟨rfl, rfl, eq_by (fun d => by simp [Op.equalIn, run_underlying hu]) rfl rfl⟩
 ·obtain ⟨_, _, rfl, _⟩ := ha; obtain rfl := hb
  exact ⟨rfl, rfl, eq_by (fun d => by simp [Op.equalIn, run_underlying hu]) rfl rfl⟩
theorem eqIface_ok {P : Program} {σ : Sg} {t : TypeId} {ms : Array (String × TypeId)} (hu : P.underlying t = some (.interface ms)) {a b : AV} {A B : Value} (ha : VRel σ a A) (hb : VRel σ b B) {s p : Bool} (e : eqIface ms.isEmpty a b = some (s, p)) (x y : Operand) (W : World) : EqOk P t A B p x y W := by
 unfold eqIface at e
 split at e
 ·cases hm : ms.isEmpty with
  | false => rw [hm] at e; cases e
  | true =>
   rw [hm] at e; cases e
   obtain rfl := ha; obtain rfl := hb
   have g0 : ∀ d, (Op.eqGuardIn (d + 1) t .nilIface .nilIface).run P W = .ok false W := fun d => by
    simp [Op.eqGuardIn, run_underlying hu, hm]
   have g : (Op.eqGuardIn Op.maxDepth t .nilIface .nilIface).run P W = .ok false W := g0 9999
   have g2 : ∀ op, op = .eql ∨ op = .neq → (eqGuard op t x y .nilIface .nilIface).run P W = .ok () W := by
    intro op ho
    rcases ho with rfl | rfl <;>
    ·simp only [eqGuard]
     split
     ·rfl
     ·simp [g]
   refine ⟨g2 _ (.inl rfl), g2 _ (.inr rfl), eq_by (fun d => by simp [Op.equalIn, run_underlying hu]) rfl rfl⟩
 ·cases e
  obtain rfl := ha; obtain ⟨_, rfl, _⟩ := hb
  exact ⟨rfl, rfl, eq_by (fun d => by simp [Op.equalIn, run_underlying hu]) rfl rfl⟩
 ·cases e
  obtain ⟨_, rfl, _⟩ := ha; obtain rfl := hb
  exact ⟨rfl, rfl, eq_by (fun d => by simp [Op.equalIn, run_underlying hu]) rfl rfl⟩
 ·cases e
theorem eqAgg_ok {P : Program} {σ : Sg} {t : TypeId} (hag : isAggT P t = some true) {a b : AV} {A B : Value} (ha : VRel σ a A) (hb : VRel σ b B) {s p : Bool} (e : eqAgg P t a b = some (s, p)) (x y : Operand) (W : World) : EqOk P t A B p x y W := by
 unfold eqAgg at e
 split at e
 ·split at e
  ·cases e
  ·rename_i hg
   split at e
   ·cases e
   ·rename_i ks hk
    obtain ⟨K, rfl, hK⟩ := ha
    obtain ⟨M, rfl, hM⟩ := hb
    have hq := flat_ok (σ := σ) 20 t ks hk 10000 (by omega) _ _ K.toList M.toList (.agg K) (.agg M) s p e hK hM (.inl ⟨hag, by simp⟩) (.inl ⟨hag, by simp⟩) W
    have hq' : (Op.equal t (.agg K) (.agg M)).run P W = .ok p W := hq
    refine ⟨run_eqGuard_agg W .eql t x y K M hg, run_eqGuard_agg W .neq t x y K M hg, ?_, ?_⟩
    ·rw [run_eql_struct, hq]; rfl
    ·have : binOp .neq t (.agg K) (.agg M) = (do pure (.bool (!(← Op.equal t (.agg K) (.agg M))))) := rfl
     rw [this]
     simp [hq']
 ·cases e
theorem eqV_ok {P : Program} {σ : Sg} {t : TypeId} {a b : AV} {A B : Value} (ha : VRel σ a A) (hb : VRel σ b B) {s p : Bool} (e : eqV P t a b = some (s, p)) (x y : Operand) (W : World) : EqOk P t A B p x y W := by
 unfold eqV at e
 split at e
 ·rename_i hu
  simp only [fitK] at e
  split at e
  ·cases e
   obtain rfl := ha; obtain rfl := hb
   exact ⟨rfl, rfl, run_eql_bool W t _ _ hu, run_neq_bool W t _ _ hu⟩
  ·cases e
 ·rename_i hu
  simp only [fitK] at e
  split at e
  ·cases e
   obtain rfl := ha; obtain rfl := hb
   refine ⟨rfl, rfl, ?_, ?_⟩ <;> simp [binOp, Op.stringOp, eqBytes_eq, beq_toListBytes]
  ·cases e
 ·rename_i el hu; exact eqPtr_ok hu ha hb e x y W
 ·rename_i el hu; exact eqSlice_ok hu ha hb e x y W
 ·rename_i hu; exact eqFunc_ok hu ha hb e x y W
 ·rename_i fs hu; exact eqAgg_ok (by unfold isAggT; rw [hu]) ha hb e x y W
 ·rename_i n el hu; exact eqAgg_ok (by unfold isAggT; rw [hu]) ha hb e x y W
 ·rename_i ms hu; exact eqIface_ok hu ha hb e x y W
 ·cases e
def BinOk (P : Program) (σ : Sg) (op : BinOp) (t : TypeId) (x y : Operand) (A B : Value) (v : AV) (W : World) : Prop :=
 ∃ V, (eqGuard op t x y A B).run P W = .ok () W ∧ (binOp op t A B).run P W = .ok V W ∧ VRel σ v V
theorem cmpV_ok {P : Program} {σ : Sg} {op : BinOp} {t : TypeId} {a b : AV} {A B : Value} (ha : VRel σ a A) (hb : VRel σ b B) {nd : Nd} {v : AV} (e : cmpV P op t a b = some (nd, v)) (x y : Operand) (W : World) : BinOk P σ op t x y A B v W := by
 unfold cmpV at e
 split at e
 ·split at e
  ·cases e
  ·rename_i s p h; cases e
   obtain ⟨h1, h2, h3, h4⟩ := eqV_ok ha hb h x y W
   exact ⟨_, h1, h3, by simp⟩
 ·split at e
  ·cases e
  ·rename_i s p h; cases e
   obtain ⟨h1, h2, h3, h4⟩ := eqV_ok ha hb h x y W
   exact ⟨_, h2, h4, by simp⟩
 ·cases e
theorem binInt_ok {P : Program} {σ : Sg} {op : BinOp} {s : Bool} {k : IntKind} {m n : Int} {v : AV} (e : binInt op s k m n = some v) (t : TypeId) (x y : Operand) (W : World) : BinOk P σ op t x y (.int k m) (.int k n) v W := by
 unfold binInt at e
 split at e <;> first | cases e; done | skip
 all_goals
  cases e
  refine ⟨_, by simp [eqGuard_at_int], by simp [binOp, Op.intArith, Op.intBits, Op.intCmp]; rfl, by simp⟩
theorem shiftV_ok {P : Program} {σ : Sg} {op : BinOp} (hop : op = .shl ∨ op = .shr) {t : TypeId} {a b : AV} {A B : Value} (ha : VRel σ a A) (hb : VRel σ b B) {nd : Nd} {v : AV} (e : shiftV op a b = some (nd, v)) (hn : nd.val) (x y : Operand) (W : World) :
  BinOk P σ op t x y A B v W := by
 unfold shiftV at e
 split at e
 ·rename_i s k m s' k' n
  obtain rfl := ha; obtain rfl := hb
  have main : ∀ (s : Bool) (v : AV), 0 ≤ n → shiftInt op s k m (min n.toNat k.bits) = some v → BinOk P σ op t x y (.int k m) (.int k' n) v W := by
   intro s v hnn h
   have hnn' : ¬ n < 0 := by omega
   unfold shiftInt at h
   split at h
   ·cases h; exact ⟨_, by simp [eqGuard_at_int], by simp [binOp, Op.shift, hnn']; rfl, by simp⟩
   ·cases h; exact ⟨_, by simp [eqGuard_at_int], by simp [binOp, Op.shift, hnn']; rfl, by simp⟩
   ·cases h
  split at e
  ·split at e
   ·cases e
   ·rename_i hlt
    split at e
    ·cases e
    ·rename_i w hw; cases e
     exact main s v (by simpa using hlt) hw
  ·split at e
   ·cases e
   ·rename_i w hw; cases e
    exact main true v hn hw
 ·cases e
theorem divV_ok {P : Program} {σ : Sg} {op : BinOp} (hop : op = .quo ∨ op = .rem) {t : TypeId} {a b : AV} {A B : Value} (ha : VRel σ a A) (hb : VRel σ b B) {nd : Nd} {v : AV} (e : divV op a b = some (nd, v)) (hn : nd.val) (x y : Operand) (W : World) :
  BinOk P σ op t x y A B v W := by
 unfold divV at e
 split at e
 ·rename_i s k m s' k' n
  obtain rfl := ha; obtain rfl := hb
  split at e
  ·rename_i hk; subst hk
   have main : ∀ (s : Bool) (v : AV), n ≠ 0 → divInt op s k m n = some v → BinOk P σ op t x y (.int k m) (.int k n) v W := by
    intro s v hnn h
    unfold divInt at h
    split at h
    ·cases h; exact ⟨_, by simp [eqGuard_at_int], by simp [binOp, Op.intDiv, hnn]; rfl, by simp⟩
    ·cases h; exact ⟨_, by simp [eqGuard_at_int], by simp [binOp, Op.intDiv, hnn]; rfl, by simp⟩
    ·cases h
   split at e
   ·split at e
    ·cases e
    ·rename_i hz
     split at e
     ·cases e
     ·rename_i w hw; cases e
      exact main s v (by simpa using hz) hw
   ·split at e
    ·cases e
    ·rename_i w hw; cases e
     exact main true v hn hw
  ·cases e
 ·cases e
theorem binV_ok {P : Program} {σ : Sg} {op : BinOp} {t : TypeId} {a b : AV} {A B : Value} (ha : VRel σ a A) (hb : VRel σ b B) {nd : Nd} {v : AV} (e : binV P op t a b = some (nd, v)) (hn : nd.val) (x y : Operand) (W : World) :
  BinOk P σ op t x y A B v W := by
 unfold binV at e
 split at e
 ·exact shiftV_ok (.inl rfl) ha hb e hn x y W
 ·exact shiftV_ok (.inr rfl) ha hb e hn x y W
 ·exact divV_ok (.inl rfl) ha hb e hn x y W
 ·exact divV_ok (.inr rfl) ha hb e hn x y W
 ·unfold arithV at e
  split at e
  ·rename_i s k m s' k' n
   obtain rfl := ha; obtain rfl := hb
   split at e
   ·rename_i hk; subst hk
    split at e
    ·cases e
    ·rename_i w hw; cases e
     exact binInt_ok hw t x y W
   ·cases e
  ·exact cmpV_ok ha hb e x y W
theorem unV_ok {P : Program} {σ : Sg} {op : UnOp} {a v : AV} {A : Value} (ha : VRel σ a A) (e : unV op a = some v) (W : World) : ∃ V, (Op.unary op A).run P W = .ok V W ∧ VRel σ v V := by
 unfold unV at e
 split at e
 ·rename_i s k n
  obtain rfl := ha
  split at e
  ·cases e
   exact ⟨.int k (k.wrap (0 - n)), by simp [Op.unary, Op.intArith], by simp⟩
  ·obtain ⟨V, _, h2, h3⟩ := binInt_ok (P := P) (σ := σ) e 0 (.const undef) (.const undef) W
   refine ⟨V, ?_, h3⟩
   simp only [binOp] at h2
   simpa [Op.unary] using h2
  ·cases e
 ·rename_i s b
  obtain rfl := ha
  split at e
  ·cases e
   exact ⟨.bool !b, by simp [Op.unary], by simp⟩
  ·cases e
 ·cases e
theorem convV_ok {P : Program} {σ : Sg} {src dst : TypeId} {a v : AV} {A : Value} (ha : VRel σ a A) (e : convV P src dst a = some v) (W : World) : ∃ V, (convert src dst A).run P W = .ok V W ∧ VRel σ v V := by
 unfold convV at e
 split at e
 ·rename_i s k n
  obtain rfl := ha
  split at e
  ·cases e
  ·rename_i d hd'
   split at e
   ·rename_i k' hd
    cases e
    refine ⟨.int k' (k'.wrap n), ?_, by simp⟩
    simp [convert, run_underlying hd', run_underlying hd, Conv.intToInt]
   ·cases e
 ·cases e
end Go.Eng
