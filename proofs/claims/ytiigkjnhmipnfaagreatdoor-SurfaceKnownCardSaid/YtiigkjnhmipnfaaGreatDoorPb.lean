/- What is proved: a part of the proof that SurfaceKnown returns true. No conditions beyond those of the row. -/
import Derived.Test.YtiigkjnhmipnfaaGreatDoorPa
set_option linter.unusedVariables false
set_option linter.unusedSimpArgs false
namespace Go.Proofs.YtiigkjnhmipnfaaGreatDoor
open Go Go.Eng

theorem rels_map {α : Type} {σ : Sg} {f : α → AV} {g : α → Value} : ∀ {l : List α}, (∀ x ∈ l, VRel σ (f x) (g x)) → VRels σ (l.map f) (l.map g)
  | [], _ => rfl
  | a :: l, h => ⟨g a, l.map g, rfl, h a (by simp), rels_map fun x hx => h x (by simp [hx])⟩

theorem view_rel {σ : Sg} {W : World} {B o : Nat} {zs : List Int} {K : Array Value} {e : TypeId} {fr : Nat × Nat} (hK : W.heap[B]? = some (.cells K e fr)) (h : At W B o zs) :
    VRels σ (zs.map fun n => .int false .i64 n) ((K.toList.drop o).take (zs.map fun n => AV.int false .i64 n).length) := by
  have : (K.toList.drop o).take (zs.map fun n => AV.int false .i64 n).length = zs.map (Value.int .i64) := by
    apply List.ext_getElem?
    intro i
    rw [List.getElem?_take, List.length_map]
    by_cases hi : i < zs.length
    · rw [if_pos hi, List.getElem?_drop]
      obtain ⟨K', e', fr', h1, h2⟩ := cell_row (h i hi)
      rw [hK] at h1; cases h1
      rw [Array.getElem?_toList, h2]
      simp [List.getD_eq_getElem?_getD, hi]
    · rw [if_neg hi, List.getElem?_eq_none (by simpa using hi)]
  rw [this]
  exact rels_map fun x _ => rfl

def absK (k : Int) : AV × AV :=
  if k = 1 then (.int false .i64 1, .vslice 3 7) else if k = 2 then (.int false .i64 2, .vslice 4 5) else if k = 3 then (.int false .i64 3, .vslice 5 5) else (.int false .i64 4, .vslice 6 2)

def esA : List (AV × AV) := [(.int false .i64 1, .vslice 3 7), (.int false .i64 2, .vslice 4 5), (.int false .i64 3, .vslice 5 5), (.int false .i64 4, .vslice 6 2)]

def sg (bm B1 o1 B2 o2 B3 o3 B4 o4 : Nat) : Sg
  | 0 => some (2, 2)
  | 1 => some (0, 1)
  | 2 => some (bm, 0)
  | 3 => some (B1, o1)
  | 4 => some (B2, o2)
  | 5 => some (B3, o3)
  | 6 => some (B4, o4)
  | _ => none

theorem nodup_es : (esA.map (·.1)).Nodup := by
  simp [esA]

theorem build_rel {W : World} {cs0 cs1 K1 K2 K3 K4 : Array Value} {e0 e1 d1 d2 d3 d4 : TypeId} {bm clock B1 o1 B2 o2 B3 o3 B4 o4 : Nat} {es : Array MapEntry}
    (h0 : W.heap[2]? = some (.cells cs0 e0 (0, 0))) (one : cs0.toList = [.int .i64 4294967296, .int .i64 4294967296]) (h1 : W.heap[0]? = some (.cells cs1 e1 (0, 0))) (hcs : cs1.toList = [.map (some bm)]) (hbm : W.heap[bm]? = some (.map es clock))
    (H1 : W.heap[B1]? = some (.cells K1 d1 (0, 0))) (H2 : W.heap[B2]? = some (.cells K2 d2 (0, 0))) (H3 : W.heap[B3]? = some (.cells K3 d3 (0, 0))) (H4 : W.heap[B4]? = some (.cells K4 d4 (0, 0)))
    (a1 : At W B1 o1 [1, 2, 5, 6, 7, 8, 10]) (a2 : At W B2 o2 [1, 2, 3, 4, 10]) (a3 : At W B3 o3 [11, 12, 13, 14, 15]) (a4 : At W B4 o4 [1, 10])
    (n1 : B1 ≠ 2 ∧ B1 ≠ 0) (n2 : B2 ≠ 2 ∧ B2 ≠ 0) (n3 : B3 ≠ 2 ∧ B3 ≠ 0) (n4 : B4 ≠ 2 ∧ B4 ≠ 0)
    (kk : MapEntry → Int) (perm : (es.toList.map fun x => absK (kk x)).Perm esA)
    (ent : ∀ x ∈ es.toList, (∃ c, x.key = .int .i64 1 ∧ kk x = 1 ∧ x.val = .slice (some ⟨B1, o1, none⟩) 7 c) ∨ (∃ c, x.key = .int .i64 2 ∧ kk x = 2 ∧ x.val = .slice (some ⟨B2, o2, none⟩) 5 c) ∨
      (∃ c, x.key = .int .i64 3 ∧ kk x = 3 ∧ x.val = .slice (some ⟨B3, o3, none⟩) 5 c) ∨ (∃ c, x.key = .int .i64 4 ∧ kk x = 4 ∧ x.val = .slice (some ⟨B4, o4, none⟩) 2 c)) :
    HRel (sg bm B1 o1 B2 o2 B3 o3 B4 o4) hG W := by
  have lt : ∀ {B : Nat} {o : Obj}, W.heap[B]? = some o → B < W.heap.size := fun h => (Array.getElem?_eq_some_iff.1 h).1
  have hm : ∀ {B : Nat} {K : Array Value} {e : TypeId}, W.heap[B]? = some (.cells K e (0, 0)) → B ≠ bm := fun h e => by rw [e, hbm] at h; cases h
  have b0 := hm h0; have b1 := hm h1; have b2 := hm H1; have b3 := hm H2; have b4 := hm H3; have b5 := hm H4
  refine ⟨rfl, fun i b hb hd => ?_, fun i B N e => ?_, fun i j b c B N M hb hc hbd hcd e f => ?_⟩
  · have hi := Hp.get_lt hb
    match i, hi with
    | 0, _ =>
      cases hb
      exact ⟨2, 2, _, rfl, h0, cs0, e0, rfl, by rw [one]; exact ⟨_, _, rfl, rfl, _, _, rfl, rfl, rfl⟩, by rw [← Array.length_toList, one]; rfl⟩
    | 1, _ =>
      cases hb
      exact ⟨0, 1, _, rfl, h1, cs1, e1, rfl, by rw [hcs]; exact ⟨_, _, rfl, ⟨bm, 0, rfl, rfl⟩, rfl⟩, by rw [← Array.length_toList, hcs]; rfl⟩
    | 2, _ =>
      cases hb
      refine ⟨bm, 0, _, rfl, hbm, es, clock, es.toList.map fun x => absK (kk x), rfl, perm, nodup_es, ?_, ?_⟩
      · rw [List.map_map]
        refine rels_map fun x hx => ?_
        rcases ent x hx with ⟨c, e1, e2, _⟩ | ⟨c, e1, e2, _⟩ | ⟨c, e1, e2, _⟩ | ⟨c, e1, e2, _⟩ <;> (rw [e1]; simp only [Function.comp_apply, e2]; rfl)
      · rw [List.map_map]
        refine rels_map fun x hx => ?_
        rcases ent x hx with ⟨c, _, e2, e3⟩ | ⟨c, _, e2, e3⟩ | ⟨c, _, e2, e3⟩ | ⟨c, _, e2, e3⟩ <;> (rw [e3]; simp only [Function.comp_apply, e2])
        · exact ⟨B1, o1, c, rfl, rfl⟩
        · exact ⟨B2, o2, c, rfl, rfl⟩
        · exact ⟨B3, o3, c, rfl, rfl⟩
        · exact ⟨B4, o4, c, rfl, rfl⟩
    | 3, _ => cases hb; exact ⟨B1, o1, _, rfl, H1, K1, d1, rfl, view_rel H1 a1⟩
    | 4, _ => cases hb; exact ⟨B2, o2, _, rfl, H2, K2, d2, rfl, view_rel H2 a2⟩
    | 5, _ => cases hb; exact ⟨B3, o3, _, rfl, H3, K3, d3, rfl, view_rel H3 a3⟩
    | 6, _ => cases hb; exact ⟨B4, o4, _, rfl, H4, K4, d4, rfl, view_rel H4 a4⟩
  · match i, e with
    | 0, e => cases e; exact ⟨by decide, lt h0⟩
    | 1, e => cases e; exact ⟨by decide, lt h1⟩
    | 2, e => cases e; exact ⟨by decide, lt hbm⟩
    | 3, e => cases e; exact ⟨by decide, lt H1⟩
    | 4, e => cases e; exact ⟨by decide, lt H2⟩
    | 5, e => cases e; exact ⟨by decide, lt H3⟩
    | 6, e => cases e; exact ⟨by decide, lt H4⟩
  · have hi := Hp.get_lt hb
    have hj := Hp.get_lt hc
    match i, hi, j, hj with
    | 0, _, 0, _ => exact .inl rfl
    | 1, _, 1, _ => exact .inl rfl
    | 2, _, 2, _ => exact .inl rfl
    | 0, _, 1, _ | 0, _, 2, _ | 0, _, 3, _ | 0, _, 4, _ | 0, _, 5, _ | 0, _, 6, _
    | 1, _, 0, _ | 1, _, 2, _ | 1, _, 3, _ | 1, _, 4, _ | 1, _, 5, _ | 1, _, 6, _
    | 2, _, 0, _ | 2, _, 1, _ | 2, _, 3, _ | 2, _, 4, _ | 2, _, 5, _ | 2, _, 6, _
    | 3, _, 0, _ | 4, _, 0, _ | 5, _, 0, _ | 6, _, 0, _
    | 3, _, 1, _ | 4, _, 1, _ | 5, _, 1, _ | 6, _, 1, _
    | 3, _, 2, _ | 4, _, 2, _ | 5, _, 2, _ | 6, _, 2, _ =>
      exfalso
      simp only [sg, Option.some.injEq, Prod.mk.injEq] at e f
      omega
    | 3, _, 3, _ | 3, _, 4, _ | 3, _, 5, _ | 3, _, 6, _ | 4, _, 3, _ | 4, _, 4, _ | 4, _, 5, _ | 4, _, 6, _
    | 5, _, 3, _ | 5, _, 4, _ | 5, _, 5, _ | 5, _, 6, _ | 6, _, 3, _ | 6, _, 4, _ | 6, _, 5, _ | 6, _, 6, _ =>
      cases hb; cases hc; exact .inr ⟨rfl, rfl⟩

end Go.Proofs.YtiigkjnhmipnfaaGreatDoor
