/- What is proved: SurfaceChecks returns true, whatever the input (part 27 of 28). No conditions beyond those of the row. -/
import Derived.Test.YtiigkjnhmipnfaaGreatDoorPG
import Derived.Test.YtiigkjnhmipnfaaGreatDoorPZ
import Derived.Test.YtiigkjnhmipnfaaGreatDoorRows
import Derived.WideKeyElems2
import Derived.ChangeSlices
import Derived.MakeChecks
import Derived.WalkKit
import Derived.ProofKit
set_option linter.unusedVariables false
set_option linter.unusedSimpArgs false
set_option linter.unusedSectionVars false
namespace Go.Proofs.YtiigkjnhmipnfaaGreatDoor
open Go Go.Eng
theorem gOne : Tryz.prog.globalNamed "monocle/surface.one" = some 2 := by kernel_rfl
theorem gPlaces : Tryz.prog.globalNamed "monocle/surface.places" = some 0 := by kernel_rfl
theorem tOne : (Tryz.prog.globals[2]?).map (·.type) = some 56 := by kernel_rfl
theorem tPlaces : (Tryz.prog.globals[0]?).map (·.type) = some 135 := by kernel_rfl
def tab : List (Int × List Int) := [(1, [1, 2, 5, 6, 7, 8, 10]), (2, [1, 2, 3, 4, 10]), (3, [11, 12, 13, 14, 15]), (4, [1, 10])]
theorem var_block {W : World} {n : String} {g : Nat} {cs : Array Value} (hg : Tryz.prog.globalNamed n = some g) (h : W.var? Tryz.prog n = some cs) : ∃ e fr, W.heap[g]? = some (.cells cs e fr) := by
 simp only [World.var?, hg, Option.bind_some] at h
 split at h
 ·cases h; rename_i e fr hh; exact ⟨_, _, hh⟩
 ·cases h
theorem cell_row {W : World} {B o : Nat} {v : Value} (h : W.cell? ⟨B, o, none⟩ = some v) : ∃ K e fr, W.heap[B]? = some (.cells K e fr) ∧ K[o]? = some v := by
 unfold World.cell? at h
 split at h
 ·rename_i K e fr hh
  exact ⟨K, e, fr, hh, by simpa using h⟩
 ·cases h
def At (W : World) (B o : Nat) (zs : List Int) : Prop := ∀ i, i < zs.length → W.cell? ⟨B, o + i, none⟩ = some (.int .i64 (zs.getD i 0))
theorem slice_at {W : World} {fuel : Nat} {v : Value} {zs : List Int} {p : List MemPlace} (hne : 0 < zs.length) (hf : v.formed Tryz.prog 68 = true)
  (h : DataW.trod (fun _ => ()) Tryz.prog W 0 (fun _ => true) false fuel 68 v.cells.toList = some (.slice (ChangeShapes.lits .i64 zs) [], p)) :
  ∃ B o c, v = .slice (some ⟨B, o, none⟩) zs.length c ∧ At W B o zs ∧ ∀ i, i < zs.length → MemPlace.cell B (o + i) ∈ p := by
 rcases ChangeShapes.open_ints (k := .i64) Tryz.underlying68 Tryz.underlying3 (by kernel_rfl) h with ⟨_, hx⟩ | ⟨a, len, cap, ys, hcs, _, hl, _, hlen, hx, hcell, _⟩
 ·simp at hx
 ·simp only [Prod.mk.injEq, DataW.slice.injEq, if_true] at hx hlen
  obtain ⟨⟨h1, h2⟩, h3⟩ := hx
  have inj : ∀ l m : List Int, (ChangeShapes.lits (H := Unit) .i64 l) = ChangeShapes.lits .i64 m → l = m := by
   intro l
   induction l with
   | nil => intro m e; cases m with
    | nil => rfl
    | cons => simp [ChangeShapes.lits] at e
   | cons x l ih => intro m e; cases m with
    | nil => simp [ChangeShapes.lits] at e
    | cons y m =>
     simp only [ChangeShapes.lits, List.map_cons, List.cons.injEq, DataW.lit.injEq, Lit.int.injEq, true_and] at e
     rw [e.1, ih m e.2]
  have hd : ys.drop len = [] := (inj [] _ h2).symm
  have ht := inj _ _ h1
  have hle : ys.length ≤ len := by simpa using hd
  have e1 : ys.take len = ys := List.take_of_length_le hle
  rw [e1] at ht
  subst ht
  have hlen2 : len = zs.length := by omega
  subst hlen2
  obtain ⟨B, o, spot⟩ := a
  have c0 := hcell 0 hne
  have hs : spot = none := by
   simp only [Addr.add, if_true, World.cell?] at c0
   split at c0
   ·cases spot with
    | none => rfl
    | some s => simp at c0
   ·cases c0
  subst hs
  refine ⟨B, o, cap, ?_, fun i hi => ?_, fun i hi => ?_⟩
  ·cases v with
   | agg c => simp [Value.formed, Tryz.underlying68] at hf
   | tuple c => simp [Value.formed] at hf
   | _ => exact (List.cons.inj (show [_] = [_] from hcs)).1
  ·have := hcell i hi
   simp only [Addr.add] at this
   split at this
   ·rename_i h0; subst h0; exact this
   ·exact this
  ·rw [h3]
   exact MemPlace.mem_row.2 ⟨i, hi, rfl⟩
theorem entry_at {W : World} {n : Nat} {x : MapEntry} {y : Lit × DataW Unit} (h : WideElems.rd Tryz.prog 3 (WideElems.elemAt (fun _ => ()) Tryz.prog W 0 (fun _ => true) false n 68) x = some y) {k : Int} {zs : List Int}
  (hy : y = (.int .i64 k, .slice (ChangeShapes.lits .i64 zs) [])) (hne : 0 < zs.length) :
  x.key = .int .i64 k ∧ ∃ B o c, x.val = .slice (some ⟨B, o, none⟩) zs.length c ∧ At W B o zs ∧ ∀ i, i < zs.length → MemPlace.cell B (o + i) ∈ WideElems.pl (WideElems.elemAt (fun _ => ()) Tryz.prog W 0 (fun _ => true) false n 68) x := by
 subst hy
 have hk := WideElems.rd_key h
 unfold WideElems.rd at h
 simp only [Option.bind_eq_some_iff, Option.map_eq_some_iff] at h
 obtain ⟨key, h1, z, h2, h3⟩ := h
 simp only [Prod.mk.injEq] at h3
 refine ⟨?_, ?_⟩
 ·have e0 : keyOf Tryz.prog 3 x.key = mapKey Tryz.prog 3 x.key := by
   unfold keyOf
   rw [Tryz.underlying3]
  have e1 : ∀ v, mapKey Tryz.prog 3 v = match v with
    | .int q' n => if q' = .i64 ∧ (Lit.int .i64 n).wf = true then some (.int .i64 n) else none
    | _ => none := by
   intro v
   unfold mapKey
   rw [Tryz.underlying3]
   cases v <;> rfl
  rw [e0, e1] at hk
  split at hk
  ·rename_i q' m hq
   split at hk
   ·rename_i hc
    rw [hq]
    cases hk
    rw [hc.1]
   ·cases hk
  ·cases hk
 ·have h2' := h2
  unfold WideElems.elemAt at h2
  split at h2
  ·rename_i hf
   obtain ⟨d, p⟩ := z
   simp only at h3
   rw [h3.2] at h2
   obtain ⟨B, o, c, e1, e2, e3⟩ := slice_at hne hf h2
   refine ⟨B, o, c, e1, e2, fun i hi => ?_⟩
   unfold WideElems.pl
   rw [h2']
   exact e3 i hi
  ·cases h2
end Go.Proofs.YtiigkjnhmipnfaaGreatDoor
namespace Go.Proofs.YtiigkjnhmipnfaaGreatDoor
open Go Go.Eng
theorem rels_map {α : Type} {σ : Sg} {f : α → AV} {g : α → Value} : ∀ {l : List α}, (∀ x ∈ l, VRel σ (f x) (g x)) → VRels σ (l.map f) (l.map g)
 | [], _ => rfl
 | a :: l, h => ⟨g a, l.map g, rfl, h a (by simp), rels_map fun x hx => h x (by simp [hx])⟩
theorem view_rel {σ : Sg} {W : World} {B o : Nat} {zs : List Int} {K : Array Value} {e : TypeId} {fr : Nat × Nat} (hK : W.heap[B]? = some (.cells K e fr)) (h : At W B o zs) :
  VRels σ (zs.map fun n => .int false .i64 n) ((K.toList.drop o).take (zs.map fun n => AV.int false .i64 n).length) := by
 have : (K.toList.drop o).take (zs.map fun n => AV.int false .i64 n).length = zs.map (Value.int .i64) := by
  apply List.ext_getElem?
  intro i
  rw [List.getElem?_take, List.length_map]
  by_cases hi : i < zs.length
  ·rw [if_pos hi, List.getElem?_drop]
   obtain ⟨K', e', fr', h1, h2⟩ := cell_row (h i hi)
   rw [hK] at h1; cases h1
   rw [Array.getElem?_toList, h2]
   simp [List.getD_eq_getElem?_getD, hi]
  ·rw [if_neg hi, List.getElem?_eq_none (by simpa using hi)]
 rw [this]
 exact rels_map fun x _ => rfl
def absK (k : Int) : AV × AV :=
 if k = 1 then (.int false .i64 1, .vslice 3 7) else if k = 2 then (.int false .i64 2, .vslice 4 5) else if k = 3 then (.int false .i64 3, .vslice 5 5) else (.int false .i64 4, .vslice 6 2)
def esA : List (AV × AV) := [(.int false .i64 1, .vslice 3 7), (.int false .i64 2, .vslice 4 5), (.int false .i64 3, .vslice 5 5), (.int false .i64 4, .vslice 6 2)]
def sg (bm B1 o1 B2 o2 B3 o3 B4 o4 : Nat) : Sg
 | 0 => some (2, 2)
 | 1 => some (0, 1)
 | 2 => some (bm, 0)
 | 3 => some (B1, o1)
 | 4 => some (B2, o2)
 | 5 => some (B3, o3)
 | 6 => some (B4, o4)
 | _ => none
theorem nodup_es : (esA.map (·.1)).Nodup := by
 simp [esA]
theorem build_rel {W : World} {cs0 cs1 K1 K2 K3 K4 : Array Value} {e0 e1 d1 d2 d3 d4 : TypeId} {bm clock B1 o1 B2 o2 B3 o3 B4 o4 : Nat} {es : Array MapEntry}
  (h0 : W.heap[2]? = some (.cells cs0 e0 (0, 0))) (one : cs0.toList = [.int .i64 4294967296, .int .i64 4294967296]) (h1 : W.heap[0]? = some (.cells cs1 e1 (0, 0))) (hcs : cs1.toList = [.map (some bm)]) (hbm : W.heap[bm]? = some (.map es clock))
  (H1 : W.heap[B1]? = some (.cells K1 d1 (0, 0))) (H2 : W.heap[B2]? = some (.cells K2 d2 (0, 0))) (H3 : W.heap[B3]? = some (.cells K3 d3 (0, 0))) (H4 : W.heap[B4]? = some (.cells K4 d4 (0, 0)))
  (a1 : At W B1 o1 [1, 2, 5, 6, 7, 8, 10]) (a2 : At W B2 o2 [1, 2, 3, 4, 10]) (a3 : At W B3 o3 [11, 12, 13, 14, 15]) (a4 : At W B4 o4 [1, 10])
  (n1 : B1 ≠ 2 ∧ B1 ≠ 0) (n2 : B2 ≠ 2 ∧ B2 ≠ 0) (n3 : B3 ≠ 2 ∧ B3 ≠ 0) (n4 : B4 ≠ 2 ∧ B4 ≠ 0)
  (kk : MapEntry → Int) (perm : (es.toList.map fun x => absK (kk x)).Perm esA)
  (ent : ∀ x ∈ es.toList, (∃ c, x.key = .int .i64 1 ∧ kk x = 1 ∧ x.val = .slice (some ⟨B1, o1, none⟩) 7 c) ∨ (∃ c, x.key = .int .i64 2 ∧ kk x = 2 ∧ x.val = .slice (some ⟨B2, o2, none⟩) 5 c) ∨
   (∃ c, x.key = .int .i64 3 ∧ kk x = 3 ∧ x.val = .slice (some ⟨B3, o3, none⟩) 5 c) ∨ (∃ c, x.key = .int .i64 4 ∧ kk x = 4 ∧ x.val = .slice (some ⟨B4, o4, none⟩) 2 c)) :
  HRel (sg bm B1 o1 B2 o2 B3 o3 B4 o4) hG W := by
 have lt : ∀ {B : Nat} {o : Obj}, W.heap[B]? = some o → B < W.heap.size := fun h => (Array.getElem?_eq_some_iff.1 h).1
 have hm : ∀ {B : Nat} {K : Array Value} {e : TypeId}, W.heap[B]? = some (.cells K e (0, 0)) → B ≠ bm := fun h e => by rw [e, hbm] at h; cases h
 have b0 := hm h0; have b1 := hm h1; have b2 := hm H1; have b3 := hm H2; have b4 := hm H3; have b5 := hm H4
 refine ⟨rfl, fun i b hb hd => ?_, fun i B N e => ?_, fun i j b c B N M hb hc hbd hcd e f => ?_⟩
 ·have hi := Hp.get_lt hb
  match i, hi with
  | 0, _ =>
   cases hb
   exact ⟨2, 2, _, rfl, h0, cs0, e0, rfl, by rw [one]; exact ⟨_, _, rfl, rfl, _, _, rfl, rfl, rfl⟩, by rw [← Array.length_toList, one]; rfl⟩
  | 1, _ =>
   cases hb
   exact ⟨0, 1, _, rfl, h1, cs1, e1, rfl, by rw [hcs]; exact ⟨_, _, rfl, ⟨bm, 0, rfl, rfl⟩, rfl⟩, by rw [← Array.length_toList, hcs]; rfl⟩
  | 2, _ =>
   cases hb
   refine ⟨bm, 0, _, rfl, hbm, es, clock, es.toList.map fun x => absK (kk x), rfl, perm, nodup_es, ?_, ?_⟩
   ·rw [List.map_map]
    refine rels_map fun x hx => ?_
    rcases ent x hx with ⟨c, e1, e2, _⟩ | ⟨c, e1, e2, _⟩ | ⟨c, e1, e2, _⟩ | ⟨c, e1, e2, _⟩ <;> (rw [e1]; simp only [Function.comp_apply, e2]; rfl)
   ·rw [List.map_map]
    refine rels_map fun x hx => ?_
    rcases ent x hx with ⟨c, _, e2, e3⟩ | ⟨c, _, e2, e3⟩ | ⟨c, _, e2, e3⟩ | ⟨c, _, e2, e3⟩ <;> (rw [e3]; simp only [Function.comp_apply, e2])
    ·exact ⟨B1, o1, c, rfl, rfl⟩
    ·exact ⟨B2, o2, c, rfl, rfl⟩
    ·exact ⟨B3, o3, c, rfl, rfl⟩
    ·exact ⟨B4, o4, c, rfl, rfl⟩
  | 3, _ => cases hb; exact ⟨B1, o1, _, rfl, H1, K1, d1, _, rfl, view_rel H1 a1⟩
  | 4, _ => cases hb; exact ⟨B2, o2, _, rfl, H2, K2, d2, _, rfl, view_rel H2 a2⟩
  | 5, _ => cases hb; exact ⟨B3, o3, _, rfl, H3, K3, d3, _, rfl, view_rel H3 a3⟩
  | 6, _ => cases hb; exact ⟨B4, o4, _, rfl, H4, K4, d4, _, rfl, view_rel H4 a4⟩
 ·match i, e with
  | 0, e => cases e; exact ⟨by decide, lt h0⟩
  | 1, e => cases e; exact ⟨by decide, lt h1⟩
  | 2, e => cases e; exact ⟨by decide, lt hbm⟩
  | 3, e => cases e; exact ⟨by decide, lt H1⟩
  | 4, e => cases e; exact ⟨by decide, lt H2⟩
  | 5, e => cases e; exact ⟨by decide, lt H3⟩
  | 6, e => cases e; exact ⟨by decide, lt H4⟩
 ·have hi := Hp.get_lt hb
  have hj := Hp.get_lt hc
  match i, hi, j, hj with
  | 0, _, 0, _ => exact .inl rfl
  | 1, _, 1, _ => exact .inl rfl
  | 2, _, 2, _ => exact .inl rfl
  | 0, _, 1, _ | 0, _, 2, _ | 0, _, 3, _ | 0, _, 4, _ | 0, _, 5, _ | 0, _, 6, _
  | 1, _, 0, _ | 1, _, 2, _ | 1, _, 3, _ | 1, _, 4, _ | 1, _, 5, _ | 1, _, 6, _
  | 2, _, 0, _ | 2, _, 1, _ | 2, _, 3, _ | 2, _, 4, _ | 2, _, 5, _ | 2, _, 6, _
  | 3, _, 0, _ | 4, _, 0, _ | 5, _, 0, _ | 6, _, 0, _
  | 3, _, 1, _ | 4, _, 1, _ | 5, _, 1, _ | 6, _, 1, _
  | 3, _, 2, _ | 4, _, 2, _ | 5, _, 2, _ | 6, _, 2, _ =>
   exfalso
   simp only [sg, Option.some.injEq, Prod.mk.injEq] at e f
   omega
  | 3, _, 3, _ | 3, _, 4, _ | 3, _, 5, _ | 3, _, 6, _ | 4, _, 3, _ | 4, _, 4, _ | 4, _, 5, _ | 4, _, 6, _
  | 5, _, 3, _ | 5, _, 4, _ | 5, _, 5, _ | 5, _, 6, _ | 6, _, 3, _ | 6, _, 4, _ | 6, _, 5, _ | 6, _, 6, _ =>
   cases hb; cases hc; exact .inr ⟨rfl, rfl⟩
end Go.Proofs.YtiigkjnhmipnfaaGreatDoor
namespace Go.Proofs.YtiigkjnhmipnfaaGreatDoor
open Go Go.Eng
def litK : Lit → Int
 | .int _ n => n
 | _ => 0
theorem pw_eq : ∀ {l : List MapEntry}, l.Pairwise (fun a b => a.key ≠ b.key) → ∀ {x y : MapEntry}, x ∈ l → y ∈ l → x.key = y.key → x = y
 | [], _, x, _, h, _, _ => by cases h
 | a :: l, hp, x, y, hx, hy, hk => by
  rw [List.pairwise_cons] at hp
  rcases List.mem_cons.1 hx with hx1 | hx1 <;> rcases List.mem_cons.1 hy with hy1 | hy1
  ·rw [hx1, hy1]
  ·rw [hx1] at hk; exact absurd hk (hp.1 y hy1)
  ·rw [hy1] at hk; exact absurd hk.symm (hp.1 x hx1)
  ·exact pw_eq hp.2 hx1 hy1 hk
theorem two_of_len {α : Type} : ∀ {l : List α}, l.length = 2 → ∃ a b, l = [a, b]
 | [a, b], _ => ⟨a, b, rfl⟩
 | [], h => by cases h
 | [_], h => by cases h
 | _ :: _ :: _ :: _, h => by simp at h
def numD : DataW Unit → Int
 | .lit (.int _ n) => n
 | _ => 0
def partsD : DataW Unit → List Int
 | .agg l => l.map numD
 | _ => []
set_option maxRecDepth 100000 in
theorem of_laid {W : World} (h : laidMetH Tryz.prog [("monocle/surface.one", Rows.laid_monocle_surface_one), ("monocle/surface.places", Rows.laid_monocle_surface_places)] W) :
  ∃ σ : Sg, (∀ gl i, glob gl = some i → ∃ N, σ i = some (gl, N)) ∧ HRel σ hG W := by
 rw [MakeChecks.laidMetH_plain _ _ _ (by kernel_rfl)] at h
 obtain ⟨ps, ⟨g0, t0, cs0, f0, p0, q0, hg0, ht0, hv0, hd0, ⟨g1, t1, cs1, f1, p1, q1, hg1, ht1, hv1, hd1, hq1, hps1⟩, hps0⟩, hnd, hfr⟩ := h
 obtain rfl := Option.some.inj (gOne.symm.trans hg0)
 obtain rfl := Option.some.inj (gPlaces.symm.trans hg1)
 obtain rfl := Option.some.inj (tOne.symm.trans ht0)
 obtain rfl := Option.some.inj (tPlaces.symm.trans ht1)
 have q1e : q1 = [] := hq1
 subst q1e
 rw [List.append_nil] at hps1
 subst hps1 hps0
 obtain ⟨e0, r0, hb0⟩ := var_block gOne hv0
 obtain ⟨e1, r1, hb1⟩ := var_block gPlaces hv1
 have one : cs0.toList = [.int .i64 4294967296, .int .i64 4294967296] := by
  obtain ⟨y0, y1, n, hx, hl, h0, h1⟩ := ChangeShapes.trod_struct2 Tryz.underlying56 hd0
  have c3 : Tryz.prog.cellsOf 3 = 1 := by kernel_rfl
  have c56 : Tryz.prog.cellsOf 56 = 2 := by kernel_rfl
  rw [c56] at hl
  obtain ⟨a, b, hab⟩ := two_of_len hl
  rw [hab] at h0 h1 ⊢
  obtain ⟨n0, m1, m2, _⟩ := DataW.trod_int (k := .i64) Tryz.underlying3 h0
  obtain ⟨n1, m3, m4, _⟩ := DataW.trod_int (k := .i64) Tryz.underlying3 h1
  rw [c3] at m1 m3
  have m1 : [a] = [.int .i64 n0] := m1
  have m3 : [b] = [.int .i64 n1] := m3
  have hx1 : DataW.agg [.lit (.int .i64 4294967296), .lit (.int .i64 4294967296)] = DataW.agg [y0.1, y1.1] := (Prod.mk.inj hx).1
  have hk := congrArg partsD hx1
  rw [m2, m4] at hk
  have hk : [4294967296, 4294967296] = [n0, n1] := hk
  have j1 := (List.cons.inj hk).1
  have j2 := (List.cons.inj (List.cons.inj hk).2).1
  rw [(List.cons.inj m1).1, (List.cons.inj m3).1, ← j1, ← j2]
 rcases WideElems.open_map Tryz.underlying135 hd1 with ⟨_, hx⟩ | ⟨bm, es, clock, n, _, hcs, hbm, _, F, hx⟩
 ·cases (Prod.mk.inj hx).1
 obtain ⟨hx1, hx2⟩ := Prod.mk.inj hx
 have hL : (es.toList.map (WideElems.rg Tryz.prog 3 (WideElems.elemAt (fun _ => ()) Tryz.prog W 0 (fun _ => true) false n 68))).foldr DataW.insert [] = tab.map fun kz => ((.int .i64 kz.1, .slice (ChangeShapes.lits .i64 kz.2) []) : Lit × DataW Unit) := by
  have hx1 : DataW.map (tab.map fun kz => ((.int .i64 kz.1, .slice (ChangeShapes.lits .i64 kz.2) []) : Lit × DataW Unit)) = DataW.map _ := hx1
  injection hx1 with hx1
  exact hx1.symm
 have perm := WideShapes.sorted_perm (es.toList.map (WideElems.rg Tryz.prog 3 (WideElems.elemAt (fun _ => ()) Tryz.prog W 0 (fun _ => true) false n 68)))
 rw [hL] at perm
 generalize hR : WideElems.elemAt (fun _ => ()) Tryz.prog W 0 (fun _ => true) false n 68 = R at *
 have ent : ∀ x ∈ es.toList, ∀ kz : Int × List Int, 0 < kz.2.length → WideElems.rg Tryz.prog 3 R x = (.int .i64 kz.1, .slice (ChangeShapes.lits .i64 kz.2) []) →
   x.key = .int .i64 kz.1 ∧ ∃ B o c, x.val = .slice (some ⟨B, o, none⟩) kz.2.length c ∧ At W B o kz.2 ∧ ∀ i, i < kz.2.length → MemPlace.cell B (o + i) ∈ p1 := by
  intro x hxm kz hne hrg
  obtain ⟨y, hy⟩ := F.reads x hxm
  rw [WideElems.rg_of hy] at hrg
  subst hR
  obtain ⟨h1, B, o, c, h2, h3, h4⟩ := entry_at hy hrg hne
  refine ⟨h1, B, o, c, h2, h3, fun i hi => ?_⟩
  rw [hx2]
  exact List.mem_cons_of_mem _ (List.mem_flatMap.2 ⟨x, hxm, h4 i hi⟩)
 have pick : ∀ kz ∈ tab, ∃ x ∈ es.toList, WideElems.rg Tryz.prog 3 R x = (.int .i64 kz.1, .slice (ChangeShapes.lits .i64 kz.2) []) := by
  intro kz hkz
  have h1 := perm.mem_iff.1 (List.mem_map.2 ⟨kz, hkz, rfl⟩)
  obtain ⟨x, h2, h3⟩ := List.mem_map.1 h1
  exact ⟨x, h2, h3⟩
 obtain ⟨x1, hm1, hr1⟩ := pick (1, [1, 2, 5, 6, 7, 8, 10]) (by simp [tab])
 obtain ⟨x2, hm2, hr2⟩ := pick (2, [1, 2, 3, 4, 10]) (by simp [tab])
 obtain ⟨x3, hm3, hr3⟩ := pick (3, [11, 12, 13, 14, 15]) (by simp [tab])
 obtain ⟨x4, hm4, hr4⟩ := pick (4, [1, 10]) (by simp [tab])
 obtain ⟨k1, B1, o1, c1, v1, a1, m1⟩ := ent x1 hm1 (1, [1, 2, 5, 6, 7, 8, 10]) (by decide) hr1
 obtain ⟨k2, B2, o2, c2, v2, a2, m2⟩ := ent x2 hm2 (2, [1, 2, 3, 4, 10]) (by decide) hr2
 obtain ⟨k3, B3, o3, c3, v3, a3, m3⟩ := ent x3 hm3 (3, [11, 12, 13, 14, 15]) (by decide) hr3
 obtain ⟨k4, B4, o4, c4, v4, a4, m4⟩ := ent x4 hm4 (4, [1, 10]) (by decide) hr4
 have at0 : ∀ {zs : List Int} {B o : Nat}, 0 < zs.length → At W B o zs → (∀ i, i < zs.length → MemPlace.cell B (o + i) ∈ p1) → ∃ K d, W.heap[B]? = some (.cells K d (0, 0)) ∧ o < K.size ∧ MemPlace.cell B o ∈ p1 := by
  intro zs B o hne ha hm
  have hp := hm 0 hne
  obtain ⟨K, e, fr, h1, h2⟩ := cell_row (ha 0 hne)
  obtain ⟨⟨K', d, h3⟩, _⟩ := hfr B (o + 0) (List.mem_append_right _ (List.mem_append_right _ hp))
  rw [h1] at h3; cases h3
  exact ⟨K, _, h1, (Array.getElem?_eq_some_iff.1 h2).1, hp⟩
 obtain ⟨K1, d1, H1, l1, u1⟩ := at0 (by decide) a1 m1
 obtain ⟨K2, d2, H2, l2, u2⟩ := at0 (by decide) a2 m2
 obtain ⟨K3, d3, H3, l3, u3⟩ := at0 (by decide) a3 m3
 obtain ⟨K4, d4, H4, l4, u4⟩ := at0 (by decide) a4 m4
 have z0 : cs0.size = 2 := by rw [← Array.length_toList, one]; rfl
 have z1 : cs1.size = 1 := by rw [← Array.length_toList, hcs]; rfl
 have f2 : W.heap[2]? = some (.cells cs0 e0 (0, 0)) := by
  obtain ⟨⟨c, t, h3⟩, _⟩ := hfr 2 0 (by
   refine List.mem_append_left _ (List.mem_append_left _ (MemPlace.mem_row.2 ⟨0, by omega, rfl⟩)))
  rw [hb0] at h3; cases h3; exact hb0
 have f0 : W.heap[0]? = some (.cells cs1 e1 (0, 0)) := by
  obtain ⟨⟨c, t, h3⟩, _⟩ := hfr 0 0 (by
   refine List.mem_append_right _ (List.mem_append_left _ (MemPlace.mem_row.2 ⟨0, by omega, rfl⟩)))
  rw [hb1] at h3; cases h3; exact hb1
 have apart : ∀ {B o : Nat} {K : Array Value} {d : TypeId}, W.heap[B]? = some (.cells K d (0, 0)) → o < K.size → MemPlace.cell B o ∈ p1 → B ≠ 2 ∧ B ≠ 0 := by
  intro B o K d hB ho hp
  constructor
  ·rintro rfl
   rw [f2] at hB; cases hB
   have := (List.nodup_append.1 hnd).2.2 (.cell 2 o) (List.mem_append_left _ (MemPlace.mem_row.2 ⟨o, ho, by simp⟩)) (.cell 2 o) (List.mem_append_right _ hp)
   exact this rfl
  ·rintro rfl
   rw [f0] at hB; cases hB
   have := (List.nodup_append.1 (List.nodup_append.1 hnd).2.1).2.2 (.cell 0 o) (MemPlace.mem_row.2 ⟨o, ho, by simp⟩) (.cell 0 o) hp
   exact this rfl
 have keys : ∀ x ∈ es.toList, ∀ y ∈ es.toList, x.key = y.key → x = y := by
  intro x hx y hy hk
  have hpw := ((MapKept.stamped_iff es clock).1 F.stamped).2.2
  exact pw_eq hpw hx hy hk
 refine ⟨sg bm B1 o1 B2 o2 B3 o3 B4 o4, fun gl i hgi => ?_, build_rel f2 one f0 hcs hbm H1 H2 H3 H4 a1 a2 a3 a4 (apart H1 l1 u1) (apart H2 l2 u2) (apart H3 l3 u3) (apart H4 l4 u4) (fun x => litK (WideElems.rg Tryz.prog 3 R x).1) ?_ ?_⟩
 ·unfold glob at hgi
  split at hgi
  ·rename_i hg
   cases hgi
   rw [Nat.eq_of_beq_eq_true hg]
   exact ⟨2, rfl⟩
  ·split at hgi
   ·rename_i hg
    cases hgi
    rw [Nat.eq_of_beq_eq_true hg]
    exact ⟨1, rfl⟩
   ·cases hgi
 ·have := (perm.map fun y => absK (litK y.1)).symm
  rw [List.map_map] at this
  exact this
 ·intro x hx
  have hx0 : WideElems.rg Tryz.prog 3 R x ∈ tab.map fun kz => ((.int .i64 kz.1, .slice (ChangeShapes.lits .i64 kz.2) []) : Lit × DataW Unit) := perm.mem_iff.2 (List.mem_map.2 ⟨x, hx, rfl⟩)
  obtain ⟨kz, hkz, hrg⟩ := List.mem_map.1 hx0
  simp only [tab, List.mem_cons, List.not_mem_nil, or_false] at hkz
  rcases hkz with rfl | rfl | rfl | rfl
  ·obtain ⟨k, _⟩ := ent x hx _ (by decide) hrg.symm
   have := keys x hx x1 hm1 (k.trans k1.symm)
   subst this
   exact .inl ⟨c1, k, by rw [hr1]; rfl, v1⟩
  ·obtain ⟨k, _⟩ := ent x hx _ (by decide) hrg.symm
   have := keys x hx x2 hm2 (k.trans k2.symm)
   subst this
   exact .inr (.inl ⟨c2, k, by rw [hr2]; rfl, v2⟩)
  ·obtain ⟨k, _⟩ := ent x hx _ (by decide) hrg.symm
   have := keys x hx x3 hm3 (k.trans k3.symm)
   subst this
   exact .inr (.inr (.inl ⟨c3, k, by rw [hr3]; rfl, v3⟩))
  ·obtain ⟨k, _⟩ := ent x hx _ (by decide) hrg.symm
   have := keys x hx x4 hm4 (k.trans k4.symm)
   subst this
   exact .inr (.inr (.inr ⟨c4, k, by rw [hr4]; rfl, v4⟩))
end Go.Proofs.YtiigkjnhmipnfaaGreatDoor
namespace Go.Proofs.YtiigkjnhmipnfaaGreatDoor
def laidL : List (String × DataW Unit) := [("monocle/surface.one", Rows.laid_monocle_surface_one), ("monocle/surface.places", Rows.laid_monocle_surface_places)]
end Go.Proofs.YtiigkjnhmipnfaaGreatDoor
