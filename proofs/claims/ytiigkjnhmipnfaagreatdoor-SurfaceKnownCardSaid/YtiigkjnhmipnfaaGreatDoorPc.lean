/- What is proved: a part of the proof that SurfaceKnown returns true. No conditions beyond those of the row. -/
import Derived.Test.YtiigkjnhmipnfaaGreatDoorPb
set_option linter.unusedVariables false
set_option linter.unusedSimpArgs false
namespace Go.Proofs.YtiigkjnhmipnfaaGreatDoor
open Go Go.Eng

def litK : Lit → Int
  | .int _ n => n
  | _ => 0

theorem pw_eq : ∀ {l : List MapEntry}, l.Pairwise (fun a b => a.key ≠ b.key) → ∀ {x y : MapEntry}, x ∈ l → y ∈ l → x.key = y.key → x = y
  | [], _, x, _, h, _, _ => by cases h
  | a :: l, hp, x, y, hx, hy, hk => by
    rw [List.pairwise_cons] at hp
    rcases List.mem_cons.1 hx with hx1 | hx1 <;> rcases List.mem_cons.1 hy with hy1 | hy1
    · rw [hx1, hy1]
    · rw [hx1] at hk; exact absurd hk (hp.1 y hy1)
    · rw [hy1] at hk; exact absurd hk.symm (hp.1 x hx1)
    · exact pw_eq hp.2 hx1 hy1 hk

theorem two_of_len {α : Type} : ∀ {l : List α}, l.length = 2 → ∃ a b, l = [a, b]
  | [a, b], _ => ⟨a, b, rfl⟩
  | [], h => by cases h
  | [_], h => by cases h
  | _ :: _ :: _ :: _, h => by simp at h

def numD : DataW Unit → Int
  | .lit (.int _ n) => n
  | _ => 0

def partsD : DataW Unit → List Int
  | .agg l => l.map numD
  | _ => []

set_option maxRecDepth 100000 in
theorem of_laid {W : World} (h : laidMetH Tryz.prog [("monocle/surface.one", Rows.laid_monocle_surface_one), ("monocle/surface.places", Rows.laid_monocle_surface_places)] W) :
    ∃ σ : Sg, (∀ gl i, glob gl = some i → ∃ N, σ i = some (gl, N)) ∧ HRel σ hG W := by
  rw [MakeChecks.laidMetH_plain _ _ _ (by kernel_rfl)] at h
  obtain ⟨ps, ⟨g0, t0, cs0, f0, p0, q0, hg0, ht0, hv0, hd0, ⟨g1, t1, cs1, f1, p1, q1, hg1, ht1, hv1, hd1, hq1, hps1⟩, hps0⟩, hnd, hfr⟩ := h
  obtain rfl := Option.some.inj (gOne.symm.trans hg0)
  obtain rfl := Option.some.inj (gPlaces.symm.trans hg1)
  obtain rfl := Option.some.inj (tOne.symm.trans ht0)
  obtain rfl := Option.some.inj (tPlaces.symm.trans ht1)
  have q1e : q1 = [] := hq1
  subst q1e
  rw [List.append_nil] at hps1
  subst hps1 hps0
  obtain ⟨e0, r0, hb0⟩ := var_block gOne hv0
  obtain ⟨e1, r1, hb1⟩ := var_block gPlaces hv1
  -- one
  have one : cs0.toList = [.int .i64 4294967296, .int .i64 4294967296] := by
    obtain ⟨y0, y1, n, hx, hl, h0, h1⟩ := ChangeShapes.trod_struct2 Tryz.underlying56 hd0
    have c3 : Tryz.prog.cellsOf 3 = 1 := by kernel_rfl
    have c56 : Tryz.prog.cellsOf 56 = 2 := by kernel_rfl
    rw [c56] at hl
    obtain ⟨a, b, hab⟩ := two_of_len hl
    rw [hab] at h0 h1 ⊢
    obtain ⟨n0, m1, m2, _⟩ := DataW.trod_int (k := .i64) Tryz.underlying3 h0
    obtain ⟨n1, m3, m4, _⟩ := DataW.trod_int (k := .i64) Tryz.underlying3 h1
    rw [c3] at m1 m3
    have m1 : [a] = [.int .i64 n0] := m1
    have m3 : [b] = [.int .i64 n1] := m3
    have hx1 : DataW.agg [.lit (.int .i64 4294967296), .lit (.int .i64 4294967296)] = DataW.agg [y0.1, y1.1] := (Prod.mk.inj hx).1
    have hk := congrArg partsD hx1
    rw [m2, m4] at hk
    have hk : [4294967296, 4294967296] = [n0, n1] := hk
    have j1 := (List.cons.inj hk).1
    have j2 := (List.cons.inj (List.cons.inj hk).2).1
    rw [(List.cons.inj m1).1, (List.cons.inj m3).1, ← j1, ← j2]
  -- places
  rcases WideElems.open_map Tryz.underlying135 hd1 with ⟨_, hx⟩ | ⟨bm, es, clock, n, _, hcs, hbm, _, F, hx⟩
  · cases (Prod.mk.inj hx).1
  obtain ⟨hx1, hx2⟩ := Prod.mk.inj hx
  have hL : (es.toList.map (WideElems.rg Tryz.prog 3 (WideElems.elemAt (fun _ => ()) Tryz.prog W 0 (fun _ => true) false n 68))).foldr DataW.insert [] = tab.map fun kz => ((.int .i64 kz.1, .slice (ChangeShapes.lits .i64 kz.2) []) : Lit × DataW Unit) := by
    have hx1 : DataW.map (tab.map fun kz => ((.int .i64 kz.1, .slice (ChangeShapes.lits .i64 kz.2) []) : Lit × DataW Unit)) = DataW.map _ := hx1
    injection hx1 with hx1
    exact hx1.symm
  have perm := WideShapes.sorted_perm (es.toList.map (WideElems.rg Tryz.prog 3 (WideElems.elemAt (fun _ => ()) Tryz.prog W 0 (fun _ => true) false n 68)))
  rw [hL] at perm
  generalize hR : WideElems.elemAt (fun _ => ()) Tryz.prog W 0 (fun _ => true) false n 68 = R at *
  have ent : ∀ x ∈ es.toList, ∀ kz : Int × List Int, 0 < kz.2.length → WideElems.rg Tryz.prog 3 R x = (.int .i64 kz.1, .slice (ChangeShapes.lits .i64 kz.2) []) →
      x.key = .int .i64 kz.1 ∧ ∃ B o c, x.val = .slice (some ⟨B, o, none⟩) kz.2.length c ∧ At W B o kz.2 ∧ ∀ i, i < kz.2.length → MemPlace.cell B (o + i) ∈ p1 := by
    intro x hxm kz hne hrg
    obtain ⟨y, hy⟩ := F.reads x hxm
    rw [WideElems.rg_of hy] at hrg
    subst hR
    obtain ⟨h1, B, o, c, h2, h3, h4⟩ := entry_at hy hrg hne
    refine ⟨h1, B, o, c, h2, h3, fun i hi => ?_⟩
    rw [hx2]
    exact List.mem_cons_of_mem _ (List.mem_flatMap.2 ⟨x, hxm, h4 i hi⟩)
  have pick : ∀ kz ∈ tab, ∃ x ∈ es.toList, WideElems.rg Tryz.prog 3 R x = (.int .i64 kz.1, .slice (ChangeShapes.lits .i64 kz.2) []) := by
    intro kz hkz
    have h1 := perm.mem_iff.1 (List.mem_map.2 ⟨kz, hkz, rfl⟩)
    obtain ⟨x, h2, h3⟩ := List.mem_map.1 h1
    exact ⟨x, h2, h3⟩
  obtain ⟨x1, hm1, hr1⟩ := pick (1, [1, 2, 5, 6, 7, 8, 10]) (by simp [tab])
  obtain ⟨x2, hm2, hr2⟩ := pick (2, [1, 2, 3, 4, 10]) (by simp [tab])
  obtain ⟨x3, hm3, hr3⟩ := pick (3, [11, 12, 13, 14, 15]) (by simp [tab])
  obtain ⟨x4, hm4, hr4⟩ := pick (4, [1, 10]) (by simp [tab])
  obtain ⟨k1, B1, o1, c1, v1, a1, m1⟩ := ent x1 hm1 (1, [1, 2, 5, 6, 7, 8, 10]) (by decide) hr1
  obtain ⟨k2, B2, o2, c2, v2, a2, m2⟩ := ent x2 hm2 (2, [1, 2, 3, 4, 10]) (by decide) hr2
  obtain ⟨k3, B3, o3, c3, v3, a3, m3⟩ := ent x3 hm3 (3, [11, 12, 13, 14, 15]) (by decide) hr3
  obtain ⟨k4, B4, o4, c4, v4, a4, m4⟩ := ent x4 hm4 (4, [1, 10]) (by decide) hr4
  -- the blocks are not frozen
  have at0 : ∀ {zs : List Int} {B o : Nat}, 0 < zs.length → At W B o zs → (∀ i, i < zs.length → MemPlace.cell B (o + i) ∈ p1) → ∃ K d, W.heap[B]? = some (.cells K d (0, 0)) ∧ o < K.size ∧ MemPlace.cell B o ∈ p1 := by
    intro zs B o hne ha hm
    have hp := hm 0 hne
    obtain ⟨K, e, fr, h1, h2⟩ := cell_row (ha 0 hne)
    obtain ⟨⟨K', d, h3⟩, _⟩ := hfr B (o + 0) (List.mem_append_right _ (List.mem_append_right _ hp))
    rw [h1] at h3; cases h3
    exact ⟨K, _, h1, (Array.getElem?_eq_some_iff.1 h2).1, hp⟩
  obtain ⟨K1, d1, H1, l1, u1⟩ := at0 (by decide) a1 m1
  obtain ⟨K2, d2, H2, l2, u2⟩ := at0 (by decide) a2 m2
  obtain ⟨K3, d3, H3, l3, u3⟩ := at0 (by decide) a3 m3
  obtain ⟨K4, d4, H4, l4, u4⟩ := at0 (by decide) a4 m4
  have z0 : cs0.size = 2 := by rw [← Array.length_toList, one]; rfl
  have z1 : cs1.size = 1 := by rw [← Array.length_toList, hcs]; rfl
  have f2 : W.heap[2]? = some (.cells cs0 e0 (0, 0)) := by
    obtain ⟨⟨c, t, h3⟩, _⟩ := hfr 2 0 (by
      refine List.mem_append_left _ (List.mem_append_left _ (MemPlace.mem_row.2 ⟨0, by omega, rfl⟩)))
    rw [hb0] at h3; cases h3; exact hb0
  have f0 : W.heap[0]? = some (.cells cs1 e1 (0, 0)) := by
    obtain ⟨⟨c, t, h3⟩, _⟩ := hfr 0 0 (by
      refine List.mem_append_right _ (List.mem_append_left _ (MemPlace.mem_row.2 ⟨0, by omega, rfl⟩)))
    rw [hb1] at h3; cases h3; exact hb1
  have apart : ∀ {B o : Nat} {K : Array Value} {d : TypeId}, W.heap[B]? = some (.cells K d (0, 0)) → o < K.size → MemPlace.cell B o ∈ p1 → B ≠ 2 ∧ B ≠ 0 := by
    intro B o K d hB ho hp
    constructor
    · rintro rfl
      rw [f2] at hB; cases hB
      have := (List.nodup_append.1 hnd).2.2 (.cell 2 o) (List.mem_append_left _ (MemPlace.mem_row.2 ⟨o, ho, by simp⟩)) (.cell 2 o) (List.mem_append_right _ hp)
      exact this rfl
    · rintro rfl
      rw [f0] at hB; cases hB
      have := (List.nodup_append.1 (List.nodup_append.1 hnd).2.1).2.2 (.cell 0 o) (MemPlace.mem_row.2 ⟨o, ho, by simp⟩) (.cell 0 o) hp
      exact this rfl
  have keys : ∀ x ∈ es.toList, ∀ y ∈ es.toList, x.key = y.key → x = y := by
    intro x hx y hy hk
    have hpw := ((MapKept.stamped_iff es clock).1 F.stamped).2.2
    exact pw_eq hpw hx hy hk
  refine ⟨sg bm B1 o1 B2 o2 B3 o3 B4 o4, fun gl i hgi => ?_, build_rel f2 one f0 hcs hbm H1 H2 H3 H4 a1 a2 a3 a4 (apart H1 l1 u1) (apart H2 l2 u2) (apart H3 l3 u3) (apart H4 l4 u4) (fun x => litK (WideElems.rg Tryz.prog 3 R x).1) ?_ ?_⟩
  · unfold glob at hgi
    split at hgi
    · rename_i hg
      cases hgi
      rw [Nat.eq_of_beq_eq_true hg]
      exact ⟨2, rfl⟩
    · split at hgi
      · rename_i hg
        cases hgi
        rw [Nat.eq_of_beq_eq_true hg]
        exact ⟨1, rfl⟩
      · cases hgi
  · have := (perm.map fun y => absK (litK y.1)).symm
    rw [List.map_map] at this
    exact this
  · intro x hx
    have hx0 : WideElems.rg Tryz.prog 3 R x ∈ tab.map fun kz => ((.int .i64 kz.1, .slice (ChangeShapes.lits .i64 kz.2) []) : Lit × DataW Unit) := perm.mem_iff.2 (List.mem_map.2 ⟨x, hx, rfl⟩)
    obtain ⟨kz, hkz, hrg⟩ := List.mem_map.1 hx0
    simp only [tab, List.mem_cons, List.not_mem_nil, or_false] at hkz
    rcases hkz with rfl | rfl | rfl | rfl
    · obtain ⟨k, _⟩ := ent x hx _ (by decide) hrg.symm
      have := keys x hx x1 hm1 (k.trans k1.symm)
      subst this
      exact .inl ⟨c1, k, by rw [hr1]; rfl, v1⟩
    · obtain ⟨k, _⟩ := ent x hx _ (by decide) hrg.symm
      have := keys x hx x2 hm2 (k.trans k2.symm)
      subst this
      exact .inr (.inl ⟨c2, k, by rw [hr2]; rfl, v2⟩)
    · obtain ⟨k, _⟩ := ent x hx _ (by decide) hrg.symm
      have := keys x hx x3 hm3 (k.trans k3.symm)
      subst this
      exact .inr (.inr (.inl ⟨c3, k, by rw [hr3]; rfl, v3⟩))
    · obtain ⟨k, _⟩ := ent x hx _ (by decide) hrg.symm
      have := keys x hx x4 hm4 (k.trans k4.symm)
      subst this
      exact .inr (.inr (.inr ⟨c4, k, by rw [hr4]; rfl, v4⟩))

end Go.Proofs.YtiigkjnhmipnfaaGreatDoor
