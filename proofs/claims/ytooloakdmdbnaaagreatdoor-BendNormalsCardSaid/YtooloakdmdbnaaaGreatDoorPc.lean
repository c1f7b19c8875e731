/- What is proved: BendNormals returns true, whatever the input (part 29 of 30). No conditions beyond those of the row. -/
import Derived.Test.YtooloakdmdbnaaaGreatDoorPF
import Derived.Test.YtooloakdmdbnaaaGreatDoorPP
import Derived.Test.YtooloakdmdbnaaaGreatDoorPb
set_option linter.unusedVariables false
set_option linter.unusedSimpArgs false
set_option linter.unusedSectionVars false
namespace Go.Proofs.YtooloakdmdbnaaaGreatDoor
open Go Go.Eng
set_option maxRecDepth 100000 in
def table3 : List (Rw) :=
 r353 ::
 r354 ::
 r355 ::
 r356 ::
 r357 ::
 r358 ::
 r359 ::
 r360 ::
 r361 ::
 r362 ::
 r363 ::
 r364 ::
 r365 ::
 r366 ::
 r367 ::
 r368 ::
 r369 ::
 r370 ::
 r371 ::
 r372 ::
 r373 ::
 r374 ::
 r375 ::
 r376 ::
 r377 ::
 r378 ::
 r379 ::
 r380 ::
 r381 ::
 r382 ::
 r383 ::
 r384 ::
 r385 ::
 r386 ::
 r387 ::
 r388 ::
 r389 ::
 r390 ::
 r391 ::
 r392 ::
 r393 ::
 r394 ::
 r395 ::
 r396 ::
 r397 ::
 r398 ::
 r399 ::
 table2
set_option maxRecDepth 100000 in
theorem table3_ok : ∀ x ∈ table3, MemoOk Tryz.prog glob hG x :=
 more c353 (more c354 (more c355 (more c356 (more c357 (more c358 (more c359 (more c360 (more c361 (more c362 (more c363 (more c364 (more c365 (more c366 (more c367 (more c368 (more c369 (more c370 (more c371 (more c372 (more c373 (more c374 (more c375 (more c376 (more c377 (more c378 (more c379 (more c380 (more c381 (more c382 (more c383 (more c384 (more c385 (more c386 (more c387 (more c388 (more c389 (more c390 (more c391 (more c392 (more c393 (more c394 (more c395 (more c396 (more c397 (more c398 (more c399 (table2_ok)))))))))))))))))))))))))))))))))))))))))))))))
end Go.Proofs.YtooloakdmdbnaaaGreatDoor
namespace Go.Proofs.YtooloakdmdbnaaaGreatDoor
open Go Go.Eng
def r400 : Rw := (48, [(.agg [J 1, J 0, J 0, J 0, J 0, J 0, J 0, J 0, J 0, J 0, J 0, J 0, J 0, (.str false ⟨#[]⟩), J 0, J 0, J 0, J 0, J 0, J 0, J 0, .nilslice]), Q 4294967296 4294967296, Q 8589934592 8589934592], (.tuple [Q 0 0, Q 0 0, J 0]))
theorem c400 : MO r400 := kn1 table3_ok (by kernel_rfl)
def r401 : Rw := (48, [(.agg [J 1, J 10000000, J 0, J 0, J 0, J 0, J 0, J 0, J 0, J 0, J 0, J 0, J 0, (.str false ⟨#[]⟩), J 0, J 0, J 0, J 0, J 0, J 0, J 0, .nilslice]), Q 257698037760 257698037760, Q 0 0], (.tuple [Q 3221225470 3221225474, Q 0 0, J 0]))
theorem c401 : MO r401 := kn1 table3_ok (by kernel_rfl)
def r402 : Rw := (48, [(.agg [J 1, J 0, J 0, J 0, J 0, J 0, J 0, J 0, J 0, J 0, J 0, J 0, J 0, (.str false ⟨#[]⟩), J 0, J 0, J 0, J 0, J 0, J 0, J 0, .nilslice]), Q 0 0, Q 0 0], (.tuple [Q 0 0, Q 0 0, J 0]))
theorem c402 : MO r402 := kn1 table3_ok (by kernel_rfl)
def r403 : Rw := (48, [(.agg [J 1, J 0, J 0, J 0, J 0, J 0, J 0, J 0, J 0, J 0, J 0, J 0, J 0, (.str false ⟨#[77, 73, 82, 82, 79, 82]⟩), J 0, J 0, J 0, J 0, J 0, J 0, J 0, .nilslice]), Q 0 0, Q 0 0], (.tuple [Q 0 0, Q 0 0, J 0]))
theorem c403 : MO r403 := kn1 table3_ok (by kernel_rfl)
def r404 : Rw := (48, [(.agg [J 1, J 0, J 0, J 0, J 0, J 0, J 0, J 0, J 0, J 5000000, J 0, J 1, J 0, (.str false ⟨#[]⟩), J 0, J 0, J 0, J 0, J 0, J 0, J 0, .nilslice]), Q 4294967296 4294967296, Q 0 0], (.tuple [Q 0 0, Q 0 0, J 0]))
theorem c404 : MO r404 := kn1 table3_ok (by kernel_rfl)
end Go.Proofs.YtooloakdmdbnaaaGreatDoor
namespace Go.Proofs.YtooloakdmdbnaaaGreatDoor
open Go Go.Eng
set_option maxRecDepth 100000 in
def table4 : List (Rw) :=
 r400 ::
 r401 ::
 r402 ::
 r403 ::
 r404 ::
 table3
set_option maxRecDepth 100000 in
theorem table4_ok : ∀ x ∈ table4, MemoOk Tryz.prog glob hG x :=
 more c400 (more c401 (more c402 (more c403 (more c404 (table3_ok)))))
end Go.Proofs.YtooloakdmdbnaaaGreatDoor
namespace Go.Proofs.YtooloakdmdbnaaaGreatDoor
open Go Go.Eng
def r405 : Rw := (8, [(.agg [J 1, J 0, J 0, J 0, J 0, J 0, J 0, J 0, J 0, J 0, J 0, J 0, J 0, (.str false ⟨#[]⟩), J 0, J 0, J 0, J 0, J 0, J 0, J 0, .nilslice]), V3 4294967296 4294967296 8589934592 8589934592 0 0], (.tuple [V3 0 0 0 0 4294967296 4294967296, J 0, J 0]))
theorem c405 : MO r405 := kn1 table4_ok (by kernel_rfl)
def r406 : Rw := (8, [(.agg [J 1, J 10000000, J 0, J 0, J 0, J 0, J 0, J 0, J 0, J 0, J 0, J 0, J 0, (.str false ⟨#[]⟩), J 0, J 0, J 0, J 0, J 0, J 0, J 0, .nilslice]), V3 257698037760 257698037760 0 0 85899345920 85899345920], (.tuple [V3 (-2576980381) (-2576980375) 0 0 3435973835 3435973839, J 0, J 0]))
theorem c406 : MO r406 := kn1 table4_ok (by kernel_rfl)
def r407 : Rw := (12, [(.agg [J 1, J 0, J 0, J 0, J 0, J 0, J 0, J 0, J 0, J 0, J 0, J 0, J 0, (.str false ⟨#[]⟩), J 0, J 0, J 0, J 0, J 0, J 0, J 0, .nilslice]), J 10000000, J 15000000, J 500000, V3 0 0 0 0 0 0, V3 0 0 3221225472 3221225472 2684354560 2684354560], (.tuple [V3 0 0 2147483648 2147483648 3719550785 3719550789, J 0, J 0]))
theorem c407 : MO r407 := kn1 table4_ok (by kernel_rfl)
def r408 : Rw := (12, [(.agg [J 1, J 0, J 0, J 0, J 0, J 0, J 0, J 0, J 0, J 0, J 0, J 0, J 0, (.str false ⟨#[]⟩), J 0, J 0, J 0, J 0, J 0, J 0, J 0, .nilslice]), J 15000000, J 10000000, J 500000, V3 0 0 0 0 0 0, V3 0 0 3221225472 3221225472 2684354560 2684354560], (.tuple [V3 0 0 0 0 0 0, J 3, J 9]))
theorem c408 : MO r408 := kn1 table4_ok (by kernel_rfl)
def r409 : Rw := (12, [(.agg [J 1, J 0, J 0, J 0, J 0, J 0, J 0, J 0, J 0, J 0, J 0, J 0, J 0, (.str false ⟨#[]⟩), J 0, J 0, J 0, J 0, J 0, J 0, J 0, .nilslice]), J 15000000, J 10000000, J 500000, V3 0 0 0 0 0 0, V3 0 0 3221225472 3221225472 0 0], (.tuple [V3 0 0 0 0 0 0, J 2, J 9]))
theorem c409 : MO r409 := kn1 table4_ok (by kernel_rfl)
def r410 : Rw := (12, [(.agg [J 1, J 0, J 0, J 0, J 0, J 0, J 0, J 0, J 0, J 0, J 0, J 0, J 0, (.str false ⟨#[77, 73, 82, 82, 79, 82]⟩), J 0, J 0, J 0, J 0, J 0, J 0, J 0, .nilslice]), J 10000000, J 10000000, J 500000, V3 0 0 0 0 0 0, V3 0 0 2147483648 2147483648 3221225472 3221225472], (.tuple [V3 0 0 2147483648 2147483648 (-3719550787) (-3719550786), J 0, J 0]))
theorem c410 : MO r410 := kn1 table4_ok (by kernel_rfl)
def r411 : Rw := (12, [(.agg [J 1, J 0, J 0, J 0, J 0, J 0, J 0, J 0, J 0, J 5000000, J 0, J 1, J 0, (.str false ⟨#[]⟩), J 0, J 0, J 0, J 0, J 0, J 0, J 0, .nilslice]), J 10000000, J 10000000, J 500000, V3 4294967296 4294967296 0 0 0 0, V3 0 0 0 0 4294967296 4294967296], (.tuple [V3 214748364 214748365 0 0 4289595226 4289595228, J 0, J 0]))
theorem c411 : MO r411 := kn1 table4_ok (by kernel_rfl)
def r412 : Rw := (12, [(.agg [J 4, J 10000000, J 0, J 0, J 0, J 0, J 0, J 0, J 0, J 0, J 0, J 0, J 0, (.str false ⟨#[]⟩), J 0, J 0, J 0, J 0, J 0, J 0, J 0, .nilslice]), J 10000000, J 10000000, J 500000, V3 42949672960 42949672960 0 0 0 0, V3 0 0 0 0 4294967296 4294967296], (.tuple [V3 (-427365220) (-427365218) 0 0 4273652189 4273652192, J 0, J 0]))
theorem c412 : MO r412 := kn1 table4_ok (by kernel_rfl)
def r413 : Rw := (12, [(.agg [J 1, J 0, J 0, J 0, J 0, J 0, J 0, J 0, J 0, J 0, J 0, J 0, J 0, (.str false ⟨#[]⟩), J 0, J 0, J 0, J 0, J 0, J 0, J 0, .nilslice]), J 9999999, J 10000000, J 500000, V3 0 0 0 0 0 0, V3 0 0 0 0 4294967296 4294967296], (.tuple [V3 0 0 0 0 0 0, J 0, J 2]))
theorem c413 : MO r413 := kn1 table4_ok (by kernel_rfl)
end Go.Proofs.YtooloakdmdbnaaaGreatDoor
namespace Go.Proofs.YtooloakdmdbnaaaGreatDoor
open Go Go.Eng
set_option maxRecDepth 100000 in
def table5 : List (Rw) :=
 r405 ::
 r406 ::
 r407 ::
 r408 ::
 r409 ::
 r410 ::
 r411 ::
 r412 ::
 r413 ::
 table4
set_option maxRecDepth 100000 in
theorem table5_ok : ∀ x ∈ table5, MemoOk Tryz.prog glob hG x :=
 more c405 (more c406 (more c407 (more c408 (more c409 (more c410 (more c411 (more c412 (more c413 (table4_ok)))))))))
end Go.Proofs.YtooloakdmdbnaaaGreatDoor
namespace Go.Proofs.YtooloakdmdbnaaaGreatDoor
open Go Go.Eng
theorem call414 : MemoOk Tryz.prog glob hG (10, [], (.bool false true)) := known table5_ok (by kernel_rfl) (by kernel_rfl) (by kernel_rfl)
end Go.Proofs.YtooloakdmdbnaaaGreatDoor
namespace Go.Proofs.YtooloakdmdbnaaaGreatDoor
open Go Go.Eng
end Go.Proofs.YtooloakdmdbnaaaGreatDoor
namespace Go.Eng
open Go
theorem agg_of_cells {v : Value} (h : 1 < v.cells.toList.length) : v = .agg v.cells.toList.toArray := by
 cases v <;> simp_all [Value.cells]
end Go.Eng
namespace Go.Eng
open Go
noncomputable section
theorem add_viewA {σ : Sg} {h : Hp} {W : World} (r : HRel σ h W) {k : IntKind} {B N : Nat} {fs : List Int} (hne : fs ≠ []) (hc : ∀ i, i < fs.length → W.cell? ⟨B, N + i, none⟩ = some (.int k (fs.getD i 0)))
  (apart : ∀ i b M, h.get i = some b → b.body.isDead = false → σ i = some (B, M) → b.body.isView = true) :
  HRel (σ.add h.size (B, N)) (h.push0 (.view (fs.map fun n => .int true k n))) W := by
 have hpos : 0 < fs.length := List.length_pos_iff.2 hne
 have row : ∃ K e fr, W.heap[B]? = some (.cells K e fr) ∧ ∀ i, i < fs.length → K[N + i]? = some (.int k (fs.getD i 0)) := by
  have h0 := hc 0 hpos
  unfold World.cell? at h0
  split at h0
  ·rename_i K e fr hh
   refine ⟨K, e, fr, hh, fun i hi => ?_⟩
   have := hc i hi
   unfold World.cell? at this
   rw [hh] at this
   simpa using this
  ·cases h0
 obtain ⟨K, e, fr, hB, hK⟩ := row
 have hs := Sub.add (x := (B, N)) r.fresh
 have main : BRel (σ.add h.size (B, N)) N (.view (fs.map fun n => .int true k n)) (.cells K e fr) := by
  refine ⟨K, e, fr, rfl, ?_⟩
  have : (K.toList.drop N).take (fs.map fun n => AV.int true k n).length = fs.map (Value.int k) := by
   apply List.ext_getElem?
   intro i
   rw [List.getElem?_take, List.length_map]
   by_cases hi : i < fs.length
   ·rw [if_pos hi, List.getElem?_drop, Array.getElem?_toList, hK i hi]
    simp [List.getD_eq_getElem?_getD, hi]
   ·rw [if_neg hi, List.getElem?_eq_none (by simpa using hi)]
  rw [this]
  have rels : ∀ l : List Int, VRels (σ.add h.size (B, N)) (l.map fun n => .int true k n) (l.map (Value.int k)) := by
   intro l
   induction l with
   | nil => exact rfl
   | cons a l ih => exact ⟨_, _, rfl, rfl, ih⟩
  exact rels fs
 refine ⟨by have := r.ok; simp only [Hp.ok, Hp.push0, List.length_cons] at this ⊢; omega, fun i b hg hd => ?_, fun i B' M hσ => ?_, fun i j b c B' M M' hg hg' hd hd' e1 e2 => ?_⟩
 ·rw [Hp.get_push0] at hg
  split at hg
  ·rename_i hi; subst hi; cases hg
   exact ⟨B, N, _, add_here, hB, main⟩
  ·obtain ⟨B', M, o, h1, h2, h3⟩ := r.blk i b hg hd
   exact ⟨B', M, o, hs _ _ h1, h2, h3.mono hs⟩
 ·unfold Sg.add at hσ
  split at hσ
  ·rename_i hi; subst hi; cases hσ
   exact ⟨Nat.lt_succ_self _, (Array.getElem?_eq_some_iff.1 hB).1⟩
  ·have := r.dom i B' M hσ
   exact ⟨Nat.lt_succ_of_lt this.1, this.2⟩
 ·rw [Hp.get_push0] at hg hg'
  unfold Sg.add at e1 e2
  by_cases hi : i = h.size <;> by_cases hj : j = h.size
  ·exact .inl (hi.trans hj.symm)
  ·right
   rw [if_pos hi] at e1 hg
   rw [if_neg hj] at e2 hg'
   cases e1; cases hg
   exact ⟨rfl, apart j c M' hg' hd' e2⟩
  ·right
   rw [if_neg hi] at e1 hg
   rw [if_pos hj] at e2 hg'
   cases e2; cases hg'
   exact ⟨apart i b M hg hd e1, rfl⟩
  ·rw [if_neg hi] at e1 hg
   rw [if_neg hj] at e2 hg'
   exact r.inj i j b c B' M M' hg hg' hd hd' e1 e2
def noM (k : IntKind) (m : Nat) : ABody → Bool
 | .cells l => Nat.blt l.length m || noK k (.cells l)
 | .rows _ _ => true
 | b => noK k b
theorem apart_of {σ : Sg} {h : Hp} {W : World} (r : HRel σ h W) {k : IntKind} {m : Nat} (hb : (h.blks.all fun b => noM k m b.body) = true) {B N : Nat} {fs : List Int} (hm : 0 < m) (hf : m ≤ fs.length) (hc : ∀ i, i < fs.length → W.cell? ⟨B, N + i, none⟩ = some (.int k (fs.getD i 0))) :
  ∀ i b M, h.get i = some b → b.body.isDead = false → σ i = some (B, M) → b.body.isView = true := by
 have hpos : 0 < fs.length := by omega
 have row : ∃ K e fr, W.heap[B]? = some (.cells K e fr) ∧ ∀ i, i < fs.length → K[N + i]? = some (.int k (fs.getD i 0)) := by
  have h0 := hc 0 hpos
  unfold World.cell? at h0
  split at h0
  ·rename_i K e fr hh
   refine ⟨K, e, fr, hh, fun i hi => ?_⟩
   have := hc i hi
   unfold World.cell? at this
   rw [hh] at this
   simpa using this
  ·cases h0
 obtain ⟨K, e, fr, hB, hK⟩ := row
 intro i b M hg hd hσ
 obtain ⟨B', M', o, h1, h2, h3⟩ := r.blk i b hg hd
 rw [hσ] at h1; cases h1
 rw [hB] at h2; cases h2
 have hbb := List.all_eq_true.1 hb b (by
  have hlt := Hp.get_lt hg
  rw [Hp.get_eq, if_pos hlt] at hg
  exact List.mem_of_getElem? hg)
 cases hbody : b.body with
 | cells l =>
  rw [hbody] at h3 hbb
  obtain ⟨K', e', h4, h5, h6⟩ := h3
  cases h4
  have hlen : l.length = K.size := by have := VRels.length h5; simpa using this.symm
  simp only [noM, Bool.or_eq_true] at hbb
  rcases hbb with hbb | hbb
  ·exfalso
   have hlt : l.length < m := Nat.le_of_ble_eq_true hbb
   have h0 := hK (m - 1) (by omega)
   have hN : N + (m - 1) < K.size := (Array.getElem?_eq_some_iff.1 h0).1
   omega
  ·have h0 := hK 0 hpos
   have hN : N + 0 < K.size := (Array.getElem?_eq_some_iff.1 h0).1
   obtain ⟨a, ha⟩ : ∃ a, l[N + 0]? = some a := ⟨_, List.getElem?_eq_getElem (by omega)⟩
   obtain ⟨v, hv, hav⟩ := VRels.nth h5 (by rw [nth_eq]; exact ha)
   rw [Array.getElem?_toList, h0] at hv
   cases hv
   have := List.all_eq_true.1 hbb a (List.mem_of_getElem? ha)
   split at this
   ·rename_i s' k' n'
    have h8 : Value.int k (fs.getD 0 0) = Value.int k' n' := hav
    cases h8
    simp at this
   ·obtain ⟨_, _, _, h8⟩ := hav; cases h8
   ·cases this
 | view l => rfl
 | rows ik xs => rfl
 | map es =>
  rw [hbody] at h3
  obtain ⟨_, _, _, h4, _⟩ := h3
  cases h4
 | _ => rw [hbody] at hbb; cases hbb
structure Lst (W : World) (ik : IntKind) (m : Nat) (v : Value) (n : Int) (zs : List Int) : Prop where
 val : ∃ p len c, v = .slice p len c ∧ len ≤ c ∧ n = len ∧ zs.length = m * len ∧ (zs ≠ [] → ∃ B N, p = some ⟨B, N, none⟩ ∧ ∀ i, i < zs.length → W.cell? ⟨B, N + i, none⟩ = some (.int ik (zs.getD i 0)))
theorem lst_rel {σ : Sg} {h : Hp} {W : World} (r : HRel σ h W) {ik : IntKind} {m : Nat} (hm : 0 < m) (hb : (h.blks.all fun b => noM ik m b.body) = true) {v : Value} {n : Int} {zs : List Int} (b : Lst W ik m v n zs) :
  ∃ τ, Sub σ τ ∧ HRel τ (h.push0 (.rows ik zs)) W ∧ VRel τ (.lslice h.size n) v := by
 obtain ⟨p, len, c, rfl, hcap, hn, hl, hp⟩ := b
 cases zs with
 | nil =>
  have h0 : len = 0 := by
   rcases Nat.eq_zero_or_pos len with h | h
   ·exact h
   ·have := Nat.mul_pos hm h
    simp only [List.length_nil] at hl
    omega
  subst h0
  exact ⟨σ, Sub.refl _, view_dead r rfl, p, 0, c, rfl, ⟨hn.symm, hcap⟩, .inl rfl⟩
 | cons f fs =>
  obtain ⟨B, N, rfl, hc⟩ := hp (by simp)
  have h1 : 0 < len := by
   rcases Nat.eq_zero_or_pos len with h | h
   ·rw [h, Nat.mul_zero] at hl; cases hl
   ·exact h
  have hf : m ≤ (f :: fs).length := by rw [hl]; exact Nat.le_mul_of_pos_right m h1
  exact ⟨_, Sub.add r.fresh, swap_top (add_viewA r (B := B) (N := N) (k := ik) (fs := f :: fs) (by simp) hc (apart_of r hb hm hf hc)) rfl rfl rfl (fun N o h => view_rows h), some ⟨B, N, none⟩, len, c, rfl, ⟨hn.symm, hcap⟩, .inr ⟨B, N, add_here, rfl⟩⟩
theorem law_struct {P : Program} {W : World} {base : Nat} {σ : Sg} {t : TypeId} {sh : List Sh} (h2 : shapeT P t = some (.a (sh ++ [.c (.any true)]))) {v : Value} (hok : Value.okWide P W .any base t v) {cs : List Value} {last : Value} (hv : v = .agg (cs ++ [last]).toArray) :
  ∃ xs, xs.map Nu.isN = Sh.kindsL sh ∧ inRange (Sh.leavesL sh) xs ∧ ∀ (τ : Sg) (i : Nat) (n : Int), Sub σ τ → VRel τ (.lslice i n) last → VRel τ (.agg ((Sh.mkL sh xs).1 ++ [.lslice i n])) v := by
 obtain ⟨xs, a1, a2, a3⟩ := law_one (σ := σ) h2 hok
 obtain ⟨_, a4⟩ := a3 []
 rw [List.append_nil] at a4
 have kl : ∀ l m : List Sh, Sh.kindsL (l ++ m) = Sh.kindsL l ++ Sh.kindsL m := by
  intro l m
  induction l with
  | nil => rfl
  | cons a l ih => simp [Sh.kindsL, ih]
 have ll : ∀ l m : List Sh, Sh.leavesL (l ++ m) = Sh.leavesL l ++ Sh.leavesL m := by
  intro l m
  induction l with
  | nil => rfl
  | cons a l ih => simp [Sh.leavesL, ih]
 have a1' : xs.map Nu.isN = Sh.kindsL sh := by
  have : xs.map Nu.isN = Sh.kindsL (sh ++ [.c (.any true)]) := a1
  rw [kl] at this; simpa [Sh.kindsL, Sh.kinds] using this
 have drop_any : ∀ (l : List Sh) (zs : List Nu), inRange (l ++ [.c (.any true)]) zs → inRange l zs := by
  intro l
  induction l with
  | nil => intro zs h; cases zs with
   | nil => trivial
   | cons z zs => simp [inRange] at h
  | cons a l ih => intro zs h; cases a with
   | i k => cases zs with
    | nil => simp [inRange] at h
    | cons z zs => cases z with
     | n x => exact ⟨h.1, ih zs h.2⟩
     | t b => simp [inRange] at h
     | s b => simp [inRange] at h
   | b => cases zs with
    | nil => simp [inRange] at h
    | cons z zs => cases z with
     | n x => simp [inRange] at h
     | t b => exact ih zs h
     | s b => simp [inRange] at h
   | str => cases zs with
    | nil => simp [inRange] at h
    | cons z zs => cases z with
     | n x => simp [inRange] at h
     | t b => simp [inRange] at h
     | s b => exact ih zs h
   | one => cases zs <;> simp [inRange] at h
   | c w =>
    have h' : inRange (l ++ [.c (.any true)]) zs := by cases zs <;> simpa [inRange] using h
    have := ih zs h'
    cases zs <;> simpa [inRange] using this
   | a m => cases zs <;> simp [inRange] at h
 have a2' : inRange (Sh.leavesL sh) xs := by
  have : inRange (Sh.leavesL (sh ++ [.c (.any true)])) xs := a2
  rw [ll] at this
  exact drop_any _ _ this
 have mk_app : ∀ (l : List Sh) (xs : List Nu), (Sh.mkL (l ++ [.c (.any true)]) xs).1 = (Sh.mkL l xs).1 ++ [.any true] := by
  intro l
  induction l with
  | nil => intro xs; rfl
  | cons a l ih => intro xs; simp only [List.cons_append, Sh.mkL, ih]
 refine ⟨xs, a1', a2', fun τ i n sub hfv => ?_⟩
 subst hv
 obtain ⟨K, hK, h5⟩ := a4
 have h6 := VRels.mono sub _ _ h5
 rw [mk_app] at h6
 cases hK
 refine ⟨_, rfl, ?_⟩
 rw [List.toList_toArray] at h6 ⊢
 exact rels_last h6 hfv
theorem cell_plain {W : World} {a : Addr} {v : Value} (h : W.cell? a = some v) : a.spot = none := by
 obtain ⟨B, N, s⟩ := a
 unfold World.cell? at h
 split at h
 ·cases s with
  | none => rfl
  | some s => simp at h
 ·cases h
theorem films_of {H : Type} {enc : TypeId × Value → H} {P : Program} {w : World} {base : Nat} {spare : Nat → Bool} {held : Bool} {fuel t e : Nat} {v : Value} {x : DataW H × List MemPlace} {f0 f1 f2 : Field} (ht : P.underlying t = some (.slice e)) (he : P.underlying e = some (.struct #[f0, f1, f2])) (hc : P.cellsOf e = 3)
  (h0 : P.underlying f0.type = some (.int .i64)) (h1 : P.underlying f1.type = some (.int .i64)) (h2 : P.underlying f2.type = some (.int .i64)) (c0 : P.cellsOf f0.type = 1) (c1 : P.cellsOf f1.type = 1) (c2 : P.cellsOf f2.type = 1) (o0 : f0.offset = 0) (o1 : f1.offset = 1) (o2 : f2.offset = 2)
  (h : DataW.trod enc P w base spare held fuel t [v] = some x) : ∃ n zs, Lst w .i64 3 v n zs := by
 rcases DataW.trod_slice ht h with ⟨h3, _⟩ | ⟨a, len, cap, elems, rest, n, _, h3, _, _, hl, _, hlen, hel, _, _⟩
 ·cases h3
  exact ⟨0, [], none, 0, 0, rfl, Nat.le_refl _, rfl, rfl, fun h => absurd rfl h⟩
 ·cases h3
  have cell : ∀ i j, i < len → j < 3 → ∃ z, w.cell? ((a.add (i * 3)).add j) = some (.int .i64 z) := by
   intro i j hi hj
   have h4 := hel i hi
   rw [hc, List.getElem?_eq_getElem (by omega), Option.bind_eq_some_iff] at h4
   obtain ⟨cs, h5, h6⟩ := h4
   obtain ⟨_, hcl, hcs⟩ := World.cells?_some h5
   obtain ⟨xs, k, _, _, _, hxl, hf⟩ := DataW.trod_struct he h6
   have one : ∀ (q : Nat) (f : Field), #[f0, f1, f2][q]? = some f → f.offset = q → P.cellsOf f.type = 1 → P.underlying f.type = some (.int .i64) → q < 3 → ∃ z, cs[q]? = some (.int .i64 z) := by
    intro q f hq ho hcf hu h9
    have h7 := hf q f hq
    have hxs : xs.length = 3 := hxl
    rw [ho, hcf, List.getElem?_eq_getElem (by omega)] at h7
    obtain ⟨z, h8, _⟩ := DataW.trod_int hu h7
    refine ⟨z, ?_⟩
    have : (cs.drop q)[0]? = some (.int .i64 z) := by
     have : ((cs.drop q).take 1)[0]? = some (.int .i64 z) := by rw [h8]; rfl
     rwa [List.getElem?_take, if_pos (by omega)] at this
    simpa using this
   have : ∃ z, cs[j]? = some (.int .i64 z) := by
    rcases j with _ | _ | _ | j
    ·exact one 0 f0 rfl o0 c0 h0 (by omega)
    ·exact one 1 f1 rfl o1 c1 h1 (by omega)
    ·exact one 2 f2 rfl o2 c2 h2 (by omega)
    ·omega
   obtain ⟨z, hz⟩ := this
   exact ⟨z, by rw [hcs j hj]; exact hz⟩
  obtain ⟨B, N, spot⟩ := a
  have cell' : ∀ q, q < 3 * len → spot = none ∧ ∃ z, w.cell? ⟨B, N + q, none⟩ = some (.int .i64 z) := by
   intro q hq
   have hs : spot = none := by
    obtain ⟨z, hz⟩ := cell 0 0 (by omega) (by omega)
    simp only [Addr.add, Nat.zero_mul, if_true] at hz
    exact cell_plain hz
   subst hs
   refine ⟨rfl, ?_⟩
   obtain ⟨z, hz⟩ := cell (q / 3) (q % 3) (by omega) (by omega)
   refine ⟨z, ?_⟩
   have e : ((⟨B, N, none⟩ : Addr).add (q / 3 * 3)).add (q % 3) = ⟨B, N + q, none⟩ := by
    unfold Addr.add
    split
    ·split
     ·have : q = 0 := by omega
      subst this; rfl
     ·simp only [Addr.mk.injEq, true_and, and_true]; omega
    ·split
     ·simp only [Addr.mk.injEq, true_and, and_true]; omega
     ·simp only [Addr.mk.injEq, true_and, and_true]; omega
   rw [e] at hz
   exact hz
  refine ⟨len, (List.range (3 * len)).map fun q => (match w.cell? ⟨B, N + q, none⟩ with | some (.int _ z) => z | _ => 0), some ⟨B, N, spot⟩, len, cap, rfl, hl, rfl, by simp, fun hne => ?_⟩
  have hpos : 0 < 3 * len := by
   rcases Nat.eq_zero_or_pos (3 * len) with h | h
   ·rw [h] at hne; exact absurd rfl hne
   ·exact h
  obtain rfl := (cell' 0 hpos).1
  refine ⟨B, N, rfl, fun q hq => ?_⟩
  simp only [List.length_map, List.length_range] at hq
  obtain ⟨z, hz⟩ := (cell' q hq).2
  rw [hz]
  simp [List.getD_eq_getElem?_getD, hq, hz]
theorem raw_films {H : Type} {enc : TypeId × Value → H} {P : Program} {W : World} {base : Nat} {spare : Nat → Bool} {held : Bool} {t e i : Nat} {fs : Array Field} {f f0 f1 f2 : Field} (ht : P.underlying t = some (.struct fs)) (hf : fs[i]? = some f) (hs : P.underlying f.type = some (.slice e)) (he : P.underlying e = some (.struct #[f0, f1, f2])) (ce : P.cellsOf e = 3)
  (h0 : P.underlying f0.type = some (.int .i64)) (h1 : P.underlying f1.type = some (.int .i64)) (h2 : P.underlying f2.type = some (.int .i64)) (c0 : P.cellsOf f0.type = 1) (c1 : P.cellsOf f1.type = 1) (c2 : P.cellsOf f2.type = 1) (o0 : f0.offset = 0) (o1 : f1.offset = 1) (o2 : f2.offset = 2)
  (off : f.offset + 1 = P.cellsOf t) (many : 0 < f.offset) (cf : P.cellsOf f.type = 1)
  {ts : List TypeId} {v : Value} {vs : List Value} {ds : List (DataW H)} {p : List MemPlace} (hA : DataW.TrodAll enc P W base spare held (t :: ts) (v :: vs) ds p) : ∃ cs last, v = .agg (cs ++ [last]).toArray ∧ ∃ n zs, Lst W .i64 3 last n zs := by
 cases ds with
 | nil => simp [DataW.TrodAll] at hA
 | cons d ds =>
  obtain ⟨_, _, ⟨fuel, h⟩, _, _⟩ := hA
  obtain ⟨xs, n, _, _, hl, hxl, hff⟩ := DataW.trod_struct ht h
  have h3 := hff i f hf
  have hi : i < fs.size := (Array.getElem?_eq_some_iff.1 hf).1
  rw [List.getElem?_eq_getElem (by omega), cf] at h3
  have hlen : ((v.cells.toList.drop f.offset).take 1).length = 1 := by simp only [List.length_take, List.length_drop]; omega
  obtain ⟨last, hlast⟩ : ∃ last, (v.cells.toList.drop f.offset).take 1 = [last] := by
   match hq : (v.cells.toList.drop f.offset).take 1, hlen with
   | [a], _ => exact ⟨a, rfl⟩
  rw [hlast] at h3
  refine ⟨v.cells.toList.take f.offset, last, ?_, films_of hs he ce h0 h1 h2 c0 c1 c2 o0 o1 o2 h3⟩
  have h4 : v.cells.toList.take f.offset ++ [last] = v.cells.toList := by
   rw [← hlast, List.take_of_length_le (l := v.cells.toList.drop f.offset) (by simp only [List.length_drop]; omega), List.take_append_drop]
  rw [h4]
  exact agg_of_cells (by omega)
theorem trod_tail {H : Type} {enc : TypeId × Value → H} {P : Program} {W : World} {base : Nat} {spare : Nat → Bool} {held : Bool} {t : Nat} {ts : List TypeId} {v : Value} {vs : List Value} {ds : List (DataW H)} {p : List MemPlace} (hA : DataW.TrodAll enc P W base spare held (t :: ts) (v :: vs) ds p) : ∃ ds p, DataW.TrodAll enc P W base spare held ts vs ds p := by
 cases ds with
 | nil => simp [DataW.TrodAll] at hA
 | cons d ds =>
  obtain ⟨_, _, _, h, _⟩ := hA
  exact ⟨_, _, h⟩
end
end Go.Eng
namespace Go.Eng
open Go
noncomputable section
theorem law_walkM {P : Program} {glob : Nat → Option Nat} {hG : Hp} {ik : IntKind} {m : Nat} (hm : 0 < m) (hb : (hG.blks.all fun b => noM ik m b.body) = true) (old : allOld hG.clock hG.blks = true) (h1 : 0 < hG.clock) {f : FuncId} {ps qs : List TypeId} {t : TypeId} {sh pshs qshs : List Sh}
  (hs1 : shapesT P ps = some pshs) (hs : shapeT P t = some (.a (sh ++ [.c (.any true)]))) (hs2 : shapesT P qs = some qshs)
  (hT : ∀ xs ws ys, xs.map Nu.isN = Sh.kindsL pshs → inRange (Sh.leavesL pshs) xs → ws.map Nu.isN = Sh.kindsL sh → inRange (Sh.leavesL sh) ws → ys.map Nu.isN = Sh.kindsL qshs → inRange (Sh.leavesL qshs) ys → ∀ (k : Int) (zs : List Int), 0 ≤ k → zs.length = m * k.toNat →
   LawTrueH P glob (hG.push0 (.rows ik zs)) f ((Sh.mkL pshs xs).1 ++ .agg ((Sh.mkL sh ws).1 ++ [.lslice hG.size k]) :: (Sh.mkL qshs ys).1))
  {W : World} {base : Nat} {σ : Sg} {A : Array Value} (g : ∀ gl i, glob gl = some i → ∃ N, σ i = some (gl, N)) (r : HRel σ hG W) {us vs : List Value} {v : Value} (hA : A.toList = us ++ v :: vs) (hu : us.length = ps.length) (hl : vs.length = qs.length)
  {cs : List Value} {last : Value} (hv : v = .agg (cs ++ [last]).toArray) (hlast : ∃ k zs, Lst W ik m last k zs)
  (hok : ∀ (j : Nat) t' v, (ps ++ t :: qs)[j]? = some t' → A.toList[j]? = some v → Value.okWide P W .any base t' v) :
  Calls P f A W fun e w' => e = .returned (.bool true) ∧ RowKit.Grown W w' ∧ ∀ B, B < W.heap.size → w'.heap[B]? = W.heap[B]? := by
 obtain ⟨k, zs, bq⟩ := hlast
 obtain ⟨xs, b1, b2, b3⟩ := law_args (P := P) (W := W) (base := base) (σ := σ) (ts := ps) (vs := us) hs1 hu fun j t' v' k1 k2 => by
  have h1 := (List.getElem?_eq_some_iff.1 k1).1
  have h2 := (List.getElem?_eq_some_iff.1 k2).1
  exact hok j t' v' (by rw [List.getElem?_append_left h1]; exact k1) (by rw [hA, List.getElem?_append_left h2]; exact k2)
 obtain ⟨_, b4⟩ := b3 []
 rw [List.append_nil] at b4
 obtain ⟨ws, a1, a2, a3⟩ := law_struct (σ := σ) hs (hok ps.length t v (by rw [List.getElem?_append_right (Nat.le_refl _), Nat.sub_self]; rfl) (by rw [hA, ← hu, List.getElem?_append_right (Nat.le_refl _), Nat.sub_self]; rfl)) hv
 obtain ⟨ys, c1, c2, c3⟩ := law_args (P := P) (W := W) (base := base) (σ := σ) (ts := qs) (vs := vs) hs2 hl fun j t' v' k1 k2 =>
  hok (ps.length + 1 + j) t' v' (by rw [List.getElem?_append_right (by omega), show ps.length + 1 + j - ps.length = j + 1 by omega]; exact k1) (by rw [hA, ← hu, List.getElem?_append_right (by omega), show us.length + 1 + j - us.length = j + 1 by omega]; exact k2)
 obtain ⟨_, c4⟩ := c3 []
 rw [List.append_nil] at c4
 obtain ⟨τ, sub, hr, hfv⟩ := lst_rel r hm hb bq
 have hk : 0 ≤ k ∧ zs.length = m * k.toNat := by
  obtain ⟨p, len, c, _, _, rfl, h8, _⟩ := bq
  exact ⟨by omega, by rw [h8, Int.toNat_natCast]⟩
 obtain ⟨C, fuel, nd, s, p, co, rfl, rfl, e1, e2, e3⟩ := hT xs ws ys b1 b2 a1 a2 c1 c2 k zs hk.1 hk.2
 have h9 := a3 τ _ k sub hfv
 have old' : allOld (hG.push0 (.rows ik zs)).clock (hG.push0 (.rows ik zs)).blks = true := by
  show (Nat.blt 0 hG.clock && allOld hG.clock hG.blks) = true
  have : Nat.blt 0 hG.clock = true := Nat.ble_eq_true_of_le h1
  rw [old, this]; rfl
 exact law_calls co old' e1 e2 e3 (fun gl i hi => by obtain ⟨N, hN⟩ := g gl i hi; exact ⟨N, sub _ _ hN⟩) hr (by rw [hA]; exact VRels.append (VRels.mono sub _ _ b4) ⟨v, vs, rfl, h9, VRels.mono sub _ _ c4⟩)
theorem trod_drop {H : Type} {enc : TypeId × Value → H} {P : Program} {W : World} {base : Nat} {spare : Nat → Bool} {held : Bool} : ∀ {us : List Value} {ps ts : List TypeId} {vs : List Value} {ds : List (DataW H)} {p : List MemPlace}, us.length = ps.length → DataW.TrodAll enc P W base spare held (ps ++ ts) (us ++ vs) ds p → ∃ ds p, DataW.TrodAll enc P W base spare held ts vs ds p
 | [], [], _, _, _, _, _, h => ⟨_, _, h⟩
 | _ :: us, _ :: ps, _, _, _, _, hl, h => by
  obtain ⟨ds', p', h'⟩ := trod_tail h
  exact trod_drop (us := us) (ps := ps) (by simpa using hl) h'
 | [], _ :: _, _, _, _, _, hl, _ => by cases hl
 | _ :: _, [], _, _, _, _, hl, _ => by cases hl
end
end Go.Eng
namespace Go.Proofs.YtooloakdmdbnaaaGreatDoor.K
open Go Go.Eng Go.Ar Go.Rd Go.Vc
noncomputable section
def shpVF (S : Sp14 → Su) : Nat → List Itm → Option (Prop × AV × List ABody) := fun sz its => match its with
 | [.n xs] => match p14Of xs with
  | some p => some (0 ≤ p.kd, .agg ((S p).ini ++ [.lslice sz 0]), [.rows .i64 []])
  | none => none
 | _ => none
def shS0 (p : Sp14) : Su := shSu (p.kd.tmod 6).toNat p.m p
theorem shpVF_0 : shpVF shS0 = shpV := by kernel_rfl
def tblBN (F : NF) (S : Sp14 → Su) : List (FuncId × NSpec) := [(8, tSpec hG 3 noPa (normT F)), (9, tSpec hG 3 noPa (normT F)), (5, lSpec hG [.n (.a p14I)] (shpVF S)), (10, hN (gH (memoSpec [] (.bool false true))))]
theorem tblBN_g : ∀ x ∈ tblBN nf0 shS0, NOk Tryz.prog glob hG x.1 x.2 := by
 intro x hx
 simp only [tblBN, shpVF_0, List.mem_cons, List.not_mem_nil, or_false] at hx
 rcases hx with rfl | rfl | rfl | rfl
 ·exact normT_ok norm_ok
 ·exact normT_ok rnorm_ok
 ·exact shp_ok
 ·exact call414.g.h.n
def cBN (F : NF) (S : Sp14 → Su) (l : List (Nat × Nat × Bool)) : Ctx := hinting (mkN Tryz.prog glob hG (tblBN F S) [] ext) (fun c t => match l with
 | [] => none
 | _ => match Nat.beq t 51 || (Nat.beq t 55 || Nat.beq t 60) with
  | true => some (.bool false false)
  | false => none)
theorem cBN_ok (l : List (Nat × Nat × Bool)) : CtxOk (cBN nf0 shS0 l) := hinting_ok (mkN_ok prog_ok ext_ok tblBN_g fun _ h => by cases h) _
structure Th where
 a : Int
 b : Int
 c : Int
 d : Int
 e : Int
 f : Int
 w : Int
 k : Bool
def Th.cells (t : Th) : List AV := [.int true .i16 t.a, .int true .i16 t.b, .int true .i16 t.c, .int true .i16 t.d, .int true .i16 t.e, .int true .i16 t.f, .int true .u8 t.w, .bool true t.k]
def hBN (zs : List Int) : Hp := hG.push0 (.rows .i64 zs)
def rBN (F : NF) (S : Sp14 → Su) (l : List (Nat × Nat × Bool)) (p : Sp14) (t : Th) (s : Su) (n : Int) (zs : List Int) (v : Ve) : Option (Nd × AV) :=
 oneG (hBN zs).size (hBN zs).clock ((run (cBN F S l) 10000).call 3 [.agg p.cells, .agg t.cells, .agg (s.ini ++ [.lslice hG.size n]), .agg v.cells] (hBN zs))
end
end Go.Proofs.YtooloakdmdbnaaaGreatDoor.K
namespace Go.Proofs.YtooloakdmdbnaaaGreatDoor.K
open Go Go.Eng Go.Ar Go.Rd Go.Vc
noncomputable section
def ctN (n : Int) : Int := if (10 : Int) < n then (10 : Int) else n
def ctI (s : Su) : Int := if (20 : Int) < (s.g.size : Int) then (20 : Int) else (s.g.size : Int)
def ctS (s : Su) : Su := { s with g := s.g.extract (Int.toNat 0) (ctI s).toNat }
def bnE (S : Su) (N : Int) : Prop := S.kd = S.kd ∧ S.c = S.c ∧ S.k = S.k ∧ S.l = S.l ∧ S.m = S.m ∧ S.a0 = S.a0 ∧ S.a1 = S.a1 ∧ S.a2 = S.a2 ∧ S.a3 = S.a3 ∧ S.f0 = S.f0 ∧ S.f1 = S.f1 ∧ S.o = S.o ∧ S.th = S.th ∧ S.g = S.g ∧ S.se = S.se ∧ S.ho = S.ho ∧ S.dx = S.dx ∧ S.dy = S.dy ∧ S.ax = S.ax ∧ S.ay = S.ay ∧ S.az = S.az ∧ N = N
def tP : Int := 2 ^ min (Int.toNat 24) IntKind.i64.bits
def tL (x : Int) : Int := IntKind.i64.wrap (IntKind.i64.wrap x * tP)
def tH (t : Th) (x i : Int) : Int := IntKind.i64.wrap (tL x + IntKind.i64.wrap (IntKind.i64.wrap (t.w.tmod 4) * i))
def thV (t : Th) : Ve := ⟨bif t.k then tL t.a else tL t.a, bif t.k then tH t t.a 0 else tH t t.a 0, bif t.k then tL t.b else tL t.b, bif t.k then tH t t.b 1 else tH t t.b 1, bif t.k then tL t.c else tL t.c, bif t.k then tH t t.c 0 else tH t t.c 0⟩
def veE (v : Ve) : Prop := v.a = v.a ∧ v.b = v.b ∧ v.c = v.c ∧ v.d = v.d ∧ v.e = v.e ∧ v.f = v.f
def veB (v : Ve) : Bool := v.a == v.a && (v.b == v.b && (v.c == v.c && (v.d == v.d && (v.e == v.e && (v.f == v.f && true)))))
def bnO (S : Su) (Y : List Int) (N : Int) : Prop := okF3 N Y ∧ S.g.size < 1000000000
def bnT (F : NF) (S : Su) (Y : List Int) (N : Int) (v : Ve) : Prop := bnO S Y N ∧ bnO S Y N ∧ (!veB (Vc.pV F S Y v)) = false ∧ (pC F S Y v != pC F S Y v) = false ∧ (pE F S Y v != pE F S Y v) = false
def bnP (F : NF) (S : Sp14 → Su) (p : Sp14) (t : Th) (s : Su) (n : Int) (zs : List Int) (v : Ve) : Prop :=
 (0 ≤ p.kd ∧ bnE s n ∧ (0 ≤ ctN n ∧ ctN n ≤ n) ∧ (0 : Int) ≤ 0 ∧ 0 ≤ ctI s ∧ ctI s ≤ (s.g.size : Int)) ∧ (veE v ∧ bnT F (S p) (List.take (3 * Int.toNat 0) []) 0 (thV t) ∧ bnT F (S p) (List.take (3 * Int.toNat 0) []) 0 v) ∧ veE v ∧ bnT F (ctS s) (List.take (3 * (ctN n).toNat) zs) (ctN n) (thV t) ∧ bnT F (ctS s) (List.take (3 * (ctN n).toNat) zs) (ctN n) v
theorem bn_run (F : NF) (S : Sp14 → Su) (p : Sp14) (t : Th) (s : Su) (n : Int) (zs : List Int) (v : Ve) : rBN F S [(0, 0, true)] p t s n zs v = some (.p (bnP F S p t s n zs v), .bool false true) := by kernel_rfl
theorem veB_t (v : Ve) : veB v = true := by unfold veB; simp only [beq_self_eq_true, Bool.and_true]
theorem bnT_t {F : NF} {S : Su} {Y : List Int} {N : Int} {v : Ve} (h : bnO S Y N) : bnT F S Y N v := ⟨h, h, by rw [veB_t]; rfl, bne_self_eq_false _, bne_self_eq_false _⟩
theorem shS0_g (p : Sp14) : (shS0 p).g.size ≤ 6 := by
 have hm : ∀ m, (mirG m).size ≤ 6 := fun m => by cases m <;> decide
 have h0 : (⟨#[]⟩ : ByteArray).size ≤ 6 := by decide
 unfold shS0 shSu
 split <;> first | exact hm _ | exact h0
theorem bnP_t {p : Sp14} {t : Th} {s : Su} {n : Int} {zs : List Int} {v : Ve} (hp : 0 ≤ p.kd) (h0 : 0 ≤ n) (hl : zs.length = 3 * n.toNat) : bnP nf0 shS0 p t s n zs v := by
 have hS := shS0_g p
 have hO : bnO (shS0 p) (List.take (3 * Int.toNat 0) []) 0 := ⟨⟨by decide, by decide, rfl⟩, by omega⟩
 have hn : 0 ≤ ctN n ∧ ctN n ≤ n ∧ ctN n ≤ 10 := by unfold ctN; split <;> omega
 have hi : 0 ≤ ctI s ∧ ctI s ≤ (s.g.size : Int) ∧ ctI s ≤ 20 := by unfold ctI; split <;> omega
 have hg : (ctS s).g.size ≤ 20 := by
  show (s.g.extract (Int.toNat 0) (ctI s).toNat).size ≤ 20
  rw [ByteArray.size_extract]
  omega
 have hC : bnO (ctS s) (List.take (3 * (ctN n).toNat) zs) (ctN n) := ⟨⟨hn.1, by omega, by rw [List.length_take, hl]; omega⟩, by omega⟩
 have hv : veE v := ⟨rfl, rfl, rfl, rfl, rfl, rfl⟩
 refine ⟨⟨hp, ?_, ⟨hn.1, hn.2.1⟩, Int.le_refl _, hi.1, hi.2.1⟩, ⟨hv, bnT_t hO, bnT_t hO⟩, hv, bnT_t hC, bnT_t hC⟩
 unfold bnE
 simp only [and_self]
def preBN : List Sh := [.a p14I, .a [.i .i16, .i .i16, .i .i16, .i .i16, .i .i16, .i .i16, .i .u8, .b]]
def postBN : List Sh := [.a [.i .i64, .i .i64, .i .i64, .i .i64, .i .i64, .i .i64]]
theorem bn_true : ∀ xs ws ys, xs.map Nu.isN = Sh.kindsL preBN → inRange (Sh.leavesL preBN) xs → ws.map Nu.isN = Sh.kindsL suI → inRange (Sh.leavesL suI) ws → ys.map Nu.isN = Sh.kindsL postBN → inRange (Sh.leavesL postBN) ys → ∀ (k : Int) (zs : List Int), 0 ≤ k → zs.length = 3 * k.toNat →
  LawTrueH Tryz.prog glob (hG.push0 (.rows .i64 zs)) 3 ((Sh.mkL preBN xs).1 ++ .agg ((Sh.mkL suI ws).1 ++ [.lslice hG.size k]) :: (Sh.mkL postBN ys).1) := by
 intro xs ws ys hx rx hw rw0 hy ry k zs hk hl
 obtain ⟨x0, _, rfl, a0⟩ := kn hx
 obtain ⟨x1, _, rfl, a1⟩ := kn a0
 obtain ⟨x2, _, rfl, a2⟩ := kn a1
 obtain ⟨x3, _, rfl, a3⟩ := kn a2
 obtain ⟨x4, _, rfl, a4⟩ := kn a3
 obtain ⟨x5, _, rfl, a5⟩ := kn a4
 obtain ⟨x6, _, rfl, a6⟩ := kn a5
 obtain ⟨x7, _, rfl, a7⟩ := kn a6
 obtain ⟨x8, _, rfl, a8⟩ := kn a7
 obtain ⟨x9, _, rfl, a9⟩ := kt a8
 obtain ⟨x10, _, rfl, a10⟩ := kn a9
 obtain ⟨x11, _, rfl, a11⟩ := kn a10
 obtain ⟨x12, _, rfl, a12⟩ := kn a11
 obtain ⟨x13, _, rfl, a13⟩ := kn a12
 obtain ⟨x14, _, rfl, a14⟩ := kn a13
 obtain ⟨x15, _, rfl, a15⟩ := kn a14
 obtain ⟨x16, _, rfl, a16⟩ := kn a15
 obtain ⟨x17, _, rfl, a17⟩ := kt a16
 obtain rfl := k0 a17
 obtain ⟨s0, _, rfl, b0⟩ := kn hw
 obtain ⟨s1, _, rfl, b1⟩ := kn b0
 obtain ⟨s2, _, rfl, b2⟩ := kn b1
 obtain ⟨s3, _, rfl, b3⟩ := kn b2
 obtain ⟨s4, _, rfl, b4⟩ := kn b3
 obtain ⟨s5, _, rfl, b5⟩ := kn b4
 obtain ⟨s6, _, rfl, b6⟩ := kn b5
 obtain ⟨s7, _, rfl, b7⟩ := kn b6
 obtain ⟨s8, _, rfl, b8⟩ := kn b7
 obtain ⟨s9, _, rfl, b9⟩ := kn b8
 obtain ⟨s10, _, rfl, b10⟩ := kn b9
 obtain ⟨s11, _, rfl, b11⟩ := kn b10
 obtain ⟨s12, _, rfl, b12⟩ := kn b11
 obtain ⟨s13, _, rfl, b13⟩ := ks b12
 obtain ⟨s14, _, rfl, b14⟩ := kn b13
 obtain ⟨s15, _, rfl, b15⟩ := kn b14
 obtain ⟨s16, _, rfl, b16⟩ := kn b15
 obtain ⟨s17, _, rfl, b17⟩ := kn b16
 obtain ⟨s18, _, rfl, b18⟩ := kn b17
 obtain ⟨s19, _, rfl, b19⟩ := kn b18
 obtain ⟨s20, _, rfl, b20⟩ := kn b19
 obtain rfl := k0 b20
 obtain ⟨y0, _, rfl, c0⟩ := kn hy
 obtain ⟨y1, _, rfl, c1⟩ := kn c0
 obtain ⟨y2, _, rfl, c2⟩ := kn c1
 obtain ⟨y3, _, rfl, c3⟩ := kn c2
 obtain ⟨y4, _, rfl, c4⟩ := kn c3
 obtain ⟨y5, _, rfl, c5⟩ := kn c4
 obtain rfl := k0 c5
 obtain ⟨w0, -⟩ := rx
 exact ⟨cBN nf0 shS0 [(0, 0, true)], 10000, _, _, _, cBN_ok _, rfl, rfl, bn_run nf0 shS0 ⟨x0, x1, x2, x3, x4, x5, x6, x7, x8, x9⟩ ⟨x10, x11, x12, x13, x14, x15, x16, x17⟩ ⟨s0, s1, s2, s3, s4, s5, s6, s7, s8, s9, s10, s11, s12, s13, s14, s15, s16, s17, s18, s19, s20⟩ k zs ⟨y0, y1, y2, y3, y4, y5⟩, bnP_t w0.1 hk hl, rfl⟩
end
end Go.Proofs.YtooloakdmdbnaaaGreatDoor.K
