/- What is proved: a part of the proof that SurfaceKnown returns true. No conditions beyond those of the row. -/
import Derived.Test.YtiigkjnhmipnfaaGreatDoorBase
import Derived.Test.YtiigkjnhmipnfaaGreatDoorRows
import Derived.WideKeyElems2
import Derived.ChangeSlices
import Derived.MakeChecks
import Derived.WalkKit
import Derived.ProofKit
set_option linter.unusedVariables false
set_option linter.unusedSimpArgs false
namespace Go.Proofs.YtiigkjnhmipnfaaGreatDoor
open Go Go.Eng

theorem gOne : Tryz.prog.globalNamed "monocle/surface.one" = some 2 := by kernel_rfl
theorem gPlaces : Tryz.prog.globalNamed "monocle/surface.places" = some 0 := by kernel_rfl
theorem tOne : (Tryz.prog.globals[2]?).map (·.type) = some 56 := by kernel_rfl
theorem tPlaces : (Tryz.prog.globals[0]?).map (·.type) = some 135 := by kernel_rfl

/-- The lists of `places`. -/
def tab : List (Int × List Int) := [(1, [1, 2, 5, 6, 7, 8, 10]), (2, [1, 2, 3, 4, 10]), (3, [11, 12, 13, 14, 15]), (4, [1, 10])]

theorem var_block {W : World} {n : String} {g : Nat} {cs : Array Value} (hg : Tryz.prog.globalNamed n = some g) (h : W.var? Tryz.prog n = some cs) : ∃ e fr, W.heap[g]? = some (.cells cs e fr) := by
  simp only [World.var?, hg, Option.bind_some] at h
  split at h
  · cases h; rename_i e fr hh; exact ⟨_, _, hh⟩
  · cases h

theorem cell_row {W : World} {B o : Nat} {v : Value} (h : W.cell? ⟨B, o, none⟩ = some v) : ∃ K e fr, W.heap[B]? = some (.cells K e fr) ∧ K[o]? = some v := by
  unfold World.cell? at h
  split at h
  · rename_i K e fr hh
    exact ⟨K, e, fr, hh, by simpa using h⟩
  · cases h

/-- A list of numbers at a place. -/
def At (W : World) (B o : Nat) (zs : List Int) : Prop := ∀ i, i < zs.length → W.cell? ⟨B, o + i, none⟩ = some (.int .i64 (zs.getD i 0))

theorem slice_at {W : World} {fuel : Nat} {v : Value} {zs : List Int} {p : List MemPlace} (hne : 0 < zs.length) (hf : v.formed Tryz.prog 68 = true)
    (h : DataW.trod (fun _ => ()) Tryz.prog W 0 (fun _ => true) false fuel 68 v.cells.toList = some (.slice (ChangeShapes.lits .i64 zs) [], p)) :
    ∃ B o c, v = .slice (some ⟨B, o, none⟩) zs.length c ∧ At W B o zs ∧ ∀ i, i < zs.length → MemPlace.cell B (o + i) ∈ p := by
  rcases ChangeShapes.open_ints (k := .i64) Tryz.underlying68 Tryz.underlying3 (by kernel_rfl) h with ⟨_, hx⟩ | ⟨a, len, cap, ys, hcs, _, hl, _, hlen, hx, hcell, _⟩
  · simp at hx
  · simp only [Prod.mk.injEq, DataW.slice.injEq, if_true] at hx hlen
    obtain ⟨⟨h1, h2⟩, h3⟩ := hx
    have inj : ∀ l m : List Int, (ChangeShapes.lits (H := Unit) .i64 l) = ChangeShapes.lits .i64 m → l = m := by
      intro l
      induction l with
      | nil => intro m e; cases m with
        | nil => rfl
        | cons => simp [ChangeShapes.lits] at e
      | cons x l ih => intro m e; cases m with
        | nil => simp [ChangeShapes.lits] at e
        | cons y m =>
          simp only [ChangeShapes.lits, List.map_cons, List.cons.injEq, DataW.lit.injEq, Lit.int.injEq, true_and] at e
          rw [e.1, ih m e.2]
    have hd : ys.drop len = [] := (inj [] _ h2).symm
    have ht := inj _ _ h1
    have hle : ys.length ≤ len := by simpa using hd
    have e1 : ys.take len = ys := List.take_of_length_le hle
    rw [e1] at ht
    subst ht
    have hlen2 : len = zs.length := by omega
    subst hlen2
    obtain ⟨B, o, spot⟩ := a
    have c0 := hcell 0 hne
    have hs : spot = none := by
      simp only [Addr.add, if_true, World.cell?] at c0
      split at c0
      · cases spot with
        | none => rfl
        | some s => simp at c0
      · cases c0
    subst hs
    refine ⟨B, o, cap, ?_, fun i hi => ?_, fun i hi => ?_⟩
    · cases v with
      | agg c => simp [Value.formed, Tryz.underlying68] at hf
      | tuple c => simp [Value.formed] at hf
      | _ => exact (List.cons.inj (show [_] = [_] from hcs)).1
    · have := hcell i hi
      simp only [Addr.add] at this
      split at this
      · rename_i h0; subst h0; exact this
      · exact this
    · rw [h3]
      exact MemPlace.mem_row.2 ⟨i, hi, rfl⟩

/-- An entry of `places`. -/
theorem entry_at {W : World} {n : Nat} {x : MapEntry} {y : Lit × DataW Unit} (h : WideElems.rd Tryz.prog 3 (WideElems.elemAt (fun _ => ()) Tryz.prog W 0 (fun _ => true) false n 68) x = some y) {k : Int} {zs : List Int}
    (hy : y = (.int .i64 k, .slice (ChangeShapes.lits .i64 zs) [])) (hne : 0 < zs.length) :
    x.key = .int .i64 k ∧ ∃ B o c, x.val = .slice (some ⟨B, o, none⟩) zs.length c ∧ At W B o zs ∧ ∀ i, i < zs.length → MemPlace.cell B (o + i) ∈ WideElems.pl (WideElems.elemAt (fun _ => ()) Tryz.prog W 0 (fun _ => true) false n 68) x := by
  subst hy
  have hk := WideElems.rd_key h
  unfold WideElems.rd at h
  simp only [Option.bind_eq_some_iff, Option.map_eq_some_iff] at h
  obtain ⟨key, h1, z, h2, h3⟩ := h
  simp only [Prod.mk.injEq] at h3
  refine ⟨?_, ?_⟩
  · have e0 : keyOf Tryz.prog 3 x.key = mapKey Tryz.prog 3 x.key := by
      unfold keyOf
      rw [Tryz.underlying3]
    have e1 : ∀ v, mapKey Tryz.prog 3 v = match v with
        | .int q' n => if q' = .i64 ∧ (Lit.int .i64 n).wf = true then some (.int .i64 n) else none
        | _ => none := by
      intro v
      unfold mapKey
      rw [Tryz.underlying3]
      cases v <;> rfl
    rw [e0, e1] at hk
    split at hk
    · rename_i q' m hq
      split at hk
      · rename_i hc
        rw [hq]
        cases hk
        rw [hc.1]
      · cases hk
    · cases hk
  · have h2' := h2
    unfold WideElems.elemAt at h2
    split at h2
    · rename_i hf
      obtain ⟨d, p⟩ := z
      simp only at h3
      rw [h3.2] at h2
      obtain ⟨B, o, c, e1, e2, e3⟩ := slice_at hne hf h2
      refine ⟨B, o, c, e1, e2, fun i hi => ?_⟩
      unfold WideElems.pl
      rw [h2']
      exact e3 i hi
    · cases h2

end Go.Proofs.YtiigkjnhmipnfaaGreatDoor
