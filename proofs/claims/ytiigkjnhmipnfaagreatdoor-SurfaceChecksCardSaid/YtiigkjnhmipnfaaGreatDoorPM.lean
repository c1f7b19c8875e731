/- What is proved: SurfaceChecks returns true, whatever the input (part 13 of 28). No conditions beyond those of the row. -/
import Derived.Test.YtiigkjnhmipnfaaGreatDoorPL
set_option linter.unusedVariables false
set_option linter.unusedSimpArgs false
set_option linter.unusedSectionVars false
namespace Go.Proofs.YtiigkjnhmipnfaaGreatDoor.K
open Go Go.Eng Go.Ar Go.Rd
noncomputable section
def suPair (s t : Su) (c d : AV) : List AV := [.agg (s.ini ++ [c]), .agg (t.ini ++ [d])]
def rsm (C : Ctx) (raw : Bool) (f : FuncId) (s t : Su) (c d : AV) (ys zs : List Int) : Option (Nd × AV) := oneG (viewsH raw hG [(.i64, ys), (.i64, zs)]).size hG.clock ((run C 1000).call f (suPair s t c d) (viewsH raw hG [(.i64, ys), (.i64, zs)]))
def rsk (C : Ctx) (f : FuncId) (s t : Su) (k : Nat) (x y : Nat → Int) : Option (Nd × AV) := rsm C false f s t (.pslice hG.size k false k) (.pslice (hG.size + 1) k false k) (spinF (3 * k) 0 x) (spinF (3 * k) 0 y)
def SmK (s t : Su) (x y : Nat → Int) (k : Nat) : Prop := rsk cHas 20 s t k x y = some (.p (suQ t), .bool true (smP s t (spinF (3 * k) 0 x) (spinF (3 * k) 0 y)))
def RsmK (s t : Su) (x y : Nat → Int) (k : Nat) : Prop := rsk cHas 21 s t k x y = some (.tt, .bool true (smR s t (spinF (3 * k) 0 x) (spinF (3 * k) 0 y)))
theorem sm_0 (s t : Su) (x y : Nat → Int) : SmK s t x y 0 := by unfold SmK; kernel_rfl
theorem rsm_0 (s t : Su) (x y : Nat → Int) : RsmK s t x y 0 := by unfold RsmK; kernel_rfl
theorem sm_1 (s t : Su) (x y : Nat → Int) : SmK s t x y 1 := by unfold SmK; kernel_rfl
theorem rsm_1 (s t : Su) (x y : Nat → Int) : RsmK s t x y 1 := by unfold RsmK; kernel_rfl
theorem sm_2 (s t : Su) (x y : Nat → Int) : SmK s t x y 2 := by unfold SmK; kernel_rfl
theorem rsm_2 (s t : Su) (x y : Nat → Int) : RsmK s t x y 2 := by unfold RsmK; kernel_rfl
theorem sm_3 (s t : Su) (x y : Nat → Int) : SmK s t x y 3 := by unfold SmK; kernel_rfl
theorem rsm_3 (s t : Su) (x y : Nat → Int) : RsmK s t x y 3 := by unfold RsmK; kernel_rfl
theorem sm_4 (s t : Su) (x y : Nat → Int) : SmK s t x y 4 := by unfold SmK; kernel_rfl
theorem rsm_4 (s t : Su) (x y : Nat → Int) : RsmK s t x y 4 := by unfold RsmK; kernel_rfl
theorem sm_5 (s t : Su) (x y : Nat → Int) : SmK s t x y 5 := by unfold SmK; kernel_rfl
theorem rsm_5 (s t : Su) (x y : Nat → Int) : RsmK s t x y 5 := by unfold RsmK; kernel_rfl
theorem sm_6 (s t : Su) (x y : Nat → Int) : SmK s t x y 6 := by unfold SmK; kernel_rfl
theorem rsm_6 (s t : Su) (x y : Nat → Int) : RsmK s t x y 6 := by unfold RsmK; kernel_rfl
theorem sm_7 (s t : Su) (x y : Nat → Int) : SmK s t x y 7 := by unfold SmK; kernel_rfl
theorem rsm_7 (s t : Su) (x y : Nat → Int) : RsmK s t x y 7 := by unfold RsmK; kernel_rfl
theorem sm_8 (s t : Su) (x y : Nat → Int) : SmK s t x y 8 := by unfold SmK; kernel_rfl
theorem rsm_8 (s t : Su) (x y : Nat → Int) : RsmK s t x y 8 := by unfold RsmK; kernel_rfl
theorem sm_9 (s t : Su) (x y : Nat → Int) : SmK s t x y 9 := by unfold SmK; kernel_rfl
theorem rsm_9 (s t : Su) (x y : Nat → Int) : RsmK s t x y 9 := by unfold RsmK; kernel_rfl
theorem sm_10 (s t : Su) (x y : Nat → Int) : SmK s t x y 10 := by unfold SmK; kernel_rfl
theorem rsm_10 (s t : Su) (x y : Nat → Int) : RsmK s t x y 10 := by unfold RsmK; kernel_rfl
theorem sm_11 (s t : Su) (x y : Nat → Int) : SmK s t x y 11 := by unfold SmK; kernel_rfl
theorem rsm_11 (s t : Su) (x y : Nat → Int) : RsmK s t x y 11 := by unfold RsmK; kernel_rfl
theorem sm_12 (s t : Su) (x y : Nat → Int) : SmK s t x y 12 := by unfold SmK; kernel_rfl
theorem rsm_12 (s t : Su) (x y : Nat → Int) : RsmK s t x y 12 := by unfold RsmK; kernel_rfl
theorem sm_all (s t : Su) (x y : Nat → Int) : ∀ k : Nat, k ≤ 12 → SmK s t x y k := fun k h => match k, h with
 | 0, _ => sm_0 s t x y
 | 1, _ => sm_1 s t x y
 | 2, _ => sm_2 s t x y
 | 3, _ => sm_3 s t x y
 | 4, _ => sm_4 s t x y
 | 5, _ => sm_5 s t x y
 | 6, _ => sm_6 s t x y
 | 7, _ => sm_7 s t x y
 | 8, _ => sm_8 s t x y
 | 9, _ => sm_9 s t x y
 | 10, _ => sm_10 s t x y
 | 11, _ => sm_11 s t x y
 | 12, _ => sm_12 s t x y
 | k + 13, h => absurd h (by omega)
theorem rsm_all (s t : Su) (x y : Nat → Int) : ∀ k : Nat, k ≤ 12 → RsmK s t x y k := fun k h => match k, h with
 | 0, _ => rsm_0 s t x y
 | 1, _ => rsm_1 s t x y
 | 2, _ => rsm_2 s t x y
 | 3, _ => rsm_3 s t x y
 | 4, _ => rsm_4 s t x y
 | 5, _ => rsm_5 s t x y
 | 6, _ => rsm_6 s t x y
 | 7, _ => rsm_7 s t x y
 | 8, _ => rsm_8 s t x y
 | 9, _ => rsm_9 s t x y
 | 10, _ => rsm_10 s t x y
 | 11, _ => rsm_11 s t x y
 | 12, _ => rsm_12 s t x y
 | k + 13, h => absurd h (by omega)
abbrev smPa : List Pa := [.s suI .i64, .s suI .i64]
end
end Go.Proofs.YtiigkjnhmipnfaaGreatDoor.K
