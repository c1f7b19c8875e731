/- What is proved: BendNormals returns true, whatever the input (part 14 of 30). No conditions beyond those of the row. -/
import Derived.Test.YtooloakdmdbnaaaGreatDoorPI
import Derived.Test.YtooloakdmdbnaaaGreatDoorPJ
set_option linter.unusedVariables false
set_option linter.unusedSimpArgs false
set_option linter.unusedSectionVars false
namespace Go.Proofs.YtooloakdmdbnaaaGreatDoor.K
open Go Go.Eng Go.Ar Go.Rd
noncomputable section
theorem rt_0 (s : Su) (x : Nat → Int) : rn cNm 18 s (.int true .i64 s.kd) 0 x = some (.p (rRightN s (fz 0 x)), .bool true (rRight s (fz 0 x))) := by kernel_rfl
theorem rt_1 (s : Su) (x : Nat → Int) : rn cNm 18 s (.int true .i64 s.kd) 1 x = some (.p (rRightN s (fz 1 x)), .bool true (rRight s (fz 1 x))) := by kernel_rfl
theorem rt_2 (s : Su) (x : Nat → Int) : rn cNm 18 s (.int true .i64 s.kd) 2 x = some (.p (rRightN s (fz 2 x)), .bool true (rRight s (fz 2 x))) := by kernel_rfl
theorem rt_3 (s : Su) (x : Nat → Int) : rn cNm 18 s (.int true .i64 s.kd) 3 x = some (.p (rRightN s (fz 3 x)), .bool true (rRight s (fz 3 x))) := by kernel_rfl
theorem rt_4 (s : Su) (x : Nat → Int) : rn cNm 18 s (.int true .i64 s.kd) 4 x = some (.p (rRightN s (fz 4 x)), .bool true (rRight s (fz 4 x))) := by kernel_rfl
theorem rt_5 (s : Su) (x : Nat → Int) : rn cNm 18 s (.int true .i64 s.kd) 5 x = some (.p (rRightN s (fz 5 x)), .bool true (rRight s (fz 5 x))) := by kernel_rfl
theorem rt_6 (s : Su) (x : Nat → Int) : rn cNm 18 s (.int true .i64 s.kd) 6 x = some (.p (rRightN s (fz 6 x)), .bool true (rRight s (fz 6 x))) := by kernel_rfl
theorem rt_7 (s : Su) (x : Nat → Int) : rn cNm 18 s (.int true .i64 s.kd) 7 x = some (.p (rRightN s (fz 7 x)), .bool true (rRight s (fz 7 x))) := by kernel_rfl
theorem rt_8 (s : Su) (x : Nat → Int) : rn cNm 18 s (.int true .i64 s.kd) 8 x = some (.p (rRightN s (fz 8 x)), .bool true (rRight s (fz 8 x))) := by kernel_rfl
theorem rt_9 (s : Su) (x : Nat → Int) : rn cNm 18 s (.int true .i64 s.kd) 9 x = some (.tt, .bool false false) := by kernel_rfl
theorem rt_10 (s : Su) (x : Nat → Int) : rn cNm 18 s (.int true .i64 s.kd) 10 x = some (.tt, .bool false false) := by kernel_rfl
theorem rt_11 (s : Su) (x : Nat → Int) : rn cNm 18 s (.int true .i64 s.kd) 11 x = some (.tt, .bool false false) := by kernel_rfl
theorem rt_12 (s : Su) (x : Nat → Int) : rn cNm 18 s (.int true .i64 s.kd) 12 x = some (.tt, .bool false false) := by kernel_rfl
end
end Go.Proofs.YtooloakdmdbnaaaGreatDoor.K
