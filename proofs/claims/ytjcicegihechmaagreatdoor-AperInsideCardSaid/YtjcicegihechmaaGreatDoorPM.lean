/- What is proved: AperInside returns true, whatever the input (part 13). No conditions beyond those of the row. -/
import Derived.Test.YtjcicegihechmaaGreatDoorPK
import Derived.Test.YtjcicegihechmaaGreatDoorPL
set_option linter.unusedVariables false
set_option linter.unusedSimpArgs false
set_option linter.unusedSectionVars false
namespace Go.Proofs.YtjcicegihechmaaGreatDoor.K
open Go Go.Eng Go.Ar Go.Rd
noncomputable section
theorem ch1_0 (s:Su) (x:Nat->Int):rn cNm 17 s (.int false .i64 1) 0 x=some (.p (chk1N s (fz 0 x)),.int true .i64 (chk1V s (fz 0 x))):=by kernel_rfl
theorem ch1_1 (s:Su) (x:Nat->Int):rn cNm 17 s (.int false .i64 1) 1 x=some (.p (chk1N s (fz 1 x)),.int true .i64 (chk1V s (fz 1 x))):=by kernel_rfl
theorem ch1_2 (s:Su) (x:Nat->Int):rn cNm 17 s (.int false .i64 1) 2 x=some (.p (chk1N s (fz 2 x)),.int true .i64 (chk1V s (fz 2 x))):=by kernel_rfl
theorem ch1_3 (s:Su) (x:Nat->Int):rn cNm 17 s (.int false .i64 1) 3 x=some (.p (chk1N s (fz 3 x)),.int true .i64 (chk1V s (fz 3 x))):=by kernel_rfl
theorem ch1_4 (s:Su) (x:Nat->Int):rn cNm 17 s (.int false .i64 1) 4 x=some (.p (chk1N s (fz 4 x)),.int true .i64 (chk1V s (fz 4 x))):=by kernel_rfl
theorem ch1_5 (s:Su) (x:Nat->Int):rn cNm 17 s (.int false .i64 1) 5 x=some (.p (chk1N s (fz 5 x)),.int true .i64 (chk1V s (fz 5 x))):=by kernel_rfl
theorem ch1_6 (s:Su) (x:Nat->Int):rn cNm 17 s (.int false .i64 1) 6 x=some (.p (chk1N s (fz 6 x)),.int true .i64 (chk1V s (fz 6 x))):=by kernel_rfl
theorem ch1_7 (s:Su) (x:Nat->Int):rn cNm 17 s (.int false .i64 1) 7 x=some (.p (chk1N s (fz 7 x)),.int true .i64 (chk1V s (fz 7 x))):=by kernel_rfl
theorem ch1_8 (s:Su) (x:Nat->Int):rn cNm 17 s (.int false .i64 1) 8 x=some (.p (chk1N s (fz 8 x)),.int true .i64 (chk1V s (fz 8 x))):=by kernel_rfl
theorem ch1_9 (s:Su) (x:Nat->Int):rn cNm 17 s (.int false .i64 1) 9 x=some (.p (chk1N s (fz 9 x)),.int false .i64 110):=by kernel_rfl
theorem ch1_10 (s:Su) (x:Nat->Int):rn cNm 17 s (.int false .i64 1) 10 x=some (.p (chk1N s (fz 10 x)),.int false .i64 110):=by kernel_rfl
theorem ch1_11 (s:Su) (x:Nat->Int):rn cNm 17 s (.int false .i64 1) 11 x=some (.p (chk1N s (fz 11 x)),.int false .i64 110):=by kernel_rfl
theorem ch1_12 (s:Su) (x:Nat->Int):rn cNm 17 s (.int false .i64 1) 12 x=some (.p (chk1N s (fz 12 x)),.int false .i64 110):=by kernel_rfl
end
end Go.Proofs.YtjcicegihechmaaGreatDoor.K
