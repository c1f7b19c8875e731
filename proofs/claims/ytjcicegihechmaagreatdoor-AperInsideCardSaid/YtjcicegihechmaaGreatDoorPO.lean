/- What is proved: AperInside returns true, whatever the input (part 15). No conditions beyond those of the row. -/
import Derived.Test.YtjcicegihechmaaGreatDoorPK
import Derived.Test.YtjcicegihechmaaGreatDoorPL
set_option linter.unusedVariables false
set_option linter.unusedSimpArgs false
set_option linter.unusedSectionVars false
namespace Go.Proofs.YtjcicegihechmaaGreatDoor.K
open Go Go.Eng Go.Ar Go.Rd
noncomputable section
theorem ch3_0 (s:Su) (x:Nat->Int):rn cNm 17 s (.int false .i64 3) 0 x=some (.p (chk3N s),.int true .i64 (cE0 s (k3F s))):=by kernel_rfl
theorem ch3_1 (s:Su) (x:Nat->Int):rn cNm 17 s (.int false .i64 3) 1 x=some (.p (w3 s),.int false .i64 110):=by kernel_rfl
theorem ch3_2 (s:Su) (x:Nat->Int):rn cNm 17 s (.int false .i64 3) 2 x=some (.p (w3 s),.int false .i64 110):=by kernel_rfl
theorem ch3_3 (s:Su) (x:Nat->Int):rn cNm 17 s (.int false .i64 3) 3 x=some (.p (w3 s),.int false .i64 110):=by kernel_rfl
theorem ch3_4 (s:Su) (x:Nat->Int):rn cNm 17 s (.int false .i64 3) 4 x=some (.p (w3 s),.int false .i64 110):=by kernel_rfl
theorem ch3_5 (s:Su) (x:Nat->Int):rn cNm 17 s (.int false .i64 3) 5 x=some (.p (w3 s),.int false .i64 110):=by kernel_rfl
theorem ch3_6 (s:Su) (x:Nat->Int):rn cNm 17 s (.int false .i64 3) 6 x=some (.p (w3 s),.int false .i64 110):=by kernel_rfl
theorem ch3_7 (s:Su) (x:Nat->Int):rn cNm 17 s (.int false .i64 3) 7 x=some (.p (w3 s),.int false .i64 110):=by kernel_rfl
theorem ch3_8 (s:Su) (x:Nat->Int):rn cNm 17 s (.int false .i64 3) 8 x=some (.p (w3 s),.int false .i64 110):=by kernel_rfl
theorem ch3_9 (s:Su) (x:Nat->Int):rn cNm 17 s (.int false .i64 3) 9 x=some (.p (w3 s),.int false .i64 110):=by kernel_rfl
theorem ch3_10 (s:Su) (x:Nat->Int):rn cNm 17 s (.int false .i64 3) 10 x=some (.p (w3 s),.int false .i64 110):=by kernel_rfl
theorem ch3_11 (s:Su) (x:Nat->Int):rn cNm 17 s (.int false .i64 3) 11 x=some (.p (w3 s),.int false .i64 110):=by kernel_rfl
theorem ch3_12 (s:Su) (x:Nat->Int):rn cNm 17 s (.int false .i64 3) 12 x=some (.p (w3 s),.int false .i64 110):=by kernel_rfl
theorem ch4_0 (s:Su) (x:Nat->Int):rn cNm 17 s (.int false .i64 4) 0 x=some (.p (chk4N s),.int true .i64 (cE0 s (k4F s))):=by kernel_rfl
theorem ch4_1 (s:Su) (x:Nat->Int):rn cNm 17 s (.int false .i64 4) 1 x=some (.p (w4 s),.int false .i64 110):=by kernel_rfl
theorem ch4_2 (s:Su) (x:Nat->Int):rn cNm 17 s (.int false .i64 4) 2 x=some (.p (w4 s),.int false .i64 110):=by kernel_rfl
theorem ch4_3 (s:Su) (x:Nat->Int):rn cNm 17 s (.int false .i64 4) 3 x=some (.p (w4 s),.int false .i64 110):=by kernel_rfl
theorem ch4_4 (s:Su) (x:Nat->Int):rn cNm 17 s (.int false .i64 4) 4 x=some (.p (w4 s),.int false .i64 110):=by kernel_rfl
theorem ch4_5 (s:Su) (x:Nat->Int):rn cNm 17 s (.int false .i64 4) 5 x=some (.p (w4 s),.int false .i64 110):=by kernel_rfl
theorem ch4_6 (s:Su) (x:Nat->Int):rn cNm 17 s (.int false .i64 4) 6 x=some (.p (w4 s),.int false .i64 110):=by kernel_rfl
theorem ch4_7 (s:Su) (x:Nat->Int):rn cNm 17 s (.int false .i64 4) 7 x=some (.p (w4 s),.int false .i64 110):=by kernel_rfl
theorem ch4_8 (s:Su) (x:Nat->Int):rn cNm 17 s (.int false .i64 4) 8 x=some (.p (w4 s),.int false .i64 110):=by kernel_rfl
theorem ch4_9 (s:Su) (x:Nat->Int):rn cNm 17 s (.int false .i64 4) 9 x=some (.p (w4 s),.int false .i64 110):=by kernel_rfl
theorem ch4_10 (s:Su) (x:Nat->Int):rn cNm 17 s (.int false .i64 4) 10 x=some (.p (w4 s),.int false .i64 110):=by kernel_rfl
theorem ch4_11 (s:Su) (x:Nat->Int):rn cNm 17 s (.int false .i64 4) 11 x=some (.p (w4 s),.int false .i64 110):=by kernel_rfl
theorem ch4_12 (s:Su) (x:Nat->Int):rn cNm 17 s (.int false .i64 4) 12 x=some (.p (w4 s),.int false .i64 110):=by kernel_rfl
theorem ch0_0 (s:Su) (x:Nat->Int):rn cNk 17 s (.int true .i64 s.kd) 0 x=some (.p (kdO s=false),.int false .i64 110):=by kernel_rfl
theorem ch0_1 (s:Su) (x:Nat->Int):rn cNk 17 s (.int true .i64 s.kd) 1 x=some (.p (kdO s=false),.int false .i64 110):=by kernel_rfl
theorem ch0_2 (s:Su) (x:Nat->Int):rn cNk 17 s (.int true .i64 s.kd) 2 x=some (.p (kdO s=false),.int false .i64 110):=by kernel_rfl
theorem ch0_3 (s:Su) (x:Nat->Int):rn cNk 17 s (.int true .i64 s.kd) 3 x=some (.p (kdO s=false),.int false .i64 110):=by kernel_rfl
theorem ch0_4 (s:Su) (x:Nat->Int):rn cNk 17 s (.int true .i64 s.kd) 4 x=some (.p (kdO s=false),.int false .i64 110):=by kernel_rfl
theorem ch0_5 (s:Su) (x:Nat->Int):rn cNk 17 s (.int true .i64 s.kd) 5 x=some (.p (kdO s=false),.int false .i64 110):=by kernel_rfl
theorem ch0_6 (s:Su) (x:Nat->Int):rn cNk 17 s (.int true .i64 s.kd) 6 x=some (.p (kdO s=false),.int false .i64 110):=by kernel_rfl
theorem ch0_7 (s:Su) (x:Nat->Int):rn cNk 17 s (.int true .i64 s.kd) 7 x=some (.p (kdO s=false),.int false .i64 110):=by kernel_rfl
theorem ch0_8 (s:Su) (x:Nat->Int):rn cNk 17 s (.int true .i64 s.kd) 8 x=some (.p (kdO s=false),.int false .i64 110):=by kernel_rfl
theorem ch0_9 (s:Su) (x:Nat->Int):rn cNk 17 s (.int true .i64 s.kd) 9 x=some (.p (kdO s=false),.int false .i64 110):=by kernel_rfl
theorem ch0_10 (s:Su) (x:Nat->Int):rn cNk 17 s (.int true .i64 s.kd) 10 x=some (.p (kdO s=false),.int false .i64 110):=by kernel_rfl
theorem ch0_11 (s:Su) (x:Nat->Int):rn cNk 17 s (.int true .i64 s.kd) 11 x=some (.p (kdO s=false),.int false .i64 110):=by kernel_rfl
theorem ch0_12 (s:Su) (x:Nat->Int):rn cNk 17 s (.int true .i64 s.kd) 12 x=some (.p (kdO s=false),.int false .i64 110):=by kernel_rfl
end
end Go.Proofs.YtjcicegihechmaaGreatDoor.K
