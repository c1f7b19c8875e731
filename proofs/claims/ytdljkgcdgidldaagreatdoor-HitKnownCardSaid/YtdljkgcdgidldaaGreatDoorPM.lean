/- What is proved: HitKnown returns true (part 13 of 26). No conditions beyond those of the row. -/
import Derived.Test.YtdljkgcdgidldaaGreatDoorPL
set_option linter.unusedVariables false
set_option linter.unusedSimpArgs false
set_option linter.unusedSectionVars false
/- What is proved: calls of the law HitKnown, of which the answers are known (level 2). No conditions. -/
namespace Go.Proofs.YtdljkgcdgidldaaGreatDoor
open Go Go.Eng

/-- monocle/monocleref02.Scale (6975 steps) -/
theorem call424 : MemoOk Tryz.prog glob hG (61, [(.agg [(.int false .i64 (4294967296)), (.int false .i64 (4294967296))]), (.int false .i64 (0)), (.int false .i64 (1000))], (.tuple [(.agg [(.int false .i64 (0)), (.int false .i64 (0))]), (.int false .i64 (0))])) := known table1_ok (by kernel_rfl) (by kernel_rfl) (by kernel_rfl)
/-- monocle/monocleref02.Scale (6975 steps) -/
theorem call425 : MemoOk Tryz.prog glob hG (61, [(.agg [(.int false .i64 (4294967296)), (.int false .i64 (4294967296))]), (.int false .i64 (1000)), (.int false .i64 (1000))], (.tuple [(.agg [(.int false .i64 (4294967296)), (.int false .i64 (4294967296))]), (.int false .i64 (0))])) := known table1_ok (by kernel_rfl) (by kernel_rfl) (by kernel_rfl)
/-- monocle/monocleref02.Scale (6975 steps) -/
theorem call426 : MemoOk Tryz.prog glob hG (61, [(.agg [(.int false .i64 (4294967296)), (.int false .i64 (4294967296))]), (.int false .i64 (2000)), (.int false .i64 (1000))], (.tuple [(.agg [(.int false .i64 (8589934592)), (.int false .i64 (8589934592))]), (.int false .i64 (0))])) := known table1_ok (by kernel_rfl) (by kernel_rfl) (by kernel_rfl)
/-- monocle/monocleref02.Scale (6991 steps) -/
theorem call427 : MemoOk Tryz.prog glob hG (61, [(.agg [(.int false .i64 (4294967296)), (.int false .i64 (4294967296))]), (.int false .i64 (-5000)), (.int false .i64 (1000))], (.tuple [(.agg [(.int false .i64 (-21474836480)), (.int false .i64 (-21474836480))]), (.int false .i64 (0))])) := known table1_ok (by kernel_rfl) (by kernel_rfl) (by kernel_rfl)
/-- monocle/span.Neg (54 steps) -/
theorem call428 : MemoOk Tryz.prog glob hG (118, [(.agg [(.int false .i64 (-21474836480)), (.int false .i64 (-21474836480))])], (.tuple [(.agg [(.int false .i64 (21474836480)), (.int false .i64 (21474836480))]), (.int false .i64 (0))])) := known table1_ok (by kernel_rfl) (by kernel_rfl) (by kernel_rfl)
/-- monocle/span.Div (443 steps) -/
theorem call429 : MemoOk Tryz.prog glob hG (127, [(.agg [(.int false .i64 (21474836480)), (.int false .i64 (21474836480))]), (.agg [(.int false .i64 (4294967296)), (.int false .i64 (4294967296))])], (.tuple [(.agg [(.int false .i64 (21474836480)), (.int false .i64 (21474836480))]), (.int false .i64 (0))])) := known table1_ok (by kernel_rfl) (by kernel_rfl) (by kernel_rfl)
/-- monocle/span.Mul (435 steps) -/
theorem call430 : MemoOk Tryz.prog glob hG (128, [(.agg [(.int false .i64 (21474836480)), (.int false .i64 (21474836480))]), (.agg [(.int false .i64 (0)), (.int false .i64 (0))])], (.tuple [(.agg [(.int false .i64 (0)), (.int false .i64 (0))]), (.int false .i64 (0))])) := known table1_ok (by kernel_rfl) (by kernel_rfl) (by kernel_rfl)
/-- monocle/span.Add (114 steps) -/
theorem call431 : MemoOk Tryz.prog glob hG (85, [(.agg [(.int false .i64 (4294967296)), (.int false .i64 (4294967296))]), (.agg [(.int false .i64 (0)), (.int false .i64 (0))])], (.tuple [(.agg [(.int false .i64 (4294967296)), (.int false .i64 (4294967296))]), (.int false .i64 (0))])) := known table1_ok (by kernel_rfl) (by kernel_rfl) (by kernel_rfl)
/-- monocle/span.Add (114 steps) -/
theorem call432 : MemoOk Tryz.prog glob hG (85, [(.agg [(.int false .i64 (8589934592)), (.int false .i64 (8589934592))]), (.agg [(.int false .i64 (0)), (.int false .i64 (0))])], (.tuple [(.agg [(.int false .i64 (8589934592)), (.int false .i64 (8589934592))]), (.int false .i64 (0))])) := known table1_ok (by kernel_rfl) (by kernel_rfl) (by kernel_rfl)
end Go.Proofs.YtdljkgcdgidldaaGreatDoor
