/- What is proved: HitKnown returns true (part 17 of 26). No conditions beyond those of the row. -/
import Derived.Test.YtdljkgcdgidldaaGreatDoorPL
set_option linter.unusedVariables false
set_option linter.unusedSimpArgs false
set_option linter.unusedSectionVars false
/- What is proved: calls of the law HitKnown, of which the answers are known (level 2). No conditions. -/
namespace Go.Proofs.YtdljkgcdgidldaaGreatDoor
open Go Go.Eng

/-- monocle/monocleref02.Scale (7421 steps) -/
theorem call512 : MemoOk Tryz.prog glob hG (61, [(.agg [(.int false .i64 (4294967296)), (.int false .i64 (4294967296))]), (.int false .i64 (1001)), (.int false .i64 (1000))], (.tuple [(.agg [(.int false .i64 (4299262263)), (.int false .i64 (4299262264))]), (.int false .i64 (0))])) := known table1_ok (by kernel_rfl) (by kernel_rfl) (by kernel_rfl)
/-- monocle/span.Add (114 steps) -/
theorem call513 : MemoOk Tryz.prog glob hG (85, [(.agg [(.int false .i64 (4299262263)), (.int false .i64 (4299262264))]), (.agg [(.int false .i64 (0)), (.int false .i64 (0))])], (.tuple [(.agg [(.int false .i64 (4299262263)), (.int false .i64 (4299262264))]), (.int false .i64 (0))])) := known table1_ok (by kernel_rfl) (by kernel_rfl) (by kernel_rfl)
/-- monocle/span.Sqr (1184 steps) -/
theorem call514 : MemoOk Tryz.prog glob hG (151, [(.agg [(.int false .i64 (4299262263)), (.int false .i64 (4299262264))])], (.tuple [(.agg [(.int false .i64 (4303561524)), (.int false .i64 (4303561527))]), (.int false .i64 (0))])) := known table1_ok (by kernel_rfl) (by kernel_rfl) (by kernel_rfl)
/-- monocle/span.Add (114 steps) -/
theorem call515 : MemoOk Tryz.prog glob hG (85, [(.agg [(.int false .i64 (4303561524)), (.int false .i64 (4303561527))]), (.agg [(.int false .i64 (0)), (.int false .i64 (0))])], (.tuple [(.agg [(.int false .i64 (4303561524)), (.int false .i64 (4303561527))]), (.int false .i64 (0))])) := known table1_ok (by kernel_rfl) (by kernel_rfl) (by kernel_rfl)
/-- monocle/span.Scale (62 steps) -/
theorem call516 : MemoOk Tryz.prog glob hG (150, [(.agg [(.int false .i64 (4303561524)), (.int false .i64 (4303561527))]), (.int false .i64 (1000000000)), (.int false .i64 (1000000000))], (.tuple [(.agg [(.int false .i64 (4303561524)), (.int false .i64 (4303561527))]), (.int false .i64 (0))])) := known table1_ok (by kernel_rfl) (by kernel_rfl) (by kernel_rfl)
/-- monocle/span.Mul (435 steps) -/
theorem call517 : MemoOk Tryz.prog glob hG (128, [(.agg [(.int false .i64 (0)), (.int false .i64 (0))]), (.agg [(.int false .i64 (4299262263)), (.int false .i64 (4299262264))])], (.tuple [(.agg [(.int false .i64 (0)), (.int false .i64 (0))]), (.int false .i64 (0))])) := known table1_ok (by kernel_rfl) (by kernel_rfl) (by kernel_rfl)
/-- monocle/span.Mul (438 steps) -/
theorem call518 : MemoOk Tryz.prog glob hG (128, [(.agg [(.int false .i64 (4303561524)), (.int false .i64 (4303561527))]), (.agg [(.int false .i64 (4294967296)), (.int false .i64 (4294967296))])], (.tuple [(.agg [(.int false .i64 (4303561524)), (.int false .i64 (4303561527))]), (.int false .i64 (0))])) := known table1_ok (by kernel_rfl) (by kernel_rfl) (by kernel_rfl)
/-- monocle/span.Sub (114 steps) -/
theorem call519 : MemoOk Tryz.prog glob hG (152, [(.agg [(.int false .i64 (4294967296)), (.int false .i64 (4294967296))]), (.agg [(.int false .i64 (4303561524)), (.int false .i64 (4303561527))])], (.tuple [(.agg [(.int false .i64 (-8594231)), (.int false .i64 (-8594228))]), (.int false .i64 (0))])) := known table1_ok (by kernel_rfl) (by kernel_rfl) (by kernel_rfl)
/-- monocle/monocleref02.Scale (6991 steps) -/
theorem call520 : MemoOk Tryz.prog glob hG (61, [(.agg [(.int false .i64 (4294967296)), (.int false .i64 (4294967296))]), (.int false .i64 (-2000)), (.int false .i64 (1000))], (.tuple [(.agg [(.int false .i64 (-8589934592)), (.int false .i64 (-8589934592))]), (.int false .i64 (0))])) := known table1_ok (by kernel_rfl) (by kernel_rfl) (by kernel_rfl)
/-- monocle/monocleref02.Scale (7019 steps) -/
theorem call521 : MemoOk Tryz.prog glob hG (61, [(.agg [(.int false .i64 (4294967296)), (.int false .i64 (4294967296))]), (.int false .i64 (500)), (.int false .i64 (1000))], (.tuple [(.agg [(.int false .i64 (2147483648)), (.int false .i64 (2147483648))]), (.int false .i64 (0))])) := known table1_ok (by kernel_rfl) (by kernel_rfl) (by kernel_rfl)
end Go.Proofs.YtdljkgcdgidldaaGreatDoor
