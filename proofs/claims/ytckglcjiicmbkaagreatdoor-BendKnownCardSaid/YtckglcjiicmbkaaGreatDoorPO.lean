/- What is proved: BendKnown returns true (part 15 of 18). No conditions beyond those of the row. -/
import Derived.Test.YtckglcjiicmbkaaGreatDoorPN
set_option linter.unusedVariables false
set_option linter.unusedSimpArgs false
set_option linter.unusedSectionVars false
/- What is proved: calls of the law BendKnown, of which the answers are known (level 2). No conditions. -/
namespace Go.Proofs.YtckglcjiicmbkaaGreatDoor
open Go Go.Eng

/-- monocle/monocleref02.Scale (7421 steps) -/
theorem call385 : MemoOk Tryz.prog glob hG (54, [(.agg [(.int false .i64 (4294967296)), (.int false .i64 (4294967296))]), (.int false .i64 (1)), (.int false .i64 (1000))], (.tuple [(.agg [(.int false .i64 (4294967)), (.int false .i64 (4294968))]), (.int false .i64 (0))])) := known table1_ok (by kernel_rfl) (by kernel_rfl) (by kernel_rfl)
/-- monocle/monocleref02.Scale (7421 steps) -/
theorem call386 : MemoOk Tryz.prog glob hG (54, [(.agg [(.int false .i64 (4294967296)), (.int false .i64 (4294967296))]), (.int false .i64 (2)), (.int false .i64 (1000))], (.tuple [(.agg [(.int false .i64 (8589934)), (.int false .i64 (8589935))]), (.int false .i64 (0))])) := known table1_ok (by kernel_rfl) (by kernel_rfl) (by kernel_rfl)
/-- monocle/monocleref02.Scale (7509 steps) -/
theorem call387 : MemoOk Tryz.prog glob hG (54, [(.agg [(.int false .i64 (4294967296)), (.int false .i64 (4294967296))]), (.int false .i64 (3)), (.int false .i64 (1000))], (.tuple [(.agg [(.int false .i64 (12884901)), (.int false .i64 (12884902))]), (.int false .i64 (0))])) := known table1_ok (by kernel_rfl) (by kernel_rfl) (by kernel_rfl)
/-- monocle/span.Neg (54 steps) -/
theorem call388 : MemoOk Tryz.prog glob hG (123, [(.agg [(.int false .i64 (429496729)), (.int false .i64 (429496730))])], (.tuple [(.agg [(.int false .i64 (-429496730)), (.int false .i64 (-429496729))]), (.int false .i64 (0))])) := known table1_ok (by kernel_rfl) (by kernel_rfl) (by kernel_rfl)
/-- monocle/span.Div (443 steps) -/
theorem call389 : MemoOk Tryz.prog glob hG (91, [(.agg [(.int false .i64 (0)), (.int false .i64 (0))]), (.agg [(.int false .i64 (-4294967296)), (.int false .i64 (-4294967296))])], (.tuple [(.agg [(.int false .i64 (0)), (.int false .i64 (0))]), (.int false .i64 (0))])) := known table1_ok (by kernel_rfl) (by kernel_rfl) (by kernel_rfl)
/-- monocle/span.Sub (114 steps) -/
theorem call390 : MemoOk Tryz.prog glob hG (136, [(.agg [(.int false .i64 (0)), (.int false .i64 (0))]), (.agg [(.int false .i64 (-429496730)), (.int false .i64 (-429496729))])], (.tuple [(.agg [(.int false .i64 (429496729)), (.int false .i64 (429496730))]), (.int false .i64 (0))])) := known table1_ok (by kernel_rfl) (by kernel_rfl) (by kernel_rfl)
/-- monocle/span.Sqr (1184 steps) -/
theorem call391 : MemoOk Tryz.prog glob hG (132, [(.agg [(.int false .i64 (429496729)), (.int false .i64 (429496730))])], (.tuple [(.agg [(.int false .i64 (42949672)), (.int false .i64 (42949674))]), (.int false .i64 (0))])) := known table1_ok (by kernel_rfl) (by kernel_rfl) (by kernel_rfl)
/-- monocle/span.Div (446 steps) -/
theorem call392 : MemoOk Tryz.prog glob hG (91, [(.agg [(.int false .i64 (429496729)), (.int false .i64 (429496730))]), (.agg [(.int false .i64 (4316388711)), (.int false .i64 (4316388713))])], (.tuple [(.agg [(.int false .i64 (427365218)), (.int false .i64 (427365220))]), (.int false .i64 (0))])) := known table1_ok (by kernel_rfl) (by kernel_rfl) (by kernel_rfl)
/-- monocle/span.Neg (54 steps) -/
theorem call393 : MemoOk Tryz.prog glob hG (123, [(.agg [(.int false .i64 (427365218)), (.int false .i64 (427365220))])], (.tuple [(.agg [(.int false .i64 (-427365220)), (.int false .i64 (-427365218))]), (.int false .i64 (0))])) := known table1_ok (by kernel_rfl) (by kernel_rfl) (by kernel_rfl)
/-- monocle/span.Neg (54 steps) -/
theorem call394 : MemoOk Tryz.prog glob hG (123, [(.agg [(.int false .i64 (4273652189)), (.int false .i64 (4273652192))])], (.tuple [(.agg [(.int false .i64 (-4273652192)), (.int false .i64 (-4273652189))]), (.int false .i64 (0))])) := known table1_ok (by kernel_rfl) (by kernel_rfl) (by kernel_rfl)
/-- monocle/monocleref02.Scale (8009 steps) -/
theorem call395 : MemoOk Tryz.prog glob hG (54, [(.agg [(.int false .i64 (4294967296)), (.int false .i64 (4294967296))]), (.int false .i64 (-995037)), (.int false .i64 (1000000))], (.tuple [(.agg [(.int false .i64 (-4273651374)), (.int false .i64 (-4273651373))]), (.int false .i64 (0))])) := known table1_ok (by kernel_rfl) (by kernel_rfl) (by kernel_rfl)
end Go.Proofs.YtckglcjiicmbkaaGreatDoor
