/- What is proved: BendKnown returns true (part 13 of 18). No conditions beyond those of the row. -/
import Derived.Test.YtckglcjiicmbkaaGreatDoorPL
set_option linter.unusedVariables false
set_option linter.unusedSimpArgs false
set_option linter.unusedSectionVars false
/- What is proved: calls of the law BendKnown, of which the answers are known (level 2). No conditions. -/
namespace Go.Proofs.YtckglcjiicmbkaaGreatDoor
open Go Go.Eng

/-- monocle/monocleref02.Scale (6975 steps) -/
theorem call357 : MemoOk Tryz.prog glob hG (54, [(.agg [(.int false .i64 (4294967296)), (.int false .i64 (4294967296))]), (.int false .i64 (10000)), (.int false .i64 (1000))], (.tuple [(.agg [(.int false .i64 (42949672960)), (.int false .i64 (42949672960))]), (.int false .i64 (0))])) := known table1_ok (by kernel_rfl) (by kernel_rfl) (by kernel_rfl)
/-- monocle/span.Scale (62 steps) -/
theorem call358 : MemoOk Tryz.prog glob hG (141, [(.agg [(.int false .i64 (42949672960)), (.int false .i64 (42949672960))]), (.int false .i64 (10000000)), (.int false .i64 (1000000000))], (.tuple [(.agg [(.int false .i64 (429496729)), (.int false .i64 (429496730))]), (.int false .i64 (0))])) := known table1_ok (by kernel_rfl) (by kernel_rfl) (by kernel_rfl)
/-- monocle/span.Scale (62 steps) -/
theorem call359 : MemoOk Tryz.prog glob hG (141, [(.agg [(.int false .i64 (429496729)), (.int false .i64 (429496730))]), (.int false .i64 (10000000)), (.int false .i64 (10000000))], (.tuple [(.agg [(.int false .i64 (429496729)), (.int false .i64 (429496730))]), (.int false .i64 (0))])) := known table1_ok (by kernel_rfl) (by kernel_rfl) (by kernel_rfl)
/-- monocle/span.Sub (114 steps) -/
theorem call360 : MemoOk Tryz.prog glob hG (136, [(.agg [(.int false .i64 (0)), (.int false .i64 (0))]), (.agg [(.int false .i64 (429496729)), (.int false .i64 (429496730))])], (.tuple [(.agg [(.int false .i64 (-429496730)), (.int false .i64 (-429496729))]), (.int false .i64 (0))])) := known table1_ok (by kernel_rfl) (by kernel_rfl) (by kernel_rfl)
/-- monocle/span.Sqr (1184 steps) -/
theorem call361 : MemoOk Tryz.prog glob hG (132, [(.agg [(.int false .i64 (-429496730)), (.int false .i64 (-429496729))])], (.tuple [(.agg [(.int false .i64 (42949672)), (.int false .i64 (42949674))]), (.int false .i64 (0))])) := known table1_ok (by kernel_rfl) (by kernel_rfl) (by kernel_rfl)
/-- monocle/span.Add (114 steps) -/
theorem call362 : MemoOk Tryz.prog glob hG (164, [(.agg [(.int false .i64 (42949672)), (.int false .i64 (42949674))]), (.agg [(.int false .i64 (0)), (.int false .i64 (0))])], (.tuple [(.agg [(.int false .i64 (42949672)), (.int false .i64 (42949674))]), (.int false .i64 (0))])) := known table1_ok (by kernel_rfl) (by kernel_rfl) (by kernel_rfl)
/-- monocle/span.Add (114 steps) -/
theorem call363 : MemoOk Tryz.prog glob hG (164, [(.agg [(.int false .i64 (42949672)), (.int false .i64 (42949674))]), (.agg [(.int false .i64 (4294967296)), (.int false .i64 (4294967296))])], (.tuple [(.agg [(.int false .i64 (4337916968)), (.int false .i64 (4337916970))]), (.int false .i64 (0))])) := known table1_ok (by kernel_rfl) (by kernel_rfl) (by kernel_rfl)
/-- monocle/span.Sqrt (69 steps) -/
theorem call364 : MemoOk Tryz.prog glob hG (88, [(.agg [(.int false .i64 (4337916968)), (.int false .i64 (4337916970))])], (.tuple [(.agg [(.int false .i64 (4316388711)), (.int false .i64 (4316388713))]), (.int false .i64 (0))])) := known table1_ok (by kernel_rfl) (by kernel_rfl) (by kernel_rfl)
/-- monocle/span.Div (446 steps) -/
theorem call365 : MemoOk Tryz.prog glob hG (91, [(.agg [(.int false .i64 (-429496730)), (.int false .i64 (-429496729))]), (.agg [(.int false .i64 (4316388711)), (.int false .i64 (4316388713))])], (.tuple [(.agg [(.int false .i64 (-427365220)), (.int false .i64 (-427365218))]), (.int false .i64 (0))])) := known table1_ok (by kernel_rfl) (by kernel_rfl) (by kernel_rfl)
/-- monocle/span.Div (443 steps) -/
theorem call366 : MemoOk Tryz.prog glob hG (91, [(.agg [(.int false .i64 (0)), (.int false .i64 (0))]), (.agg [(.int false .i64 (4316388711)), (.int false .i64 (4316388713))])], (.tuple [(.agg [(.int false .i64 (0)), (.int false .i64 (0))]), (.int false .i64 (0))])) := known table1_ok (by kernel_rfl) (by kernel_rfl) (by kernel_rfl)
/-- monocle/span.Div (446 steps) -/
theorem call367 : MemoOk Tryz.prog glob hG (91, [(.agg [(.int false .i64 (4294967296)), (.int false .i64 (4294967296))]), (.agg [(.int false .i64 (4316388711)), (.int false .i64 (4316388713))])], (.tuple [(.agg [(.int false .i64 (4273652189)), (.int false .i64 (4273652192))]), (.int false .i64 (0))])) := known table1_ok (by kernel_rfl) (by kernel_rfl) (by kernel_rfl)
/-- monocle/monocleref02.Scale (7833 steps) -/
theorem call368 : MemoOk Tryz.prog glob hG (54, [(.agg [(.int false .i64 (4294967296)), (.int false .i64 (4294967296))]), (.int false .i64 (-866025)), (.int false .i64 (1000000))], (.tuple [(.agg [(.int false .i64 (-3719549053)), (.int false .i64 (-3719549052))]), (.int false .i64 (0))])) := known table1_ok (by kernel_rfl) (by kernel_rfl) (by kernel_rfl)
/-- monocle/monocleref02.Scale (7597 steps) -/
theorem call369 : MemoOk Tryz.prog glob hG (54, [(.agg [(.int false .i64 (4294967296)), (.int false .i64 (4294967296))]), (.int false .i64 (50)), (.int false .i64 (1000))], (.tuple [(.agg [(.int false .i64 (214748364)), (.int false .i64 (214748365))]), (.int false .i64 (0))])) := known table1_ok (by kernel_rfl) (by kernel_rfl) (by kernel_rfl)
/-- monocle/monocleref02.Scale (7861 steps) -/
theorem call370 : MemoOk Tryz.prog glob hG (54, [(.agg [(.int false .i64 (4294967296)), (.int false .i64 (4294967296))]), (.int false .i64 (998749)), (.int false .i64 (1000000))], (.tuple [(.agg [(.int false .i64 (4289594291)), (.int false .i64 (4289594292))]), (.int false .i64 (0))])) := known table1_ok (by kernel_rfl) (by kernel_rfl) (by kernel_rfl)
end Go.Proofs.YtckglcjiicmbkaaGreatDoor
