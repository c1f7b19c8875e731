/- What is proved: BendKnown returns true (part 14 of 18). No conditions beyond those of the row. -/
import Derived.Test.YtckglcjiicmbkaaGreatDoorPM
set_option linter.unusedVariables false
set_option linter.unusedSimpArgs false
set_option linter.unusedSectionVars false
/- What is proved: calls of the law BendKnown, of which the answers are known (level 2). No conditions. -/
namespace Go.Proofs.YtckglcjiicmbkaaGreatDoor
open Go Go.Eng

/-- monocle/monocleref02.Scale (7569 steps) -/
theorem call371 : MemoOk Tryz.prog glob hG (54, [(.agg [(.int false .i64 (4294967296)), (.int false .i64 (4294967296))]), (.int false .i64 (-99504)), (.int false .i64 (1000000))], (.tuple [(.agg [(.int false .i64 (-427366426)), (.int false .i64 (-427366425))]), (.int false .i64 (0))])) := known table1_ok (by kernel_rfl) (by kernel_rfl) (by kernel_rfl)
/-- monocle/monocleref02.Scale (7993 steps) -/
theorem call372 : MemoOk Tryz.prog glob hG (54, [(.agg [(.int false .i64 (4294967296)), (.int false .i64 (4294967296))]), (.int false .i64 (995037)), (.int false .i64 (1000000))], (.tuple [(.agg [(.int false .i64 (4273651373)), (.int false .i64 (4273651374))]), (.int false .i64 (0))])) := known table1_ok (by kernel_rfl) (by kernel_rfl) (by kernel_rfl)
/-- monocle/monocleref02.Scale (7421 steps) -/
theorem call373 : MemoOk Tryz.prog glob hG (54, [(.agg [(.int false .i64 (4294967296)), (.int false .i64 (4294967296))]), (.int false .i64 (1001)), (.int false .i64 (1000))], (.tuple [(.agg [(.int false .i64 (4299262263)), (.int false .i64 (4299262264))]), (.int false .i64 (0))])) := known table1_ok (by kernel_rfl) (by kernel_rfl) (by kernel_rfl)
/-- monocle/span.Sqr (1184 steps) -/
theorem call374 : MemoOk Tryz.prog glob hG (132, [(.agg [(.int false .i64 (4299262263)), (.int false .i64 (4299262264))])], (.tuple [(.agg [(.int false .i64 (4303561524)), (.int false .i64 (4303561527))]), (.int false .i64 (0))])) := known table1_ok (by kernel_rfl) (by kernel_rfl) (by kernel_rfl)
/-- monocle/span.Add (114 steps) -/
theorem call375 : MemoOk Tryz.prog glob hG (164, [(.agg [(.int false .i64 (4303561524)), (.int false .i64 (4303561527))]), (.agg [(.int false .i64 (0)), (.int false .i64 (0))])], (.tuple [(.agg [(.int false .i64 (4303561524)), (.int false .i64 (4303561527))]), (.int false .i64 (0))])) := known table1_ok (by kernel_rfl) (by kernel_rfl) (by kernel_rfl)
/-- monocle/span.Scale (62 steps) -/
theorem call376 : MemoOk Tryz.prog glob hG (141, [(.agg [(.int false .i64 (4303561524)), (.int false .i64 (4303561527))]), (.int false .i64 (1000000000)), (.int false .i64 (1000000000))], (.tuple [(.agg [(.int false .i64 (4303561524)), (.int false .i64 (4303561527))]), (.int false .i64 (0))])) := known table1_ok (by kernel_rfl) (by kernel_rfl) (by kernel_rfl)
/-- monocle/span.Scale (62 steps) -/
theorem call377 : MemoOk Tryz.prog glob hG (141, [(.agg [(.int false .i64 (4303561524)), (.int false .i64 (4303561527))]), (.int false .i64 (1000000)), (.int false .i64 (1000000))], (.tuple [(.agg [(.int false .i64 (4303561524)), (.int false .i64 (4303561527))]), (.int false .i64 (0))])) := known table1_ok (by kernel_rfl) (by kernel_rfl) (by kernel_rfl)
/-- monocle/span.Sub (114 steps) -/
theorem call378 : MemoOk Tryz.prog glob hG (136, [(.agg [(.int false .i64 (4294967296)), (.int false .i64 (4294967296))]), (.agg [(.int false .i64 (4303561524)), (.int false .i64 (4303561527))])], (.tuple [(.agg [(.int false .i64 (-8594231)), (.int false .i64 (-8594228))]), (.int false .i64 (0))])) := known table1_ok (by kernel_rfl) (by kernel_rfl) (by kernel_rfl)
/-- monocle/monocleref02.Scale (6991 steps) -/
theorem call379 : MemoOk Tryz.prog glob hG (54, [(.agg [(.int false .i64 (4294967296)), (.int false .i64 (4294967296))]), (.int false .i64 (-1000)), (.int false .i64 (1000))], (.tuple [(.agg [(.int false .i64 (-4294967296)), (.int false .i64 (-4294967296))]), (.int false .i64 (0))])) := known table1_ok (by kernel_rfl) (by kernel_rfl) (by kernel_rfl)
/-- monocle/span.Mul (435 steps) -/
theorem call380 : MemoOk Tryz.prog glob hG (133, [(.agg [(.int false .i64 (-4294967296)), (.int false .i64 (-4294967296))]), (.agg [(.int false .i64 (4294967296)), (.int false .i64 (4294967296))])], (.tuple [(.agg [(.int false .i64 (-4294967296)), (.int false .i64 (-4294967296))]), (.int false .i64 (0))])) := known table1_ok (by kernel_rfl) (by kernel_rfl) (by kernel_rfl)
/-- monocle/span.Add (114 steps) -/
theorem call381 : MemoOk Tryz.prog glob hG (164, [(.agg [(.int false .i64 (0)), (.int false .i64 (0))]), (.agg [(.int false .i64 (-4294967296)), (.int false .i64 (-4294967296))])], (.tuple [(.agg [(.int false .i64 (-4294967296)), (.int false .i64 (-4294967296))]), (.int false .i64 (0))])) := known table1_ok (by kernel_rfl) (by kernel_rfl) (by kernel_rfl)
/-- monocle/span.Mul (435 steps) -/
theorem call382 : MemoOk Tryz.prog glob hG (133, [(.agg [(.int false .i64 (0)), (.int false .i64 (0))]), (.agg [(.int false .i64 (-4294967296)), (.int false .i64 (-4294967296))])], (.tuple [(.agg [(.int false .i64 (0)), (.int false .i64 (0))]), (.int false .i64 (0))])) := known table1_ok (by kernel_rfl) (by kernel_rfl) (by kernel_rfl)
/-- monocle/span.Mul (435 steps) -/
theorem call383 : MemoOk Tryz.prog glob hG (133, [(.agg [(.int false .i64 (4294967296)), (.int false .i64 (4294967296))]), (.agg [(.int false .i64 (-4294967296)), (.int false .i64 (-4294967296))])], (.tuple [(.agg [(.int false .i64 (-4294967296)), (.int false .i64 (-4294967296))]), (.int false .i64 (0))])) := known table1_ok (by kernel_rfl) (by kernel_rfl) (by kernel_rfl)
/-- monocle/span.Sub (114 steps) -/
theorem call384 : MemoOk Tryz.prog glob hG (136, [(.agg [(.int false .i64 (-4294967296)), (.int false .i64 (-4294967296))]), (.agg [(.int false .i64 (-4294967296)), (.int false .i64 (-4294967296))])], (.tuple [(.agg [(.int false .i64 (0)), (.int false .i64 (0))]), (.int false .i64 (0))])) := known table1_ok (by kernel_rfl) (by kernel_rfl) (by kernel_rfl)
end Go.Proofs.YtckglcjiicmbkaaGreatDoor
