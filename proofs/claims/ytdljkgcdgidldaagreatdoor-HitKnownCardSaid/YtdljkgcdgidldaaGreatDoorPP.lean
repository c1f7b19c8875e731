/- What is proved: HitKnown returns true (part 16 of 26). No conditions beyond those of the row. -/
import Derived.Test.YtdljkgcdgidldaaGreatDoorPL
set_option linter.unusedVariables false
set_option linter.unusedSimpArgs false
set_option linter.unusedSectionVars false
/- What is proved: calls of the law HitKnown, of which the answers are known (level 2). No conditions. -/
namespace Go.Proofs.YtdljkgcdgidldaaGreatDoor
open Go Go.Eng

/-- monocle/monocleref02.Scale (7509 steps) -/
theorem call496 : MemoOk Tryz.prog glob hG (61, [(.agg [(.int false .i64 (4294967296)), (.int false .i64 (4294967296))]), (.int false .i64 (51005)), (.int false .i64 (1000))], (.tuple [(.agg [(.int false .i64 (219064806932)), (.int false .i64 (219064806933))]), (.int false .i64 (0))])) := known table1_ok (by kernel_rfl) (by kernel_rfl) (by kernel_rfl)
/-- monocle/span.Mul (438 steps) -/
theorem call497 : MemoOk Tryz.prog glob hG (128, [(.agg [(.int false .i64 (4381296138)), (.int false .i64 (4381296139))]), (.agg [(.int false .i64 (4294967296)), (.int false .i64 (4294967296))])], (.tuple [(.agg [(.int false .i64 (4381296138)), (.int false .i64 (4381296139))]), (.int false .i64 (0))])) := known table1_ok (by kernel_rfl) (by kernel_rfl) (by kernel_rfl)
/-- monocle/span.Sub (114 steps) -/
theorem call498 : MemoOk Tryz.prog glob hG (152, [(.agg [(.int false .i64 (4294967296)), (.int false .i64 (4294967296))]), (.agg [(.int false .i64 (4381296138)), (.int false .i64 (4381296139))])], (.tuple [(.agg [(.int false .i64 (-86328843)), (.int false .i64 (-86328842))]), (.int false .i64 (0))])) := known table1_ok (by kernel_rfl) (by kernel_rfl) (by kernel_rfl)
/-- monocle/monocleref02.Scale (6975 steps) -/
theorem call499 : MemoOk Tryz.prog glob hG (61, [(.agg [(.int false .i64 (4294967296)), (.int false .i64 (4294967296))]), (.int false .i64 (3000)), (.int false .i64 (1000))], (.tuple [(.agg [(.int false .i64 (12884901888)), (.int false .i64 (12884901888))]), (.int false .i64 (0))])) := known table1_ok (by kernel_rfl) (by kernel_rfl) (by kernel_rfl)
/-- monocle/monocleref02.Scale (6975 steps) -/
theorem call500 : MemoOk Tryz.prog glob hG (61, [(.agg [(.int false .i64 (4294967296)), (.int false .i64 (4294967296))]), (.int false .i64 (4000)), (.int false .i64 (1000))], (.tuple [(.agg [(.int false .i64 (17179869184)), (.int false .i64 (17179869184))]), (.int false .i64 (0))])) := known table1_ok (by kernel_rfl) (by kernel_rfl) (by kernel_rfl)
/-- monocle/span.Neg (54 steps) -/
theorem call501 : MemoOk Tryz.prog glob hG (118, [(.agg [(.int false .i64 (-4294967296)), (.int false .i64 (-4294967296))])], (.tuple [(.agg [(.int false .i64 (4294967296)), (.int false .i64 (4294967296))]), (.int false .i64 (0))])) := known table1_ok (by kernel_rfl) (by kernel_rfl) (by kernel_rfl)
/-- monocle/span.Div (443 steps) -/
theorem call502 : MemoOk Tryz.prog glob hG (127, [(.agg [(.int false .i64 (4294967296)), (.int false .i64 (4294967296))]), (.agg [(.int false .i64 (4294967296)), (.int false .i64 (4294967296))])], (.tuple [(.agg [(.int false .i64 (4294967296)), (.int false .i64 (4294967296))]), (.int false .i64 (0))])) := known table1_ok (by kernel_rfl) (by kernel_rfl) (by kernel_rfl)
/-- monocle/span.Mul (435 steps) -/
theorem call503 : MemoOk Tryz.prog glob hG (128, [(.agg [(.int false .i64 (4294967296)), (.int false .i64 (4294967296))]), (.agg [(.int false .i64 (0)), (.int false .i64 (0))])], (.tuple [(.agg [(.int false .i64 (0)), (.int false .i64 (0))]), (.int false .i64 (0))])) := known table1_ok (by kernel_rfl) (by kernel_rfl) (by kernel_rfl)
/-- monocle/span.Add (114 steps) -/
theorem call504 : MemoOk Tryz.prog glob hG (85, [(.agg [(.int false .i64 (12884901888)), (.int false .i64 (12884901888))]), (.agg [(.int false .i64 (0)), (.int false .i64 (0))])], (.tuple [(.agg [(.int false .i64 (12884901888)), (.int false .i64 (12884901888))]), (.int false .i64 (0))])) := known table1_ok (by kernel_rfl) (by kernel_rfl) (by kernel_rfl)
/-- monocle/span.Mul (435 steps) -/
theorem call505 : MemoOk Tryz.prog glob hG (128, [(.agg [(.int false .i64 (4294967296)), (.int false .i64 (4294967296))]), (.agg [(.int false .i64 (4294967296)), (.int false .i64 (4294967296))])], (.tuple [(.agg [(.int false .i64 (4294967296)), (.int false .i64 (4294967296))]), (.int false .i64 (0))])) := known table1_ok (by kernel_rfl) (by kernel_rfl) (by kernel_rfl)
/-- monocle/span.Add (114 steps) -/
theorem call506 : MemoOk Tryz.prog glob hG (85, [(.agg [(.int false .i64 (17179869184)), (.int false .i64 (17179869184))]), (.agg [(.int false .i64 (4294967296)), (.int false .i64 (4294967296))])], (.tuple [(.agg [(.int false .i64 (21474836480)), (.int false .i64 (21474836480))]), (.int false .i64 (0))])) := known table1_ok (by kernel_rfl) (by kernel_rfl) (by kernel_rfl)
/-- monocle/span.Div (96 steps) -/
theorem call507 : MemoOk Tryz.prog glob hG (127, [(.agg [(.int false .i64 (-4294967296)), (.int false .i64 (-4294967296))]), (.agg [(.int false .i64 (0)), (.int false .i64 (0))])], (.tuple [(.agg [(.int false .i64 (0)), (.int false .i64 (0))]), (.int false .i64 (7))])) := known table1_ok (by kernel_rfl) (by kernel_rfl) (by kernel_rfl)
/-- monocle/span.Scale (62 steps) -/
theorem call508 : MemoOk Tryz.prog glob hG (150, [(.agg [(.int false .i64 (4294967296)), (.int false .i64 (4294967296))]), (.int false .i64 (1000000000)), (.int false .i64 (1000000000))], (.tuple [(.agg [(.int false .i64 (4294967296)), (.int false .i64 (4294967296))]), (.int false .i64 (0))])) := known table1_ok (by kernel_rfl) (by kernel_rfl) (by kernel_rfl)
/-- monocle/span.Scale (62 steps) -/
theorem call509 : MemoOk Tryz.prog glob hG (150, [(.agg [(.int false .i64 (0)), (.int false .i64 (0))]), (.int false .i64 (1000000000)), (.int false .i64 (1000000000))], (.tuple [(.agg [(.int false .i64 (0)), (.int false .i64 (0))]), (.int false .i64 (0))])) := known table1_ok (by kernel_rfl) (by kernel_rfl) (by kernel_rfl)
/-- monocle/span.Sub (114 steps) -/
theorem call510 : MemoOk Tryz.prog glob hG (152, [(.agg [(.int false .i64 (4294967296)), (.int false .i64 (4294967296))]), (.agg [(.int false .i64 (4294967296)), (.int false .i64 (4294967296))])], (.tuple [(.agg [(.int false .i64 (0)), (.int false .i64 (0))]), (.int false .i64 (0))])) := known table1_ok (by kernel_rfl) (by kernel_rfl) (by kernel_rfl)
/-- monocle/span.Sqrt (69 steps) -/
theorem call511 : MemoOk Tryz.prog glob hG (117, [(.agg [(.int false .i64 (0)), (.int false .i64 (0))])], (.tuple [(.agg [(.int false .i64 (0)), (.int false .i64 (0))]), (.int false .i64 (0))])) := known table1_ok (by kernel_rfl) (by kernel_rfl) (by kernel_rfl)
end Go.Proofs.YtdljkgcdgidldaaGreatDoor
