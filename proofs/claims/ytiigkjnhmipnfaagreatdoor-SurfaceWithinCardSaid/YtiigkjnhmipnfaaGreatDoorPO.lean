/- What is proved: SurfaceWithin returns true, whatever the input (part 15 of 22). No conditions beyond those of the row. -/
import Derived.Test.YtiigkjnhmipnfaaGreatDoorPN
set_option linter.unusedVariables false
set_option linter.unusedSimpArgs false
set_option linter.unusedSectionVars false
namespace Go.Proofs.YtiigkjnhmipnfaaGreatDoor
open Go Go.Eng

/-- monocle/span.Sqr (1178 steps) -/
theorem call42 : MemoOk Tryz.prog glob hG (131, [(.agg [(.int false .i64 (0)), (.int false .i64 (0))])], (.tuple [(.agg [(.int false .i64 (0)), (.int false .i64 (0))]), (.int false .i64 (0))])) := known table1_ok (by kernel_rfl) (by kernel_rfl) (by kernel_rfl)
/-- monocle/span.Scale (62 steps) -/
theorem call43 : MemoOk Tryz.prog glob hG (143, [(.agg [(.int false .i64 (0)), (.int false .i64 (0))]), (.int false .i64 (10000000)), (.int false .i64 (1000000000))], (.tuple [(.agg [(.int false .i64 (0)), (.int false .i64 (0))]), (.int false .i64 (0))])) := known table1_ok (by kernel_rfl) (by kernel_rfl) (by kernel_rfl)
/-- monocle/span.Scale (62 steps) -/
theorem call44 : MemoOk Tryz.prog glob hG (143, [(.agg [(.int false .i64 (0)), (.int false .i64 (0))]), (.int false .i64 (1000000)), (.int false .i64 (1000000))], (.tuple [(.agg [(.int false .i64 (0)), (.int false .i64 (0))]), (.int false .i64 (0))])) := known table1_ok (by kernel_rfl) (by kernel_rfl) (by kernel_rfl)
/-- monocle/span.Sqrt (69 steps) -/
theorem call45 : MemoOk Tryz.prog glob hG (124, [(.agg [(.int false .i64 (4294967296)), (.int false .i64 (4294967296))])], (.tuple [(.agg [(.int false .i64 (4294967296)), (.int false .i64 (4294967296))]), (.int false .i64 (0))])) := known table1_ok (by kernel_rfl) (by kernel_rfl) (by kernel_rfl)
/-- monocle/span.Div (443 steps) -/
theorem call46 : MemoOk Tryz.prog glob hG (107, [(.agg [(.int false .i64 (0)), (.int false .i64 (0))]), (.agg [(.int false .i64 (8589934592)), (.int false .i64 (8589934592))])], (.tuple [(.agg [(.int false .i64 (0)), (.int false .i64 (0))]), (.int false .i64 (0))])) := known table1_ok (by kernel_rfl) (by kernel_rfl) (by kernel_rfl)
/-- monocle/span.Sqr (1178 steps) -/
theorem call47 : MemoOk Tryz.prog glob hG (131, [(.agg [(.int false .i64 (42949672960)), (.int false .i64 (42949672960))])], (.tuple [(.agg [(.int false .i64 (429496729600)), (.int false .i64 (429496729600))]), (.int false .i64 (0))])) := known table1_ok (by kernel_rfl) (by kernel_rfl) (by kernel_rfl)
/-- monocle/span.Scale (62 steps) -/
theorem call48 : MemoOk Tryz.prog glob hG (143, [(.agg [(.int false .i64 (429496729600)), (.int false .i64 (429496729600))]), (.int false .i64 (10000000)), (.int false .i64 (1000000000))], (.tuple [(.agg [(.int false .i64 (4294967296)), (.int false .i64 (4294967296))]), (.int false .i64 (0))])) := known table1_ok (by kernel_rfl) (by kernel_rfl) (by kernel_rfl)
/-- monocle/span.Scale (62 steps) -/
theorem call49 : MemoOk Tryz.prog glob hG (143, [(.agg [(.int false .i64 (4294967296)), (.int false .i64 (4294967296))]), (.int false .i64 (10000000)), (.int false .i64 (1000000000))], (.tuple [(.agg [(.int false .i64 (42949672)), (.int false .i64 (42949673))]), (.int false .i64 (0))])) := known table1_ok (by kernel_rfl) (by kernel_rfl) (by kernel_rfl)
/-- monocle/span.Scale (62 steps) -/
theorem call50 : MemoOk Tryz.prog glob hG (143, [(.agg [(.int false .i64 (42949672)), (.int false .i64 (42949673))]), (.int false .i64 (0)), (.int false .i64 (1000000))], (.tuple [(.agg [(.int false .i64 (0)), (.int false .i64 (0))]), (.int false .i64 (0))])) := known table1_ok (by kernel_rfl) (by kernel_rfl) (by kernel_rfl)
/-- monocle/span.Div (443 steps) -/
theorem call51 : MemoOk Tryz.prog glob hG (107, [(.agg [(.int false .i64 (4294967296)), (.int false .i64 (4294967296))]), (.agg [(.int false .i64 (8589934592)), (.int false .i64 (8589934592))])], (.tuple [(.agg [(.int false .i64 (2147483648)), (.int false .i64 (2147483648))]), (.int false .i64 (0))])) := known table1_ok (by kernel_rfl) (by kernel_rfl) (by kernel_rfl)
/-- monocle/span.Sqr (1178 steps) -/
theorem call52 : MemoOk Tryz.prog glob hG (131, [(.agg [(.int false .i64 (433791696896)), (.int false .i64 (433791696896))])], (.tuple [(.agg [(.int false .i64 (43812961386496)), (.int false .i64 (43812961386496))]), (.int false .i64 (0))])) := known table1_ok (by kernel_rfl) (by kernel_rfl) (by kernel_rfl)
/-- monocle/span.Scale (62 steps) -/
theorem call53 : MemoOk Tryz.prog glob hG (143, [(.agg [(.int false .i64 (43812961386496)), (.int false .i64 (43812961386496))]), (.int false .i64 (10000000)), (.int false .i64 (1000000000))], (.tuple [(.agg [(.int false .i64 (438129613864)), (.int false .i64 (438129613865))]), (.int false .i64 (0))])) := known table1_ok (by kernel_rfl) (by kernel_rfl) (by kernel_rfl)
/-- monocle/span.Scale (62 steps) -/
theorem call54 : MemoOk Tryz.prog glob hG (143, [(.agg [(.int false .i64 (438129613864)), (.int false .i64 (438129613865))]), (.int false .i64 (10000000)), (.int false .i64 (1000000000))], (.tuple [(.agg [(.int false .i64 (4381296138)), (.int false .i64 (4381296139))]), (.int false .i64 (0))])) := known table1_ok (by kernel_rfl) (by kernel_rfl) (by kernel_rfl)
/-- monocle/span.Scale (62 steps) -/
theorem call55 : MemoOk Tryz.prog glob hG (143, [(.agg [(.int false .i64 (4381296138)), (.int false .i64 (4381296139))]), (.int false .i64 (1000000)), (.int false .i64 (1000000))], (.tuple [(.agg [(.int false .i64 (4381296138)), (.int false .i64 (4381296139))]), (.int false .i64 (0))])) := known table1_ok (by kernel_rfl) (by kernel_rfl) (by kernel_rfl)
/-- monocle/span.Sqr (1178 steps) -/
theorem call56 : MemoOk Tryz.prog glob hG (131, [(.agg [(.int false .i64 (85899345920)), (.int false .i64 (85899345920))])], (.tuple [(.agg [(.int false .i64 (1717986918400)), (.int false .i64 (1717986918400))]), (.int false .i64 (0))])) := known table1_ok (by kernel_rfl) (by kernel_rfl) (by kernel_rfl)
/-- monocle/span.Scale (62 steps) -/
theorem call57 : MemoOk Tryz.prog glob hG (143, [(.agg [(.int false .i64 (2147483648000)), (.int false .i64 (2147483648000))]), (.int false .i64 (10000000)), (.int false .i64 (1000000000))], (.tuple [(.agg [(.int false .i64 (21474836480)), (.int false .i64 (21474836480))]), (.int false .i64 (0))])) := known table1_ok (by kernel_rfl) (by kernel_rfl) (by kernel_rfl)
/-- monocle/span.Scale (62 steps) -/
theorem call58 : MemoOk Tryz.prog glob hG (143, [(.agg [(.int false .i64 (21474836480)), (.int false .i64 (21474836480))]), (.int false .i64 (10000000)), (.int false .i64 (1000000000))], (.tuple [(.agg [(.int false .i64 (214748364)), (.int false .i64 (214748365))]), (.int false .i64 (0))])) := known table1_ok (by kernel_rfl) (by kernel_rfl) (by kernel_rfl)
/-- monocle/span.Scale (62 steps) -/
theorem call59 : MemoOk Tryz.prog glob hG (143, [(.agg [(.int false .i64 (214748364)), (.int false .i64 (214748365))]), (.int false .i64 (0)), (.int false .i64 (1000000))], (.tuple [(.agg [(.int false .i64 (0)), (.int false .i64 (0))]), (.int false .i64 (0))])) := known table1_ok (by kernel_rfl) (by kernel_rfl) (by kernel_rfl)
/-- monocle/span.Div (443 steps) -/
theorem call60 : MemoOk Tryz.prog glob hG (107, [(.agg [(.int false .i64 (21474836480)), (.int false .i64 (21474836480))]), (.agg [(.int false .i64 (8589934592)), (.int false .i64 (8589934592))])], (.tuple [(.agg [(.int false .i64 (10737418240)), (.int false .i64 (10737418240))]), (.int false .i64 (0))])) := known table1_ok (by kernel_rfl) (by kernel_rfl) (by kernel_rfl)
/-- monocle/span.Scale (62 steps) -/
theorem call61 : MemoOk Tryz.prog glob hG (143, [(.agg [(.int false .i64 (42949672960)), (.int false .i64 (42949672960))]), (.int false .i64 (10000000)), (.int false .i64 (1000000000))], (.tuple [(.agg [(.int false .i64 (429496729)), (.int false .i64 (429496730))]), (.int false .i64 (0))])) := known table1_ok (by kernel_rfl) (by kernel_rfl) (by kernel_rfl)
/-- monocle/span.Div (446 steps) -/
theorem call62 : MemoOk Tryz.prog glob hG (107, [(.agg [(.int false .i64 (429496729)), (.int false .i64 (429496730))]), (.agg [(.int false .i64 (4294967296)), (.int false .i64 (4294967296))])], (.tuple [(.agg [(.int false .i64 (429496729)), (.int false .i64 (429496730))]), (.int false .i64 (0))])) := known table1_ok (by kernel_rfl) (by kernel_rfl) (by kernel_rfl)
/-- monocle/span.Scale (62 steps) -/
theorem call63 : MemoOk Tryz.prog glob hG (143, [(.agg [(.int false .i64 (85899345920)), (.int false .i64 (85899345920))]), (.int false .i64 (10000000)), (.int false .i64 (1000000000))], (.tuple [(.agg [(.int false .i64 (858993459)), (.int false .i64 (858993460))]), (.int false .i64 (0))])) := known table1_ok (by kernel_rfl) (by kernel_rfl) (by kernel_rfl)
/-- monocle/span.Div (446 steps) -/
theorem call64 : MemoOk Tryz.prog glob hG (107, [(.agg [(.int false .i64 (858993459)), (.int false .i64 (858993460))]), (.agg [(.int false .i64 (4294967296)), (.int false .i64 (4294967296))])], (.tuple [(.agg [(.int false .i64 (858993459)), (.int false .i64 (858993460))]), (.int false .i64 (0))])) := known table1_ok (by kernel_rfl) (by kernel_rfl) (by kernel_rfl)

def table2 : List (FuncId × List AV × AV) :=
  (131, [(.agg [(.int false .i64 (0)), (.int false .i64 (0))])], (.tuple [(.agg [(.int false .i64 (0)), (.int false .i64 (0))]), (.int false .i64 (0))])) ::
  (143, [(.agg [(.int false .i64 (0)), (.int false .i64 (0))]), (.int false .i64 (10000000)), (.int false .i64 (1000000000))], (.tuple [(.agg [(.int false .i64 (0)), (.int false .i64 (0))]), (.int false .i64 (0))])) ::
  (143, [(.agg [(.int false .i64 (0)), (.int false .i64 (0))]), (.int false .i64 (1000000)), (.int false .i64 (1000000))], (.tuple [(.agg [(.int false .i64 (0)), (.int false .i64 (0))]), (.int false .i64 (0))])) ::
  (124, [(.agg [(.int false .i64 (4294967296)), (.int false .i64 (4294967296))])], (.tuple [(.agg [(.int false .i64 (4294967296)), (.int false .i64 (4294967296))]), (.int false .i64 (0))])) ::
  (107, [(.agg [(.int false .i64 (0)), (.int false .i64 (0))]), (.agg [(.int false .i64 (8589934592)), (.int false .i64 (8589934592))])], (.tuple [(.agg [(.int false .i64 (0)), (.int false .i64 (0))]), (.int false .i64 (0))])) ::
  (131, [(.agg [(.int false .i64 (42949672960)), (.int false .i64 (42949672960))])], (.tuple [(.agg [(.int false .i64 (429496729600)), (.int false .i64 (429496729600))]), (.int false .i64 (0))])) ::
  (143, [(.agg [(.int false .i64 (429496729600)), (.int false .i64 (429496729600))]), (.int false .i64 (10000000)), (.int false .i64 (1000000000))], (.tuple [(.agg [(.int false .i64 (4294967296)), (.int false .i64 (4294967296))]), (.int false .i64 (0))])) ::
  (143, [(.agg [(.int false .i64 (4294967296)), (.int false .i64 (4294967296))]), (.int false .i64 (10000000)), (.int false .i64 (1000000000))], (.tuple [(.agg [(.int false .i64 (42949672)), (.int false .i64 (42949673))]), (.int false .i64 (0))])) ::
  (143, [(.agg [(.int false .i64 (42949672)), (.int false .i64 (42949673))]), (.int false .i64 (0)), (.int false .i64 (1000000))], (.tuple [(.agg [(.int false .i64 (0)), (.int false .i64 (0))]), (.int false .i64 (0))])) ::
  (107, [(.agg [(.int false .i64 (4294967296)), (.int false .i64 (4294967296))]), (.agg [(.int false .i64 (8589934592)), (.int false .i64 (8589934592))])], (.tuple [(.agg [(.int false .i64 (2147483648)), (.int false .i64 (2147483648))]), (.int false .i64 (0))])) ::
  (131, [(.agg [(.int false .i64 (433791696896)), (.int false .i64 (433791696896))])], (.tuple [(.agg [(.int false .i64 (43812961386496)), (.int false .i64 (43812961386496))]), (.int false .i64 (0))])) ::
  (143, [(.agg [(.int false .i64 (43812961386496)), (.int false .i64 (43812961386496))]), (.int false .i64 (10000000)), (.int false .i64 (1000000000))], (.tuple [(.agg [(.int false .i64 (438129613864)), (.int false .i64 (438129613865))]), (.int false .i64 (0))])) ::
  (143, [(.agg [(.int false .i64 (438129613864)), (.int false .i64 (438129613865))]), (.int false .i64 (10000000)), (.int false .i64 (1000000000))], (.tuple [(.agg [(.int false .i64 (4381296138)), (.int false .i64 (4381296139))]), (.int false .i64 (0))])) ::
  (143, [(.agg [(.int false .i64 (4381296138)), (.int false .i64 (4381296139))]), (.int false .i64 (1000000)), (.int false .i64 (1000000))], (.tuple [(.agg [(.int false .i64 (4381296138)), (.int false .i64 (4381296139))]), (.int false .i64 (0))])) ::
  (131, [(.agg [(.int false .i64 (85899345920)), (.int false .i64 (85899345920))])], (.tuple [(.agg [(.int false .i64 (1717986918400)), (.int false .i64 (1717986918400))]), (.int false .i64 (0))])) ::
  (143, [(.agg [(.int false .i64 (2147483648000)), (.int false .i64 (2147483648000))]), (.int false .i64 (10000000)), (.int false .i64 (1000000000))], (.tuple [(.agg [(.int false .i64 (21474836480)), (.int false .i64 (21474836480))]), (.int false .i64 (0))])) ::
  (143, [(.agg [(.int false .i64 (21474836480)), (.int false .i64 (21474836480))]), (.int false .i64 (10000000)), (.int false .i64 (1000000000))], (.tuple [(.agg [(.int false .i64 (214748364)), (.int false .i64 (214748365))]), (.int false .i64 (0))])) ::
  (143, [(.agg [(.int false .i64 (214748364)), (.int false .i64 (214748365))]), (.int false .i64 (0)), (.int false .i64 (1000000))], (.tuple [(.agg [(.int false .i64 (0)), (.int false .i64 (0))]), (.int false .i64 (0))])) ::
  (107, [(.agg [(.int false .i64 (21474836480)), (.int false .i64 (21474836480))]), (.agg [(.int false .i64 (8589934592)), (.int false .i64 (8589934592))])], (.tuple [(.agg [(.int false .i64 (10737418240)), (.int false .i64 (10737418240))]), (.int false .i64 (0))])) ::
  (143, [(.agg [(.int false .i64 (42949672960)), (.int false .i64 (42949672960))]), (.int false .i64 (10000000)), (.int false .i64 (1000000000))], (.tuple [(.agg [(.int false .i64 (429496729)), (.int false .i64 (429496730))]), (.int false .i64 (0))])) ::
  (107, [(.agg [(.int false .i64 (429496729)), (.int false .i64 (429496730))]), (.agg [(.int false .i64 (4294967296)), (.int false .i64 (4294967296))])], (.tuple [(.agg [(.int false .i64 (429496729)), (.int false .i64 (429496730))]), (.int false .i64 (0))])) ::
  (143, [(.agg [(.int false .i64 (85899345920)), (.int false .i64 (85899345920))]), (.int false .i64 (10000000)), (.int false .i64 (1000000000))], (.tuple [(.agg [(.int false .i64 (858993459)), (.int false .i64 (858993460))]), (.int false .i64 (0))])) ::
  (107, [(.agg [(.int false .i64 (858993459)), (.int false .i64 (858993460))]), (.agg [(.int false .i64 (4294967296)), (.int false .i64 (4294967296))])], (.tuple [(.agg [(.int false .i64 (858993459)), (.int false .i64 (858993460))]), (.int false .i64 (0))])) ::
  table1
theorem table2_ok : ∀ x ∈ table2, MemoOk Tryz.prog glob hG x :=
  more call42 (more call43 (more call44 (more call45 (more call46 (more call47 (more call48 (more call49 (more call50 (more call51 (more call52 (more call53 (more call54 (more call55 (more call56 (more call57 (more call58 (more call59 (more call60 (more call61 (more call62 (more call63 (more call64 (table1_ok)))))))))))))))))))))))

end Go.Proofs.YtiigkjnhmipnfaaGreatDoor
