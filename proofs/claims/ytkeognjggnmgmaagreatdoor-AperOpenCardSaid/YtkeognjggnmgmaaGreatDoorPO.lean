/- What is proved: AperOpen returns true, whatever the input (part 15 of 22). No conditions beyond those of the row. -/
import Derived.Test.YtkeognjggnmgmaaGreatDoorPN
set_option linter.unusedVariables false
set_option linter.unusedSimpArgs false
set_option linter.unusedSectionVars false
/- What is proved: calls of the law AperKnown, of which the answers are known (level 2). No conditions. -/
namespace Go.Proofs.YtkeognjggnmgmaaGreatDoor
open Go Go.Eng

/-- monocle/span.Sqr (1178 steps) -/
theorem call26 : MemoOk Tryz.prog glob hG (69, [(.agg [(.int false .i64 (12884901888)), (.int false .i64 (12884901888))])], (.tuple [(.agg [(.int false .i64 (38654705664)), (.int false .i64 (38654705664))]), (.int false .i64 (0))])) := known table1_ok (by kernel_rfl) (by kernel_rfl) (by kernel_rfl)
/-- monocle/span.Sqr (1178 steps) -/
theorem call27 : MemoOk Tryz.prog glob hG (69, [(.agg [(.int false .i64 (17179869184)), (.int false .i64 (17179869184))])], (.tuple [(.agg [(.int false .i64 (68719476736)), (.int false .i64 (68719476736))]), (.int false .i64 (0))])) := known table1_ok (by kernel_rfl) (by kernel_rfl) (by kernel_rfl)
/-- monocle/span.Sqr (1178 steps) -/
theorem call28 : MemoOk Tryz.prog glob hG (69, [(.agg [(.int false .i64 (17179869184)), (.int false .i64 (21474836480))])], (.tuple [(.agg [(.int false .i64 (68719476736)), (.int false .i64 (107374182400))]), (.int false .i64 (0))])) := known table1_ok (by kernel_rfl) (by kernel_rfl) (by kernel_rfl)
/-- monocle/span.Sqr (1178 steps) -/
theorem call29 : MemoOk Tryz.prog glob hG (69, [(.agg [(.int false .i64 (0)), (.int false .i64 (0))])], (.tuple [(.agg [(.int false .i64 (0)), (.int false .i64 (0))]), (.int false .i64 (0))])) := known table1_ok (by kernel_rfl) (by kernel_rfl) (by kernel_rfl)
/-- monocle/span.Sqr (1178 steps) -/
theorem call30 : MemoOk Tryz.prog glob hG (69, [(.agg [(.int false .i64 (25769803776)), (.int false .i64 (25769803776))])], (.tuple [(.agg [(.int false .i64 (154618822656)), (.int false .i64 (154618822656))]), (.int false .i64 (0))])) := known table1_ok (by kernel_rfl) (by kernel_rfl) (by kernel_rfl)
/-- monocle/span.Sqr (1178 steps) -/
theorem call31 : MemoOk Tryz.prog glob hG (69, [(.agg [(.int false .i64 (0)), (.int false .i64 (8589934592))])], (.tuple [(.agg [(.int false .i64 (0)), (.int false .i64 (17179869184))]), (.int false .i64 (0))])) := known table1_ok (by kernel_rfl) (by kernel_rfl) (by kernel_rfl)
/-- monocle/glass.Name (61 steps) -/
theorem call32 : MemoOk Tryz.prog glob hG (66, [(.str false ⟨#[76]⟩)], (.bool false true)) := known table1_ok (by kernel_rfl) (by kernel_rfl) (by kernel_rfl)
/-- monocle/span.Dec (399 steps) -/
theorem call33 : MemoOk Tryz.prog glob hG (49, [(.int false .i64 (10000000)), (.int false .i64 (6))], (.tuple [(.agg [(.int false .i64 (42949672960)), (.int false .i64 (42949672960))]), (.int false .i64 (0))])) := known table1_ok (by kernel_rfl) (by kernel_rfl) (by kernel_rfl)
/-- monocle/span.Sqr (1178 steps) -/
theorem call34 : MemoOk Tryz.prog glob hG (69, [(.agg [(.int false .i64 (42949672960)), (.int false .i64 (42949672960))])], (.tuple [(.agg [(.int false .i64 (429496729600)), (.int false .i64 (429496729600))]), (.int false .i64 (0))])) := known table1_ok (by kernel_rfl) (by kernel_rfl) (by kernel_rfl)
/-- monocle/span.Scale (62 steps) -/
theorem call35 : MemoOk Tryz.prog glob hG (236, [(.agg [(.int false .i64 (429496729600)), (.int false .i64 (429496729600))]), (.int false .i64 (0)), (.int false .i64 (1000000000))], (.tuple [(.agg [(.int false .i64 (0)), (.int false .i64 (0))]), (.int false .i64 (0))])) := known table1_ok (by kernel_rfl) (by kernel_rfl) (by kernel_rfl)
/-- monocle/span.Scale (62 steps) -/
theorem call36 : MemoOk Tryz.prog glob hG (236, [(.agg [(.int false .i64 (0)), (.int false .i64 (0))]), (.int false .i64 (0)), (.int false .i64 (1000000000))], (.tuple [(.agg [(.int false .i64 (0)), (.int false .i64 (0))]), (.int false .i64 (0))])) := known table1_ok (by kernel_rfl) (by kernel_rfl) (by kernel_rfl)
/-- monocle/span.Scale (62 steps) -/
theorem call37 : MemoOk Tryz.prog glob hG (236, [(.agg [(.int false .i64 (0)), (.int false .i64 (0))]), (.int false .i64 (1000000)), (.int false .i64 (1000000))], (.tuple [(.agg [(.int false .i64 (0)), (.int false .i64 (0))]), (.int false .i64 (0))])) := known table1_ok (by kernel_rfl) (by kernel_rfl) (by kernel_rfl)
/-- monocle/span.Sqrt (69 steps) -/
theorem call38 : MemoOk Tryz.prog glob hG (197, [(.agg [(.int false .i64 (4294967296)), (.int false .i64 (4294967296))])], (.tuple [(.agg [(.int false .i64 (4294967296)), (.int false .i64 (4294967296))]), (.int false .i64 (0))])) := known table1_ok (by kernel_rfl) (by kernel_rfl) (by kernel_rfl)
/-- monocle/span.Div (443 steps) -/
theorem call39 : MemoOk Tryz.prog glob hG (198, [(.agg [(.int false .i64 (0)), (.int false .i64 (0))]), (.agg [(.int false .i64 (8589934592)), (.int false .i64 (8589934592))])], (.tuple [(.agg [(.int false .i64 (0)), (.int false .i64 (0))]), (.int false .i64 (0))])) := known table1_ok (by kernel_rfl) (by kernel_rfl) (by kernel_rfl)
/-- monocle/span.Scale (62 steps) -/
theorem call40 : MemoOk Tryz.prog glob hG (236, [(.agg [(.int false .i64 (429496729600)), (.int false .i64 (429496729600))]), (.int false .i64 (10000000)), (.int false .i64 (1000000000))], (.tuple [(.agg [(.int false .i64 (4294967296)), (.int false .i64 (4294967296))]), (.int false .i64 (0))])) := known table1_ok (by kernel_rfl) (by kernel_rfl) (by kernel_rfl)
/-- monocle/span.Scale (62 steps) -/
theorem call41 : MemoOk Tryz.prog glob hG (236, [(.agg [(.int false .i64 (4294967296)), (.int false .i64 (4294967296))]), (.int false .i64 (10000000)), (.int false .i64 (1000000000))], (.tuple [(.agg [(.int false .i64 (42949672)), (.int false .i64 (42949673))]), (.int false .i64 (0))])) := known table1_ok (by kernel_rfl) (by kernel_rfl) (by kernel_rfl)
/-- monocle/span.Scale (62 steps) -/
theorem call42 : MemoOk Tryz.prog glob hG (236, [(.agg [(.int false .i64 (42949672)), (.int false .i64 (42949673))]), (.int false .i64 (0)), (.int false .i64 (1000000))], (.tuple [(.agg [(.int false .i64 (0)), (.int false .i64 (0))]), (.int false .i64 (0))])) := known table1_ok (by kernel_rfl) (by kernel_rfl) (by kernel_rfl)
/-- monocle/span.Div (443 steps) -/
theorem call43 : MemoOk Tryz.prog glob hG (198, [(.agg [(.int false .i64 (4294967296)), (.int false .i64 (4294967296))]), (.agg [(.int false .i64 (8589934592)), (.int false .i64 (8589934592))])], (.tuple [(.agg [(.int false .i64 (2147483648)), (.int false .i64 (2147483648))]), (.int false .i64 (0))])) := known table1_ok (by kernel_rfl) (by kernel_rfl) (by kernel_rfl)
/-- monocle/span.Dec (399 steps) -/
theorem call44 : MemoOk Tryz.prog glob hG (49, [(.int false .i64 (2000000)), (.int false .i64 (6))], (.tuple [(.agg [(.int false .i64 (8589934592)), (.int false .i64 (8589934592))]), (.int false .i64 (0))])) := known table1_ok (by kernel_rfl) (by kernel_rfl) (by kernel_rfl)
/-- monocle/span.Sqr (1178 steps) -/
theorem call45 : MemoOk Tryz.prog glob hG (69, [(.agg [(.int false .i64 (4294967296000)), (.int false .i64 (4294967296000))])], (.tuple [(.agg [(.int false .i64 (4294967296000000)), (.int false .i64 (4294967296000000))]), (.int false .i64 (0))])) := known table1_ok (by kernel_rfl) (by kernel_rfl) (by kernel_rfl)
/-- monocle/span.Sqr (1064 steps) -/
theorem call46 : MemoOk Tryz.prog glob hG (69, [(.agg [(.int false .i64 (4503599627370496)), (.int false .i64 (4503599627370496))])], (.tuple [(.agg [(.int false .i64 (0)), (.int false .i64 (0))]), (.int false .i64 (6))])) := known table1_ok (by kernel_rfl) (by kernel_rfl) (by kernel_rfl)
/-- monocle/span.Sqr (1178 steps) -/
theorem call47 : MemoOk Tryz.prog glob hG (69, [(.agg [(.int false .i64 (-30064771072)), (.int false .i64 (34359738368))])], (.tuple [(.agg [(.int false .i64 (0)), (.int false .i64 (274877906944))]), (.int false .i64 (0))])) := known table1_ok (by kernel_rfl) (by kernel_rfl) (by kernel_rfl)
/-- monocle/glass.Name (17 steps) -/
theorem call48 : MemoOk Tryz.prog glob hG (66, [(.str false ⟨#[]⟩)], (.bool false false)) := known table1_ok (by kernel_rfl) (by kernel_rfl) (by kernel_rfl)
/-- monocle/span.Dec (399 steps) -/
theorem call49 : MemoOk Tryz.prog glob hG (49, [(.int false .i64 (101000000)), (.int false .i64 (6))], (.tuple [(.agg [(.int false .i64 (433791696896)), (.int false .i64 (433791696896))]), (.int false .i64 (0))])) := known table1_ok (by kernel_rfl) (by kernel_rfl) (by kernel_rfl)
/-- monocle/span.Sqr (1178 steps) -/
theorem call50 : MemoOk Tryz.prog glob hG (69, [(.agg [(.int false .i64 (433791696896)), (.int false .i64 (433791696896))])], (.tuple [(.agg [(.int false .i64 (43812961386496)), (.int false .i64 (43812961386496))]), (.int false .i64 (0))])) := known table1_ok (by kernel_rfl) (by kernel_rfl) (by kernel_rfl)
/-- monocle/span.Scale (62 steps) -/
theorem call51 : MemoOk Tryz.prog glob hG (236, [(.agg [(.int false .i64 (43812961386496)), (.int false .i64 (43812961386496))]), (.int false .i64 (0)), (.int false .i64 (1000000000))], (.tuple [(.agg [(.int false .i64 (0)), (.int false .i64 (0))]), (.int false .i64 (0))])) := known table1_ok (by kernel_rfl) (by kernel_rfl) (by kernel_rfl)
/-- monocle/span.Scale (62 steps) -/
theorem call52 : MemoOk Tryz.prog glob hG (236, [(.agg [(.int false .i64 (43812961386496)), (.int false .i64 (43812961386496))]), (.int false .i64 (10000000)), (.int false .i64 (1000000000))], (.tuple [(.agg [(.int false .i64 (438129613864)), (.int false .i64 (438129613865))]), (.int false .i64 (0))])) := known table1_ok (by kernel_rfl) (by kernel_rfl) (by kernel_rfl)
/-- monocle/span.Scale (62 steps) -/
theorem call53 : MemoOk Tryz.prog glob hG (236, [(.agg [(.int false .i64 (438129613864)), (.int false .i64 (438129613865))]), (.int false .i64 (10000000)), (.int false .i64 (1000000000))], (.tuple [(.agg [(.int false .i64 (4381296138)), (.int false .i64 (4381296139))]), (.int false .i64 (0))])) := known table1_ok (by kernel_rfl) (by kernel_rfl) (by kernel_rfl)
/-- monocle/span.Scale (62 steps) -/
theorem call54 : MemoOk Tryz.prog glob hG (236, [(.agg [(.int false .i64 (4381296138)), (.int false .i64 (4381296139))]), (.int false .i64 (1000000)), (.int false .i64 (1000000))], (.tuple [(.agg [(.int false .i64 (4381296138)), (.int false .i64 (4381296139))]), (.int false .i64 (0))])) := known table1_ok (by kernel_rfl) (by kernel_rfl) (by kernel_rfl)
/-- monocle/span.Dec (399 steps) -/
theorem call55 : MemoOk Tryz.prog glob hG (49, [(.int false .i64 (0)), (.int false .i64 (6))], (.tuple [(.agg [(.int false .i64 (0)), (.int false .i64 (0))]), (.int false .i64 (0))])) := known table1_ok (by kernel_rfl) (by kernel_rfl) (by kernel_rfl)
/-- monocle/span.Sqr (1181 steps) -/
theorem call56 : MemoOk Tryz.prog glob hG (69, [(.agg [(.int false .i64 (21474836480)), (.int false .i64 (21474836481))])], (.tuple [(.agg [(.int false .i64 (107374182400)), (.int false .i64 (107374182411))]), (.int false .i64 (0))])) := known table1_ok (by kernel_rfl) (by kernel_rfl) (by kernel_rfl)
/-- monocle/span.Sqr (1178 steps) -/
theorem call57 : MemoOk Tryz.prog glob hG (69, [(.agg [(.int false .i64 (21474836480)), (.int false .i64 (21474836480))])], (.tuple [(.agg [(.int false .i64 (107374182400)), (.int false .i64 (107374182400))]), (.int false .i64 (0))])) := known table1_ok (by kernel_rfl) (by kernel_rfl) (by kernel_rfl)
/-- monocle/span.Sqr (1178 steps) -/
theorem call58 : MemoOk Tryz.prog glob hG (69, [(.agg [(.int false .i64 (4294967296)), (.int false .i64 (4294967296))])], (.tuple [(.agg [(.int false .i64 (4294967296)), (.int false .i64 (4294967296))]), (.int false .i64 (0))])) := known table1_ok (by kernel_rfl) (by kernel_rfl) (by kernel_rfl)

def table2 : List (FuncId × List AV × AV) :=
  (69, [(.agg [(.int false .i64 (12884901888)), (.int false .i64 (12884901888))])], (.tuple [(.agg [(.int false .i64 (38654705664)), (.int false .i64 (38654705664))]), (.int false .i64 (0))])) ::
  (69, [(.agg [(.int false .i64 (17179869184)), (.int false .i64 (17179869184))])], (.tuple [(.agg [(.int false .i64 (68719476736)), (.int false .i64 (68719476736))]), (.int false .i64 (0))])) ::
  (69, [(.agg [(.int false .i64 (17179869184)), (.int false .i64 (21474836480))])], (.tuple [(.agg [(.int false .i64 (68719476736)), (.int false .i64 (107374182400))]), (.int false .i64 (0))])) ::
  (69, [(.agg [(.int false .i64 (0)), (.int false .i64 (0))])], (.tuple [(.agg [(.int false .i64 (0)), (.int false .i64 (0))]), (.int false .i64 (0))])) ::
  (69, [(.agg [(.int false .i64 (25769803776)), (.int false .i64 (25769803776))])], (.tuple [(.agg [(.int false .i64 (154618822656)), (.int false .i64 (154618822656))]), (.int false .i64 (0))])) ::
  (69, [(.agg [(.int false .i64 (0)), (.int false .i64 (8589934592))])], (.tuple [(.agg [(.int false .i64 (0)), (.int false .i64 (17179869184))]), (.int false .i64 (0))])) ::
  (66, [(.str false ⟨#[76]⟩)], (.bool false true)) ::
  (49, [(.int false .i64 (10000000)), (.int false .i64 (6))], (.tuple [(.agg [(.int false .i64 (42949672960)), (.int false .i64 (42949672960))]), (.int false .i64 (0))])) ::
  (69, [(.agg [(.int false .i64 (42949672960)), (.int false .i64 (42949672960))])], (.tuple [(.agg [(.int false .i64 (429496729600)), (.int false .i64 (429496729600))]), (.int false .i64 (0))])) ::
  (236, [(.agg [(.int false .i64 (429496729600)), (.int false .i64 (429496729600))]), (.int false .i64 (0)), (.int false .i64 (1000000000))], (.tuple [(.agg [(.int false .i64 (0)), (.int false .i64 (0))]), (.int false .i64 (0))])) ::
  (236, [(.agg [(.int false .i64 (0)), (.int false .i64 (0))]), (.int false .i64 (0)), (.int false .i64 (1000000000))], (.tuple [(.agg [(.int false .i64 (0)), (.int false .i64 (0))]), (.int false .i64 (0))])) ::
  (236, [(.agg [(.int false .i64 (0)), (.int false .i64 (0))]), (.int false .i64 (1000000)), (.int false .i64 (1000000))], (.tuple [(.agg [(.int false .i64 (0)), (.int false .i64 (0))]), (.int false .i64 (0))])) ::
  (197, [(.agg [(.int false .i64 (4294967296)), (.int false .i64 (4294967296))])], (.tuple [(.agg [(.int false .i64 (4294967296)), (.int false .i64 (4294967296))]), (.int false .i64 (0))])) ::
  (198, [(.agg [(.int false .i64 (0)), (.int false .i64 (0))]), (.agg [(.int false .i64 (8589934592)), (.int false .i64 (8589934592))])], (.tuple [(.agg [(.int false .i64 (0)), (.int false .i64 (0))]), (.int false .i64 (0))])) ::
  (236, [(.agg [(.int false .i64 (429496729600)), (.int false .i64 (429496729600))]), (.int false .i64 (10000000)), (.int false .i64 (1000000000))], (.tuple [(.agg [(.int false .i64 (4294967296)), (.int false .i64 (4294967296))]), (.int false .i64 (0))])) ::
  (236, [(.agg [(.int false .i64 (4294967296)), (.int false .i64 (4294967296))]), (.int false .i64 (10000000)), (.int false .i64 (1000000000))], (.tuple [(.agg [(.int false .i64 (42949672)), (.int false .i64 (42949673))]), (.int false .i64 (0))])) ::
  (236, [(.agg [(.int false .i64 (42949672)), (.int false .i64 (42949673))]), (.int false .i64 (0)), (.int false .i64 (1000000))], (.tuple [(.agg [(.int false .i64 (0)), (.int false .i64 (0))]), (.int false .i64 (0))])) ::
  (198, [(.agg [(.int false .i64 (4294967296)), (.int false .i64 (4294967296))]), (.agg [(.int false .i64 (8589934592)), (.int false .i64 (8589934592))])], (.tuple [(.agg [(.int false .i64 (2147483648)), (.int false .i64 (2147483648))]), (.int false .i64 (0))])) ::
  (49, [(.int false .i64 (2000000)), (.int false .i64 (6))], (.tuple [(.agg [(.int false .i64 (8589934592)), (.int false .i64 (8589934592))]), (.int false .i64 (0))])) ::
  (69, [(.agg [(.int false .i64 (4294967296000)), (.int false .i64 (4294967296000))])], (.tuple [(.agg [(.int false .i64 (4294967296000000)), (.int false .i64 (4294967296000000))]), (.int false .i64 (0))])) ::
  (69, [(.agg [(.int false .i64 (4503599627370496)), (.int false .i64 (4503599627370496))])], (.tuple [(.agg [(.int false .i64 (0)), (.int false .i64 (0))]), (.int false .i64 (6))])) ::
  (69, [(.agg [(.int false .i64 (-30064771072)), (.int false .i64 (34359738368))])], (.tuple [(.agg [(.int false .i64 (0)), (.int false .i64 (274877906944))]), (.int false .i64 (0))])) ::
  (66, [(.str false ⟨#[]⟩)], (.bool false false)) ::
  (49, [(.int false .i64 (101000000)), (.int false .i64 (6))], (.tuple [(.agg [(.int false .i64 (433791696896)), (.int false .i64 (433791696896))]), (.int false .i64 (0))])) ::
  (69, [(.agg [(.int false .i64 (433791696896)), (.int false .i64 (433791696896))])], (.tuple [(.agg [(.int false .i64 (43812961386496)), (.int false .i64 (43812961386496))]), (.int false .i64 (0))])) ::
  (236, [(.agg [(.int false .i64 (43812961386496)), (.int false .i64 (43812961386496))]), (.int false .i64 (0)), (.int false .i64 (1000000000))], (.tuple [(.agg [(.int false .i64 (0)), (.int false .i64 (0))]), (.int false .i64 (0))])) ::
  (236, [(.agg [(.int false .i64 (43812961386496)), (.int false .i64 (43812961386496))]), (.int false .i64 (10000000)), (.int false .i64 (1000000000))], (.tuple [(.agg [(.int false .i64 (438129613864)), (.int false .i64 (438129613865))]), (.int false .i64 (0))])) ::
  (236, [(.agg [(.int false .i64 (438129613864)), (.int false .i64 (438129613865))]), (.int false .i64 (10000000)), (.int false .i64 (1000000000))], (.tuple [(.agg [(.int false .i64 (4381296138)), (.int false .i64 (4381296139))]), (.int false .i64 (0))])) ::
  (236, [(.agg [(.int false .i64 (4381296138)), (.int false .i64 (4381296139))]), (.int false .i64 (1000000)), (.int false .i64 (1000000))], (.tuple [(.agg [(.int false .i64 (4381296138)), (.int false .i64 (4381296139))]), (.int false .i64 (0))])) ::
  (49, [(.int false .i64 (0)), (.int false .i64 (6))], (.tuple [(.agg [(.int false .i64 (0)), (.int false .i64 (0))]), (.int false .i64 (0))])) ::
  (69, [(.agg [(.int false .i64 (21474836480)), (.int false .i64 (21474836481))])], (.tuple [(.agg [(.int false .i64 (107374182400)), (.int false .i64 (107374182411))]), (.int false .i64 (0))])) ::
  (69, [(.agg [(.int false .i64 (21474836480)), (.int false .i64 (21474836480))])], (.tuple [(.agg [(.int false .i64 (107374182400)), (.int false .i64 (107374182400))]), (.int false .i64 (0))])) ::
  (69, [(.agg [(.int false .i64 (4294967296)), (.int false .i64 (4294967296))])], (.tuple [(.agg [(.int false .i64 (4294967296)), (.int false .i64 (4294967296))]), (.int false .i64 (0))])) ::
  table1
theorem table2_ok : ∀ x ∈ table2, MemoOk Tryz.prog glob hG x :=
  more call26 (more call27 (more call28 (more call29 (more call30 (more call31 (more call32 (more call33 (more call34 (more call35 (more call36 (more call37 (more call38 (more call39 (more call40 (more call41 (more call42 (more call43 (more call44 (more call45 (more call46 (more call47 (more call48 (more call49 (more call50 (more call51 (more call52 (more call53 (more call54 (more call55 (more call56 (more call57 (more call58 (table1_ok)))))))))))))))))))))))))))))))))

end Go.Proofs.YtkeognjggnmgmaaGreatDoor
