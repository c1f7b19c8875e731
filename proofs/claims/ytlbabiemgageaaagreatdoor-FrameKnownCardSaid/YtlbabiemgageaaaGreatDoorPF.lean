/- What is proved: FrameKnown returns true (part 6 of 14). No conditions beyond those of the row. -/
import Derived.Test.YtlbabiemgageaaaGreatDoorPE
set_option linter.unusedVariables false
set_option linter.unusedSimpArgs false
set_option linter.unusedSectionVars false
/- What is proved: calls of the law FrameKnown, of which the answers are known (level 2). No conditions. -/
namespace Go.Proofs.YtlbabiemgageaaaGreatDoor
open Go Go.Eng

/-- monocle/glass.Name (61 steps) -/
theorem call36 : MemoOk Tryz.prog glob hG (165, [(.str false ⟨#[76]⟩)], (.bool false true)) := known table1_ok (by kernel_rfl) (by kernel_rfl) (by kernel_rfl)
/-- monocle/span.Dec (399 steps) -/
theorem call37 : MemoOk Tryz.prog glob hG (131, [(.int false .i64 (0)), (.int false .i64 (6))], (.tuple [(.agg [(.int false .i64 (0)), (.int false .i64 (0))]), (.int false .i64 (0))])) := known table1_ok (by kernel_rfl) (by kernel_rfl) (by kernel_rfl)
/-- monocle/span.Dec (399 steps) -/
theorem call38 : MemoOk Tryz.prog glob hG (131, [(.int false .i64 (10000000)), (.int false .i64 (6))], (.tuple [(.agg [(.int false .i64 (42949672960)), (.int false .i64 (42949672960))]), (.int false .i64 (0))])) := known table1_ok (by kernel_rfl) (by kernel_rfl) (by kernel_rfl)
/-- monocle/span.Mul (435 steps) -/
theorem call39 : MemoOk Tryz.prog glob hG (218, [(.agg [(.int false .i64 (4294967296)), (.int false .i64 (4294967296))]), (.agg [(.int false .i64 (0)), (.int false .i64 (0))])], (.tuple [(.agg [(.int false .i64 (0)), (.int false .i64 (0))]), (.int false .i64 (0))])) := known table1_ok (by kernel_rfl) (by kernel_rfl) (by kernel_rfl)
/-- monocle/span.Mul (435 steps) -/
theorem call40 : MemoOk Tryz.prog glob hG (218, [(.agg [(.int false .i64 (0)), (.int false .i64 (0))]), (.agg [(.int false .i64 (0)), (.int false .i64 (0))])], (.tuple [(.agg [(.int false .i64 (0)), (.int false .i64 (0))]), (.int false .i64 (0))])) := known table1_ok (by kernel_rfl) (by kernel_rfl) (by kernel_rfl)
/-- monocle/span.Mul (435 steps) -/
theorem call41 : MemoOk Tryz.prog glob hG (218, [(.agg [(.int false .i64 (0)), (.int false .i64 (0))]), (.agg [(.int false .i64 (42949672960)), (.int false .i64 (42949672960))])], (.tuple [(.agg [(.int false .i64 (0)), (.int false .i64 (0))]), (.int false .i64 (0))])) := known table1_ok (by kernel_rfl) (by kernel_rfl) (by kernel_rfl)
/-- monocle/span.Mul (435 steps) -/
theorem call42 : MemoOk Tryz.prog glob hG (218, [(.agg [(.int false .i64 (4294967296)), (.int false .i64 (4294967296))]), (.agg [(.int false .i64 (42949672960)), (.int false .i64 (42949672960))])], (.tuple [(.agg [(.int false .i64 (42949672960)), (.int false .i64 (42949672960))]), (.int false .i64 (0))])) := known table1_ok (by kernel_rfl) (by kernel_rfl) (by kernel_rfl)
/-- monocle/span.Dec (399 steps) -/
theorem call43 : MemoOk Tryz.prog glob hG (131, [(.int false .i64 (1000000)), (.int false .i64 (6))], (.tuple [(.agg [(.int false .i64 (4294967296)), (.int false .i64 (4294967296))]), (.int false .i64 (0))])) := known table1_ok (by kernel_rfl) (by kernel_rfl) (by kernel_rfl)
/-- monocle/span.Mul (435 steps) -/
theorem call44 : MemoOk Tryz.prog glob hG (218, [(.agg [(.int false .i64 (0)), (.int false .i64 (0))]), (.agg [(.int false .i64 (4294967296)), (.int false .i64 (4294967296))])], (.tuple [(.agg [(.int false .i64 (0)), (.int false .i64 (0))]), (.int false .i64 (0))])) := known table1_ok (by kernel_rfl) (by kernel_rfl) (by kernel_rfl)
/-- monocle/span.Mul (435 steps) -/
theorem call45 : MemoOk Tryz.prog glob hG (218, [(.agg [(.int false .i64 (4294967296)), (.int false .i64 (4294967296))]), (.agg [(.int false .i64 (4294967296)), (.int false .i64 (4294967296))])], (.tuple [(.agg [(.int false .i64 (4294967296)), (.int false .i64 (4294967296))]), (.int false .i64 (0))])) := known table1_ok (by kernel_rfl) (by kernel_rfl) (by kernel_rfl)
/-- monocle/span.Mul (435 steps) -/
theorem call46 : MemoOk Tryz.prog glob hG (218, [(.agg [(.int false .i64 (-4294967296)), (.int false .i64 (-4294967296))]), (.agg [(.int false .i64 (0)), (.int false .i64 (0))])], (.tuple [(.agg [(.int false .i64 (0)), (.int false .i64 (0))]), (.int false .i64 (0))])) := known table1_ok (by kernel_rfl) (by kernel_rfl) (by kernel_rfl)
/-- monocle/span.Mul (435 steps) -/
theorem call47 : MemoOk Tryz.prog glob hG (218, [(.agg [(.int false .i64 (-4294967296)), (.int false .i64 (-4294967296))]), (.agg [(.int false .i64 (4294967296)), (.int false .i64 (4294967296))])], (.tuple [(.agg [(.int false .i64 (-4294967296)), (.int false .i64 (-4294967296))]), (.int false .i64 (0))])) := known table1_ok (by kernel_rfl) (by kernel_rfl) (by kernel_rfl)
/-- monocle/span.Dec (399 steps) -/
theorem call48 : MemoOk Tryz.prog glob hG (131, [(.int false .i64 (5000000)), (.int false .i64 (6))], (.tuple [(.agg [(.int false .i64 (21474836480)), (.int false .i64 (21474836480))]), (.int false .i64 (0))])) := known table1_ok (by kernel_rfl) (by kernel_rfl) (by kernel_rfl)
/-- monocle/span.Mul (435 steps) -/
theorem call49 : MemoOk Tryz.prog glob hG (218, [(.agg [(.int false .i64 (0)), (.int false .i64 (0))]), (.agg [(.int false .i64 (21474836480)), (.int false .i64 (21474836480))])], (.tuple [(.agg [(.int false .i64 (0)), (.int false .i64 (0))]), (.int false .i64 (0))])) := known table1_ok (by kernel_rfl) (by kernel_rfl) (by kernel_rfl)
/-- monocle/span.Mul (435 steps) -/
theorem call50 : MemoOk Tryz.prog glob hG (218, [(.agg [(.int false .i64 (-4294967296)), (.int false .i64 (-4294967296))]), (.agg [(.int false .i64 (21474836480)), (.int false .i64 (21474836480))])], (.tuple [(.agg [(.int false .i64 (-21474836480)), (.int false .i64 (-21474836480))]), (.int false .i64 (0))])) := known table1_ok (by kernel_rfl) (by kernel_rfl) (by kernel_rfl)
/-- monocle/span.Mul (435 steps) -/
theorem call51 : MemoOk Tryz.prog glob hG (218, [(.agg [(.int false .i64 (0)), (.int false .i64 (0))]), (.agg [(.int false .i64 (8589934592)), (.int false .i64 (8589934592))])], (.tuple [(.agg [(.int false .i64 (0)), (.int false .i64 (0))]), (.int false .i64 (0))])) := known table1_ok (by kernel_rfl) (by kernel_rfl) (by kernel_rfl)
/-- monocle/span.Mul (435 steps) -/
theorem call52 : MemoOk Tryz.prog glob hG (218, [(.agg [(.int false .i64 (4294967296)), (.int false .i64 (4294967296))]), (.agg [(.int false .i64 (8589934592)), (.int false .i64 (8589934592))])], (.tuple [(.agg [(.int false .i64 (8589934592)), (.int false .i64 (8589934592))]), (.int false .i64 (0))])) := known table1_ok (by kernel_rfl) (by kernel_rfl) (by kernel_rfl)
/-- monocle/span.Mul (435 steps) -/
theorem call53 : MemoOk Tryz.prog glob hG (218, [(.agg [(.int false .i64 (0)), (.int false .i64 (0))]), (.agg [(.int false .i64 (12884901888)), (.int false .i64 (12884901888))])], (.tuple [(.agg [(.int false .i64 (0)), (.int false .i64 (0))]), (.int false .i64 (0))])) := known table1_ok (by kernel_rfl) (by kernel_rfl) (by kernel_rfl)
/-- monocle/span.Mul (435 steps) -/
theorem call54 : MemoOk Tryz.prog glob hG (218, [(.agg [(.int false .i64 (-4294967296)), (.int false .i64 (-4294967296))]), (.agg [(.int false .i64 (12884901888)), (.int false .i64 (12884901888))])], (.tuple [(.agg [(.int false .i64 (-12884901888)), (.int false .i64 (-12884901888))]), (.int false .i64 (0))])) := known table1_ok (by kernel_rfl) (by kernel_rfl) (by kernel_rfl)
/-- monocle/span.Mul (435 steps) -/
theorem call55 : MemoOk Tryz.prog glob hG (218, [(.agg [(.int false .i64 (0)), (.int false .i64 (0))]), (.agg [(.int false .i64 (-4294967296)), (.int false .i64 (-4294967296))])], (.tuple [(.agg [(.int false .i64 (0)), (.int false .i64 (0))]), (.int false .i64 (0))])) := known table1_ok (by kernel_rfl) (by kernel_rfl) (by kernel_rfl)
/-- monocle/span.Mul (435 steps) -/
theorem call56 : MemoOk Tryz.prog glob hG (218, [(.agg [(.int false .i64 (-4294967296)), (.int false .i64 (-4294967296))]), (.agg [(.int false .i64 (-4294967296)), (.int false .i64 (-4294967296))])], (.tuple [(.agg [(.int false .i64 (4294967296)), (.int false .i64 (4294967296))]), (.int false .i64 (0))])) := known table1_ok (by kernel_rfl) (by kernel_rfl) (by kernel_rfl)
/-- monocle/span.Mul (435 steps) -/
theorem call57 : MemoOk Tryz.prog glob hG (218, [(.agg [(.int false .i64 (4294967296)), (.int false .i64 (4294967296))]), (.agg [(.int false .i64 (4503599627370496)), (.int false .i64 (4503599627370496))])], (.tuple [(.agg [(.int false .i64 (4503599627370496)), (.int false .i64 (4503599627370496))]), (.int false .i64 (0))])) := known table1_ok (by kernel_rfl) (by kernel_rfl) (by kernel_rfl)
/-- monocle/span.Mul (435 steps) -/
theorem call58 : MemoOk Tryz.prog glob hG (218, [(.agg [(.int false .i64 (0)), (.int false .i64 (0))]), (.agg [(.int false .i64 (4503599627370496)), (.int false .i64 (4503599627370496))])], (.tuple [(.agg [(.int false .i64 (0)), (.int false .i64 (0))]), (.int false .i64 (0))])) := known table1_ok (by kernel_rfl) (by kernel_rfl) (by kernel_rfl)
/-- monocle/glass.Name (17 steps) -/
theorem call59 : MemoOk Tryz.prog glob hG (165, [(.str false ⟨#[]⟩)], (.bool false false)) := known table1_ok (by kernel_rfl) (by kernel_rfl) (by kernel_rfl)

def table2 : List (FuncId × List AV × AV) :=
  (165, [(.str false ⟨#[76]⟩)], (.bool false true)) ::
  (131, [(.int false .i64 (0)), (.int false .i64 (6))], (.tuple [(.agg [(.int false .i64 (0)), (.int false .i64 (0))]), (.int false .i64 (0))])) ::
  (131, [(.int false .i64 (10000000)), (.int false .i64 (6))], (.tuple [(.agg [(.int false .i64 (42949672960)), (.int false .i64 (42949672960))]), (.int false .i64 (0))])) ::
  (218, [(.agg [(.int false .i64 (4294967296)), (.int false .i64 (4294967296))]), (.agg [(.int false .i64 (0)), (.int false .i64 (0))])], (.tuple [(.agg [(.int false .i64 (0)), (.int false .i64 (0))]), (.int false .i64 (0))])) ::
  (218, [(.agg [(.int false .i64 (0)), (.int false .i64 (0))]), (.agg [(.int false .i64 (0)), (.int false .i64 (0))])], (.tuple [(.agg [(.int false .i64 (0)), (.int false .i64 (0))]), (.int false .i64 (0))])) ::
  (218, [(.agg [(.int false .i64 (0)), (.int false .i64 (0))]), (.agg [(.int false .i64 (42949672960)), (.int false .i64 (42949672960))])], (.tuple [(.agg [(.int false .i64 (0)), (.int false .i64 (0))]), (.int false .i64 (0))])) ::
  (218, [(.agg [(.int false .i64 (4294967296)), (.int false .i64 (4294967296))]), (.agg [(.int false .i64 (42949672960)), (.int false .i64 (42949672960))])], (.tuple [(.agg [(.int false .i64 (42949672960)), (.int false .i64 (42949672960))]), (.int false .i64 (0))])) ::
  (131, [(.int false .i64 (1000000)), (.int false .i64 (6))], (.tuple [(.agg [(.int false .i64 (4294967296)), (.int false .i64 (4294967296))]), (.int false .i64 (0))])) ::
  (218, [(.agg [(.int false .i64 (0)), (.int false .i64 (0))]), (.agg [(.int false .i64 (4294967296)), (.int false .i64 (4294967296))])], (.tuple [(.agg [(.int false .i64 (0)), (.int false .i64 (0))]), (.int false .i64 (0))])) ::
  (218, [(.agg [(.int false .i64 (4294967296)), (.int false .i64 (4294967296))]), (.agg [(.int false .i64 (4294967296)), (.int false .i64 (4294967296))])], (.tuple [(.agg [(.int false .i64 (4294967296)), (.int false .i64 (4294967296))]), (.int false .i64 (0))])) ::
  (218, [(.agg [(.int false .i64 (-4294967296)), (.int false .i64 (-4294967296))]), (.agg [(.int false .i64 (0)), (.int false .i64 (0))])], (.tuple [(.agg [(.int false .i64 (0)), (.int false .i64 (0))]), (.int false .i64 (0))])) ::
  (218, [(.agg [(.int false .i64 (-4294967296)), (.int false .i64 (-4294967296))]), (.agg [(.int false .i64 (4294967296)), (.int false .i64 (4294967296))])], (.tuple [(.agg [(.int false .i64 (-4294967296)), (.int false .i64 (-4294967296))]), (.int false .i64 (0))])) ::
  (131, [(.int false .i64 (5000000)), (.int false .i64 (6))], (.tuple [(.agg [(.int false .i64 (21474836480)), (.int false .i64 (21474836480))]), (.int false .i64 (0))])) ::
  (218, [(.agg [(.int false .i64 (0)), (.int false .i64 (0))]), (.agg [(.int false .i64 (21474836480)), (.int false .i64 (21474836480))])], (.tuple [(.agg [(.int false .i64 (0)), (.int false .i64 (0))]), (.int false .i64 (0))])) ::
  (218, [(.agg [(.int false .i64 (-4294967296)), (.int false .i64 (-4294967296))]), (.agg [(.int false .i64 (21474836480)), (.int false .i64 (21474836480))])], (.tuple [(.agg [(.int false .i64 (-21474836480)), (.int false .i64 (-21474836480))]), (.int false .i64 (0))])) ::
  (218, [(.agg [(.int false .i64 (0)), (.int false .i64 (0))]), (.agg [(.int false .i64 (8589934592)), (.int false .i64 (8589934592))])], (.tuple [(.agg [(.int false .i64 (0)), (.int false .i64 (0))]), (.int false .i64 (0))])) ::
  (218, [(.agg [(.int false .i64 (4294967296)), (.int false .i64 (4294967296))]), (.agg [(.int false .i64 (8589934592)), (.int false .i64 (8589934592))])], (.tuple [(.agg [(.int false .i64 (8589934592)), (.int false .i64 (8589934592))]), (.int false .i64 (0))])) ::
  (218, [(.agg [(.int false .i64 (0)), (.int false .i64 (0))]), (.agg [(.int false .i64 (12884901888)), (.int false .i64 (12884901888))])], (.tuple [(.agg [(.int false .i64 (0)), (.int false .i64 (0))]), (.int false .i64 (0))])) ::
  (218, [(.agg [(.int false .i64 (-4294967296)), (.int false .i64 (-4294967296))]), (.agg [(.int false .i64 (12884901888)), (.int false .i64 (12884901888))])], (.tuple [(.agg [(.int false .i64 (-12884901888)), (.int false .i64 (-12884901888))]), (.int false .i64 (0))])) ::
  (218, [(.agg [(.int false .i64 (0)), (.int false .i64 (0))]), (.agg [(.int false .i64 (-4294967296)), (.int false .i64 (-4294967296))])], (.tuple [(.agg [(.int false .i64 (0)), (.int false .i64 (0))]), (.int false .i64 (0))])) ::
  (218, [(.agg [(.int false .i64 (-4294967296)), (.int false .i64 (-4294967296))]), (.agg [(.int false .i64 (-4294967296)), (.int false .i64 (-4294967296))])], (.tuple [(.agg [(.int false .i64 (4294967296)), (.int false .i64 (4294967296))]), (.int false .i64 (0))])) ::
  (218, [(.agg [(.int false .i64 (4294967296)), (.int false .i64 (4294967296))]), (.agg [(.int false .i64 (4503599627370496)), (.int false .i64 (4503599627370496))])], (.tuple [(.agg [(.int false .i64 (4503599627370496)), (.int false .i64 (4503599627370496))]), (.int false .i64 (0))])) ::
  (218, [(.agg [(.int false .i64 (0)), (.int false .i64 (0))]), (.agg [(.int false .i64 (4503599627370496)), (.int false .i64 (4503599627370496))])], (.tuple [(.agg [(.int false .i64 (0)), (.int false .i64 (0))]), (.int false .i64 (0))])) ::
  (165, [(.str false ⟨#[]⟩)], (.bool false false)) ::
  table1
theorem table2_ok : ∀ x ∈ table2, MemoOk Tryz.prog glob hG x :=
  more call36 (more call37 (more call38 (more call39 (more call40 (more call41 (more call42 (more call43 (more call44 (more call45 (more call46 (more call47 (more call48 (more call49 (more call50 (more call51 (more call52 (more call53 (more call54 (more call55 (more call56 (more call57 (more call58 (more call59 (table1_ok))))))))))))))))))))))))

end Go.Proofs.YtlbabiemgageaaaGreatDoor
