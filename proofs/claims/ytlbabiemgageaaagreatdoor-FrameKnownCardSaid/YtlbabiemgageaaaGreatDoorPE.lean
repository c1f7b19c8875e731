/- What is proved: FrameKnown returns true (part 5 of 14). No conditions beyond those of the row. -/
import Derived.Test.YtlbabiemgageaaaGreatDoorPD
set_option linter.unusedVariables false
set_option linter.unusedSimpArgs false
set_option linter.unusedSectionVars false
/- What is proved: calls of the law FrameKnown, of which the answers are known (level 1). No conditions. -/
namespace Go.Proofs.YtlbabiemgageaaaGreatDoor
open Go Go.Eng

/-- monocle/fix.MulDown (247 steps) -/
theorem call0 : MemoOk Tryz.prog glob hG (262, [(.int false .i64 (4294967296)), (.int false .i64 (0))], (.tuple [(.int false .i64 (0)), (.int false .i64 (0))])) := known none_known (by kernel_rfl) (by kernel_rfl) (by kernel_rfl)
/-- monocle/fix.MulUp (247 steps) -/
theorem call1 : MemoOk Tryz.prog glob hG (263, [(.int false .i64 (4294967296)), (.int false .i64 (0))], (.tuple [(.int false .i64 (0)), (.int false .i64 (0))])) := known none_known (by kernel_rfl) (by kernel_rfl) (by kernel_rfl)
/-- monocle/fix.MulDown (247 steps) -/
theorem call2 : MemoOk Tryz.prog glob hG (262, [(.int false .i64 (0)), (.int false .i64 (0))], (.tuple [(.int false .i64 (0)), (.int false .i64 (0))])) := known none_known (by kernel_rfl) (by kernel_rfl) (by kernel_rfl)
/-- monocle/fix.MulUp (247 steps) -/
theorem call3 : MemoOk Tryz.prog glob hG (263, [(.int false .i64 (0)), (.int false .i64 (0))], (.tuple [(.int false .i64 (0)), (.int false .i64 (0))])) := known none_known (by kernel_rfl) (by kernel_rfl) (by kernel_rfl)
/-- monocle/fix.MulDown (247 steps) -/
theorem call4 : MemoOk Tryz.prog glob hG (262, [(.int false .i64 (0)), (.int false .i64 (42949672960))], (.tuple [(.int false .i64 (0)), (.int false .i64 (0))])) := known none_known (by kernel_rfl) (by kernel_rfl) (by kernel_rfl)
/-- monocle/fix.MulUp (247 steps) -/
theorem call5 : MemoOk Tryz.prog glob hG (263, [(.int false .i64 (0)), (.int false .i64 (42949672960))], (.tuple [(.int false .i64 (0)), (.int false .i64 (0))])) := known none_known (by kernel_rfl) (by kernel_rfl) (by kernel_rfl)
/-- monocle/fix.MulDown (368 steps) -/
theorem call6 : MemoOk Tryz.prog glob hG (262, [(.int false .i64 (4294967296)), (.int false .i64 (42949672960))], (.tuple [(.int false .i64 (42949672960)), (.int false .i64 (0))])) := known none_known (by kernel_rfl) (by kernel_rfl) (by kernel_rfl)
/-- monocle/fix.MulUp (368 steps) -/
theorem call7 : MemoOk Tryz.prog glob hG (263, [(.int false .i64 (4294967296)), (.int false .i64 (42949672960))], (.tuple [(.int false .i64 (42949672960)), (.int false .i64 (0))])) := known none_known (by kernel_rfl) (by kernel_rfl) (by kernel_rfl)
/-- monocle/fix.MulDown (247 steps) -/
theorem call8 : MemoOk Tryz.prog glob hG (262, [(.int false .i64 (0)), (.int false .i64 (4294967296))], (.tuple [(.int false .i64 (0)), (.int false .i64 (0))])) := known none_known (by kernel_rfl) (by kernel_rfl) (by kernel_rfl)
/-- monocle/fix.MulUp (247 steps) -/
theorem call9 : MemoOk Tryz.prog glob hG (263, [(.int false .i64 (0)), (.int false .i64 (4294967296))], (.tuple [(.int false .i64 (0)), (.int false .i64 (0))])) := known none_known (by kernel_rfl) (by kernel_rfl) (by kernel_rfl)
/-- monocle/fix.MulDown (368 steps) -/
theorem call10 : MemoOk Tryz.prog glob hG (262, [(.int false .i64 (4294967296)), (.int false .i64 (4294967296))], (.tuple [(.int false .i64 (4294967296)), (.int false .i64 (0))])) := known none_known (by kernel_rfl) (by kernel_rfl) (by kernel_rfl)
/-- monocle/fix.MulUp (368 steps) -/
theorem call11 : MemoOk Tryz.prog glob hG (263, [(.int false .i64 (4294967296)), (.int false .i64 (4294967296))], (.tuple [(.int false .i64 (4294967296)), (.int false .i64 (0))])) := known none_known (by kernel_rfl) (by kernel_rfl) (by kernel_rfl)
/-- monocle/fix.MulDown (251 steps) -/
theorem call12 : MemoOk Tryz.prog glob hG (262, [(.int false .i64 (-4294967296)), (.int false .i64 (0))], (.tuple [(.int false .i64 (0)), (.int false .i64 (0))])) := known none_known (by kernel_rfl) (by kernel_rfl) (by kernel_rfl)
/-- monocle/fix.MulUp (251 steps) -/
theorem call13 : MemoOk Tryz.prog glob hG (263, [(.int false .i64 (-4294967296)), (.int false .i64 (0))], (.tuple [(.int false .i64 (0)), (.int false .i64 (0))])) := known none_known (by kernel_rfl) (by kernel_rfl) (by kernel_rfl)
/-- monocle/fix.MulDown (372 steps) -/
theorem call14 : MemoOk Tryz.prog glob hG (262, [(.int false .i64 (-4294967296)), (.int false .i64 (4294967296))], (.tuple [(.int false .i64 (-4294967296)), (.int false .i64 (0))])) := known none_known (by kernel_rfl) (by kernel_rfl) (by kernel_rfl)
/-- monocle/fix.MulUp (372 steps) -/
theorem call15 : MemoOk Tryz.prog glob hG (263, [(.int false .i64 (-4294967296)), (.int false .i64 (4294967296))], (.tuple [(.int false .i64 (-4294967296)), (.int false .i64 (0))])) := known none_known (by kernel_rfl) (by kernel_rfl) (by kernel_rfl)
/-- monocle/fix.MulDown (247 steps) -/
theorem call16 : MemoOk Tryz.prog glob hG (262, [(.int false .i64 (0)), (.int false .i64 (21474836480))], (.tuple [(.int false .i64 (0)), (.int false .i64 (0))])) := known none_known (by kernel_rfl) (by kernel_rfl) (by kernel_rfl)
/-- monocle/fix.MulUp (247 steps) -/
theorem call17 : MemoOk Tryz.prog glob hG (263, [(.int false .i64 (0)), (.int false .i64 (21474836480))], (.tuple [(.int false .i64 (0)), (.int false .i64 (0))])) := known none_known (by kernel_rfl) (by kernel_rfl) (by kernel_rfl)
/-- monocle/fix.MulDown (372 steps) -/
theorem call18 : MemoOk Tryz.prog glob hG (262, [(.int false .i64 (-4294967296)), (.int false .i64 (21474836480))], (.tuple [(.int false .i64 (-21474836480)), (.int false .i64 (0))])) := known none_known (by kernel_rfl) (by kernel_rfl) (by kernel_rfl)
/-- monocle/fix.MulUp (372 steps) -/
theorem call19 : MemoOk Tryz.prog glob hG (263, [(.int false .i64 (-4294967296)), (.int false .i64 (21474836480))], (.tuple [(.int false .i64 (-21474836480)), (.int false .i64 (0))])) := known none_known (by kernel_rfl) (by kernel_rfl) (by kernel_rfl)
/-- monocle/fix.MulDown (247 steps) -/
theorem call20 : MemoOk Tryz.prog glob hG (262, [(.int false .i64 (0)), (.int false .i64 (8589934592))], (.tuple [(.int false .i64 (0)), (.int false .i64 (0))])) := known none_known (by kernel_rfl) (by kernel_rfl) (by kernel_rfl)
/-- monocle/fix.MulUp (247 steps) -/
theorem call21 : MemoOk Tryz.prog glob hG (263, [(.int false .i64 (0)), (.int false .i64 (8589934592))], (.tuple [(.int false .i64 (0)), (.int false .i64 (0))])) := known none_known (by kernel_rfl) (by kernel_rfl) (by kernel_rfl)
/-- monocle/fix.MulDown (368 steps) -/
theorem call22 : MemoOk Tryz.prog glob hG (262, [(.int false .i64 (4294967296)), (.int false .i64 (8589934592))], (.tuple [(.int false .i64 (8589934592)), (.int false .i64 (0))])) := known none_known (by kernel_rfl) (by kernel_rfl) (by kernel_rfl)
/-- monocle/fix.MulUp (368 steps) -/
theorem call23 : MemoOk Tryz.prog glob hG (263, [(.int false .i64 (4294967296)), (.int false .i64 (8589934592))], (.tuple [(.int false .i64 (8589934592)), (.int false .i64 (0))])) := known none_known (by kernel_rfl) (by kernel_rfl) (by kernel_rfl)
/-- monocle/fix.MulDown (247 steps) -/
theorem call24 : MemoOk Tryz.prog glob hG (262, [(.int false .i64 (0)), (.int false .i64 (12884901888))], (.tuple [(.int false .i64 (0)), (.int false .i64 (0))])) := known none_known (by kernel_rfl) (by kernel_rfl) (by kernel_rfl)
/-- monocle/fix.MulUp (247 steps) -/
theorem call25 : MemoOk Tryz.prog glob hG (263, [(.int false .i64 (0)), (.int false .i64 (12884901888))], (.tuple [(.int false .i64 (0)), (.int false .i64 (0))])) := known none_known (by kernel_rfl) (by kernel_rfl) (by kernel_rfl)
/-- monocle/fix.MulDown (372 steps) -/
theorem call26 : MemoOk Tryz.prog glob hG (262, [(.int false .i64 (-4294967296)), (.int false .i64 (12884901888))], (.tuple [(.int false .i64 (-12884901888)), (.int false .i64 (0))])) := known none_known (by kernel_rfl) (by kernel_rfl) (by kernel_rfl)
/-- monocle/fix.MulUp (372 steps) -/
theorem call27 : MemoOk Tryz.prog glob hG (263, [(.int false .i64 (-4294967296)), (.int false .i64 (12884901888))], (.tuple [(.int false .i64 (-12884901888)), (.int false .i64 (0))])) := known none_known (by kernel_rfl) (by kernel_rfl) (by kernel_rfl)
/-- monocle/fix.MulDown (251 steps) -/
theorem call28 : MemoOk Tryz.prog glob hG (262, [(.int false .i64 (0)), (.int false .i64 (-4294967296))], (.tuple [(.int false .i64 (0)), (.int false .i64 (0))])) := known none_known (by kernel_rfl) (by kernel_rfl) (by kernel_rfl)
/-- monocle/fix.MulUp (251 steps) -/
theorem call29 : MemoOk Tryz.prog glob hG (263, [(.int false .i64 (0)), (.int false .i64 (-4294967296))], (.tuple [(.int false .i64 (0)), (.int false .i64 (0))])) := known none_known (by kernel_rfl) (by kernel_rfl) (by kernel_rfl)
/-- monocle/fix.MulDown (374 steps) -/
theorem call30 : MemoOk Tryz.prog glob hG (262, [(.int false .i64 (-4294967296)), (.int false .i64 (-4294967296))], (.tuple [(.int false .i64 (4294967296)), (.int false .i64 (0))])) := known none_known (by kernel_rfl) (by kernel_rfl) (by kernel_rfl)
/-- monocle/fix.MulUp (374 steps) -/
theorem call31 : MemoOk Tryz.prog glob hG (263, [(.int false .i64 (-4294967296)), (.int false .i64 (-4294967296))], (.tuple [(.int false .i64 (4294967296)), (.int false .i64 (0))])) := known none_known (by kernel_rfl) (by kernel_rfl) (by kernel_rfl)
/-- monocle/fix.MulDown (368 steps) -/
theorem call32 : MemoOk Tryz.prog glob hG (262, [(.int false .i64 (4294967296)), (.int false .i64 (4503599627370496))], (.tuple [(.int false .i64 (4503599627370496)), (.int false .i64 (0))])) := known none_known (by kernel_rfl) (by kernel_rfl) (by kernel_rfl)
/-- monocle/fix.MulUp (368 steps) -/
theorem call33 : MemoOk Tryz.prog glob hG (263, [(.int false .i64 (4294967296)), (.int false .i64 (4503599627370496))], (.tuple [(.int false .i64 (4503599627370496)), (.int false .i64 (0))])) := known none_known (by kernel_rfl) (by kernel_rfl) (by kernel_rfl)
/-- monocle/fix.MulDown (247 steps) -/
theorem call34 : MemoOk Tryz.prog glob hG (262, [(.int false .i64 (0)), (.int false .i64 (4503599627370496))], (.tuple [(.int false .i64 (0)), (.int false .i64 (0))])) := known none_known (by kernel_rfl) (by kernel_rfl) (by kernel_rfl)
/-- monocle/fix.MulUp (247 steps) -/
theorem call35 : MemoOk Tryz.prog glob hG (263, [(.int false .i64 (0)), (.int false .i64 (4503599627370496))], (.tuple [(.int false .i64 (0)), (.int false .i64 (0))])) := known none_known (by kernel_rfl) (by kernel_rfl) (by kernel_rfl)

def table1 : List (FuncId × List AV × AV) :=
  (262, [(.int false .i64 (4294967296)), (.int false .i64 (0))], (.tuple [(.int false .i64 (0)), (.int false .i64 (0))])) ::
  (263, [(.int false .i64 (4294967296)), (.int false .i64 (0))], (.tuple [(.int false .i64 (0)), (.int false .i64 (0))])) ::
  (262, [(.int false .i64 (0)), (.int false .i64 (0))], (.tuple [(.int false .i64 (0)), (.int false .i64 (0))])) ::
  (263, [(.int false .i64 (0)), (.int false .i64 (0))], (.tuple [(.int false .i64 (0)), (.int false .i64 (0))])) ::
  (262, [(.int false .i64 (0)), (.int false .i64 (42949672960))], (.tuple [(.int false .i64 (0)), (.int false .i64 (0))])) ::
  (263, [(.int false .i64 (0)), (.int false .i64 (42949672960))], (.tuple [(.int false .i64 (0)), (.int false .i64 (0))])) ::
  (262, [(.int false .i64 (4294967296)), (.int false .i64 (42949672960))], (.tuple [(.int false .i64 (42949672960)), (.int false .i64 (0))])) ::
  (263, [(.int false .i64 (4294967296)), (.int false .i64 (42949672960))], (.tuple [(.int false .i64 (42949672960)), (.int false .i64 (0))])) ::
  (262, [(.int false .i64 (0)), (.int false .i64 (4294967296))], (.tuple [(.int false .i64 (0)), (.int false .i64 (0))])) ::
  (263, [(.int false .i64 (0)), (.int false .i64 (4294967296))], (.tuple [(.int false .i64 (0)), (.int false .i64 (0))])) ::
  (262, [(.int false .i64 (4294967296)), (.int false .i64 (4294967296))], (.tuple [(.int false .i64 (4294967296)), (.int false .i64 (0))])) ::
  (263, [(.int false .i64 (4294967296)), (.int false .i64 (4294967296))], (.tuple [(.int false .i64 (4294967296)), (.int false .i64 (0))])) ::
  (262, [(.int false .i64 (-4294967296)), (.int false .i64 (0))], (.tuple [(.int false .i64 (0)), (.int false .i64 (0))])) ::
  (263, [(.int false .i64 (-4294967296)), (.int false .i64 (0))], (.tuple [(.int false .i64 (0)), (.int false .i64 (0))])) ::
  (262, [(.int false .i64 (-4294967296)), (.int false .i64 (4294967296))], (.tuple [(.int false .i64 (-4294967296)), (.int false .i64 (0))])) ::
  (263, [(.int false .i64 (-4294967296)), (.int false .i64 (4294967296))], (.tuple [(.int false .i64 (-4294967296)), (.int false .i64 (0))])) ::
  (262, [(.int false .i64 (0)), (.int false .i64 (21474836480))], (.tuple [(.int false .i64 (0)), (.int false .i64 (0))])) ::
  (263, [(.int false .i64 (0)), (.int false .i64 (21474836480))], (.tuple [(.int false .i64 (0)), (.int false .i64 (0))])) ::
  (262, [(.int false .i64 (-4294967296)), (.int false .i64 (21474836480))], (.tuple [(.int false .i64 (-21474836480)), (.int false .i64 (0))])) ::
  (263, [(.int false .i64 (-4294967296)), (.int false .i64 (21474836480))], (.tuple [(.int false .i64 (-21474836480)), (.int false .i64 (0))])) ::
  (262, [(.int false .i64 (0)), (.int false .i64 (8589934592))], (.tuple [(.int false .i64 (0)), (.int false .i64 (0))])) ::
  (263, [(.int false .i64 (0)), (.int false .i64 (8589934592))], (.tuple [(.int false .i64 (0)), (.int false .i64 (0))])) ::
  (262, [(.int false .i64 (4294967296)), (.int false .i64 (8589934592))], (.tuple [(.int false .i64 (8589934592)), (.int false .i64 (0))])) ::
  (263, [(.int false .i64 (4294967296)), (.int false .i64 (8589934592))], (.tuple [(.int false .i64 (8589934592)), (.int false .i64 (0))])) ::
  (262, [(.int false .i64 (0)), (.int false .i64 (12884901888))], (.tuple [(.int false .i64 (0)), (.int false .i64 (0))])) ::
  (263, [(.int false .i64 (0)), (.int false .i64 (12884901888))], (.tuple [(.int false .i64 (0)), (.int false .i64 (0))])) ::
  (262, [(.int false .i64 (-4294967296)), (.int false .i64 (12884901888))], (.tuple [(.int false .i64 (-12884901888)), (.int false .i64 (0))])) ::
  (263, [(.int false .i64 (-4294967296)), (.int false .i64 (12884901888))], (.tuple [(.int false .i64 (-12884901888)), (.int false .i64 (0))])) ::
  (262, [(.int false .i64 (0)), (.int false .i64 (-4294967296))], (.tuple [(.int false .i64 (0)), (.int false .i64 (0))])) ::
  (263, [(.int false .i64 (0)), (.int false .i64 (-4294967296))], (.tuple [(.int false .i64 (0)), (.int false .i64 (0))])) ::
  (262, [(.int false .i64 (-4294967296)), (.int false .i64 (-4294967296))], (.tuple [(.int false .i64 (4294967296)), (.int false .i64 (0))])) ::
  (263, [(.int false .i64 (-4294967296)), (.int false .i64 (-4294967296))], (.tuple [(.int false .i64 (4294967296)), (.int false .i64 (0))])) ::
  (262, [(.int false .i64 (4294967296)), (.int false .i64 (4503599627370496))], (.tuple [(.int false .i64 (4503599627370496)), (.int false .i64 (0))])) ::
  (263, [(.int false .i64 (4294967296)), (.int false .i64 (4503599627370496))], (.tuple [(.int false .i64 (4503599627370496)), (.int false .i64 (0))])) ::
  (262, [(.int false .i64 (0)), (.int false .i64 (4503599627370496))], (.tuple [(.int false .i64 (0)), (.int false .i64 (0))])) ::
  (263, [(.int false .i64 (0)), (.int false .i64 (4503599627370496))], (.tuple [(.int false .i64 (0)), (.int false .i64 (0))])) ::
  []
theorem table1_ok : ∀ x ∈ table1, MemoOk Tryz.prog glob hG x :=
  more call0 (more call1 (more call2 (more call3 (more call4 (more call5 (more call6 (more call7 (more call8 (more call9 (more call10 (more call11 (more call12 (more call13 (more call14 (more call15 (more call16 (more call17 (more call18 (more call19 (more call20 (more call21 (more call22 (more call23 (more call24 (more call25 (more call26 (more call27 (more call28 (more call29 (more call30 (more call31 (more call32 (more call33 (more call34 (more call35 (none_known))))))))))))))))))))))))))))))))))))

end Go.Proofs.YtlbabiemgageaaaGreatDoor
