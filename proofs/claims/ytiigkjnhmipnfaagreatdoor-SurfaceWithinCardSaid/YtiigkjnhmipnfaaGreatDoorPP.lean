/- What is proved: SurfaceWithin returns true, whatever the input (part 16 of 22). No conditions beyond those of the row. -/
import Derived.Test.YtiigkjnhmipnfaaGreatDoorPO
set_option linter.unusedVariables false
set_option linter.unusedSimpArgs false
set_option linter.unusedSectionVars false
namespace Go.Proofs.YtiigkjnhmipnfaaGreatDoor
open Go Go.Eng

/-- monocle/surface.Check (1059 steps) -/
theorem call65 : MemoOk Tryz.prog glob hG (18, [(.agg [(.int false .i64 (1)), (.int false .i64 (10000000)), (.int false .i64 (0)), (.int false .i64 (0)), (.int false .i64 (0)), (.int false .i64 (0)), (.int false .i64 (0)), (.int false .i64 (0)), (.int false .i64 (0)), (.int false .i64 (0)), (.int false .i64 (0)), (.int false .i64 (0)), (.int false .i64 (5000000)), (.str false ⟨#[]⟩), (.int false .i64 (0)), (.int false .i64 (0)), (.int false .i64 (0)), (.int false .i64 (0)), (.int false .i64 (0)), (.int false .i64 (0)), (.int false .i64 (0)), .nilslice])], (.int false .i64 (0))) := known table2_ok (by kernel_rfl) (by kernel_rfl) (by kernel_rfl)
/-- monocle/surface.Check (1059 steps) -/
theorem call66 : MemoOk Tryz.prog glob hG (18, [(.agg [(.int false .i64 (1)), (.int false .i64 (10000000)), (.int false .i64 (-1000000)), (.int false .i64 (0)), (.int false .i64 (0)), (.int false .i64 (0)), (.int false .i64 (0)), (.int false .i64 (0)), (.int false .i64 (0)), (.int false .i64 (0)), (.int false .i64 (0)), (.int false .i64 (0)), (.int false .i64 (5000000)), (.str false ⟨#[]⟩), (.int false .i64 (0)), (.int false .i64 (0)), (.int false .i64 (0)), (.int false .i64 (0)), (.int false .i64 (0)), (.int false .i64 (0)), (.int false .i64 (0)), .nilslice])], (.int false .i64 (0))) := known table2_ok (by kernel_rfl) (by kernel_rfl) (by kernel_rfl)
/-- monocle/surface.Check (393 steps) -/
theorem call67 : MemoOk Tryz.prog glob hG (18, [(.agg [(.int false .i64 (1)), (.int false .i64 (10000000)), (.int false .i64 (0)), (.int false .i64 (0)), (.int false .i64 (0)), (.int false .i64 (0)), (.int false .i64 (0)), (.int false .i64 (0)), (.int false .i64 (0)), (.int false .i64 (0)), (.int false .i64 (0)), (.int false .i64 (0)), (.int false .i64 (1000000001)), (.str false ⟨#[]⟩), (.int false .i64 (0)), (.int false .i64 (0)), (.int false .i64 (0)), (.int false .i64 (0)), (.int false .i64 (0)), (.int false .i64 (0)), (.int false .i64 (0)), .nilslice])], (.int false .i64 (110))) := known table2_ok (by kernel_rfl) (by kernel_rfl) (by kernel_rfl)

def table3 : List (FuncId × List AV × AV) :=
  (18, [(.agg [(.int false .i64 (1)), (.int false .i64 (10000000)), (.int false .i64 (0)), (.int false .i64 (0)), (.int false .i64 (0)), (.int false .i64 (0)), (.int false .i64 (0)), (.int false .i64 (0)), (.int false .i64 (0)), (.int false .i64 (0)), (.int false .i64 (0)), (.int false .i64 (0)), (.int false .i64 (5000000)), (.str false ⟨#[]⟩), (.int false .i64 (0)), (.int false .i64 (0)), (.int false .i64 (0)), (.int false .i64 (0)), (.int false .i64 (0)), (.int false .i64 (0)), (.int false .i64 (0)), .nilslice])], (.int false .i64 (0))) ::
  (18, [(.agg [(.int false .i64 (1)), (.int false .i64 (10000000)), (.int false .i64 (-1000000)), (.int false .i64 (0)), (.int false .i64 (0)), (.int false .i64 (0)), (.int false .i64 (0)), (.int false .i64 (0)), (.int false .i64 (0)), (.int false .i64 (0)), (.int false .i64 (0)), (.int false .i64 (0)), (.int false .i64 (5000000)), (.str false ⟨#[]⟩), (.int false .i64 (0)), (.int false .i64 (0)), (.int false .i64 (0)), (.int false .i64 (0)), (.int false .i64 (0)), (.int false .i64 (0)), (.int false .i64 (0)), .nilslice])], (.int false .i64 (0))) ::
  (18, [(.agg [(.int false .i64 (1)), (.int false .i64 (10000000)), (.int false .i64 (0)), (.int false .i64 (0)), (.int false .i64 (0)), (.int false .i64 (0)), (.int false .i64 (0)), (.int false .i64 (0)), (.int false .i64 (0)), (.int false .i64 (0)), (.int false .i64 (0)), (.int false .i64 (0)), (.int false .i64 (1000000001)), (.str false ⟨#[]⟩), (.int false .i64 (0)), (.int false .i64 (0)), (.int false .i64 (0)), (.int false .i64 (0)), (.int false .i64 (0)), (.int false .i64 (0)), (.int false .i64 (0)), .nilslice])], (.int false .i64 (110))) ::
  table2
theorem table3_ok : ∀ x ∈ table3, MemoOk Tryz.prog glob hG x :=
  more call65 (more call66 (more call67 (table2_ok)))

end Go.Proofs.YtiigkjnhmipnfaaGreatDoor
