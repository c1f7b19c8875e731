/- What is proved: BendKnown returns true (part 8 of 18). No conditions beyond those of the row. -/
import Derived.Test.YtckglcjiicmbkaaGreatDoorPG
set_option linter.unusedVariables false
set_option linter.unusedSimpArgs false
set_option linter.unusedSectionVars false
/- What is proved: calls of the law BendKnown, of which the answers are known (level 1). No conditions. -/
namespace Go.Proofs.YtckglcjiicmbkaaGreatDoor
open Go Go.Eng

/-- monocle/fix.DivUp (249 steps) -/
theorem call205 : MemoOk Tryz.prog glob hG (145, [(.int false .i64 (0)), (.int false .i64 (4316388713))], (.tuple [(.int false .i64 (0)), (.int false .i64 (0))])) := known none_known (by kernel_rfl) (by kernel_rfl) (by kernel_rfl)
/-- monocle/fix.DivDown (392 steps) -/
theorem call206 : MemoOk Tryz.prog glob hG (144, [(.int false .i64 (4294967296)), (.int false .i64 (4316388711))], (.tuple [(.int false .i64 (4273652191)), (.int false .i64 (0))])) := known none_known (by kernel_rfl) (by kernel_rfl) (by kernel_rfl)
/-- monocle/fix.DivUp (395 steps) -/
theorem call207 : MemoOk Tryz.prog glob hG (145, [(.int false .i64 (4294967296)), (.int false .i64 (4316388711))], (.tuple [(.int false .i64 (4273652192)), (.int false .i64 (0))])) := known none_known (by kernel_rfl) (by kernel_rfl) (by kernel_rfl)
/-- monocle/fix.DivDown (392 steps) -/
theorem call208 : MemoOk Tryz.prog glob hG (144, [(.int false .i64 (4294967296)), (.int false .i64 (4316388713))], (.tuple [(.int false .i64 (4273652189)), (.int false .i64 (0))])) := known none_known (by kernel_rfl) (by kernel_rfl) (by kernel_rfl)
/-- monocle/fix.DivUp (395 steps) -/
theorem call209 : MemoOk Tryz.prog glob hG (145, [(.int false .i64 (4294967296)), (.int false .i64 (4316388713))], (.tuple [(.int false .i64 (4273652190)), (.int false .i64 (0))])) := known none_known (by kernel_rfl) (by kernel_rfl) (by kernel_rfl)
/-- monocle/fix.ScaleDown (222 steps) -/
theorem call210 : MemoOk Tryz.prog glob hG (183, [(.int false .i64 (4303561524)), (.int false .i64 (1000000000)), (.int false .i64 (1000000000))], (.tuple [(.int false .i64 (4303561524)), (.int false .i64 (0))])) := known none_known (by kernel_rfl) (by kernel_rfl) (by kernel_rfl)
/-- monocle/fix.ScaleUp (222 steps) -/
theorem call211 : MemoOk Tryz.prog glob hG (184, [(.int false .i64 (4303561527)), (.int false .i64 (1000000000)), (.int false .i64 (1000000000))], (.tuple [(.int false .i64 (4303561527)), (.int false .i64 (0))])) := known none_known (by kernel_rfl) (by kernel_rfl) (by kernel_rfl)
/-- monocle/fix.ScaleDown (222 steps) -/
theorem call212 : MemoOk Tryz.prog glob hG (183, [(.int false .i64 (4303561524)), (.int false .i64 (1000000)), (.int false .i64 (1000000))], (.tuple [(.int false .i64 (4303561524)), (.int false .i64 (0))])) := known none_known (by kernel_rfl) (by kernel_rfl) (by kernel_rfl)
/-- monocle/fix.ScaleUp (222 steps) -/
theorem call213 : MemoOk Tryz.prog glob hG (184, [(.int false .i64 (4303561527)), (.int false .i64 (1000000)), (.int false .i64 (1000000))], (.tuple [(.int false .i64 (4303561527)), (.int false .i64 (0))])) := known none_known (by kernel_rfl) (by kernel_rfl) (by kernel_rfl)
/-- monocle/fix.MulDown (372 steps) -/
theorem call214 : MemoOk Tryz.prog glob hG (180, [(.int false .i64 (-4294967296)), (.int false .i64 (4294967296))], (.tuple [(.int false .i64 (-4294967296)), (.int false .i64 (0))])) := known none_known (by kernel_rfl) (by kernel_rfl) (by kernel_rfl)
/-- monocle/fix.MulUp (372 steps) -/
theorem call215 : MemoOk Tryz.prog glob hG (181, [(.int false .i64 (-4294967296)), (.int false .i64 (4294967296))], (.tuple [(.int false .i64 (-4294967296)), (.int false .i64 (0))])) := known none_known (by kernel_rfl) (by kernel_rfl) (by kernel_rfl)
/-- monocle/fix.MulDown (251 steps) -/
theorem call216 : MemoOk Tryz.prog glob hG (180, [(.int false .i64 (0)), (.int false .i64 (-4294967296))], (.tuple [(.int false .i64 (0)), (.int false .i64 (0))])) := known none_known (by kernel_rfl) (by kernel_rfl) (by kernel_rfl)
/-- monocle/fix.MulUp (251 steps) -/
theorem call217 : MemoOk Tryz.prog glob hG (181, [(.int false .i64 (0)), (.int false .i64 (-4294967296))], (.tuple [(.int false .i64 (0)), (.int false .i64 (0))])) := known none_known (by kernel_rfl) (by kernel_rfl) (by kernel_rfl)
/-- monocle/fix.MulDown (372 steps) -/
theorem call218 : MemoOk Tryz.prog glob hG (180, [(.int false .i64 (4294967296)), (.int false .i64 (-4294967296))], (.tuple [(.int false .i64 (-4294967296)), (.int false .i64 (0))])) := known none_known (by kernel_rfl) (by kernel_rfl) (by kernel_rfl)
/-- monocle/fix.MulUp (372 steps) -/
theorem call219 : MemoOk Tryz.prog glob hG (181, [(.int false .i64 (4294967296)), (.int false .i64 (-4294967296))], (.tuple [(.int false .i64 (-4294967296)), (.int false .i64 (0))])) := known none_known (by kernel_rfl) (by kernel_rfl) (by kernel_rfl)
/-- monocle/fix.DivDown (253 steps) -/
theorem call220 : MemoOk Tryz.prog glob hG (144, [(.int false .i64 (0)), (.int false .i64 (-4294967296))], (.tuple [(.int false .i64 (0)), (.int false .i64 (0))])) := known none_known (by kernel_rfl) (by kernel_rfl) (by kernel_rfl)
/-- monocle/fix.DivUp (253 steps) -/
theorem call221 : MemoOk Tryz.prog glob hG (145, [(.int false .i64 (0)), (.int false .i64 (-4294967296))], (.tuple [(.int false .i64 (0)), (.int false .i64 (0))])) := known none_known (by kernel_rfl) (by kernel_rfl) (by kernel_rfl)
/-- monocle/fix.DivDown (249 steps) -/
theorem call222 : MemoOk Tryz.prog glob hG (144, [(.int false .i64 (429496729)), (.int false .i64 (4316388711))], (.tuple [(.int false .i64 (427365218)), (.int false .i64 (0))])) := known none_known (by kernel_rfl) (by kernel_rfl) (by kernel_rfl)
/-- monocle/fix.DivUp (252 steps) -/
theorem call223 : MemoOk Tryz.prog glob hG (145, [(.int false .i64 (429496729)), (.int false .i64 (4316388711))], (.tuple [(.int false .i64 (427365219)), (.int false .i64 (0))])) := known none_known (by kernel_rfl) (by kernel_rfl) (by kernel_rfl)
/-- monocle/fix.DivDown (249 steps) -/
theorem call224 : MemoOk Tryz.prog glob hG (144, [(.int false .i64 (429496729)), (.int false .i64 (4316388713))], (.tuple [(.int false .i64 (427365218)), (.int false .i64 (0))])) := known none_known (by kernel_rfl) (by kernel_rfl) (by kernel_rfl)
/-- monocle/fix.DivUp (252 steps) -/
theorem call225 : MemoOk Tryz.prog glob hG (145, [(.int false .i64 (429496729)), (.int false .i64 (4316388713))], (.tuple [(.int false .i64 (427365219)), (.int false .i64 (0))])) := known none_known (by kernel_rfl) (by kernel_rfl) (by kernel_rfl)
/-- monocle/fix.DivDown (249 steps) -/
theorem call226 : MemoOk Tryz.prog glob hG (144, [(.int false .i64 (429496730)), (.int false .i64 (4316388711))], (.tuple [(.int false .i64 (427365219)), (.int false .i64 (0))])) := known none_known (by kernel_rfl) (by kernel_rfl) (by kernel_rfl)
/-- monocle/fix.DivUp (252 steps) -/
theorem call227 : MemoOk Tryz.prog glob hG (145, [(.int false .i64 (429496730)), (.int false .i64 (4316388711))], (.tuple [(.int false .i64 (427365220)), (.int false .i64 (0))])) := known none_known (by kernel_rfl) (by kernel_rfl) (by kernel_rfl)
/-- monocle/fix.DivDown (249 steps) -/
theorem call228 : MemoOk Tryz.prog glob hG (144, [(.int false .i64 (429496730)), (.int false .i64 (4316388713))], (.tuple [(.int false .i64 (427365219)), (.int false .i64 (0))])) := known none_known (by kernel_rfl) (by kernel_rfl) (by kernel_rfl)
/-- monocle/fix.DivUp (252 steps) -/
theorem call229 : MemoOk Tryz.prog glob hG (145, [(.int false .i64 (429496730)), (.int false .i64 (4316388713))], (.tuple [(.int false .i64 (427365220)), (.int false .i64 (0))])) := known none_known (by kernel_rfl) (by kernel_rfl) (by kernel_rfl)
end Go.Proofs.YtckglcjiicmbkaaGreatDoor
