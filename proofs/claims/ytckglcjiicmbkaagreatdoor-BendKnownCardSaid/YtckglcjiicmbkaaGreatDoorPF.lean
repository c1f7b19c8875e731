/- What is proved: BendKnown returns true (part 6 of 18). No conditions beyond those of the row. -/
import Derived.Test.YtckglcjiicmbkaaGreatDoorPE
set_option linter.unusedVariables false
set_option linter.unusedSimpArgs false
set_option linter.unusedSectionVars false
/- What is proved: calls of the law BendKnown, of which the answers are known (level 1). No conditions. -/
namespace Go.Proofs.YtckglcjiicmbkaaGreatDoor
open Go Go.Eng

/-- monocle/fix.DivUp (253 steps) -/
theorem call49 : MemoOk Tryz.prog glob hG (145, [(.int false .i64 (-3221225474)), (.int false .i64 (5368709118))], (.tuple [(.int false .i64 (-2576980380)), (.int false .i64 (0))])) := known none_known (by kernel_rfl) (by kernel_rfl) (by kernel_rfl)
/-- monocle/fix.DivDown (256 steps) -/
theorem call50 : MemoOk Tryz.prog glob hG (144, [(.int false .i64 (-3221225474)), (.int false .i64 (5368709122))], (.tuple [(.int false .i64 (-2576980379)), (.int false .i64 (0))])) := known none_known (by kernel_rfl) (by kernel_rfl) (by kernel_rfl)
/-- monocle/fix.DivUp (253 steps) -/
theorem call51 : MemoOk Tryz.prog glob hG (145, [(.int false .i64 (-3221225474)), (.int false .i64 (5368709122))], (.tuple [(.int false .i64 (-2576980378)), (.int false .i64 (0))])) := known none_known (by kernel_rfl) (by kernel_rfl) (by kernel_rfl)
/-- monocle/fix.DivDown (256 steps) -/
theorem call52 : MemoOk Tryz.prog glob hG (144, [(.int false .i64 (-3221225470)), (.int false .i64 (5368709118))], (.tuple [(.int false .i64 (-2576980377)), (.int false .i64 (0))])) := known none_known (by kernel_rfl) (by kernel_rfl) (by kernel_rfl)
/-- monocle/fix.DivUp (253 steps) -/
theorem call53 : MemoOk Tryz.prog glob hG (145, [(.int false .i64 (-3221225470)), (.int false .i64 (5368709118))], (.tuple [(.int false .i64 (-2576980376)), (.int false .i64 (0))])) := known none_known (by kernel_rfl) (by kernel_rfl) (by kernel_rfl)
/-- monocle/fix.DivDown (256 steps) -/
theorem call54 : MemoOk Tryz.prog glob hG (144, [(.int false .i64 (-3221225470)), (.int false .i64 (5368709122))], (.tuple [(.int false .i64 (-2576980376)), (.int false .i64 (0))])) := known none_known (by kernel_rfl) (by kernel_rfl) (by kernel_rfl)
/-- monocle/fix.DivUp (253 steps) -/
theorem call55 : MemoOk Tryz.prog glob hG (145, [(.int false .i64 (-3221225470)), (.int false .i64 (5368709122))], (.tuple [(.int false .i64 (-2576980375)), (.int false .i64 (0))])) := known none_known (by kernel_rfl) (by kernel_rfl) (by kernel_rfl)
/-- monocle/fix.DivDown (249 steps) -/
theorem call56 : MemoOk Tryz.prog glob hG (144, [(.int false .i64 (0)), (.int false .i64 (5368709118))], (.tuple [(.int false .i64 (0)), (.int false .i64 (0))])) := known none_known (by kernel_rfl) (by kernel_rfl) (by kernel_rfl)
/-- monocle/fix.DivUp (249 steps) -/
theorem call57 : MemoOk Tryz.prog glob hG (145, [(.int false .i64 (0)), (.int false .i64 (5368709118))], (.tuple [(.int false .i64 (0)), (.int false .i64 (0))])) := known none_known (by kernel_rfl) (by kernel_rfl) (by kernel_rfl)
/-- monocle/fix.DivDown (249 steps) -/
theorem call58 : MemoOk Tryz.prog glob hG (144, [(.int false .i64 (0)), (.int false .i64 (5368709122))], (.tuple [(.int false .i64 (0)), (.int false .i64 (0))])) := known none_known (by kernel_rfl) (by kernel_rfl) (by kernel_rfl)
/-- monocle/fix.DivUp (249 steps) -/
theorem call59 : MemoOk Tryz.prog glob hG (145, [(.int false .i64 (0)), (.int false .i64 (5368709122))], (.tuple [(.int false .i64 (0)), (.int false .i64 (0))])) := known none_known (by kernel_rfl) (by kernel_rfl) (by kernel_rfl)
/-- monocle/fix.DivDown (370 steps) -/
theorem call60 : MemoOk Tryz.prog glob hG (144, [(.int false .i64 (4294967296)), (.int false .i64 (5368709118))], (.tuple [(.int false .i64 (3435973838)), (.int false .i64 (0))])) := known none_known (by kernel_rfl) (by kernel_rfl) (by kernel_rfl)
/-- monocle/fix.DivUp (373 steps) -/
theorem call61 : MemoOk Tryz.prog glob hG (145, [(.int false .i64 (4294967296)), (.int false .i64 (5368709118))], (.tuple [(.int false .i64 (3435973839)), (.int false .i64 (0))])) := known none_known (by kernel_rfl) (by kernel_rfl) (by kernel_rfl)
/-- monocle/fix.DivDown (370 steps) -/
theorem call62 : MemoOk Tryz.prog glob hG (144, [(.int false .i64 (4294967296)), (.int false .i64 (5368709122))], (.tuple [(.int false .i64 (3435973835)), (.int false .i64 (0))])) := known none_known (by kernel_rfl) (by kernel_rfl) (by kernel_rfl)
/-- monocle/fix.DivUp (373 steps) -/
theorem call63 : MemoOk Tryz.prog glob hG (145, [(.int false .i64 (4294967296)), (.int false .i64 (5368709122))], (.tuple [(.int false .i64 (3435973836)), (.int false .i64 (0))])) := known none_known (by kernel_rfl) (by kernel_rfl) (by kernel_rfl)
/-- monocle/fix.MulDown (247 steps) -/
theorem call64 : MemoOk Tryz.prog glob hG (180, [(.int false .i64 (0)), (.int false .i64 (0))], (.tuple [(.int false .i64 (0)), (.int false .i64 (0))])) := known none_known (by kernel_rfl) (by kernel_rfl) (by kernel_rfl)
/-- monocle/fix.MulUp (247 steps) -/
theorem call65 : MemoOk Tryz.prog glob hG (181, [(.int false .i64 (0)), (.int false .i64 (0))], (.tuple [(.int false .i64 (0)), (.int false .i64 (0))])) := known none_known (by kernel_rfl) (by kernel_rfl) (by kernel_rfl)
/-- monocle/fix.MulDown (247 steps) -/
theorem call66 : MemoOk Tryz.prog glob hG (180, [(.int false .i64 (3221225472)), (.int false .i64 (0))], (.tuple [(.int false .i64 (0)), (.int false .i64 (0))])) := known none_known (by kernel_rfl) (by kernel_rfl) (by kernel_rfl)
/-- monocle/fix.MulUp (247 steps) -/
theorem call67 : MemoOk Tryz.prog glob hG (181, [(.int false .i64 (3221225472)), (.int false .i64 (0))], (.tuple [(.int false .i64 (0)), (.int false .i64 (0))])) := known none_known (by kernel_rfl) (by kernel_rfl) (by kernel_rfl)
/-- monocle/fix.MulDown (247 steps) -/
theorem call68 : MemoOk Tryz.prog glob hG (180, [(.int false .i64 (2684354560)), (.int false .i64 (4294967296))], (.tuple [(.int false .i64 (2684354560)), (.int false .i64 (0))])) := known none_known (by kernel_rfl) (by kernel_rfl) (by kernel_rfl)
/-- monocle/fix.MulUp (247 steps) -/
theorem call69 : MemoOk Tryz.prog glob hG (181, [(.int false .i64 (2684354560)), (.int false .i64 (4294967296))], (.tuple [(.int false .i64 (2684354560)), (.int false .i64 (0))])) := known none_known (by kernel_rfl) (by kernel_rfl) (by kernel_rfl)
/-- monocle/fix.ScaleDown (222 steps) -/
theorem call70 : MemoOk Tryz.prog glob hG (183, [(.int false .i64 (0)), (.int false .i64 (10000000)), (.int false .i64 (15000000))], (.tuple [(.int false .i64 (0)), (.int false .i64 (0))])) := known none_known (by kernel_rfl) (by kernel_rfl) (by kernel_rfl)
/-- monocle/fix.ScaleUp (222 steps) -/
theorem call71 : MemoOk Tryz.prog glob hG (184, [(.int false .i64 (0)), (.int false .i64 (10000000)), (.int false .i64 (15000000))], (.tuple [(.int false .i64 (0)), (.int false .i64 (0))])) := known none_known (by kernel_rfl) (by kernel_rfl) (by kernel_rfl)
/-- monocle/fix.ScaleDown (222 steps) -/
theorem call72 : MemoOk Tryz.prog glob hG (183, [(.int false .i64 (3221225472)), (.int false .i64 (10000000)), (.int false .i64 (15000000))], (.tuple [(.int false .i64 (2147483648)), (.int false .i64 (0))])) := known none_known (by kernel_rfl) (by kernel_rfl) (by kernel_rfl)
/-- monocle/fix.ScaleUp (222 steps) -/
theorem call73 : MemoOk Tryz.prog glob hG (184, [(.int false .i64 (3221225472)), (.int false .i64 (10000000)), (.int false .i64 (15000000))], (.tuple [(.int false .i64 (2147483648)), (.int false .i64 (0))])) := known none_known (by kernel_rfl) (by kernel_rfl) (by kernel_rfl)
/-- monocle/fix.ScaleDown (222 steps) -/
theorem call74 : MemoOk Tryz.prog glob hG (183, [(.int false .i64 (2684354560)), (.int false .i64 (10000000)), (.int false .i64 (15000000))], (.tuple [(.int false .i64 (1789569706)), (.int false .i64 (0))])) := known none_known (by kernel_rfl) (by kernel_rfl) (by kernel_rfl)
/-- monocle/fix.ScaleUp (225 steps) -/
theorem call75 : MemoOk Tryz.prog glob hG (184, [(.int false .i64 (2684354560)), (.int false .i64 (10000000)), (.int false .i64 (15000000))], (.tuple [(.int false .i64 (1789569707)), (.int false .i64 (0))])) := known none_known (by kernel_rfl) (by kernel_rfl) (by kernel_rfl)
/-- monocle/fix.MulDown (247 steps) -/
theorem call76 : MemoOk Tryz.prog glob hG (180, [(.int false .i64 (2147483648)), (.int false .i64 (0))], (.tuple [(.int false .i64 (0)), (.int false .i64 (0))])) := known none_known (by kernel_rfl) (by kernel_rfl) (by kernel_rfl)
/-- monocle/fix.MulUp (247 steps) -/
theorem call77 : MemoOk Tryz.prog glob hG (181, [(.int false .i64 (2147483648)), (.int false .i64 (0))], (.tuple [(.int false .i64 (0)), (.int false .i64 (0))])) := known none_known (by kernel_rfl) (by kernel_rfl) (by kernel_rfl)
/-- monocle/fix.MulDown (247 steps) -/
theorem call78 : MemoOk Tryz.prog glob hG (180, [(.int false .i64 (1789569706)), (.int false .i64 (4294967296))], (.tuple [(.int false .i64 (1789569706)), (.int false .i64 (0))])) := known none_known (by kernel_rfl) (by kernel_rfl) (by kernel_rfl)
/-- monocle/fix.MulUp (247 steps) -/
theorem call79 : MemoOk Tryz.prog glob hG (181, [(.int false .i64 (1789569706)), (.int false .i64 (4294967296))], (.tuple [(.int false .i64 (1789569706)), (.int false .i64 (0))])) := known none_known (by kernel_rfl) (by kernel_rfl) (by kernel_rfl)
/-- monocle/fix.MulDown (247 steps) -/
theorem call80 : MemoOk Tryz.prog glob hG (180, [(.int false .i64 (1789569707)), (.int false .i64 (4294967296))], (.tuple [(.int false .i64 (1789569707)), (.int false .i64 (0))])) := known none_known (by kernel_rfl) (by kernel_rfl) (by kernel_rfl)
/-- monocle/fix.MulUp (247 steps) -/
theorem call81 : MemoOk Tryz.prog glob hG (181, [(.int false .i64 (1789569707)), (.int false .i64 (4294967296))], (.tuple [(.int false .i64 (1789569707)), (.int false .i64 (0))])) := known none_known (by kernel_rfl) (by kernel_rfl) (by kernel_rfl)
/-- monocle/fix.MulDown (247 steps) -/
theorem call82 : MemoOk Tryz.prog glob hG (180, [(.int false .i64 (0)), (.int false .i64 (1789569706))], (.tuple [(.int false .i64 (0)), (.int false .i64 (0))])) := known none_known (by kernel_rfl) (by kernel_rfl) (by kernel_rfl)
/-- monocle/fix.MulUp (247 steps) -/
theorem call83 : MemoOk Tryz.prog glob hG (181, [(.int false .i64 (0)), (.int false .i64 (1789569706))], (.tuple [(.int false .i64 (0)), (.int false .i64 (0))])) := known none_known (by kernel_rfl) (by kernel_rfl) (by kernel_rfl)
/-- monocle/fix.MulDown (247 steps) -/
theorem call84 : MemoOk Tryz.prog glob hG (180, [(.int false .i64 (0)), (.int false .i64 (1789569707))], (.tuple [(.int false .i64 (0)), (.int false .i64 (0))])) := known none_known (by kernel_rfl) (by kernel_rfl) (by kernel_rfl)
/-- monocle/fix.MulUp (247 steps) -/
theorem call85 : MemoOk Tryz.prog glob hG (181, [(.int false .i64 (0)), (.int false .i64 (1789569707))], (.tuple [(.int false .i64 (0)), (.int false .i64 (0))])) := known none_known (by kernel_rfl) (by kernel_rfl) (by kernel_rfl)
/-- monocle/fix.MulDown (247 steps) -/
theorem call86 : MemoOk Tryz.prog glob hG (180, [(.int false .i64 (4294967296)), (.int false .i64 (1789569706))], (.tuple [(.int false .i64 (1789569706)), (.int false .i64 (0))])) := known none_known (by kernel_rfl) (by kernel_rfl) (by kernel_rfl)
/-- monocle/fix.MulUp (247 steps) -/
theorem call87 : MemoOk Tryz.prog glob hG (181, [(.int false .i64 (4294967296)), (.int false .i64 (1789569706))], (.tuple [(.int false .i64 (1789569706)), (.int false .i64 (0))])) := known none_known (by kernel_rfl) (by kernel_rfl) (by kernel_rfl)
/-- monocle/fix.MulDown (247 steps) -/
theorem call88 : MemoOk Tryz.prog glob hG (180, [(.int false .i64 (4294967296)), (.int false .i64 (1789569707))], (.tuple [(.int false .i64 (1789569707)), (.int false .i64 (0))])) := known none_known (by kernel_rfl) (by kernel_rfl) (by kernel_rfl)
/-- monocle/fix.MulUp (247 steps) -/
theorem call89 : MemoOk Tryz.prog glob hG (181, [(.int false .i64 (4294967296)), (.int false .i64 (1789569707))], (.tuple [(.int false .i64 (1789569707)), (.int false .i64 (0))])) := known none_known (by kernel_rfl) (by kernel_rfl) (by kernel_rfl)
/-- monocle/fix.MulDown (247 steps) -/
theorem call90 : MemoOk Tryz.prog glob hG (180, [(.int false .i64 (2147483648)), (.int false .i64 (2147483648))], (.tuple [(.int false .i64 (1073741824)), (.int false .i64 (0))])) := known none_known (by kernel_rfl) (by kernel_rfl) (by kernel_rfl)
/-- monocle/fix.MulUp (247 steps) -/
theorem call91 : MemoOk Tryz.prog glob hG (181, [(.int false .i64 (2147483648)), (.int false .i64 (2147483648))], (.tuple [(.int false .i64 (1073741824)), (.int false .i64 (0))])) := known none_known (by kernel_rfl) (by kernel_rfl) (by kernel_rfl)
/-- monocle/fix.MulDown (253 steps) -/
theorem call92 : MemoOk Tryz.prog glob hG (180, [(.int false .i64 (-1)), (.int false .i64 (-1))], (.tuple [(.int false .i64 (0)), (.int false .i64 (0))])) := known none_known (by kernel_rfl) (by kernel_rfl) (by kernel_rfl)
/-- monocle/fix.MulUp (256 steps) -/
theorem call93 : MemoOk Tryz.prog glob hG (181, [(.int false .i64 (-1)), (.int false .i64 (-1))], (.tuple [(.int false .i64 (1)), (.int false .i64 (0))])) := known none_known (by kernel_rfl) (by kernel_rfl) (by kernel_rfl)
/-- monocle/fix.MulDown (254 steps) -/
theorem call94 : MemoOk Tryz.prog glob hG (180, [(.int false .i64 (-1)), (.int false .i64 (1))], (.tuple [(.int false .i64 (-1)), (.int false .i64 (0))])) := known none_known (by kernel_rfl) (by kernel_rfl) (by kernel_rfl)
/-- monocle/fix.MulUp (251 steps) -/
theorem call95 : MemoOk Tryz.prog glob hG (181, [(.int false .i64 (-1)), (.int false .i64 (1))], (.tuple [(.int false .i64 (0)), (.int false .i64 (0))])) := known none_known (by kernel_rfl) (by kernel_rfl) (by kernel_rfl)
/-- monocle/fix.MulDown (254 steps) -/
theorem call96 : MemoOk Tryz.prog glob hG (180, [(.int false .i64 (1)), (.int false .i64 (-1))], (.tuple [(.int false .i64 (-1)), (.int false .i64 (0))])) := known none_known (by kernel_rfl) (by kernel_rfl) (by kernel_rfl)
/-- monocle/fix.MulUp (251 steps) -/
theorem call97 : MemoOk Tryz.prog glob hG (181, [(.int false .i64 (1)), (.int false .i64 (-1))], (.tuple [(.int false .i64 (0)), (.int false .i64 (0))])) := known none_known (by kernel_rfl) (by kernel_rfl) (by kernel_rfl)
/-- monocle/fix.MulDown (247 steps) -/
theorem call98 : MemoOk Tryz.prog glob hG (180, [(.int false .i64 (1)), (.int false .i64 (1))], (.tuple [(.int false .i64 (0)), (.int false .i64 (0))])) := known none_known (by kernel_rfl) (by kernel_rfl) (by kernel_rfl)
/-- monocle/fix.MulUp (250 steps) -/
theorem call99 : MemoOk Tryz.prog glob hG (181, [(.int false .i64 (1)), (.int false .i64 (1))], (.tuple [(.int false .i64 (1)), (.int false .i64 (0))])) := known none_known (by kernel_rfl) (by kernel_rfl) (by kernel_rfl)
/-- monocle/fix.SqrtDown (4746 steps) -/
theorem call100 : MemoOk Tryz.prog glob hG (137, [(.int false .i64 (3221225471))], (.tuple [(.int false .i64 (3719550786)), (.int false .i64 (0))])) := known none_known (by kernel_rfl) (by kernel_rfl) (by kernel_rfl)
/-- monocle/fix.SqrtUp (4816 steps) -/
theorem call101 : MemoOk Tryz.prog glob hG (138, [(.int false .i64 (3221225473))], (.tuple [(.int false .i64 (3719550788)), (.int false .i64 (0))])) := known none_known (by kernel_rfl) (by kernel_rfl) (by kernel_rfl)
/-- monocle/fix.MulDown (247 steps) -/
theorem call102 : MemoOk Tryz.prog glob hG (180, [(.int false .i64 (0)), (.int false .i64 (3719550786))], (.tuple [(.int false .i64 (0)), (.int false .i64 (0))])) := known none_known (by kernel_rfl) (by kernel_rfl) (by kernel_rfl)
/-- monocle/fix.MulUp (247 steps) -/
theorem call103 : MemoOk Tryz.prog glob hG (181, [(.int false .i64 (0)), (.int false .i64 (3719550786))], (.tuple [(.int false .i64 (0)), (.int false .i64 (0))])) := known none_known (by kernel_rfl) (by kernel_rfl) (by kernel_rfl)
/-- monocle/fix.MulDown (247 steps) -/
theorem call104 : MemoOk Tryz.prog glob hG (180, [(.int false .i64 (0)), (.int false .i64 (3719550788))], (.tuple [(.int false .i64 (0)), (.int false .i64 (0))])) := known none_known (by kernel_rfl) (by kernel_rfl) (by kernel_rfl)
/-- monocle/fix.MulUp (247 steps) -/
theorem call105 : MemoOk Tryz.prog glob hG (181, [(.int false .i64 (0)), (.int false .i64 (3719550788))], (.tuple [(.int false .i64 (0)), (.int false .i64 (0))])) := known none_known (by kernel_rfl) (by kernel_rfl) (by kernel_rfl)
/-- monocle/fix.MulDown (247 steps) -/
theorem call106 : MemoOk Tryz.prog glob hG (180, [(.int false .i64 (4294967296)), (.int false .i64 (3719550786))], (.tuple [(.int false .i64 (3719550786)), (.int false .i64 (0))])) := known none_known (by kernel_rfl) (by kernel_rfl) (by kernel_rfl)
/-- monocle/fix.MulUp (247 steps) -/
theorem call107 : MemoOk Tryz.prog glob hG (181, [(.int false .i64 (4294967296)), (.int false .i64 (3719550786))], (.tuple [(.int false .i64 (3719550786)), (.int false .i64 (0))])) := known none_known (by kernel_rfl) (by kernel_rfl) (by kernel_rfl)
/-- monocle/fix.MulDown (247 steps) -/
theorem call108 : MemoOk Tryz.prog glob hG (180, [(.int false .i64 (4294967296)), (.int false .i64 (3719550788))], (.tuple [(.int false .i64 (3719550788)), (.int false .i64 (0))])) := known none_known (by kernel_rfl) (by kernel_rfl) (by kernel_rfl)
/-- monocle/fix.MulUp (247 steps) -/
theorem call109 : MemoOk Tryz.prog glob hG (181, [(.int false .i64 (4294967296)), (.int false .i64 (3719550788))], (.tuple [(.int false .i64 (3719550788)), (.int false .i64 (0))])) := known none_known (by kernel_rfl) (by kernel_rfl) (by kernel_rfl)
/-- monocle/fix.ScaleDown (222 steps) -/
theorem call110 : MemoOk Tryz.prog glob hG (183, [(.int false .i64 (0)), (.int false .i64 (15000000)), (.int false .i64 (10000000))], (.tuple [(.int false .i64 (0)), (.int false .i64 (0))])) := known none_known (by kernel_rfl) (by kernel_rfl) (by kernel_rfl)
/-- monocle/fix.ScaleUp (222 steps) -/
theorem call111 : MemoOk Tryz.prog glob hG (184, [(.int false .i64 (0)), (.int false .i64 (15000000)), (.int false .i64 (10000000))], (.tuple [(.int false .i64 (0)), (.int false .i64 (0))])) := known none_known (by kernel_rfl) (by kernel_rfl) (by kernel_rfl)
/-- monocle/fix.ScaleDown (222 steps) -/
theorem call112 : MemoOk Tryz.prog glob hG (183, [(.int false .i64 (3221225472)), (.int false .i64 (15000000)), (.int false .i64 (10000000))], (.tuple [(.int false .i64 (4831838208)), (.int false .i64 (0))])) := known none_known (by kernel_rfl) (by kernel_rfl) (by kernel_rfl)
/-- monocle/fix.ScaleUp (222 steps) -/
theorem call113 : MemoOk Tryz.prog glob hG (184, [(.int false .i64 (3221225472)), (.int false .i64 (15000000)), (.int false .i64 (10000000))], (.tuple [(.int false .i64 (4831838208)), (.int false .i64 (0))])) := known none_known (by kernel_rfl) (by kernel_rfl) (by kernel_rfl)
/-- monocle/fix.ScaleDown (222 steps) -/
theorem call114 : MemoOk Tryz.prog glob hG (183, [(.int false .i64 (2684354560)), (.int false .i64 (15000000)), (.int false .i64 (10000000))], (.tuple [(.int false .i64 (4026531840)), (.int false .i64 (0))])) := known none_known (by kernel_rfl) (by kernel_rfl) (by kernel_rfl)
/-- monocle/fix.ScaleUp (222 steps) -/
theorem call115 : MemoOk Tryz.prog glob hG (184, [(.int false .i64 (2684354560)), (.int false .i64 (15000000)), (.int false .i64 (10000000))], (.tuple [(.int false .i64 (4026531840)), (.int false .i64 (0))])) := known none_known (by kernel_rfl) (by kernel_rfl) (by kernel_rfl)
/-- monocle/fix.MulDown (247 steps) -/
theorem call116 : MemoOk Tryz.prog glob hG (180, [(.int false .i64 (4831838208)), (.int false .i64 (0))], (.tuple [(.int false .i64 (0)), (.int false .i64 (0))])) := known none_known (by kernel_rfl) (by kernel_rfl) (by kernel_rfl)
/-- monocle/fix.MulUp (247 steps) -/
theorem call117 : MemoOk Tryz.prog glob hG (181, [(.int false .i64 (4831838208)), (.int false .i64 (0))], (.tuple [(.int false .i64 (0)), (.int false .i64 (0))])) := known none_known (by kernel_rfl) (by kernel_rfl) (by kernel_rfl)
/-- monocle/fix.MulDown (247 steps) -/
theorem call118 : MemoOk Tryz.prog glob hG (180, [(.int false .i64 (4026531840)), (.int false .i64 (4294967296))], (.tuple [(.int false .i64 (4026531840)), (.int false .i64 (0))])) := known none_known (by kernel_rfl) (by kernel_rfl) (by kernel_rfl)
/-- monocle/fix.MulUp (247 steps) -/
theorem call119 : MemoOk Tryz.prog glob hG (181, [(.int false .i64 (4026531840)), (.int false .i64 (4294967296))], (.tuple [(.int false .i64 (4026531840)), (.int false .i64 (0))])) := known none_known (by kernel_rfl) (by kernel_rfl) (by kernel_rfl)
/-- monocle/fix.MulDown (247 steps) -/
theorem call120 : MemoOk Tryz.prog glob hG (180, [(.int false .i64 (0)), (.int false .i64 (4026531840))], (.tuple [(.int false .i64 (0)), (.int false .i64 (0))])) := known none_known (by kernel_rfl) (by kernel_rfl) (by kernel_rfl)
/-- monocle/fix.MulUp (247 steps) -/
theorem call121 : MemoOk Tryz.prog glob hG (181, [(.int false .i64 (0)), (.int false .i64 (4026531840))], (.tuple [(.int false .i64 (0)), (.int false .i64 (0))])) := known none_known (by kernel_rfl) (by kernel_rfl) (by kernel_rfl)
/-- monocle/fix.MulDown (247 steps) -/
theorem call122 : MemoOk Tryz.prog glob hG (180, [(.int false .i64 (4294967296)), (.int false .i64 (4026531840))], (.tuple [(.int false .i64 (4026531840)), (.int false .i64 (0))])) := known none_known (by kernel_rfl) (by kernel_rfl) (by kernel_rfl)
/-- monocle/fix.MulUp (247 steps) -/
theorem call123 : MemoOk Tryz.prog glob hG (181, [(.int false .i64 (4294967296)), (.int false .i64 (4026531840))], (.tuple [(.int false .i64 (4026531840)), (.int false .i64 (0))])) := known none_known (by kernel_rfl) (by kernel_rfl) (by kernel_rfl)
/-- monocle/fix.MulDown (368 steps) -/
theorem call124 : MemoOk Tryz.prog glob hG (180, [(.int false .i64 (4831838208)), (.int false .i64 (4831838208))], (.tuple [(.int false .i64 (5435817984)), (.int false .i64 (0))])) := known none_known (by kernel_rfl) (by kernel_rfl) (by kernel_rfl)
/-- monocle/fix.MulUp (368 steps) -/
theorem call125 : MemoOk Tryz.prog glob hG (181, [(.int false .i64 (4831838208)), (.int false .i64 (4831838208))], (.tuple [(.int false .i64 (5435817984)), (.int false .i64 (0))])) := known none_known (by kernel_rfl) (by kernel_rfl) (by kernel_rfl)
/-- monocle/fix.MulDown (247 steps) -/
theorem call126 : MemoOk Tryz.prog glob hG (180, [(.int false .i64 (0)), (.int false .i64 (4294967296))], (.tuple [(.int false .i64 (0)), (.int false .i64 (0))])) := known none_known (by kernel_rfl) (by kernel_rfl) (by kernel_rfl)
/-- monocle/fix.MulUp (247 steps) -/
theorem call127 : MemoOk Tryz.prog glob hG (181, [(.int false .i64 (0)), (.int false .i64 (4294967296))], (.tuple [(.int false .i64 (0)), (.int false .i64 (0))])) := known none_known (by kernel_rfl) (by kernel_rfl) (by kernel_rfl)
/-- monocle/fix.MulDown (247 steps) -/
theorem call128 : MemoOk Tryz.prog glob hG (180, [(.int false .i64 (3221225472)), (.int false .i64 (4294967296))], (.tuple [(.int false .i64 (3221225472)), (.int false .i64 (0))])) := known none_known (by kernel_rfl) (by kernel_rfl) (by kernel_rfl)
/-- monocle/fix.MulUp (247 steps) -/
theorem call129 : MemoOk Tryz.prog glob hG (181, [(.int false .i64 (3221225472)), (.int false .i64 (4294967296))], (.tuple [(.int false .i64 (3221225472)), (.int false .i64 (0))])) := known none_known (by kernel_rfl) (by kernel_rfl) (by kernel_rfl)
/-- monocle/fix.MulDown (247 steps) -/
theorem call130 : MemoOk Tryz.prog glob hG (180, [(.int false .i64 (0)), (.int false .i64 (3221225472))], (.tuple [(.int false .i64 (0)), (.int false .i64 (0))])) := known none_known (by kernel_rfl) (by kernel_rfl) (by kernel_rfl)
/-- monocle/fix.MulUp (247 steps) -/
theorem call131 : MemoOk Tryz.prog glob hG (181, [(.int false .i64 (0)), (.int false .i64 (3221225472))], (.tuple [(.int false .i64 (0)), (.int false .i64 (0))])) := known none_known (by kernel_rfl) (by kernel_rfl) (by kernel_rfl)
/-- monocle/fix.MulDown (247 steps) -/
theorem call132 : MemoOk Tryz.prog glob hG (180, [(.int false .i64 (4294967296)), (.int false .i64 (3221225472))], (.tuple [(.int false .i64 (3221225472)), (.int false .i64 (0))])) := known none_known (by kernel_rfl) (by kernel_rfl) (by kernel_rfl)
/-- monocle/fix.MulUp (247 steps) -/
theorem call133 : MemoOk Tryz.prog glob hG (181, [(.int false .i64 (4294967296)), (.int false .i64 (3221225472))], (.tuple [(.int false .i64 (3221225472)), (.int false .i64 (0))])) := known none_known (by kernel_rfl) (by kernel_rfl) (by kernel_rfl)
/-- monocle/fix.SqrtDown (4746 steps) -/
theorem call134 : MemoOk Tryz.prog glob hG (137, [(.int false .i64 (3221225472))], (.tuple [(.int false .i64 (3719550786)), (.int false .i64 (0))])) := known none_known (by kernel_rfl) (by kernel_rfl) (by kernel_rfl)
end Go.Proofs.YtckglcjiicmbkaaGreatDoor
