/- What is proved: BendKnown returns true (part 5 of 18). No conditions beyond those of the row. -/
import Derived.Test.YtckglcjiicmbkaaGreatDoorPD
set_option linter.unusedVariables false
set_option linter.unusedSimpArgs false
set_option linter.unusedSectionVars false
/- What is proved: calls of the law BendKnown, of which the answers are known (level 1). No conditions. -/
namespace Go.Proofs.YtckglcjiicmbkaaGreatDoor
open Go Go.Eng

/-- monocle/fix.ScaleDown (222 steps) -/
theorem call0 : MemoOk Tryz.prog glob hG (183, [(.int false .i64 (21474836480)), (.int false .i64 (0)), (.int false .i64 (1000000000))], (.tuple [(.int false .i64 (0)), (.int false .i64 (0))])) := known none_known (by kernel_rfl) (by kernel_rfl) (by kernel_rfl)
/-- monocle/fix.ScaleUp (222 steps) -/
theorem call1 : MemoOk Tryz.prog glob hG (184, [(.int false .i64 (21474836480)), (.int false .i64 (0)), (.int false .i64 (1000000000))], (.tuple [(.int false .i64 (0)), (.int false .i64 (0))])) := known none_known (by kernel_rfl) (by kernel_rfl) (by kernel_rfl)
/-- monocle/fix.ScaleDown (222 steps) -/
theorem call2 : MemoOk Tryz.prog glob hG (183, [(.int false .i64 (0)), (.int false .i64 (0)), (.int false .i64 (1000000000))], (.tuple [(.int false .i64 (0)), (.int false .i64 (0))])) := known none_known (by kernel_rfl) (by kernel_rfl) (by kernel_rfl)
/-- monocle/fix.ScaleUp (222 steps) -/
theorem call3 : MemoOk Tryz.prog glob hG (184, [(.int false .i64 (0)), (.int false .i64 (0)), (.int false .i64 (1000000000))], (.tuple [(.int false .i64 (0)), (.int false .i64 (0))])) := known none_known (by kernel_rfl) (by kernel_rfl) (by kernel_rfl)
/-- monocle/fix.ScaleDown (222 steps) -/
theorem call4 : MemoOk Tryz.prog glob hG (183, [(.int false .i64 (0)), (.int false .i64 (1000000)), (.int false .i64 (1000000))], (.tuple [(.int false .i64 (0)), (.int false .i64 (0))])) := known none_known (by kernel_rfl) (by kernel_rfl) (by kernel_rfl)
/-- monocle/fix.ScaleUp (222 steps) -/
theorem call5 : MemoOk Tryz.prog glob hG (184, [(.int false .i64 (0)), (.int false .i64 (1000000)), (.int false .i64 (1000000))], (.tuple [(.int false .i64 (0)), (.int false .i64 (0))])) := known none_known (by kernel_rfl) (by kernel_rfl) (by kernel_rfl)
/-- monocle/fix.SqrtDown (4710 steps) -/
theorem call6 : MemoOk Tryz.prog glob hG (137, [(.int false .i64 (4294967296))], (.tuple [(.int false .i64 (4294967296)), (.int false .i64 (0))])) := known none_known (by kernel_rfl) (by kernel_rfl) (by kernel_rfl)
/-- monocle/fix.SqrtUp (4775 steps) -/
theorem call7 : MemoOk Tryz.prog glob hG (138, [(.int false .i64 (4294967296))], (.tuple [(.int false .i64 (4294967296)), (.int false .i64 (0))])) := known none_known (by kernel_rfl) (by kernel_rfl) (by kernel_rfl)
/-- monocle/fix.DivDown (249 steps) -/
theorem call8 : MemoOk Tryz.prog glob hG (144, [(.int false .i64 (0)), (.int false .i64 (8589934592))], (.tuple [(.int false .i64 (0)), (.int false .i64 (0))])) := known none_known (by kernel_rfl) (by kernel_rfl) (by kernel_rfl)
/-- monocle/fix.DivUp (249 steps) -/
theorem call9 : MemoOk Tryz.prog glob hG (145, [(.int false .i64 (0)), (.int false .i64 (8589934592))], (.tuple [(.int false .i64 (0)), (.int false .i64 (0))])) := known none_known (by kernel_rfl) (by kernel_rfl) (by kernel_rfl)
/-- monocle/fix.ScaleDown (222 steps) -/
theorem call10 : MemoOk Tryz.prog glob hG (183, [(.int false .i64 (4294967296)), (.int false .i64 (0)), (.int false .i64 (1000000000))], (.tuple [(.int false .i64 (0)), (.int false .i64 (0))])) := known none_known (by kernel_rfl) (by kernel_rfl) (by kernel_rfl)
/-- monocle/fix.ScaleUp (222 steps) -/
theorem call11 : MemoOk Tryz.prog glob hG (184, [(.int false .i64 (4294967296)), (.int false .i64 (0)), (.int false .i64 (1000000000))], (.tuple [(.int false .i64 (0)), (.int false .i64 (0))])) := known none_known (by kernel_rfl) (by kernel_rfl) (by kernel_rfl)
/-- monocle/fix.DivDown (249 steps) -/
theorem call12 : MemoOk Tryz.prog glob hG (144, [(.int false .i64 (0)), (.int false .i64 (4294967296))], (.tuple [(.int false .i64 (0)), (.int false .i64 (0))])) := known none_known (by kernel_rfl) (by kernel_rfl) (by kernel_rfl)
/-- monocle/fix.DivUp (249 steps) -/
theorem call13 : MemoOk Tryz.prog glob hG (145, [(.int false .i64 (0)), (.int false .i64 (4294967296))], (.tuple [(.int false .i64 (0)), (.int false .i64 (0))])) := known none_known (by kernel_rfl) (by kernel_rfl) (by kernel_rfl)
/-- monocle/fix.ScaleDown (222 steps) -/
theorem call14 : MemoOk Tryz.prog glob hG (183, [(.int false .i64 (8589934592)), (.int false .i64 (0)), (.int false .i64 (1000000000))], (.tuple [(.int false .i64 (0)), (.int false .i64 (0))])) := known none_known (by kernel_rfl) (by kernel_rfl) (by kernel_rfl)
/-- monocle/fix.ScaleUp (222 steps) -/
theorem call15 : MemoOk Tryz.prog glob hG (184, [(.int false .i64 (8589934592)), (.int false .i64 (0)), (.int false .i64 (1000000000))], (.tuple [(.int false .i64 (0)), (.int false .i64 (0))])) := known none_known (by kernel_rfl) (by kernel_rfl) (by kernel_rfl)
/-- monocle/fix.DivDown (370 steps) -/
theorem call16 : MemoOk Tryz.prog glob hG (144, [(.int false .i64 (4294967296)), (.int false .i64 (4294967296))], (.tuple [(.int false .i64 (4294967296)), (.int false .i64 (0))])) := known none_known (by kernel_rfl) (by kernel_rfl) (by kernel_rfl)
/-- monocle/fix.DivUp (370 steps) -/
theorem call17 : MemoOk Tryz.prog glob hG (145, [(.int false .i64 (4294967296)), (.int false .i64 (4294967296))], (.tuple [(.int false .i64 (4294967296)), (.int false .i64 (0))])) := known none_known (by kernel_rfl) (by kernel_rfl) (by kernel_rfl)
/-- monocle/fix.ScaleDown (351 steps) -/
theorem call18 : MemoOk Tryz.prog glob hG (183, [(.int false .i64 (15461882265600)), (.int false .i64 (10000000)), (.int false .i64 (1000000000))], (.tuple [(.int false .i64 (154618822656)), (.int false .i64 (0))])) := known none_known (by kernel_rfl) (by kernel_rfl) (by kernel_rfl)
/-- monocle/fix.ScaleUp (351 steps) -/
theorem call19 : MemoOk Tryz.prog glob hG (184, [(.int false .i64 (15461882265600)), (.int false .i64 (10000000)), (.int false .i64 (1000000000))], (.tuple [(.int false .i64 (154618822656)), (.int false .i64 (0))])) := known none_known (by kernel_rfl) (by kernel_rfl) (by kernel_rfl)
/-- monocle/fix.ScaleDown (222 steps) -/
theorem call20 : MemoOk Tryz.prog glob hG (183, [(.int false .i64 (154618822656)), (.int false .i64 (10000000)), (.int false .i64 (1000000000))], (.tuple [(.int false .i64 (1546188226)), (.int false .i64 (0))])) := known none_known (by kernel_rfl) (by kernel_rfl) (by kernel_rfl)
/-- monocle/fix.ScaleUp (225 steps) -/
theorem call21 : MemoOk Tryz.prog glob hG (184, [(.int false .i64 (154618822656)), (.int false .i64 (10000000)), (.int false .i64 (1000000000))], (.tuple [(.int false .i64 (1546188227)), (.int false .i64 (0))])) := known none_known (by kernel_rfl) (by kernel_rfl) (by kernel_rfl)
/-- monocle/fix.ScaleDown (222 steps) -/
theorem call22 : MemoOk Tryz.prog glob hG (183, [(.int false .i64 (1546188226)), (.int false .i64 (1000000)), (.int false .i64 (1000000))], (.tuple [(.int false .i64 (1546188226)), (.int false .i64 (0))])) := known none_known (by kernel_rfl) (by kernel_rfl) (by kernel_rfl)
/-- monocle/fix.ScaleUp (222 steps) -/
theorem call23 : MemoOk Tryz.prog glob hG (184, [(.int false .i64 (1546188227)), (.int false .i64 (1000000)), (.int false .i64 (1000000))], (.tuple [(.int false .i64 (1546188227)), (.int false .i64 (0))])) := known none_known (by kernel_rfl) (by kernel_rfl) (by kernel_rfl)
/-- monocle/fix.SqrtDown (4740 steps) -/
theorem call24 : MemoOk Tryz.prog glob hG (137, [(.int false .i64 (2748779069))], (.tuple [(.int false .i64 (3435973836)), (.int false .i64 (0))])) := known none_known (by kernel_rfl) (by kernel_rfl) (by kernel_rfl)
/-- monocle/fix.SqrtUp (4810 steps) -/
theorem call25 : MemoOk Tryz.prog glob hG (138, [(.int false .i64 (2748779070))], (.tuple [(.int false .i64 (3435973838)), (.int false .i64 (0))])) := known none_known (by kernel_rfl) (by kernel_rfl) (by kernel_rfl)
/-- monocle/fix.DivDown (370 steps) -/
theorem call26 : MemoOk Tryz.prog glob hG (144, [(.int false .i64 (154618822656)), (.int false .i64 (7730941132))], (.tuple [(.int false .i64 (85899345928)), (.int false .i64 (0))])) := known none_known (by kernel_rfl) (by kernel_rfl) (by kernel_rfl)
/-- monocle/fix.DivUp (373 steps) -/
theorem call27 : MemoOk Tryz.prog glob hG (145, [(.int false .i64 (154618822656)), (.int false .i64 (7730941132))], (.tuple [(.int false .i64 (85899345929)), (.int false .i64 (0))])) := known none_known (by kernel_rfl) (by kernel_rfl) (by kernel_rfl)
/-- monocle/fix.DivDown (370 steps) -/
theorem call28 : MemoOk Tryz.prog glob hG (144, [(.int false .i64 (154618822656)), (.int false .i64 (7730941134))], (.tuple [(.int false .i64 (85899345906)), (.int false .i64 (0))])) := known none_known (by kernel_rfl) (by kernel_rfl) (by kernel_rfl)
/-- monocle/fix.DivUp (373 steps) -/
theorem call29 : MemoOk Tryz.prog glob hG (145, [(.int false .i64 (154618822656)), (.int false .i64 (7730941134))], (.tuple [(.int false .i64 (85899345907)), (.int false .i64 (0))])) := known none_known (by kernel_rfl) (by kernel_rfl) (by kernel_rfl)
/-- monocle/fix.ScaleDown (222 steps) -/
theorem call30 : MemoOk Tryz.prog glob hG (183, [(.int false .i64 (257698037760)), (.int false .i64 (10000000)), (.int false .i64 (1000000000))], (.tuple [(.int false .i64 (2576980377)), (.int false .i64 (0))])) := known none_known (by kernel_rfl) (by kernel_rfl) (by kernel_rfl)
/-- monocle/fix.ScaleUp (225 steps) -/
theorem call31 : MemoOk Tryz.prog glob hG (184, [(.int false .i64 (257698037760)), (.int false .i64 (10000000)), (.int false .i64 (1000000000))], (.tuple [(.int false .i64 (2576980378)), (.int false .i64 (0))])) := known none_known (by kernel_rfl) (by kernel_rfl) (by kernel_rfl)
/-- monocle/fix.DivDown (249 steps) -/
theorem call32 : MemoOk Tryz.prog glob hG (144, [(.int false .i64 (2576980377)), (.int false .i64 (3435973836))], (.tuple [(.int false .i64 (3221225472)), (.int false .i64 (0))])) := known none_known (by kernel_rfl) (by kernel_rfl) (by kernel_rfl)
/-- monocle/fix.DivUp (249 steps) -/
theorem call33 : MemoOk Tryz.prog glob hG (145, [(.int false .i64 (2576980377)), (.int false .i64 (3435973836))], (.tuple [(.int false .i64 (3221225472)), (.int false .i64 (0))])) := known none_known (by kernel_rfl) (by kernel_rfl) (by kernel_rfl)
/-- monocle/fix.DivDown (249 steps) -/
theorem call34 : MemoOk Tryz.prog glob hG (144, [(.int false .i64 (2576980377)), (.int false .i64 (3435973838))], (.tuple [(.int false .i64 (3221225470)), (.int false .i64 (0))])) := known none_known (by kernel_rfl) (by kernel_rfl) (by kernel_rfl)
/-- monocle/fix.DivUp (252 steps) -/
theorem call35 : MemoOk Tryz.prog glob hG (145, [(.int false .i64 (2576980377)), (.int false .i64 (3435973838))], (.tuple [(.int false .i64 (3221225471)), (.int false .i64 (0))])) := known none_known (by kernel_rfl) (by kernel_rfl) (by kernel_rfl)
/-- monocle/fix.DivDown (249 steps) -/
theorem call36 : MemoOk Tryz.prog glob hG (144, [(.int false .i64 (2576980378)), (.int false .i64 (3435973836))], (.tuple [(.int false .i64 (3221225473)), (.int false .i64 (0))])) := known none_known (by kernel_rfl) (by kernel_rfl) (by kernel_rfl)
/-- monocle/fix.DivUp (252 steps) -/
theorem call37 : MemoOk Tryz.prog glob hG (145, [(.int false .i64 (2576980378)), (.int false .i64 (3435973836))], (.tuple [(.int false .i64 (3221225474)), (.int false .i64 (0))])) := known none_known (by kernel_rfl) (by kernel_rfl) (by kernel_rfl)
/-- monocle/fix.DivDown (249 steps) -/
theorem call38 : MemoOk Tryz.prog glob hG (144, [(.int false .i64 (2576980378)), (.int false .i64 (3435973838))], (.tuple [(.int false .i64 (3221225471)), (.int false .i64 (0))])) := known none_known (by kernel_rfl) (by kernel_rfl) (by kernel_rfl)
/-- monocle/fix.DivUp (252 steps) -/
theorem call39 : MemoOk Tryz.prog glob hG (145, [(.int false .i64 (2576980378)), (.int false .i64 (3435973838))], (.tuple [(.int false .i64 (3221225472)), (.int false .i64 (0))])) := known none_known (by kernel_rfl) (by kernel_rfl) (by kernel_rfl)
/-- monocle/fix.ScaleDown (222 steps) -/
theorem call40 : MemoOk Tryz.prog glob hG (183, [(.int false .i64 (0)), (.int false .i64 (10000000)), (.int false .i64 (1000000000))], (.tuple [(.int false .i64 (0)), (.int false .i64 (0))])) := known none_known (by kernel_rfl) (by kernel_rfl) (by kernel_rfl)
/-- monocle/fix.ScaleUp (222 steps) -/
theorem call41 : MemoOk Tryz.prog glob hG (184, [(.int false .i64 (0)), (.int false .i64 (10000000)), (.int false .i64 (1000000000))], (.tuple [(.int false .i64 (0)), (.int false .i64 (0))])) := known none_known (by kernel_rfl) (by kernel_rfl) (by kernel_rfl)
/-- monocle/fix.DivDown (249 steps) -/
theorem call42 : MemoOk Tryz.prog glob hG (144, [(.int false .i64 (0)), (.int false .i64 (3435973836))], (.tuple [(.int false .i64 (0)), (.int false .i64 (0))])) := known none_known (by kernel_rfl) (by kernel_rfl) (by kernel_rfl)
/-- monocle/fix.DivUp (249 steps) -/
theorem call43 : MemoOk Tryz.prog glob hG (145, [(.int false .i64 (0)), (.int false .i64 (3435973836))], (.tuple [(.int false .i64 (0)), (.int false .i64 (0))])) := known none_known (by kernel_rfl) (by kernel_rfl) (by kernel_rfl)
/-- monocle/fix.DivDown (249 steps) -/
theorem call44 : MemoOk Tryz.prog glob hG (144, [(.int false .i64 (0)), (.int false .i64 (3435973838))], (.tuple [(.int false .i64 (0)), (.int false .i64 (0))])) := known none_known (by kernel_rfl) (by kernel_rfl) (by kernel_rfl)
/-- monocle/fix.DivUp (249 steps) -/
theorem call45 : MemoOk Tryz.prog glob hG (145, [(.int false .i64 (0)), (.int false .i64 (3435973838))], (.tuple [(.int false .i64 (0)), (.int false .i64 (0))])) := known none_known (by kernel_rfl) (by kernel_rfl) (by kernel_rfl)
/-- monocle/fix.SqrtDown (4768 steps) -/
theorem call46 : MemoOk Tryz.prog glob hG (137, [(.int false .i64 (6710886397))], (.tuple [(.int false .i64 (5368709118)), (.int false .i64 (0))])) := known none_known (by kernel_rfl) (by kernel_rfl) (by kernel_rfl)
/-- monocle/fix.SqrtUp (4782 steps) -/
theorem call47 : MemoOk Tryz.prog glob hG (138, [(.int false .i64 (6710886404))], (.tuple [(.int false .i64 (5368709122)), (.int false .i64 (0))])) := known none_known (by kernel_rfl) (by kernel_rfl) (by kernel_rfl)
/-- monocle/fix.DivDown (256 steps) -/
theorem call48 : MemoOk Tryz.prog glob hG (144, [(.int false .i64 (-3221225474)), (.int false .i64 (5368709118))], (.tuple [(.int false .i64 (-2576980381)), (.int false .i64 (0))])) := known none_known (by kernel_rfl) (by kernel_rfl) (by kernel_rfl)
end Go.Proofs.YtckglcjiicmbkaaGreatDoor
