/- What is proved: HitKnown returns true (part 6 of 26). No conditions beyond those of the row. -/
import Derived.Test.YtdljkgcdgidldaaGreatDoorPE
set_option linter.unusedVariables false
set_option linter.unusedSimpArgs false
set_option linter.unusedSectionVars false
/- What is proved: calls of the law HitKnown, of which the answers are known (level 1). No conditions. -/
namespace Go.Proofs.YtdljkgcdgidldaaGreatDoor
open Go Go.Eng

/-- monocle/fix.DivDown (370 steps) -/
theorem call0 : MemoOk Tryz.prog glob hG (160, [(.int false .i64 (21474836480)), (.int false .i64 (4294967296))], (.tuple [(.int false .i64 (21474836480)), (.int false .i64 (0))])) := known none_known (by kernel_rfl) (by kernel_rfl) (by kernel_rfl)
/-- monocle/fix.DivUp (370 steps) -/
theorem call1 : MemoOk Tryz.prog glob hG (161, [(.int false .i64 (21474836480)), (.int false .i64 (4294967296))], (.tuple [(.int false .i64 (21474836480)), (.int false .i64 (0))])) := known none_known (by kernel_rfl) (by kernel_rfl) (by kernel_rfl)
/-- monocle/fix.MulDown (247 steps) -/
theorem call2 : MemoOk Tryz.prog glob hG (162, [(.int false .i64 (21474836480)), (.int false .i64 (0))], (.tuple [(.int false .i64 (0)), (.int false .i64 (0))])) := known none_known (by kernel_rfl) (by kernel_rfl) (by kernel_rfl)
/-- monocle/fix.MulUp (247 steps) -/
theorem call3 : MemoOk Tryz.prog glob hG (163, [(.int false .i64 (21474836480)), (.int false .i64 (0))], (.tuple [(.int false .i64 (0)), (.int false .i64 (0))])) := known none_known (by kernel_rfl) (by kernel_rfl) (by kernel_rfl)
/-- monocle/fix.ScaleDown (222 steps) -/
theorem call4 : MemoOk Tryz.prog glob hG (171, [(.int false .i64 (21474836480)), (.int false .i64 (0)), (.int false .i64 (1000000000))], (.tuple [(.int false .i64 (0)), (.int false .i64 (0))])) := known none_known (by kernel_rfl) (by kernel_rfl) (by kernel_rfl)
/-- monocle/fix.ScaleUp (222 steps) -/
theorem call5 : MemoOk Tryz.prog glob hG (172, [(.int false .i64 (21474836480)), (.int false .i64 (0)), (.int false .i64 (1000000000))], (.tuple [(.int false .i64 (0)), (.int false .i64 (0))])) := known none_known (by kernel_rfl) (by kernel_rfl) (by kernel_rfl)
/-- monocle/fix.MulDown (247 steps) -/
theorem call6 : MemoOk Tryz.prog glob hG (162, [(.int false .i64 (0)), (.int false .i64 (4294967296))], (.tuple [(.int false .i64 (0)), (.int false .i64 (0))])) := known none_known (by kernel_rfl) (by kernel_rfl) (by kernel_rfl)
/-- monocle/fix.MulUp (247 steps) -/
theorem call7 : MemoOk Tryz.prog glob hG (163, [(.int false .i64 (0)), (.int false .i64 (4294967296))], (.tuple [(.int false .i64 (0)), (.int false .i64 (0))])) := known none_known (by kernel_rfl) (by kernel_rfl) (by kernel_rfl)
/-- monocle/fix.MulDown (247 steps) -/
theorem call8 : MemoOk Tryz.prog glob hG (162, [(.int false .i64 (0)), (.int false .i64 (8589934592))], (.tuple [(.int false .i64 (0)), (.int false .i64 (0))])) := known none_known (by kernel_rfl) (by kernel_rfl) (by kernel_rfl)
/-- monocle/fix.MulUp (247 steps) -/
theorem call9 : MemoOk Tryz.prog glob hG (163, [(.int false .i64 (0)), (.int false .i64 (8589934592))], (.tuple [(.int false .i64 (0)), (.int false .i64 (0))])) := known none_known (by kernel_rfl) (by kernel_rfl) (by kernel_rfl)
/-- monocle/fix.ScaleDown (222 steps) -/
theorem call10 : MemoOk Tryz.prog glob hG (171, [(.int false .i64 (0)), (.int false .i64 (0)), (.int false .i64 (1000000000))], (.tuple [(.int false .i64 (0)), (.int false .i64 (0))])) := known none_known (by kernel_rfl) (by kernel_rfl) (by kernel_rfl)
/-- monocle/fix.ScaleUp (222 steps) -/
theorem call11 : MemoOk Tryz.prog glob hG (172, [(.int false .i64 (0)), (.int false .i64 (0)), (.int false .i64 (1000000000))], (.tuple [(.int false .i64 (0)), (.int false .i64 (0))])) := known none_known (by kernel_rfl) (by kernel_rfl) (by kernel_rfl)
/-- monocle/fix.ScaleDown (222 steps) -/
theorem call12 : MemoOk Tryz.prog glob hG (171, [(.int false .i64 (4294967296)), (.int false .i64 (1000000)), (.int false .i64 (1000000))], (.tuple [(.int false .i64 (4294967296)), (.int false .i64 (0))])) := known none_known (by kernel_rfl) (by kernel_rfl) (by kernel_rfl)
/-- monocle/fix.ScaleUp (222 steps) -/
theorem call13 : MemoOk Tryz.prog glob hG (172, [(.int false .i64 (4294967296)), (.int false .i64 (1000000)), (.int false .i64 (1000000))], (.tuple [(.int false .i64 (4294967296)), (.int false .i64 (0))])) := known none_known (by kernel_rfl) (by kernel_rfl) (by kernel_rfl)
/-- monocle/fix.SqrtDown (4710 steps) -/
theorem call14 : MemoOk Tryz.prog glob hG (153, [(.int false .i64 (4294967296))], (.tuple [(.int false .i64 (4294967296)), (.int false .i64 (0))])) := known none_known (by kernel_rfl) (by kernel_rfl) (by kernel_rfl)
/-- monocle/fix.SqrtUp (4775 steps) -/
theorem call15 : MemoOk Tryz.prog glob hG (154, [(.int false .i64 (4294967296))], (.tuple [(.int false .i64 (4294967296)), (.int false .i64 (0))])) := known none_known (by kernel_rfl) (by kernel_rfl) (by kernel_rfl)
/-- monocle/fix.DivDown (249 steps) -/
theorem call16 : MemoOk Tryz.prog glob hG (160, [(.int false .i64 (0)), (.int false .i64 (8589934592))], (.tuple [(.int false .i64 (0)), (.int false .i64 (0))])) := known none_known (by kernel_rfl) (by kernel_rfl) (by kernel_rfl)
/-- monocle/fix.DivUp (249 steps) -/
theorem call17 : MemoOk Tryz.prog glob hG (161, [(.int false .i64 (0)), (.int false .i64 (8589934592))], (.tuple [(.int false .i64 (0)), (.int false .i64 (0))])) := known none_known (by kernel_rfl) (by kernel_rfl) (by kernel_rfl)
/-- monocle/fix.ScaleDown (222 steps) -/
theorem call18 : MemoOk Tryz.prog glob hG (171, [(.int false .i64 (0)), (.int false .i64 (1000000)), (.int false .i64 (1000000))], (.tuple [(.int false .i64 (0)), (.int false .i64 (0))])) := known none_known (by kernel_rfl) (by kernel_rfl) (by kernel_rfl)
/-- monocle/fix.ScaleUp (222 steps) -/
theorem call19 : MemoOk Tryz.prog glob hG (172, [(.int false .i64 (0)), (.int false .i64 (1000000)), (.int false .i64 (1000000))], (.tuple [(.int false .i64 (0)), (.int false .i64 (0))])) := known none_known (by kernel_rfl) (by kernel_rfl) (by kernel_rfl)
/-- monocle/fix.MulDown (247 steps) -/
theorem call20 : MemoOk Tryz.prog glob hG (162, [(.int false .i64 (0)), (.int false .i64 (0))], (.tuple [(.int false .i64 (0)), (.int false .i64 (0))])) := known none_known (by kernel_rfl) (by kernel_rfl) (by kernel_rfl)
/-- monocle/fix.MulUp (247 steps) -/
theorem call21 : MemoOk Tryz.prog glob hG (163, [(.int false .i64 (0)), (.int false .i64 (0))], (.tuple [(.int false .i64 (0)), (.int false .i64 (0))])) := known none_known (by kernel_rfl) (by kernel_rfl) (by kernel_rfl)
/-- monocle/fix.DivDown (249 steps) -/
theorem call22 : MemoOk Tryz.prog glob hG (160, [(.int false .i64 (0)), (.int false .i64 (4294967296))], (.tuple [(.int false .i64 (0)), (.int false .i64 (0))])) := known none_known (by kernel_rfl) (by kernel_rfl) (by kernel_rfl)
/-- monocle/fix.DivUp (249 steps) -/
theorem call23 : MemoOk Tryz.prog glob hG (161, [(.int false .i64 (0)), (.int false .i64 (4294967296))], (.tuple [(.int false .i64 (0)), (.int false .i64 (0))])) := known none_known (by kernel_rfl) (by kernel_rfl) (by kernel_rfl)
/-- monocle/fix.ScaleDown (222 steps) -/
theorem call24 : MemoOk Tryz.prog glob hG (171, [(.int false .i64 (0)), (.int false .i64 (10000000)), (.int false .i64 (1000000000))], (.tuple [(.int false .i64 (0)), (.int false .i64 (0))])) := known none_known (by kernel_rfl) (by kernel_rfl) (by kernel_rfl)
/-- monocle/fix.ScaleUp (222 steps) -/
theorem call25 : MemoOk Tryz.prog glob hG (172, [(.int false .i64 (0)), (.int false .i64 (10000000)), (.int false .i64 (1000000000))], (.tuple [(.int false .i64 (0)), (.int false .i64 (0))])) := known none_known (by kernel_rfl) (by kernel_rfl) (by kernel_rfl)
/-- monocle/fix.DivDown (253 steps) -/
theorem call26 : MemoOk Tryz.prog glob hG (160, [(.int false .i64 (0)), (.int false .i64 (-4294967296))], (.tuple [(.int false .i64 (0)), (.int false .i64 (0))])) := known none_known (by kernel_rfl) (by kernel_rfl) (by kernel_rfl)
/-- monocle/fix.DivUp (253 steps) -/
theorem call27 : MemoOk Tryz.prog glob hG (161, [(.int false .i64 (0)), (.int false .i64 (-4294967296))], (.tuple [(.int false .i64 (0)), (.int false .i64 (0))])) := known none_known (by kernel_rfl) (by kernel_rfl) (by kernel_rfl)
/-- monocle/fix.DivDown (253 steps) -/
theorem call28 : MemoOk Tryz.prog glob hG (160, [(.int false .i64 (0)), (.int false .i64 (-8589934592))], (.tuple [(.int false .i64 (0)), (.int false .i64 (0))])) := known none_known (by kernel_rfl) (by kernel_rfl) (by kernel_rfl)
/-- monocle/fix.DivUp (253 steps) -/
theorem call29 : MemoOk Tryz.prog glob hG (161, [(.int false .i64 (0)), (.int false .i64 (-8589934592))], (.tuple [(.int false .i64 (0)), (.int false .i64 (0))])) := known none_known (by kernel_rfl) (by kernel_rfl) (by kernel_rfl)
/-- monocle/fix.MulDown (251 steps) -/
theorem call30 : MemoOk Tryz.prog glob hG (162, [(.int false .i64 (0)), (.int false .i64 (-4294967296))], (.tuple [(.int false .i64 (0)), (.int false .i64 (0))])) := known none_known (by kernel_rfl) (by kernel_rfl) (by kernel_rfl)
/-- monocle/fix.MulUp (251 steps) -/
theorem call31 : MemoOk Tryz.prog glob hG (163, [(.int false .i64 (0)), (.int false .i64 (-4294967296))], (.tuple [(.int false .i64 (0)), (.int false .i64 (0))])) := known none_known (by kernel_rfl) (by kernel_rfl) (by kernel_rfl)
/-- monocle/fix.ScaleDown (351 steps) -/
theorem call32 : MemoOk Tryz.prog glob hG (171, [(.int false .i64 (15461882265600)), (.int false .i64 (10000000)), (.int false .i64 (1000000000))], (.tuple [(.int false .i64 (154618822656)), (.int false .i64 (0))])) := known none_known (by kernel_rfl) (by kernel_rfl) (by kernel_rfl)
/-- monocle/fix.ScaleUp (351 steps) -/
theorem call33 : MemoOk Tryz.prog glob hG (172, [(.int false .i64 (15461882265600)), (.int false .i64 (10000000)), (.int false .i64 (1000000000))], (.tuple [(.int false .i64 (154618822656)), (.int false .i64 (0))])) := known none_known (by kernel_rfl) (by kernel_rfl) (by kernel_rfl)
/-- monocle/fix.MulDown (247 steps) -/
theorem call34 : MemoOk Tryz.prog glob hG (162, [(.int false .i64 (0)), (.int false .i64 (257698037760))], (.tuple [(.int false .i64 (0)), (.int false .i64 (0))])) := known none_known (by kernel_rfl) (by kernel_rfl) (by kernel_rfl)
/-- monocle/fix.MulUp (247 steps) -/
theorem call35 : MemoOk Tryz.prog glob hG (163, [(.int false .i64 (0)), (.int false .i64 (257698037760))], (.tuple [(.int false .i64 (0)), (.int false .i64 (0))])) := known none_known (by kernel_rfl) (by kernel_rfl) (by kernel_rfl)
/-- monocle/fix.ScaleDown (222 steps) -/
theorem call36 : MemoOk Tryz.prog glob hG (171, [(.int false .i64 (154618822656)), (.int false .i64 (10000000)), (.int false .i64 (1000000000))], (.tuple [(.int false .i64 (1546188226)), (.int false .i64 (0))])) := known none_known (by kernel_rfl) (by kernel_rfl) (by kernel_rfl)
/-- monocle/fix.ScaleUp (225 steps) -/
theorem call37 : MemoOk Tryz.prog glob hG (172, [(.int false .i64 (154618822656)), (.int false .i64 (10000000)), (.int false .i64 (1000000000))], (.tuple [(.int false .i64 (1546188227)), (.int false .i64 (0))])) := known none_known (by kernel_rfl) (by kernel_rfl) (by kernel_rfl)
/-- monocle/fix.MulDown (247 steps) -/
theorem call38 : MemoOk Tryz.prog glob hG (162, [(.int false .i64 (1546188226)), (.int false .i64 (4294967296))], (.tuple [(.int false .i64 (1546188226)), (.int false .i64 (0))])) := known none_known (by kernel_rfl) (by kernel_rfl) (by kernel_rfl)
/-- monocle/fix.MulUp (247 steps) -/
theorem call39 : MemoOk Tryz.prog glob hG (163, [(.int false .i64 (1546188226)), (.int false .i64 (4294967296))], (.tuple [(.int false .i64 (1546188226)), (.int false .i64 (0))])) := known none_known (by kernel_rfl) (by kernel_rfl) (by kernel_rfl)
/-- monocle/fix.MulDown (247 steps) -/
theorem call40 : MemoOk Tryz.prog glob hG (162, [(.int false .i64 (1546188227)), (.int false .i64 (4294967296))], (.tuple [(.int false .i64 (1546188227)), (.int false .i64 (0))])) := known none_known (by kernel_rfl) (by kernel_rfl) (by kernel_rfl)
/-- monocle/fix.MulUp (247 steps) -/
theorem call41 : MemoOk Tryz.prog glob hG (163, [(.int false .i64 (1546188227)), (.int false .i64 (4294967296))], (.tuple [(.int false .i64 (1546188227)), (.int false .i64 (0))])) := known none_known (by kernel_rfl) (by kernel_rfl) (by kernel_rfl)
/-- monocle/fix.SqrtDown (4740 steps) -/
theorem call42 : MemoOk Tryz.prog glob hG (153, [(.int false .i64 (2748779069))], (.tuple [(.int false .i64 (3435973836)), (.int false .i64 (0))])) := known none_known (by kernel_rfl) (by kernel_rfl) (by kernel_rfl)
/-- monocle/fix.SqrtUp (4810 steps) -/
theorem call43 : MemoOk Tryz.prog glob hG (154, [(.int false .i64 (2748779070))], (.tuple [(.int false .i64 (3435973838)), (.int false .i64 (0))])) := known none_known (by kernel_rfl) (by kernel_rfl) (by kernel_rfl)
/-- monocle/fix.DivDown (370 steps) -/
theorem call44 : MemoOk Tryz.prog glob hG (160, [(.int false .i64 (154618822656)), (.int false .i64 (7730941132))], (.tuple [(.int false .i64 (85899345928)), (.int false .i64 (0))])) := known none_known (by kernel_rfl) (by kernel_rfl) (by kernel_rfl)
/-- monocle/fix.DivUp (373 steps) -/
theorem call45 : MemoOk Tryz.prog glob hG (161, [(.int false .i64 (154618822656)), (.int false .i64 (7730941132))], (.tuple [(.int false .i64 (85899345929)), (.int false .i64 (0))])) := known none_known (by kernel_rfl) (by kernel_rfl) (by kernel_rfl)
end Go.Proofs.YtdljkgcdgidldaaGreatDoor
