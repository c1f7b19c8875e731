/- What is proved: HitKnown returns true (part 7 of 26). No conditions beyond those of the row. -/
import Derived.Test.YtdljkgcdgidldaaGreatDoorPE
set_option linter.unusedVariables false
set_option linter.unusedSimpArgs false
set_option linter.unusedSectionVars false
/- What is proved: calls of the law HitKnown, of which the answers are known (level 1). No conditions. -/
namespace Go.Proofs.YtdljkgcdgidldaaGreatDoor
open Go Go.Eng

/-- monocle/fix.DivDown (370 steps) -/
theorem call46 : MemoOk Tryz.prog glob hG (160, [(.int false .i64 (154618822656)), (.int false .i64 (7730941134))], (.tuple [(.int false .i64 (85899345906)), (.int false .i64 (0))])) := known none_known (by kernel_rfl) (by kernel_rfl) (by kernel_rfl)
/-- monocle/fix.DivUp (373 steps) -/
theorem call47 : MemoOk Tryz.prog glob hG (161, [(.int false .i64 (154618822656)), (.int false .i64 (7730941134))], (.tuple [(.int false .i64 (85899345907)), (.int false .i64 (0))])) := known none_known (by kernel_rfl) (by kernel_rfl) (by kernel_rfl)
/-- monocle/fix.MulDown (368 steps) -/
theorem call48 : MemoOk Tryz.prog glob hG (162, [(.int false .i64 (85899345906)), (.int false .i64 (4294967296))], (.tuple [(.int false .i64 (85899345906)), (.int false .i64 (0))])) := known none_known (by kernel_rfl) (by kernel_rfl) (by kernel_rfl)
/-- monocle/fix.MulUp (368 steps) -/
theorem call49 : MemoOk Tryz.prog glob hG (163, [(.int false .i64 (85899345906)), (.int false .i64 (4294967296))], (.tuple [(.int false .i64 (85899345906)), (.int false .i64 (0))])) := known none_known (by kernel_rfl) (by kernel_rfl) (by kernel_rfl)
/-- monocle/fix.MulDown (368 steps) -/
theorem call50 : MemoOk Tryz.prog glob hG (162, [(.int false .i64 (85899345929)), (.int false .i64 (4294967296))], (.tuple [(.int false .i64 (85899345929)), (.int false .i64 (0))])) := known none_known (by kernel_rfl) (by kernel_rfl) (by kernel_rfl)
/-- monocle/fix.MulUp (368 steps) -/
theorem call51 : MemoOk Tryz.prog glob hG (163, [(.int false .i64 (85899345929)), (.int false .i64 (4294967296))], (.tuple [(.int false .i64 (85899345929)), (.int false .i64 (0))])) := known none_known (by kernel_rfl) (by kernel_rfl) (by kernel_rfl)
/-- monocle/fix.ScaleDown (222 steps) -/
theorem call52 : MemoOk Tryz.prog glob hG (171, [(.int false .i64 (85899345906)), (.int false .i64 (1000000)), (.int false .i64 (1000000))], (.tuple [(.int false .i64 (85899345906)), (.int false .i64 (0))])) := known none_known (by kernel_rfl) (by kernel_rfl) (by kernel_rfl)
/-- monocle/fix.ScaleUp (222 steps) -/
theorem call53 : MemoOk Tryz.prog glob hG (172, [(.int false .i64 (85899345929)), (.int false .i64 (1000000)), (.int false .i64 (1000000))], (.tuple [(.int false .i64 (85899345929)), (.int false .i64 (0))])) := known none_known (by kernel_rfl) (by kernel_rfl) (by kernel_rfl)
/-- monocle/fix.ScaleDown (222 steps) -/
theorem call54 : MemoOk Tryz.prog glob hG (171, [(.int false .i64 (85899345906)), (.int false .i64 (10000000)), (.int false .i64 (1000000000))], (.tuple [(.int false .i64 (858993459)), (.int false .i64 (0))])) := known none_known (by kernel_rfl) (by kernel_rfl) (by kernel_rfl)
/-- monocle/fix.ScaleUp (225 steps) -/
theorem call55 : MemoOk Tryz.prog glob hG (172, [(.int false .i64 (85899345929)), (.int false .i64 (10000000)), (.int false .i64 (1000000000))], (.tuple [(.int false .i64 (858993460)), (.int false .i64 (0))])) := known none_known (by kernel_rfl) (by kernel_rfl) (by kernel_rfl)
/-- monocle/fix.MulDown (247 steps) -/
theorem call56 : MemoOk Tryz.prog glob hG (162, [(.int false .i64 (85899345906)), (.int false .i64 (0))], (.tuple [(.int false .i64 (0)), (.int false .i64 (0))])) := known none_known (by kernel_rfl) (by kernel_rfl) (by kernel_rfl)
/-- monocle/fix.MulUp (247 steps) -/
theorem call57 : MemoOk Tryz.prog glob hG (163, [(.int false .i64 (85899345906)), (.int false .i64 (0))], (.tuple [(.int false .i64 (0)), (.int false .i64 (0))])) := known none_known (by kernel_rfl) (by kernel_rfl) (by kernel_rfl)
/-- monocle/fix.MulDown (247 steps) -/
theorem call58 : MemoOk Tryz.prog glob hG (162, [(.int false .i64 (85899345929)), (.int false .i64 (0))], (.tuple [(.int false .i64 (0)), (.int false .i64 (0))])) := known none_known (by kernel_rfl) (by kernel_rfl) (by kernel_rfl)
/-- monocle/fix.MulUp (247 steps) -/
theorem call59 : MemoOk Tryz.prog glob hG (163, [(.int false .i64 (85899345929)), (.int false .i64 (0))], (.tuple [(.int false .i64 (0)), (.int false .i64 (0))])) := known none_known (by kernel_rfl) (by kernel_rfl) (by kernel_rfl)
/-- monocle/fix.ScaleDown (351 steps) -/
theorem call60 : MemoOk Tryz.prog glob hG (171, [(.int false .i64 (43812961386496)), (.int false .i64 (10000000)), (.int false .i64 (1000000000))], (.tuple [(.int false .i64 (438129613864)), (.int false .i64 (0))])) := known none_known (by kernel_rfl) (by kernel_rfl) (by kernel_rfl)
/-- monocle/fix.ScaleUp (354 steps) -/
theorem call61 : MemoOk Tryz.prog glob hG (172, [(.int false .i64 (43812961386496)), (.int false .i64 (10000000)), (.int false .i64 (1000000000))], (.tuple [(.int false .i64 (438129613865)), (.int false .i64 (0))])) := known none_known (by kernel_rfl) (by kernel_rfl) (by kernel_rfl)
/-- monocle/fix.MulDown (247 steps) -/
theorem call62 : MemoOk Tryz.prog glob hG (162, [(.int false .i64 (0)), (.int false .i64 (433791696896))], (.tuple [(.int false .i64 (0)), (.int false .i64 (0))])) := known none_known (by kernel_rfl) (by kernel_rfl) (by kernel_rfl)
/-- monocle/fix.MulUp (247 steps) -/
theorem call63 : MemoOk Tryz.prog glob hG (163, [(.int false .i64 (0)), (.int false .i64 (433791696896))], (.tuple [(.int false .i64 (0)), (.int false .i64 (0))])) := known none_known (by kernel_rfl) (by kernel_rfl) (by kernel_rfl)
/-- monocle/fix.ScaleDown (222 steps) -/
theorem call64 : MemoOk Tryz.prog glob hG (171, [(.int false .i64 (4294967296)), (.int false .i64 (0)), (.int false .i64 (1000000))], (.tuple [(.int false .i64 (0)), (.int false .i64 (0))])) := known none_known (by kernel_rfl) (by kernel_rfl) (by kernel_rfl)
/-- monocle/fix.ScaleUp (222 steps) -/
theorem call65 : MemoOk Tryz.prog glob hG (172, [(.int false .i64 (4294967296)), (.int false .i64 (0)), (.int false .i64 (1000000))], (.tuple [(.int false .i64 (0)), (.int false .i64 (0))])) := known none_known (by kernel_rfl) (by kernel_rfl) (by kernel_rfl)
/-- monocle/fix.ScaleDown (222 steps) -/
theorem call66 : MemoOk Tryz.prog glob hG (171, [(.int false .i64 (438129613864)), (.int false .i64 (10000000)), (.int false .i64 (1000000000))], (.tuple [(.int false .i64 (4381296138)), (.int false .i64 (0))])) := known none_known (by kernel_rfl) (by kernel_rfl) (by kernel_rfl)
/-- monocle/fix.ScaleUp (225 steps) -/
theorem call67 : MemoOk Tryz.prog glob hG (172, [(.int false .i64 (438129613865)), (.int false .i64 (10000000)), (.int false .i64 (1000000000))], (.tuple [(.int false .i64 (4381296139)), (.int false .i64 (0))])) := known none_known (by kernel_rfl) (by kernel_rfl) (by kernel_rfl)
/-- monocle/fix.MulDown (247 steps) -/
theorem call68 : MemoOk Tryz.prog glob hG (162, [(.int false .i64 (4381296138)), (.int false .i64 (0))], (.tuple [(.int false .i64 (0)), (.int false .i64 (0))])) := known none_known (by kernel_rfl) (by kernel_rfl) (by kernel_rfl)
/-- monocle/fix.MulUp (247 steps) -/
theorem call69 : MemoOk Tryz.prog glob hG (163, [(.int false .i64 (4381296138)), (.int false .i64 (0))], (.tuple [(.int false .i64 (0)), (.int false .i64 (0))])) := known none_known (by kernel_rfl) (by kernel_rfl) (by kernel_rfl)
/-- monocle/fix.MulDown (247 steps) -/
theorem call70 : MemoOk Tryz.prog glob hG (162, [(.int false .i64 (4381296139)), (.int false .i64 (0))], (.tuple [(.int false .i64 (0)), (.int false .i64 (0))])) := known none_known (by kernel_rfl) (by kernel_rfl) (by kernel_rfl)
/-- monocle/fix.MulUp (247 steps) -/
theorem call71 : MemoOk Tryz.prog glob hG (163, [(.int false .i64 (4381296139)), (.int false .i64 (0))], (.tuple [(.int false .i64 (0)), (.int false .i64 (0))])) := known none_known (by kernel_rfl) (by kernel_rfl) (by kernel_rfl)
/-- monocle/fix.DivDown (370 steps) -/
theorem call72 : MemoOk Tryz.prog glob hG (160, [(.int false .i64 (438129613864)), (.int false .i64 (8589934592))], (.tuple [(.int false .i64 (219064806932)), (.int false .i64 (0))])) := known none_known (by kernel_rfl) (by kernel_rfl) (by kernel_rfl)
/-- monocle/fix.DivUp (370 steps) -/
theorem call73 : MemoOk Tryz.prog glob hG (161, [(.int false .i64 (438129613864)), (.int false .i64 (8589934592))], (.tuple [(.int false .i64 (219064806932)), (.int false .i64 (0))])) := known none_known (by kernel_rfl) (by kernel_rfl) (by kernel_rfl)
/-- monocle/fix.DivDown (370 steps) -/
theorem call74 : MemoOk Tryz.prog glob hG (160, [(.int false .i64 (438129613865)), (.int false .i64 (8589934592))], (.tuple [(.int false .i64 (219064806932)), (.int false .i64 (0))])) := known none_known (by kernel_rfl) (by kernel_rfl) (by kernel_rfl)
/-- monocle/fix.DivUp (373 steps) -/
theorem call75 : MemoOk Tryz.prog glob hG (161, [(.int false .i64 (438129613865)), (.int false .i64 (8589934592))], (.tuple [(.int false .i64 (219064806933)), (.int false .i64 (0))])) := known none_known (by kernel_rfl) (by kernel_rfl) (by kernel_rfl)
/-- monocle/fix.MulDown (368 steps) -/
theorem call76 : MemoOk Tryz.prog glob hG (162, [(.int false .i64 (219064806932)), (.int false .i64 (4294967296))], (.tuple [(.int false .i64 (219064806932)), (.int false .i64 (0))])) := known none_known (by kernel_rfl) (by kernel_rfl) (by kernel_rfl)
/-- monocle/fix.MulUp (368 steps) -/
theorem call77 : MemoOk Tryz.prog glob hG (163, [(.int false .i64 (219064806932)), (.int false .i64 (4294967296))], (.tuple [(.int false .i64 (219064806932)), (.int false .i64 (0))])) := known none_known (by kernel_rfl) (by kernel_rfl) (by kernel_rfl)
/-- monocle/fix.MulDown (368 steps) -/
theorem call78 : MemoOk Tryz.prog glob hG (162, [(.int false .i64 (219064806933)), (.int false .i64 (4294967296))], (.tuple [(.int false .i64 (219064806933)), (.int false .i64 (0))])) := known none_known (by kernel_rfl) (by kernel_rfl) (by kernel_rfl)
/-- monocle/fix.MulUp (368 steps) -/
theorem call79 : MemoOk Tryz.prog glob hG (163, [(.int false .i64 (219064806933)), (.int false .i64 (4294967296))], (.tuple [(.int false .i64 (219064806933)), (.int false .i64 (0))])) := known none_known (by kernel_rfl) (by kernel_rfl) (by kernel_rfl)
/-- monocle/fix.ScaleDown (222 steps) -/
theorem call80 : MemoOk Tryz.prog glob hG (171, [(.int false .i64 (219064806932)), (.int false .i64 (0)), (.int false .i64 (1000000))], (.tuple [(.int false .i64 (0)), (.int false .i64 (0))])) := known none_known (by kernel_rfl) (by kernel_rfl) (by kernel_rfl)
/-- monocle/fix.ScaleUp (222 steps) -/
theorem call81 : MemoOk Tryz.prog glob hG (172, [(.int false .i64 (219064806933)), (.int false .i64 (0)), (.int false .i64 (1000000))], (.tuple [(.int false .i64 (0)), (.int false .i64 (0))])) := known none_known (by kernel_rfl) (by kernel_rfl) (by kernel_rfl)
/-- monocle/fix.MulDown (247 steps) -/
theorem call82 : MemoOk Tryz.prog glob hG (162, [(.int false .i64 (219064806932)), (.int false .i64 (0))], (.tuple [(.int false .i64 (0)), (.int false .i64 (0))])) := known none_known (by kernel_rfl) (by kernel_rfl) (by kernel_rfl)
/-- monocle/fix.MulUp (247 steps) -/
theorem call83 : MemoOk Tryz.prog glob hG (163, [(.int false .i64 (219064806932)), (.int false .i64 (0))], (.tuple [(.int false .i64 (0)), (.int false .i64 (0))])) := known none_known (by kernel_rfl) (by kernel_rfl) (by kernel_rfl)
/-- monocle/fix.MulDown (247 steps) -/
theorem call84 : MemoOk Tryz.prog glob hG (162, [(.int false .i64 (219064806933)), (.int false .i64 (0))], (.tuple [(.int false .i64 (0)), (.int false .i64 (0))])) := known none_known (by kernel_rfl) (by kernel_rfl) (by kernel_rfl)
/-- monocle/fix.MulUp (247 steps) -/
theorem call85 : MemoOk Tryz.prog glob hG (163, [(.int false .i64 (219064806933)), (.int false .i64 (0))], (.tuple [(.int false .i64 (0)), (.int false .i64 (0))])) := known none_known (by kernel_rfl) (by kernel_rfl) (by kernel_rfl)
/-- monocle/fix.MulDown (368 steps) -/
theorem call86 : MemoOk Tryz.prog glob hG (162, [(.int false .i64 (4381296138)), (.int false .i64 (4294967296))], (.tuple [(.int false .i64 (4381296138)), (.int false .i64 (0))])) := known none_known (by kernel_rfl) (by kernel_rfl) (by kernel_rfl)
/-- monocle/fix.MulUp (368 steps) -/
theorem call87 : MemoOk Tryz.prog glob hG (163, [(.int false .i64 (4381296138)), (.int false .i64 (4294967296))], (.tuple [(.int false .i64 (4381296138)), (.int false .i64 (0))])) := known none_known (by kernel_rfl) (by kernel_rfl) (by kernel_rfl)
/-- monocle/fix.MulDown (368 steps) -/
theorem call88 : MemoOk Tryz.prog glob hG (162, [(.int false .i64 (4381296139)), (.int false .i64 (4294967296))], (.tuple [(.int false .i64 (4381296139)), (.int false .i64 (0))])) := known none_known (by kernel_rfl) (by kernel_rfl) (by kernel_rfl)
/-- monocle/fix.MulUp (368 steps) -/
theorem call89 : MemoOk Tryz.prog glob hG (163, [(.int false .i64 (4381296139)), (.int false .i64 (4294967296))], (.tuple [(.int false .i64 (4381296139)), (.int false .i64 (0))])) := known none_known (by kernel_rfl) (by kernel_rfl) (by kernel_rfl)
/-- monocle/fix.DivDown (370 steps) -/
theorem call90 : MemoOk Tryz.prog glob hG (160, [(.int false .i64 (4294967296)), (.int false .i64 (4294967296))], (.tuple [(.int false .i64 (4294967296)), (.int false .i64 (0))])) := known none_known (by kernel_rfl) (by kernel_rfl) (by kernel_rfl)
/-- monocle/fix.DivUp (370 steps) -/
theorem call91 : MemoOk Tryz.prog glob hG (161, [(.int false .i64 (4294967296)), (.int false .i64 (4294967296))], (.tuple [(.int false .i64 (4294967296)), (.int false .i64 (0))])) := known none_known (by kernel_rfl) (by kernel_rfl) (by kernel_rfl)
/-- monocle/fix.MulDown (247 steps) -/
theorem call92 : MemoOk Tryz.prog glob hG (162, [(.int false .i64 (4294967296)), (.int false .i64 (0))], (.tuple [(.int false .i64 (0)), (.int false .i64 (0))])) := known none_known (by kernel_rfl) (by kernel_rfl) (by kernel_rfl)
/-- monocle/fix.MulUp (247 steps) -/
theorem call93 : MemoOk Tryz.prog glob hG (163, [(.int false .i64 (4294967296)), (.int false .i64 (0))], (.tuple [(.int false .i64 (0)), (.int false .i64 (0))])) := known none_known (by kernel_rfl) (by kernel_rfl) (by kernel_rfl)
/-- monocle/fix.MulDown (368 steps) -/
theorem call94 : MemoOk Tryz.prog glob hG (162, [(.int false .i64 (4294967296)), (.int false .i64 (4294967296))], (.tuple [(.int false .i64 (4294967296)), (.int false .i64 (0))])) := known none_known (by kernel_rfl) (by kernel_rfl) (by kernel_rfl)
/-- monocle/fix.MulUp (368 steps) -/
theorem call95 : MemoOk Tryz.prog glob hG (163, [(.int false .i64 (4294967296)), (.int false .i64 (4294967296))], (.tuple [(.int false .i64 (4294967296)), (.int false .i64 (0))])) := known none_known (by kernel_rfl) (by kernel_rfl) (by kernel_rfl)
/-- monocle/fix.ScaleDown (222 steps) -/
theorem call96 : MemoOk Tryz.prog glob hG (171, [(.int false .i64 (4294967296)), (.int false .i64 (1000000000)), (.int false .i64 (1000000000))], (.tuple [(.int false .i64 (4294967296)), (.int false .i64 (0))])) := known none_known (by kernel_rfl) (by kernel_rfl) (by kernel_rfl)
/-- monocle/fix.ScaleUp (222 steps) -/
theorem call97 : MemoOk Tryz.prog glob hG (172, [(.int false .i64 (4294967296)), (.int false .i64 (1000000000)), (.int false .i64 (1000000000))], (.tuple [(.int false .i64 (4294967296)), (.int false .i64 (0))])) := known none_known (by kernel_rfl) (by kernel_rfl) (by kernel_rfl)
/-- monocle/fix.ScaleDown (222 steps) -/
theorem call98 : MemoOk Tryz.prog glob hG (171, [(.int false .i64 (0)), (.int false .i64 (1000000000)), (.int false .i64 (1000000000))], (.tuple [(.int false .i64 (0)), (.int false .i64 (0))])) := known none_known (by kernel_rfl) (by kernel_rfl) (by kernel_rfl)
/-- monocle/fix.ScaleUp (222 steps) -/
theorem call99 : MemoOk Tryz.prog glob hG (172, [(.int false .i64 (0)), (.int false .i64 (1000000000)), (.int false .i64 (1000000000))], (.tuple [(.int false .i64 (0)), (.int false .i64 (0))])) := known none_known (by kernel_rfl) (by kernel_rfl) (by kernel_rfl)
/-- monocle/fix.SqrtDown (4708 steps) -/
theorem call100 : MemoOk Tryz.prog glob hG (153, [(.int false .i64 (0))], (.tuple [(.int false .i64 (0)), (.int false .i64 (0))])) := known none_known (by kernel_rfl) (by kernel_rfl) (by kernel_rfl)
/-- monocle/fix.SqrtUp (4773 steps) -/
theorem call101 : MemoOk Tryz.prog glob hG (154, [(.int false .i64 (0))], (.tuple [(.int false .i64 (0)), (.int false .i64 (0))])) := known none_known (by kernel_rfl) (by kernel_rfl) (by kernel_rfl)
/-- monocle/fix.ScaleDown (222 steps) -/
theorem call102 : MemoOk Tryz.prog glob hG (171, [(.int false .i64 (4303561524)), (.int false .i64 (1000000000)), (.int false .i64 (1000000000))], (.tuple [(.int false .i64 (4303561524)), (.int false .i64 (0))])) := known none_known (by kernel_rfl) (by kernel_rfl) (by kernel_rfl)
/-- monocle/fix.ScaleUp (222 steps) -/
theorem call103 : MemoOk Tryz.prog glob hG (172, [(.int false .i64 (4303561527)), (.int false .i64 (1000000000)), (.int false .i64 (1000000000))], (.tuple [(.int false .i64 (4303561527)), (.int false .i64 (0))])) := known none_known (by kernel_rfl) (by kernel_rfl) (by kernel_rfl)
/-- monocle/fix.MulDown (247 steps) -/
theorem call104 : MemoOk Tryz.prog glob hG (162, [(.int false .i64 (0)), (.int false .i64 (4299262263))], (.tuple [(.int false .i64 (0)), (.int false .i64 (0))])) := known none_known (by kernel_rfl) (by kernel_rfl) (by kernel_rfl)
/-- monocle/fix.MulUp (247 steps) -/
theorem call105 : MemoOk Tryz.prog glob hG (163, [(.int false .i64 (0)), (.int false .i64 (4299262263))], (.tuple [(.int false .i64 (0)), (.int false .i64 (0))])) := known none_known (by kernel_rfl) (by kernel_rfl) (by kernel_rfl)
/-- monocle/fix.MulDown (247 steps) -/
theorem call106 : MemoOk Tryz.prog glob hG (162, [(.int false .i64 (0)), (.int false .i64 (4299262264))], (.tuple [(.int false .i64 (0)), (.int false .i64 (0))])) := known none_known (by kernel_rfl) (by kernel_rfl) (by kernel_rfl)
/-- monocle/fix.MulUp (247 steps) -/
theorem call107 : MemoOk Tryz.prog glob hG (163, [(.int false .i64 (0)), (.int false .i64 (4299262264))], (.tuple [(.int false .i64 (0)), (.int false .i64 (0))])) := known none_known (by kernel_rfl) (by kernel_rfl) (by kernel_rfl)
/-- monocle/fix.MulDown (368 steps) -/
theorem call108 : MemoOk Tryz.prog glob hG (162, [(.int false .i64 (4303561524)), (.int false .i64 (4294967296))], (.tuple [(.int false .i64 (4303561524)), (.int false .i64 (0))])) := known none_known (by kernel_rfl) (by kernel_rfl) (by kernel_rfl)
/-- monocle/fix.MulUp (368 steps) -/
theorem call109 : MemoOk Tryz.prog glob hG (163, [(.int false .i64 (4303561524)), (.int false .i64 (4294967296))], (.tuple [(.int false .i64 (4303561524)), (.int false .i64 (0))])) := known none_known (by kernel_rfl) (by kernel_rfl) (by kernel_rfl)
/-- monocle/fix.MulDown (368 steps) -/
theorem call110 : MemoOk Tryz.prog glob hG (162, [(.int false .i64 (4303561527)), (.int false .i64 (4294967296))], (.tuple [(.int false .i64 (4303561527)), (.int false .i64 (0))])) := known none_known (by kernel_rfl) (by kernel_rfl) (by kernel_rfl)
/-- monocle/fix.MulUp (368 steps) -/
theorem call111 : MemoOk Tryz.prog glob hG (163, [(.int false .i64 (4303561527)), (.int false .i64 (4294967296))], (.tuple [(.int false .i64 (4303561527)), (.int false .i64 (0))])) := known none_known (by kernel_rfl) (by kernel_rfl) (by kernel_rfl)
/-- monocle/fix.DivDown (256 steps) -/
theorem call112 : MemoOk Tryz.prog glob hG (160, [(.int false .i64 (-2147483648)), (.int false .i64 (429496729))], (.tuple [(.int false .i64 (-21474836511)), (.int false .i64 (0))])) := known none_known (by kernel_rfl) (by kernel_rfl) (by kernel_rfl)
/-- monocle/fix.DivUp (253 steps) -/
theorem call113 : MemoOk Tryz.prog glob hG (161, [(.int false .i64 (-2147483648)), (.int false .i64 (429496729))], (.tuple [(.int false .i64 (-21474836510)), (.int false .i64 (0))])) := known none_known (by kernel_rfl) (by kernel_rfl) (by kernel_rfl)
/-- monocle/fix.DivDown (256 steps) -/
theorem call114 : MemoOk Tryz.prog glob hG (160, [(.int false .i64 (-2147483648)), (.int false .i64 (429496730))], (.tuple [(.int false .i64 (-21474836461)), (.int false .i64 (0))])) := known none_known (by kernel_rfl) (by kernel_rfl) (by kernel_rfl)
/-- monocle/fix.DivUp (253 steps) -/
theorem call115 : MemoOk Tryz.prog glob hG (161, [(.int false .i64 (-2147483648)), (.int false .i64 (429496730))], (.tuple [(.int false .i64 (-21474836460)), (.int false .i64 (0))])) := known none_known (by kernel_rfl) (by kernel_rfl) (by kernel_rfl)
/-- monocle/fix.MulDown (372 steps) -/
theorem call116 : MemoOk Tryz.prog glob hG (162, [(.int false .i64 (-21474836511)), (.int false .i64 (4294967296))], (.tuple [(.int false .i64 (-21474836511)), (.int false .i64 (0))])) := known none_known (by kernel_rfl) (by kernel_rfl) (by kernel_rfl)
end Go.Proofs.YtdljkgcdgidldaaGreatDoor
