/- What is proved: HitKnown returns true (part 15 of 26). No conditions beyond those of the row. -/
import Derived.Test.YtdljkgcdgidldaaGreatDoorPL
set_option linter.unusedVariables false
set_option linter.unusedSimpArgs false
set_option linter.unusedSectionVars false
/- What is proved: calls of the law HitKnown, of which the answers are known (level 2). No conditions. -/
namespace Go.Proofs.YtdljkgcdgidldaaGreatDoor
open Go Go.Eng

/-- monocle/monocleref02.Scale (6975 steps) -/
theorem call463 : MemoOk Tryz.prog glob hG (61, [(.agg [(.int false .i64 (4294967296)), (.int false .i64 (4294967296))]), (.int false .i64 (60000)), (.int false .i64 (1000))], (.tuple [(.agg [(.int false .i64 (257698037760)), (.int false .i64 (257698037760))]), (.int false .i64 (0))])) := known table1_ok (by kernel_rfl) (by kernel_rfl) (by kernel_rfl)
/-- monocle/span.Add (114 steps) -/
theorem call464 : MemoOk Tryz.prog glob hG (85, [(.agg [(.int false .i64 (257698037760)), (.int false .i64 (257698037760))]), (.agg [(.int false .i64 (0)), (.int false .i64 (0))])], (.tuple [(.agg [(.int false .i64 (257698037760)), (.int false .i64 (257698037760))]), (.int false .i64 (0))])) := known table1_ok (by kernel_rfl) (by kernel_rfl) (by kernel_rfl)
/-- monocle/span.Sqr (1178 steps) -/
theorem call465 : MemoOk Tryz.prog glob hG (151, [(.agg [(.int false .i64 (257698037760)), (.int false .i64 (257698037760))])], (.tuple [(.agg [(.int false .i64 (15461882265600)), (.int false .i64 (15461882265600))]), (.int false .i64 (0))])) := known table1_ok (by kernel_rfl) (by kernel_rfl) (by kernel_rfl)
/-- monocle/span.Add (114 steps) -/
theorem call466 : MemoOk Tryz.prog glob hG (85, [(.agg [(.int false .i64 (15461882265600)), (.int false .i64 (15461882265600))]), (.agg [(.int false .i64 (0)), (.int false .i64 (0))])], (.tuple [(.agg [(.int false .i64 (15461882265600)), (.int false .i64 (15461882265600))]), (.int false .i64 (0))])) := known table1_ok (by kernel_rfl) (by kernel_rfl) (by kernel_rfl)
/-- monocle/span.Scale (62 steps) -/
theorem call467 : MemoOk Tryz.prog glob hG (150, [(.agg [(.int false .i64 (15461882265600)), (.int false .i64 (15461882265600))]), (.int false .i64 (10000000)), (.int false .i64 (1000000000))], (.tuple [(.agg [(.int false .i64 (154618822656)), (.int false .i64 (154618822656))]), (.int false .i64 (0))])) := known table1_ok (by kernel_rfl) (by kernel_rfl) (by kernel_rfl)
/-- monocle/span.Mul (435 steps) -/
theorem call468 : MemoOk Tryz.prog glob hG (128, [(.agg [(.int false .i64 (0)), (.int false .i64 (0))]), (.agg [(.int false .i64 (257698037760)), (.int false .i64 (257698037760))])], (.tuple [(.agg [(.int false .i64 (0)), (.int false .i64 (0))]), (.int false .i64 (0))])) := known table1_ok (by kernel_rfl) (by kernel_rfl) (by kernel_rfl)
/-- monocle/span.Scale (62 steps) -/
theorem call469 : MemoOk Tryz.prog glob hG (150, [(.agg [(.int false .i64 (154618822656)), (.int false .i64 (154618822656))]), (.int false .i64 (10000000)), (.int false .i64 (1000000000))], (.tuple [(.agg [(.int false .i64 (1546188226)), (.int false .i64 (1546188227))]), (.int false .i64 (0))])) := known table1_ok (by kernel_rfl) (by kernel_rfl) (by kernel_rfl)
/-- monocle/span.Mul (438 steps) -/
theorem call470 : MemoOk Tryz.prog glob hG (128, [(.agg [(.int false .i64 (1546188226)), (.int false .i64 (1546188227))]), (.agg [(.int false .i64 (4294967296)), (.int false .i64 (4294967296))])], (.tuple [(.agg [(.int false .i64 (1546188226)), (.int false .i64 (1546188227))]), (.int false .i64 (0))])) := known table1_ok (by kernel_rfl) (by kernel_rfl) (by kernel_rfl)
/-- monocle/span.Sub (114 steps) -/
theorem call471 : MemoOk Tryz.prog glob hG (152, [(.agg [(.int false .i64 (4294967296)), (.int false .i64 (4294967296))]), (.agg [(.int false .i64 (1546188226)), (.int false .i64 (1546188227))])], (.tuple [(.agg [(.int false .i64 (2748779069)), (.int false .i64 (2748779070))]), (.int false .i64 (0))])) := known table1_ok (by kernel_rfl) (by kernel_rfl) (by kernel_rfl)
/-- monocle/span.Sqrt (69 steps) -/
theorem call472 : MemoOk Tryz.prog glob hG (117, [(.agg [(.int false .i64 (2748779069)), (.int false .i64 (2748779070))])], (.tuple [(.agg [(.int false .i64 (3435973836)), (.int false .i64 (3435973838))]), (.int false .i64 (0))])) := known table1_ok (by kernel_rfl) (by kernel_rfl) (by kernel_rfl)
/-- monocle/span.Add (114 steps) -/
theorem call473 : MemoOk Tryz.prog glob hG (85, [(.agg [(.int false .i64 (4294967296)), (.int false .i64 (4294967296))]), (.agg [(.int false .i64 (3435973836)), (.int false .i64 (3435973838))])], (.tuple [(.agg [(.int false .i64 (7730941132)), (.int false .i64 (7730941134))]), (.int false .i64 (0))])) := known table1_ok (by kernel_rfl) (by kernel_rfl) (by kernel_rfl)
/-- monocle/span.Div (446 steps) -/
theorem call474 : MemoOk Tryz.prog glob hG (127, [(.agg [(.int false .i64 (154618822656)), (.int false .i64 (154618822656))]), (.agg [(.int false .i64 (7730941132)), (.int false .i64 (7730941134))])], (.tuple [(.agg [(.int false .i64 (85899345906)), (.int false .i64 (85899345929))]), (.int false .i64 (0))])) := known table1_ok (by kernel_rfl) (by kernel_rfl) (by kernel_rfl)
/-- monocle/span.Mul (438 steps) -/
theorem call475 : MemoOk Tryz.prog glob hG (128, [(.agg [(.int false .i64 (85899345906)), (.int false .i64 (85899345929))]), (.agg [(.int false .i64 (4294967296)), (.int false .i64 (4294967296))])], (.tuple [(.agg [(.int false .i64 (85899345906)), (.int false .i64 (85899345929))]), (.int false .i64 (0))])) := known table1_ok (by kernel_rfl) (by kernel_rfl) (by kernel_rfl)
/-- monocle/span.Scale (62 steps) -/
theorem call476 : MemoOk Tryz.prog glob hG (150, [(.agg [(.int false .i64 (85899345906)), (.int false .i64 (85899345929))]), (.int false .i64 (1000000)), (.int false .i64 (1000000))], (.tuple [(.agg [(.int false .i64 (85899345906)), (.int false .i64 (85899345929))]), (.int false .i64 (0))])) := known table1_ok (by kernel_rfl) (by kernel_rfl) (by kernel_rfl)
/-- monocle/span.Scale (62 steps) -/
theorem call477 : MemoOk Tryz.prog glob hG (150, [(.agg [(.int false .i64 (85899345906)), (.int false .i64 (85899345929))]), (.int false .i64 (10000000)), (.int false .i64 (1000000000))], (.tuple [(.agg [(.int false .i64 (858993459)), (.int false .i64 (858993460))]), (.int false .i64 (0))])) := known table1_ok (by kernel_rfl) (by kernel_rfl) (by kernel_rfl)
/-- monocle/span.Sub (114 steps) -/
theorem call478 : MemoOk Tryz.prog glob hG (152, [(.agg [(.int false .i64 (4294967296)), (.int false .i64 (4294967296))]), (.agg [(.int false .i64 (858993459)), (.int false .i64 (858993460))])], (.tuple [(.agg [(.int false .i64 (3435973836)), (.int false .i64 (3435973837))]), (.int false .i64 (0))])) := known table1_ok (by kernel_rfl) (by kernel_rfl) (by kernel_rfl)
/-- monocle/span.Mul (435 steps) -/
theorem call479 : MemoOk Tryz.prog glob hG (128, [(.agg [(.int false .i64 (85899345906)), (.int false .i64 (85899345929))]), (.agg [(.int false .i64 (0)), (.int false .i64 (0))])], (.tuple [(.agg [(.int false .i64 (0)), (.int false .i64 (0))]), (.int false .i64 (0))])) := known table1_ok (by kernel_rfl) (by kernel_rfl) (by kernel_rfl)
/-- monocle/span.Add (114 steps) -/
theorem call480 : MemoOk Tryz.prog glob hG (85, [(.agg [(.int false .i64 (0)), (.int false .i64 (0))]), (.agg [(.int false .i64 (85899345906)), (.int false .i64 (85899345929))])], (.tuple [(.agg [(.int false .i64 (85899345906)), (.int false .i64 (85899345929))]), (.int false .i64 (0))])) := known table1_ok (by kernel_rfl) (by kernel_rfl) (by kernel_rfl)
/-- monocle/monocleref02.Scale (6975 steps) -/
theorem call481 : MemoOk Tryz.prog glob hG (61, [(.agg [(.int false .i64 (4294967296)), (.int false .i64 (4294967296))]), (.int false .i64 (101000)), (.int false .i64 (1000))], (.tuple [(.agg [(.int false .i64 (433791696896)), (.int false .i64 (433791696896))]), (.int false .i64 (0))])) := known table1_ok (by kernel_rfl) (by kernel_rfl) (by kernel_rfl)
/-- monocle/span.Add (114 steps) -/
theorem call482 : MemoOk Tryz.prog glob hG (85, [(.agg [(.int false .i64 (433791696896)), (.int false .i64 (433791696896))]), (.agg [(.int false .i64 (0)), (.int false .i64 (0))])], (.tuple [(.agg [(.int false .i64 (433791696896)), (.int false .i64 (433791696896))]), (.int false .i64 (0))])) := known table1_ok (by kernel_rfl) (by kernel_rfl) (by kernel_rfl)
/-- monocle/span.Sqr (1178 steps) -/
theorem call483 : MemoOk Tryz.prog glob hG (151, [(.agg [(.int false .i64 (433791696896)), (.int false .i64 (433791696896))])], (.tuple [(.agg [(.int false .i64 (43812961386496)), (.int false .i64 (43812961386496))]), (.int false .i64 (0))])) := known table1_ok (by kernel_rfl) (by kernel_rfl) (by kernel_rfl)
/-- monocle/span.Add (114 steps) -/
theorem call484 : MemoOk Tryz.prog glob hG (85, [(.agg [(.int false .i64 (43812961386496)), (.int false .i64 (43812961386496))]), (.agg [(.int false .i64 (0)), (.int false .i64 (0))])], (.tuple [(.agg [(.int false .i64 (43812961386496)), (.int false .i64 (43812961386496))]), (.int false .i64 (0))])) := known table1_ok (by kernel_rfl) (by kernel_rfl) (by kernel_rfl)
/-- monocle/span.Scale (62 steps) -/
theorem call485 : MemoOk Tryz.prog glob hG (150, [(.agg [(.int false .i64 (43812961386496)), (.int false .i64 (43812961386496))]), (.int false .i64 (10000000)), (.int false .i64 (1000000000))], (.tuple [(.agg [(.int false .i64 (438129613864)), (.int false .i64 (438129613865))]), (.int false .i64 (0))])) := known table1_ok (by kernel_rfl) (by kernel_rfl) (by kernel_rfl)
/-- monocle/span.Mul (435 steps) -/
theorem call486 : MemoOk Tryz.prog glob hG (128, [(.agg [(.int false .i64 (0)), (.int false .i64 (0))]), (.agg [(.int false .i64 (433791696896)), (.int false .i64 (433791696896))])], (.tuple [(.agg [(.int false .i64 (0)), (.int false .i64 (0))]), (.int false .i64 (0))])) := known table1_ok (by kernel_rfl) (by kernel_rfl) (by kernel_rfl)
/-- monocle/span.Scale (62 steps) -/
theorem call487 : MemoOk Tryz.prog glob hG (150, [(.agg [(.int false .i64 (4294967296)), (.int false .i64 (4294967296))]), (.int false .i64 (0)), (.int false .i64 (1000000))], (.tuple [(.agg [(.int false .i64 (0)), (.int false .i64 (0))]), (.int false .i64 (0))])) := known table1_ok (by kernel_rfl) (by kernel_rfl) (by kernel_rfl)
/-- monocle/span.Scale (62 steps) -/
theorem call488 : MemoOk Tryz.prog glob hG (150, [(.agg [(.int false .i64 (438129613864)), (.int false .i64 (438129613865))]), (.int false .i64 (10000000)), (.int false .i64 (1000000000))], (.tuple [(.agg [(.int false .i64 (4381296138)), (.int false .i64 (4381296139))]), (.int false .i64 (0))])) := known table1_ok (by kernel_rfl) (by kernel_rfl) (by kernel_rfl)
/-- monocle/span.Mul (435 steps) -/
theorem call489 : MemoOk Tryz.prog glob hG (128, [(.agg [(.int false .i64 (4381296138)), (.int false .i64 (4381296139))]), (.agg [(.int false .i64 (0)), (.int false .i64 (0))])], (.tuple [(.agg [(.int false .i64 (0)), (.int false .i64 (0))]), (.int false .i64 (0))])) := known table1_ok (by kernel_rfl) (by kernel_rfl) (by kernel_rfl)
/-- monocle/span.Div (446 steps) -/
theorem call490 : MemoOk Tryz.prog glob hG (127, [(.agg [(.int false .i64 (438129613864)), (.int false .i64 (438129613865))]), (.agg [(.int false .i64 (8589934592)), (.int false .i64 (8589934592))])], (.tuple [(.agg [(.int false .i64 (219064806932)), (.int false .i64 (219064806933))]), (.int false .i64 (0))])) := known table1_ok (by kernel_rfl) (by kernel_rfl) (by kernel_rfl)
/-- monocle/span.Mul (438 steps) -/
theorem call491 : MemoOk Tryz.prog glob hG (128, [(.agg [(.int false .i64 (219064806932)), (.int false .i64 (219064806933))]), (.agg [(.int false .i64 (4294967296)), (.int false .i64 (4294967296))])], (.tuple [(.agg [(.int false .i64 (219064806932)), (.int false .i64 (219064806933))]), (.int false .i64 (0))])) := known table1_ok (by kernel_rfl) (by kernel_rfl) (by kernel_rfl)
/-- monocle/span.Scale (62 steps) -/
theorem call492 : MemoOk Tryz.prog glob hG (150, [(.agg [(.int false .i64 (219064806932)), (.int false .i64 (219064806933))]), (.int false .i64 (0)), (.int false .i64 (1000000))], (.tuple [(.agg [(.int false .i64 (0)), (.int false .i64 (0))]), (.int false .i64 (0))])) := known table1_ok (by kernel_rfl) (by kernel_rfl) (by kernel_rfl)
/-- monocle/span.Mul (435 steps) -/
theorem call493 : MemoOk Tryz.prog glob hG (128, [(.agg [(.int false .i64 (219064806932)), (.int false .i64 (219064806933))]), (.agg [(.int false .i64 (0)), (.int false .i64 (0))])], (.tuple [(.agg [(.int false .i64 (0)), (.int false .i64 (0))]), (.int false .i64 (0))])) := known table1_ok (by kernel_rfl) (by kernel_rfl) (by kernel_rfl)
/-- monocle/span.Add (114 steps) -/
theorem call494 : MemoOk Tryz.prog glob hG (85, [(.agg [(.int false .i64 (0)), (.int false .i64 (0))]), (.agg [(.int false .i64 (219064806932)), (.int false .i64 (219064806933))])], (.tuple [(.agg [(.int false .i64 (219064806932)), (.int false .i64 (219064806933))]), (.int false .i64 (0))])) := known table1_ok (by kernel_rfl) (by kernel_rfl) (by kernel_rfl)
/-- monocle/monocleref02.Scale (6975 steps) -/
theorem call495 : MemoOk Tryz.prog glob hG (61, [(.agg [(.int false .i64 (4294967296)), (.int false .i64 (4294967296))]), (.int false .i64 (20000)), (.int false .i64 (1000))], (.tuple [(.agg [(.int false .i64 (85899345920)), (.int false .i64 (85899345920))]), (.int false .i64 (0))])) := known table1_ok (by kernel_rfl) (by kernel_rfl) (by kernel_rfl)
end Go.Proofs.YtdljkgcdgidldaaGreatDoor
