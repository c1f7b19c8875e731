/- What is proved: HitKnown returns true (part 22 of 26). No conditions beyond those of the row. -/
import Derived.Test.YtdljkgcdgidldaaGreatDoorPU
set_option linter.unusedVariables false
set_option linter.unusedSimpArgs false
set_option linter.unusedSectionVars false
/- What is proved: calls of the law HitKnown, of which the answers are known (level 3). No conditions. -/
namespace Go.Proofs.YtdljkgcdgidldaaGreatDoor
open Go Go.Eng

/-- monocle/monoclelaw25.mm (18 steps) -/
theorem call693 : MemoOk Tryz.prog glob hG (28, [(.int false .i64 (0))], (.agg [(.int false .i64 (0)), (.int false .i64 (0))])) := known table2_ok (by kernel_rfl) (by kernel_rfl) (by kernel_rfl)
/-- monocle/monoclelaw25.mm (18 steps) -/
theorem call694 : MemoOk Tryz.prog glob hG (28, [(.int false .i64 (1000))], (.agg [(.int false .i64 (4294967296)), (.int false .i64 (4294967296))])) := known table2_ok (by kernel_rfl) (by kernel_rfl) (by kernel_rfl)
/-- monocle/monoclelaw25.mm (18 steps) -/
theorem call695 : MemoOk Tryz.prog glob hG (28, [(.int false .i64 (2000))], (.agg [(.int false .i64 (8589934592)), (.int false .i64 (8589934592))])) := known table2_ok (by kernel_rfl) (by kernel_rfl) (by kernel_rfl)
/-- monocle/monoclelaw25.mm (18 steps) -/
theorem call696 : MemoOk Tryz.prog glob hG (28, [(.int false .i64 (-5000))], (.agg [(.int false .i64 (-21474836480)), (.int false .i64 (-21474836480))])) := known table2_ok (by kernel_rfl) (by kernel_rfl) (by kernel_rfl)
/-- monocle/surface.Check (1059 steps) -/
theorem call697 : MemoOk Tryz.prog glob hG (29, [(.agg [(.int false .i64 (1)), (.int false .i64 (0)), (.int false .i64 (0)), (.int false .i64 (0)), (.int false .i64 (0)), (.int false .i64 (0)), (.int false .i64 (0)), (.int false .i64 (0)), (.int false .i64 (0)), (.int false .i64 (0)), (.int false .i64 (0)), (.int false .i64 (0)), (.int false .i64 (0)), (.str false ⟨#[]⟩), (.int false .i64 (0)), (.int false .i64 (0)), (.int false .i64 (0)), (.int false .i64 (0)), (.int false .i64 (0)), (.int false .i64 (0)), (.int false .i64 (0)), .nilslice])], (.int false .i64 (0))) := known table2_ok (by kernel_rfl) (by kernel_rfl) (by kernel_rfl)
/-- monocle/ray.Check (383 steps) -/
theorem call698 : MemoOk Tryz.prog glob hG (30, [(.agg [(.int false .i64 (4294967296)), (.int false .i64 (4294967296)), (.int false .i64 (8589934592)), (.int false .i64 (8589934592)), (.int false .i64 (-21474836480)), (.int false .i64 (-21474836480)), (.int false .i64 (0)), (.int false .i64 (0)), (.int false .i64 (0)), (.int false .i64 (0)), (.int false .i64 (4294967296)), (.int false .i64 (4294967296))])], (.int false .i64 (0))) := known table2_ok (by kernel_rfl) (by kernel_rfl) (by kernel_rfl)
/-- monocle/hit.sqr (19 steps) -/
theorem call699 : MemoOk Tryz.prog glob hG (114, [(.agg [(.int false .i64 (4294967296)), (.int false .i64 (4294967296))])], (.agg [(.int false .i64 (4294967296)), (.int false .i64 (4294967296))])) := known table2_ok (by kernel_rfl) (by kernel_rfl) (by kernel_rfl)
/-- monocle/hit.sqr (19 steps) -/
theorem call700 : MemoOk Tryz.prog glob hG (114, [(.agg [(.int false .i64 (8589934592)), (.int false .i64 (8589934592))])], (.agg [(.int false .i64 (17179869184)), (.int false .i64 (17179869184))])) := known table2_ok (by kernel_rfl) (by kernel_rfl) (by kernel_rfl)
/-- monocle/hit.add (21 steps) -/
theorem call701 : MemoOk Tryz.prog glob hG (38, [(.agg [(.int false .i64 (4294967296)), (.int false .i64 (4294967296))]), (.agg [(.int false .i64 (17179869184)), (.int false .i64 (17179869184))])], (.agg [(.int false .i64 (21474836480)), (.int false .i64 (21474836480))])) := known table2_ok (by kernel_rfl) (by kernel_rfl) (by kernel_rfl)
/-- monocle/hit.scale (21 steps) -/
theorem call702 : MemoOk Tryz.prog glob hG (113, [(.agg [(.int false .i64 (21474836480)), (.int false .i64 (21474836480))]), (.int false .i64 (0)), (.int false .i64 (1000000000))], (.agg [(.int false .i64 (0)), (.int false .i64 (0))])) := known table2_ok (by kernel_rfl) (by kernel_rfl) (by kernel_rfl)
/-- monocle/hit.mul (21 steps) -/
theorem call703 : MemoOk Tryz.prog glob hG (83, [(.agg [(.int false .i64 (0)), (.int false .i64 (0))]), (.agg [(.int false .i64 (4294967296)), (.int false .i64 (4294967296))])], (.agg [(.int false .i64 (0)), (.int false .i64 (0))])) := known table2_ok (by kernel_rfl) (by kernel_rfl) (by kernel_rfl)
/-- monocle/hit.mul (21 steps) -/
theorem call704 : MemoOk Tryz.prog glob hG (83, [(.agg [(.int false .i64 (0)), (.int false .i64 (0))]), (.agg [(.int false .i64 (8589934592)), (.int false .i64 (8589934592))])], (.agg [(.int false .i64 (0)), (.int false .i64 (0))])) := known table2_ok (by kernel_rfl) (by kernel_rfl) (by kernel_rfl)
/-- monocle/hit.add (21 steps) -/
theorem call705 : MemoOk Tryz.prog glob hG (38, [(.agg [(.int false .i64 (0)), (.int false .i64 (0))]), (.agg [(.int false .i64 (0)), (.int false .i64 (0))])], (.agg [(.int false .i64 (0)), (.int false .i64 (0))])) := known table2_ok (by kernel_rfl) (by kernel_rfl) (by kernel_rfl)
/-- monocle/hit.scale (21 steps) -/
theorem call706 : MemoOk Tryz.prog glob hG (113, [(.agg [(.int false .i64 (0)), (.int false .i64 (0))]), (.int false .i64 (0)), (.int false .i64 (1000000000))], (.agg [(.int false .i64 (0)), (.int false .i64 (0))])) := known table2_ok (by kernel_rfl) (by kernel_rfl) (by kernel_rfl)
/-- monocle/hit.sub (21 steps) -/
theorem call707 : MemoOk Tryz.prog glob hG (115, [(.agg [(.int false .i64 (4294967296)), (.int false .i64 (4294967296))]), (.agg [(.int false .i64 (0)), (.int false .i64 (0))])], (.agg [(.int false .i64 (4294967296)), (.int false .i64 (4294967296))])) := known table2_ok (by kernel_rfl) (by kernel_rfl) (by kernel_rfl)
/-- monocle/hit.sqr (19 steps) -/
theorem call708 : MemoOk Tryz.prog glob hG (114, [(.agg [(.int false .i64 (0)), (.int false .i64 (0))])], (.agg [(.int false .i64 (0)), (.int false .i64 (0))])) := known table2_ok (by kernel_rfl) (by kernel_rfl) (by kernel_rfl)
/-- monocle/hit.scale (21 steps) -/
theorem call709 : MemoOk Tryz.prog glob hG (113, [(.agg [(.int false .i64 (4294967296)), (.int false .i64 (4294967296))]), (.int false .i64 (1000000)), (.int false .i64 (1000000))], (.agg [(.int false .i64 (4294967296)), (.int false .i64 (4294967296))])) := known table2_ok (by kernel_rfl) (by kernel_rfl) (by kernel_rfl)
/-- monocle/hit.add (21 steps) -/
theorem call710 : MemoOk Tryz.prog glob hG (38, [(.agg [(.int false .i64 (0)), (.int false .i64 (0))]), (.agg [(.int false .i64 (4294967296)), (.int false .i64 (4294967296))])], (.agg [(.int false .i64 (4294967296)), (.int false .i64 (4294967296))])) := known table2_ok (by kernel_rfl) (by kernel_rfl) (by kernel_rfl)
/-- monocle/hit.positive (11 steps) -/
theorem call711 : MemoOk Tryz.prog glob hG (116, [(.agg [(.int false .i64 (4294967296)), (.int false .i64 (4294967296))]), (.int false .i64 (0))], (.tuple [])) := known table2_ok (by kernel_rfl) (by kernel_rfl) (by kernel_rfl)
/-- monocle/hit.add (21 steps) -/
theorem call712 : MemoOk Tryz.prog glob hG (38, [(.agg [(.int false .i64 (4294967296)), (.int false .i64 (4294967296))]), (.agg [(.int false .i64 (4294967296)), (.int false .i64 (4294967296))])], (.agg [(.int false .i64 (8589934592)), (.int false .i64 (8589934592))])) := known table2_ok (by kernel_rfl) (by kernel_rfl) (by kernel_rfl)
/-- monocle/hit.div (21 steps) -/
theorem call713 : MemoOk Tryz.prog glob hG (119, [(.agg [(.int false .i64 (0)), (.int false .i64 (0))]), (.agg [(.int false .i64 (8589934592)), (.int false .i64 (8589934592))])], (.agg [(.int false .i64 (0)), (.int false .i64 (0))])) := known table2_ok (by kernel_rfl) (by kernel_rfl) (by kernel_rfl)
/-- monocle/hit.one (5 steps) -/
theorem call714 : MemoOk Tryz.prog glob hG (120, [], (.agg [(.int false .i64 (4294967296)), (.int false .i64 (4294967296))])) := known table2_ok (by kernel_rfl) (by kernel_rfl) (by kernel_rfl)
/-- monocle/hit.scale (21 steps) -/
theorem call715 : MemoOk Tryz.prog glob hG (113, [(.agg [(.int false .i64 (0)), (.int false .i64 (0))]), (.int false .i64 (1000000)), (.int false .i64 (1000000))], (.agg [(.int false .i64 (0)), (.int false .i64 (0))])) := known table2_ok (by kernel_rfl) (by kernel_rfl) (by kernel_rfl)
/-- monocle/hit.positive (11 steps) -/
theorem call716 : MemoOk Tryz.prog glob hG (116, [(.agg [(.int false .i64 (4294967296)), (.int false .i64 (4294967296))]), (.int false .i64 (1))], (.tuple [])) := known table2_ok (by kernel_rfl) (by kernel_rfl) (by kernel_rfl)
/-- monocle/hit.mul (21 steps) -/
theorem call717 : MemoOk Tryz.prog glob hG (83, [(.agg [(.int false .i64 (0)), (.int false .i64 (0))]), (.agg [(.int false .i64 (0)), (.int false .i64 (0))])], (.agg [(.int false .i64 (0)), (.int false .i64 (0))])) := known table2_ok (by kernel_rfl) (by kernel_rfl) (by kernel_rfl)
/-- monocle/hit.add (21 steps) -/
theorem call718 : MemoOk Tryz.prog glob hG (38, [(.agg [(.int false .i64 (4294967296)), (.int false .i64 (4294967296))]), (.agg [(.int false .i64 (0)), (.int false .i64 (0))])], (.agg [(.int false .i64 (4294967296)), (.int false .i64 (4294967296))])) := known table2_ok (by kernel_rfl) (by kernel_rfl) (by kernel_rfl)
/-- monocle/hit.add (21 steps) -/
theorem call719 : MemoOk Tryz.prog glob hG (38, [(.agg [(.int false .i64 (8589934592)), (.int false .i64 (8589934592))]), (.agg [(.int false .i64 (0)), (.int false .i64 (0))])], (.agg [(.int false .i64 (8589934592)), (.int false .i64 (8589934592))])) := known table2_ok (by kernel_rfl) (by kernel_rfl) (by kernel_rfl)
/-- monocle/hit.add (21 steps) -/
theorem call720 : MemoOk Tryz.prog glob hG (38, [(.agg [(.int false .i64 (21474836480)), (.int false .i64 (21474836480))]), (.agg [(.int false .i64 (0)), (.int false .i64 (0))])], (.agg [(.int false .i64 (21474836480)), (.int false .i64 (21474836480))])) := known table2_ok (by kernel_rfl) (by kernel_rfl) (by kernel_rfl)
/-- monocle/monoclelaw25.mm (18 steps) -/
theorem call721 : MemoOk Tryz.prog glob hG (28, [(.int false .i64 (5000))], (.agg [(.int false .i64 (21474836480)), (.int false .i64 (21474836480))])) := known table2_ok (by kernel_rfl) (by kernel_rfl) (by kernel_rfl)
/-- monocle/surface.Check (1059 steps) -/
theorem call722 : MemoOk Tryz.prog glob hG (29, [(.agg [(.int false .i64 (1)), (.int false .i64 (10000000)), (.int false .i64 (0)), (.int false .i64 (0)), (.int false .i64 (0)), (.int false .i64 (0)), (.int false .i64 (0)), (.int false .i64 (0)), (.int false .i64 (0)), (.int false .i64 (0)), (.int false .i64 (0)), (.int false .i64 (0)), (.int false .i64 (0)), (.str false ⟨#[]⟩), (.int false .i64 (0)), (.int false .i64 (0)), (.int false .i64 (0)), (.int false .i64 (0)), (.int false .i64 (0)), (.int false .i64 (0)), (.int false .i64 (0)), .nilslice])], (.int false .i64 (0))) := known table2_ok (by kernel_rfl) (by kernel_rfl) (by kernel_rfl)
/-- monocle/ray.Check (241 steps) -/
theorem call723 : MemoOk Tryz.prog glob hG (30, [(.agg [(.int false .i64 (0)), (.int false .i64 (0)), (.int false .i64 (0)), (.int false .i64 (0)), (.int false .i64 (0)), (.int false .i64 (0)), (.int false .i64 (0)), (.int false .i64 (0)), (.int false .i64 (0)), (.int false .i64 (0)), (.int false .i64 (4294967296)), (.int false .i64 (4294967296))])], (.int false .i64 (0))) := known table2_ok (by kernel_rfl) (by kernel_rfl) (by kernel_rfl)
/-- monocle/hit.scale (21 steps) -/
theorem call724 : MemoOk Tryz.prog glob hG (113, [(.agg [(.int false .i64 (0)), (.int false .i64 (0))]), (.int false .i64 (10000000)), (.int false .i64 (1000000000))], (.agg [(.int false .i64 (0)), (.int false .i64 (0))])) := known table2_ok (by kernel_rfl) (by kernel_rfl) (by kernel_rfl)
/-- monocle/monoclelaw25.mm (18 steps) -/
theorem call725 : MemoOk Tryz.prog glob hG (28, [(.int false .i64 (-1000))], (.agg [(.int false .i64 (-4294967296)), (.int false .i64 (-4294967296))])) := known table2_ok (by kernel_rfl) (by kernel_rfl) (by kernel_rfl)
/-- monocle/ray.Check (241 steps) -/
theorem call726 : MemoOk Tryz.prog glob hG (30, [(.agg [(.int false .i64 (0)), (.int false .i64 (0)), (.int false .i64 (0)), (.int false .i64 (0)), (.int false .i64 (0)), (.int false .i64 (0)), (.int false .i64 (0)), (.int false .i64 (0)), (.int false .i64 (0)), (.int false .i64 (0)), (.int false .i64 (-4294967296)), (.int false .i64 (-4294967296))])], (.int false .i64 (0))) := known table2_ok (by kernel_rfl) (by kernel_rfl) (by kernel_rfl)
/-- monocle/hit.sub (21 steps) -/
theorem call727 : MemoOk Tryz.prog glob hG (115, [(.agg [(.int false .i64 (-4294967296)), (.int false .i64 (-4294967296))]), (.agg [(.int false .i64 (0)), (.int false .i64 (0))])], (.agg [(.int false .i64 (-4294967296)), (.int false .i64 (-4294967296))])) := known table2_ok (by kernel_rfl) (by kernel_rfl) (by kernel_rfl)
/-- monocle/hit.sqr (19 steps) -/
theorem call728 : MemoOk Tryz.prog glob hG (114, [(.agg [(.int false .i64 (-4294967296)), (.int false .i64 (-4294967296))])], (.agg [(.int false .i64 (4294967296)), (.int false .i64 (4294967296))])) := known table2_ok (by kernel_rfl) (by kernel_rfl) (by kernel_rfl)
/-- monocle/hit.add (21 steps) -/
theorem call729 : MemoOk Tryz.prog glob hG (38, [(.agg [(.int false .i64 (-4294967296)), (.int false .i64 (-4294967296))]), (.agg [(.int false .i64 (-4294967296)), (.int false .i64 (-4294967296))])], (.agg [(.int false .i64 (-8589934592)), (.int false .i64 (-8589934592))])) := known table2_ok (by kernel_rfl) (by kernel_rfl) (by kernel_rfl)
/-- monocle/hit.div (21 steps) -/
theorem call730 : MemoOk Tryz.prog glob hG (119, [(.agg [(.int false .i64 (0)), (.int false .i64 (0))]), (.agg [(.int false .i64 (-8589934592)), (.int false .i64 (-8589934592))])], (.agg [(.int false .i64 (0)), (.int false .i64 (0))])) := known table2_ok (by kernel_rfl) (by kernel_rfl) (by kernel_rfl)
/-- monocle/hit.mul (21 steps) -/
theorem call731 : MemoOk Tryz.prog glob hG (83, [(.agg [(.int false .i64 (0)), (.int false .i64 (0))]), (.agg [(.int false .i64 (-4294967296)), (.int false .i64 (-4294967296))])], (.agg [(.int false .i64 (0)), (.int false .i64 (0))])) := known table2_ok (by kernel_rfl) (by kernel_rfl) (by kernel_rfl)
/-- monocle/monoclelaw25.mm (18 steps) -/
theorem call732 : MemoOk Tryz.prog glob hG (28, [(.int false .i64 (60000))], (.agg [(.int false .i64 (257698037760)), (.int false .i64 (257698037760))])) := known table2_ok (by kernel_rfl) (by kernel_rfl) (by kernel_rfl)
/-- monocle/ray.Check (383 steps) -/
theorem call733 : MemoOk Tryz.prog glob hG (30, [(.agg [(.int false .i64 (257698037760)), (.int false .i64 (257698037760)), (.int false .i64 (0)), (.int false .i64 (0)), (.int false .i64 (0)), (.int false .i64 (0)), (.int false .i64 (0)), (.int false .i64 (0)), (.int false .i64 (0)), (.int false .i64 (0)), (.int false .i64 (4294967296)), (.int false .i64 (4294967296))])], (.int false .i64 (0))) := known table2_ok (by kernel_rfl) (by kernel_rfl) (by kernel_rfl)
/-- monocle/hit.sqr (19 steps) -/
theorem call734 : MemoOk Tryz.prog glob hG (114, [(.agg [(.int false .i64 (257698037760)), (.int false .i64 (257698037760))])], (.agg [(.int false .i64 (15461882265600)), (.int false .i64 (15461882265600))])) := known table2_ok (by kernel_rfl) (by kernel_rfl) (by kernel_rfl)
/-- monocle/hit.add (21 steps) -/
theorem call735 : MemoOk Tryz.prog glob hG (38, [(.agg [(.int false .i64 (15461882265600)), (.int false .i64 (15461882265600))]), (.agg [(.int false .i64 (0)), (.int false .i64 (0))])], (.agg [(.int false .i64 (15461882265600)), (.int false .i64 (15461882265600))])) := known table2_ok (by kernel_rfl) (by kernel_rfl) (by kernel_rfl)
/-- monocle/hit.scale (21 steps) -/
theorem call736 : MemoOk Tryz.prog glob hG (113, [(.agg [(.int false .i64 (15461882265600)), (.int false .i64 (15461882265600))]), (.int false .i64 (10000000)), (.int false .i64 (1000000000))], (.agg [(.int false .i64 (154618822656)), (.int false .i64 (154618822656))])) := known table2_ok (by kernel_rfl) (by kernel_rfl) (by kernel_rfl)
/-- monocle/hit.mul (21 steps) -/
theorem call737 : MemoOk Tryz.prog glob hG (83, [(.agg [(.int false .i64 (0)), (.int false .i64 (0))]), (.agg [(.int false .i64 (257698037760)), (.int false .i64 (257698037760))])], (.agg [(.int false .i64 (0)), (.int false .i64 (0))])) := known table2_ok (by kernel_rfl) (by kernel_rfl) (by kernel_rfl)
/-- monocle/hit.scale (21 steps) -/
theorem call738 : MemoOk Tryz.prog glob hG (113, [(.agg [(.int false .i64 (154618822656)), (.int false .i64 (154618822656))]), (.int false .i64 (10000000)), (.int false .i64 (1000000000))], (.agg [(.int false .i64 (1546188226)), (.int false .i64 (1546188227))])) := known table2_ok (by kernel_rfl) (by kernel_rfl) (by kernel_rfl)
/-- monocle/hit.mul (21 steps) -/
theorem call739 : MemoOk Tryz.prog glob hG (83, [(.agg [(.int false .i64 (1546188226)), (.int false .i64 (1546188227))]), (.agg [(.int false .i64 (4294967296)), (.int false .i64 (4294967296))])], (.agg [(.int false .i64 (1546188226)), (.int false .i64 (1546188227))])) := known table2_ok (by kernel_rfl) (by kernel_rfl) (by kernel_rfl)
/-- monocle/hit.sub (21 steps) -/
theorem call740 : MemoOk Tryz.prog glob hG (115, [(.agg [(.int false .i64 (4294967296)), (.int false .i64 (4294967296))]), (.agg [(.int false .i64 (1546188226)), (.int false .i64 (1546188227))])], (.agg [(.int false .i64 (2748779069)), (.int false .i64 (2748779070))])) := known table2_ok (by kernel_rfl) (by kernel_rfl) (by kernel_rfl)
/-- monocle/hit.positive (11 steps) -/
theorem call741 : MemoOk Tryz.prog glob hG (116, [(.agg [(.int false .i64 (2748779069)), (.int false .i64 (2748779070))]), (.int false .i64 (0))], (.tuple [])) := known table2_ok (by kernel_rfl) (by kernel_rfl) (by kernel_rfl)
/-- monocle/hit.add (21 steps) -/
theorem call742 : MemoOk Tryz.prog glob hG (38, [(.agg [(.int false .i64 (4294967296)), (.int false .i64 (4294967296))]), (.agg [(.int false .i64 (3435973836)), (.int false .i64 (3435973838))])], (.agg [(.int false .i64 (7730941132)), (.int false .i64 (7730941134))])) := known table2_ok (by kernel_rfl) (by kernel_rfl) (by kernel_rfl)
/-- monocle/hit.div (21 steps) -/
theorem call743 : MemoOk Tryz.prog glob hG (119, [(.agg [(.int false .i64 (154618822656)), (.int false .i64 (154618822656))]), (.agg [(.int false .i64 (7730941132)), (.int false .i64 (7730941134))])], (.agg [(.int false .i64 (85899345906)), (.int false .i64 (85899345929))])) := known table2_ok (by kernel_rfl) (by kernel_rfl) (by kernel_rfl)
/-- monocle/hit.mul (21 steps) -/
theorem call744 : MemoOk Tryz.prog glob hG (83, [(.agg [(.int false .i64 (85899345906)), (.int false .i64 (85899345929))]), (.agg [(.int false .i64 (4294967296)), (.int false .i64 (4294967296))])], (.agg [(.int false .i64 (85899345906)), (.int false .i64 (85899345929))])) := known table2_ok (by kernel_rfl) (by kernel_rfl) (by kernel_rfl)
/-- monocle/hit.scale (21 steps) -/
theorem call745 : MemoOk Tryz.prog glob hG (113, [(.agg [(.int false .i64 (85899345906)), (.int false .i64 (85899345929))]), (.int false .i64 (1000000)), (.int false .i64 (1000000))], (.agg [(.int false .i64 (85899345906)), (.int false .i64 (85899345929))])) := known table2_ok (by kernel_rfl) (by kernel_rfl) (by kernel_rfl)
/-- monocle/hit.scale (21 steps) -/
theorem call746 : MemoOk Tryz.prog glob hG (113, [(.agg [(.int false .i64 (85899345906)), (.int false .i64 (85899345929))]), (.int false .i64 (10000000)), (.int false .i64 (1000000000))], (.agg [(.int false .i64 (858993459)), (.int false .i64 (858993460))])) := known table2_ok (by kernel_rfl) (by kernel_rfl) (by kernel_rfl)
/-- monocle/hit.sub (21 steps) -/
theorem call747 : MemoOk Tryz.prog glob hG (115, [(.agg [(.int false .i64 (4294967296)), (.int false .i64 (4294967296))]), (.agg [(.int false .i64 (858993459)), (.int false .i64 (858993460))])], (.agg [(.int false .i64 (3435973836)), (.int false .i64 (3435973837))])) := known table2_ok (by kernel_rfl) (by kernel_rfl) (by kernel_rfl)
/-- monocle/hit.positive (11 steps) -/
theorem call748 : MemoOk Tryz.prog glob hG (116, [(.agg [(.int false .i64 (3435973836)), (.int false .i64 (3435973837))]), (.int false .i64 (1))], (.tuple [])) := known table2_ok (by kernel_rfl) (by kernel_rfl) (by kernel_rfl)
/-- monocle/hit.mul (21 steps) -/
theorem call749 : MemoOk Tryz.prog glob hG (83, [(.agg [(.int false .i64 (85899345906)), (.int false .i64 (85899345929))]), (.agg [(.int false .i64 (0)), (.int false .i64 (0))])], (.agg [(.int false .i64 (0)), (.int false .i64 (0))])) := known table2_ok (by kernel_rfl) (by kernel_rfl) (by kernel_rfl)
/-- monocle/hit.add (21 steps) -/
theorem call750 : MemoOk Tryz.prog glob hG (38, [(.agg [(.int false .i64 (257698037760)), (.int false .i64 (257698037760))]), (.agg [(.int false .i64 (0)), (.int false .i64 (0))])], (.agg [(.int false .i64 (257698037760)), (.int false .i64 (257698037760))])) := known table2_ok (by kernel_rfl) (by kernel_rfl) (by kernel_rfl)
/-- monocle/hit.add (21 steps) -/
theorem call751 : MemoOk Tryz.prog glob hG (38, [(.agg [(.int false .i64 (0)), (.int false .i64 (0))]), (.agg [(.int false .i64 (85899345906)), (.int false .i64 (85899345929))])], (.agg [(.int false .i64 (85899345906)), (.int false .i64 (85899345929))])) := known table2_ok (by kernel_rfl) (by kernel_rfl) (by kernel_rfl)
/-- monocle/monoclelaw25.mm (18 steps) -/
theorem call752 : MemoOk Tryz.prog glob hG (28, [(.int false .i64 (101000))], (.agg [(.int false .i64 (433791696896)), (.int false .i64 (433791696896))])) := known table2_ok (by kernel_rfl) (by kernel_rfl) (by kernel_rfl)
/-- monocle/surface.Check (1059 steps) -/
theorem call753 : MemoOk Tryz.prog glob hG (29, [(.agg [(.int false .i64 (1)), (.int false .i64 (10000000)), (.int false .i64 (-1000000)), (.int false .i64 (0)), (.int false .i64 (0)), (.int false .i64 (0)), (.int false .i64 (0)), (.int false .i64 (0)), (.int false .i64 (0)), (.int false .i64 (0)), (.int false .i64 (0)), (.int false .i64 (0)), (.int false .i64 (0)), (.str false ⟨#[]⟩), (.int false .i64 (0)), (.int false .i64 (0)), (.int false .i64 (0)), (.int false .i64 (0)), (.int false .i64 (0)), (.int false .i64 (0)), (.int false .i64 (0)), .nilslice])], (.int false .i64 (0))) := known table2_ok (by kernel_rfl) (by kernel_rfl) (by kernel_rfl)
/-- monocle/ray.Check (383 steps) -/
theorem call754 : MemoOk Tryz.prog glob hG (30, [(.agg [(.int false .i64 (433791696896)), (.int false .i64 (433791696896)), (.int false .i64 (0)), (.int false .i64 (0)), (.int false .i64 (0)), (.int false .i64 (0)), (.int false .i64 (0)), (.int false .i64 (0)), (.int false .i64 (0)), (.int false .i64 (0)), (.int false .i64 (4294967296)), (.int false .i64 (4294967296))])], (.int false .i64 (0))) := known table2_ok (by kernel_rfl) (by kernel_rfl) (by kernel_rfl)
/-- monocle/hit.sqr (19 steps) -/
theorem call755 : MemoOk Tryz.prog glob hG (114, [(.agg [(.int false .i64 (433791696896)), (.int false .i64 (433791696896))])], (.agg [(.int false .i64 (43812961386496)), (.int false .i64 (43812961386496))])) := known table2_ok (by kernel_rfl) (by kernel_rfl) (by kernel_rfl)
/-- monocle/hit.add (21 steps) -/
theorem call756 : MemoOk Tryz.prog glob hG (38, [(.agg [(.int false .i64 (43812961386496)), (.int false .i64 (43812961386496))]), (.agg [(.int false .i64 (0)), (.int false .i64 (0))])], (.agg [(.int false .i64 (43812961386496)), (.int false .i64 (43812961386496))])) := known table2_ok (by kernel_rfl) (by kernel_rfl) (by kernel_rfl)
/-- monocle/hit.scale (21 steps) -/
theorem call757 : MemoOk Tryz.prog glob hG (113, [(.agg [(.int false .i64 (43812961386496)), (.int false .i64 (43812961386496))]), (.int false .i64 (10000000)), (.int false .i64 (1000000000))], (.agg [(.int false .i64 (438129613864)), (.int false .i64 (438129613865))])) := known table2_ok (by kernel_rfl) (by kernel_rfl) (by kernel_rfl)
/-- monocle/hit.mul (21 steps) -/
theorem call758 : MemoOk Tryz.prog glob hG (83, [(.agg [(.int false .i64 (0)), (.int false .i64 (0))]), (.agg [(.int false .i64 (433791696896)), (.int false .i64 (433791696896))])], (.agg [(.int false .i64 (0)), (.int false .i64 (0))])) := known table2_ok (by kernel_rfl) (by kernel_rfl) (by kernel_rfl)
/-- monocle/hit.scale (21 steps) -/
theorem call759 : MemoOk Tryz.prog glob hG (113, [(.agg [(.int false .i64 (4294967296)), (.int false .i64 (4294967296))]), (.int false .i64 (0)), (.int false .i64 (1000000))], (.agg [(.int false .i64 (0)), (.int false .i64 (0))])) := known table2_ok (by kernel_rfl) (by kernel_rfl) (by kernel_rfl)
/-- monocle/hit.scale (21 steps) -/
theorem call760 : MemoOk Tryz.prog glob hG (113, [(.agg [(.int false .i64 (438129613864)), (.int false .i64 (438129613865))]), (.int false .i64 (10000000)), (.int false .i64 (1000000000))], (.agg [(.int false .i64 (4381296138)), (.int false .i64 (4381296139))])) := known table2_ok (by kernel_rfl) (by kernel_rfl) (by kernel_rfl)
/-- monocle/hit.mul (21 steps) -/
theorem call761 : MemoOk Tryz.prog glob hG (83, [(.agg [(.int false .i64 (4381296138)), (.int false .i64 (4381296139))]), (.agg [(.int false .i64 (0)), (.int false .i64 (0))])], (.agg [(.int false .i64 (0)), (.int false .i64 (0))])) := known table2_ok (by kernel_rfl) (by kernel_rfl) (by kernel_rfl)
/-- monocle/hit.div (21 steps) -/
theorem call762 : MemoOk Tryz.prog glob hG (119, [(.agg [(.int false .i64 (438129613864)), (.int false .i64 (438129613865))]), (.agg [(.int false .i64 (8589934592)), (.int false .i64 (8589934592))])], (.agg [(.int false .i64 (219064806932)), (.int false .i64 (219064806933))])) := known table2_ok (by kernel_rfl) (by kernel_rfl) (by kernel_rfl)
/-- monocle/hit.mul (21 steps) -/
theorem call763 : MemoOk Tryz.prog glob hG (83, [(.agg [(.int false .i64 (219064806932)), (.int false .i64 (219064806933))]), (.agg [(.int false .i64 (4294967296)), (.int false .i64 (4294967296))])], (.agg [(.int false .i64 (219064806932)), (.int false .i64 (219064806933))])) := known table2_ok (by kernel_rfl) (by kernel_rfl) (by kernel_rfl)
/-- monocle/hit.scale (21 steps) -/
theorem call764 : MemoOk Tryz.prog glob hG (113, [(.agg [(.int false .i64 (219064806932)), (.int false .i64 (219064806933))]), (.int false .i64 (0)), (.int false .i64 (1000000))], (.agg [(.int false .i64 (0)), (.int false .i64 (0))])) := known table2_ok (by kernel_rfl) (by kernel_rfl) (by kernel_rfl)
/-- monocle/hit.mul (21 steps) -/
theorem call765 : MemoOk Tryz.prog glob hG (83, [(.agg [(.int false .i64 (219064806932)), (.int false .i64 (219064806933))]), (.agg [(.int false .i64 (0)), (.int false .i64 (0))])], (.agg [(.int false .i64 (0)), (.int false .i64 (0))])) := known table2_ok (by kernel_rfl) (by kernel_rfl) (by kernel_rfl)
/-- monocle/hit.add (21 steps) -/
theorem call766 : MemoOk Tryz.prog glob hG (38, [(.agg [(.int false .i64 (433791696896)), (.int false .i64 (433791696896))]), (.agg [(.int false .i64 (0)), (.int false .i64 (0))])], (.agg [(.int false .i64 (433791696896)), (.int false .i64 (433791696896))])) := known table2_ok (by kernel_rfl) (by kernel_rfl) (by kernel_rfl)
/-- monocle/hit.add (21 steps) -/
theorem call767 : MemoOk Tryz.prog glob hG (38, [(.agg [(.int false .i64 (0)), (.int false .i64 (0))]), (.agg [(.int false .i64 (219064806932)), (.int false .i64 (219064806933))])], (.agg [(.int false .i64 (219064806932)), (.int false .i64 (219064806933))])) := known table2_ok (by kernel_rfl) (by kernel_rfl) (by kernel_rfl)
/-- monocle/monoclelaw25.mm (18 steps) -/
theorem call768 : MemoOk Tryz.prog glob hG (28, [(.int false .i64 (20000))], (.agg [(.int false .i64 (85899345920)), (.int false .i64 (85899345920))])) := known table2_ok (by kernel_rfl) (by kernel_rfl) (by kernel_rfl)
/-- monocle/monoclelaw25.mm (18 steps) -/
theorem call769 : MemoOk Tryz.prog glob hG (28, [(.int false .i64 (51005))], (.agg [(.int false .i64 (219064806932)), (.int false .i64 (219064806933))])) := known table2_ok (by kernel_rfl) (by kernel_rfl) (by kernel_rfl)
/-- monocle/hit.mul (21 steps) -/
theorem call770 : MemoOk Tryz.prog glob hG (83, [(.agg [(.int false .i64 (4381296138)), (.int false .i64 (4381296139))]), (.agg [(.int false .i64 (4294967296)), (.int false .i64 (4294967296))])], (.agg [(.int false .i64 (4381296138)), (.int false .i64 (4381296139))])) := known table2_ok (by kernel_rfl) (by kernel_rfl) (by kernel_rfl)
/-- monocle/hit.sub (21 steps) -/
theorem call771 : MemoOk Tryz.prog glob hG (115, [(.agg [(.int false .i64 (4294967296)), (.int false .i64 (4294967296))]), (.agg [(.int false .i64 (4381296138)), (.int false .i64 (4381296139))])], (.agg [(.int false .i64 (-86328843)), (.int false .i64 (-86328842))])) := known table2_ok (by kernel_rfl) (by kernel_rfl) (by kernel_rfl)
/-- monocle/monoclelaw25.mm (18 steps) -/
theorem call772 : MemoOk Tryz.prog glob hG (28, [(.int false .i64 (3000))], (.agg [(.int false .i64 (12884901888)), (.int false .i64 (12884901888))])) := known table2_ok (by kernel_rfl) (by kernel_rfl) (by kernel_rfl)
/-- monocle/monoclelaw25.mm (18 steps) -/
theorem call773 : MemoOk Tryz.prog glob hG (28, [(.int false .i64 (4000))], (.agg [(.int false .i64 (17179869184)), (.int false .i64 (17179869184))])) := known table2_ok (by kernel_rfl) (by kernel_rfl) (by kernel_rfl)
/-- monocle/surface.Check (1041 steps) -/
theorem call774 : MemoOk Tryz.prog glob hG (29, [(.agg [(.int false .i64 (4)), (.int false .i64 (0)), (.int false .i64 (0)), (.int false .i64 (0)), (.int false .i64 (0)), (.int false .i64 (0)), (.int false .i64 (0)), (.int false .i64 (0)), (.int false .i64 (0)), (.int false .i64 (0)), (.int false .i64 (0)), (.int false .i64 (0)), (.int false .i64 (0)), (.str false ⟨#[]⟩), (.int false .i64 (0)), (.int false .i64 (0)), (.int false .i64 (0)), (.int false .i64 (0)), (.int false .i64 (0)), (.int false .i64 (0)), (.int false .i64 (0)), .nilslice])], (.int false .i64 (0))) := known table2_ok (by kernel_rfl) (by kernel_rfl) (by kernel_rfl)
/-- monocle/ray.Check (383 steps) -/
theorem call775 : MemoOk Tryz.prog glob hG (30, [(.agg [(.int false .i64 (12884901888)), (.int false .i64 (12884901888)), (.int false .i64 (17179869184)), (.int false .i64 (17179869184)), (.int false .i64 (-4294967296)), (.int false .i64 (-4294967296)), (.int false .i64 (0)), (.int false .i64 (0)), (.int false .i64 (4294967296)), (.int false .i64 (4294967296)), (.int false .i64 (4294967296)), (.int false .i64 (4294967296))])], (.int false .i64 (0))) := known table2_ok (by kernel_rfl) (by kernel_rfl) (by kernel_rfl)
/-- monocle/ray.Check (383 steps) -/
theorem call776 : MemoOk Tryz.prog glob hG (30, [(.agg [(.int false .i64 (4294967296)), (.int false .i64 (4294967296)), (.int false .i64 (0)), (.int false .i64 (0)), (.int false .i64 (4294967296)), (.int false .i64 (4294967296)), (.int false .i64 (4294967296)), (.int false .i64 (4294967296)), (.int false .i64 (0)), (.int false .i64 (0)), (.int false .i64 (0)), (.int false .i64 (0))])], (.int false .i64 (0))) := known table2_ok (by kernel_rfl) (by kernel_rfl) (by kernel_rfl)
/-- monocle/surface.Check (92 steps) -/
theorem call777 : MemoOk Tryz.prog glob hG (29, [(.agg [(.int false .i64 (0)), (.int false .i64 (0)), (.int false .i64 (0)), (.int false .i64 (0)), (.int false .i64 (0)), (.int false .i64 (0)), (.int false .i64 (0)), (.int false .i64 (0)), (.int false .i64 (0)), (.int false .i64 (0)), (.int false .i64 (0)), (.int false .i64 (0)), (.int false .i64 (0)), (.str false ⟨#[]⟩), (.int false .i64 (0)), (.int false .i64 (0)), (.int false .i64 (0)), (.int false .i64 (0)), (.int false .i64 (0)), (.int false .i64 (0)), (.int false .i64 (0)), .nilslice])], (.int false .i64 (110))) := known table2_ok (by kernel_rfl) (by kernel_rfl) (by kernel_rfl)
/-- monocle/ray.Check (185 steps) -/
theorem call778 : MemoOk Tryz.prog glob hG (30, [(.agg [(.int false .i64 (1)), (.int false .i64 (0)), (.int false .i64 (0)), (.int false .i64 (0)), (.int false .i64 (0)), (.int false .i64 (0)), (.int false .i64 (0)), (.int false .i64 (0)), (.int false .i64 (0)), (.int false .i64 (0)), (.int false .i64 (0)), (.int false .i64 (0))])], (.int false .i64 (240))) := known table2_ok (by kernel_rfl) (by kernel_rfl) (by kernel_rfl)
/-- monocle/surface.Check (1059 steps) -/
theorem call779 : MemoOk Tryz.prog glob hG (29, [(.agg [(.int false .i64 (1)), (.int false .i64 (1000000000)), (.int false .i64 (0)), (.int false .i64 (0)), (.int false .i64 (0)), (.int false .i64 (0)), (.int false .i64 (0)), (.int false .i64 (0)), (.int false .i64 (0)), (.int false .i64 (0)), (.int false .i64 (0)), (.int false .i64 (0)), (.int false .i64 (0)), (.str false ⟨#[]⟩), (.int false .i64 (0)), (.int false .i64 (0)), (.int false .i64 (0)), (.int false .i64 (0)), (.int false .i64 (0)), (.int false .i64 (0)), (.int false .i64 (0)), .nilslice])], (.int false .i64 (0))) := known table2_ok (by kernel_rfl) (by kernel_rfl) (by kernel_rfl)
/-- monocle/ray.Check (383 steps) -/
theorem call780 : MemoOk Tryz.prog glob hG (30, [(.agg [(.int false .i64 (4294967296)), (.int false .i64 (4294967296)), (.int false .i64 (0)), (.int false .i64 (0)), (.int false .i64 (0)), (.int false .i64 (0)), (.int false .i64 (0)), (.int false .i64 (0)), (.int false .i64 (0)), (.int false .i64 (0)), (.int false .i64 (4294967296)), (.int false .i64 (4294967296))])], (.int false .i64 (0))) := known table2_ok (by kernel_rfl) (by kernel_rfl) (by kernel_rfl)
/-- monocle/hit.scale (21 steps) -/
theorem call781 : MemoOk Tryz.prog glob hG (113, [(.agg [(.int false .i64 (4294967296)), (.int false .i64 (4294967296))]), (.int false .i64 (1000000000)), (.int false .i64 (1000000000))], (.agg [(.int false .i64 (4294967296)), (.int false .i64 (4294967296))])) := known table2_ok (by kernel_rfl) (by kernel_rfl) (by kernel_rfl)
/-- monocle/hit.scale (21 steps) -/
theorem call782 : MemoOk Tryz.prog glob hG (113, [(.agg [(.int false .i64 (0)), (.int false .i64 (0))]), (.int false .i64 (1000000000)), (.int false .i64 (1000000000))], (.agg [(.int false .i64 (0)), (.int false .i64 (0))])) := known table2_ok (by kernel_rfl) (by kernel_rfl) (by kernel_rfl)
/-- monocle/hit.mul (21 steps) -/
theorem call783 : MemoOk Tryz.prog glob hG (83, [(.agg [(.int false .i64 (4294967296)), (.int false .i64 (4294967296))]), (.agg [(.int false .i64 (4294967296)), (.int false .i64 (4294967296))])], (.agg [(.int false .i64 (4294967296)), (.int false .i64 (4294967296))])) := known table2_ok (by kernel_rfl) (by kernel_rfl) (by kernel_rfl)
/-- monocle/hit.sub (21 steps) -/
theorem call784 : MemoOk Tryz.prog glob hG (115, [(.agg [(.int false .i64 (4294967296)), (.int false .i64 (4294967296))]), (.agg [(.int false .i64 (4294967296)), (.int false .i64 (4294967296))])], (.agg [(.int false .i64 (0)), (.int false .i64 (0))])) := known table2_ok (by kernel_rfl) (by kernel_rfl) (by kernel_rfl)
/-- monocle/hit.positive (11 steps) -/
theorem call785 : MemoOk Tryz.prog glob hG (116, [(.agg [(.int false .i64 (0)), (.int false .i64 (0))]), (.int false .i64 (0))], (.tuple [])) := known table2_ok (by kernel_rfl) (by kernel_rfl) (by kernel_rfl)
/-- monocle/hit.div (21 steps) -/
theorem call786 : MemoOk Tryz.prog glob hG (119, [(.agg [(.int false .i64 (4294967296)), (.int false .i64 (4294967296))]), (.agg [(.int false .i64 (4294967296)), (.int false .i64 (4294967296))])], (.agg [(.int false .i64 (4294967296)), (.int false .i64 (4294967296))])) := known table2_ok (by kernel_rfl) (by kernel_rfl) (by kernel_rfl)
/-- monocle/monoclelaw25.mm (18 steps) -/
theorem call787 : MemoOk Tryz.prog glob hG (28, [(.int false .i64 (1001))], (.agg [(.int false .i64 (4299262263)), (.int false .i64 (4299262264))])) := known table2_ok (by kernel_rfl) (by kernel_rfl) (by kernel_rfl)
/-- monocle/ray.Check (383 steps) -/
theorem call788 : MemoOk Tryz.prog glob hG (30, [(.agg [(.int false .i64 (4299262263)), (.int false .i64 (4299262264)), (.int false .i64 (0)), (.int false .i64 (0)), (.int false .i64 (0)), (.int false .i64 (0)), (.int false .i64 (0)), (.int false .i64 (0)), (.int false .i64 (0)), (.int false .i64 (0)), (.int false .i64 (4294967296)), (.int false .i64 (4294967296))])], (.int false .i64 (0))) := known table2_ok (by kernel_rfl) (by kernel_rfl) (by kernel_rfl)
/-- monocle/hit.sqr (19 steps) -/
theorem call789 : MemoOk Tryz.prog glob hG (114, [(.agg [(.int false .i64 (4299262263)), (.int false .i64 (4299262264))])], (.agg [(.int false .i64 (4303561524)), (.int false .i64 (4303561527))])) := known table2_ok (by kernel_rfl) (by kernel_rfl) (by kernel_rfl)
/-- monocle/hit.add (21 steps) -/
theorem call790 : MemoOk Tryz.prog glob hG (38, [(.agg [(.int false .i64 (4303561524)), (.int false .i64 (4303561527))]), (.agg [(.int false .i64 (0)), (.int false .i64 (0))])], (.agg [(.int false .i64 (4303561524)), (.int false .i64 (4303561527))])) := known table2_ok (by kernel_rfl) (by kernel_rfl) (by kernel_rfl)
/-- monocle/hit.scale (21 steps) -/
theorem call791 : MemoOk Tryz.prog glob hG (113, [(.agg [(.int false .i64 (4303561524)), (.int false .i64 (4303561527))]), (.int false .i64 (1000000000)), (.int false .i64 (1000000000))], (.agg [(.int false .i64 (4303561524)), (.int false .i64 (4303561527))])) := known table2_ok (by kernel_rfl) (by kernel_rfl) (by kernel_rfl)
/-- monocle/hit.mul (21 steps) -/
theorem call792 : MemoOk Tryz.prog glob hG (83, [(.agg [(.int false .i64 (0)), (.int false .i64 (0))]), (.agg [(.int false .i64 (4299262263)), (.int false .i64 (4299262264))])], (.agg [(.int false .i64 (0)), (.int false .i64 (0))])) := known table2_ok (by kernel_rfl) (by kernel_rfl) (by kernel_rfl)
/-- monocle/hit.mul (21 steps) -/
theorem call793 : MemoOk Tryz.prog glob hG (83, [(.agg [(.int false .i64 (4303561524)), (.int false .i64 (4303561527))]), (.agg [(.int false .i64 (4294967296)), (.int false .i64 (4294967296))])], (.agg [(.int false .i64 (4303561524)), (.int false .i64 (4303561527))])) := known table2_ok (by kernel_rfl) (by kernel_rfl) (by kernel_rfl)
/-- monocle/hit.sub (21 steps) -/
theorem call794 : MemoOk Tryz.prog glob hG (115, [(.agg [(.int false .i64 (4294967296)), (.int false .i64 (4294967296))]), (.agg [(.int false .i64 (4303561524)), (.int false .i64 (4303561527))])], (.agg [(.int false .i64 (-8594231)), (.int false .i64 (-8594228))])) := known table2_ok (by kernel_rfl) (by kernel_rfl) (by kernel_rfl)
/-- monocle/monoclelaw25.mm (18 steps) -/
theorem call795 : MemoOk Tryz.prog glob hG (28, [(.int false .i64 (-2000))], (.agg [(.int false .i64 (-8589934592)), (.int false .i64 (-8589934592))])) := known table2_ok (by kernel_rfl) (by kernel_rfl) (by kernel_rfl)
/-- monocle/monoclelaw25.mm (18 steps) -/
theorem call796 : MemoOk Tryz.prog glob hG (28, [(.int false .i64 (500))], (.agg [(.int false .i64 (2147483648)), (.int false .i64 (2147483648))])) := known table2_ok (by kernel_rfl) (by kernel_rfl) (by kernel_rfl)
/-- monocle/monoclelaw25.mm (18 steps) -/
theorem call797 : MemoOk Tryz.prog glob hG (28, [(.int false .i64 (100))], (.agg [(.int false .i64 (429496729)), (.int false .i64 (429496730))])) := known table2_ok (by kernel_rfl) (by kernel_rfl) (by kernel_rfl)
/-- monocle/ray.Check (383 steps) -/
theorem call798 : MemoOk Tryz.prog glob hG (30, [(.agg [(.int false .i64 (-8589934592)), (.int false .i64 (-8589934592)), (.int false .i64 (0)), (.int false .i64 (0)), (.int false .i64 (2147483648)), (.int false .i64 (2147483648)), (.int false .i64 (4294967296)), (.int false .i64 (4294967296)), (.int false .i64 (0)), (.int false .i64 (0)), (.int false .i64 (429496729)), (.int false .i64 (429496730))])], (.int false .i64 (0))) := known table2_ok (by kernel_rfl) (by kernel_rfl) (by kernel_rfl)
/-- monocle/hit.sqr (19 steps) -/
theorem call799 : MemoOk Tryz.prog glob hG (114, [(.agg [(.int false .i64 (-30064771103)), (.int false .i64 (-30064771052))])], (.agg [(.int false .i64 (210453397224)), (.int false .i64 (210453397939))])) := known table2_ok (by kernel_rfl) (by kernel_rfl) (by kernel_rfl)
/-- monocle/hit.add (21 steps) -/
theorem call800 : MemoOk Tryz.prog glob hG (38, [(.agg [(.int false .i64 (210453397224)), (.int false .i64 (210453397939))]), (.agg [(.int false .i64 (0)), (.int false .i64 (0))])], (.agg [(.int false .i64 (210453397224)), (.int false .i64 (210453397939))])) := known table2_ok (by kernel_rfl) (by kernel_rfl) (by kernel_rfl)
/-- monocle/hit.scale (21 steps) -/
theorem call801 : MemoOk Tryz.prog glob hG (113, [(.agg [(.int false .i64 (210453397224)), (.int false .i64 (210453397939))]), (.int false .i64 (1000000000)), (.int false .i64 (1000000000))], (.agg [(.int false .i64 (210453397224)), (.int false .i64 (210453397939))])) := known table2_ok (by kernel_rfl) (by kernel_rfl) (by kernel_rfl)
/-- monocle/hit.mul (21 steps) -/
theorem call802 : MemoOk Tryz.prog glob hG (83, [(.agg [(.int false .i64 (4294967296)), (.int false .i64 (4294967296))]), (.agg [(.int false .i64 (-30064771103)), (.int false .i64 (-30064771052))])], (.agg [(.int false .i64 (-30064771103)), (.int false .i64 (-30064771052))])) := known table2_ok (by kernel_rfl) (by kernel_rfl) (by kernel_rfl)
/-- monocle/hit.add (21 steps) -/
theorem call803 : MemoOk Tryz.prog glob hG (38, [(.agg [(.int false .i64 (-30064771103)), (.int false .i64 (-30064771052))]), (.agg [(.int false .i64 (0)), (.int false .i64 (0))])], (.agg [(.int false .i64 (-30064771103)), (.int false .i64 (-30064771052))])) := known table2_ok (by kernel_rfl) (by kernel_rfl) (by kernel_rfl)
/-- monocle/hit.scale (21 steps) -/
theorem call804 : MemoOk Tryz.prog glob hG (113, [(.agg [(.int false .i64 (-30064771103)), (.int false .i64 (-30064771052))]), (.int false .i64 (1000000000)), (.int false .i64 (1000000000))], (.agg [(.int false .i64 (-30064771103)), (.int false .i64 (-30064771052))])) := known table2_ok (by kernel_rfl) (by kernel_rfl) (by kernel_rfl)
/-- monocle/hit.sub (21 steps) -/
theorem call805 : MemoOk Tryz.prog glob hG (115, [(.agg [(.int false .i64 (429496729)), (.int false .i64 (429496730))]), (.agg [(.int false .i64 (-30064771103)), (.int false .i64 (-30064771052))])], (.agg [(.int false .i64 (30494267781)), (.int false .i64 (30494267833))])) := known table2_ok (by kernel_rfl) (by kernel_rfl) (by kernel_rfl)
/-- monocle/hit.sqr (19 steps) -/
theorem call806 : MemoOk Tryz.prog glob hG (114, [(.agg [(.int false .i64 (429496729)), (.int false .i64 (429496730))])], (.agg [(.int false .i64 (42949672)), (.int false .i64 (42949674))])) := known table2_ok (by kernel_rfl) (by kernel_rfl) (by kernel_rfl)
/-- monocle/hit.scale (21 steps) -/
theorem call807 : MemoOk Tryz.prog glob hG (113, [(.agg [(.int false .i64 (42949672)), (.int false .i64 (42949674))]), (.int false .i64 (1000000)), (.int false .i64 (1000000))], (.agg [(.int false .i64 (42949672)), (.int false .i64 (42949674))])) := known table2_ok (by kernel_rfl) (by kernel_rfl) (by kernel_rfl)
/-- monocle/hit.add (21 steps) -/
theorem call808 : MemoOk Tryz.prog glob hG (38, [(.agg [(.int false .i64 (4294967296)), (.int false .i64 (4294967296))]), (.agg [(.int false .i64 (42949672)), (.int false .i64 (42949674))])], (.agg [(.int false .i64 (4337916968)), (.int false .i64 (4337916970))])) := known table2_ok (by kernel_rfl) (by kernel_rfl) (by kernel_rfl)
/-- monocle/hit.sqr (19 steps) -/
theorem call809 : MemoOk Tryz.prog glob hG (114, [(.agg [(.int false .i64 (30494267781)), (.int false .i64 (30494267833))])], (.agg [(.int false .i64 (216509301098)), (.int false .i64 (216509301838))])) := known table2_ok (by kernel_rfl) (by kernel_rfl) (by kernel_rfl)
/-- monocle/hit.mul (21 steps) -/
theorem call810 : MemoOk Tryz.prog glob hG (83, [(.agg [(.int false .i64 (210453397224)), (.int false .i64 (210453397939))]), (.agg [(.int false .i64 (4337916968)), (.int false .i64 (4337916970))])], (.agg [(.int false .i64 (212557931149)), (.int false .i64 (212557931970))])) := known table2_ok (by kernel_rfl) (by kernel_rfl) (by kernel_rfl)
/-- monocle/hit.sub (21 steps) -/
theorem call811 : MemoOk Tryz.prog glob hG (115, [(.agg [(.int false .i64 (216509301098)), (.int false .i64 (216509301838))]), (.agg [(.int false .i64 (212557931149)), (.int false .i64 (212557931970))])], (.agg [(.int false .i64 (3951369128)), (.int false .i64 (3951370689))])) := known table2_ok (by kernel_rfl) (by kernel_rfl) (by kernel_rfl)
/-- monocle/hit.positive (11 steps) -/
theorem call812 : MemoOk Tryz.prog glob hG (116, [(.agg [(.int false .i64 (3951369128)), (.int false .i64 (3951370689))]), (.int false .i64 (0))], (.tuple [])) := known table2_ok (by kernel_rfl) (by kernel_rfl) (by kernel_rfl)
/-- monocle/hit.add (21 steps) -/
theorem call813 : MemoOk Tryz.prog glob hG (38, [(.agg [(.int false .i64 (30494267781)), (.int false .i64 (30494267833))]), (.agg [(.int false .i64 (4119587501)), (.int false .i64 (4119588315))])], (.agg [(.int false .i64 (34613855282)), (.int false .i64 (34613856148))])) := known table2_ok (by kernel_rfl) (by kernel_rfl) (by kernel_rfl)
/-- monocle/hit.div (21 steps) -/
theorem call814 : MemoOk Tryz.prog glob hG (119, [(.agg [(.int false .i64 (210453397224)), (.int false .i64 (210453397939))]), (.agg [(.int false .i64 (34613855282)), (.int false .i64 (34613856148))])], (.agg [(.int false .i64 (26113544083)), (.int false .i64 (26113544826))])) := known table2_ok (by kernel_rfl) (by kernel_rfl) (by kernel_rfl)
/-- monocle/hit.mul (21 steps) -/
theorem call815 : MemoOk Tryz.prog glob hG (83, [(.agg [(.int false .i64 (26113544083)), (.int false .i64 (26113544826))]), (.agg [(.int false .i64 (429496729)), (.int false .i64 (429496730))])], (.agg [(.int false .i64 (2611354404)), (.int false .i64 (2611354486))])) := known table2_ok (by kernel_rfl) (by kernel_rfl) (by kernel_rfl)
/-- monocle/hit.scale (21 steps) -/
theorem call816 : MemoOk Tryz.prog glob hG (113, [(.agg [(.int false .i64 (2611354404)), (.int false .i64 (2611354486))]), (.int false .i64 (1000000)), (.int false .i64 (1000000))], (.agg [(.int false .i64 (2611354404)), (.int false .i64 (2611354486))])) := known table2_ok (by kernel_rfl) (by kernel_rfl) (by kernel_rfl)
/-- monocle/hit.scale (21 steps) -/
theorem call817 : MemoOk Tryz.prog glob hG (113, [(.agg [(.int false .i64 (2611354404)), (.int false .i64 (2611354486))]), (.int false .i64 (1000000000)), (.int false .i64 (1000000000))], (.agg [(.int false .i64 (2611354404)), (.int false .i64 (2611354486))])) := known table2_ok (by kernel_rfl) (by kernel_rfl) (by kernel_rfl)
/-- monocle/hit.sub (21 steps) -/
theorem call818 : MemoOk Tryz.prog glob hG (115, [(.agg [(.int false .i64 (4294967296)), (.int false .i64 (4294967296))]), (.agg [(.int false .i64 (2611354404)), (.int false .i64 (2611354486))])], (.agg [(.int false .i64 (1683612810)), (.int false .i64 (1683612892))])) := known table2_ok (by kernel_rfl) (by kernel_rfl) (by kernel_rfl)
/-- monocle/hit.positive (11 steps) -/
theorem call819 : MemoOk Tryz.prog glob hG (116, [(.agg [(.int false .i64 (1683612810)), (.int false .i64 (1683612892))]), (.int false .i64 (1))], (.tuple [])) := known table2_ok (by kernel_rfl) (by kernel_rfl) (by kernel_rfl)
/-- monocle/hit.mul (21 steps) -/
theorem call820 : MemoOk Tryz.prog glob hG (83, [(.agg [(.int false .i64 (26113544083)), (.int false .i64 (26113544826))]), (.agg [(.int false .i64 (4294967296)), (.int false .i64 (4294967296))])], (.agg [(.int false .i64 (26113544083)), (.int false .i64 (26113544826))])) := known table2_ok (by kernel_rfl) (by kernel_rfl) (by kernel_rfl)
/-- monocle/hit.add (21 steps) -/
theorem call821 : MemoOk Tryz.prog glob hG (38, [(.agg [(.int false .i64 (-30064771103)), (.int false .i64 (-30064771052))]), (.agg [(.int false .i64 (26113544083)), (.int false .i64 (26113544826))])], (.agg [(.int false .i64 (-3951227020)), (.int false .i64 (-3951226226))])) := known table2_ok (by kernel_rfl) (by kernel_rfl) (by kernel_rfl)
/-- monocle/hit.mul (21 steps) -/
theorem call822 : MemoOk Tryz.prog glob hG (83, [(.agg [(.int false .i64 (26113544083)), (.int false .i64 (26113544826))]), (.agg [(.int false .i64 (0)), (.int false .i64 (0))])], (.agg [(.int false .i64 (0)), (.int false .i64 (0))])) := known table2_ok (by kernel_rfl) (by kernel_rfl) (by kernel_rfl)
/-- monocle/hit.add (21 steps) -/
theorem call823 : MemoOk Tryz.prog glob hG (38, [(.agg [(.int false .i64 (-21474836511)), (.int false .i64 (-21474836460))]), (.agg [(.int false .i64 (26113544083)), (.int false .i64 (26113544826))])], (.agg [(.int false .i64 (4638707572)), (.int false .i64 (4638708366))])) := known table2_ok (by kernel_rfl) (by kernel_rfl) (by kernel_rfl)
/-- monocle/monoclelaw25.mm (18 steps) -/
theorem call824 : MemoOk Tryz.prog glob hG (28, [(.int false .i64 (1500))], (.agg [(.int false .i64 (6442450944)), (.int false .i64 (6442450944))])) := known table2_ok (by kernel_rfl) (by kernel_rfl) (by kernel_rfl)
/-- monocle/ray.Check (383 steps) -/
theorem call825 : MemoOk Tryz.prog glob hG (30, [(.agg [(.int false .i64 (-8589934592)), (.int false .i64 (-8589934592)), (.int false .i64 (0)), (.int false .i64 (0)), (.int false .i64 (6442450944)), (.int false .i64 (6442450944)), (.int false .i64 (4294967296)), (.int false .i64 (4294967296)), (.int false .i64 (0)), (.int false .i64 (0)), (.int false .i64 (429496729)), (.int false .i64 (429496730))])], (.int false .i64 (0))) := known table2_ok (by kernel_rfl) (by kernel_rfl) (by kernel_rfl)
/-- monocle/hit.sqr (19 steps) -/
theorem call826 : MemoOk Tryz.prog glob hG (114, [(.agg [(.int false .i64 (-73014444123)), (.int false .i64 (-73014443972))])], (.agg [(.int false .i64 (1241245546504)), (.int false .i64 (1241245551639))])) := known table2_ok (by kernel_rfl) (by kernel_rfl) (by kernel_rfl)
/-- monocle/hit.add (21 steps) -/
theorem call827 : MemoOk Tryz.prog glob hG (38, [(.agg [(.int false .i64 (1241245546504)), (.int false .i64 (1241245551639))]), (.agg [(.int false .i64 (0)), (.int false .i64 (0))])], (.agg [(.int false .i64 (1241245546504)), (.int false .i64 (1241245551639))])) := known table2_ok (by kernel_rfl) (by kernel_rfl) (by kernel_rfl)
/-- monocle/hit.scale (21 steps) -/
theorem call828 : MemoOk Tryz.prog glob hG (113, [(.agg [(.int false .i64 (1241245546504)), (.int false .i64 (1241245551639))]), (.int false .i64 (1000000000)), (.int false .i64 (1000000000))], (.agg [(.int false .i64 (1241245546504)), (.int false .i64 (1241245551639))])) := known table2_ok (by kernel_rfl) (by kernel_rfl) (by kernel_rfl)
/-- monocle/hit.mul (21 steps) -/
theorem call829 : MemoOk Tryz.prog glob hG (83, [(.agg [(.int false .i64 (4294967296)), (.int false .i64 (4294967296))]), (.agg [(.int false .i64 (-73014444123)), (.int false .i64 (-73014443972))])], (.agg [(.int false .i64 (-73014444123)), (.int false .i64 (-73014443972))])) := known table2_ok (by kernel_rfl) (by kernel_rfl) (by kernel_rfl)
/-- monocle/hit.add (21 steps) -/
theorem call830 : MemoOk Tryz.prog glob hG (38, [(.agg [(.int false .i64 (-73014444123)), (.int false .i64 (-73014443972))]), (.agg [(.int false .i64 (0)), (.int false .i64 (0))])], (.agg [(.int false .i64 (-73014444123)), (.int false .i64 (-73014443972))])) := known table2_ok (by kernel_rfl) (by kernel_rfl) (by kernel_rfl)
/-- monocle/hit.scale (21 steps) -/
theorem call831 : MemoOk Tryz.prog glob hG (113, [(.agg [(.int false .i64 (-73014444123)), (.int false .i64 (-73014443972))]), (.int false .i64 (1000000000)), (.int false .i64 (1000000000))], (.agg [(.int false .i64 (-73014444123)), (.int false .i64 (-73014443972))])) := known table2_ok (by kernel_rfl) (by kernel_rfl) (by kernel_rfl)
/-- monocle/hit.sub (21 steps) -/
theorem call832 : MemoOk Tryz.prog glob hG (115, [(.agg [(.int false .i64 (429496729)), (.int false .i64 (429496730))]), (.agg [(.int false .i64 (-73014444123)), (.int false .i64 (-73014443972))])], (.agg [(.int false .i64 (73443940701)), (.int false .i64 (73443940853))])) := known table2_ok (by kernel_rfl) (by kernel_rfl) (by kernel_rfl)
/-- monocle/hit.sqr (19 steps) -/
theorem call833 : MemoOk Tryz.prog glob hG (114, [(.agg [(.int false .i64 (73443940701)), (.int false .i64 (73443940853))])], (.agg [(.int false .i64 (1255891384950)), (.int false .i64 (1255891390150))])) := known table2_ok (by kernel_rfl) (by kernel_rfl) (by kernel_rfl)
/-- monocle/hit.mul (21 steps) -/
theorem call834 : MemoOk Tryz.prog glob hG (83, [(.agg [(.int false .i64 (1241245546504)), (.int false .i64 (1241245551639))]), (.agg [(.int false .i64 (4337916968)), (.int false .i64 (4337916970))])], (.agg [(.int false .i64 (1253658001691)), (.int false .i64 (1253658007456))])) := known table2_ok (by kernel_rfl) (by kernel_rfl) (by kernel_rfl)
/-- monocle/hit.sub (21 steps) -/
theorem call835 : MemoOk Tryz.prog glob hG (115, [(.agg [(.int false .i64 (1255891384950)), (.int false .i64 (1255891390150))]), (.agg [(.int false .i64 (1253658001691)), (.int false .i64 (1253658007456))])], (.agg [(.int false .i64 (2233377494)), (.int false .i64 (2233388459))])) := known table2_ok (by kernel_rfl) (by kernel_rfl) (by kernel_rfl)
/-- monocle/hit.positive (11 steps) -/
theorem call836 : MemoOk Tryz.prog glob hG (116, [(.agg [(.int false .i64 (2233377494)), (.int false .i64 (2233388459))]), (.int false .i64 (0))], (.tuple [])) := known table2_ok (by kernel_rfl) (by kernel_rfl) (by kernel_rfl)
/-- monocle/hit.add (21 steps) -/
theorem call837 : MemoOk Tryz.prog glob hG (38, [(.agg [(.int false .i64 (73443940701)), (.int false .i64 (73443940853))]), (.agg [(.int false .i64 (3097141148)), (.int false .i64 (3097148752))])], (.agg [(.int false .i64 (76541081849)), (.int false .i64 (76541089605))])) := known table2_ok (by kernel_rfl) (by kernel_rfl) (by kernel_rfl)
/-- monocle/hit.div (21 steps) -/
theorem call838 : MemoOk Tryz.prog glob hG (119, [(.agg [(.int false .i64 (1241245546504)), (.int false .i64 (1241245551639))]), (.agg [(.int false .i64 (76541081849)), (.int false .i64 (76541089605))])], (.agg [(.int false .i64 (69650289224)), (.int false .i64 (69650296571))])) := known table2_ok (by kernel_rfl) (by kernel_rfl) (by kernel_rfl)
/-- monocle/hit.mul (21 steps) -/
theorem call839 : MemoOk Tryz.prog glob hG (83, [(.agg [(.int false .i64 (69650289224)), (.int false .i64 (69650296571))]), (.agg [(.int false .i64 (429496729)), (.int false .i64 (429496730))])], (.agg [(.int false .i64 (6965028912)), (.int false .i64 (6965029664))])) := known table2_ok (by kernel_rfl) (by kernel_rfl) (by kernel_rfl)
/-- monocle/hit.scale (21 steps) -/
theorem call840 : MemoOk Tryz.prog glob hG (113, [(.agg [(.int false .i64 (6965028912)), (.int false .i64 (6965029664))]), (.int false .i64 (1000000)), (.int false .i64 (1000000))], (.agg [(.int false .i64 (6965028912)), (.int false .i64 (6965029664))])) := known table2_ok (by kernel_rfl) (by kernel_rfl) (by kernel_rfl)
/-- monocle/hit.scale (21 steps) -/
theorem call841 : MemoOk Tryz.prog glob hG (113, [(.agg [(.int false .i64 (6965028912)), (.int false .i64 (6965029664))]), (.int false .i64 (1000000000)), (.int false .i64 (1000000000))], (.agg [(.int false .i64 (6965028912)), (.int false .i64 (6965029664))])) := known table2_ok (by kernel_rfl) (by kernel_rfl) (by kernel_rfl)
/-- monocle/hit.sub (21 steps) -/
theorem call842 : MemoOk Tryz.prog glob hG (115, [(.agg [(.int false .i64 (4294967296)), (.int false .i64 (4294967296))]), (.agg [(.int false .i64 (6965028912)), (.int false .i64 (6965029664))])], (.agg [(.int false .i64 (-2670062368)), (.int false .i64 (-2670061616))])) := known table2_ok (by kernel_rfl) (by kernel_rfl) (by kernel_rfl)
/-- monocle/monoclelaw25.mm (18 steps) -/
theorem call843 : MemoOk Tryz.prog glob hG (28, [(.int false .i64 (10000))], (.agg [(.int false .i64 (42949672960)), (.int false .i64 (42949672960))])) := known table2_ok (by kernel_rfl) (by kernel_rfl) (by kernel_rfl)
/-- monocle/surface.Check (1059 steps) -/
theorem call844 : MemoOk Tryz.prog glob hG (29, [(.agg [(.int false .i64 (1)), (.int false .i64 (0)), (.int false .i64 (0)), (.int false .i64 (0)), (.int false .i64 (0)), (.int false .i64 (1000000)), (.int false .i64 (0)), (.int false .i64 (0)), (.int false .i64 (0)), (.int false .i64 (0)), (.int false .i64 (0)), (.int false .i64 (0)), (.int false .i64 (0)), (.str false ⟨#[]⟩), (.int false .i64 (0)), (.int false .i64 (0)), (.int false .i64 (0)), (.int false .i64 (0)), (.int false .i64 (0)), (.int false .i64 (0)), (.int false .i64 (0)), .nilslice])], (.int false .i64 (0))) := known table2_ok (by kernel_rfl) (by kernel_rfl) (by kernel_rfl)
/-- monocle/ray.Check (383 steps) -/
theorem call845 : MemoOk Tryz.prog glob hG (30, [(.agg [(.int false .i64 (0)), (.int false .i64 (0)), (.int false .i64 (42949672960)), (.int false .i64 (42949672960)), (.int false .i64 (-8589934592)), (.int false .i64 (-8589934592)), (.int false .i64 (0)), (.int false .i64 (0)), (.int false .i64 (0)), (.int false .i64 (0)), (.int false .i64 (4294967296)), (.int false .i64 (4294967296))])], (.int false .i64 (0))) := known table2_ok (by kernel_rfl) (by kernel_rfl) (by kernel_rfl)
/-- monocle/hit.sqr (19 steps) -/
theorem call846 : MemoOk Tryz.prog glob hG (114, [(.agg [(.int false .i64 (42949672960)), (.int false .i64 (42949672960))])], (.agg [(.int false .i64 (429496729600)), (.int false .i64 (429496729600))])) := known table2_ok (by kernel_rfl) (by kernel_rfl) (by kernel_rfl)
/-- monocle/hit.add (21 steps) -/
theorem call847 : MemoOk Tryz.prog glob hG (38, [(.agg [(.int false .i64 (0)), (.int false .i64 (0))]), (.agg [(.int false .i64 (429496729600)), (.int false .i64 (429496729600))])], (.agg [(.int false .i64 (429496729600)), (.int false .i64 (429496729600))])) := known table2_ok (by kernel_rfl) (by kernel_rfl) (by kernel_rfl)
/-- monocle/hit.scale (21 steps) -/
theorem call848 : MemoOk Tryz.prog glob hG (113, [(.agg [(.int false .i64 (429496729600)), (.int false .i64 (429496729600))]), (.int false .i64 (0)), (.int false .i64 (1000000000))], (.agg [(.int false .i64 (0)), (.int false .i64 (0))])) := known table2_ok (by kernel_rfl) (by kernel_rfl) (by kernel_rfl)
/-- monocle/hit.mul (21 steps) -/
theorem call849 : MemoOk Tryz.prog glob hG (83, [(.agg [(.int false .i64 (0)), (.int false .i64 (0))]), (.agg [(.int false .i64 (42949672960)), (.int false .i64 (42949672960))])], (.agg [(.int false .i64 (0)), (.int false .i64 (0))])) := known table2_ok (by kernel_rfl) (by kernel_rfl) (by kernel_rfl)
/-- monocle/hit.add (21 steps) -/
theorem call850 : MemoOk Tryz.prog glob hG (38, [(.agg [(.int false .i64 (42949672960)), (.int false .i64 (42949672960))]), (.agg [(.int false .i64 (0)), (.int false .i64 (0))])], (.agg [(.int false .i64 (42949672960)), (.int false .i64 (42949672960))])) := known table2_ok (by kernel_rfl) (by kernel_rfl) (by kernel_rfl)
/-- monocle/hit.mul (21 steps) -/
theorem call851 : MemoOk Tryz.prog glob hG (83, [(.agg [(.int false .i64 (-1048576)), (.int false .i64 (1048576))]), (.agg [(.int false .i64 (0)), (.int false .i64 (0))])], (.agg [(.int false .i64 (0)), (.int false .i64 (0))])) := known table2_ok (by kernel_rfl) (by kernel_rfl) (by kernel_rfl)
/-- monocle/hit.mul (21 steps) -/
theorem call852 : MemoOk Tryz.prog glob hG (83, [(.agg [(.int false .i64 (-1048576)), (.int false .i64 (1048576))]), (.agg [(.int false .i64 (4294967296)), (.int false .i64 (4294967296))])], (.agg [(.int false .i64 (-1048576)), (.int false .i64 (1048576))])) := known table2_ok (by kernel_rfl) (by kernel_rfl) (by kernel_rfl)
/-- monocle/surface.Sag (1480 steps) -/
theorem call853 : MemoOk Tryz.prog glob hG (157, [(.agg [(.int false .i64 (1)), (.int false .i64 (0)), (.int false .i64 (0)), (.int false .i64 (0)), (.int false .i64 (0)), (.int false .i64 (1000000)), (.int false .i64 (0)), (.int false .i64 (0)), (.int false .i64 (0)), (.int false .i64 (0)), (.int false .i64 (0)), (.int false .i64 (0)), (.int false .i64 (0)), (.str false ⟨#[]⟩), (.int false .i64 (0)), (.int false .i64 (0)), (.int false .i64 (0)), (.int false .i64 (0)), (.int false .i64 (0)), (.int false .i64 (0)), (.int false .i64 (0)), .nilslice]), (.agg [(.int false .i64 (0)), (.int false .i64 (0))]), (.agg [(.int false .i64 (42949672960)), (.int false .i64 (42949672960))])], (.tuple [(.agg [(.int false .i64 (4294967296)), (.int false .i64 (4294967296))]), (.int false .i64 (0))])) := known table2_ok (by kernel_rfl) (by kernel_rfl) (by kernel_rfl)
/-- monocle/hit.sub (21 steps) -/
theorem call854 : MemoOk Tryz.prog glob hG (115, [(.agg [(.int false .i64 (0)), (.int false .i64 (0))]), (.agg [(.int false .i64 (4294967296)), (.int false .i64 (4294967296))])], (.agg [(.int false .i64 (-4294967296)), (.int false .i64 (-4294967296))])) := known table2_ok (by kernel_rfl) (by kernel_rfl) (by kernel_rfl)
/-- monocle/hit.mul (21 steps) -/
theorem call855 : MemoOk Tryz.prog glob hG (83, [(.agg [(.int false .i64 (1717986918)), (.int false .i64 (1717986920))]), (.agg [(.int false .i64 (0)), (.int false .i64 (0))])], (.agg [(.int false .i64 (0)), (.int false .i64 (0))])) := known table2_ok (by kernel_rfl) (by kernel_rfl) (by kernel_rfl)
/-- monocle/hit.div (21 steps) -/
theorem call856 : MemoOk Tryz.prog glob hG (119, [(.agg [(.int false .i64 (-4294967296)), (.int false .i64 (-4294967296))]), (.agg [(.int false .i64 (4294967296)), (.int false .i64 (4294967296))])], (.agg [(.int false .i64 (-4294967296)), (.int false .i64 (-4294967296))])) := known table2_ok (by kernel_rfl) (by kernel_rfl) (by kernel_rfl)
/-- monocle/hit.sub (21 steps) -/
theorem call857 : MemoOk Tryz.prog glob hG (115, [(.agg [(.int false .i64 (0)), (.int false .i64 (0))]), (.agg [(.int false .i64 (-4294967296)), (.int false .i64 (-4294967296))])], (.agg [(.int false .i64 (4294967296)), (.int false .i64 (4294967296))])) := known table2_ok (by kernel_rfl) (by kernel_rfl) (by kernel_rfl)
/-- monocle/hit.mul (21 steps) -/
theorem call858 : MemoOk Tryz.prog glob hG (83, [(.agg [(.int false .i64 (-67108864)), (.int false .i64 (67108864))]), (.agg [(.int false .i64 (0)), (.int false .i64 (0))])], (.agg [(.int false .i64 (0)), (.int false .i64 (0))])) := known table2_ok (by kernel_rfl) (by kernel_rfl) (by kernel_rfl)
/-- monocle/hit.mul (21 steps) -/
theorem call859 : MemoOk Tryz.prog glob hG (83, [(.agg [(.int false .i64 (-67108864)), (.int false .i64 (67108864))]), (.agg [(.int false .i64 (4294967296)), (.int false .i64 (4294967296))])], (.agg [(.int false .i64 (-67108864)), (.int false .i64 (67108864))])) := known table2_ok (by kernel_rfl) (by kernel_rfl) (by kernel_rfl)
/-- monocle/hit.mul (21 steps) -/
theorem call860 : MemoOk Tryz.prog glob hG (83, [(.agg [(.int false .i64 (-2147483648)), (.int false .i64 (2147483648))]), (.agg [(.int false .i64 (0)), (.int false .i64 (0))])], (.agg [(.int false .i64 (0)), (.int false .i64 (0))])) := known table2_ok (by kernel_rfl) (by kernel_rfl) (by kernel_rfl)
/-- monocle/hit.mul (21 steps) -/
theorem call861 : MemoOk Tryz.prog glob hG (83, [(.agg [(.int false .i64 (-2147483648)), (.int false .i64 (2147483648))]), (.agg [(.int false .i64 (4294967296)), (.int false .i64 (4294967296))])], (.agg [(.int false .i64 (-2147483648)), (.int false .i64 (2147483648))])) := known table2_ok (by kernel_rfl) (by kernel_rfl) (by kernel_rfl)
/-- monocle/hit.mul (21 steps) -/
theorem call862 : MemoOk Tryz.prog glob hG (83, [(.agg [(.int false .i64 (-34359738368)), (.int false .i64 (34359738368))]), (.agg [(.int false .i64 (0)), (.int false .i64 (0))])], (.agg [(.int false .i64 (0)), (.int false .i64 (0))])) := known table2_ok (by kernel_rfl) (by kernel_rfl) (by kernel_rfl)
/-- monocle/hit.mul (21 steps) -/
theorem call863 : MemoOk Tryz.prog glob hG (83, [(.agg [(.int false .i64 (-34359738368)), (.int false .i64 (34359738368))]), (.agg [(.int false .i64 (4294967296)), (.int false .i64 (4294967296))])], (.agg [(.int false .i64 (-34359738368)), (.int false .i64 (34359738368))])) := known table2_ok (by kernel_rfl) (by kernel_rfl) (by kernel_rfl)
/-- monocle/hit.mul (21 steps) -/
theorem call864 : MemoOk Tryz.prog glob hG (83, [(.agg [(.int false .i64 (4294967296)), (.int false .i64 (4294967296))]), (.agg [(.int false .i64 (0)), (.int false .i64 (0))])], (.agg [(.int false .i64 (0)), (.int false .i64 (0))])) := known table2_ok (by kernel_rfl) (by kernel_rfl) (by kernel_rfl)
/-- monocle/hit.div (21 steps) -/
theorem call865 : MemoOk Tryz.prog glob hG (119, [(.agg [(.int false .i64 (0)), (.int false .i64 (0))]), (.agg [(.int false .i64 (4294967296)), (.int false .i64 (4294967296))])], (.agg [(.int false .i64 (0)), (.int false .i64 (0))])) := known table2_ok (by kernel_rfl) (by kernel_rfl) (by kernel_rfl)
/-- monocle/hit.add (21 steps) -/
theorem call866 : MemoOk Tryz.prog glob hG (38, [(.agg [(.int false .i64 (8589934592)), (.int false .i64 (8589934592))]), (.agg [(.int false .i64 (4294967296)), (.int false .i64 (4294967296))])], (.agg [(.int false .i64 (12884901888)), (.int false .i64 (12884901888))])) := known table2_ok (by kernel_rfl) (by kernel_rfl) (by kernel_rfl)
/-- monocle/monoclelaw25.mm (18 steps) -/
theorem call867 : MemoOk Tryz.prog glob hG (28, [(.int false .i64 (30000))], (.agg [(.int false .i64 (128849018880)), (.int false .i64 (128849018880))])) := known table2_ok (by kernel_rfl) (by kernel_rfl) (by kernel_rfl)
/-- monocle/surface.Check (1057 steps) -/
theorem call868 : MemoOk Tryz.prog glob hG (29, [(.agg [(.int false .i64 (2)), (.int false .i64 (20000000)), (.int false .i64 (0)), (.int false .i64 (0)), (.int false .i64 (0)), (.int false .i64 (0)), (.int false .i64 (0)), (.int false .i64 (0)), (.int false .i64 (0)), (.int false .i64 (0)), (.int false .i64 (0)), (.int false .i64 (0)), (.int false .i64 (0)), (.str false ⟨#[]⟩), (.int false .i64 (0)), (.int false .i64 (0)), (.int false .i64 (0)), (.int false .i64 (0)), (.int false .i64 (0)), (.int false .i64 (0)), (.int false .i64 (0)), .nilslice])], (.int false .i64 (0))) := known table2_ok (by kernel_rfl) (by kernel_rfl) (by kernel_rfl)
/-- monocle/ray.Check (383 steps) -/
theorem call869 : MemoOk Tryz.prog glob hG (30, [(.agg [(.int false .i64 (128849018880)), (.int false .i64 (128849018880)), (.int false .i64 (128849018880)), (.int false .i64 (128849018880)), (.int false .i64 (0)), (.int false .i64 (0)), (.int false .i64 (0)), (.int false .i64 (0)), (.int false .i64 (0)), (.int false .i64 (0)), (.int false .i64 (4294967296)), (.int false .i64 (4294967296))])], (.int false .i64 (0))) := known table2_ok (by kernel_rfl) (by kernel_rfl) (by kernel_rfl)
/-- monocle/hit.sqr (19 steps) -/
theorem call870 : MemoOk Tryz.prog glob hG (114, [(.agg [(.int false .i64 (128849018880)), (.int false .i64 (128849018880))])], (.agg [(.int false .i64 (3865470566400)), (.int false .i64 (3865470566400))])) := known table2_ok (by kernel_rfl) (by kernel_rfl) (by kernel_rfl)
/-- monocle/hit.add (21 steps) -/
theorem call871 : MemoOk Tryz.prog glob hG (38, [(.agg [(.int false .i64 (3865470566400)), (.int false .i64 (3865470566400))]), (.agg [(.int false .i64 (3865470566400)), (.int false .i64 (3865470566400))])], (.agg [(.int false .i64 (7730941132800)), (.int false .i64 (7730941132800))])) := known table2_ok (by kernel_rfl) (by kernel_rfl) (by kernel_rfl)
/-- monocle/hit.scale (21 steps) -/
theorem call872 : MemoOk Tryz.prog glob hG (113, [(.agg [(.int false .i64 (7730941132800)), (.int false .i64 (7730941132800))]), (.int false .i64 (10000000)), (.int false .i64 (1000000000))], (.agg [(.int false .i64 (77309411328)), (.int false .i64 (77309411328))])) := known table2_ok (by kernel_rfl) (by kernel_rfl) (by kernel_rfl)
/-- monocle/hit.mul (21 steps) -/
theorem call873 : MemoOk Tryz.prog glob hG (83, [(.agg [(.int false .i64 (0)), (.int false .i64 (0))]), (.agg [(.int false .i64 (128849018880)), (.int false .i64 (128849018880))])], (.agg [(.int false .i64 (0)), (.int false .i64 (0))])) := known table2_ok (by kernel_rfl) (by kernel_rfl) (by kernel_rfl)
/-- monocle/hit.scale (21 steps) -/
theorem call874 : MemoOk Tryz.prog glob hG (113, [(.agg [(.int false .i64 (77309411328)), (.int false .i64 (77309411328))]), (.int false .i64 (10000000)), (.int false .i64 (1000000000))], (.agg [(.int false .i64 (773094113)), (.int false .i64 (773094114))])) := known table2_ok (by kernel_rfl) (by kernel_rfl) (by kernel_rfl)
/-- monocle/hit.mul (21 steps) -/
theorem call875 : MemoOk Tryz.prog glob hG (83, [(.agg [(.int false .i64 (773094113)), (.int false .i64 (773094114))]), (.agg [(.int false .i64 (4294967296)), (.int false .i64 (4294967296))])], (.agg [(.int false .i64 (773094113)), (.int false .i64 (773094114))])) := known table2_ok (by kernel_rfl) (by kernel_rfl) (by kernel_rfl)
/-- monocle/hit.sub (21 steps) -/
theorem call876 : MemoOk Tryz.prog glob hG (115, [(.agg [(.int false .i64 (4294967296)), (.int false .i64 (4294967296))]), (.agg [(.int false .i64 (773094113)), (.int false .i64 (773094114))])], (.agg [(.int false .i64 (3521873182)), (.int false .i64 (3521873183))])) := known table2_ok (by kernel_rfl) (by kernel_rfl) (by kernel_rfl)
/-- monocle/hit.positive (11 steps) -/
theorem call877 : MemoOk Tryz.prog glob hG (116, [(.agg [(.int false .i64 (3521873182)), (.int false .i64 (3521873183))]), (.int false .i64 (0))], (.tuple [])) := known table2_ok (by kernel_rfl) (by kernel_rfl) (by kernel_rfl)
/-- monocle/hit.add (21 steps) -/
theorem call878 : MemoOk Tryz.prog glob hG (38, [(.agg [(.int false .i64 (4294967296)), (.int false .i64 (4294967296))]), (.agg [(.int false .i64 (3889258301)), (.int false .i64 (3889258303))])], (.agg [(.int false .i64 (8184225597)), (.int false .i64 (8184225599))])) := known table2_ok (by kernel_rfl) (by kernel_rfl) (by kernel_rfl)
/-- monocle/hit.div (21 steps) -/
theorem call879 : MemoOk Tryz.prog glob hG (119, [(.agg [(.int false .i64 (77309411328)), (.int false .i64 (77309411328))]), (.agg [(.int false .i64 (8184225597)), (.int false .i64 (8184225599))])], (.agg [(.int false .i64 (40570899385)), (.int false .i64 (40570899396))])) := known table2_ok (by kernel_rfl) (by kernel_rfl) (by kernel_rfl)
/-- monocle/hit.mul (21 steps) -/
theorem call880 : MemoOk Tryz.prog glob hG (83, [(.agg [(.int false .i64 (40570899385)), (.int false .i64 (40570899396))]), (.agg [(.int false .i64 (4294967296)), (.int false .i64 (4294967296))])], (.agg [(.int false .i64 (40570899385)), (.int false .i64 (40570899396))])) := known table2_ok (by kernel_rfl) (by kernel_rfl) (by kernel_rfl)
/-- monocle/hit.scale (21 steps) -/
theorem call881 : MemoOk Tryz.prog glob hG (113, [(.agg [(.int false .i64 (40570899385)), (.int false .i64 (40570899396))]), (.int false .i64 (1000000)), (.int false .i64 (1000000))], (.agg [(.int false .i64 (40570899385)), (.int false .i64 (40570899396))])) := known table2_ok (by kernel_rfl) (by kernel_rfl) (by kernel_rfl)
/-- monocle/hit.scale (21 steps) -/
theorem call882 : MemoOk Tryz.prog glob hG (113, [(.agg [(.int false .i64 (40570899385)), (.int false .i64 (40570899396))]), (.int false .i64 (10000000)), (.int false .i64 (1000000000))], (.agg [(.int false .i64 (405708993)), (.int false .i64 (405708994))])) := known table2_ok (by kernel_rfl) (by kernel_rfl) (by kernel_rfl)
/-- monocle/hit.sub (21 steps) -/
theorem call883 : MemoOk Tryz.prog glob hG (115, [(.agg [(.int false .i64 (4294967296)), (.int false .i64 (4294967296))]), (.agg [(.int false .i64 (405708993)), (.int false .i64 (405708994))])], (.agg [(.int false .i64 (3889258302)), (.int false .i64 (3889258303))])) := known table2_ok (by kernel_rfl) (by kernel_rfl) (by kernel_rfl)
/-- monocle/hit.positive (11 steps) -/
theorem call884 : MemoOk Tryz.prog glob hG (116, [(.agg [(.int false .i64 (3889258302)), (.int false .i64 (3889258303))]), (.int false .i64 (1))], (.tuple [])) := known table2_ok (by kernel_rfl) (by kernel_rfl) (by kernel_rfl)
/-- monocle/hit.mul (21 steps) -/
theorem call885 : MemoOk Tryz.prog glob hG (83, [(.agg [(.int false .i64 (40570899390)), (.int false .i64 (40570899390))]), (.agg [(.int false .i64 (0)), (.int false .i64 (0))])], (.agg [(.int false .i64 (0)), (.int false .i64 (0))])) := known table2_ok (by kernel_rfl) (by kernel_rfl) (by kernel_rfl)
/-- monocle/hit.add (21 steps) -/
theorem call886 : MemoOk Tryz.prog glob hG (38, [(.agg [(.int false .i64 (128849018880)), (.int false .i64 (128849018880))]), (.agg [(.int false .i64 (0)), (.int false .i64 (0))])], (.agg [(.int false .i64 (128849018880)), (.int false .i64 (128849018880))])) := known table2_ok (by kernel_rfl) (by kernel_rfl) (by kernel_rfl)
/-- monocle/hit.mul (21 steps) -/
theorem call887 : MemoOk Tryz.prog glob hG (83, [(.agg [(.int false .i64 (40570899390)), (.int false .i64 (40570899390))]), (.agg [(.int false .i64 (4294967296)), (.int false .i64 (4294967296))])], (.agg [(.int false .i64 (40570899390)), (.int false .i64 (40570899390))])) := known table2_ok (by kernel_rfl) (by kernel_rfl) (by kernel_rfl)
/-- monocle/hit.mul (21 steps) -/
theorem call888 : MemoOk Tryz.prog glob hG (83, [(.agg [(.int false .i64 (40569850809)), (.int false .i64 (40571947972))]), (.agg [(.int false .i64 (0)), (.int false .i64 (0))])], (.agg [(.int false .i64 (0)), (.int false .i64 (0))])) := known table2_ok (by kernel_rfl) (by kernel_rfl) (by kernel_rfl)
/-- monocle/hit.mul (21 steps) -/
theorem call889 : MemoOk Tryz.prog glob hG (83, [(.agg [(.int false .i64 (40569850809)), (.int false .i64 (40571947972))]), (.agg [(.int false .i64 (4294967296)), (.int false .i64 (4294967296))])], (.agg [(.int false .i64 (40569850809)), (.int false .i64 (40571947972))])) := known table2_ok (by kernel_rfl) (by kernel_rfl) (by kernel_rfl)
/-- monocle/surface.Sag (718 steps) -/
theorem call890 : MemoOk Tryz.prog glob hG (157, [(.agg [(.int false .i64 (2)), (.int false .i64 (20000000)), (.int false .i64 (0)), (.int false .i64 (0)), (.int false .i64 (0)), (.int false .i64 (0)), (.int false .i64 (0)), (.int false .i64 (0)), (.int false .i64 (0)), (.int false .i64 (0)), (.int false .i64 (0)), (.int false .i64 (0)), (.int false .i64 (0)), (.str false ⟨#[]⟩), (.int false .i64 (0)), (.int false .i64 (0)), (.int false .i64 (0)), (.int false .i64 (0)), (.int false .i64 (0)), (.int false .i64 (0)), (.int false .i64 (0)), .nilslice]), (.agg [(.int false .i64 (128849018880)), (.int false .i64 (128849018880))]), (.agg [(.int false .i64 (128849018880)), (.int false .i64 (128849018880))])], (.tuple [(.agg [(.int false .i64 (42949672953)), (.int false .i64 (42949672965))]), (.int false .i64 (0))])) := known table2_ok (by kernel_rfl) (by kernel_rfl) (by kernel_rfl)
/-- monocle/hit.sub (21 steps) -/
theorem call891 : MemoOk Tryz.prog glob hG (115, [(.agg [(.int false .i64 (40570899390)), (.int false .i64 (40570899390))]), (.agg [(.int false .i64 (42949672953)), (.int false .i64 (42949672965))])], (.agg [(.int false .i64 (-2378773575)), (.int false .i64 (-2378773563))])) := known table2_ok (by kernel_rfl) (by kernel_rfl) (by kernel_rfl)
/-- monocle/hit.mul (21 steps) -/
theorem call892 : MemoOk Tryz.prog glob hG (83, [(.agg [(.int false .i64 (3221225462)), (.int false .i64 (3221225483))]), (.agg [(.int false .i64 (0)), (.int false .i64 (0))])], (.agg [(.int false .i64 (0)), (.int false .i64 (0))])) := known table2_ok (by kernel_rfl) (by kernel_rfl) (by kernel_rfl)
/-- monocle/hit.div (21 steps) -/
theorem call893 : MemoOk Tryz.prog glob hG (119, [(.agg [(.int false .i64 (-2378773575)), (.int false .i64 (-2378773563))]), (.agg [(.int false .i64 (4294967296)), (.int false .i64 (4294967296))])], (.agg [(.int false .i64 (-2378773575)), (.int false .i64 (-2378773563))])) := known table2_ok (by kernel_rfl) (by kernel_rfl) (by kernel_rfl)
/-- monocle/hit.sub (21 steps) -/
theorem call894 : MemoOk Tryz.prog glob hG (115, [(.agg [(.int false .i64 (40570899390)), (.int false .i64 (40570899390))]), (.agg [(.int false .i64 (-2378773575)), (.int false .i64 (-2378773563))])], (.agg [(.int false .i64 (42949672953)), (.int false .i64 (42949672965))])) := known table2_ok (by kernel_rfl) (by kernel_rfl) (by kernel_rfl)
/-- monocle/hit.mul (21 steps) -/
theorem call895 : MemoOk Tryz.prog glob hG (83, [(.agg [(.int false .i64 (40503790521)), (.int false .i64 (40638008260))]), (.agg [(.int false .i64 (0)), (.int false .i64 (0))])], (.agg [(.int false .i64 (0)), (.int false .i64 (0))])) := known table2_ok (by kernel_rfl) (by kernel_rfl) (by kernel_rfl)
/-- monocle/hit.mul (21 steps) -/
theorem call896 : MemoOk Tryz.prog glob hG (83, [(.agg [(.int false .i64 (40503790521)), (.int false .i64 (40638008260))]), (.agg [(.int false .i64 (4294967296)), (.int false .i64 (4294967296))])], (.agg [(.int false .i64 (40503790521)), (.int false .i64 (40638008260))])) := known table2_ok (by kernel_rfl) (by kernel_rfl) (by kernel_rfl)
/-- monocle/hit.mul (21 steps) -/
theorem call897 : MemoOk Tryz.prog glob hG (83, [(.agg [(.int false .i64 (38423415737)), (.int false .i64 (42718383044))]), (.agg [(.int false .i64 (0)), (.int false .i64 (0))])], (.agg [(.int false .i64 (0)), (.int false .i64 (0))])) := known table2_ok (by kernel_rfl) (by kernel_rfl) (by kernel_rfl)
/-- monocle/hit.mul (21 steps) -/
theorem call898 : MemoOk Tryz.prog glob hG (83, [(.agg [(.int false .i64 (38423415737)), (.int false .i64 (42718383044))]), (.agg [(.int false .i64 (4294967296)), (.int false .i64 (4294967296))])], (.agg [(.int false .i64 (38423415737)), (.int false .i64 (42718383044))])) := known table2_ok (by kernel_rfl) (by kernel_rfl) (by kernel_rfl)
/-- monocle/hit.mul (21 steps) -/
theorem call899 : MemoOk Tryz.prog glob hG (83, [(.agg [(.int false .i64 (6211161017)), (.int false .i64 (74930637764))]), (.agg [(.int false .i64 (0)), (.int false .i64 (0))])], (.agg [(.int false .i64 (0)), (.int false .i64 (0))])) := known table2_ok (by kernel_rfl) (by kernel_rfl) (by kernel_rfl)
/-- monocle/hit.mul (21 steps) -/
theorem call900 : MemoOk Tryz.prog glob hG (83, [(.agg [(.int false .i64 (6211161017)), (.int false .i64 (74930637764))]), (.agg [(.int false .i64 (4294967296)), (.int false .i64 (4294967296))])], (.agg [(.int false .i64 (6211161017)), (.int false .i64 (74930637764))])) := known table2_ok (by kernel_rfl) (by kernel_rfl) (by kernel_rfl)
/-- monocle/hit.mul (21 steps) -/
theorem call901 : MemoOk Tryz.prog glob hG (83, [(.agg [(.int false .i64 (42949672959)), (.int false .i64 (42949672959))]), (.agg [(.int false .i64 (0)), (.int false .i64 (0))])], (.agg [(.int false .i64 (0)), (.int false .i64 (0))])) := known table2_ok (by kernel_rfl) (by kernel_rfl) (by kernel_rfl)
/-- monocle/hit.mul (21 steps) -/
theorem call902 : MemoOk Tryz.prog glob hG (83, [(.agg [(.int false .i64 (42949672959)), (.int false .i64 (42949672959))]), (.agg [(.int false .i64 (4294967296)), (.int false .i64 (4294967296))])], (.agg [(.int false .i64 (42949672959)), (.int false .i64 (42949672959))])) := known table2_ok (by kernel_rfl) (by kernel_rfl) (by kernel_rfl)
/-- monocle/hit.mul (21 steps) -/
theorem call903 : MemoOk Tryz.prog glob hG (83, [(.agg [(.int false .i64 (42949672953)), (.int false .i64 (42949672965))]), (.agg [(.int false .i64 (0)), (.int false .i64 (0))])], (.agg [(.int false .i64 (0)), (.int false .i64 (0))])) := known table2_ok (by kernel_rfl) (by kernel_rfl) (by kernel_rfl)
/-- monocle/hit.mul (21 steps) -/
theorem call904 : MemoOk Tryz.prog glob hG (83, [(.agg [(.int false .i64 (42949672953)), (.int false .i64 (42949672965))]), (.agg [(.int false .i64 (4294967296)), (.int false .i64 (4294967296))])], (.agg [(.int false .i64 (42949672953)), (.int false .i64 (42949672965))])) := known table2_ok (by kernel_rfl) (by kernel_rfl) (by kernel_rfl)
/-- monocle/hit.sub (21 steps) -/
theorem call905 : MemoOk Tryz.prog glob hG (115, [(.agg [(.int false .i64 (42949672959)), (.int false .i64 (42949672959))]), (.agg [(.int false .i64 (42949672953)), (.int false .i64 (42949672965))])], (.agg [(.int false .i64 (-6)), (.int false .i64 (6))])) := known table2_ok (by kernel_rfl) (by kernel_rfl) (by kernel_rfl)
/-- monocle/hit.div (21 steps) -/
theorem call906 : MemoOk Tryz.prog glob hG (119, [(.agg [(.int false .i64 (-6)), (.int false .i64 (6))]), (.agg [(.int false .i64 (4294967296)), (.int false .i64 (4294967296))])], (.agg [(.int false .i64 (-6)), (.int false .i64 (6))])) := known table2_ok (by kernel_rfl) (by kernel_rfl) (by kernel_rfl)
/-- monocle/hit.sub (21 steps) -/
theorem call907 : MemoOk Tryz.prog glob hG (115, [(.agg [(.int false .i64 (42949672959)), (.int false .i64 (42949672959))]), (.agg [(.int false .i64 (-6)), (.int false .i64 (6))])], (.agg [(.int false .i64 (42949672953)), (.int false .i64 (42949672965))])) := known table2_ok (by kernel_rfl) (by kernel_rfl) (by kernel_rfl)
/-- monocle/hit.add (21 steps) -/
theorem call908 : MemoOk Tryz.prog glob hG (38, [(.agg [(.int false .i64 (0)), (.int false .i64 (0))]), (.agg [(.int false .i64 (42949672953)), (.int false .i64 (42949672965))])], (.agg [(.int false .i64 (42949672953)), (.int false .i64 (42949672965))])) := known table2_ok (by kernel_rfl) (by kernel_rfl) (by kernel_rfl)
/-- monocle/ray.Check (383 steps) -/
theorem call909 : MemoOk Tryz.prog glob hG (30, [(.agg [(.int false .i64 (2251799813685248)), (.int false .i64 (2251799813685248)), (.int false .i64 (2251799813685248)), (.int false .i64 (2251799813685248)), (.int false .i64 (0)), (.int false .i64 (0)), (.int false .i64 (0)), (.int false .i64 (0)), (.int false .i64 (0)), (.int false .i64 (0)), (.int false .i64 (4294967296)), (.int false .i64 (4294967296))])], (.int false .i64 (0))) := known table2_ok (by kernel_rfl) (by kernel_rfl) (by kernel_rfl)
end Go.Proofs.YtdljkgcdgidldaaGreatDoor
