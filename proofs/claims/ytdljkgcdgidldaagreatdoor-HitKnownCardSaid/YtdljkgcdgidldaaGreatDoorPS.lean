/- What is proved: HitKnown returns true (part 19 of 26). No conditions beyond those of the row. -/
import Derived.Test.YtdljkgcdgidldaaGreatDoorPL
set_option linter.unusedVariables false
set_option linter.unusedSimpArgs false
set_option linter.unusedSectionVars false
/- What is proved: calls of the law HitKnown, of which the answers are known (level 2). No conditions. -/
namespace Go.Proofs.YtdljkgcdgidldaaGreatDoor
open Go Go.Eng

/-- monocle/span.Mul (444 steps) -/
theorem call571 : MemoOk Tryz.prog glob hG (128, [(.agg [(.int false .i64 (69650289224)), (.int false .i64 (69650296571))]), (.agg [(.int false .i64 (429496729)), (.int false .i64 (429496730))])], (.tuple [(.agg [(.int false .i64 (6965028912)), (.int false .i64 (6965029664))]), (.int false .i64 (0))])) := known table1_ok (by kernel_rfl) (by kernel_rfl) (by kernel_rfl)
/-- monocle/span.Scale (62 steps) -/
theorem call572 : MemoOk Tryz.prog glob hG (150, [(.agg [(.int false .i64 (6965028912)), (.int false .i64 (6965029664))]), (.int false .i64 (1000000)), (.int false .i64 (1000000))], (.tuple [(.agg [(.int false .i64 (6965028912)), (.int false .i64 (6965029664))]), (.int false .i64 (0))])) := known table1_ok (by kernel_rfl) (by kernel_rfl) (by kernel_rfl)
/-- monocle/span.Scale (62 steps) -/
theorem call573 : MemoOk Tryz.prog glob hG (150, [(.agg [(.int false .i64 (6965028912)), (.int false .i64 (6965029664))]), (.int false .i64 (1000000000)), (.int false .i64 (1000000000))], (.tuple [(.agg [(.int false .i64 (6965028912)), (.int false .i64 (6965029664))]), (.int false .i64 (0))])) := known table1_ok (by kernel_rfl) (by kernel_rfl) (by kernel_rfl)
/-- monocle/span.Sub (114 steps) -/
theorem call574 : MemoOk Tryz.prog glob hG (152, [(.agg [(.int false .i64 (4294967296)), (.int false .i64 (4294967296))]), (.agg [(.int false .i64 (6965028912)), (.int false .i64 (6965029664))])], (.tuple [(.agg [(.int false .i64 (-2670062368)), (.int false .i64 (-2670061616))]), (.int false .i64 (0))])) := known table1_ok (by kernel_rfl) (by kernel_rfl) (by kernel_rfl)
/-- monocle/monocleref02.Scale (6975 steps) -/
theorem call575 : MemoOk Tryz.prog glob hG (61, [(.agg [(.int false .i64 (4294967296)), (.int false .i64 (4294967296))]), (.int false .i64 (10000)), (.int false .i64 (1000))], (.tuple [(.agg [(.int false .i64 (42949672960)), (.int false .i64 (42949672960))]), (.int false .i64 (0))])) := known table1_ok (by kernel_rfl) (by kernel_rfl) (by kernel_rfl)
/-- monocle/span.Neg (54 steps) -/
theorem call576 : MemoOk Tryz.prog glob hG (118, [(.agg [(.int false .i64 (-8589934592)), (.int false .i64 (-8589934592))])], (.tuple [(.agg [(.int false .i64 (8589934592)), (.int false .i64 (8589934592))]), (.int false .i64 (0))])) := known table1_ok (by kernel_rfl) (by kernel_rfl) (by kernel_rfl)
/-- monocle/span.Div (443 steps) -/
theorem call577 : MemoOk Tryz.prog glob hG (127, [(.agg [(.int false .i64 (8589934592)), (.int false .i64 (8589934592))]), (.agg [(.int false .i64 (4294967296)), (.int false .i64 (4294967296))])], (.tuple [(.agg [(.int false .i64 (8589934592)), (.int false .i64 (8589934592))]), (.int false .i64 (0))])) := known table1_ok (by kernel_rfl) (by kernel_rfl) (by kernel_rfl)
/-- monocle/span.Mul (435 steps) -/
theorem call578 : MemoOk Tryz.prog glob hG (128, [(.agg [(.int false .i64 (8589934592)), (.int false .i64 (8589934592))]), (.agg [(.int false .i64 (0)), (.int false .i64 (0))])], (.tuple [(.agg [(.int false .i64 (0)), (.int false .i64 (0))]), (.int false .i64 (0))])) := known table1_ok (by kernel_rfl) (by kernel_rfl) (by kernel_rfl)
/-- monocle/span.Add (114 steps) -/
theorem call579 : MemoOk Tryz.prog glob hG (85, [(.agg [(.int false .i64 (42949672960)), (.int false .i64 (42949672960))]), (.agg [(.int false .i64 (0)), (.int false .i64 (0))])], (.tuple [(.agg [(.int false .i64 (42949672960)), (.int false .i64 (42949672960))]), (.int false .i64 (0))])) := known table1_ok (by kernel_rfl) (by kernel_rfl) (by kernel_rfl)
/-- monocle/span.Sqr (1178 steps) -/
theorem call580 : MemoOk Tryz.prog glob hG (151, [(.agg [(.int false .i64 (42949672960)), (.int false .i64 (42949672960))])], (.tuple [(.agg [(.int false .i64 (429496729600)), (.int false .i64 (429496729600))]), (.int false .i64 (0))])) := known table1_ok (by kernel_rfl) (by kernel_rfl) (by kernel_rfl)
/-- monocle/span.Add (114 steps) -/
theorem call581 : MemoOk Tryz.prog glob hG (85, [(.agg [(.int false .i64 (0)), (.int false .i64 (0))]), (.agg [(.int false .i64 (429496729600)), (.int false .i64 (429496729600))])], (.tuple [(.agg [(.int false .i64 (429496729600)), (.int false .i64 (429496729600))]), (.int false .i64 (0))])) := known table1_ok (by kernel_rfl) (by kernel_rfl) (by kernel_rfl)
/-- monocle/span.Scale (62 steps) -/
theorem call582 : MemoOk Tryz.prog glob hG (150, [(.agg [(.int false .i64 (429496729600)), (.int false .i64 (429496729600))]), (.int false .i64 (0)), (.int false .i64 (1000000000))], (.tuple [(.agg [(.int false .i64 (0)), (.int false .i64 (0))]), (.int false .i64 (0))])) := known table1_ok (by kernel_rfl) (by kernel_rfl) (by kernel_rfl)
/-- monocle/span.Mul (435 steps) -/
theorem call583 : MemoOk Tryz.prog glob hG (128, [(.agg [(.int false .i64 (0)), (.int false .i64 (0))]), (.agg [(.int false .i64 (42949672960)), (.int false .i64 (42949672960))])], (.tuple [(.agg [(.int false .i64 (0)), (.int false .i64 (0))]), (.int false .i64 (0))])) := known table1_ok (by kernel_rfl) (by kernel_rfl) (by kernel_rfl)
/-- monocle/span.Add (114 steps) -/
theorem call584 : MemoOk Tryz.prog glob hG (85, [(.agg [(.int false .i64 (0)), (.int false .i64 (0))]), (.agg [(.int false .i64 (-1048576)), (.int false .i64 (1048576))])], (.tuple [(.agg [(.int false .i64 (-1048576)), (.int false .i64 (1048576))]), (.int false .i64 (0))])) := known table1_ok (by kernel_rfl) (by kernel_rfl) (by kernel_rfl)
/-- monocle/span.Mid (37 steps) -/
theorem call585 : MemoOk Tryz.prog glob hG (156, [(.agg [(.int false .i64 (-1048576)), (.int false .i64 (1048576))])], (.tuple [(.int false .i64 (0)), (.int false .i64 (0))])) := known table1_ok (by kernel_rfl) (by kernel_rfl) (by kernel_rfl)
/-- monocle/span.Mul (435 steps) -/
theorem call586 : MemoOk Tryz.prog glob hG (128, [(.agg [(.int false .i64 (-1048576)), (.int false .i64 (1048576))]), (.agg [(.int false .i64 (0)), (.int false .i64 (0))])], (.tuple [(.agg [(.int false .i64 (0)), (.int false .i64 (0))]), (.int false .i64 (0))])) := known table1_ok (by kernel_rfl) (by kernel_rfl) (by kernel_rfl)
/-- monocle/span.Mul (438 steps) -/
theorem call587 : MemoOk Tryz.prog glob hG (128, [(.agg [(.int false .i64 (-1048576)), (.int false .i64 (1048576))]), (.agg [(.int false .i64 (4294967296)), (.int false .i64 (4294967296))])], (.tuple [(.agg [(.int false .i64 (-1048576)), (.int false .i64 (1048576))]), (.int false .i64 (0))])) := known table1_ok (by kernel_rfl) (by kernel_rfl) (by kernel_rfl)
/-- monocle/span.Scale (62 steps) -/
theorem call588 : MemoOk Tryz.prog glob hG (150, [(.agg [(.int false .i64 (429496729600)), (.int false .i64 (429496729600))]), (.int false .i64 (1)), (.int false .i64 (100))], (.tuple [(.agg [(.int false .i64 (4294967296)), (.int false .i64 (4294967296))]), (.int false .i64 (0))])) := known table1_ok (by kernel_rfl) (by kernel_rfl) (by kernel_rfl)
/-- monocle/span.Sub (114 steps) -/
theorem call589 : MemoOk Tryz.prog glob hG (152, [(.agg [(.int false .i64 (0)), (.int false .i64 (0))]), (.agg [(.int false .i64 (4294967296)), (.int false .i64 (4294967296))])], (.tuple [(.agg [(.int false .i64 (-4294967296)), (.int false .i64 (-4294967296))]), (.int false .i64 (0))])) := known table1_ok (by kernel_rfl) (by kernel_rfl) (by kernel_rfl)
/-- monocle/span.Scale (62 steps) -/
theorem call590 : MemoOk Tryz.prog glob hG (150, [(.agg [(.int false .i64 (4294967296)), (.int false .i64 (4294967296))]), (.int false .i64 (2000000)), (.int false .i64 (1000000))], (.tuple [(.agg [(.int false .i64 (8589934592)), (.int false .i64 (8589934592))]), (.int false .i64 (0))])) := known table1_ok (by kernel_rfl) (by kernel_rfl) (by kernel_rfl)
/-- monocle/span.Add (114 steps) -/
theorem call591 : MemoOk Tryz.prog glob hG (85, [(.agg [(.int false .i64 (0)), (.int false .i64 (0))]), (.agg [(.int false .i64 (8589934592)), (.int false .i64 (8589934592))])], (.tuple [(.agg [(.int false .i64 (8589934592)), (.int false .i64 (8589934592))]), (.int false .i64 (0))])) := known table1_ok (by kernel_rfl) (by kernel_rfl) (by kernel_rfl)
/-- monocle/span.Scale (62 steps) -/
theorem call592 : MemoOk Tryz.prog glob hG (150, [(.agg [(.int false .i64 (0)), (.int false .i64 (0))]), (.int false .i64 (1)), (.int false .i64 (50))], (.tuple [(.agg [(.int false .i64 (0)), (.int false .i64 (0))]), (.int false .i64 (0))])) := known table1_ok (by kernel_rfl) (by kernel_rfl) (by kernel_rfl)
/-- monocle/span.Mul (435 steps) -/
theorem call593 : MemoOk Tryz.prog glob hG (128, [(.agg [(.int false .i64 (4294967296)), (.int false .i64 (4294967296))]), (.agg [(.int false .i64 (8589934592)), (.int false .i64 (8589934592))])], (.tuple [(.agg [(.int false .i64 (8589934592)), (.int false .i64 (8589934592))]), (.int false .i64 (0))])) := known table1_ok (by kernel_rfl) (by kernel_rfl) (by kernel_rfl)
/-- monocle/span.Scale (62 steps) -/
theorem call594 : MemoOk Tryz.prog glob hG (150, [(.agg [(.int false .i64 (42949672960)), (.int false .i64 (42949672960))]), (.int false .i64 (0)), (.int false .i64 (1000000000))], (.tuple [(.agg [(.int false .i64 (0)), (.int false .i64 (0))]), (.int false .i64 (0))])) := known table1_ok (by kernel_rfl) (by kernel_rfl) (by kernel_rfl)
/-- monocle/span.Scale (62 steps) -/
theorem call595 : MemoOk Tryz.prog glob hG (150, [(.agg [(.int false .i64 (42949672960)), (.int false .i64 (42949672960))]), (.int false .i64 (1)), (.int false .i64 (50))], (.tuple [(.agg [(.int false .i64 (858993459)), (.int false .i64 (858993460))]), (.int false .i64 (0))])) := known table1_ok (by kernel_rfl) (by kernel_rfl) (by kernel_rfl)
/-- monocle/span.Mul (438 steps) -/
theorem call596 : MemoOk Tryz.prog glob hG (128, [(.agg [(.int false .i64 (858993459)), (.int false .i64 (858993460))]), (.agg [(.int false .i64 (8589934592)), (.int false .i64 (8589934592))])], (.tuple [(.agg [(.int false .i64 (1717986918)), (.int false .i64 (1717986920))]), (.int false .i64 (0))])) := known table1_ok (by kernel_rfl) (by kernel_rfl) (by kernel_rfl)
/-- monocle/span.Add (114 steps) -/
theorem call597 : MemoOk Tryz.prog glob hG (85, [(.agg [(.int false .i64 (0)), (.int false .i64 (0))]), (.agg [(.int false .i64 (1717986918)), (.int false .i64 (1717986920))])], (.tuple [(.agg [(.int false .i64 (1717986918)), (.int false .i64 (1717986920))]), (.int false .i64 (0))])) := known table1_ok (by kernel_rfl) (by kernel_rfl) (by kernel_rfl)
/-- monocle/span.Mul (435 steps) -/
theorem call598 : MemoOk Tryz.prog glob hG (128, [(.agg [(.int false .i64 (1717986918)), (.int false .i64 (1717986920))]), (.agg [(.int false .i64 (0)), (.int false .i64 (0))])], (.tuple [(.agg [(.int false .i64 (0)), (.int false .i64 (0))]), (.int false .i64 (0))])) := known table1_ok (by kernel_rfl) (by kernel_rfl) (by kernel_rfl)
/-- monocle/span.Div (443 steps) -/
theorem call599 : MemoOk Tryz.prog glob hG (127, [(.agg [(.int false .i64 (-4294967296)), (.int false .i64 (-4294967296))]), (.agg [(.int false .i64 (4294967296)), (.int false .i64 (4294967296))])], (.tuple [(.agg [(.int false .i64 (-4294967296)), (.int false .i64 (-4294967296))]), (.int false .i64 (0))])) := known table1_ok (by kernel_rfl) (by kernel_rfl) (by kernel_rfl)
/-- monocle/span.Sub (114 steps) -/
theorem call600 : MemoOk Tryz.prog glob hG (152, [(.agg [(.int false .i64 (0)), (.int false .i64 (0))]), (.agg [(.int false .i64 (-4294967296)), (.int false .i64 (-4294967296))])], (.tuple [(.agg [(.int false .i64 (4294967296)), (.int false .i64 (4294967296))]), (.int false .i64 (0))])) := known table1_ok (by kernel_rfl) (by kernel_rfl) (by kernel_rfl)
/-- monocle/span.Meet (103 steps) -/
theorem call601 : MemoOk Tryz.prog glob hG (125, [(.agg [(.int false .i64 (4294967296)), (.int false .i64 (4294967296))]), (.agg [(.int false .i64 (-1048576)), (.int false .i64 (1048576))])], (.tuple [(.agg [(.int false .i64 (0)), (.int false .i64 (0))]), (.int false .i64 (4))])) := known table1_ok (by kernel_rfl) (by kernel_rfl) (by kernel_rfl)
/-- monocle/span.Add (114 steps) -/
theorem call602 : MemoOk Tryz.prog glob hG (85, [(.agg [(.int false .i64 (0)), (.int false .i64 (0))]), (.agg [(.int false .i64 (-67108864)), (.int false .i64 (67108864))])], (.tuple [(.agg [(.int false .i64 (-67108864)), (.int false .i64 (67108864))]), (.int false .i64 (0))])) := known table1_ok (by kernel_rfl) (by kernel_rfl) (by kernel_rfl)
/-- monocle/span.Mid (37 steps) -/
theorem call603 : MemoOk Tryz.prog glob hG (156, [(.agg [(.int false .i64 (-67108864)), (.int false .i64 (67108864))])], (.tuple [(.int false .i64 (0)), (.int false .i64 (0))])) := known table1_ok (by kernel_rfl) (by kernel_rfl) (by kernel_rfl)
/-- monocle/span.Mul (435 steps) -/
theorem call604 : MemoOk Tryz.prog glob hG (128, [(.agg [(.int false .i64 (-67108864)), (.int false .i64 (67108864))]), (.agg [(.int false .i64 (0)), (.int false .i64 (0))])], (.tuple [(.agg [(.int false .i64 (0)), (.int false .i64 (0))]), (.int false .i64 (0))])) := known table1_ok (by kernel_rfl) (by kernel_rfl) (by kernel_rfl)
/-- monocle/span.Mul (438 steps) -/
theorem call605 : MemoOk Tryz.prog glob hG (128, [(.agg [(.int false .i64 (-67108864)), (.int false .i64 (67108864))]), (.agg [(.int false .i64 (4294967296)), (.int false .i64 (4294967296))])], (.tuple [(.agg [(.int false .i64 (-67108864)), (.int false .i64 (67108864))]), (.int false .i64 (0))])) := known table1_ok (by kernel_rfl) (by kernel_rfl) (by kernel_rfl)
/-- monocle/span.Meet (103 steps) -/
theorem call606 : MemoOk Tryz.prog glob hG (125, [(.agg [(.int false .i64 (4294967296)), (.int false .i64 (4294967296))]), (.agg [(.int false .i64 (-67108864)), (.int false .i64 (67108864))])], (.tuple [(.agg [(.int false .i64 (0)), (.int false .i64 (0))]), (.int false .i64 (4))])) := known table1_ok (by kernel_rfl) (by kernel_rfl) (by kernel_rfl)
/-- monocle/span.Add (114 steps) -/
theorem call607 : MemoOk Tryz.prog glob hG (85, [(.agg [(.int false .i64 (0)), (.int false .i64 (0))]), (.agg [(.int false .i64 (-2147483648)), (.int false .i64 (2147483648))])], (.tuple [(.agg [(.int false .i64 (-2147483648)), (.int false .i64 (2147483648))]), (.int false .i64 (0))])) := known table1_ok (by kernel_rfl) (by kernel_rfl) (by kernel_rfl)
/-- monocle/span.Mid (37 steps) -/
theorem call608 : MemoOk Tryz.prog glob hG (156, [(.agg [(.int false .i64 (-2147483648)), (.int false .i64 (2147483648))])], (.tuple [(.int false .i64 (0)), (.int false .i64 (0))])) := known table1_ok (by kernel_rfl) (by kernel_rfl) (by kernel_rfl)
/-- monocle/span.Mul (435 steps) -/
theorem call609 : MemoOk Tryz.prog glob hG (128, [(.agg [(.int false .i64 (-2147483648)), (.int false .i64 (2147483648))]), (.agg [(.int false .i64 (0)), (.int false .i64 (0))])], (.tuple [(.agg [(.int false .i64 (0)), (.int false .i64 (0))]), (.int false .i64 (0))])) := known table1_ok (by kernel_rfl) (by kernel_rfl) (by kernel_rfl)
/-- monocle/span.Mul (438 steps) -/
theorem call610 : MemoOk Tryz.prog glob hG (128, [(.agg [(.int false .i64 (-2147483648)), (.int false .i64 (2147483648))]), (.agg [(.int false .i64 (4294967296)), (.int false .i64 (4294967296))])], (.tuple [(.agg [(.int false .i64 (-2147483648)), (.int false .i64 (2147483648))]), (.int false .i64 (0))])) := known table1_ok (by kernel_rfl) (by kernel_rfl) (by kernel_rfl)
/-- monocle/span.Meet (103 steps) -/
theorem call611 : MemoOk Tryz.prog glob hG (125, [(.agg [(.int false .i64 (4294967296)), (.int false .i64 (4294967296))]), (.agg [(.int false .i64 (-2147483648)), (.int false .i64 (2147483648))])], (.tuple [(.agg [(.int false .i64 (0)), (.int false .i64 (0))]), (.int false .i64 (4))])) := known table1_ok (by kernel_rfl) (by kernel_rfl) (by kernel_rfl)
/-- monocle/span.Add (114 steps) -/
theorem call612 : MemoOk Tryz.prog glob hG (85, [(.agg [(.int false .i64 (0)), (.int false .i64 (0))]), (.agg [(.int false .i64 (-34359738368)), (.int false .i64 (34359738368))])], (.tuple [(.agg [(.int false .i64 (-34359738368)), (.int false .i64 (34359738368))]), (.int false .i64 (0))])) := known table1_ok (by kernel_rfl) (by kernel_rfl) (by kernel_rfl)
/-- monocle/span.Mid (37 steps) -/
theorem call613 : MemoOk Tryz.prog glob hG (156, [(.agg [(.int false .i64 (-34359738368)), (.int false .i64 (34359738368))])], (.tuple [(.int false .i64 (0)), (.int false .i64 (0))])) := known table1_ok (by kernel_rfl) (by kernel_rfl) (by kernel_rfl)
/-- monocle/span.Mul (435 steps) -/
theorem call614 : MemoOk Tryz.prog glob hG (128, [(.agg [(.int false .i64 (-34359738368)), (.int false .i64 (34359738368))]), (.agg [(.int false .i64 (0)), (.int false .i64 (0))])], (.tuple [(.agg [(.int false .i64 (0)), (.int false .i64 (0))]), (.int false .i64 (0))])) := known table1_ok (by kernel_rfl) (by kernel_rfl) (by kernel_rfl)
/-- monocle/span.Mul (438 steps) -/
theorem call615 : MemoOk Tryz.prog glob hG (128, [(.agg [(.int false .i64 (-34359738368)), (.int false .i64 (34359738368))]), (.agg [(.int false .i64 (4294967296)), (.int false .i64 (4294967296))])], (.tuple [(.agg [(.int false .i64 (-34359738368)), (.int false .i64 (34359738368))]), (.int false .i64 (0))])) := known table1_ok (by kernel_rfl) (by kernel_rfl) (by kernel_rfl)
/-- monocle/span.Meet (121 steps) -/
theorem call616 : MemoOk Tryz.prog glob hG (125, [(.agg [(.int false .i64 (4294967296)), (.int false .i64 (4294967296))]), (.agg [(.int false .i64 (-34359738368)), (.int false .i64 (34359738368))])], (.tuple [(.agg [(.int false .i64 (4294967296)), (.int false .i64 (4294967296))]), (.int false .i64 (0))])) := known table1_ok (by kernel_rfl) (by kernel_rfl) (by kernel_rfl)
/-- monocle/span.Mid (37 steps) -/
theorem call617 : MemoOk Tryz.prog glob hG (156, [(.agg [(.int false .i64 (4294967296)), (.int false .i64 (4294967296))])], (.tuple [(.int false .i64 (4294967296)), (.int false .i64 (0))])) := known table1_ok (by kernel_rfl) (by kernel_rfl) (by kernel_rfl)
/-- monocle/span.Meet (121 steps) -/
theorem call618 : MemoOk Tryz.prog glob hG (125, [(.agg [(.int false .i64 (4294967296)), (.int false .i64 (4294967296))]), (.agg [(.int false .i64 (4294967296)), (.int false .i64 (4294967296))])], (.tuple [(.agg [(.int false .i64 (4294967296)), (.int false .i64 (4294967296))]), (.int false .i64 (0))])) := known table1_ok (by kernel_rfl) (by kernel_rfl) (by kernel_rfl)
/-- monocle/span.Add (114 steps) -/
theorem call619 : MemoOk Tryz.prog glob hG (85, [(.agg [(.int false .i64 (8589934592)), (.int false .i64 (8589934592))]), (.agg [(.int false .i64 (4294967296)), (.int false .i64 (4294967296))])], (.tuple [(.agg [(.int false .i64 (12884901888)), (.int false .i64 (12884901888))]), (.int false .i64 (0))])) := known table1_ok (by kernel_rfl) (by kernel_rfl) (by kernel_rfl)
/-- monocle/monocleref02.Scale (6975 steps) -/
theorem call620 : MemoOk Tryz.prog glob hG (61, [(.agg [(.int false .i64 (4294967296)), (.int false .i64 (4294967296))]), (.int false .i64 (30000)), (.int false .i64 (1000))], (.tuple [(.agg [(.int false .i64 (128849018880)), (.int false .i64 (128849018880))]), (.int false .i64 (0))])) := known table1_ok (by kernel_rfl) (by kernel_rfl) (by kernel_rfl)
/-- monocle/span.Add (114 steps) -/
theorem call621 : MemoOk Tryz.prog glob hG (85, [(.agg [(.int false .i64 (128849018880)), (.int false .i64 (128849018880))]), (.agg [(.int false .i64 (0)), (.int false .i64 (0))])], (.tuple [(.agg [(.int false .i64 (128849018880)), (.int false .i64 (128849018880))]), (.int false .i64 (0))])) := known table1_ok (by kernel_rfl) (by kernel_rfl) (by kernel_rfl)
/-- monocle/span.Sqr (1178 steps) -/
theorem call622 : MemoOk Tryz.prog glob hG (151, [(.agg [(.int false .i64 (128849018880)), (.int false .i64 (128849018880))])], (.tuple [(.agg [(.int false .i64 (3865470566400)), (.int false .i64 (3865470566400))]), (.int false .i64 (0))])) := known table1_ok (by kernel_rfl) (by kernel_rfl) (by kernel_rfl)
/-- monocle/span.Add (114 steps) -/
theorem call623 : MemoOk Tryz.prog glob hG (85, [(.agg [(.int false .i64 (3865470566400)), (.int false .i64 (3865470566400))]), (.agg [(.int false .i64 (3865470566400)), (.int false .i64 (3865470566400))])], (.tuple [(.agg [(.int false .i64 (7730941132800)), (.int false .i64 (7730941132800))]), (.int false .i64 (0))])) := known table1_ok (by kernel_rfl) (by kernel_rfl) (by kernel_rfl)
/-- monocle/span.Scale (62 steps) -/
theorem call624 : MemoOk Tryz.prog glob hG (150, [(.agg [(.int false .i64 (7730941132800)), (.int false .i64 (7730941132800))]), (.int false .i64 (10000000)), (.int false .i64 (1000000000))], (.tuple [(.agg [(.int false .i64 (77309411328)), (.int false .i64 (77309411328))]), (.int false .i64 (0))])) := known table1_ok (by kernel_rfl) (by kernel_rfl) (by kernel_rfl)
/-- monocle/span.Mul (435 steps) -/
theorem call625 : MemoOk Tryz.prog glob hG (128, [(.agg [(.int false .i64 (0)), (.int false .i64 (0))]), (.agg [(.int false .i64 (128849018880)), (.int false .i64 (128849018880))])], (.tuple [(.agg [(.int false .i64 (0)), (.int false .i64 (0))]), (.int false .i64 (0))])) := known table1_ok (by kernel_rfl) (by kernel_rfl) (by kernel_rfl)
/-- monocle/span.Scale (62 steps) -/
theorem call626 : MemoOk Tryz.prog glob hG (150, [(.agg [(.int false .i64 (77309411328)), (.int false .i64 (77309411328))]), (.int false .i64 (10000000)), (.int false .i64 (1000000000))], (.tuple [(.agg [(.int false .i64 (773094113)), (.int false .i64 (773094114))]), (.int false .i64 (0))])) := known table1_ok (by kernel_rfl) (by kernel_rfl) (by kernel_rfl)
/-- monocle/span.Mul (438 steps) -/
theorem call627 : MemoOk Tryz.prog glob hG (128, [(.agg [(.int false .i64 (773094113)), (.int false .i64 (773094114))]), (.agg [(.int false .i64 (4294967296)), (.int false .i64 (4294967296))])], (.tuple [(.agg [(.int false .i64 (773094113)), (.int false .i64 (773094114))]), (.int false .i64 (0))])) := known table1_ok (by kernel_rfl) (by kernel_rfl) (by kernel_rfl)
/-- monocle/span.Sub (114 steps) -/
theorem call628 : MemoOk Tryz.prog glob hG (152, [(.agg [(.int false .i64 (4294967296)), (.int false .i64 (4294967296))]), (.agg [(.int false .i64 (773094113)), (.int false .i64 (773094114))])], (.tuple [(.agg [(.int false .i64 (3521873182)), (.int false .i64 (3521873183))]), (.int false .i64 (0))])) := known table1_ok (by kernel_rfl) (by kernel_rfl) (by kernel_rfl)
/-- monocle/span.Sqrt (69 steps) -/
theorem call629 : MemoOk Tryz.prog glob hG (117, [(.agg [(.int false .i64 (3521873182)), (.int false .i64 (3521873183))])], (.tuple [(.agg [(.int false .i64 (3889258301)), (.int false .i64 (3889258303))]), (.int false .i64 (0))])) := known table1_ok (by kernel_rfl) (by kernel_rfl) (by kernel_rfl)
/-- monocle/span.Add (114 steps) -/
theorem call630 : MemoOk Tryz.prog glob hG (85, [(.agg [(.int false .i64 (4294967296)), (.int false .i64 (4294967296))]), (.agg [(.int false .i64 (3889258301)), (.int false .i64 (3889258303))])], (.tuple [(.agg [(.int false .i64 (8184225597)), (.int false .i64 (8184225599))]), (.int false .i64 (0))])) := known table1_ok (by kernel_rfl) (by kernel_rfl) (by kernel_rfl)
/-- monocle/span.Div (446 steps) -/
theorem call631 : MemoOk Tryz.prog glob hG (127, [(.agg [(.int false .i64 (77309411328)), (.int false .i64 (77309411328))]), (.agg [(.int false .i64 (8184225597)), (.int false .i64 (8184225599))])], (.tuple [(.agg [(.int false .i64 (40570899385)), (.int false .i64 (40570899396))]), (.int false .i64 (0))])) := known table1_ok (by kernel_rfl) (by kernel_rfl) (by kernel_rfl)
/-- monocle/span.Mul (438 steps) -/
theorem call632 : MemoOk Tryz.prog glob hG (128, [(.agg [(.int false .i64 (40570899385)), (.int false .i64 (40570899396))]), (.agg [(.int false .i64 (4294967296)), (.int false .i64 (4294967296))])], (.tuple [(.agg [(.int false .i64 (40570899385)), (.int false .i64 (40570899396))]), (.int false .i64 (0))])) := known table1_ok (by kernel_rfl) (by kernel_rfl) (by kernel_rfl)
/-- monocle/span.Scale (62 steps) -/
theorem call633 : MemoOk Tryz.prog glob hG (150, [(.agg [(.int false .i64 (40570899385)), (.int false .i64 (40570899396))]), (.int false .i64 (1000000)), (.int false .i64 (1000000))], (.tuple [(.agg [(.int false .i64 (40570899385)), (.int false .i64 (40570899396))]), (.int false .i64 (0))])) := known table1_ok (by kernel_rfl) (by kernel_rfl) (by kernel_rfl)
/-- monocle/span.Scale (62 steps) -/
theorem call634 : MemoOk Tryz.prog glob hG (150, [(.agg [(.int false .i64 (40570899385)), (.int false .i64 (40570899396))]), (.int false .i64 (10000000)), (.int false .i64 (1000000000))], (.tuple [(.agg [(.int false .i64 (405708993)), (.int false .i64 (405708994))]), (.int false .i64 (0))])) := known table1_ok (by kernel_rfl) (by kernel_rfl) (by kernel_rfl)
/-- monocle/span.Sub (114 steps) -/
theorem call635 : MemoOk Tryz.prog glob hG (152, [(.agg [(.int false .i64 (4294967296)), (.int false .i64 (4294967296))]), (.agg [(.int false .i64 (405708993)), (.int false .i64 (405708994))])], (.tuple [(.agg [(.int false .i64 (3889258302)), (.int false .i64 (3889258303))]), (.int false .i64 (0))])) := known table1_ok (by kernel_rfl) (by kernel_rfl) (by kernel_rfl)
/-- monocle/span.Add (114 steps) -/
theorem call636 : MemoOk Tryz.prog glob hG (85, [(.agg [(.int false .i64 (40570899385)), (.int false .i64 (40570899396))]), (.agg [(.int false .i64 (-1048576)), (.int false .i64 (1048576))])], (.tuple [(.agg [(.int false .i64 (40569850809)), (.int false .i64 (40571947972))]), (.int false .i64 (0))])) := known table1_ok (by kernel_rfl) (by kernel_rfl) (by kernel_rfl)
/-- monocle/span.Mid (37 steps) -/
theorem call637 : MemoOk Tryz.prog glob hG (156, [(.agg [(.int false .i64 (40569850809)), (.int false .i64 (40571947972))])], (.tuple [(.int false .i64 (40570899390)), (.int false .i64 (0))])) := known table1_ok (by kernel_rfl) (by kernel_rfl) (by kernel_rfl)
/-- monocle/span.Mul (435 steps) -/
theorem call638 : MemoOk Tryz.prog glob hG (128, [(.agg [(.int false .i64 (40570899390)), (.int false .i64 (40570899390))]), (.agg [(.int false .i64 (0)), (.int false .i64 (0))])], (.tuple [(.agg [(.int false .i64 (0)), (.int false .i64 (0))]), (.int false .i64 (0))])) := known table1_ok (by kernel_rfl) (by kernel_rfl) (by kernel_rfl)
/-- monocle/span.Mul (435 steps) -/
theorem call639 : MemoOk Tryz.prog glob hG (128, [(.agg [(.int false .i64 (40570899390)), (.int false .i64 (40570899390))]), (.agg [(.int false .i64 (4294967296)), (.int false .i64 (4294967296))])], (.tuple [(.agg [(.int false .i64 (40570899390)), (.int false .i64 (40570899390))]), (.int false .i64 (0))])) := known table1_ok (by kernel_rfl) (by kernel_rfl) (by kernel_rfl)
end Go.Proofs.YtdljkgcdgidldaaGreatDoor
