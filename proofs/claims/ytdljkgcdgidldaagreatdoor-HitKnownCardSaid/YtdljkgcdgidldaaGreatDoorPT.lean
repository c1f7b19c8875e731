/- What is proved: HitKnown returns true (part 20 of 26). No conditions beyond those of the row. -/
import Derived.Test.YtdljkgcdgidldaaGreatDoorPL
set_option linter.unusedVariables false
set_option linter.unusedSimpArgs false
set_option linter.unusedSectionVars false
/- What is proved: calls of the law HitKnown, of which the answers are known (level 2). No conditions. -/
namespace Go.Proofs.YtdljkgcdgidldaaGreatDoor
open Go Go.Eng

/-- monocle/span.Mul (435 steps) -/
theorem call640 : MemoOk Tryz.prog glob hG (128, [(.agg [(.int false .i64 (40569850809)), (.int false .i64 (40571947972))]), (.agg [(.int false .i64 (0)), (.int false .i64 (0))])], (.tuple [(.agg [(.int false .i64 (0)), (.int false .i64 (0))]), (.int false .i64 (0))])) := known table1_ok (by kernel_rfl) (by kernel_rfl) (by kernel_rfl)
/-- monocle/span.Mul (438 steps) -/
theorem call641 : MemoOk Tryz.prog glob hG (128, [(.agg [(.int false .i64 (40569850809)), (.int false .i64 (40571947972))]), (.agg [(.int false .i64 (4294967296)), (.int false .i64 (4294967296))])], (.tuple [(.agg [(.int false .i64 (40569850809)), (.int false .i64 (40571947972))]), (.int false .i64 (0))])) := known table1_ok (by kernel_rfl) (by kernel_rfl) (by kernel_rfl)
/-- monocle/span.Scale (62 steps) -/
theorem call642 : MemoOk Tryz.prog glob hG (150, [(.agg [(.int false .i64 (3865470566400)), (.int false .i64 (3865470566400))]), (.int false .i64 (0)), (.int false .i64 (1000000000))], (.tuple [(.agg [(.int false .i64 (0)), (.int false .i64 (0))]), (.int false .i64 (0))])) := known table1_ok (by kernel_rfl) (by kernel_rfl) (by kernel_rfl)
/-- monocle/span.Scale (62 steps) -/
theorem call643 : MemoOk Tryz.prog glob hG (150, [(.agg [(.int false .i64 (3865470566400)), (.int false .i64 (3865470566400))]), (.int false .i64 (20000000)), (.int false .i64 (1000000000))], (.tuple [(.agg [(.int false .i64 (77309411328)), (.int false .i64 (77309411328))]), (.int false .i64 (0))])) := known table1_ok (by kernel_rfl) (by kernel_rfl) (by kernel_rfl)
/-- monocle/span.Scale (62 steps) -/
theorem call644 : MemoOk Tryz.prog glob hG (150, [(.agg [(.int false .i64 (77309411328)), (.int false .i64 (77309411328))]), (.int false .i64 (20000000)), (.int false .i64 (1000000000))], (.tuple [(.agg [(.int false .i64 (1546188226)), (.int false .i64 (1546188227))]), (.int false .i64 (0))])) := known table1_ok (by kernel_rfl) (by kernel_rfl) (by kernel_rfl)
/-- monocle/span.Scale (62 steps) -/
theorem call645 : MemoOk Tryz.prog glob hG (150, [(.agg [(.int false .i64 (1546188226)), (.int false .i64 (1546188227))]), (.int false .i64 (1000000)), (.int false .i64 (1000000))], (.tuple [(.agg [(.int false .i64 (1546188226)), (.int false .i64 (1546188227))]), (.int false .i64 (0))])) := known table1_ok (by kernel_rfl) (by kernel_rfl) (by kernel_rfl)
/-- monocle/span.Add (114 steps) -/
theorem call646 : MemoOk Tryz.prog glob hG (85, [(.agg [(.int false .i64 (0)), (.int false .i64 (0))]), (.agg [(.int false .i64 (1546188226)), (.int false .i64 (1546188227))])], (.tuple [(.agg [(.int false .i64 (1546188226)), (.int false .i64 (1546188227))]), (.int false .i64 (0))])) := known table1_ok (by kernel_rfl) (by kernel_rfl) (by kernel_rfl)
/-- monocle/span.Add (114 steps) -/
theorem call647 : MemoOk Tryz.prog glob hG (85, [(.agg [(.int false .i64 (0)), (.int false .i64 (0))]), (.agg [(.int false .i64 (77309411328)), (.int false .i64 (77309411328))])], (.tuple [(.agg [(.int false .i64 (77309411328)), (.int false .i64 (77309411328))]), (.int false .i64 (0))])) := known table1_ok (by kernel_rfl) (by kernel_rfl) (by kernel_rfl)
/-- monocle/span.Div (446 steps) -/
theorem call648 : MemoOk Tryz.prog glob hG (127, [(.agg [(.int false .i64 (77309411328)), (.int false .i64 (77309411328))]), (.agg [(.int false .i64 (7730941132)), (.int false .i64 (7730941134))])], (.tuple [(.agg [(.int false .i64 (42949672953)), (.int false .i64 (42949672965))]), (.int false .i64 (0))])) := known table1_ok (by kernel_rfl) (by kernel_rfl) (by kernel_rfl)
/-- monocle/span.Sub (114 steps) -/
theorem call649 : MemoOk Tryz.prog glob hG (152, [(.agg [(.int false .i64 (40570899390)), (.int false .i64 (40570899390))]), (.agg [(.int false .i64 (42949672953)), (.int false .i64 (42949672965))])], (.tuple [(.agg [(.int false .i64 (-2378773575)), (.int false .i64 (-2378773563))]), (.int false .i64 (0))])) := known table1_ok (by kernel_rfl) (by kernel_rfl) (by kernel_rfl)
/-- monocle/span.Scale (62 steps) -/
theorem call650 : MemoOk Tryz.prog glob hG (150, [(.agg [(.int false .i64 (128849018880)), (.int false .i64 (128849018880))]), (.int false .i64 (0)), (.int false .i64 (1000000000))], (.tuple [(.agg [(.int false .i64 (0)), (.int false .i64 (0))]), (.int false .i64 (0))])) := known table1_ok (by kernel_rfl) (by kernel_rfl) (by kernel_rfl)
/-- monocle/span.Div (443 steps) -/
theorem call651 : MemoOk Tryz.prog glob hG (127, [(.agg [(.int false .i64 (0)), (.int false .i64 (0))]), (.agg [(.int false .i64 (3435973836)), (.int false .i64 (3435973838))])], (.tuple [(.agg [(.int false .i64 (0)), (.int false .i64 (0))]), (.int false .i64 (0))])) := known table1_ok (by kernel_rfl) (by kernel_rfl) (by kernel_rfl)
/-- monocle/span.Scale (62 steps) -/
theorem call652 : MemoOk Tryz.prog glob hG (150, [(.agg [(.int false .i64 (0)), (.int false .i64 (0))]), (.int false .i64 (2)), (.int false .i64 (1))], (.tuple [(.agg [(.int false .i64 (0)), (.int false .i64 (0))]), (.int false .i64 (0))])) := known table1_ok (by kernel_rfl) (by kernel_rfl) (by kernel_rfl)
/-- monocle/span.Mul (435 steps) -/
theorem call653 : MemoOk Tryz.prog glob hG (128, [(.agg [(.int false .i64 (42949672953)), (.int false .i64 (42949672965))]), (.agg [(.int false .i64 (0)), (.int false .i64 (0))])], (.tuple [(.agg [(.int false .i64 (0)), (.int false .i64 (0))]), (.int false .i64 (0))])) := known table1_ok (by kernel_rfl) (by kernel_rfl) (by kernel_rfl)
/-- monocle/span.Div (443 steps) -/
theorem call654 : MemoOk Tryz.prog glob hG (127, [(.agg [(.int false .i64 (0)), (.int false .i64 (0))]), (.agg [(.int false .i64 (7730941132)), (.int false .i64 (7730941134))])], (.tuple [(.agg [(.int false .i64 (0)), (.int false .i64 (0))]), (.int false .i64 (0))])) := known table1_ok (by kernel_rfl) (by kernel_rfl) (by kernel_rfl)
/-- monocle/span.Scale (62 steps) -/
theorem call655 : MemoOk Tryz.prog glob hG (150, [(.agg [(.int false .i64 (128849018880)), (.int false .i64 (128849018880))]), (.int false .i64 (20000000)), (.int false .i64 (1000000000))], (.tuple [(.agg [(.int false .i64 (2576980377)), (.int false .i64 (2576980378))]), (.int false .i64 (0))])) := known table1_ok (by kernel_rfl) (by kernel_rfl) (by kernel_rfl)
/-- monocle/span.Scale (62 steps) -/
theorem call656 : MemoOk Tryz.prog glob hG (150, [(.agg [(.int false .i64 (2576980377)), (.int false .i64 (2576980378))]), (.int false .i64 (20000000)), (.int false .i64 (1000000000))], (.tuple [(.agg [(.int false .i64 (51539607)), (.int false .i64 (51539608))]), (.int false .i64 (0))])) := known table1_ok (by kernel_rfl) (by kernel_rfl) (by kernel_rfl)
/-- monocle/span.Scale (62 steps) -/
theorem call657 : MemoOk Tryz.prog glob hG (150, [(.agg [(.int false .i64 (51539607)), (.int false .i64 (51539608))]), (.int false .i64 (1000000)), (.int false .i64 (1000000))], (.tuple [(.agg [(.int false .i64 (51539607)), (.int false .i64 (51539608))]), (.int false .i64 (0))])) := known table1_ok (by kernel_rfl) (by kernel_rfl) (by kernel_rfl)
/-- monocle/span.Div (446 steps) -/
theorem call658 : MemoOk Tryz.prog glob hG (127, [(.agg [(.int false .i64 (51539607)), (.int false .i64 (51539608))]), (.agg [(.int false .i64 (3435973836)), (.int false .i64 (3435973838))])], (.tuple [(.agg [(.int false .i64 (64424508)), (.int false .i64 (64424511))]), (.int false .i64 (0))])) := known table1_ok (by kernel_rfl) (by kernel_rfl) (by kernel_rfl)
/-- monocle/span.Scale (62 steps) -/
theorem call659 : MemoOk Tryz.prog glob hG (150, [(.agg [(.int false .i64 (2576980377)), (.int false .i64 (2576980378))]), (.int false .i64 (2)), (.int false .i64 (1))], (.tuple [(.agg [(.int false .i64 (5153960754)), (.int false .i64 (5153960756))]), (.int false .i64 (0))])) := known table1_ok (by kernel_rfl) (by kernel_rfl) (by kernel_rfl)
/-- monocle/span.Mul (441 steps) -/
theorem call660 : MemoOk Tryz.prog glob hG (128, [(.agg [(.int false .i64 (42949672953)), (.int false .i64 (42949672965))]), (.agg [(.int false .i64 (64424508)), (.int false .i64 (64424511))])], (.tuple [(.agg [(.int false .i64 (644245079)), (.int false .i64 (644245111))]), (.int false .i64 (0))])) := known table1_ok (by kernel_rfl) (by kernel_rfl) (by kernel_rfl)
/-- monocle/span.Add (114 steps) -/
theorem call661 : MemoOk Tryz.prog glob hG (85, [(.agg [(.int false .i64 (5153960754)), (.int false .i64 (5153960756))]), (.agg [(.int false .i64 (644245079)), (.int false .i64 (644245111))])], (.tuple [(.agg [(.int false .i64 (5798205833)), (.int false .i64 (5798205867))]), (.int false .i64 (0))])) := known table1_ok (by kernel_rfl) (by kernel_rfl) (by kernel_rfl)
/-- monocle/span.Div (449 steps) -/
theorem call662 : MemoOk Tryz.prog glob hG (127, [(.agg [(.int false .i64 (5798205833)), (.int false .i64 (5798205867))]), (.agg [(.int false .i64 (7730941132)), (.int false .i64 (7730941134))])], (.tuple [(.agg [(.int false .i64 (3221225462)), (.int false .i64 (3221225483))]), (.int false .i64 (0))])) := known table1_ok (by kernel_rfl) (by kernel_rfl) (by kernel_rfl)
/-- monocle/span.Mul (435 steps) -/
theorem call663 : MemoOk Tryz.prog glob hG (128, [(.agg [(.int false .i64 (3221225462)), (.int false .i64 (3221225483))]), (.agg [(.int false .i64 (0)), (.int false .i64 (0))])], (.tuple [(.agg [(.int false .i64 (0)), (.int false .i64 (0))]), (.int false .i64 (0))])) := known table1_ok (by kernel_rfl) (by kernel_rfl) (by kernel_rfl)
/-- monocle/span.Div (446 steps) -/
theorem call664 : MemoOk Tryz.prog glob hG (127, [(.agg [(.int false .i64 (-2378773575)), (.int false .i64 (-2378773563))]), (.agg [(.int false .i64 (4294967296)), (.int false .i64 (4294967296))])], (.tuple [(.agg [(.int false .i64 (-2378773575)), (.int false .i64 (-2378773563))]), (.int false .i64 (0))])) := known table1_ok (by kernel_rfl) (by kernel_rfl) (by kernel_rfl)
/-- monocle/span.Sub (114 steps) -/
theorem call665 : MemoOk Tryz.prog glob hG (152, [(.agg [(.int false .i64 (40570899390)), (.int false .i64 (40570899390))]), (.agg [(.int false .i64 (-2378773575)), (.int false .i64 (-2378773563))])], (.tuple [(.agg [(.int false .i64 (42949672953)), (.int false .i64 (42949672965))]), (.int false .i64 (0))])) := known table1_ok (by kernel_rfl) (by kernel_rfl) (by kernel_rfl)
/-- monocle/span.Meet (103 steps) -/
theorem call666 : MemoOk Tryz.prog glob hG (125, [(.agg [(.int false .i64 (42949672953)), (.int false .i64 (42949672965))]), (.agg [(.int false .i64 (40569850809)), (.int false .i64 (40571947972))])], (.tuple [(.agg [(.int false .i64 (0)), (.int false .i64 (0))]), (.int false .i64 (4))])) := known table1_ok (by kernel_rfl) (by kernel_rfl) (by kernel_rfl)
/-- monocle/span.Add (114 steps) -/
theorem call667 : MemoOk Tryz.prog glob hG (85, [(.agg [(.int false .i64 (40570899385)), (.int false .i64 (40570899396))]), (.agg [(.int false .i64 (-67108864)), (.int false .i64 (67108864))])], (.tuple [(.agg [(.int false .i64 (40503790521)), (.int false .i64 (40638008260))]), (.int false .i64 (0))])) := known table1_ok (by kernel_rfl) (by kernel_rfl) (by kernel_rfl)
/-- monocle/span.Mid (37 steps) -/
theorem call668 : MemoOk Tryz.prog glob hG (156, [(.agg [(.int false .i64 (40503790521)), (.int false .i64 (40638008260))])], (.tuple [(.int false .i64 (40570899390)), (.int false .i64 (0))])) := known table1_ok (by kernel_rfl) (by kernel_rfl) (by kernel_rfl)
/-- monocle/span.Mul (435 steps) -/
theorem call669 : MemoOk Tryz.prog glob hG (128, [(.agg [(.int false .i64 (40503790521)), (.int false .i64 (40638008260))]), (.agg [(.int false .i64 (0)), (.int false .i64 (0))])], (.tuple [(.agg [(.int false .i64 (0)), (.int false .i64 (0))]), (.int false .i64 (0))])) := known table1_ok (by kernel_rfl) (by kernel_rfl) (by kernel_rfl)
/-- monocle/span.Mul (438 steps) -/
theorem call670 : MemoOk Tryz.prog glob hG (128, [(.agg [(.int false .i64 (40503790521)), (.int false .i64 (40638008260))]), (.agg [(.int false .i64 (4294967296)), (.int false .i64 (4294967296))])], (.tuple [(.agg [(.int false .i64 (40503790521)), (.int false .i64 (40638008260))]), (.int false .i64 (0))])) := known table1_ok (by kernel_rfl) (by kernel_rfl) (by kernel_rfl)
/-- monocle/span.Meet (103 steps) -/
theorem call671 : MemoOk Tryz.prog glob hG (125, [(.agg [(.int false .i64 (42949672953)), (.int false .i64 (42949672965))]), (.agg [(.int false .i64 (40503790521)), (.int false .i64 (40638008260))])], (.tuple [(.agg [(.int false .i64 (0)), (.int false .i64 (0))]), (.int false .i64 (4))])) := known table1_ok (by kernel_rfl) (by kernel_rfl) (by kernel_rfl)
/-- monocle/span.Add (114 steps) -/
theorem call672 : MemoOk Tryz.prog glob hG (85, [(.agg [(.int false .i64 (40570899385)), (.int false .i64 (40570899396))]), (.agg [(.int false .i64 (-2147483648)), (.int false .i64 (2147483648))])], (.tuple [(.agg [(.int false .i64 (38423415737)), (.int false .i64 (42718383044))]), (.int false .i64 (0))])) := known table1_ok (by kernel_rfl) (by kernel_rfl) (by kernel_rfl)
/-- monocle/span.Mid (37 steps) -/
theorem call673 : MemoOk Tryz.prog glob hG (156, [(.agg [(.int false .i64 (38423415737)), (.int false .i64 (42718383044))])], (.tuple [(.int false .i64 (40570899390)), (.int false .i64 (0))])) := known table1_ok (by kernel_rfl) (by kernel_rfl) (by kernel_rfl)
/-- monocle/span.Mul (435 steps) -/
theorem call674 : MemoOk Tryz.prog glob hG (128, [(.agg [(.int false .i64 (38423415737)), (.int false .i64 (42718383044))]), (.agg [(.int false .i64 (0)), (.int false .i64 (0))])], (.tuple [(.agg [(.int false .i64 (0)), (.int false .i64 (0))]), (.int false .i64 (0))])) := known table1_ok (by kernel_rfl) (by kernel_rfl) (by kernel_rfl)
/-- monocle/span.Mul (438 steps) -/
theorem call675 : MemoOk Tryz.prog glob hG (128, [(.agg [(.int false .i64 (38423415737)), (.int false .i64 (42718383044))]), (.agg [(.int false .i64 (4294967296)), (.int false .i64 (4294967296))])], (.tuple [(.agg [(.int false .i64 (38423415737)), (.int false .i64 (42718383044))]), (.int false .i64 (0))])) := known table1_ok (by kernel_rfl) (by kernel_rfl) (by kernel_rfl)
/-- monocle/span.Meet (103 steps) -/
theorem call676 : MemoOk Tryz.prog glob hG (125, [(.agg [(.int false .i64 (42949672953)), (.int false .i64 (42949672965))]), (.agg [(.int false .i64 (38423415737)), (.int false .i64 (42718383044))])], (.tuple [(.agg [(.int false .i64 (0)), (.int false .i64 (0))]), (.int false .i64 (4))])) := known table1_ok (by kernel_rfl) (by kernel_rfl) (by kernel_rfl)
/-- monocle/span.Add (114 steps) -/
theorem call677 : MemoOk Tryz.prog glob hG (85, [(.agg [(.int false .i64 (40570899385)), (.int false .i64 (40570899396))]), (.agg [(.int false .i64 (-34359738368)), (.int false .i64 (34359738368))])], (.tuple [(.agg [(.int false .i64 (6211161017)), (.int false .i64 (74930637764))]), (.int false .i64 (0))])) := known table1_ok (by kernel_rfl) (by kernel_rfl) (by kernel_rfl)
/-- monocle/span.Mid (37 steps) -/
theorem call678 : MemoOk Tryz.prog glob hG (156, [(.agg [(.int false .i64 (6211161017)), (.int false .i64 (74930637764))])], (.tuple [(.int false .i64 (40570899390)), (.int false .i64 (0))])) := known table1_ok (by kernel_rfl) (by kernel_rfl) (by kernel_rfl)
/-- monocle/span.Mul (435 steps) -/
theorem call679 : MemoOk Tryz.prog glob hG (128, [(.agg [(.int false .i64 (6211161017)), (.int false .i64 (74930637764))]), (.agg [(.int false .i64 (0)), (.int false .i64 (0))])], (.tuple [(.agg [(.int false .i64 (0)), (.int false .i64 (0))]), (.int false .i64 (0))])) := known table1_ok (by kernel_rfl) (by kernel_rfl) (by kernel_rfl)
/-- monocle/span.Mul (438 steps) -/
theorem call680 : MemoOk Tryz.prog glob hG (128, [(.agg [(.int false .i64 (6211161017)), (.int false .i64 (74930637764))]), (.agg [(.int false .i64 (4294967296)), (.int false .i64 (4294967296))])], (.tuple [(.agg [(.int false .i64 (6211161017)), (.int false .i64 (74930637764))]), (.int false .i64 (0))])) := known table1_ok (by kernel_rfl) (by kernel_rfl) (by kernel_rfl)
/-- monocle/span.Meet (121 steps) -/
theorem call681 : MemoOk Tryz.prog glob hG (125, [(.agg [(.int false .i64 (42949672953)), (.int false .i64 (42949672965))]), (.agg [(.int false .i64 (6211161017)), (.int false .i64 (74930637764))])], (.tuple [(.agg [(.int false .i64 (42949672953)), (.int false .i64 (42949672965))]), (.int false .i64 (0))])) := known table1_ok (by kernel_rfl) (by kernel_rfl) (by kernel_rfl)
/-- monocle/span.Mid (37 steps) -/
theorem call682 : MemoOk Tryz.prog glob hG (156, [(.agg [(.int false .i64 (42949672953)), (.int false .i64 (42949672965))])], (.tuple [(.int false .i64 (42949672959)), (.int false .i64 (0))])) := known table1_ok (by kernel_rfl) (by kernel_rfl) (by kernel_rfl)
/-- monocle/span.Mul (435 steps) -/
theorem call683 : MemoOk Tryz.prog glob hG (128, [(.agg [(.int false .i64 (42949672959)), (.int false .i64 (42949672959))]), (.agg [(.int false .i64 (0)), (.int false .i64 (0))])], (.tuple [(.agg [(.int false .i64 (0)), (.int false .i64 (0))]), (.int false .i64 (0))])) := known table1_ok (by kernel_rfl) (by kernel_rfl) (by kernel_rfl)
/-- monocle/span.Mul (435 steps) -/
theorem call684 : MemoOk Tryz.prog glob hG (128, [(.agg [(.int false .i64 (42949672959)), (.int false .i64 (42949672959))]), (.agg [(.int false .i64 (4294967296)), (.int false .i64 (4294967296))])], (.tuple [(.agg [(.int false .i64 (42949672959)), (.int false .i64 (42949672959))]), (.int false .i64 (0))])) := known table1_ok (by kernel_rfl) (by kernel_rfl) (by kernel_rfl)
/-- monocle/span.Mul (438 steps) -/
theorem call685 : MemoOk Tryz.prog glob hG (128, [(.agg [(.int false .i64 (42949672953)), (.int false .i64 (42949672965))]), (.agg [(.int false .i64 (4294967296)), (.int false .i64 (4294967296))])], (.tuple [(.agg [(.int false .i64 (42949672953)), (.int false .i64 (42949672965))]), (.int false .i64 (0))])) := known table1_ok (by kernel_rfl) (by kernel_rfl) (by kernel_rfl)
/-- monocle/span.Sub (114 steps) -/
theorem call686 : MemoOk Tryz.prog glob hG (152, [(.agg [(.int false .i64 (42949672959)), (.int false .i64 (42949672959))]), (.agg [(.int false .i64 (42949672953)), (.int false .i64 (42949672965))])], (.tuple [(.agg [(.int false .i64 (-6)), (.int false .i64 (6))]), (.int false .i64 (0))])) := known table1_ok (by kernel_rfl) (by kernel_rfl) (by kernel_rfl)
/-- monocle/span.Div (446 steps) -/
theorem call687 : MemoOk Tryz.prog glob hG (127, [(.agg [(.int false .i64 (-6)), (.int false .i64 (6))]), (.agg [(.int false .i64 (4294967296)), (.int false .i64 (4294967296))])], (.tuple [(.agg [(.int false .i64 (-6)), (.int false .i64 (6))]), (.int false .i64 (0))])) := known table1_ok (by kernel_rfl) (by kernel_rfl) (by kernel_rfl)
/-- monocle/span.Sub (114 steps) -/
theorem call688 : MemoOk Tryz.prog glob hG (152, [(.agg [(.int false .i64 (42949672959)), (.int false .i64 (42949672959))]), (.agg [(.int false .i64 (-6)), (.int false .i64 (6))])], (.tuple [(.agg [(.int false .i64 (42949672953)), (.int false .i64 (42949672965))]), (.int false .i64 (0))])) := known table1_ok (by kernel_rfl) (by kernel_rfl) (by kernel_rfl)
/-- monocle/span.Meet (121 steps) -/
theorem call689 : MemoOk Tryz.prog glob hG (125, [(.agg [(.int false .i64 (42949672953)), (.int false .i64 (42949672965))]), (.agg [(.int false .i64 (42949672953)), (.int false .i64 (42949672965))])], (.tuple [(.agg [(.int false .i64 (42949672953)), (.int false .i64 (42949672965))]), (.int false .i64 (0))])) := known table1_ok (by kernel_rfl) (by kernel_rfl) (by kernel_rfl)
/-- monocle/span.Add (114 steps) -/
theorem call690 : MemoOk Tryz.prog glob hG (85, [(.agg [(.int false .i64 (0)), (.int false .i64 (0))]), (.agg [(.int false .i64 (42949672953)), (.int false .i64 (42949672965))])], (.tuple [(.agg [(.int false .i64 (42949672953)), (.int false .i64 (42949672965))]), (.int false .i64 (0))])) := known table1_ok (by kernel_rfl) (by kernel_rfl) (by kernel_rfl)
/-- monocle/span.Add (114 steps) -/
theorem call691 : MemoOk Tryz.prog glob hG (85, [(.agg [(.int false .i64 (2251799813685248)), (.int false .i64 (2251799813685248))]), (.agg [(.int false .i64 (0)), (.int false .i64 (0))])], (.tuple [(.agg [(.int false .i64 (2251799813685248)), (.int false .i64 (2251799813685248))]), (.int false .i64 (0))])) := known table1_ok (by kernel_rfl) (by kernel_rfl) (by kernel_rfl)
/-- monocle/span.Sqr (1064 steps) -/
theorem call692 : MemoOk Tryz.prog glob hG (151, [(.agg [(.int false .i64 (2251799813685248)), (.int false .i64 (2251799813685248))])], (.tuple [(.agg [(.int false .i64 (0)), (.int false .i64 (0))]), (.int false .i64 (6))])) := known table1_ok (by kernel_rfl) (by kernel_rfl) (by kernel_rfl)
end Go.Proofs.YtdljkgcdgidldaaGreatDoor
