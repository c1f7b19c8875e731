/- What is proved: BendKnown returns true (part 11 of 18). No conditions beyond those of the row. -/
import Derived.Test.YtckglcjiicmbkaaGreatDoorPJ
set_option linter.unusedVariables false
set_option linter.unusedSimpArgs false
set_option linter.unusedSectionVars false
/- What is proved: calls of the law BendKnown, of which the answers are known (level 2). No conditions. -/
namespace Go.Proofs.YtckglcjiicmbkaaGreatDoor
open Go Go.Eng

/-- monocle/monocleref02.Scale (6975 steps) -/
theorem call252 : MemoOk Tryz.prog glob hG (54, [(.agg [(.int false .i64 (4294967296)), (.int false .i64 (4294967296))]), (.int false .i64 (20000)), (.int false .i64 (1000))], (.tuple [(.agg [(.int false .i64 (85899345920)), (.int false .i64 (85899345920))]), (.int false .i64 (0))])) := known table1_ok (by kernel_rfl) (by kernel_rfl) (by kernel_rfl)
/-- monocle/span.Sqr (1178 steps) -/
theorem call253 : MemoOk Tryz.prog glob hG (132, [(.agg [(.int false .i64 (257698037760)), (.int false .i64 (257698037760))])], (.tuple [(.agg [(.int false .i64 (15461882265600)), (.int false .i64 (15461882265600))]), (.int false .i64 (0))])) := known table1_ok (by kernel_rfl) (by kernel_rfl) (by kernel_rfl)
/-- monocle/span.Add (114 steps) -/
theorem call254 : MemoOk Tryz.prog glob hG (164, [(.agg [(.int false .i64 (15461882265600)), (.int false .i64 (15461882265600))]), (.agg [(.int false .i64 (0)), (.int false .i64 (0))])], (.tuple [(.agg [(.int false .i64 (15461882265600)), (.int false .i64 (15461882265600))]), (.int false .i64 (0))])) := known table1_ok (by kernel_rfl) (by kernel_rfl) (by kernel_rfl)
/-- monocle/span.Scale (62 steps) -/
theorem call255 : MemoOk Tryz.prog glob hG (141, [(.agg [(.int false .i64 (15461882265600)), (.int false .i64 (15461882265600))]), (.int false .i64 (10000000)), (.int false .i64 (1000000000))], (.tuple [(.agg [(.int false .i64 (154618822656)), (.int false .i64 (154618822656))]), (.int false .i64 (0))])) := known table1_ok (by kernel_rfl) (by kernel_rfl) (by kernel_rfl)
/-- monocle/span.Scale (62 steps) -/
theorem call256 : MemoOk Tryz.prog glob hG (141, [(.agg [(.int false .i64 (154618822656)), (.int false .i64 (154618822656))]), (.int false .i64 (10000000)), (.int false .i64 (1000000000))], (.tuple [(.agg [(.int false .i64 (1546188226)), (.int false .i64 (1546188227))]), (.int false .i64 (0))])) := known table1_ok (by kernel_rfl) (by kernel_rfl) (by kernel_rfl)
/-- monocle/span.Scale (62 steps) -/
theorem call257 : MemoOk Tryz.prog glob hG (141, [(.agg [(.int false .i64 (1546188226)), (.int false .i64 (1546188227))]), (.int false .i64 (1000000)), (.int false .i64 (1000000))], (.tuple [(.agg [(.int false .i64 (1546188226)), (.int false .i64 (1546188227))]), (.int false .i64 (0))])) := known table1_ok (by kernel_rfl) (by kernel_rfl) (by kernel_rfl)
/-- monocle/span.Sub (114 steps) -/
theorem call258 : MemoOk Tryz.prog glob hG (136, [(.agg [(.int false .i64 (4294967296)), (.int false .i64 (4294967296))]), (.agg [(.int false .i64 (1546188226)), (.int false .i64 (1546188227))])], (.tuple [(.agg [(.int false .i64 (2748779069)), (.int false .i64 (2748779070))]), (.int false .i64 (0))])) := known table1_ok (by kernel_rfl) (by kernel_rfl) (by kernel_rfl)
/-- monocle/span.Sqrt (69 steps) -/
theorem call259 : MemoOk Tryz.prog glob hG (88, [(.agg [(.int false .i64 (2748779069)), (.int false .i64 (2748779070))])], (.tuple [(.agg [(.int false .i64 (3435973836)), (.int false .i64 (3435973838))]), (.int false .i64 (0))])) := known table1_ok (by kernel_rfl) (by kernel_rfl) (by kernel_rfl)
/-- monocle/span.Add (114 steps) -/
theorem call260 : MemoOk Tryz.prog glob hG (164, [(.agg [(.int false .i64 (154618822656)), (.int false .i64 (154618822656))]), (.agg [(.int false .i64 (0)), (.int false .i64 (0))])], (.tuple [(.agg [(.int false .i64 (154618822656)), (.int false .i64 (154618822656))]), (.int false .i64 (0))])) := known table1_ok (by kernel_rfl) (by kernel_rfl) (by kernel_rfl)
/-- monocle/span.Add (114 steps) -/
theorem call261 : MemoOk Tryz.prog glob hG (164, [(.agg [(.int false .i64 (4294967296)), (.int false .i64 (4294967296))]), (.agg [(.int false .i64 (3435973836)), (.int false .i64 (3435973838))])], (.tuple [(.agg [(.int false .i64 (7730941132)), (.int false .i64 (7730941134))]), (.int false .i64 (0))])) := known table1_ok (by kernel_rfl) (by kernel_rfl) (by kernel_rfl)
/-- monocle/span.Div (446 steps) -/
theorem call262 : MemoOk Tryz.prog glob hG (91, [(.agg [(.int false .i64 (154618822656)), (.int false .i64 (154618822656))]), (.agg [(.int false .i64 (7730941132)), (.int false .i64 (7730941134))])], (.tuple [(.agg [(.int false .i64 (85899345906)), (.int false .i64 (85899345929))]), (.int false .i64 (0))])) := known table1_ok (by kernel_rfl) (by kernel_rfl) (by kernel_rfl)
/-- monocle/span.Scale (62 steps) -/
theorem call263 : MemoOk Tryz.prog glob hG (141, [(.agg [(.int false .i64 (257698037760)), (.int false .i64 (257698037760))]), (.int false .i64 (10000000)), (.int false .i64 (1000000000))], (.tuple [(.agg [(.int false .i64 (2576980377)), (.int false .i64 (2576980378))]), (.int false .i64 (0))])) := known table1_ok (by kernel_rfl) (by kernel_rfl) (by kernel_rfl)
/-- monocle/span.Div (449 steps) -/
theorem call264 : MemoOk Tryz.prog glob hG (91, [(.agg [(.int false .i64 (2576980377)), (.int false .i64 (2576980378))]), (.agg [(.int false .i64 (3435973836)), (.int false .i64 (3435973838))])], (.tuple [(.agg [(.int false .i64 (3221225470)), (.int false .i64 (3221225474))]), (.int false .i64 (0))])) := known table1_ok (by kernel_rfl) (by kernel_rfl) (by kernel_rfl)
/-- monocle/span.Scale (62 steps) -/
theorem call265 : MemoOk Tryz.prog glob hG (141, [(.agg [(.int false .i64 (0)), (.int false .i64 (0))]), (.int false .i64 (10000000)), (.int false .i64 (1000000000))], (.tuple [(.agg [(.int false .i64 (0)), (.int false .i64 (0))]), (.int false .i64 (0))])) := known table1_ok (by kernel_rfl) (by kernel_rfl) (by kernel_rfl)
/-- monocle/span.Div (443 steps) -/
theorem call266 : MemoOk Tryz.prog glob hG (91, [(.agg [(.int false .i64 (0)), (.int false .i64 (0))]), (.agg [(.int false .i64 (3435973836)), (.int false .i64 (3435973838))])], (.tuple [(.agg [(.int false .i64 (0)), (.int false .i64 (0))]), (.int false .i64 (0))])) := known table1_ok (by kernel_rfl) (by kernel_rfl) (by kernel_rfl)
/-- monocle/span.Neg (54 steps) -/
theorem call267 : MemoOk Tryz.prog glob hG (123, [(.agg [(.int false .i64 (3221225470)), (.int false .i64 (3221225474))])], (.tuple [(.agg [(.int false .i64 (-3221225474)), (.int false .i64 (-3221225470))]), (.int false .i64 (0))])) := known table1_ok (by kernel_rfl) (by kernel_rfl) (by kernel_rfl)
/-- monocle/span.Sqr (1184 steps) -/
theorem call268 : MemoOk Tryz.prog glob hG (132, [(.agg [(.int false .i64 (-3221225474)), (.int false .i64 (-3221225470))])], (.tuple [(.agg [(.int false .i64 (2415919101)), (.int false .i64 (2415919108))]), (.int false .i64 (0))])) := known table1_ok (by kernel_rfl) (by kernel_rfl) (by kernel_rfl)
/-- monocle/span.Add (114 steps) -/
theorem call269 : MemoOk Tryz.prog glob hG (164, [(.agg [(.int false .i64 (2415919101)), (.int false .i64 (2415919108))]), (.agg [(.int false .i64 (0)), (.int false .i64 (0))])], (.tuple [(.agg [(.int false .i64 (2415919101)), (.int false .i64 (2415919108))]), (.int false .i64 (0))])) := known table1_ok (by kernel_rfl) (by kernel_rfl) (by kernel_rfl)
/-- monocle/span.Add (114 steps) -/
theorem call270 : MemoOk Tryz.prog glob hG (164, [(.agg [(.int false .i64 (2415919101)), (.int false .i64 (2415919108))]), (.agg [(.int false .i64 (4294967296)), (.int false .i64 (4294967296))])], (.tuple [(.agg [(.int false .i64 (6710886397)), (.int false .i64 (6710886404))]), (.int false .i64 (0))])) := known table1_ok (by kernel_rfl) (by kernel_rfl) (by kernel_rfl)
/-- monocle/span.Sqrt (69 steps) -/
theorem call271 : MemoOk Tryz.prog glob hG (88, [(.agg [(.int false .i64 (6710886397)), (.int false .i64 (6710886404))])], (.tuple [(.agg [(.int false .i64 (5368709118)), (.int false .i64 (5368709122))]), (.int false .i64 (0))])) := known table1_ok (by kernel_rfl) (by kernel_rfl) (by kernel_rfl)
/-- monocle/span.Div (452 steps) -/
theorem call272 : MemoOk Tryz.prog glob hG (91, [(.agg [(.int false .i64 (-3221225474)), (.int false .i64 (-3221225470))]), (.agg [(.int false .i64 (5368709118)), (.int false .i64 (5368709122))])], (.tuple [(.agg [(.int false .i64 (-2576980381)), (.int false .i64 (-2576980375))]), (.int false .i64 (0))])) := known table1_ok (by kernel_rfl) (by kernel_rfl) (by kernel_rfl)
/-- monocle/span.Div (443 steps) -/
theorem call273 : MemoOk Tryz.prog glob hG (91, [(.agg [(.int false .i64 (0)), (.int false .i64 (0))]), (.agg [(.int false .i64 (5368709118)), (.int false .i64 (5368709122))])], (.tuple [(.agg [(.int false .i64 (0)), (.int false .i64 (0))]), (.int false .i64 (0))])) := known table1_ok (by kernel_rfl) (by kernel_rfl) (by kernel_rfl)
/-- monocle/span.Div (446 steps) -/
theorem call274 : MemoOk Tryz.prog glob hG (91, [(.agg [(.int false .i64 (4294967296)), (.int false .i64 (4294967296))]), (.agg [(.int false .i64 (5368709118)), (.int false .i64 (5368709122))])], (.tuple [(.agg [(.int false .i64 (3435973835)), (.int false .i64 (3435973839))]), (.int false .i64 (0))])) := known table1_ok (by kernel_rfl) (by kernel_rfl) (by kernel_rfl)
/-- monocle/monocleref02.Scale (7701 steps) -/
theorem call275 : MemoOk Tryz.prog glob hG (54, [(.agg [(.int false .i64 (4294967296)), (.int false .i64 (4294967296))]), (.int false .i64 (-600)), (.int false .i64 (1000))], (.tuple [(.agg [(.int false .i64 (-2576980378)), (.int false .i64 (-2576980377))]), (.int false .i64 (0))])) := known table1_ok (by kernel_rfl) (by kernel_rfl) (by kernel_rfl)
/-- monocle/monocleref02.Scale (7685 steps) -/
theorem call276 : MemoOk Tryz.prog glob hG (54, [(.agg [(.int false .i64 (4294967296)), (.int false .i64 (4294967296))]), (.int false .i64 (800)), (.int false .i64 (1000))], (.tuple [(.agg [(.int false .i64 (3435973836)), (.int false .i64 (3435973837))]), (.int false .i64 (0))])) := known table1_ok (by kernel_rfl) (by kernel_rfl) (by kernel_rfl)
/-- monocle/monocleref02.Scale (7063 steps) -/
theorem call277 : MemoOk Tryz.prog glob hG (54, [(.agg [(.int false .i64 (4294967296)), (.int false .i64 (4294967296))]), (.int false .i64 (750)), (.int false .i64 (1000))], (.tuple [(.agg [(.int false .i64 (3221225472)), (.int false .i64 (3221225472))]), (.int false .i64 (0))])) := known table1_ok (by kernel_rfl) (by kernel_rfl) (by kernel_rfl)
end Go.Proofs.YtckglcjiicmbkaaGreatDoor
