/- What is proved: HitKnown returns true (part 18 of 26). No conditions beyond those of the row. -/
import Derived.Test.YtdljkgcdgidldaaGreatDoorPL
set_option linter.unusedVariables false
set_option linter.unusedSimpArgs false
set_option linter.unusedSectionVars false
/- What is proved: calls of the law HitKnown, of which the answers are known (level 2). No conditions. -/
namespace Go.Proofs.YtdljkgcdgidldaaGreatDoor
open Go Go.Eng

/-- monocle/monocleref02.Scale (7641 steps) -/
theorem call522 : MemoOk Tryz.prog glob hG (61, [(.agg [(.int false .i64 (4294967296)), (.int false .i64 (4294967296))]), (.int false .i64 (100)), (.int false .i64 (1000))], (.tuple [(.agg [(.int false .i64 (429496729)), (.int false .i64 (429496730))]), (.int false .i64 (0))])) := known table1_ok (by kernel_rfl) (by kernel_rfl) (by kernel_rfl)
/-- monocle/span.Neg (54 steps) -/
theorem call523 : MemoOk Tryz.prog glob hG (118, [(.agg [(.int false .i64 (2147483648)), (.int false .i64 (2147483648))])], (.tuple [(.agg [(.int false .i64 (-2147483648)), (.int false .i64 (-2147483648))]), (.int false .i64 (0))])) := known table1_ok (by kernel_rfl) (by kernel_rfl) (by kernel_rfl)
/-- monocle/span.Div (446 steps) -/
theorem call524 : MemoOk Tryz.prog glob hG (127, [(.agg [(.int false .i64 (-2147483648)), (.int false .i64 (-2147483648))]), (.agg [(.int false .i64 (429496729)), (.int false .i64 (429496730))])], (.tuple [(.agg [(.int false .i64 (-21474836511)), (.int false .i64 (-21474836460))]), (.int false .i64 (0))])) := known table1_ok (by kernel_rfl) (by kernel_rfl) (by kernel_rfl)
/-- monocle/span.Mul (438 steps) -/
theorem call525 : MemoOk Tryz.prog glob hG (128, [(.agg [(.int false .i64 (-21474836511)), (.int false .i64 (-21474836460))]), (.agg [(.int false .i64 (4294967296)), (.int false .i64 (4294967296))])], (.tuple [(.agg [(.int false .i64 (-21474836511)), (.int false .i64 (-21474836460))]), (.int false .i64 (0))])) := known table1_ok (by kernel_rfl) (by kernel_rfl) (by kernel_rfl)
/-- monocle/span.Add (114 steps) -/
theorem call526 : MemoOk Tryz.prog glob hG (85, [(.agg [(.int false .i64 (-8589934592)), (.int false .i64 (-8589934592))]), (.agg [(.int false .i64 (-21474836511)), (.int false .i64 (-21474836460))])], (.tuple [(.agg [(.int false .i64 (-30064771103)), (.int false .i64 (-30064771052))]), (.int false .i64 (0))])) := known table1_ok (by kernel_rfl) (by kernel_rfl) (by kernel_rfl)
/-- monocle/span.Mul (435 steps) -/
theorem call527 : MemoOk Tryz.prog glob hG (128, [(.agg [(.int false .i64 (-21474836511)), (.int false .i64 (-21474836460))]), (.agg [(.int false .i64 (0)), (.int false .i64 (0))])], (.tuple [(.agg [(.int false .i64 (0)), (.int false .i64 (0))]), (.int false .i64 (0))])) := known table1_ok (by kernel_rfl) (by kernel_rfl) (by kernel_rfl)
/-- monocle/span.Sqr (1184 steps) -/
theorem call528 : MemoOk Tryz.prog glob hG (151, [(.agg [(.int false .i64 (-30064771103)), (.int false .i64 (-30064771052))])], (.tuple [(.agg [(.int false .i64 (210453397224)), (.int false .i64 (210453397939))]), (.int false .i64 (0))])) := known table1_ok (by kernel_rfl) (by kernel_rfl) (by kernel_rfl)
/-- monocle/span.Add (114 steps) -/
theorem call529 : MemoOk Tryz.prog glob hG (85, [(.agg [(.int false .i64 (210453397224)), (.int false .i64 (210453397939))]), (.agg [(.int false .i64 (0)), (.int false .i64 (0))])], (.tuple [(.agg [(.int false .i64 (210453397224)), (.int false .i64 (210453397939))]), (.int false .i64 (0))])) := known table1_ok (by kernel_rfl) (by kernel_rfl) (by kernel_rfl)
/-- monocle/span.Scale (62 steps) -/
theorem call530 : MemoOk Tryz.prog glob hG (150, [(.agg [(.int false .i64 (210453397224)), (.int false .i64 (210453397939))]), (.int false .i64 (1000000000)), (.int false .i64 (1000000000))], (.tuple [(.agg [(.int false .i64 (210453397224)), (.int false .i64 (210453397939))]), (.int false .i64 (0))])) := known table1_ok (by kernel_rfl) (by kernel_rfl) (by kernel_rfl)
/-- monocle/span.Mul (438 steps) -/
theorem call531 : MemoOk Tryz.prog glob hG (128, [(.agg [(.int false .i64 (4294967296)), (.int false .i64 (4294967296))]), (.agg [(.int false .i64 (-30064771103)), (.int false .i64 (-30064771052))])], (.tuple [(.agg [(.int false .i64 (-30064771103)), (.int false .i64 (-30064771052))]), (.int false .i64 (0))])) := known table1_ok (by kernel_rfl) (by kernel_rfl) (by kernel_rfl)
/-- monocle/span.Add (114 steps) -/
theorem call532 : MemoOk Tryz.prog glob hG (85, [(.agg [(.int false .i64 (-30064771103)), (.int false .i64 (-30064771052))]), (.agg [(.int false .i64 (0)), (.int false .i64 (0))])], (.tuple [(.agg [(.int false .i64 (-30064771103)), (.int false .i64 (-30064771052))]), (.int false .i64 (0))])) := known table1_ok (by kernel_rfl) (by kernel_rfl) (by kernel_rfl)
/-- monocle/span.Scale (62 steps) -/
theorem call533 : MemoOk Tryz.prog glob hG (150, [(.agg [(.int false .i64 (-30064771103)), (.int false .i64 (-30064771052))]), (.int false .i64 (1000000000)), (.int false .i64 (1000000000))], (.tuple [(.agg [(.int false .i64 (-30064771103)), (.int false .i64 (-30064771052))]), (.int false .i64 (0))])) := known table1_ok (by kernel_rfl) (by kernel_rfl) (by kernel_rfl)
/-- monocle/span.Sub (114 steps) -/
theorem call534 : MemoOk Tryz.prog glob hG (152, [(.agg [(.int false .i64 (429496729)), (.int false .i64 (429496730))]), (.agg [(.int false .i64 (-30064771103)), (.int false .i64 (-30064771052))])], (.tuple [(.agg [(.int false .i64 (30494267781)), (.int false .i64 (30494267833))]), (.int false .i64 (0))])) := known table1_ok (by kernel_rfl) (by kernel_rfl) (by kernel_rfl)
/-- monocle/span.Sqr (1184 steps) -/
theorem call535 : MemoOk Tryz.prog glob hG (151, [(.agg [(.int false .i64 (429496729)), (.int false .i64 (429496730))])], (.tuple [(.agg [(.int false .i64 (42949672)), (.int false .i64 (42949674))]), (.int false .i64 (0))])) := known table1_ok (by kernel_rfl) (by kernel_rfl) (by kernel_rfl)
/-- monocle/span.Scale (62 steps) -/
theorem call536 : MemoOk Tryz.prog glob hG (150, [(.agg [(.int false .i64 (42949672)), (.int false .i64 (42949674))]), (.int false .i64 (1000000)), (.int false .i64 (1000000))], (.tuple [(.agg [(.int false .i64 (42949672)), (.int false .i64 (42949674))]), (.int false .i64 (0))])) := known table1_ok (by kernel_rfl) (by kernel_rfl) (by kernel_rfl)
/-- monocle/span.Add (114 steps) -/
theorem call537 : MemoOk Tryz.prog glob hG (85, [(.agg [(.int false .i64 (4294967296)), (.int false .i64 (4294967296))]), (.agg [(.int false .i64 (42949672)), (.int false .i64 (42949674))])], (.tuple [(.agg [(.int false .i64 (4337916968)), (.int false .i64 (4337916970))]), (.int false .i64 (0))])) := known table1_ok (by kernel_rfl) (by kernel_rfl) (by kernel_rfl)
/-- monocle/span.Sqr (1184 steps) -/
theorem call538 : MemoOk Tryz.prog glob hG (151, [(.agg [(.int false .i64 (30494267781)), (.int false .i64 (30494267833))])], (.tuple [(.agg [(.int false .i64 (216509301098)), (.int false .i64 (216509301838))]), (.int false .i64 (0))])) := known table1_ok (by kernel_rfl) (by kernel_rfl) (by kernel_rfl)
/-- monocle/span.Mul (444 steps) -/
theorem call539 : MemoOk Tryz.prog glob hG (128, [(.agg [(.int false .i64 (210453397224)), (.int false .i64 (210453397939))]), (.agg [(.int false .i64 (4337916968)), (.int false .i64 (4337916970))])], (.tuple [(.agg [(.int false .i64 (212557931149)), (.int false .i64 (212557931970))]), (.int false .i64 (0))])) := known table1_ok (by kernel_rfl) (by kernel_rfl) (by kernel_rfl)
/-- monocle/span.Sub (114 steps) -/
theorem call540 : MemoOk Tryz.prog glob hG (152, [(.agg [(.int false .i64 (216509301098)), (.int false .i64 (216509301838))]), (.agg [(.int false .i64 (212557931149)), (.int false .i64 (212557931970))])], (.tuple [(.agg [(.int false .i64 (3951369128)), (.int false .i64 (3951370689))]), (.int false .i64 (0))])) := known table1_ok (by kernel_rfl) (by kernel_rfl) (by kernel_rfl)
/-- monocle/span.Sqrt (69 steps) -/
theorem call541 : MemoOk Tryz.prog glob hG (117, [(.agg [(.int false .i64 (3951369128)), (.int false .i64 (3951370689))])], (.tuple [(.agg [(.int false .i64 (4119587501)), (.int false .i64 (4119588315))]), (.int false .i64 (0))])) := known table1_ok (by kernel_rfl) (by kernel_rfl) (by kernel_rfl)
/-- monocle/span.Add (114 steps) -/
theorem call542 : MemoOk Tryz.prog glob hG (85, [(.agg [(.int false .i64 (30494267781)), (.int false .i64 (30494267833))]), (.agg [(.int false .i64 (4119587501)), (.int false .i64 (4119588315))])], (.tuple [(.agg [(.int false .i64 (34613855282)), (.int false .i64 (34613856148))]), (.int false .i64 (0))])) := known table1_ok (by kernel_rfl) (by kernel_rfl) (by kernel_rfl)
/-- monocle/span.Div (449 steps) -/
theorem call543 : MemoOk Tryz.prog glob hG (127, [(.agg [(.int false .i64 (210453397224)), (.int false .i64 (210453397939))]), (.agg [(.int false .i64 (34613855282)), (.int false .i64 (34613856148))])], (.tuple [(.agg [(.int false .i64 (26113544083)), (.int false .i64 (26113544826))]), (.int false .i64 (0))])) := known table1_ok (by kernel_rfl) (by kernel_rfl) (by kernel_rfl)
/-- monocle/span.Mul (444 steps) -/
theorem call544 : MemoOk Tryz.prog glob hG (128, [(.agg [(.int false .i64 (26113544083)), (.int false .i64 (26113544826))]), (.agg [(.int false .i64 (429496729)), (.int false .i64 (429496730))])], (.tuple [(.agg [(.int false .i64 (2611354404)), (.int false .i64 (2611354486))]), (.int false .i64 (0))])) := known table1_ok (by kernel_rfl) (by kernel_rfl) (by kernel_rfl)
/-- monocle/span.Scale (62 steps) -/
theorem call545 : MemoOk Tryz.prog glob hG (150, [(.agg [(.int false .i64 (2611354404)), (.int false .i64 (2611354486))]), (.int false .i64 (1000000)), (.int false .i64 (1000000))], (.tuple [(.agg [(.int false .i64 (2611354404)), (.int false .i64 (2611354486))]), (.int false .i64 (0))])) := known table1_ok (by kernel_rfl) (by kernel_rfl) (by kernel_rfl)
/-- monocle/span.Scale (62 steps) -/
theorem call546 : MemoOk Tryz.prog glob hG (150, [(.agg [(.int false .i64 (2611354404)), (.int false .i64 (2611354486))]), (.int false .i64 (1000000000)), (.int false .i64 (1000000000))], (.tuple [(.agg [(.int false .i64 (2611354404)), (.int false .i64 (2611354486))]), (.int false .i64 (0))])) := known table1_ok (by kernel_rfl) (by kernel_rfl) (by kernel_rfl)
/-- monocle/span.Sub (114 steps) -/
theorem call547 : MemoOk Tryz.prog glob hG (152, [(.agg [(.int false .i64 (4294967296)), (.int false .i64 (4294967296))]), (.agg [(.int false .i64 (2611354404)), (.int false .i64 (2611354486))])], (.tuple [(.agg [(.int false .i64 (1683612810)), (.int false .i64 (1683612892))]), (.int false .i64 (0))])) := known table1_ok (by kernel_rfl) (by kernel_rfl) (by kernel_rfl)
/-- monocle/span.Mul (438 steps) -/
theorem call548 : MemoOk Tryz.prog glob hG (128, [(.agg [(.int false .i64 (26113544083)), (.int false .i64 (26113544826))]), (.agg [(.int false .i64 (4294967296)), (.int false .i64 (4294967296))])], (.tuple [(.agg [(.int false .i64 (26113544083)), (.int false .i64 (26113544826))]), (.int false .i64 (0))])) := known table1_ok (by kernel_rfl) (by kernel_rfl) (by kernel_rfl)
/-- monocle/span.Add (114 steps) -/
theorem call549 : MemoOk Tryz.prog glob hG (85, [(.agg [(.int false .i64 (-30064771103)), (.int false .i64 (-30064771052))]), (.agg [(.int false .i64 (26113544083)), (.int false .i64 (26113544826))])], (.tuple [(.agg [(.int false .i64 (-3951227020)), (.int false .i64 (-3951226226))]), (.int false .i64 (0))])) := known table1_ok (by kernel_rfl) (by kernel_rfl) (by kernel_rfl)
/-- monocle/span.Mul (435 steps) -/
theorem call550 : MemoOk Tryz.prog glob hG (128, [(.agg [(.int false .i64 (26113544083)), (.int false .i64 (26113544826))]), (.agg [(.int false .i64 (0)), (.int false .i64 (0))])], (.tuple [(.agg [(.int false .i64 (0)), (.int false .i64 (0))]), (.int false .i64 (0))])) := known table1_ok (by kernel_rfl) (by kernel_rfl) (by kernel_rfl)
/-- monocle/span.Add (114 steps) -/
theorem call551 : MemoOk Tryz.prog glob hG (85, [(.agg [(.int false .i64 (-21474836511)), (.int false .i64 (-21474836460))]), (.agg [(.int false .i64 (26113544083)), (.int false .i64 (26113544826))])], (.tuple [(.agg [(.int false .i64 (4638707572)), (.int false .i64 (4638708366))]), (.int false .i64 (0))])) := known table1_ok (by kernel_rfl) (by kernel_rfl) (by kernel_rfl)
/-- monocle/monocleref02.Scale (7019 steps) -/
theorem call552 : MemoOk Tryz.prog glob hG (61, [(.agg [(.int false .i64 (4294967296)), (.int false .i64 (4294967296))]), (.int false .i64 (1500)), (.int false .i64 (1000))], (.tuple [(.agg [(.int false .i64 (6442450944)), (.int false .i64 (6442450944))]), (.int false .i64 (0))])) := known table1_ok (by kernel_rfl) (by kernel_rfl) (by kernel_rfl)
/-- monocle/span.Neg (54 steps) -/
theorem call553 : MemoOk Tryz.prog glob hG (118, [(.agg [(.int false .i64 (6442450944)), (.int false .i64 (6442450944))])], (.tuple [(.agg [(.int false .i64 (-6442450944)), (.int false .i64 (-6442450944))]), (.int false .i64 (0))])) := known table1_ok (by kernel_rfl) (by kernel_rfl) (by kernel_rfl)
/-- monocle/span.Div (446 steps) -/
theorem call554 : MemoOk Tryz.prog glob hG (127, [(.agg [(.int false .i64 (-6442450944)), (.int false .i64 (-6442450944))]), (.agg [(.int false .i64 (429496729)), (.int false .i64 (429496730))])], (.tuple [(.agg [(.int false .i64 (-64424509531)), (.int false .i64 (-64424509380))]), (.int false .i64 (0))])) := known table1_ok (by kernel_rfl) (by kernel_rfl) (by kernel_rfl)
/-- monocle/span.Mul (438 steps) -/
theorem call555 : MemoOk Tryz.prog glob hG (128, [(.agg [(.int false .i64 (-64424509531)), (.int false .i64 (-64424509380))]), (.agg [(.int false .i64 (4294967296)), (.int false .i64 (4294967296))])], (.tuple [(.agg [(.int false .i64 (-64424509531)), (.int false .i64 (-64424509380))]), (.int false .i64 (0))])) := known table1_ok (by kernel_rfl) (by kernel_rfl) (by kernel_rfl)
/-- monocle/span.Add (114 steps) -/
theorem call556 : MemoOk Tryz.prog glob hG (85, [(.agg [(.int false .i64 (-8589934592)), (.int false .i64 (-8589934592))]), (.agg [(.int false .i64 (-64424509531)), (.int false .i64 (-64424509380))])], (.tuple [(.agg [(.int false .i64 (-73014444123)), (.int false .i64 (-73014443972))]), (.int false .i64 (0))])) := known table1_ok (by kernel_rfl) (by kernel_rfl) (by kernel_rfl)
/-- monocle/span.Mul (435 steps) -/
theorem call557 : MemoOk Tryz.prog glob hG (128, [(.agg [(.int false .i64 (-64424509531)), (.int false .i64 (-64424509380))]), (.agg [(.int false .i64 (0)), (.int false .i64 (0))])], (.tuple [(.agg [(.int false .i64 (0)), (.int false .i64 (0))]), (.int false .i64 (0))])) := known table1_ok (by kernel_rfl) (by kernel_rfl) (by kernel_rfl)
/-- monocle/span.Sqr (1184 steps) -/
theorem call558 : MemoOk Tryz.prog glob hG (151, [(.agg [(.int false .i64 (-73014444123)), (.int false .i64 (-73014443972))])], (.tuple [(.agg [(.int false .i64 (1241245546504)), (.int false .i64 (1241245551639))]), (.int false .i64 (0))])) := known table1_ok (by kernel_rfl) (by kernel_rfl) (by kernel_rfl)
/-- monocle/span.Add (114 steps) -/
theorem call559 : MemoOk Tryz.prog glob hG (85, [(.agg [(.int false .i64 (1241245546504)), (.int false .i64 (1241245551639))]), (.agg [(.int false .i64 (0)), (.int false .i64 (0))])], (.tuple [(.agg [(.int false .i64 (1241245546504)), (.int false .i64 (1241245551639))]), (.int false .i64 (0))])) := known table1_ok (by kernel_rfl) (by kernel_rfl) (by kernel_rfl)
/-- monocle/span.Scale (62 steps) -/
theorem call560 : MemoOk Tryz.prog glob hG (150, [(.agg [(.int false .i64 (1241245546504)), (.int false .i64 (1241245551639))]), (.int false .i64 (1000000000)), (.int false .i64 (1000000000))], (.tuple [(.agg [(.int false .i64 (1241245546504)), (.int false .i64 (1241245551639))]), (.int false .i64 (0))])) := known table1_ok (by kernel_rfl) (by kernel_rfl) (by kernel_rfl)
/-- monocle/span.Mul (438 steps) -/
theorem call561 : MemoOk Tryz.prog glob hG (128, [(.agg [(.int false .i64 (4294967296)), (.int false .i64 (4294967296))]), (.agg [(.int false .i64 (-73014444123)), (.int false .i64 (-73014443972))])], (.tuple [(.agg [(.int false .i64 (-73014444123)), (.int false .i64 (-73014443972))]), (.int false .i64 (0))])) := known table1_ok (by kernel_rfl) (by kernel_rfl) (by kernel_rfl)
/-- monocle/span.Add (114 steps) -/
theorem call562 : MemoOk Tryz.prog glob hG (85, [(.agg [(.int false .i64 (-73014444123)), (.int false .i64 (-73014443972))]), (.agg [(.int false .i64 (0)), (.int false .i64 (0))])], (.tuple [(.agg [(.int false .i64 (-73014444123)), (.int false .i64 (-73014443972))]), (.int false .i64 (0))])) := known table1_ok (by kernel_rfl) (by kernel_rfl) (by kernel_rfl)
/-- monocle/span.Scale (62 steps) -/
theorem call563 : MemoOk Tryz.prog glob hG (150, [(.agg [(.int false .i64 (-73014444123)), (.int false .i64 (-73014443972))]), (.int false .i64 (1000000000)), (.int false .i64 (1000000000))], (.tuple [(.agg [(.int false .i64 (-73014444123)), (.int false .i64 (-73014443972))]), (.int false .i64 (0))])) := known table1_ok (by kernel_rfl) (by kernel_rfl) (by kernel_rfl)
/-- monocle/span.Sub (114 steps) -/
theorem call564 : MemoOk Tryz.prog glob hG (152, [(.agg [(.int false .i64 (429496729)), (.int false .i64 (429496730))]), (.agg [(.int false .i64 (-73014444123)), (.int false .i64 (-73014443972))])], (.tuple [(.agg [(.int false .i64 (73443940701)), (.int false .i64 (73443940853))]), (.int false .i64 (0))])) := known table1_ok (by kernel_rfl) (by kernel_rfl) (by kernel_rfl)
/-- monocle/span.Sqr (1184 steps) -/
theorem call565 : MemoOk Tryz.prog glob hG (151, [(.agg [(.int false .i64 (73443940701)), (.int false .i64 (73443940853))])], (.tuple [(.agg [(.int false .i64 (1255891384950)), (.int false .i64 (1255891390150))]), (.int false .i64 (0))])) := known table1_ok (by kernel_rfl) (by kernel_rfl) (by kernel_rfl)
/-- monocle/span.Mul (444 steps) -/
theorem call566 : MemoOk Tryz.prog glob hG (128, [(.agg [(.int false .i64 (1241245546504)), (.int false .i64 (1241245551639))]), (.agg [(.int false .i64 (4337916968)), (.int false .i64 (4337916970))])], (.tuple [(.agg [(.int false .i64 (1253658001691)), (.int false .i64 (1253658007456))]), (.int false .i64 (0))])) := known table1_ok (by kernel_rfl) (by kernel_rfl) (by kernel_rfl)
/-- monocle/span.Sub (114 steps) -/
theorem call567 : MemoOk Tryz.prog glob hG (152, [(.agg [(.int false .i64 (1255891384950)), (.int false .i64 (1255891390150))]), (.agg [(.int false .i64 (1253658001691)), (.int false .i64 (1253658007456))])], (.tuple [(.agg [(.int false .i64 (2233377494)), (.int false .i64 (2233388459))]), (.int false .i64 (0))])) := known table1_ok (by kernel_rfl) (by kernel_rfl) (by kernel_rfl)
/-- monocle/span.Sqrt (69 steps) -/
theorem call568 : MemoOk Tryz.prog glob hG (117, [(.agg [(.int false .i64 (2233377494)), (.int false .i64 (2233388459))])], (.tuple [(.agg [(.int false .i64 (3097141148)), (.int false .i64 (3097148752))]), (.int false .i64 (0))])) := known table1_ok (by kernel_rfl) (by kernel_rfl) (by kernel_rfl)
/-- monocle/span.Add (114 steps) -/
theorem call569 : MemoOk Tryz.prog glob hG (85, [(.agg [(.int false .i64 (73443940701)), (.int false .i64 (73443940853))]), (.agg [(.int false .i64 (3097141148)), (.int false .i64 (3097148752))])], (.tuple [(.agg [(.int false .i64 (76541081849)), (.int false .i64 (76541089605))]), (.int false .i64 (0))])) := known table1_ok (by kernel_rfl) (by kernel_rfl) (by kernel_rfl)
/-- monocle/span.Div (449 steps) -/
theorem call570 : MemoOk Tryz.prog glob hG (127, [(.agg [(.int false .i64 (1241245546504)), (.int false .i64 (1241245551639))]), (.agg [(.int false .i64 (76541081849)), (.int false .i64 (76541089605))])], (.tuple [(.agg [(.int false .i64 (69650289224)), (.int false .i64 (69650296571))]), (.int false .i64 (0))])) := known table1_ok (by kernel_rfl) (by kernel_rfl) (by kernel_rfl)
end Go.Proofs.YtdljkgcdgidldaaGreatDoor
