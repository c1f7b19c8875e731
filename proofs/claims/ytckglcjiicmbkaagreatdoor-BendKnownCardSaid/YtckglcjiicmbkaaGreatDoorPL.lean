/- What is proved: BendKnown returns true (part 12 of 18). No conditions beyond those of the row. -/
import Derived.Test.YtckglcjiicmbkaaGreatDoorPK
set_option linter.unusedVariables false
set_option linter.unusedSimpArgs false
set_option linter.unusedSectionVars false
/- What is proved: calls of the law BendKnown, of which the answers are known (level 2). No conditions. -/
namespace Go.Proofs.YtckglcjiicmbkaaGreatDoor
open Go Go.Eng

/-- monocle/monocleref02.Scale (7063 steps) -/
theorem call278 : MemoOk Tryz.prog glob hG (54, [(.agg [(.int false .i64 (4294967296)), (.int false .i64 (4294967296))]), (.int false .i64 (625)), (.int false .i64 (1000))], (.tuple [(.agg [(.int false .i64 (2684354560)), (.int false .i64 (2684354560))]), (.int false .i64 (0))])) := known table1_ok (by kernel_rfl) (by kernel_rfl) (by kernel_rfl)
/-- monocle/span.Mul (435 steps) -/
theorem call279 : MemoOk Tryz.prog glob hG (133, [(.agg [(.int false .i64 (0)), (.int false .i64 (0))]), (.agg [(.int false .i64 (0)), (.int false .i64 (0))])], (.tuple [(.agg [(.int false .i64 (0)), (.int false .i64 (0))]), (.int false .i64 (0))])) := known table1_ok (by kernel_rfl) (by kernel_rfl) (by kernel_rfl)
/-- monocle/span.Mul (435 steps) -/
theorem call280 : MemoOk Tryz.prog glob hG (133, [(.agg [(.int false .i64 (3221225472)), (.int false .i64 (3221225472))]), (.agg [(.int false .i64 (0)), (.int false .i64 (0))])], (.tuple [(.agg [(.int false .i64 (0)), (.int false .i64 (0))]), (.int false .i64 (0))])) := known table1_ok (by kernel_rfl) (by kernel_rfl) (by kernel_rfl)
/-- monocle/span.Mul (435 steps) -/
theorem call281 : MemoOk Tryz.prog glob hG (133, [(.agg [(.int false .i64 (2684354560)), (.int false .i64 (2684354560))]), (.agg [(.int false .i64 (4294967296)), (.int false .i64 (4294967296))])], (.tuple [(.agg [(.int false .i64 (2684354560)), (.int false .i64 (2684354560))]), (.int false .i64 (0))])) := known table1_ok (by kernel_rfl) (by kernel_rfl) (by kernel_rfl)
/-- monocle/span.Add (114 steps) -/
theorem call282 : MemoOk Tryz.prog glob hG (164, [(.agg [(.int false .i64 (0)), (.int false .i64 (0))]), (.agg [(.int false .i64 (2684354560)), (.int false .i64 (2684354560))])], (.tuple [(.agg [(.int false .i64 (2684354560)), (.int false .i64 (2684354560))]), (.int false .i64 (0))])) := known table1_ok (by kernel_rfl) (by kernel_rfl) (by kernel_rfl)
/-- monocle/span.Scale (62 steps) -/
theorem call283 : MemoOk Tryz.prog glob hG (141, [(.agg [(.int false .i64 (0)), (.int false .i64 (0))]), (.int false .i64 (10000000)), (.int false .i64 (15000000))], (.tuple [(.agg [(.int false .i64 (0)), (.int false .i64 (0))]), (.int false .i64 (0))])) := known table1_ok (by kernel_rfl) (by kernel_rfl) (by kernel_rfl)
/-- monocle/span.Scale (62 steps) -/
theorem call284 : MemoOk Tryz.prog glob hG (141, [(.agg [(.int false .i64 (3221225472)), (.int false .i64 (3221225472))]), (.int false .i64 (10000000)), (.int false .i64 (15000000))], (.tuple [(.agg [(.int false .i64 (2147483648)), (.int false .i64 (2147483648))]), (.int false .i64 (0))])) := known table1_ok (by kernel_rfl) (by kernel_rfl) (by kernel_rfl)
/-- monocle/span.Scale (62 steps) -/
theorem call285 : MemoOk Tryz.prog glob hG (141, [(.agg [(.int false .i64 (2684354560)), (.int false .i64 (2684354560))]), (.int false .i64 (10000000)), (.int false .i64 (15000000))], (.tuple [(.agg [(.int false .i64 (1789569706)), (.int false .i64 (1789569707))]), (.int false .i64 (0))])) := known table1_ok (by kernel_rfl) (by kernel_rfl) (by kernel_rfl)
/-- monocle/span.Mul (435 steps) -/
theorem call286 : MemoOk Tryz.prog glob hG (133, [(.agg [(.int false .i64 (2147483648)), (.int false .i64 (2147483648))]), (.agg [(.int false .i64 (0)), (.int false .i64 (0))])], (.tuple [(.agg [(.int false .i64 (0)), (.int false .i64 (0))]), (.int false .i64 (0))])) := known table1_ok (by kernel_rfl) (by kernel_rfl) (by kernel_rfl)
/-- monocle/span.Mul (438 steps) -/
theorem call287 : MemoOk Tryz.prog glob hG (133, [(.agg [(.int false .i64 (1789569706)), (.int false .i64 (1789569707))]), (.agg [(.int false .i64 (4294967296)), (.int false .i64 (4294967296))])], (.tuple [(.agg [(.int false .i64 (1789569706)), (.int false .i64 (1789569707))]), (.int false .i64 (0))])) := known table1_ok (by kernel_rfl) (by kernel_rfl) (by kernel_rfl)
/-- monocle/span.Add (114 steps) -/
theorem call288 : MemoOk Tryz.prog glob hG (164, [(.agg [(.int false .i64 (0)), (.int false .i64 (0))]), (.agg [(.int false .i64 (1789569706)), (.int false .i64 (1789569707))])], (.tuple [(.agg [(.int false .i64 (1789569706)), (.int false .i64 (1789569707))]), (.int false .i64 (0))])) := known table1_ok (by kernel_rfl) (by kernel_rfl) (by kernel_rfl)
/-- monocle/span.Mul (435 steps) -/
theorem call289 : MemoOk Tryz.prog glob hG (133, [(.agg [(.int false .i64 (0)), (.int false .i64 (0))]), (.agg [(.int false .i64 (1789569706)), (.int false .i64 (1789569707))])], (.tuple [(.agg [(.int false .i64 (0)), (.int false .i64 (0))]), (.int false .i64 (0))])) := known table1_ok (by kernel_rfl) (by kernel_rfl) (by kernel_rfl)
/-- monocle/span.Mul (438 steps) -/
theorem call290 : MemoOk Tryz.prog glob hG (133, [(.agg [(.int false .i64 (4294967296)), (.int false .i64 (4294967296))]), (.agg [(.int false .i64 (1789569706)), (.int false .i64 (1789569707))])], (.tuple [(.agg [(.int false .i64 (1789569706)), (.int false .i64 (1789569707))]), (.int false .i64 (0))])) := known table1_ok (by kernel_rfl) (by kernel_rfl) (by kernel_rfl)
/-- monocle/span.Sub (114 steps) -/
theorem call291 : MemoOk Tryz.prog glob hG (136, [(.agg [(.int false .i64 (0)), (.int false .i64 (0))]), (.agg [(.int false .i64 (0)), (.int false .i64 (0))])], (.tuple [(.agg [(.int false .i64 (0)), (.int false .i64 (0))]), (.int false .i64 (0))])) := known table1_ok (by kernel_rfl) (by kernel_rfl) (by kernel_rfl)
/-- monocle/span.Sub (114 steps) -/
theorem call292 : MemoOk Tryz.prog glob hG (136, [(.agg [(.int false .i64 (2147483648)), (.int false .i64 (2147483648))]), (.agg [(.int false .i64 (0)), (.int false .i64 (0))])], (.tuple [(.agg [(.int false .i64 (2147483648)), (.int false .i64 (2147483648))]), (.int false .i64 (0))])) := known table1_ok (by kernel_rfl) (by kernel_rfl) (by kernel_rfl)
/-- monocle/span.Sub (114 steps) -/
theorem call293 : MemoOk Tryz.prog glob hG (136, [(.agg [(.int false .i64 (1789569706)), (.int false .i64 (1789569707))]), (.agg [(.int false .i64 (1789569706)), (.int false .i64 (1789569707))])], (.tuple [(.agg [(.int false .i64 (-1)), (.int false .i64 (1))]), (.int false .i64 (0))])) := known table1_ok (by kernel_rfl) (by kernel_rfl) (by kernel_rfl)
/-- monocle/span.Mul (435 steps) -/
theorem call294 : MemoOk Tryz.prog glob hG (133, [(.agg [(.int false .i64 (2147483648)), (.int false .i64 (2147483648))]), (.agg [(.int false .i64 (2147483648)), (.int false .i64 (2147483648))])], (.tuple [(.agg [(.int false .i64 (1073741824)), (.int false .i64 (1073741824))]), (.int false .i64 (0))])) := known table1_ok (by kernel_rfl) (by kernel_rfl) (by kernel_rfl)
/-- monocle/span.Mul (438 steps) -/
theorem call295 : MemoOk Tryz.prog glob hG (133, [(.agg [(.int false .i64 (-1)), (.int false .i64 (1))]), (.agg [(.int false .i64 (-1)), (.int false .i64 (1))])], (.tuple [(.agg [(.int false .i64 (-1)), (.int false .i64 (1))]), (.int false .i64 (0))])) := known table1_ok (by kernel_rfl) (by kernel_rfl) (by kernel_rfl)
/-- monocle/span.Add (114 steps) -/
theorem call296 : MemoOk Tryz.prog glob hG (164, [(.agg [(.int false .i64 (0)), (.int false .i64 (0))]), (.agg [(.int false .i64 (1073741824)), (.int false .i64 (1073741824))])], (.tuple [(.agg [(.int false .i64 (1073741824)), (.int false .i64 (1073741824))]), (.int false .i64 (0))])) := known table1_ok (by kernel_rfl) (by kernel_rfl) (by kernel_rfl)
/-- monocle/span.Add (114 steps) -/
theorem call297 : MemoOk Tryz.prog glob hG (164, [(.agg [(.int false .i64 (1073741824)), (.int false .i64 (1073741824))]), (.agg [(.int false .i64 (-1)), (.int false .i64 (1))])], (.tuple [(.agg [(.int false .i64 (1073741823)), (.int false .i64 (1073741825))]), (.int false .i64 (0))])) := known table1_ok (by kernel_rfl) (by kernel_rfl) (by kernel_rfl)
/-- monocle/span.Sub (114 steps) -/
theorem call298 : MemoOk Tryz.prog glob hG (136, [(.agg [(.int false .i64 (4294967296)), (.int false .i64 (4294967296))]), (.agg [(.int false .i64 (1073741823)), (.int false .i64 (1073741825))])], (.tuple [(.agg [(.int false .i64 (3221225471)), (.int false .i64 (3221225473))]), (.int false .i64 (0))])) := known table1_ok (by kernel_rfl) (by kernel_rfl) (by kernel_rfl)
/-- monocle/span.Sqrt (69 steps) -/
theorem call299 : MemoOk Tryz.prog glob hG (88, [(.agg [(.int false .i64 (3221225471)), (.int false .i64 (3221225473))])], (.tuple [(.agg [(.int false .i64 (3719550786)), (.int false .i64 (3719550788))]), (.int false .i64 (0))])) := known table1_ok (by kernel_rfl) (by kernel_rfl) (by kernel_rfl)
/-- monocle/span.Mul (435 steps) -/
theorem call300 : MemoOk Tryz.prog glob hG (133, [(.agg [(.int false .i64 (0)), (.int false .i64 (0))]), (.agg [(.int false .i64 (3719550786)), (.int false .i64 (3719550788))])], (.tuple [(.agg [(.int false .i64 (0)), (.int false .i64 (0))]), (.int false .i64 (0))])) := known table1_ok (by kernel_rfl) (by kernel_rfl) (by kernel_rfl)
/-- monocle/span.Mul (438 steps) -/
theorem call301 : MemoOk Tryz.prog glob hG (133, [(.agg [(.int false .i64 (4294967296)), (.int false .i64 (4294967296))]), (.agg [(.int false .i64 (3719550786)), (.int false .i64 (3719550788))])], (.tuple [(.agg [(.int false .i64 (3719550786)), (.int false .i64 (3719550788))]), (.int false .i64 (0))])) := known table1_ok (by kernel_rfl) (by kernel_rfl) (by kernel_rfl)
/-- monocle/span.Add (114 steps) -/
theorem call302 : MemoOk Tryz.prog glob hG (164, [(.agg [(.int false .i64 (2147483648)), (.int false .i64 (2147483648))]), (.agg [(.int false .i64 (0)), (.int false .i64 (0))])], (.tuple [(.agg [(.int false .i64 (2147483648)), (.int false .i64 (2147483648))]), (.int false .i64 (0))])) := known table1_ok (by kernel_rfl) (by kernel_rfl) (by kernel_rfl)
/-- monocle/span.Add (114 steps) -/
theorem call303 : MemoOk Tryz.prog glob hG (164, [(.agg [(.int false .i64 (-1)), (.int false .i64 (1))]), (.agg [(.int false .i64 (3719550786)), (.int false .i64 (3719550788))])], (.tuple [(.agg [(.int false .i64 (3719550785)), (.int false .i64 (3719550789))]), (.int false .i64 (0))])) := known table1_ok (by kernel_rfl) (by kernel_rfl) (by kernel_rfl)
/-- monocle/span.Scale (62 steps) -/
theorem call304 : MemoOk Tryz.prog glob hG (141, [(.agg [(.int false .i64 (0)), (.int false .i64 (0))]), (.int false .i64 (15000000)), (.int false .i64 (10000000))], (.tuple [(.agg [(.int false .i64 (0)), (.int false .i64 (0))]), (.int false .i64 (0))])) := known table1_ok (by kernel_rfl) (by kernel_rfl) (by kernel_rfl)
/-- monocle/span.Scale (62 steps) -/
theorem call305 : MemoOk Tryz.prog glob hG (141, [(.agg [(.int false .i64 (3221225472)), (.int false .i64 (3221225472))]), (.int false .i64 (15000000)), (.int false .i64 (10000000))], (.tuple [(.agg [(.int false .i64 (4831838208)), (.int false .i64 (4831838208))]), (.int false .i64 (0))])) := known table1_ok (by kernel_rfl) (by kernel_rfl) (by kernel_rfl)
/-- monocle/span.Scale (62 steps) -/
theorem call306 : MemoOk Tryz.prog glob hG (141, [(.agg [(.int false .i64 (2684354560)), (.int false .i64 (2684354560))]), (.int false .i64 (15000000)), (.int false .i64 (10000000))], (.tuple [(.agg [(.int false .i64 (4026531840)), (.int false .i64 (4026531840))]), (.int false .i64 (0))])) := known table1_ok (by kernel_rfl) (by kernel_rfl) (by kernel_rfl)
/-- monocle/span.Mul (435 steps) -/
theorem call307 : MemoOk Tryz.prog glob hG (133, [(.agg [(.int false .i64 (4831838208)), (.int false .i64 (4831838208))]), (.agg [(.int false .i64 (0)), (.int false .i64 (0))])], (.tuple [(.agg [(.int false .i64 (0)), (.int false .i64 (0))]), (.int false .i64 (0))])) := known table1_ok (by kernel_rfl) (by kernel_rfl) (by kernel_rfl)
/-- monocle/span.Mul (435 steps) -/
theorem call308 : MemoOk Tryz.prog glob hG (133, [(.agg [(.int false .i64 (4026531840)), (.int false .i64 (4026531840))]), (.agg [(.int false .i64 (4294967296)), (.int false .i64 (4294967296))])], (.tuple [(.agg [(.int false .i64 (4026531840)), (.int false .i64 (4026531840))]), (.int false .i64 (0))])) := known table1_ok (by kernel_rfl) (by kernel_rfl) (by kernel_rfl)
/-- monocle/span.Add (114 steps) -/
theorem call309 : MemoOk Tryz.prog glob hG (164, [(.agg [(.int false .i64 (0)), (.int false .i64 (0))]), (.agg [(.int false .i64 (4026531840)), (.int false .i64 (4026531840))])], (.tuple [(.agg [(.int false .i64 (4026531840)), (.int false .i64 (4026531840))]), (.int false .i64 (0))])) := known table1_ok (by kernel_rfl) (by kernel_rfl) (by kernel_rfl)
/-- monocle/span.Mul (435 steps) -/
theorem call310 : MemoOk Tryz.prog glob hG (133, [(.agg [(.int false .i64 (0)), (.int false .i64 (0))]), (.agg [(.int false .i64 (4026531840)), (.int false .i64 (4026531840))])], (.tuple [(.agg [(.int false .i64 (0)), (.int false .i64 (0))]), (.int false .i64 (0))])) := known table1_ok (by kernel_rfl) (by kernel_rfl) (by kernel_rfl)
/-- monocle/span.Mul (435 steps) -/
theorem call311 : MemoOk Tryz.prog glob hG (133, [(.agg [(.int false .i64 (4294967296)), (.int false .i64 (4294967296))]), (.agg [(.int false .i64 (4026531840)), (.int false .i64 (4026531840))])], (.tuple [(.agg [(.int false .i64 (4026531840)), (.int false .i64 (4026531840))]), (.int false .i64 (0))])) := known table1_ok (by kernel_rfl) (by kernel_rfl) (by kernel_rfl)
/-- monocle/span.Sub (114 steps) -/
theorem call312 : MemoOk Tryz.prog glob hG (136, [(.agg [(.int false .i64 (4831838208)), (.int false .i64 (4831838208))]), (.agg [(.int false .i64 (0)), (.int false .i64 (0))])], (.tuple [(.agg [(.int false .i64 (4831838208)), (.int false .i64 (4831838208))]), (.int false .i64 (0))])) := known table1_ok (by kernel_rfl) (by kernel_rfl) (by kernel_rfl)
/-- monocle/span.Sub (114 steps) -/
theorem call313 : MemoOk Tryz.prog glob hG (136, [(.agg [(.int false .i64 (4026531840)), (.int false .i64 (4026531840))]), (.agg [(.int false .i64 (4026531840)), (.int false .i64 (4026531840))])], (.tuple [(.agg [(.int false .i64 (0)), (.int false .i64 (0))]), (.int false .i64 (0))])) := known table1_ok (by kernel_rfl) (by kernel_rfl) (by kernel_rfl)
/-- monocle/span.Mul (435 steps) -/
theorem call314 : MemoOk Tryz.prog glob hG (133, [(.agg [(.int false .i64 (4831838208)), (.int false .i64 (4831838208))]), (.agg [(.int false .i64 (4831838208)), (.int false .i64 (4831838208))])], (.tuple [(.agg [(.int false .i64 (5435817984)), (.int false .i64 (5435817984))]), (.int false .i64 (0))])) := known table1_ok (by kernel_rfl) (by kernel_rfl) (by kernel_rfl)
/-- monocle/span.Add (114 steps) -/
theorem call315 : MemoOk Tryz.prog glob hG (164, [(.agg [(.int false .i64 (0)), (.int false .i64 (0))]), (.agg [(.int false .i64 (5435817984)), (.int false .i64 (5435817984))])], (.tuple [(.agg [(.int false .i64 (5435817984)), (.int false .i64 (5435817984))]), (.int false .i64 (0))])) := known table1_ok (by kernel_rfl) (by kernel_rfl) (by kernel_rfl)
/-- monocle/span.Add (114 steps) -/
theorem call316 : MemoOk Tryz.prog glob hG (164, [(.agg [(.int false .i64 (5435817984)), (.int false .i64 (5435817984))]), (.agg [(.int false .i64 (0)), (.int false .i64 (0))])], (.tuple [(.agg [(.int false .i64 (5435817984)), (.int false .i64 (5435817984))]), (.int false .i64 (0))])) := known table1_ok (by kernel_rfl) (by kernel_rfl) (by kernel_rfl)
/-- monocle/span.Sub (114 steps) -/
theorem call317 : MemoOk Tryz.prog glob hG (136, [(.agg [(.int false .i64 (4294967296)), (.int false .i64 (4294967296))]), (.agg [(.int false .i64 (5435817984)), (.int false .i64 (5435817984))])], (.tuple [(.agg [(.int false .i64 (-1140850688)), (.int false .i64 (-1140850688))]), (.int false .i64 (0))])) := known table1_ok (by kernel_rfl) (by kernel_rfl) (by kernel_rfl)
/-- monocle/span.Mul (435 steps) -/
theorem call318 : MemoOk Tryz.prog glob hG (133, [(.agg [(.int false .i64 (0)), (.int false .i64 (0))]), (.agg [(.int false .i64 (4294967296)), (.int false .i64 (4294967296))])], (.tuple [(.agg [(.int false .i64 (0)), (.int false .i64 (0))]), (.int false .i64 (0))])) := known table1_ok (by kernel_rfl) (by kernel_rfl) (by kernel_rfl)
/-- monocle/monocleref02.Scale (7019 steps) -/
theorem call319 : MemoOk Tryz.prog glob hG (54, [(.agg [(.int false .i64 (4294967296)), (.int false .i64 (4294967296))]), (.int false .i64 (500)), (.int false .i64 (1000))], (.tuple [(.agg [(.int false .i64 (2147483648)), (.int false .i64 (2147483648))]), (.int false .i64 (0))])) := known table1_ok (by kernel_rfl) (by kernel_rfl) (by kernel_rfl)
/-- monocle/monocleref02.Scale (7817 steps) -/
theorem call320 : MemoOk Tryz.prog glob hG (54, [(.agg [(.int false .i64 (4294967296)), (.int false .i64 (4294967296))]), (.int false .i64 (866025)), (.int false .i64 (1000000))], (.tuple [(.agg [(.int false .i64 (3719549052)), (.int false .i64 (3719549053))]), (.int false .i64 (0))])) := known table1_ok (by kernel_rfl) (by kernel_rfl) (by kernel_rfl)
/-- monocle/glass.Name (281 steps) -/
theorem call321 : MemoOk Tryz.prog glob hG (67, [(.str false ⟨#[77, 73, 82, 82, 79, 82]⟩)], (.bool false true)) := known table1_ok (by kernel_rfl) (by kernel_rfl) (by kernel_rfl)
/-- monocle/span.Mul (435 steps) -/
theorem call322 : MemoOk Tryz.prog glob hG (133, [(.agg [(.int false .i64 (3221225472)), (.int false .i64 (3221225472))]), (.agg [(.int false .i64 (4294967296)), (.int false .i64 (4294967296))])], (.tuple [(.agg [(.int false .i64 (3221225472)), (.int false .i64 (3221225472))]), (.int false .i64 (0))])) := known table1_ok (by kernel_rfl) (by kernel_rfl) (by kernel_rfl)
/-- monocle/span.Add (114 steps) -/
theorem call323 : MemoOk Tryz.prog glob hG (164, [(.agg [(.int false .i64 (0)), (.int false .i64 (0))]), (.agg [(.int false .i64 (3221225472)), (.int false .i64 (3221225472))])], (.tuple [(.agg [(.int false .i64 (3221225472)), (.int false .i64 (3221225472))]), (.int false .i64 (0))])) := known table1_ok (by kernel_rfl) (by kernel_rfl) (by kernel_rfl)
/-- monocle/span.Mul (435 steps) -/
theorem call324 : MemoOk Tryz.prog glob hG (133, [(.agg [(.int false .i64 (0)), (.int false .i64 (0))]), (.agg [(.int false .i64 (3221225472)), (.int false .i64 (3221225472))])], (.tuple [(.agg [(.int false .i64 (0)), (.int false .i64 (0))]), (.int false .i64 (0))])) := known table1_ok (by kernel_rfl) (by kernel_rfl) (by kernel_rfl)
/-- monocle/span.Mul (435 steps) -/
theorem call325 : MemoOk Tryz.prog glob hG (133, [(.agg [(.int false .i64 (4294967296)), (.int false .i64 (4294967296))]), (.agg [(.int false .i64 (3221225472)), (.int false .i64 (3221225472))])], (.tuple [(.agg [(.int false .i64 (3221225472)), (.int false .i64 (3221225472))]), (.int false .i64 (0))])) := known table1_ok (by kernel_rfl) (by kernel_rfl) (by kernel_rfl)
/-- monocle/span.Sub (114 steps) -/
theorem call326 : MemoOk Tryz.prog glob hG (136, [(.agg [(.int false .i64 (3221225472)), (.int false .i64 (3221225472))]), (.agg [(.int false .i64 (3221225472)), (.int false .i64 (3221225472))])], (.tuple [(.agg [(.int false .i64 (0)), (.int false .i64 (0))]), (.int false .i64 (0))])) := known table1_ok (by kernel_rfl) (by kernel_rfl) (by kernel_rfl)
/-- monocle/span.Add (114 steps) -/
theorem call327 : MemoOk Tryz.prog glob hG (164, [(.agg [(.int false .i64 (1073741824)), (.int false .i64 (1073741824))]), (.agg [(.int false .i64 (0)), (.int false .i64 (0))])], (.tuple [(.agg [(.int false .i64 (1073741824)), (.int false .i64 (1073741824))]), (.int false .i64 (0))])) := known table1_ok (by kernel_rfl) (by kernel_rfl) (by kernel_rfl)
/-- monocle/span.Sub (114 steps) -/
theorem call328 : MemoOk Tryz.prog glob hG (136, [(.agg [(.int false .i64 (4294967296)), (.int false .i64 (4294967296))]), (.agg [(.int false .i64 (1073741824)), (.int false .i64 (1073741824))])], (.tuple [(.agg [(.int false .i64 (3221225472)), (.int false .i64 (3221225472))]), (.int false .i64 (0))])) := known table1_ok (by kernel_rfl) (by kernel_rfl) (by kernel_rfl)
/-- monocle/span.Sqrt (69 steps) -/
theorem call329 : MemoOk Tryz.prog glob hG (88, [(.agg [(.int false .i64 (3221225472)), (.int false .i64 (3221225472))])], (.tuple [(.agg [(.int false .i64 (3719550786)), (.int false .i64 (3719550787))]), (.int false .i64 (0))])) := known table1_ok (by kernel_rfl) (by kernel_rfl) (by kernel_rfl)
/-- monocle/span.Neg (54 steps) -/
theorem call330 : MemoOk Tryz.prog glob hG (123, [(.agg [(.int false .i64 (3719550786)), (.int false .i64 (3719550787))])], (.tuple [(.agg [(.int false .i64 (-3719550787)), (.int false .i64 (-3719550786))]), (.int false .i64 (0))])) := known table1_ok (by kernel_rfl) (by kernel_rfl) (by kernel_rfl)
/-- monocle/span.Mul (435 steps) -/
theorem call331 : MemoOk Tryz.prog glob hG (133, [(.agg [(.int false .i64 (0)), (.int false .i64 (0))]), (.agg [(.int false .i64 (-3719550787)), (.int false .i64 (-3719550786))])], (.tuple [(.agg [(.int false .i64 (0)), (.int false .i64 (0))]), (.int false .i64 (0))])) := known table1_ok (by kernel_rfl) (by kernel_rfl) (by kernel_rfl)
/-- monocle/span.Mul (438 steps) -/
theorem call332 : MemoOk Tryz.prog glob hG (133, [(.agg [(.int false .i64 (4294967296)), (.int false .i64 (4294967296))]), (.agg [(.int false .i64 (-3719550787)), (.int false .i64 (-3719550786))])], (.tuple [(.agg [(.int false .i64 (-3719550787)), (.int false .i64 (-3719550786))]), (.int false .i64 (0))])) := known table1_ok (by kernel_rfl) (by kernel_rfl) (by kernel_rfl)
/-- monocle/span.Add (114 steps) -/
theorem call333 : MemoOk Tryz.prog glob hG (164, [(.agg [(.int false .i64 (0)), (.int false .i64 (0))]), (.agg [(.int false .i64 (-3719550787)), (.int false .i64 (-3719550786))])], (.tuple [(.agg [(.int false .i64 (-3719550787)), (.int false .i64 (-3719550786))]), (.int false .i64 (0))])) := known table1_ok (by kernel_rfl) (by kernel_rfl) (by kernel_rfl)
/-- monocle/span.Add (114 steps) -/
theorem call334 : MemoOk Tryz.prog glob hG (164, [(.agg [(.int false .i64 (4294967296)), (.int false .i64 (4294967296))]), (.agg [(.int false .i64 (0)), (.int false .i64 (0))])], (.tuple [(.agg [(.int false .i64 (4294967296)), (.int false .i64 (4294967296))]), (.int false .i64 (0))])) := known table1_ok (by kernel_rfl) (by kernel_rfl) (by kernel_rfl)
/-- monocle/span.Mul (435 steps) -/
theorem call335 : MemoOk Tryz.prog glob hG (133, [(.agg [(.int false .i64 (4294967296)), (.int false .i64 (4294967296))]), (.agg [(.int false .i64 (4294967296)), (.int false .i64 (4294967296))])], (.tuple [(.agg [(.int false .i64 (4294967296)), (.int false .i64 (4294967296))]), (.int false .i64 (0))])) := known table1_ok (by kernel_rfl) (by kernel_rfl) (by kernel_rfl)
/-- monocle/span.Scale (62 steps) -/
theorem call336 : MemoOk Tryz.prog glob hG (141, [(.agg [(.int false .i64 (0)), (.int false .i64 (0))]), (.int false .i64 (10000000)), (.int false .i64 (10000000))], (.tuple [(.agg [(.int false .i64 (0)), (.int false .i64 (0))]), (.int false .i64 (0))])) := known table1_ok (by kernel_rfl) (by kernel_rfl) (by kernel_rfl)
/-- monocle/span.Scale (62 steps) -/
theorem call337 : MemoOk Tryz.prog glob hG (141, [(.agg [(.int false .i64 (4294967296)), (.int false .i64 (4294967296))]), (.int false .i64 (10000000)), (.int false .i64 (10000000))], (.tuple [(.agg [(.int false .i64 (4294967296)), (.int false .i64 (4294967296))]), (.int false .i64 (0))])) := known table1_ok (by kernel_rfl) (by kernel_rfl) (by kernel_rfl)
/-- monocle/span.Scale (62 steps) -/
theorem call338 : MemoOk Tryz.prog glob hG (141, [(.agg [(.int false .i64 (4294967296)), (.int false .i64 (4294967296))]), (.int false .i64 (10000000)), (.int false .i64 (100000))], (.tuple [(.agg [(.int false .i64 (429496729600)), (.int false .i64 (429496729600))]), (.int false .i64 (0))])) := known table1_ok (by kernel_rfl) (by kernel_rfl) (by kernel_rfl)
/-- monocle/span.Scale (62 steps) -/
theorem call339 : MemoOk Tryz.prog glob hG (141, [(.agg [(.int false .i64 (4294967296)), (.int false .i64 (4294967296))]), (.int false .i64 (0)), (.int false .i64 (10000000))], (.tuple [(.agg [(.int false .i64 (0)), (.int false .i64 (0))]), (.int false .i64 (0))])) := known table1_ok (by kernel_rfl) (by kernel_rfl) (by kernel_rfl)
/-- monocle/span.Add (114 steps) -/
theorem call340 : MemoOk Tryz.prog glob hG (164, [(.agg [(.int false .i64 (429496729600)), (.int false .i64 (429496729600))]), (.agg [(.int false .i64 (0)), (.int false .i64 (0))])], (.tuple [(.agg [(.int false .i64 (429496729600)), (.int false .i64 (429496729600))]), (.int false .i64 (0))])) := known table1_ok (by kernel_rfl) (by kernel_rfl) (by kernel_rfl)
/-- monocle/span.Scale (62 steps) -/
theorem call341 : MemoOk Tryz.prog glob hG (141, [(.agg [(.int false .i64 (429496729600)), (.int false .i64 (429496729600))]), (.int false .i64 (500000)), (.int false .i64 (1000000000))], (.tuple [(.agg [(.int false .i64 (214748364)), (.int false .i64 (214748365))]), (.int false .i64 (0))])) := known table1_ok (by kernel_rfl) (by kernel_rfl) (by kernel_rfl)
/-- monocle/span.Scale (62 steps) -/
theorem call342 : MemoOk Tryz.prog glob hG (141, [(.agg [(.int false .i64 (214748364)), (.int false .i64 (214748365))]), (.int false .i64 (10000000)), (.int false .i64 (10000000))], (.tuple [(.agg [(.int false .i64 (214748364)), (.int false .i64 (214748365))]), (.int false .i64 (0))])) := known table1_ok (by kernel_rfl) (by kernel_rfl) (by kernel_rfl)
/-- monocle/span.Mul (438 steps) -/
theorem call343 : MemoOk Tryz.prog glob hG (133, [(.agg [(.int false .i64 (4294967296)), (.int false .i64 (4294967296))]), (.agg [(.int false .i64 (214748364)), (.int false .i64 (214748365))])], (.tuple [(.agg [(.int false .i64 (214748364)), (.int false .i64 (214748365))]), (.int false .i64 (0))])) := known table1_ok (by kernel_rfl) (by kernel_rfl) (by kernel_rfl)
/-- monocle/span.Add (114 steps) -/
theorem call344 : MemoOk Tryz.prog glob hG (164, [(.agg [(.int false .i64 (0)), (.int false .i64 (0))]), (.agg [(.int false .i64 (214748364)), (.int false .i64 (214748365))])], (.tuple [(.agg [(.int false .i64 (214748364)), (.int false .i64 (214748365))]), (.int false .i64 (0))])) := known table1_ok (by kernel_rfl) (by kernel_rfl) (by kernel_rfl)
/-- monocle/span.Mul (435 steps) -/
theorem call345 : MemoOk Tryz.prog glob hG (133, [(.agg [(.int false .i64 (0)), (.int false .i64 (0))]), (.agg [(.int false .i64 (214748364)), (.int false .i64 (214748365))])], (.tuple [(.agg [(.int false .i64 (0)), (.int false .i64 (0))]), (.int false .i64 (0))])) := known table1_ok (by kernel_rfl) (by kernel_rfl) (by kernel_rfl)
/-- monocle/span.Mul (435 steps) -/
theorem call346 : MemoOk Tryz.prog glob hG (133, [(.agg [(.int false .i64 (214748364)), (.int false .i64 (214748365))]), (.agg [(.int false .i64 (0)), (.int false .i64 (0))])], (.tuple [(.agg [(.int false .i64 (0)), (.int false .i64 (0))]), (.int false .i64 (0))])) := known table1_ok (by kernel_rfl) (by kernel_rfl) (by kernel_rfl)
/-- monocle/span.Sub (114 steps) -/
theorem call347 : MemoOk Tryz.prog glob hG (136, [(.agg [(.int false .i64 (214748364)), (.int false .i64 (214748365))]), (.agg [(.int false .i64 (0)), (.int false .i64 (0))])], (.tuple [(.agg [(.int false .i64 (214748364)), (.int false .i64 (214748365))]), (.int false .i64 (0))])) := known table1_ok (by kernel_rfl) (by kernel_rfl) (by kernel_rfl)
/-- monocle/span.Sub (114 steps) -/
theorem call348 : MemoOk Tryz.prog glob hG (136, [(.agg [(.int false .i64 (4294967296)), (.int false .i64 (4294967296))]), (.agg [(.int false .i64 (4294967296)), (.int false .i64 (4294967296))])], (.tuple [(.agg [(.int false .i64 (0)), (.int false .i64 (0))]), (.int false .i64 (0))])) := known table1_ok (by kernel_rfl) (by kernel_rfl) (by kernel_rfl)
/-- monocle/span.Mul (435 steps) -/
theorem call349 : MemoOk Tryz.prog glob hG (133, [(.agg [(.int false .i64 (214748364)), (.int false .i64 (214748365))]), (.agg [(.int false .i64 (214748364)), (.int false .i64 (214748365))])], (.tuple [(.agg [(.int false .i64 (10737418)), (.int false .i64 (10737419))]), (.int false .i64 (0))])) := known table1_ok (by kernel_rfl) (by kernel_rfl) (by kernel_rfl)
/-- monocle/span.Add (114 steps) -/
theorem call350 : MemoOk Tryz.prog glob hG (164, [(.agg [(.int false .i64 (10737418)), (.int false .i64 (10737419))]), (.agg [(.int false .i64 (0)), (.int false .i64 (0))])], (.tuple [(.agg [(.int false .i64 (10737418)), (.int false .i64 (10737419))]), (.int false .i64 (0))])) := known table1_ok (by kernel_rfl) (by kernel_rfl) (by kernel_rfl)
/-- monocle/span.Sub (114 steps) -/
theorem call351 : MemoOk Tryz.prog glob hG (136, [(.agg [(.int false .i64 (4294967296)), (.int false .i64 (4294967296))]), (.agg [(.int false .i64 (10737418)), (.int false .i64 (10737419))])], (.tuple [(.agg [(.int false .i64 (4284229877)), (.int false .i64 (4284229878))]), (.int false .i64 (0))])) := known table1_ok (by kernel_rfl) (by kernel_rfl) (by kernel_rfl)
/-- monocle/span.Sqrt (69 steps) -/
theorem call352 : MemoOk Tryz.prog glob hG (88, [(.agg [(.int false .i64 (4284229877)), (.int false .i64 (4284229878))])], (.tuple [(.agg [(.int false .i64 (4289595226)), (.int false .i64 (4289595228))]), (.int false .i64 (0))])) := known table1_ok (by kernel_rfl) (by kernel_rfl) (by kernel_rfl)
/-- monocle/span.Mul (435 steps) -/
theorem call353 : MemoOk Tryz.prog glob hG (133, [(.agg [(.int false .i64 (0)), (.int false .i64 (0))]), (.agg [(.int false .i64 (4289595226)), (.int false .i64 (4289595228))])], (.tuple [(.agg [(.int false .i64 (0)), (.int false .i64 (0))]), (.int false .i64 (0))])) := known table1_ok (by kernel_rfl) (by kernel_rfl) (by kernel_rfl)
/-- monocle/span.Mul (438 steps) -/
theorem call354 : MemoOk Tryz.prog glob hG (133, [(.agg [(.int false .i64 (4294967296)), (.int false .i64 (4294967296))]), (.agg [(.int false .i64 (4289595226)), (.int false .i64 (4289595228))])], (.tuple [(.agg [(.int false .i64 (4289595226)), (.int false .i64 (4289595228))]), (.int false .i64 (0))])) := known table1_ok (by kernel_rfl) (by kernel_rfl) (by kernel_rfl)
/-- monocle/span.Add (114 steps) -/
theorem call355 : MemoOk Tryz.prog glob hG (164, [(.agg [(.int false .i64 (214748364)), (.int false .i64 (214748365))]), (.agg [(.int false .i64 (0)), (.int false .i64 (0))])], (.tuple [(.agg [(.int false .i64 (214748364)), (.int false .i64 (214748365))]), (.int false .i64 (0))])) := known table1_ok (by kernel_rfl) (by kernel_rfl) (by kernel_rfl)
/-- monocle/span.Add (114 steps) -/
theorem call356 : MemoOk Tryz.prog glob hG (164, [(.agg [(.int false .i64 (0)), (.int false .i64 (0))]), (.agg [(.int false .i64 (4289595226)), (.int false .i64 (4289595228))])], (.tuple [(.agg [(.int false .i64 (4289595226)), (.int false .i64 (4289595228))]), (.int false .i64 (0))])) := known table1_ok (by kernel_rfl) (by kernel_rfl) (by kernel_rfl)
end Go.Proofs.YtckglcjiicmbkaaGreatDoor
