/- What is proved: AperInside returns true, whatever the input (part 19). No conditions beyond those of the row. -/
import Derived.Test.YtjcicegihechmaaGreatDoorPL
set_option linter.unusedVariables false
set_option linter.unusedSimpArgs false
set_option linter.unusedSectionVars false
namespace Go.Proofs.YtjcicegihechmaaGreatDoor
open Go Go.Eng
theorem call0:MemoOk Tryz.prog glob hG (174,[(.int false .i64 (429496729600)),(.int false .i64 (0)),(.int false .i64 (1000000000))],(.tuple [(.int false .i64 (0)),(.int false .i64 (0))])):=known none_known (by kernel_rfl) (by kernel_rfl) (by kernel_rfl)
theorem call1:MemoOk Tryz.prog glob hG (175,[(.int false .i64 (429496729600)),(.int false .i64 (0)),(.int false .i64 (1000000000))],(.tuple [(.int false .i64 (0)),(.int false .i64 (0))])):=known none_known (by kernel_rfl) (by kernel_rfl) (by kernel_rfl)
theorem call2:MemoOk Tryz.prog glob hG (174,[(.int false .i64 (0)),(.int false .i64 (0)),(.int false .i64 (1000000000))],(.tuple [(.int false .i64 (0)),(.int false .i64 (0))])):=known none_known (by kernel_rfl) (by kernel_rfl) (by kernel_rfl)
theorem call3:MemoOk Tryz.prog glob hG (175,[(.int false .i64 (0)),(.int false .i64 (0)),(.int false .i64 (1000000000))],(.tuple [(.int false .i64 (0)),(.int false .i64 (0))])):=known none_known (by kernel_rfl) (by kernel_rfl) (by kernel_rfl)
theorem call4:MemoOk Tryz.prog glob hG (174,[(.int false .i64 (0)),(.int false .i64 (1000000)),(.int false .i64 (1000000))],(.tuple [(.int false .i64 (0)),(.int false .i64 (0))])):=known none_known (by kernel_rfl) (by kernel_rfl) (by kernel_rfl)
theorem call5:MemoOk Tryz.prog glob hG (175,[(.int false .i64 (0)),(.int false .i64 (1000000)),(.int false .i64 (1000000))],(.tuple [(.int false .i64 (0)),(.int false .i64 (0))])):=known none_known (by kernel_rfl) (by kernel_rfl) (by kernel_rfl)
theorem call6:MemoOk Tryz.prog glob hG (152,[(.int false .i64 (4294967296))],(.tuple [(.int false .i64 (4294967296)),(.int false .i64 (0))])):=known none_known (by kernel_rfl) (by kernel_rfl) (by kernel_rfl)
theorem call7:MemoOk Tryz.prog glob hG (153,[(.int false .i64 (4294967296))],(.tuple [(.int false .i64 (4294967296)),(.int false .i64 (0))])):=known none_known (by kernel_rfl) (by kernel_rfl) (by kernel_rfl)
theorem call8:MemoOk Tryz.prog glob hG (154,[(.int false .i64 (0)),(.int false .i64 (8589934592))],(.tuple [(.int false .i64 (0)),(.int false .i64 (0))])):=known none_known (by kernel_rfl) (by kernel_rfl) (by kernel_rfl)
theorem call9:MemoOk Tryz.prog glob hG (155,[(.int false .i64 (0)),(.int false .i64 (8589934592))],(.tuple [(.int false .i64 (0)),(.int false .i64 (0))])):=known none_known (by kernel_rfl) (by kernel_rfl) (by kernel_rfl)
theorem call10:MemoOk Tryz.prog glob hG (174,[(.int false .i64 (429496729600)),(.int false .i64 (10000000)),(.int false .i64 (1000000000))],(.tuple [(.int false .i64 (4294967296)),(.int false .i64 (0))])):=known none_known (by kernel_rfl) (by kernel_rfl) (by kernel_rfl)
theorem call11:MemoOk Tryz.prog glob hG (175,[(.int false .i64 (429496729600)),(.int false .i64 (10000000)),(.int false .i64 (1000000000))],(.tuple [(.int false .i64 (4294967296)),(.int false .i64 (0))])):=known none_known (by kernel_rfl) (by kernel_rfl) (by kernel_rfl)
theorem call12:MemoOk Tryz.prog glob hG (174,[(.int false .i64 (4294967296)),(.int false .i64 (10000000)),(.int false .i64 (1000000000))],(.tuple [(.int false .i64 (42949672)),(.int false .i64 (0))])):=known none_known (by kernel_rfl) (by kernel_rfl) (by kernel_rfl)
theorem call13:MemoOk Tryz.prog glob hG (175,[(.int false .i64 (4294967296)),(.int false .i64 (10000000)),(.int false .i64 (1000000000))],(.tuple [(.int false .i64 (42949673)),(.int false .i64 (0))])):=known none_known (by kernel_rfl) (by kernel_rfl) (by kernel_rfl)
theorem call14:MemoOk Tryz.prog glob hG (174,[(.int false .i64 (42949672)),(.int false .i64 (0)),(.int false .i64 (1000000))],(.tuple [(.int false .i64 (0)),(.int false .i64 (0))])):=known none_known (by kernel_rfl) (by kernel_rfl) (by kernel_rfl)
theorem call15:MemoOk Tryz.prog glob hG (175,[(.int false .i64 (42949673)),(.int false .i64 (0)),(.int false .i64 (1000000))],(.tuple [(.int false .i64 (0)),(.int false .i64 (0))])):=known none_known (by kernel_rfl) (by kernel_rfl) (by kernel_rfl)
theorem call16:MemoOk Tryz.prog glob hG (154,[(.int false .i64 (4294967296)),(.int false .i64 (8589934592))],(.tuple [(.int false .i64 (2147483648)),(.int false .i64 (0))])):=known none_known (by kernel_rfl) (by kernel_rfl) (by kernel_rfl)
theorem call17:MemoOk Tryz.prog glob hG (155,[(.int false .i64 (4294967296)),(.int false .i64 (8589934592))],(.tuple [(.int false .i64 (2147483648)),(.int false .i64 (0))])):=known none_known (by kernel_rfl) (by kernel_rfl) (by kernel_rfl)
end Go.Proofs.YtjcicegihechmaaGreatDoor
