/- What is proved: a law of conics returns true, whatever the input (part 12). No conditions beyond those of the row. -/
import Derived.Test.YtkbndjnibcjchaaGreatDoorPH
set_option linter.unusedVariables false
set_option linter.unusedSimpArgs false
set_option linter.unusedSectionVars false
namespace Go.Proofs.YtkbndjnibcjchaaGreatDoor
open Go Go.Eng
theorem call0:MemoOk Tryz.prog glob hG (106,[(.int false .i64 (0)),(.int false .i64 (10000000)),(.int false .i64 (1000000000))],(.tuple [(.int false .i64 (0)),(.int false .i64 (0))])):=known none_known (by kernel_rfl) (by kernel_rfl) (by kernel_rfl)
theorem call1:MemoOk Tryz.prog glob hG (107,[(.int false .i64 (0)),(.int false .i64 (10000000)),(.int false .i64 (1000000000))],(.tuple [(.int false .i64 (0)),(.int false .i64 (0))])):=known none_known (by kernel_rfl) (by kernel_rfl) (by kernel_rfl)
theorem call2:MemoOk Tryz.prog glob hG (106,[(.int false .i64 (0)),(.int false .i64 (1000000)),(.int false .i64 (1000000))],(.tuple [(.int false .i64 (0)),(.int false .i64 (0))])):=known none_known (by kernel_rfl) (by kernel_rfl) (by kernel_rfl)
theorem call3:MemoOk Tryz.prog glob hG (107,[(.int false .i64 (0)),(.int false .i64 (1000000)),(.int false .i64 (1000000))],(.tuple [(.int false .i64 (0)),(.int false .i64 (0))])):=known none_known (by kernel_rfl) (by kernel_rfl) (by kernel_rfl)
theorem call4:MemoOk Tryz.prog glob hG (95,[(.int false .i64 (4294967296))],(.tuple [(.int false .i64 (4294967296)),(.int false .i64 (0))])):=known none_known (by kernel_rfl) (by kernel_rfl) (by kernel_rfl)
theorem call5:MemoOk Tryz.prog glob hG (96,[(.int false .i64 (4294967296))],(.tuple [(.int false .i64 (4294967296)),(.int false .i64 (0))])):=known none_known (by kernel_rfl) (by kernel_rfl) (by kernel_rfl)
theorem call6:MemoOk Tryz.prog glob hG (91,[(.int false .i64 (0)),(.int false .i64 (8589934592))],(.tuple [(.int false .i64 (0)),(.int false .i64 (0))])):=known none_known (by kernel_rfl) (by kernel_rfl) (by kernel_rfl)
theorem call7:MemoOk Tryz.prog glob hG (92,[(.int false .i64 (0)),(.int false .i64 (8589934592))],(.tuple [(.int false .i64 (0)),(.int false .i64 (0))])):=known none_known (by kernel_rfl) (by kernel_rfl) (by kernel_rfl)
theorem call8:MemoOk Tryz.prog glob hG (106,[(.int false .i64 (429496729600)),(.int false .i64 (10000000)),(.int false .i64 (1000000000))],(.tuple [(.int false .i64 (4294967296)),(.int false .i64 (0))])):=known none_known (by kernel_rfl) (by kernel_rfl) (by kernel_rfl)
theorem call9:MemoOk Tryz.prog glob hG (107,[(.int false .i64 (429496729600)),(.int false .i64 (10000000)),(.int false .i64 (1000000000))],(.tuple [(.int false .i64 (4294967296)),(.int false .i64 (0))])):=known none_known (by kernel_rfl) (by kernel_rfl) (by kernel_rfl)
theorem call10:MemoOk Tryz.prog glob hG (106,[(.int false .i64 (4294967296)),(.int false .i64 (10000000)),(.int false .i64 (1000000000))],(.tuple [(.int false .i64 (42949672)),(.int false .i64 (0))])):=known none_known (by kernel_rfl) (by kernel_rfl) (by kernel_rfl)
theorem call11:MemoOk Tryz.prog glob hG (107,[(.int false .i64 (4294967296)),(.int false .i64 (10000000)),(.int false .i64 (1000000000))],(.tuple [(.int false .i64 (42949673)),(.int false .i64 (0))])):=known none_known (by kernel_rfl) (by kernel_rfl) (by kernel_rfl)
theorem call12:MemoOk Tryz.prog glob hG (106,[(.int false .i64 (42949672)),(.int false .i64 (0)),(.int false .i64 (1000000))],(.tuple [(.int false .i64 (0)),(.int false .i64 (0))])):=known none_known (by kernel_rfl) (by kernel_rfl) (by kernel_rfl)
theorem call13:MemoOk Tryz.prog glob hG (107,[(.int false .i64 (42949673)),(.int false .i64 (0)),(.int false .i64 (1000000))],(.tuple [(.int false .i64 (0)),(.int false .i64 (0))])):=known none_known (by kernel_rfl) (by kernel_rfl) (by kernel_rfl)
theorem call14:MemoOk Tryz.prog glob hG (91,[(.int false .i64 (4294967296)),(.int false .i64 (8589934592))],(.tuple [(.int false .i64 (2147483648)),(.int false .i64 (0))])):=known none_known (by kernel_rfl) (by kernel_rfl) (by kernel_rfl)
theorem call15:MemoOk Tryz.prog glob hG (92,[(.int false .i64 (4294967296)),(.int false .i64 (8589934592))],(.tuple [(.int false .i64 (2147483648)),(.int false .i64 (0))])):=known none_known (by kernel_rfl) (by kernel_rfl) (by kernel_rfl)
theorem call16:MemoOk Tryz.prog glob hG (106,[(.int false .i64 (43812961386496)),(.int false .i64 (10000000)),(.int false .i64 (1000000000))],(.tuple [(.int false .i64 (438129613864)),(.int false .i64 (0))])):=known none_known (by kernel_rfl) (by kernel_rfl) (by kernel_rfl)
theorem call17:MemoOk Tryz.prog glob hG (107,[(.int false .i64 (43812961386496)),(.int false .i64 (10000000)),(.int false .i64 (1000000000))],(.tuple [(.int false .i64 (438129613865)),(.int false .i64 (0))])):=known none_known (by kernel_rfl) (by kernel_rfl) (by kernel_rfl)
theorem call18:MemoOk Tryz.prog glob hG (106,[(.int false .i64 (438129613864)),(.int false .i64 (10000000)),(.int false .i64 (1000000000))],(.tuple [(.int false .i64 (4381296138)),(.int false .i64 (0))])):=known none_known (by kernel_rfl) (by kernel_rfl) (by kernel_rfl)
theorem call19:MemoOk Tryz.prog glob hG (107,[(.int false .i64 (438129613865)),(.int false .i64 (10000000)),(.int false .i64 (1000000000))],(.tuple [(.int false .i64 (4381296139)),(.int false .i64 (0))])):=known none_known (by kernel_rfl) (by kernel_rfl) (by kernel_rfl)
theorem call20:MemoOk Tryz.prog glob hG (106,[(.int false .i64 (4381296138)),(.int false .i64 (1000000)),(.int false .i64 (1000000))],(.tuple [(.int false .i64 (4381296138)),(.int false .i64 (0))])):=known none_known (by kernel_rfl) (by kernel_rfl) (by kernel_rfl)
theorem call21:MemoOk Tryz.prog glob hG (107,[(.int false .i64 (4381296139)),(.int false .i64 (1000000)),(.int false .i64 (1000000))],(.tuple [(.int false .i64 (4381296139)),(.int false .i64 (0))])):=known none_known (by kernel_rfl) (by kernel_rfl) (by kernel_rfl)
theorem call22:MemoOk Tryz.prog glob hG (106,[(.int false .i64 (2147483648000)),(.int false .i64 (10000000)),(.int false .i64 (1000000000))],(.tuple [(.int false .i64 (21474836480)),(.int false .i64 (0))])):=known none_known (by kernel_rfl) (by kernel_rfl) (by kernel_rfl)
theorem call23:MemoOk Tryz.prog glob hG (107,[(.int false .i64 (2147483648000)),(.int false .i64 (10000000)),(.int false .i64 (1000000000))],(.tuple [(.int false .i64 (21474836480)),(.int false .i64 (0))])):=known none_known (by kernel_rfl) (by kernel_rfl) (by kernel_rfl)
theorem call24:MemoOk Tryz.prog glob hG (106,[(.int false .i64 (21474836480)),(.int false .i64 (10000000)),(.int false .i64 (1000000000))],(.tuple [(.int false .i64 (214748364)),(.int false .i64 (0))])):=known none_known (by kernel_rfl) (by kernel_rfl) (by kernel_rfl)
theorem call25:MemoOk Tryz.prog glob hG (107,[(.int false .i64 (21474836480)),(.int false .i64 (10000000)),(.int false .i64 (1000000000))],(.tuple [(.int false .i64 (214748365)),(.int false .i64 (0))])):=known none_known (by kernel_rfl) (by kernel_rfl) (by kernel_rfl)
theorem call26:MemoOk Tryz.prog glob hG (106,[(.int false .i64 (214748364)),(.int false .i64 (0)),(.int false .i64 (1000000))],(.tuple [(.int false .i64 (0)),(.int false .i64 (0))])):=known none_known (by kernel_rfl) (by kernel_rfl) (by kernel_rfl)
theorem call27:MemoOk Tryz.prog glob hG (107,[(.int false .i64 (214748365)),(.int false .i64 (0)),(.int false .i64 (1000000))],(.tuple [(.int false .i64 (0)),(.int false .i64 (0))])):=known none_known (by kernel_rfl) (by kernel_rfl) (by kernel_rfl)
theorem call28:MemoOk Tryz.prog glob hG (91,[(.int false .i64 (21474836480)),(.int false .i64 (8589934592))],(.tuple [(.int false .i64 (10737418240)),(.int false .i64 (0))])):=known none_known (by kernel_rfl) (by kernel_rfl) (by kernel_rfl)
theorem call29:MemoOk Tryz.prog glob hG (92,[(.int false .i64 (21474836480)),(.int false .i64 (8589934592))],(.tuple [(.int false .i64 (10737418240)),(.int false .i64 (0))])):=known none_known (by kernel_rfl) (by kernel_rfl) (by kernel_rfl)
theorem call30:MemoOk Tryz.prog glob hG (106,[(.int false .i64 (42949672960)),(.int false .i64 (10000000)),(.int false .i64 (1000000000))],(.tuple [(.int false .i64 (429496729)),(.int false .i64 (0))])):=known none_known (by kernel_rfl) (by kernel_rfl) (by kernel_rfl)
theorem call31:MemoOk Tryz.prog glob hG (107,[(.int false .i64 (42949672960)),(.int false .i64 (10000000)),(.int false .i64 (1000000000))],(.tuple [(.int false .i64 (429496730)),(.int false .i64 (0))])):=known none_known (by kernel_rfl) (by kernel_rfl) (by kernel_rfl)
theorem call32:MemoOk Tryz.prog glob hG (91,[(.int false .i64 (429496729)),(.int false .i64 (4294967296))],(.tuple [(.int false .i64 (429496729)),(.int false .i64 (0))])):=known none_known (by kernel_rfl) (by kernel_rfl) (by kernel_rfl)
theorem call33:MemoOk Tryz.prog glob hG (92,[(.int false .i64 (429496729)),(.int false .i64 (4294967296))],(.tuple [(.int false .i64 (429496729)),(.int false .i64 (0))])):=known none_known (by kernel_rfl) (by kernel_rfl) (by kernel_rfl)
theorem call34:MemoOk Tryz.prog glob hG (91,[(.int false .i64 (429496730)),(.int false .i64 (4294967296))],(.tuple [(.int false .i64 (429496730)),(.int false .i64 (0))])):=known none_known (by kernel_rfl) (by kernel_rfl) (by kernel_rfl)
theorem call35:MemoOk Tryz.prog glob hG (92,[(.int false .i64 (429496730)),(.int false .i64 (4294967296))],(.tuple [(.int false .i64 (429496730)),(.int false .i64 (0))])):=known none_known (by kernel_rfl) (by kernel_rfl) (by kernel_rfl)
theorem call36:MemoOk Tryz.prog glob hG (106,[(.int false .i64 (85899345920)),(.int false .i64 (10000000)),(.int false .i64 (1000000000))],(.tuple [(.int false .i64 (858993459)),(.int false .i64 (0))])):=known none_known (by kernel_rfl) (by kernel_rfl) (by kernel_rfl)
theorem call37:MemoOk Tryz.prog glob hG (107,[(.int false .i64 (85899345920)),(.int false .i64 (10000000)),(.int false .i64 (1000000000))],(.tuple [(.int false .i64 (858993460)),(.int false .i64 (0))])):=known none_known (by kernel_rfl) (by kernel_rfl) (by kernel_rfl)
theorem call38:MemoOk Tryz.prog glob hG (91,[(.int false .i64 (858993459)),(.int false .i64 (4294967296))],(.tuple [(.int false .i64 (858993459)),(.int false .i64 (0))])):=known none_known (by kernel_rfl) (by kernel_rfl) (by kernel_rfl)
theorem call39:MemoOk Tryz.prog glob hG (92,[(.int false .i64 (858993459)),(.int false .i64 (4294967296))],(.tuple [(.int false .i64 (858993459)),(.int false .i64 (0))])):=known none_known (by kernel_rfl) (by kernel_rfl) (by kernel_rfl)
theorem call40:MemoOk Tryz.prog glob hG (91,[(.int false .i64 (858993460)),(.int false .i64 (4294967296))],(.tuple [(.int false .i64 (858993460)),(.int false .i64 (0))])):=known none_known (by kernel_rfl) (by kernel_rfl) (by kernel_rfl)
theorem call41:MemoOk Tryz.prog glob hG (92,[(.int false .i64 (858993460)),(.int false .i64 (4294967296))],(.tuple [(.int false .i64 (858993460)),(.int false .i64 (0))])):=known none_known (by kernel_rfl) (by kernel_rfl) (by kernel_rfl)
def table1:List (FuncId×List AV×AV):=
 (106,[(.int false .i64 (0)),(.int false .i64 (10000000)),(.int false .i64 (1000000000))],(.tuple [(.int false .i64 (0)),(.int false .i64 (0))])) ::
 (107,[(.int false .i64 (0)),(.int false .i64 (10000000)),(.int false .i64 (1000000000))],(.tuple [(.int false .i64 (0)),(.int false .i64 (0))])) ::
 (106,[(.int false .i64 (0)),(.int false .i64 (1000000)),(.int false .i64 (1000000))],(.tuple [(.int false .i64 (0)),(.int false .i64 (0))])) ::
 (107,[(.int false .i64 (0)),(.int false .i64 (1000000)),(.int false .i64 (1000000))],(.tuple [(.int false .i64 (0)),(.int false .i64 (0))])) ::
 (95,[(.int false .i64 (4294967296))],(.tuple [(.int false .i64 (4294967296)),(.int false .i64 (0))])) ::
 (96,[(.int false .i64 (4294967296))],(.tuple [(.int false .i64 (4294967296)),(.int false .i64 (0))])) ::
 (91,[(.int false .i64 (0)),(.int false .i64 (8589934592))],(.tuple [(.int false .i64 (0)),(.int false .i64 (0))])) ::
 (92,[(.int false .i64 (0)),(.int false .i64 (8589934592))],(.tuple [(.int false .i64 (0)),(.int false .i64 (0))])) ::
 (106,[(.int false .i64 (429496729600)),(.int false .i64 (10000000)),(.int false .i64 (1000000000))],(.tuple [(.int false .i64 (4294967296)),(.int false .i64 (0))])) ::
 (107,[(.int false .i64 (429496729600)),(.int false .i64 (10000000)),(.int false .i64 (1000000000))],(.tuple [(.int false .i64 (4294967296)),(.int false .i64 (0))])) ::
 (106,[(.int false .i64 (4294967296)),(.int false .i64 (10000000)),(.int false .i64 (1000000000))],(.tuple [(.int false .i64 (42949672)),(.int false .i64 (0))])) ::
 (107,[(.int false .i64 (4294967296)),(.int false .i64 (10000000)),(.int false .i64 (1000000000))],(.tuple [(.int false .i64 (42949673)),(.int false .i64 (0))])) ::
 (106,[(.int false .i64 (42949672)),(.int false .i64 (0)),(.int false .i64 (1000000))],(.tuple [(.int false .i64 (0)),(.int false .i64 (0))])) ::
 (107,[(.int false .i64 (42949673)),(.int false .i64 (0)),(.int false .i64 (1000000))],(.tuple [(.int false .i64 (0)),(.int false .i64 (0))])) ::
 (91,[(.int false .i64 (4294967296)),(.int false .i64 (8589934592))],(.tuple [(.int false .i64 (2147483648)),(.int false .i64 (0))])) ::
 (92,[(.int false .i64 (4294967296)),(.int false .i64 (8589934592))],(.tuple [(.int false .i64 (2147483648)),(.int false .i64 (0))])) ::
 (106,[(.int false .i64 (43812961386496)),(.int false .i64 (10000000)),(.int false .i64 (1000000000))],(.tuple [(.int false .i64 (438129613864)),(.int false .i64 (0))])) ::
 (107,[(.int false .i64 (43812961386496)),(.int false .i64 (10000000)),(.int false .i64 (1000000000))],(.tuple [(.int false .i64 (438129613865)),(.int false .i64 (0))])) ::
 (106,[(.int false .i64 (438129613864)),(.int false .i64 (10000000)),(.int false .i64 (1000000000))],(.tuple [(.int false .i64 (4381296138)),(.int false .i64 (0))])) ::
 (107,[(.int false .i64 (438129613865)),(.int false .i64 (10000000)),(.int false .i64 (1000000000))],(.tuple [(.int false .i64 (4381296139)),(.int false .i64 (0))])) ::
 (106,[(.int false .i64 (4381296138)),(.int false .i64 (1000000)),(.int false .i64 (1000000))],(.tuple [(.int false .i64 (4381296138)),(.int false .i64 (0))])) ::
 (107,[(.int false .i64 (4381296139)),(.int false .i64 (1000000)),(.int false .i64 (1000000))],(.tuple [(.int false .i64 (4381296139)),(.int false .i64 (0))])) ::
 (106,[(.int false .i64 (2147483648000)),(.int false .i64 (10000000)),(.int false .i64 (1000000000))],(.tuple [(.int false .i64 (21474836480)),(.int false .i64 (0))])) ::
 (107,[(.int false .i64 (2147483648000)),(.int false .i64 (10000000)),(.int false .i64 (1000000000))],(.tuple [(.int false .i64 (21474836480)),(.int false .i64 (0))])) ::
 (106,[(.int false .i64 (21474836480)),(.int false .i64 (10000000)),(.int false .i64 (1000000000))],(.tuple [(.int false .i64 (214748364)),(.int false .i64 (0))])) ::
 (107,[(.int false .i64 (21474836480)),(.int false .i64 (10000000)),(.int false .i64 (1000000000))],(.tuple [(.int false .i64 (214748365)),(.int false .i64 (0))])) ::
 (106,[(.int false .i64 (214748364)),(.int false .i64 (0)),(.int false .i64 (1000000))],(.tuple [(.int false .i64 (0)),(.int false .i64 (0))])) ::
 (107,[(.int false .i64 (214748365)),(.int false .i64 (0)),(.int false .i64 (1000000))],(.tuple [(.int false .i64 (0)),(.int false .i64 (0))])) ::
 (91,[(.int false .i64 (21474836480)),(.int false .i64 (8589934592))],(.tuple [(.int false .i64 (10737418240)),(.int false .i64 (0))])) ::
 (92,[(.int false .i64 (21474836480)),(.int false .i64 (8589934592))],(.tuple [(.int false .i64 (10737418240)),(.int false .i64 (0))])) ::
 (106,[(.int false .i64 (42949672960)),(.int false .i64 (10000000)),(.int false .i64 (1000000000))],(.tuple [(.int false .i64 (429496729)),(.int false .i64 (0))])) ::
 (107,[(.int false .i64 (42949672960)),(.int false .i64 (10000000)),(.int false .i64 (1000000000))],(.tuple [(.int false .i64 (429496730)),(.int false .i64 (0))])) ::
 (91,[(.int false .i64 (429496729)),(.int false .i64 (4294967296))],(.tuple [(.int false .i64 (429496729)),(.int false .i64 (0))])) ::
 (92,[(.int false .i64 (429496729)),(.int false .i64 (4294967296))],(.tuple [(.int false .i64 (429496729)),(.int false .i64 (0))])) ::
 (91,[(.int false .i64 (429496730)),(.int false .i64 (4294967296))],(.tuple [(.int false .i64 (429496730)),(.int false .i64 (0))])) ::
 (92,[(.int false .i64 (429496730)),(.int false .i64 (4294967296))],(.tuple [(.int false .i64 (429496730)),(.int false .i64 (0))])) ::
 (106,[(.int false .i64 (85899345920)),(.int false .i64 (10000000)),(.int false .i64 (1000000000))],(.tuple [(.int false .i64 (858993459)),(.int false .i64 (0))])) ::
 (107,[(.int false .i64 (85899345920)),(.int false .i64 (10000000)),(.int false .i64 (1000000000))],(.tuple [(.int false .i64 (858993460)),(.int false .i64 (0))])) ::
 (91,[(.int false .i64 (858993459)),(.int false .i64 (4294967296))],(.tuple [(.int false .i64 (858993459)),(.int false .i64 (0))])) ::
 (92,[(.int false .i64 (858993459)),(.int false .i64 (4294967296))],(.tuple [(.int false .i64 (858993459)),(.int false .i64 (0))])) ::
 (91,[(.int false .i64 (858993460)),(.int false .i64 (4294967296))],(.tuple [(.int false .i64 (858993460)),(.int false .i64 (0))])) ::
 (92,[(.int false .i64 (858993460)),(.int false .i64 (4294967296))],(.tuple [(.int false .i64 (858993460)),(.int false .i64 (0))])) ::
 []
theorem table1_ok:∀ x∈table1,MemoOk Tryz.prog glob hG x:=
 more call0 (more call1 (more call2 (more call3 (more call4 (more call5 (more call6 (more call7 (more call8 (more call9 (more call10 (more call11 (more call12 (more call13 (more call14 (more call15 (more call16 (more call17 (more call18 (more call19 (more call20 (more call21 (more call22 (more call23 (more call24 (more call25 (more call26 (more call27 (more call28 (more call29 (more call30 (more call31 (more call32 (more call33 (more call34 (more call35 (more call36 (more call37 (more call38 (more call39 (more call40 (more call41 (none_known))))))))))))))))))))))))))))))))))))))))))
end Go.Proofs.YtkbndjnibcjchaaGreatDoor
