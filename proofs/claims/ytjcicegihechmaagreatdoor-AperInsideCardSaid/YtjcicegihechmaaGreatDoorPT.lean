/- What is proved: AperInside returns true, whatever the input (part 20). No conditions beyond those of the row. -/
import Derived.Test.YtjcicegihechmaaGreatDoorPS
set_option linter.unusedVariables false
set_option linter.unusedSimpArgs false
set_option linter.unusedSectionVars false
namespace Go.Proofs.YtjcicegihechmaaGreatDoor
open Go Go.Eng
set_option maxRecDepth 100000 in
def table1:List (FuncId×List AV×AV):=
 (174,[(.int false .i64 (429496729600)),(.int false .i64 (0)),(.int false .i64 (1000000000))],(.tuple [(.int false .i64 (0)),(.int false .i64 (0))])) ::
 (175,[(.int false .i64 (429496729600)),(.int false .i64 (0)),(.int false .i64 (1000000000))],(.tuple [(.int false .i64 (0)),(.int false .i64 (0))])) ::
 (174,[(.int false .i64 (0)),(.int false .i64 (0)),(.int false .i64 (1000000000))],(.tuple [(.int false .i64 (0)),(.int false .i64 (0))])) ::
 (175,[(.int false .i64 (0)),(.int false .i64 (0)),(.int false .i64 (1000000000))],(.tuple [(.int false .i64 (0)),(.int false .i64 (0))])) ::
 (174,[(.int false .i64 (0)),(.int false .i64 (1000000)),(.int false .i64 (1000000))],(.tuple [(.int false .i64 (0)),(.int false .i64 (0))])) ::
 (175,[(.int false .i64 (0)),(.int false .i64 (1000000)),(.int false .i64 (1000000))],(.tuple [(.int false .i64 (0)),(.int false .i64 (0))])) ::
 (152,[(.int false .i64 (4294967296))],(.tuple [(.int false .i64 (4294967296)),(.int false .i64 (0))])) ::
 (153,[(.int false .i64 (4294967296))],(.tuple [(.int false .i64 (4294967296)),(.int false .i64 (0))])) ::
 (154,[(.int false .i64 (0)),(.int false .i64 (8589934592))],(.tuple [(.int false .i64 (0)),(.int false .i64 (0))])) ::
 (155,[(.int false .i64 (0)),(.int false .i64 (8589934592))],(.tuple [(.int false .i64 (0)),(.int false .i64 (0))])) ::
 (174,[(.int false .i64 (429496729600)),(.int false .i64 (10000000)),(.int false .i64 (1000000000))],(.tuple [(.int false .i64 (4294967296)),(.int false .i64 (0))])) ::
 (175,[(.int false .i64 (429496729600)),(.int false .i64 (10000000)),(.int false .i64 (1000000000))],(.tuple [(.int false .i64 (4294967296)),(.int false .i64 (0))])) ::
 (174,[(.int false .i64 (4294967296)),(.int false .i64 (10000000)),(.int false .i64 (1000000000))],(.tuple [(.int false .i64 (42949672)),(.int false .i64 (0))])) ::
 (175,[(.int false .i64 (4294967296)),(.int false .i64 (10000000)),(.int false .i64 (1000000000))],(.tuple [(.int false .i64 (42949673)),(.int false .i64 (0))])) ::
 (174,[(.int false .i64 (42949672)),(.int false .i64 (0)),(.int false .i64 (1000000))],(.tuple [(.int false .i64 (0)),(.int false .i64 (0))])) ::
 (175,[(.int false .i64 (42949673)),(.int false .i64 (0)),(.int false .i64 (1000000))],(.tuple [(.int false .i64 (0)),(.int false .i64 (0))])) ::
 (154,[(.int false .i64 (4294967296)),(.int false .i64 (8589934592))],(.tuple [(.int false .i64 (2147483648)),(.int false .i64 (0))])) ::
 (155,[(.int false .i64 (4294967296)),(.int false .i64 (8589934592))],(.tuple [(.int false .i64 (2147483648)),(.int false .i64 (0))])) ::
 []
set_option maxRecDepth 100000 in
theorem table1_ok:∀ x∈table1,MemoOk Tryz.prog glob hG x:=
 more call0 (more call1 (more call2 (more call3 (more call4 (more call5 (more call6 (more call7 (more call8 (more call9 (more call10 (more call11 (more call12 (more call13 (more call14 (more call15 (more call16 (more call17 (none_known))))))))))))))))))
end Go.Proofs.YtjcicegihechmaaGreatDoor
