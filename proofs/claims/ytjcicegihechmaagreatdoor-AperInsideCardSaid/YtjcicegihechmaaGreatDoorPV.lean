/- What is proved: AperInside returns true, whatever the input (part 22). No conditions beyond those of the row. -/
import Derived.Test.YtjcicegihechmaaGreatDoorPF
import Derived.Test.YtjcicegihechmaaGreatDoorPP
import Derived.Test.YtjcicegihechmaaGreatDoorPR
import Derived.Test.YtjcicegihechmaaGreatDoorPU
set_option linter.unusedVariables false
set_option linter.unusedSimpArgs false
set_option linter.unusedSectionVars false
namespace Go.Proofs.YtjcicegihechmaaGreatDoor
open Go Go.Eng
set_option maxRecDepth 100000 in
def table2:List (FuncId×List AV×AV):=
 (52,[(.agg [(.int false .i64 (12884901888)),(.int false .i64 (12884901888))])],(.tuple [(.agg [(.int false .i64 (38654705664)),(.int false .i64 (38654705664))]),(.int false .i64 (0))])) ::
 (52,[(.agg [(.int false .i64 (17179869184)),(.int false .i64 (17179869184))])],(.tuple [(.agg [(.int false .i64 (68719476736)),(.int false .i64 (68719476736))]),(.int false .i64 (0))])) ::
 (52,[(.agg [(.int false .i64 (17179869184)),(.int false .i64 (21474836480))])],(.tuple [(.agg [(.int false .i64 (68719476736)),(.int false .i64 (107374182400))]),(.int false .i64 (0))])) ::
 (52,[(.agg [(.int false .i64 (0)),(.int false .i64 (0))])],(.tuple [(.agg [(.int false .i64 (0)),(.int false .i64 (0))]),(.int false .i64 (0))])) ::
 (52,[(.agg [(.int false .i64 (25769803776)),(.int false .i64 (25769803776))])],(.tuple [(.agg [(.int false .i64 (154618822656)),(.int false .i64 (154618822656))]),(.int false .i64 (0))])) ::
 (52,[(.agg [(.int false .i64 (0)),(.int false .i64 (8589934592))])],(.tuple [(.agg [(.int false .i64 (0)),(.int false .i64 (17179869184))]),(.int false .i64 (0))])) ::
 (49,[(.str false ⟨#[76]⟩)],(.bool false true)) ::
 (33,[(.int false .i64 (10000000)),(.int false .i64 (6))],(.tuple [(.agg [(.int false .i64 (42949672960)),(.int false .i64 (42949672960))]),(.int false .i64 (0))])) ::
 (52,[(.agg [(.int false .i64 (42949672960)),(.int false .i64 (42949672960))])],(.tuple [(.agg [(.int false .i64 (429496729600)),(.int false .i64 (429496729600))]),(.int false .i64 (0))])) ::
 (151,[(.agg [(.int false .i64 (429496729600)),(.int false .i64 (429496729600))]),(.int false .i64 (0)),(.int false .i64 (1000000000))],(.tuple [(.agg [(.int false .i64 (0)),(.int false .i64 (0))]),(.int false .i64 (0))])) ::
 (151,[(.agg [(.int false .i64 (0)),(.int false .i64 (0))]),(.int false .i64 (0)),(.int false .i64 (1000000000))],(.tuple [(.agg [(.int false .i64 (0)),(.int false .i64 (0))]),(.int false .i64 (0))])) ::
 (151,[(.agg [(.int false .i64 (0)),(.int false .i64 (0))]),(.int false .i64 (1000000)),(.int false .i64 (1000000))],(.tuple [(.agg [(.int false .i64 (0)),(.int false .i64 (0))]),(.int false .i64 (0))])) ::
 (131,[(.agg [(.int false .i64 (4294967296)),(.int false .i64 (4294967296))])],(.tuple [(.agg [(.int false .i64 (4294967296)),(.int false .i64 (4294967296))]),(.int false .i64 (0))])) ::
 (132,[(.agg [(.int false .i64 (0)),(.int false .i64 (0))]),(.agg [(.int false .i64 (8589934592)),(.int false .i64 (8589934592))])],(.tuple [(.agg [(.int false .i64 (0)),(.int false .i64 (0))]),(.int false .i64 (0))])) ::
 (151,[(.agg [(.int false .i64 (429496729600)),(.int false .i64 (429496729600))]),(.int false .i64 (10000000)),(.int false .i64 (1000000000))],(.tuple [(.agg [(.int false .i64 (4294967296)),(.int false .i64 (4294967296))]),(.int false .i64 (0))])) ::
 (151,[(.agg [(.int false .i64 (4294967296)),(.int false .i64 (4294967296))]),(.int false .i64 (10000000)),(.int false .i64 (1000000000))],(.tuple [(.agg [(.int false .i64 (42949672)),(.int false .i64 (42949673))]),(.int false .i64 (0))])) ::
 (151,[(.agg [(.int false .i64 (42949672)),(.int false .i64 (42949673))]),(.int false .i64 (0)),(.int false .i64 (1000000))],(.tuple [(.agg [(.int false .i64 (0)),(.int false .i64 (0))]),(.int false .i64 (0))])) ::
 (132,[(.agg [(.int false .i64 (4294967296)),(.int false .i64 (4294967296))]),(.agg [(.int false .i64 (8589934592)),(.int false .i64 (8589934592))])],(.tuple [(.agg [(.int false .i64 (2147483648)),(.int false .i64 (2147483648))]),(.int false .i64 (0))])) ::
 (33,[(.int false .i64 (2000000)),(.int false .i64 (6))],(.tuple [(.agg [(.int false .i64 (8589934592)),(.int false .i64 (8589934592))]),(.int false .i64 (0))])) ::
 (52,[(.agg [(.int false .i64 (4294967296000)),(.int false .i64 (4294967296000))])],(.tuple [(.agg [(.int false .i64 (4294967296000000)),(.int false .i64 (4294967296000000))]),(.int false .i64 (0))])) ::
 table1
set_option maxRecDepth 100000 in
theorem table2_ok:∀ x∈table2,MemoOk Tryz.prog glob hG x:=
 more call18 (more call19 (more call20 (more call21 (more call22 (more call23 (more call24 (more call25 (more call26 (more call27 (more call28 (more call29 (more call30 (more call31 (more call32 (more call33 (more call34 (more call35 (more call36 (more call37 (table1_ok))))))))))))))))))))
end Go.Proofs.YtjcicegihechmaaGreatDoor
namespace Go.Proofs.YtjcicegihechmaaGreatDoor
open Go Go.Eng
theorem call38:MemoOk Tryz.prog glob hG (17,[(.agg [(.int false .i64 (1)),(.int false .i64 (0)),(.int false .i64 (0)),(.int false .i64 (0)),(.int false .i64 (0)),(.int false .i64 (0)),(.int false .i64 (0)),(.int false .i64 (0)),(.int false .i64 (0)),(.int false .i64 (0)),(.int false .i64 (0)),(.int false .i64 (0)),(.int false .i64 (0)),(.str false ⟨#[]⟩),(.int false .i64 (5000000)),(.int false .i64 (1000000)),(.int false .i64 (0)),(.int false .i64 (0)),(.int false .i64 (0)),(.int false .i64 (0)),(.int false .i64 (0)),.nilslice])],(.int false .i64 (0))):=known table2_ok (by kernel_rfl) (by kernel_rfl) (by kernel_rfl)
theorem call39:MemoOk Tryz.prog glob hG (17,[(.agg [(.int false .i64 (1)),(.int false .i64 (0)),(.int false .i64 (0)),(.int false .i64 (0)),(.int false .i64 (0)),(.int false .i64 (0)),(.int false .i64 (0)),(.int false .i64 (0)),(.int false .i64 (0)),(.int false .i64 (0)),(.int false .i64 (0)),(.int false .i64 (0)),(.int false .i64 (2000000)),(.str false ⟨#[]⟩),(.int false .i64 (0)),(.int false .i64 (0)),(.int false .i64 (0)),(.int false .i64 (0)),(.int false .i64 (0)),(.int false .i64 (0)),(.int false .i64 (0)),.nilslice])],(.int false .i64 (0))):=known table2_ok (by kernel_rfl) (by kernel_rfl) (by kernel_rfl)
theorem call40:MemoOk Tryz.prog glob hG (17,[(.agg [(.int false .i64 (1)),(.int false .i64 (10000000)),(.int false .i64 (-1000000)),(.int false .i64 (0)),(.int false .i64 (0)),(.int false .i64 (0)),(.int false .i64 (0)),(.int false .i64 (0)),(.int false .i64 (0)),(.int false .i64 (0)),(.int false .i64 (0)),(.int false .i64 (0)),(.int false .i64 (0)),(.str false ⟨#[]⟩),(.int false .i64 (0)),(.int false .i64 (0)),(.int false .i64 (0)),(.int false .i64 (0)),(.int false .i64 (0)),(.int false .i64 (0)),(.int false .i64 (0)),.nilslice])],(.int false .i64 (0))):=known table2_ok (by kernel_rfl) (by kernel_rfl) (by kernel_rfl)
theorem call41:MemoOk Tryz.prog glob hG (17,[(.agg [(.int false .i64 (1)),(.int false .i64 (0)),(.int false .i64 (0)),(.int false .i64 (0)),(.int false .i64 (0)),(.int false .i64 (0)),(.int false .i64 (0)),(.int false .i64 (0)),(.int false .i64 (0)),(.int false .i64 (0)),(.int false .i64 (0)),(.int false .i64 (0)),(.int false .i64 (0)),(.str false ⟨#[]⟩),(.int false .i64 (0)),(.int false .i64 (0)),(.int false .i64 (0)),(.int false .i64 (0)),(.int false .i64 (0)),(.int false .i64 (0)),(.int false .i64 (0)),.nilslice])],(.int false .i64 (0))):=known table2_ok (by kernel_rfl) (by kernel_rfl) (by kernel_rfl)
end Go.Proofs.YtjcicegihechmaaGreatDoor
namespace Go.Proofs.YtjcicegihechmaaGreatDoor
open Go Go.Eng
set_option maxRecDepth 100000 in
def table3:List (FuncId×List AV×AV):=
 (17,[(.agg [(.int false .i64 (1)),(.int false .i64 (0)),(.int false .i64 (0)),(.int false .i64 (0)),(.int false .i64 (0)),(.int false .i64 (0)),(.int false .i64 (0)),(.int false .i64 (0)),(.int false .i64 (0)),(.int false .i64 (0)),(.int false .i64 (0)),(.int false .i64 (0)),(.int false .i64 (0)),(.str false ⟨#[]⟩),(.int false .i64 (5000000)),(.int false .i64 (1000000)),(.int false .i64 (0)),(.int false .i64 (0)),(.int false .i64 (0)),(.int false .i64 (0)),(.int false .i64 (0)),.nilslice])],(.int false .i64 (0))) ::
 (17,[(.agg [(.int false .i64 (1)),(.int false .i64 (0)),(.int false .i64 (0)),(.int false .i64 (0)),(.int false .i64 (0)),(.int false .i64 (0)),(.int false .i64 (0)),(.int false .i64 (0)),(.int false .i64 (0)),(.int false .i64 (0)),(.int false .i64 (0)),(.int false .i64 (0)),(.int false .i64 (2000000)),(.str false ⟨#[]⟩),(.int false .i64 (0)),(.int false .i64 (0)),(.int false .i64 (0)),(.int false .i64 (0)),(.int false .i64 (0)),(.int false .i64 (0)),(.int false .i64 (0)),.nilslice])],(.int false .i64 (0))) ::
 (17,[(.agg [(.int false .i64 (1)),(.int false .i64 (10000000)),(.int false .i64 (-1000000)),(.int false .i64 (0)),(.int false .i64 (0)),(.int false .i64 (0)),(.int false .i64 (0)),(.int false .i64 (0)),(.int false .i64 (0)),(.int false .i64 (0)),(.int false .i64 (0)),(.int false .i64 (0)),(.int false .i64 (0)),(.str false ⟨#[]⟩),(.int false .i64 (0)),(.int false .i64 (0)),(.int false .i64 (0)),(.int false .i64 (0)),(.int false .i64 (0)),(.int false .i64 (0)),(.int false .i64 (0)),.nilslice])],(.int false .i64 (0))) ::
 (17,[(.agg [(.int false .i64 (1)),(.int false .i64 (0)),(.int false .i64 (0)),(.int false .i64 (0)),(.int false .i64 (0)),(.int false .i64 (0)),(.int false .i64 (0)),(.int false .i64 (0)),(.int false .i64 (0)),(.int false .i64 (0)),(.int false .i64 (0)),(.int false .i64 (0)),(.int false .i64 (0)),(.str false ⟨#[]⟩),(.int false .i64 (0)),(.int false .i64 (0)),(.int false .i64 (0)),(.int false .i64 (0)),(.int false .i64 (0)),(.int false .i64 (0)),(.int false .i64 (0)),.nilslice])],(.int false .i64 (0))) ::
 table2
set_option maxRecDepth 100000 in
theorem table3_ok:∀ x∈table3,MemoOk Tryz.prog glob hG x:=
 more call38 (more call39 (more call40 (more call41 (table2_ok))))
end Go.Proofs.YtjcicegihechmaaGreatDoor
namespace Go.Proofs.YtjcicegihechmaaGreatDoor
open Go Go.Eng
theorem call42:MemoOk Tryz.prog glob hG (34,[(.agg [(.int false .i64 (1)),(.int false .i64 (0)),(.int false .i64 (0)),(.int false .i64 (0)),(.int false .i64 (0)),(.int false .i64 (0)),(.int false .i64 (0)),(.int false .i64 (0)),(.int false .i64 (0)),(.int false .i64 (0)),(.int false .i64 (0)),(.int false .i64 (0)),(.int false .i64 (2000000)),(.str false ⟨#[]⟩),(.int false .i64 (0)),(.int false .i64 (0)),(.int false .i64 (0)),(.int false .i64 (0)),(.int false .i64 (0)),(.int false .i64 (0)),(.int false .i64 (0)),.nilslice]),(.agg [(.int false .i64 (0)),(.int false .i64 (0))]),(.agg [(.int false .i64 (42949672960)),(.int false .i64 (42949672960))])],(.tuple [(.agg [(.int false .i64 (0)),(.int false .i64 (0))]),(.int false .i64 (0))])):=known table3_ok (by kernel_rfl) (by kernel_rfl) (by kernel_rfl)
theorem call43:MemoOk Tryz.prog glob hG (34,[(.agg [(.int false .i64 (1)),(.int false .i64 (10000000)),(.int false .i64 (-1000000)),(.int false .i64 (0)),(.int false .i64 (0)),(.int false .i64 (0)),(.int false .i64 (0)),(.int false .i64 (0)),(.int false .i64 (0)),(.int false .i64 (0)),(.int false .i64 (0)),(.int false .i64 (0)),(.int false .i64 (0)),(.str false ⟨#[]⟩),(.int false .i64 (0)),(.int false .i64 (0)),(.int false .i64 (0)),(.int false .i64 (0)),(.int false .i64 (0)),(.int false .i64 (0)),(.int false .i64 (0)),.nilslice]),(.agg [(.int false .i64 (0)),(.int false .i64 (0))]),(.agg [(.int false .i64 (42949672960)),(.int false .i64 (42949672960))])],(.tuple [(.agg [(.int false .i64 (2147483648)),(.int false .i64 (2147483648))]),(.int false .i64 (0))])):=known table3_ok (by kernel_rfl) (by kernel_rfl) (by kernel_rfl)
end Go.Proofs.YtjcicegihechmaaGreatDoor
namespace Go.Proofs.YtjcicegihechmaaGreatDoor
open Go Go.Eng
set_option maxRecDepth 100000 in
def table4:List (FuncId×List AV×AV):=
 (34,[(.agg [(.int false .i64 (1)),(.int false .i64 (0)),(.int false .i64 (0)),(.int false .i64 (0)),(.int false .i64 (0)),(.int false .i64 (0)),(.int false .i64 (0)),(.int false .i64 (0)),(.int false .i64 (0)),(.int false .i64 (0)),(.int false .i64 (0)),(.int false .i64 (0)),(.int false .i64 (2000000)),(.str false ⟨#[]⟩),(.int false .i64 (0)),(.int false .i64 (0)),(.int false .i64 (0)),(.int false .i64 (0)),(.int false .i64 (0)),(.int false .i64 (0)),(.int false .i64 (0)),.nilslice]),(.agg [(.int false .i64 (0)),(.int false .i64 (0))]),(.agg [(.int false .i64 (42949672960)),(.int false .i64 (42949672960))])],(.tuple [(.agg [(.int false .i64 (0)),(.int false .i64 (0))]),(.int false .i64 (0))])) ::
 (34,[(.agg [(.int false .i64 (1)),(.int false .i64 (10000000)),(.int false .i64 (-1000000)),(.int false .i64 (0)),(.int false .i64 (0)),(.int false .i64 (0)),(.int false .i64 (0)),(.int false .i64 (0)),(.int false .i64 (0)),(.int false .i64 (0)),(.int false .i64 (0)),(.int false .i64 (0)),(.int false .i64 (0)),(.str false ⟨#[]⟩),(.int false .i64 (0)),(.int false .i64 (0)),(.int false .i64 (0)),(.int false .i64 (0)),(.int false .i64 (0)),(.int false .i64 (0)),(.int false .i64 (0)),.nilslice]),(.agg [(.int false .i64 (0)),(.int false .i64 (0))]),(.agg [(.int false .i64 (42949672960)),(.int false .i64 (42949672960))])],(.tuple [(.agg [(.int false .i64 (2147483648)),(.int false .i64 (2147483648))]),(.int false .i64 (0))])) ::
 table3
set_option maxRecDepth 100000 in
theorem table4_ok:∀ x∈table4,MemoOk Tryz.prog glob hG x:=
 more call42 (more call43 (table3_ok))
end Go.Proofs.YtjcicegihechmaaGreatDoor
namespace Go.Proofs.YtjcicegihechmaaGreatDoor
open Go Go.Eng
theorem call44:MemoOk Tryz.prog glob hG (7,[(.agg [(.int false .i64 (1)),(.int false .i64 (0)),(.int false .i64 (0)),(.int false .i64 (0)),(.int false .i64 (0)),(.int false .i64 (0)),(.int false .i64 (0)),(.int false .i64 (0)),(.int false .i64 (0)),(.int false .i64 (0)),(.int false .i64 (0)),(.int false .i64 (0)),(.int false .i64 (0)),(.str false ⟨#[]⟩),(.int false .i64 (5000000)),(.int false .i64 (1000000)),(.int false .i64 (0)),(.int false .i64 (0)),(.int false .i64 (0)),(.int false .i64 (0)),(.int false .i64 (0)),.nilslice]),(.agg [(.int false .i64 (12884901888)),(.int false .i64 (12884901888))]),(.agg [(.int false .i64 (17179869184)),(.int false .i64 (17179869184))])],(.tuple [(.int false .i64 (1)),(.int false .i64 (0))])):=known table4_ok (by kernel_rfl) (by kernel_rfl) (by kernel_rfl)
theorem call45:MemoOk Tryz.prog glob hG (7,[(.agg [(.int false .i64 (1)),(.int false .i64 (0)),(.int false .i64 (0)),(.int false .i64 (0)),(.int false .i64 (0)),(.int false .i64 (0)),(.int false .i64 (0)),(.int false .i64 (0)),(.int false .i64 (0)),(.int false .i64 (0)),(.int false .i64 (0)),(.int false .i64 (0)),(.int false .i64 (0)),(.str false ⟨#[]⟩),(.int false .i64 (5000000)),(.int false .i64 (1000000)),(.int false .i64 (0)),(.int false .i64 (0)),(.int false .i64 (0)),(.int false .i64 (0)),(.int false .i64 (0)),.nilslice]),(.agg [(.int false .i64 (12884901888)),(.int false .i64 (12884901888))]),(.agg [(.int false .i64 (17179869184)),(.int false .i64 (21474836480))])],(.tuple [(.int false .i64 (2)),(.int false .i64 (0))])):=known table4_ok (by kernel_rfl) (by kernel_rfl) (by kernel_rfl)
theorem call46:MemoOk Tryz.prog glob hG (7,[(.agg [(.int false .i64 (1)),(.int false .i64 (0)),(.int false .i64 (0)),(.int false .i64 (0)),(.int false .i64 (0)),(.int false .i64 (0)),(.int false .i64 (0)),(.int false .i64 (0)),(.int false .i64 (0)),(.int false .i64 (0)),(.int false .i64 (0)),(.int false .i64 (0)),(.int false .i64 (0)),(.str false ⟨#[]⟩),(.int false .i64 (5000000)),(.int false .i64 (1000000)),(.int false .i64 (0)),(.int false .i64 (0)),(.int false .i64 (0)),(.int false .i64 (0)),(.int false .i64 (0)),.nilslice]),(.agg [(.int false .i64 (0)),(.int false .i64 (0))]),(.agg [(.int false .i64 (25769803776)),(.int false .i64 (25769803776))])],(.tuple [(.int false .i64 (0)),(.int false .i64 (0))])):=known table4_ok (by kernel_rfl) (by kernel_rfl) (by kernel_rfl)
theorem call47:MemoOk Tryz.prog glob hG (7,[(.agg [(.int false .i64 (1)),(.int false .i64 (0)),(.int false .i64 (0)),(.int false .i64 (0)),(.int false .i64 (0)),(.int false .i64 (0)),(.int false .i64 (0)),(.int false .i64 (0)),(.int false .i64 (0)),(.int false .i64 (0)),(.int false .i64 (0)),(.int false .i64 (0)),(.int false .i64 (0)),(.str false ⟨#[]⟩),(.int false .i64 (5000000)),(.int false .i64 (1000000)),(.int false .i64 (0)),(.int false .i64 (0)),(.int false .i64 (0)),(.int false .i64 (0)),(.int false .i64 (0)),.nilslice]),(.agg [(.int false .i64 (0)),(.int false .i64 (0))]),(.agg [(.int false .i64 (0)),(.int false .i64 (0))])],(.tuple [(.int false .i64 (0)),(.int false .i64 (0))])):=known table4_ok (by kernel_rfl) (by kernel_rfl) (by kernel_rfl)
theorem call48:MemoOk Tryz.prog glob hG (7,[(.agg [(.int false .i64 (1)),(.int false .i64 (0)),(.int false .i64 (0)),(.int false .i64 (0)),(.int false .i64 (0)),(.int false .i64 (0)),(.int false .i64 (0)),(.int false .i64 (0)),(.int false .i64 (0)),(.int false .i64 (0)),(.int false .i64 (0)),(.int false .i64 (0)),(.int false .i64 (0)),(.str false ⟨#[]⟩),(.int false .i64 (5000000)),(.int false .i64 (1000000)),(.int false .i64 (0)),(.int false .i64 (0)),(.int false .i64 (0)),(.int false .i64 (0)),(.int false .i64 (0)),.nilslice]),(.agg [(.int false .i64 (0)),(.int false .i64 (8589934592))]),(.agg [(.int false .i64 (0)),(.int false .i64 (0))])],(.tuple [(.int false .i64 (2)),(.int false .i64 (0))])):=known table4_ok (by kernel_rfl) (by kernel_rfl) (by kernel_rfl)
theorem call49:MemoOk Tryz.prog glob hG (7,[(.agg [(.int false .i64 (1)),(.int false .i64 (10000000)),(.int false .i64 (-1000000)),(.int false .i64 (0)),(.int false .i64 (0)),(.int false .i64 (0)),(.int false .i64 (0)),(.int false .i64 (0)),(.int false .i64 (0)),(.int false .i64 (0)),(.int false .i64 (0)),(.int false .i64 (0)),(.int false .i64 (0)),(.str false ⟨#[]⟩),(.int false .i64 (0)),(.int false .i64 (0)),(.int false .i64 (0)),(.int false .i64 (0)),(.int false .i64 (0)),(.int false .i64 (0)),(.int false .i64 (0)),.nilslice]),(.agg [(.int false .i64 (4294967296000)),(.int false .i64 (4294967296000))]),(.agg [(.int false .i64 (0)),(.int false .i64 (0))])],(.tuple [(.int false .i64 (1)),(.int false .i64 (0))])):=known table4_ok (by kernel_rfl) (by kernel_rfl) (by kernel_rfl)
end Go.Proofs.YtjcicegihechmaaGreatDoor
namespace Go.Proofs.YtjcicegihechmaaGreatDoor
open Go Go.Eng
set_option maxRecDepth 100000 in
def table5:List (FuncId×List AV×AV):=
 (7,[(.agg [(.int false .i64 (1)),(.int false .i64 (0)),(.int false .i64 (0)),(.int false .i64 (0)),(.int false .i64 (0)),(.int false .i64 (0)),(.int false .i64 (0)),(.int false .i64 (0)),(.int false .i64 (0)),(.int false .i64 (0)),(.int false .i64 (0)),(.int false .i64 (0)),(.int false .i64 (0)),(.str false ⟨#[]⟩),(.int false .i64 (5000000)),(.int false .i64 (1000000)),(.int false .i64 (0)),(.int false .i64 (0)),(.int false .i64 (0)),(.int false .i64 (0)),(.int false .i64 (0)),.nilslice]),(.agg [(.int false .i64 (12884901888)),(.int false .i64 (12884901888))]),(.agg [(.int false .i64 (17179869184)),(.int false .i64 (17179869184))])],(.tuple [(.int false .i64 (1)),(.int false .i64 (0))])) ::
 (7,[(.agg [(.int false .i64 (1)),(.int false .i64 (0)),(.int false .i64 (0)),(.int false .i64 (0)),(.int false .i64 (0)),(.int false .i64 (0)),(.int false .i64 (0)),(.int false .i64 (0)),(.int false .i64 (0)),(.int false .i64 (0)),(.int false .i64 (0)),(.int false .i64 (0)),(.int false .i64 (0)),(.str false ⟨#[]⟩),(.int false .i64 (5000000)),(.int false .i64 (1000000)),(.int false .i64 (0)),(.int false .i64 (0)),(.int false .i64 (0)),(.int false .i64 (0)),(.int false .i64 (0)),.nilslice]),(.agg [(.int false .i64 (12884901888)),(.int false .i64 (12884901888))]),(.agg [(.int false .i64 (17179869184)),(.int false .i64 (21474836480))])],(.tuple [(.int false .i64 (2)),(.int false .i64 (0))])) ::
 (7,[(.agg [(.int false .i64 (1)),(.int false .i64 (0)),(.int false .i64 (0)),(.int false .i64 (0)),(.int false .i64 (0)),(.int false .i64 (0)),(.int false .i64 (0)),(.int false .i64 (0)),(.int false .i64 (0)),(.int false .i64 (0)),(.int false .i64 (0)),(.int false .i64 (0)),(.int false .i64 (0)),(.str false ⟨#[]⟩),(.int false .i64 (5000000)),(.int false .i64 (1000000)),(.int false .i64 (0)),(.int false .i64 (0)),(.int false .i64 (0)),(.int false .i64 (0)),(.int false .i64 (0)),.nilslice]),(.agg [(.int false .i64 (0)),(.int false .i64 (0))]),(.agg [(.int false .i64 (25769803776)),(.int false .i64 (25769803776))])],(.tuple [(.int false .i64 (0)),(.int false .i64 (0))])) ::
 (7,[(.agg [(.int false .i64 (1)),(.int false .i64 (0)),(.int false .i64 (0)),(.int false .i64 (0)),(.int false .i64 (0)),(.int false .i64 (0)),(.int false .i64 (0)),(.int false .i64 (0)),(.int false .i64 (0)),(.int false .i64 (0)),(.int false .i64 (0)),(.int false .i64 (0)),(.int false .i64 (0)),(.str false ⟨#[]⟩),(.int false .i64 (5000000)),(.int false .i64 (1000000)),(.int false .i64 (0)),(.int false .i64 (0)),(.int false .i64 (0)),(.int false .i64 (0)),(.int false .i64 (0)),.nilslice]),(.agg [(.int false .i64 (0)),(.int false .i64 (0))]),(.agg [(.int false .i64 (0)),(.int false .i64 (0))])],(.tuple [(.int false .i64 (0)),(.int false .i64 (0))])) ::
 (7,[(.agg [(.int false .i64 (1)),(.int false .i64 (0)),(.int false .i64 (0)),(.int false .i64 (0)),(.int false .i64 (0)),(.int false .i64 (0)),(.int false .i64 (0)),(.int false .i64 (0)),(.int false .i64 (0)),(.int false .i64 (0)),(.int false .i64 (0)),(.int false .i64 (0)),(.int false .i64 (0)),(.str false ⟨#[]⟩),(.int false .i64 (5000000)),(.int false .i64 (1000000)),(.int false .i64 (0)),(.int false .i64 (0)),(.int false .i64 (0)),(.int false .i64 (0)),(.int false .i64 (0)),.nilslice]),(.agg [(.int false .i64 (0)),(.int false .i64 (8589934592))]),(.agg [(.int false .i64 (0)),(.int false .i64 (0))])],(.tuple [(.int false .i64 (2)),(.int false .i64 (0))])) ::
 (7,[(.agg [(.int false .i64 (1)),(.int false .i64 (10000000)),(.int false .i64 (-1000000)),(.int false .i64 (0)),(.int false .i64 (0)),(.int false .i64 (0)),(.int false .i64 (0)),(.int false .i64 (0)),(.int false .i64 (0)),(.int false .i64 (0)),(.int false .i64 (0)),(.int false .i64 (0)),(.int false .i64 (0)),(.str false ⟨#[]⟩),(.int false .i64 (0)),(.int false .i64 (0)),(.int false .i64 (0)),(.int false .i64 (0)),(.int false .i64 (0)),(.int false .i64 (0)),(.int false .i64 (0)),.nilslice]),(.agg [(.int false .i64 (4294967296000)),(.int false .i64 (4294967296000))]),(.agg [(.int false .i64 (0)),(.int false .i64 (0))])],(.tuple [(.int false .i64 (1)),(.int false .i64 (0))])) ::
 table4
set_option maxRecDepth 100000 in
theorem table5_ok:∀ x∈table5,MemoOk Tryz.prog glob hG x:=
 more call44 (more call45 (more call46 (more call47 (more call48 (more call49 (table4_ok))))))
end Go.Proofs.YtjcicegihechmaaGreatDoor
namespace Go.Proofs.YtjcicegihechmaaGreatDoor
open Go Go.Eng
theorem call50:MemoOk Tryz.prog glob hG (4,[],(.bool false true)):=known table5_ok (by kernel_rfl) (by kernel_rfl) (by kernel_rfl)
end Go.Proofs.YtjcicegihechmaaGreatDoor
namespace Go.Proofs.YtjcicegihechmaaGreatDoor.K
open Go Go.Eng Go.Ar Go.Rd
noncomputable section
def insF (F:Su->List Int->Int->Int->Int->Int->Nat->Int) (s:Su) (ys:List Int) (a b x y:Int):AV:=.tuple [.int true .i64 (F s ys a b x y 0),.int true .i64 (F s ys a b x y 1)]
def insR (s:Su) (ys:List Int) (a b x y:Int):Nat->Int
 | 0=>insN s ys a b x y
 | _=>insE s ys a b x y
def tAI (F:Su->List Int->Int->Int->Int->Int->Nat->Int):List (FuncId×NSpec):=[(4,hN (gH (memoSpec [] (.bool false true)))),(5,lSpec hG [.s drI .u8] draftV),(7,lSpec hG [.s suI .i64,.n sS,.n sS] (suV2 (insF F))),(8,lSpec hG [.s suI .i64,.n sS,.n sS] (suV2 (insF F)))]
theorem tAI_g:∀ x∈tAI insR,NOk Tryz.prog glob hG x.1 x.2:=by
 intro x hx
 simp only [tAI,List.mem_cons,List.not_mem_nil,or_false] at hx
 rcases hx with rfl|rfl|rfl|rfl
 .exact call50.g.h.n
 .exact draft_ok
 .exact insA_ok
 .exact rinsA_ok
def cAI (F:Su->List Int->Int->Int->Int->Int->Nat->Int):Ctx:=hinting (mkN Tryz.prog glob hG (tAI F) [] ext) (hR [(82,false)])
theorem cAI_ok:CtxOk (cAI insR):=hinting_ok (mkN_ok prog_ok ext_ok tAI_g fun _ h=>by cases h) _
def hL (zs:List Int):Hp:=hG.push0 (.rows .u8 zs)
def runL (C:Ctx) (f:FuncId) (d:Df) (n:Int) (zs:List Int) (rest:List AV):Option (Nd×AV):=
 oneG (hL zs).size (hL zs).clock ((run C 1000).call f (.agg (d.cells++[.lslice hG.size n]) :: rest) (hL zs))
structure Pai where
 se:Int
 ho:Int
 a0:Int
 a1:Int
 b0:Int
 b1:Int
 p0:Int
 p1:Int
 p2:Int
 p3:Int
def Pai.rest (q:Pai):List AV:=[.int true .i64 q.se,.int true .i64 q.ho,.agg [.int true .i64 q.a0,.int true .i64 q.a1],.agg [.int true .i64 q.b0,.int true .i64 q.b1],.agg [.int true .i16 q.p0,.int true .i16 q.p1,.int true .i16 q.p2,.int true .i16 q.p3]]
end
end Go.Proofs.YtjcicegihechmaaGreatDoor.K
namespace Go.Proofs.YtjcicegihechmaaGreatDoor.K
open Go Go.Eng Go.Ar Go.Rd
noncomputable section
section
variable (F:Su->List Int->Int->Int->Int->Int->Nat->Int) (d:Df) (n:Int) (zs:List Int) (q:Pai) (s:Su)
def W6 (n:Int):Int:=IntKind.i64.wrap n
def loP (p r:Int):Int:=W6 ((if W6 p<W6 r then W6 p else W6 r)*16777216)
def hiP (p r:Int):Int:=W6 ((if W6 p>W6 r then W6 p else W6 r)*16777216)
def lSz:Prop:=okF3 (dnf d zs:Int) (dys d zs)/\s.g.size<1000000000
def eqN (a b x y:Int):Prop:=lSz d zs s/\lSz d zs s/\((F s (dys d zs) a b x y 0 != F s (dys d zs) a b x y 0)=true->true=false)/\((F s (dys d zs) a b x y 0 != F s (dys d zs) a b x y 0)=false->(F s (dys d zs) a b x y 1 != F s (dys d zs) a b x y 1)=false)
def Pai.re:Prop:=(q.p3=q.p3/\q.p1=q.p1/\q.p2=q.p2/\q.p0=q.p0/\q.p1=q.p1/\q.p1=q.p1/\(q.b0=q.b0/\q.b1=q.b1)/\q.a0=q.a0/\q.a1=q.a1)/\(q.p3=q.p3/\q.p1=q.p1/\q.p2=q.p2/\q.p0=q.p0/\(q.b0=q.b0/\q.b1=q.b1)/\q.a0=q.a0/\q.a1=q.a1)/\(q.p3=q.p3/\q.p1=q.p1/\(q.b0=q.b0/\q.b1=q.b1)/\q.a0=q.a0/\q.a1=q.a1)/\(q.b0=q.b0/\q.b1=q.b1)/\q.a0=q.a0/\q.a1=q.a1
def blkN:Prop:=q.re/\eqN F d zs s q.a0 q.a1 q.b0 q.b1/\eqN F d zs s (loP q.p0 q.p0) (hiP q.p0 q.p0) (loP q.p1 q.p1) (hiP q.p1 q.p1)/\eqN F d zs s (loP q.p2 q.p0) (hiP q.p2 q.p0) (loP q.p3 q.p1) (hiP q.p3 q.p1)
def suEq (m:Prop):Prop:=s.kd=s.kd/\s.c=s.c/\s.k=s.k/\s.l=s.l/\s.m=s.m/\s.a0=s.a0/\s.a1=s.a1/\s.a2=s.a2/\s.a3=s.a3/\s.f0=s.f0/\s.f1=s.f1/\s.o=s.o/\s.th=s.th/\s.g=s.g/\s.se=s.se/\s.ho=s.ho/\s.dx=s.dx/\s.dy=s.dy/\s.ax=s.ax/\s.ay=s.ay/\s.az=s.az/\m
def aiN:Prop:=(n=zs.length/\0<=d.gl/\d.gl<=255)/\suEq (dsu d) ((dnf d zs:Int)=(dnf d zs:Int))/\blkN F d zs q (dsu d)/\blkN F d zs q { dsu d with se:=q.se,ho:=q.ho }/\blkN F d zs q { dsu d with se:=W6 ((if (0:Int)>(dsu d).ho then (0:Int) else (dsu d).ho)+W6 ((IntKind.u64.wrap q.se).tmod 20000000)) }
theorem ai_run:runL (cAI F) 3 d n zs q.rest=some (.p (aiN F d n zs q),.bool false true):=by kernel_rfl
theorem eqN_ok (h:lSz d zs s) (a b x y:Int):eqN F d zs s a b x y:=⟨h,h,fun e=>(by rw [bne_self_eq_false] at e; cases e),fun _=>bne_self_eq_false _⟩
theorem blkN_ok (h:lSz d zs s):blkN F d zs q s:=⟨by unfold Pai.re; simp only [and_self],eqN_ok F d zs s h ..,eqN_ok F d zs s h ..,eqN_ok F d zs s h ..⟩
theorem aiN_ok (h:n=zs.length/\0<=d.gl/\d.gl<=255):aiN F d n zs q:=by
 have hy:=dys_ok d zs
 have h1:okF3 (dnf d zs:Int) (dys d zs):=⟨by omega,by omega,by rw [Int.toNat_natCast]; exact hy.1⟩
 have g1:=dsu_g d
 have g2:(dsu d).g.size<1000000000:=by omega
 exact ⟨h,by unfold suEq; simp only [and_self],blkN_ok F d zs q _ ⟨h1,g2⟩,blkN_ok F d zs q _ ⟨h1,g2⟩,blkN_ok F d zs q _ ⟨h1,g2⟩⟩
end
def dai:List Sh:=[.i .i64,.i .i64,sS,sS,.a [.i .i16,.i .i16,.i .i16,.i .i16]]
theorem ai_true:∀ xs ys,xs.map Nu.isN=Sh.kindsL drI->inRange (Sh.leavesL drI) xs->ys.map Nu.isN=Sh.kindsL dai->inRange (Sh.leavesL dai) ys->∀ (n:Int) (zs:List Int),n=zs.length->(∀ z∈zs,0<=z/\z<=255)->LawTrueH Tryz.prog glob (hG.push0 (.rows .u8 zs)) 3 (.agg ((Sh.mkL drI xs).1++[.lslice hG.size n]) :: (Sh.mkL dai ys).1):=by
 intro xs ys hx rx hy ry n zs hn _
 obtain ⟨z0,_,rfl,h0⟩:=kn hx
 obtain ⟨z1,_,rfl,h1⟩:=kn h0
 obtain ⟨z2,_,rfl,h2⟩:=kn h1
 obtain ⟨z3,_,rfl,h3⟩:=kn h2
 obtain ⟨z4,_,rfl,h4⟩:=kn h3
 obtain ⟨z5,_,rfl,h5⟩:=kn h4
 obtain ⟨z6,_,rfl,h6⟩:=kn h5
 obtain ⟨z7,_,rfl,h7⟩:=kn h6
 obtain ⟨z8,_,rfl,h8⟩:=kn h7
 obtain ⟨z9,_,rfl,h9⟩:=kn h8
 obtain ⟨z10,_,rfl,h10⟩:=kn h9
 obtain ⟨z11,_,rfl,h11⟩:=kn h10
 obtain ⟨z12,_,rfl,h12⟩:=kn h11
 obtain ⟨z13,_,rfl,h13⟩:=kn h12
 obtain ⟨z14,_,rfl,h14⟩:=kn h13
 obtain ⟨z15,_,rfl,h15⟩:=kn h14
 obtain ⟨z16,_,rfl,h16⟩:=kn h15
 obtain ⟨z17,_,rfl,h17⟩:=kn h16
 obtain ⟨z18,_,rfl,h18⟩:=kn h17
 obtain ⟨z19,_,rfl,h19⟩:=kn h18
 obtain ⟨z20,_,rfl,h20⟩:=kn h19
 obtain rfl:=k0 h20
 obtain ⟨y0,_,rfl,j0⟩:=kn hy
 obtain ⟨y1,_,rfl,j1⟩:=kn j0
 obtain ⟨y2,_,rfl,j2⟩:=kn j1
 obtain ⟨y3,_,rfl,j3⟩:=kn j2
 obtain ⟨y4,_,rfl,j4⟩:=kn j3
 obtain ⟨y5,_,rfl,j5⟩:=kn j4
 obtain ⟨y6,_,rfl,j6⟩:=kn j5
 obtain ⟨y7,_,rfl,j7⟩:=kn j6
 obtain ⟨y8,_,rfl,j8⟩:=kn j7
 obtain ⟨y9,_,rfl,j9⟩:=kn j8
 obtain rfl:=k0 j9
 obtain ⟨-,-,-,-,-,-,-,-,-,-,-,-,-,g13,-⟩:=rx
 exact ⟨cAI insR,1000,_,_,_,cAI_ok,rfl,rfl,ai_run insR ⟨z0,z1,z2,z3,z4,z5,z6,z7,z8,z9,z10,z11,z12,z13,z14,z15,z16,z17,z18,z19,z20⟩ n zs ⟨y0,y1,y2,y3,y4,y5,y6,y7,y8,y9⟩,aiN_ok insR _ n zs _ ⟨hn,g13.1,g13.2⟩,rfl⟩
end
end Go.Proofs.YtjcicegihechmaaGreatDoor.K
namespace Go.Eng
open Go
theorem agg_of_cells {v:Value} (h:1<v.cells.toList.length):v=.agg v.cells.toList.toArray:=by
 cases v <;> simp_all [Value.cells]
theorem draft_films {H:Type} {enc:TypeId×Value->H} {P:Program} {W:World} {base:Nat} {spare:Nat->Bool} {held:Bool} {t e i:Nat} {fs:Array Field} {f:Field} (ht:P.underlying t=some (.struct fs)) (hf:fs[i]?=some f) (hs:P.underlying f.type=some (.slice e)) (he:P.underlying e=some (.int .u8)) (off:f.offset+1=P.cellsOf t) (many:0<f.offset) (ce:P.cellsOf e=1) (cf:P.cellsOf f.type=1)
  {ts:List TypeId} {v:Value} {vs:List Value} {ds:List (DataW H)} {p:List MemPlace} (hA:DataW.TrodAll enc P W base spare held (t :: ts) (v :: vs) ds p):∃ cs last,v=.agg (cs++[last]).toArray/\∃ n zs,Bytes W last n zs:=by
 cases ds with
 | nil=>simp [DataW.TrodAll] at hA
 | cons d ds=>
  obtain ⟨_,_,⟨fuel,h⟩,_,_⟩:=hA
  obtain ⟨xs,n,_,_,hl,hxl,hff⟩:=DataW.trod_struct ht h
  have h1:=hff i f hf
  have hi:i<fs.size:=(Array.getElem?_eq_some_iff.1 hf).1
  rw [List.getElem?_eq_getElem (by omega),cf] at h1
  have hlen:((v.cells.toList.drop f.offset).take 1).length=1:=by simp only [List.length_take,List.length_drop]; omega
  obtain ⟨last,hlast⟩:∃ last,(v.cells.toList.drop f.offset).take 1=[last]:=by
   match hq:(v.cells.toList.drop f.offset).take 1,hlen with
   | [a],_=>exact ⟨a,rfl⟩
  rw [hlast] at h1
  refine ⟨v.cells.toList.take f.offset,last,?_,bytes_of hs he ce h1⟩
  have h2:v.cells.toList.take f.offset++[last]=v.cells.toList:=by
   rw [<- hlast,List.take_of_length_le (l:=v.cells.toList.drop f.offset) (by simp only [List.length_drop]; omega),List.take_append_drop]
  rw [h2]
  exact agg_of_cells (by omega)
end Go.Eng
